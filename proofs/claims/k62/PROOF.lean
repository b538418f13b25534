import PyProof.Rows.All
import Wide.All
import OpenK.AllK
import Wide.FinOn
import HandS.ForMost
import HandS.WordsExc
import HandS.Defaults
import HandS.Deep
import HandS.IsInst
import HandS.TupAny
import KE.SortData
import KE.DataMinMax
import HandS.TupSets
import HandS.DictComp
import HandS.GenYield
import HandS.GenList
import HandS.Exc
import HandS.ExcOwn
import HandS.ExcSuper
import KE.KSuper
import KE.KExcSuper
import HandS.MakeKw
import HandS.ExcIs
import KE.KExcIs
import KE.GoesEnum
import HandS.Conv
import HandS.Head0
import HandS.Head1
import HandS.Head2
import HandS.HeadEnd
import HandS.HeadHook1
import HandS.HeadHook2
import KE.KStateDown
import PySem.Challenge.RW_keptbase_k62_rings_or_first_order
set_option Elab.async false
set_option linter.all false
set_option maxRecDepth 100000
set_option maxHeartbeats 1000000
/-! Kb0: data D over the abstract heap, environments with owned objects, and HandS's readings lifted to them. -/
namespace Kb
open PySem L2
set_option autoImplicit false

abbrev Frag := PySem.W.Frag
abbrev Ex := L2.Same
theorem Ex.new {H : Hp} {p : Addr} {o : HO} (h : H p = none) : Ex H (upd H p o) := fun a u e => by
  rw [upd_ne (ne_of_none e h)]; exact e

/-- plain data -/
inductive D where
  | non | bl (b : Bool) | int (i : Int) | str (x : Str)
  | lst (xs : List D) | tup (xs : List D)
  | dic (es : List (Key × D)) | dit (es : List (List Key × D))
  | obj (C : Addr) (fs : List (Str × D))
  /-- a caught error at a, of the class C: its own dict at d -/
  | err (a C : Addr) (d : Option Addr) (fs : List (Str × D))
  /-- the script -/
  | scr (ns : List Int)
  | raw (v : V)

mutual
inductive Rep (K : Frag) (H : Hp) : V → D → Prop
  | non : Rep K H .non .non
  | bl (b : Bool) : Rep K H (.bl b) (.bl b)
  | int (i : Int) : Rep K H (.int i) (.int i)
  | str (x : Str) : Rep K H (.str x) (.str x)
  | lst {a : Addr} {vs : List V} {ds : List D} : H a = some (.lst vs) → Reps K H vs ds → Rep K H (.ref a) (.lst ds)
  | tup {a : Addr} {vs : List V} {ds : List D} : SqT K H a vs → Reps K H vs ds → Rep K H (.ref a) (.tup ds)
  | dic {a : Addr} {kvs : List (Key × V)} {es : List (Key × D)} : H a = some (.dK kvs) → kvs.map (·.1) = es.map (·.1) → Reps K H (kvs.map (·.2)) (es.map (·.2)) → Rep K H (.ref a) (.dic es)
  | dit {a : Addr} {kvs : List (List Key × V)} {es : List (List Key × D)} : H a = some (.dT kvs) → kvs.map (·.1) = es.map (·.1) → Reps K H (kvs.map (·.2)) (es.map (·.2)) → Rep K H (.ref a) (.dit es)
  | obj {a C dx : Addr} {fvs : List (Str × V)} {fs : List (Str × D)} : H a = some (.ins C dx fvs) → fvs.map (·.1) = fs.map (·.1) → Reps K H (fvs.map (·.2)) (fs.map (·.2)) → Rep K H (.ref a) (.obj C fs)
  | err {a C d : Addr} {fvs : List (Str × V)} {fs : List (Str × D)} : H d = some (.xd fvs) → fvs.map (·.1) = fs.map (·.1) → Reps K H (fvs.map (·.2)) (fs.map (·.2)) → Rep K H (.ref a) (.err a C (some d) fs)
  | err0 {a C : Addr} : Rep K H (.ref a) (.err a C none [])
  | scr {a : Addr} {ns : List Int} : SqL K H a (ns.map V.int) → Rep K H (.ref a) (.scr ns)
  | raw (v : V) : Rep K H v (.raw v)
inductive Reps (K : Frag) (H : Hp) : List V → List D → Prop
  | nil : Reps K H [] []
  | cons {v : V} {vs : List V} {d : D} {ds : List D} : Rep K H v d → Reps K H vs ds → Reps K H (v :: vs) (d :: ds)
end

theorem Ex.rd {H H' : Hp} {a : Addr} {u : HO} (e : Ex H H') (h : Rd H a u) : Rd H' a u := by
  rcases h with h | ⟨o, h⟩
  · exact Or.inl (e a _ h)
  · exact Or.inr ⟨o, e a _ h⟩
theorem Ex.sl {K : Frag} {H H' : Hp} {a : Addr} {xs : List V} (e : Ex H H') (h : SqL K H a xs) : SqL K H' a xs := by
  rcases h with h | h
  · exact Or.inl (e.rd h)
  · exact Or.inr h
theorem Ex.st {K : Frag} {H H' : Hp} {a : Addr} {xs : List V} (e : Ex H H') (h : SqT K H a xs) : SqT K H' a xs := by
  rcases h with h | h
  · exact Or.inl (e.rd h)
  · exact Or.inr h

mutual
theorem Rep.mono {K : Frag} {H H' : Hp} (e : Ex H H') : ∀ {v : V} {d : D}, Rep K H v d → Rep K H' v d
  | _, _, .non => .non
  | _, _, .bl b => .bl b
  | _, _, .int i => .int i
  | _, _, .str x => .str x
  | _, _, .lst h r => .lst (e _ _ h) (r.mono e)
  | _, _, .scr h => .scr (e.sl h)
  | _, _, .tup h r => .tup (e.st h) (r.mono e)
  | _, _, .dic h k r => .dic (e _ _ h) k (r.mono e)
  | _, _, .dit h k r => .dit (e _ _ h) k (r.mono e)
  | _, _, .obj h k r => .obj (e _ _ h) k (r.mono e)
  | _, _, .err h k r => .err (e _ _ h) k (r.mono e)
  | _, _, .err0 => .err0
  | _, _, .raw v => .raw v
theorem Reps.mono {K : Frag} {H H' : Hp} (e : Ex H H') : ∀ {vs : List V} {ds : List D}, Reps K H vs ds → Reps K H' vs ds
  | _, _, .nil => .nil
  | _, _, .cons h r => .cons (h.mono e) (r.mono e)
end

section
variable {K : Frag} {H H' : Hp}
theorem Reps.length : ∀ {vs : List V} {ds : List D}, Reps K H vs ds → vs.length = ds.length
  | _, _, .nil => rfl
  | _, _, .cons _ r => by simp [r.length]
theorem Reps.get : ∀ {vs : List V} {ds : List D} {i : Nat} {v : V}, Reps K H vs ds → vs[i]? = some v → ∃ d, ds[i]? = some d ∧ Rep K H v d
  | _, _, _, _, .nil, e => by simp at e
  | _, _, 0, _, .cons r _, e => by simp at e; subst e; exact ⟨_, rfl, r⟩
  | _, _, i + 1, v, .cons _ t, e => by
    obtain ⟨u, h1, h2⟩ := Reps.get (i := i) (v := v) t (by simpa using e)
    exact ⟨u, by simpa using h1, h2⟩
theorem Reps.get' : ∀ {vs : List V} {ds : List D} {i : Nat} {d : D}, Reps K H vs ds → ds[i]? = some d → ∃ v, vs[i]? = some v ∧ Rep K H v d
  | _, _, _, _, .nil, e => by simp at e
  | _, _, 0, _, .cons r _, e => by simp at e; subst e; exact ⟨_, rfl, r⟩
  | _, _, i + 1, v, .cons _ t, e => by
    obtain ⟨u, h1, h2⟩ := Reps.get' (i := i) (d := v) t (by simpa using e)
    exact ⟨u, by simpa using h1, h2⟩
theorem Reps.append : ∀ {vs ws : List V} {ds es : List D}, Reps K H vs ds → Reps K H ws es → Reps K H (vs ++ ws) (ds ++ es)
  | _, _, _, _, .nil, s => s
  | _, _, _, _, .cons r t, s => .cons r (t.append s)
theorem Reps.take : ∀ {vs : List V} {ds : List D} (n : Nat), Reps K H vs ds → Reps K H (vs.take n) (ds.take n)
  | _, _, 0, _ => .nil
  | _, _, _ + 1, .nil => .nil
  | _, _, n + 1, .cons r t => .cons r (t.take n)
theorem Reps.drop : ∀ {vs : List V} {ds : List D} (n : Nat), Reps K H vs ds → Reps K H (vs.drop n) (ds.drop n)
  | _, _, 0, r => r
  | _, _, _ + 1, .nil => .nil
  | _, _, n + 1, .cons _ t => t.drop n
theorem Reps.set {v : V} {d : D} (r : Rep K H v d) : ∀ {vs : List V} {ds : List D} (i : Nat), Reps K H vs ds → Reps K H (vs.set i v) (ds.set i d)
  | _, _, _, .nil => .nil
  | _, _, 0, .cons _ t => .cons r t
  | _, _, i + 1, .cons q t => .cons q (t.set r i)
theorem Reps.one {v : V} {d : D} (r : Rep K H v d) : Reps K H [v] [d] := .cons r .nil
end

/-! ### hidden addresses -/
def hid (ms : List Addr) (H : Hp) : Hp := fun a => if a ∈ ms then none else H a
theorem hid_in {ms : List Addr} {H : Hp} {a : Addr} (h : a ∈ ms) : hid ms H a = none := by simp [hid, h]
theorem hid_ni {ms : List Addr} {H : Hp} {a : Addr} (h : a ∉ ms) : hid ms H a = H a := by simp [hid, h]
theorem hid_ex {ms : List Addr} {H : Hp} : Ex (hid ms H) H := fun a o e => by
  by_cases h : a ∈ ms
  · rw [hid_in h] at e; cases e
  · rw [hid_ni h] at e; exact e
theorem hid_sub {ms ns : List Addr} {H : Hp} (h : ∀ a ∈ ns, a ∈ ms) : Ex (hid ms H) (hid ns H) := fun a o e => by
  by_cases h1 : a ∈ ms
  · rw [hid_in h1] at e; cases e
  · rw [hid_ni h1] at e; rw [hid_ni (fun q => h1 (h a q))]; exact e
theorem hid_mono {ms : List Addr} {H H' : Hp} (e : ∀ a o, a ∉ ms → H a = some o → H' a = some o) : Ex (hid ms H) (hid ms H') := fun a o q => by
  by_cases h : a ∈ ms
  · rw [hid_in h] at q; cases q
  · rw [hid_ni h] at q; rw [hid_ni h]; exact e a o h q
theorem hid_ex2 {ms : List Addr} {H H' : Hp} (e : Ex H H') : Ex (hid ms H) (hid ms H') := hid_mono fun a o _ q => e a o q
theorem hid_upd {ms : List Addr} {H : Hp} {a : Addr} {o : HO} (h : a ∈ ms) : hid ms (upd H a o) = hid ms H := by
  funext b
  by_cases hb : b ∈ ms
  · rw [hid_in hb, hid_in hb]
  · rw [hid_ni hb, hid_ni hb, upd_ne (fun q => hb (by rw [q]; exact h))]

/-! ### slots -/
inductive Slot where
  | im (d : D)
  /-- borrowed: may be read here, is kept -/
  | bo (d : D)
  /-- of one's own: a list (pl: the caller's), dicts, an instance (the caller's) -/
  | ml (l : Addr) (ds : List D) | pl (l : Addr) (ds : List D) | md (l : Addr) (es : List (Key × D)) | mt (l : Addr) (es : List (List Key × D)) | mi (l C : Addr) (fs : List (Str × D))
abbrev Env := List (Option Slot)
def Slot.ad : Slot → Option Addr
  | .im _ => none
  | .bo _ => none
  | .ml l _ => some l
  | .pl l _ => some l
  | .md l _ => some l
  | .mt l _ => some l
  | .mi l _ _ => some l
/-- the caller's -/
def Slot.par : Slot → Bool
  | .pl _ _ => true
  | .mi _ _ _ => true
  | _ => false
def Slot.dat : Slot → D
  | .im d => d
  | .bo d => d
  | .ml _ ds => .lst ds
  | .pl _ ds => .lst ds
  | .md _ es => .dic es
  | .mt _ es => .dit es
  | .mi _ C fs => .obj C fs
def adr (Γ : Env) : List Addr := Γ.filterMap fun o => o.bind Slot.ad

/-- readable: the thing itself in H, what it holds in B -/
inductive RepW (K : Frag) (B H : Hp) : V → D → Prop
  | im {v : V} {d : D} : Rep K B v d → RepW K B H v d
  | lst {a : Addr} {vs : List V} {ds : List D} : H a = some (.lst vs) → Reps K B vs ds → RepW K B H (.ref a) (.lst ds)
  | dic {a : Addr} {kvs : List (Key × V)} {es : List (Key × D)} : H a = some (.dK kvs) → kvs.map (·.1) = es.map (·.1) → Reps K B (kvs.map (·.2)) (es.map (·.2)) → RepW K B H (.ref a) (.dic es)
  | dit {a : Addr} {kvs : List (List Key × V)} {es : List (List Key × D)} : H a = some (.dT kvs) → kvs.map (·.1) = es.map (·.1) → Reps K B (kvs.map (·.2)) (es.map (·.2)) → RepW K B H (.ref a) (.dit es)
  | obj {a C dx : Addr} {fvs : List (Str × V)} {fs : List (Str × D)} : H a = some (.ins C dx fvs) → fvs.map (·.1) = fs.map (·.1) → Reps K B (fvs.map (·.2)) (fs.map (·.2)) → RepW K B H (.ref a) (.obj C fs)
theorem RepW.mono {K : Frag} {B H B' H' : Hp} (e : Ex B B') (f : Ex H H') {v : V} {d : D} (h : RepW K B H v d) : RepW K B' H' v d := by
  cases h with
  | im h => exact .im (h.mono e)
  | lst h r => exact .lst (f _ _ h) (r.mono e)
  | dic h k r => exact .dic (f _ _ h) k (r.mono e)
  | dit h k r => exact .dit (f _ _ h) k (r.mono e)
  | obj h k r => exact .obj (f _ _ h) k (r.mono e)
/-- in the whole heap -/
theorem RepW.rep {K : Frag} {B H : Hp} (e : Ex B H) {v : V} {d : D} (h : RepW K B H v d) : Rep K H v d := by
  cases h with
  | im h => exact h.mono e
  | lst h r => exact .lst h (r.mono e)
  | dic h k r => exact .dic h k (r.mono e)
  | dit h k r => exact .dit h k (r.mono e)
  | obj h k r => exact .obj h k (r.mono e)
theorem RepW.list {K : Frag} {B H : Hp} (e : Ex B H) {v : V} {ds : List D} (h : RepW K B H v (.lst ds)) : ∃ a vs, v = .ref a ∧ H a = some (.lst vs) ∧ Reps K B vs ds := by
  cases h with
  | im h => cases h with
    | lst h r => exact ⟨_, _, rfl, e _ _ h, r⟩
  | lst h r => exact ⟨_, _, rfl, h, r⟩
theorem RepW.tuple {K : Frag} {B H : Hp} (e : Ex B H) {v : V} {ds : List D} (h : RepW K B H v (.tup ds)) : ∃ a vs, v = .ref a ∧ SqT K H a vs ∧ Reps K B vs ds := by
  cases h with
  | im h => cases h with
    | tup h r => exact ⟨_, _, rfl, e.st h, r⟩
theorem RepW.dict {K : Frag} {B H : Hp} (e : Ex B H) {v : V} {es : List (Key × D)} (h : RepW K B H v (.dic es)) : ∃ a kvs, v = .ref a ∧ H a = some (.dK kvs) ∧ kvs.map (·.1) = es.map (·.1) ∧ Reps K B (kvs.map (·.2)) (es.map (·.2)) := by
  cases h with
  | im h => cases h with
    | dic h k r => exact ⟨_, _, rfl, e _ _ h, k, r⟩
  | dic h k r => exact ⟨_, _, rfl, h, k, r⟩
theorem RepW.dictT {K : Frag} {B H : Hp} (e : Ex B H) {v : V} {es : List (List Key × D)} (h : RepW K B H v (.dit es)) : ∃ a kvs, v = .ref a ∧ H a = some (.dT kvs) ∧ kvs.map (·.1) = es.map (·.1) ∧ Reps K B (kvs.map (·.2)) (es.map (·.2)) := by
  cases h with
  | im h => cases h with
    | dit h k r => exact ⟨_, _, rfl, e _ _ h, k, r⟩
  | dit h k r => exact ⟨_, _, rfl, h, k, r⟩
theorem RepW.inst {K : Frag} {B H : Hp} (e : Ex B H) {v : V} {C : Addr} {fs : List (Str × D)} (h : RepW K B H v (.obj C fs)) : ∃ a dx fvs, v = .ref a ∧ H a = some (.ins C dx fvs) ∧ fvs.map (·.1) = fs.map (·.1) ∧ Reps K B (fvs.map (·.2)) (fs.map (·.2)) := by
  cases h with
  | im h => cases h with
    | obj h k r => exact ⟨_, _, _, rfl, e _ _ h, k, r⟩
  | obj h k r => exact ⟨_, _, _, rfl, h, k, r⟩

def SlotOk (K : Frag) (B G H : Hp) (v : V) : Slot → Prop
  | .im d => Rep K B v d
  | .bo d => RepW K B G v d
  | .ml l ds => v = .ref l ∧ ∃ vs, H l = some (.lst vs) ∧ Reps K B vs ds
  | .pl l ds => v = .ref l ∧ ∃ vs, H l = some (.lst vs) ∧ Reps K B vs ds
  | .md l es => v = .ref l ∧ ∃ kvs : List (Key × V), H l = some (.dK kvs) ∧ kvs.map (·.1) = es.map (·.1) ∧ Reps K B (kvs.map (·.2)) (es.map (·.2))
  | .mt l es => v = .ref l ∧ ∃ kvs : List (List Key × V), H l = some (.dT kvs) ∧ kvs.map (·.1) = es.map (·.1) ∧ Reps K B (kvs.map (·.2)) (es.map (·.2))
  | .mi l C fs => v = .ref l ∧ ∃ dx fvs, H l = some (.ins C dx fvs) ∧ fvs.map (·.1) = fs.map (·.1) ∧ Reps K B (fvs.map (·.2)) (fs.map (·.2))
theorem SlotOk.mono {K : Frag} {B G H B' G' H' : Hp} (e : Ex B B') (g : Ex G G') (f : Ex H H') {v : V} {s : Slot} (h : SlotOk K B G H v s) : SlotOk K B' G' H' v s := by
  cases s with
  | im d => exact Rep.mono e h
  | bo d => exact RepW.mono e g h
  | ml l ds => obtain ⟨a, vs, b, c⟩ := h; exact ⟨a, vs, f _ _ b, c.mono e⟩
  | pl l ds => obtain ⟨a, vs, b, c⟩ := h; exact ⟨a, vs, f _ _ b, c.mono e⟩
  | md l es => obtain ⟨a, vs, b, c, r⟩ := h; exact ⟨a, vs, f _ _ b, c, r.mono e⟩
  | mt l es => obtain ⟨a, vs, b, c, r⟩ := h; exact ⟨a, vs, f _ _ b, c, r.mono e⟩
  | mi l C fs => obtain ⟨a, dx, vs, b, c, r⟩ := h; exact ⟨a, dx, vs, f _ _ b, c, r.mono e⟩
theorem SlotOk.w {K : Frag} {B G H : Hp} (g : Ex G H) {v : V} {s : Slot} (h : SlotOk K B G H v s) : RepW K B H v s.dat := by
  cases s with
  | im d => exact .im h
  | bo d => exact RepW.mono (Same.refl B) g h
  | ml l ds => obtain ⟨rfl, vs, b, c⟩ := h; exact .lst b c
  | pl l ds => obtain ⟨rfl, vs, b, c⟩ := h; exact .lst b c
  | md l es => obtain ⟨rfl, vs, b, c, r⟩ := h; exact .dic b c r
  | mt l es => obtain ⟨rfl, vs, b, c, r⟩ := h; exact .dit b c r
  | mi l C fs => obtain ⟨rfl, dx, vs, b, c, r⟩ := h; exact .obj b c r
theorem SlotOk.some {K : Frag} {B G H : Hp} {v : V} {s : Slot} (h : SlotOk K B G H v s) {l : Addr} (e : s.ad = some l) : ∃ o, H l = some o := by
  cases s with
  | im d => cases e
  | bo d => cases e
  | ml l ds => cases e; obtain ⟨_, vs, b, _⟩ := h; exact ⟨_, b⟩
  | pl l ds => cases e; obtain ⟨_, vs, b, _⟩ := h; exact ⟨_, b⟩
  | md l es => cases e; obtain ⟨_, vs, b, _⟩ := h; exact ⟨_, b⟩
  | mt l es => cases e; obtain ⟨_, vs, b, _⟩ := h; exact ⟨_, b⟩
  | mi l C fs => cases e; obtain ⟨_, dx, vs, b, _⟩ := h; exact ⟨_, b⟩

/-- the state: Γ tells what the slots hold. H0: the heap at the def's entry; ps: the objects of the caller that may be changed here; hs: addresses of the caller's that nothing here holds -/
structure SE (K : Frag) (H0 : Hp) (ps hs : List Addr) (Γ : Env) (σ : St) (H : Hp) : Prop where
  len : σ.length = Γ.length
  ok : ∀ (i : Nat) (s : Slot), Γ[i]? = some (some s) → ∃ v, σ[i]? = some (some v) ∧ SlotOk K (hid (hs ++ adr Γ) H) (hid (adr Γ) H) H v s
  nd : (adr Γ).Nodup
  fr : ∀ a o, a ∉ ps → H0 a = some o → H a = some o
  own : ∀ (i : Nat) (s : Slot) (l : Addr), Γ[i]? = some (some s) → s.ad = some l → (s.par = true → l ∈ ps) ∧ (s.par = false → H0 l = none)
  psub : ∀ l ∈ ps, l ∈ hs
  hx : ∀ l ∈ hs, H l ≠ none
theorem SE.mono {K : Frag} {H0 : Hp} {ps hs : List Addr} {Γ : Env} {σ : St} {H H' : Hp} (h : SE K H0 ps hs Γ σ H) (e : Ex H H') : SE K H0 ps hs Γ σ H' :=
  ⟨h.len, fun i s q => let ⟨v, a, b⟩ := h.ok i s q; ⟨v, a, b.mono (hid_ex2 e) (hid_ex2 e) e⟩, h.nd, fun a o n q => e _ _ (h.fr a o n q), h.own, h.psub, fun l m q => by
    cases z : H l with
    | none => exact h.hx l m z
    | some o => rw [e l o z] at q; cases q⟩
theorem mem_adr {Γ : Env} {l : Addr} : l ∈ adr Γ ↔ ∃ (i : Nat) (s : Slot), Γ[i]? = some (some s) ∧ s.ad = some l := by
  unfold adr
  constructor
  · intro h
    obtain ⟨o, ho, e⟩ := List.mem_filterMap.mp h
    cases o with
    | none => cases e
    | some s =>
      obtain ⟨i, hi⟩ := List.mem_iff_getElem?.mp ho
      exact ⟨i, s, hi, e⟩
  · rintro ⟨i, s, hi, e⟩
    exact List.mem_filterMap.mpr ⟨some s, List.mem_iff_getElem?.mpr ⟨i, hi⟩, e⟩
theorem SE.there {K : Frag} {H0 : Hp} {ps hs : List Addr} {Γ : Env} {σ : St} {H : Hp} (h : SE K H0 ps hs Γ σ H) {l : Addr} (m : l ∈ adr Γ) : ∃ o, H l = some o := by
  obtain ⟨i, s, hi, e⟩ := mem_adr.mp m
  obtain ⟨v, _, b⟩ := h.ok i s hi
  exact b.some e
theorem SE.fresh {K : Frag} {H0 : Hp} {ps hs : List Addr} {Γ : Env} {σ : St} {H : Hp} (h : SE K H0 ps hs Γ σ H) {p : Addr} (n : H p = none) : p ∉ adr Γ := fun m => by
  obtain ⟨o, e⟩ := h.there m
  rw [n] at e; cases e
end Kb
set_option Elab.async false
set_option linter.all false
set_option maxRecDepth 100000
set_option maxHeartbeats 1000000
/-! Kb1: expressions. -/
namespace Kb
open PySem L2
set_option autoImplicit false

abbrev XT := Env → (D → Prop) → Prop
abbrev FT := Env → (List D → Prop) → Prop
abbrev BT := Env → (Bool → Prop) → Prop

def Bs (ms : List Addr) (H : Hp) : Prop := ∀ a ∈ ms, H a ≠ none
theorem SE.bs {K : Frag} {H0 : Hp} {ps hs : List Addr} {Γ : Env} {σ : St} {H : Hp} (h : SE K H0 ps hs Γ σ H) : Bs (hs ++ adr Γ) H := fun a m q => by
  rcases List.mem_append.mp m with m | m
  · exact h.hx a m q
  · obtain ⟨o, e⟩ := h.there m
    rw [q] at e; cases e
theorem Bs.new {ms : List Addr} {H : Hp} (b : Bs ms H) {p : Addr} (n : H p = none) : p ∉ ms := fun m => b p m n
theorem Bs.mono {ms : List Addr} {H H' : Hp} (b : Bs ms H) (e : Ex H H') : Bs ms H' := fun a m q => by
  cases z : H a with
  | none => exact b a m z
  | some o => rw [e a o z] at q; cases q

inductive RepWs (K : Frag) (B H : Hp) : List V → List D → Prop
  | nil : RepWs K B H [] []
  | cons {v : V} {vs : List V} {d : D} {ds : List D} : RepW K B H v d → RepWs K B H vs ds → RepWs K B H (v :: vs) (d :: ds)
theorem RepWs.mono {K : Frag} {B H B' H' : Hp} (e : Ex B B') (f : Ex H H') : ∀ {vs : List V} {ds : List D}, RepWs K B H vs ds → RepWs K B' H' vs ds
  | _, _, .nil => .nil
  | _, _, .cons a b => .cons (a.mono e f) (b.mono e f)

/-! ### the lifts -/
def Li (K : Frag) (t : XT) : TE := fun σ H Q => ∃ (H0 : Hp) (ps hs : List Addr) (Γ : Env) (P : D → Prop), SE K H0 ps hs Γ σ H ∧ t Γ P ∧ ∀ d v H2, P d → Ex H H2 → Rep K (hid (hs ++ adr Γ) H2) v d → Q v H2
def Lb (K : Frag) (t : XT) : TE := fun σ H Q => ∃ (H0 : Hp) (ps hs : List Addr) (Γ : Env) (P : D → Prop), SE K H0 ps hs Γ σ H ∧ t Γ P ∧ ∀ d v H2, P d → Ex H H2 → RepW K (hid (hs ++ adr Γ) H2) H2 v d → Q v H2
def Lf (K : Frag) (t : FT) : TE := fun σ H Q => ∃ (H0 : Hp) (ps hs : List Addr) (Γ : Env) (P : List D → Prop), SE K H0 ps hs Γ σ H ∧ t Γ P ∧ ∀ ds p vs H2, P ds → H p = none → Ex H H2 → H2 p = some (.lst vs) → Reps K (hid (p :: (hs ++ adr Γ)) H2) vs ds → Q (.ref p) H2
def Lt (K : Frag) (t : BT) : TT := fun σ H Q => ∃ (H0 : Hp) (ps hs : List Addr) (Γ : Env) (P : Bool → Prop), SE K H0 ps hs Γ σ H ∧ t Γ P ∧ ∀ b H2, P b → Ex H H2 → Q b H2
/-- arguments: strictly as data; as readable things -/
def LaS (K : Frag) (t : FT) : TA := fun σ H Q => ∃ (H0 : Hp) (ps hs : List Addr) (Γ : Env) (P : List D → Prop), SE K H0 ps hs Γ σ H ∧ t Γ P ∧ ∀ ds vs H2, P ds → Ex H H2 → Reps K (hid (hs ++ adr Γ) H2) vs ds → Q vs H2
def LaW (K : Frag) (t : FT) : TA := fun σ H Q => ∃ (H0 : Hp) (ps hs : List Addr) (Γ : Env) (P : List D → Prop), SE K H0 ps hs Γ σ H ∧ t Γ P ∧ ∀ ds vs H2, P ds → Ex H H2 → RepWs K (hid (hs ++ adr Γ) H2) H2 vs ds → Q vs H2

section
variable {X : Cx}
theorem pe_imp {e : Expr} {t t' : TE} (h : PE X e t) (hi : ∀ σ H Q, t' σ H Q → t σ H Q) : PE X e t' := ⟨fun pins s σ H Q I q => h.run pins s σ H Q I (hi σ H Q q)⟩
theorem pt_imp {e : Expr} {t t' : TT} (h : PT X e t) (hi : ∀ σ H Q, t' σ H Q → t σ H Q) : PT X e t' := ⟨fun pins s σ H Q I q => h.run pins s σ H Q I (hi σ H Q q)⟩
theorem pw_imp {e : Expr} {t t' : TT} (h : PW X e t) (hi : ∀ σ H Q, t' σ H Q → t σ H Q) : PW X e t' := ⟨fun w pins s σ H Q I q => h.run w pins s σ H Q I (hi σ H Q q)⟩
theorem pa_imp {es : List Expr} {t t' : TA} (h : PA X es t) (hi : ∀ σ H Q, t' σ H Q → t σ H Q) : PA X es t' := ⟨fun p pins s σ H Q I q => h.run p pins s σ H Q I (hi σ H Q q)⟩

/-- data may be read -/
theorem bx {e : Expr} {t : XT} (h : PE X e (Li X.K t)) : PE X e (Lb X.K t) := pe_imp h fun σ H Q ⟨H0, ps, hs, Γ, P, se, ht, k⟩ => ⟨H0, ps, hs, Γ, P, se, ht, fun d v H2 p e r => k d v H2 p e (.im r)⟩
/-- a new list is data -/
def xF (t : FT) : XT := fun Γ P => t Γ fun ds => P (.lst ds)
theorem px_f {e : Expr} {t : FT} (h : PE X e (Lf X.K t)) : PE X e (Li X.K (xF t)) := pe_imp h fun σ H Q ⟨H0, ps, hs, Γ, P, se, ht, k⟩ => ⟨H0, ps, hs, Γ, fun ds => P (.lst ds), se, ht, fun ds p vs H2 q n e h2 r => k _ _ H2 q e (by
  have np : p ∉ hs ++ adr Γ := se.bs.new n
  exact .lst (by rw [hid_ni np]; exact h2) (r.mono (hid_sub fun a m => List.mem_cons_of_mem _ m)))⟩

/-! ### names, constants -/
def xVar (i : Nat) : XT := fun Γ P => match Γ[i]? with
  | some (some (.im d)) => P d
  | _ => False
def bVar (i : Nat) : XT := fun Γ P => match Γ[i]? with
  | some (some s) => P s.dat
  | _ => False
def xC (d : D) : XT := fun _ P => P d
theorem px_var (i : Nat) {x : Str} {pos : Pos} (hN : X.N[i]? = some x := by rfl) (hv : Vis X.env.scope x := by first | exact Or.inl rfl | exact Or.inr (Or.inl rfl) | exact Or.inr (Or.inr rfl)) (hd : (x == ("__debug__" : Str)) = false := by decide)
    (hcd : (x == ("__classdict__" : Str)) = false := by decide) : PE X (.Name x pos) (Li X.K (xVar i)) := pe_imp (pe_var hN hv hd hcd) fun σ H Q ⟨H0, ps, hs, Γ, P, se, ht, k⟩ => by
  unfold xVar at ht
  split at ht
  · rename_i d e
    obtain ⟨v, h1, h2⟩ := se.ok i _ e
    exact ⟨v, h1, k d v H ht (Same.refl H) h2⟩
  · exact ht.elim
theorem bx_var (i : Nat) {x : Str} {pos : Pos} (hN : X.N[i]? = some x := by rfl) (hv : Vis X.env.scope x := by first | exact Or.inl rfl | exact Or.inr (Or.inl rfl) | exact Or.inr (Or.inr rfl)) (hd : (x == ("__debug__" : Str)) = false := by decide)
    (hcd : (x == ("__classdict__" : Str)) = false := by decide) : PE X (.Name x pos) (Lb X.K (bVar i)) := pe_imp (pe_var hN hv hd hcd) fun σ H Q ⟨H0, ps, hs, Γ, P, se, ht, k⟩ => by
  unfold bVar at ht
  split at ht
  · rename_i s e
    obtain ⟨v, h1, h2⟩ := se.ok i _ e
    exact ⟨v, h1, k s.dat v H ht (Same.refl H) (h2.w hid_ex)⟩
  · exact ht.elim
theorem px_c {e : Expr} {v : V} {d : D} (h : PE X e (tC v)) (r : ∀ K H, Rep K H v d) : PE X e (Li X.K (xC d)) := pe_imp h fun σ H Q ⟨H0, ps, hs, Γ, P, se, ht, k⟩ => k d v H ht (Same.refl H) (r _ _)
theorem px_int {i j pos} : PE X (.Constant (.int i) j pos) (Li X.K (xC (.int i))) := px_c pe_int fun _ _ => .int i
theorem px_bl {b j pos} : PE X (.Constant (.bool b) j pos) (Li X.K (xC (.bl b))) := px_c pe_bl fun _ _ => .bl b
theorem px_non {j pos} : PE X (.Constant .none j pos) (Li X.K (xC .non)) := px_c pe_non fun _ _ => .non
theorem px_str {x j pos} : PE X (.Constant (.str x) j pos) (Li X.K (xC (.str x))) := px_c pe_str fun _ _ => .str x
/-- a class, a def as a value -/
theorem px_glob {x : Str} {v : V} {u : Value} {pos : Pos} (hg : Gl X x) (hm : X.mg x = some u) (r : RelV v u) (hd : (x == ("__debug__" : Str)) = false := by decide) : PE X (.Name x pos) (Li X.K (xC (.raw v))) := px_c (pe_glob hg hm r hd) fun _ _ => .raw v

/-! ### operators by data -/
abbrev F2 := D → D → (D → Prop) → Prop
def x2 (f : F2) (ta tb : XT) : XT := fun Γ P => ta Γ fun d => tb Γ fun e => f d e P
def b2 (f : F2) (ta tb : XT) : BT := fun Γ P => ta Γ fun d => tb Γ fun e => f d e fun z => match z with
  | .bl b => P b
  | _ => False
/-- r does what f says -/
def Does (K : Frag) (r : R2) (f : F2) : Prop := ∀ (ms : List Addr) (H : Hp) (x y : V) (d e : D) (P : D → Prop) (Q : VK), Bs ms H → RepW K (hid ms H) H x d → RepW K (hid ms H) H y e → f d e P →
  (∀ z v H2, P z → Ex H H2 → Rep K (hid ms H2) v z → Q v H2) → r x y H Q
theorem bin_of {σ : St} {H : Hp} {Q : VK} {r : R2} {f : F2} {ta tb : XT} (hd : Does X.K r f) (h : Li X.K (x2 f ta tb) σ H Q) : tOp r (Lb X.K ta) (Lb X.K tb) σ H Q := by
  obtain ⟨H0, ps, hs, Γ, P, se, ht, k⟩ := h
  refine ⟨H0, ps, hs, Γ, _, se, ht, fun d x H1 h1 e1 r1 => ?_⟩
  refine ⟨H0, ps, hs, Γ, _, se.mono e1, h1, fun e y H2 h2 e2 r2 => ?_⟩
  exact hd _ H2 x y d e P Q ((se.mono e1).mono e2).bs (r1.mono (hid_ex2 e2) e2) r2 h2 fun z v H3 hz e3 r3 => k z v H3 hz ((e1.trans e2).trans e3) r3
theorem px_bin {op : Operator} {a b : Expr} {pos : Pos} {r : R2} {f : F2} {ta tb : XT} (ho : OpR X (binaryOp op) r) (hd : Does X.K r f) (ha : PE X a (Lb X.K ta)) (hb : PE X b (Lb X.K tb)) : PE X (.BinOp a op b pos) (Li X.K (x2 f ta tb)) :=
  pe_imp (pe_op ho ha hb) fun _ _ _ h => bin_of hd h
theorem px_cmp {op : CmpOp} {a b : Expr} {pos : Pos} {r : R2} {f : F2} {ta tb : XT} (ho : OpR X (compareOp op) r) (hd : Does X.K r f) (ha : PE X a (Lb X.K ta)) (hb : PE X b (Lb X.K tb)) (hm : behindInMarks op b = false := by first | exact nomark _ | rfl) : PE X (.Compare a [op] [b] pos) (Li X.K (x2 f ta tb)) :=
  pe_imp (pe_cmpR ho ha hb hm) fun _ _ _ h => bin_of hd h
theorem tx_cmp {op : CmpOp} {a b : Expr} {pos : Pos} {r : R2} {f : F2} {ta tb : XT} (ho : OpR X (compareOp op) r) (hd : Does X.K r f) (ha : PE X a (Lb X.K ta)) (hb : PE X b (Lb X.K tb)) (hm : behindInMarks op b = false := by first | exact nomark _ | rfl) : PT X (.Compare a [op] [b] pos) (Lt X.K (b2 f ta tb)) :=
  pt_imp (pt_cmpR ho ha hb hm) fun σ H Q ⟨H0, ps, hs, Γ, P, se, ht, k⟩ => bin_of hd ⟨H0, ps, hs, Γ, _, se, ht, fun d v H2 p e r => by
    cases d with
    | bl c =>
      cases r
      exact ⟨c, rfl, k c H2 p e⟩
    | _ => exact p.elim⟩

def fAdd : F2 := fun d e P => match d, e with
  | .int i, .int j => P (.int (i + j))
  | .str x, .str y => x.length + y.length ≤ sizeLine ∧ P (.str (x ++ y))
  | .lst xs, .lst ys => xs.length + ys.length ≤ sizeLine ∧ P (.lst (xs ++ ys))
  | .tup xs, .tup ys => xs.length + ys.length ≤ sizeLine ∧ P (.tup (xs ++ ys))
  | _, _ => False
theorem RepW.intv {K : Frag} {B H : Hp} {v : V} {i : Int} (h : RepW K B H v (.int i)) : v = .int i := by
  cases h with
  | im h => cases h; rfl
theorem RepW.strv {K : Frag} {B H : Hp} {v : V} {i : Str} (h : RepW K B H v (.str i)) : v = .str i := by
  cases h with
  | im h => cases h; rfl
theorem RepW.blv {K : Frag} {B H : Hp} {v : V} {i : Bool} (h : RepW K B H v (.bl i)) : v = .bl i := by
  cases h with
  | im h => cases h; rfl
/-- a new tuple of parts that stand in B -/
theorem rep_newT {K : Frag} {ms : List Addr} {H : Hp} {p : Addr} {vs : List V} {ds : List D} (b : Bs ms H) (n : H p = none) (r : Reps K (hid ms H) vs ds) : Rep K (hid ms (upd H p (.tup vs))) (.ref p) (.tup ds) :=
  .tup (Or.inl (Or.inl (by rw [hid_ni (b.new n), upd_same]))) (r.mono (hid_ex2 (Ex.new n)))
theorem rep_newL {K : Frag} {ms : List Addr} {H : Hp} {p : Addr} {vs : List V} {ds : List D} (b : Bs ms H) (n : H p = none) (r : Reps K (hid ms H) vs ds) : Rep K (hid ms (upd H p (.lst vs))) (.ref p) (.lst ds) :=
  .lst (by rw [hid_ni (b.new n), upd_same]) (r.mono (hid_ex2 (Ex.new n)))
def rAddD (K : Frag) : R2 := fun x y H Q => (rI0 fun i j => .int (i + j)) x y H Q ∨ ((∃ i j, x = .str i ∧ y = .str j ∧ i.length + j.length ≤ sizeLine ∧ Q (.str (i ++ j)) H) ∨ (rCat x y H Q ∨ rCatA K x y H Q))
theorem op_addD : OpR X (binaryOp .Add) (rAddD X.K) := op_add.or (op_add_str.or (op_cat.or op_catA))
theorem does_add {K : Frag} : Does K (rAddD K) fAdd := fun ms H x y d e P Q b rx ry h k => by
  have em : Ex (hid ms H) H := hid_ex
  unfold fAdd at h
  split at h
  · cases rx.intv; cases ry.intv
    exact .inl ⟨_, _, rfl, rfl, k _ _ H h (Same.refl H) (.int _)⟩
  · cases rx.strv; cases ry.strv
    exact .inr (.inl ⟨_, _, rfl, rfl, h.1, k _ _ H h.2 (Same.refl H) (.str _)⟩)
  · obtain ⟨a, vs, rfl, h1, r1⟩ := rx.list em
    obtain ⟨c, ws, rfl, h2, r2⟩ := ry.list em
    refine .inr (.inr (.inl ⟨a, c, vs, ws, rfl, rfl, h1, h2, by rw [r1.length, r2.length]; exact h.1, fun p n => k _ _ _ h.2 (Ex.new n) (rep_newL b n (r1.append r2))⟩))
  · obtain ⟨a, vs, rfl, h1, r1⟩ := rx.tuple em
    obtain ⟨c, ws, rfl, h2, r2⟩ := ry.tuple em
    refine .inr (.inr (.inr ⟨a, c, vs, ws, rfl, rfl, h1, h2, by rw [r1.length, r2.length]; exact h.1, fun z => ?_, fun z1 z2 => ?_, fun z1 z2 p n => k _ _ _ h.2 (Ex.new n) (rep_newT b n (r1.append r2))⟩))
    · subst z
      cases r1
      cases ry with
      | im q => exact k _ _ H h.2 (Same.refl H) q
    · subst z2
      cases r2
      cases rx with
      | im q =>
        refine k _ _ H h.2 (Same.refl H) ?_
        rw [List.append_nil]
        exact q
  · exact h.elim
/-- ints -/
def fI (C : Int → Int → Prop) (g : Int → Int → Int) : F2 := fun d e P => match d, e with
  | .int i, .int j => C i j ∧ P (.int (g i j))
  | _, _ => False
def fI0 (g : Int → Int → Int) : F2 := fun d e P => match d, e with
  | .int i, .int j => P (.int (g i j))
  | _, _ => False
def fB0 (g : Int → Int → Bool) : F2 := fun d e P => match d, e with
  | .int i, .int j => P (.bl (g i j))
  | _, _ => False
theorem does_I {K : Frag} {C : Int → Int → Prop} {g : Int → Int → Int} : Does K (rI C fun i j => .int (g i j)) (fI C g) := fun ms H x y d e P Q b rx ry h k => by
  unfold fI at h
  split at h
  · cases rx.intv; cases ry.intv
    exact ⟨_, _, rfl, rfl, h.1, k _ _ H h.2 (Same.refl H) (.int _)⟩
  · exact h.elim
theorem does_I0 {K : Frag} {g : Int → Int → Int} : Does K (rI0 fun i j => .int (g i j)) (fI0 g) := fun ms H x y d e P Q b rx ry h k => by
  unfold fI0 at h
  split at h
  · cases rx.intv; cases ry.intv
    exact ⟨_, _, rfl, rfl, k _ _ H h (Same.refl H) (.int _)⟩
  · exact h.elim
theorem does_B0 {K : Frag} {g : Int → Int → Bool} : Does K (rI0 fun i j => .bl (g i j)) (fB0 g) := fun ms H x y d e P Q b rx ry h k => by
  unfold fB0 at h
  split at h
  · cases rx.intv; cases ry.intv
    exact ⟨_, _, rfl, rfl, k _ _ H h (Same.refl H) (.bl _)⟩
  · exact h.elim
section
variable {a b : Expr} {pos : Pos} {ta tb : XT}
theorem px_add (ha : PE X a (Lb X.K ta)) (hb : PE X b (Lb X.K tb)) : PE X (.BinOp a .Add b pos) (Li X.K (x2 fAdd ta tb)) := px_bin op_addD does_add ha hb
theorem px_sub (ha : PE X a (Lb X.K ta)) (hb : PE X b (Lb X.K tb)) : PE X (.BinOp a .Sub b pos) (Li X.K (x2 (fI0 fun i j => i - j) ta tb)) := px_bin op_sub does_I0 ha hb
theorem px_mul (ha : PE X a (Lb X.K ta)) (hb : PE X b (Lb X.K tb)) : PE X (.BinOp a .Mult b pos) (Li X.K (x2 (fI CMul fun i j => i * j) ta tb)) := px_bin op_mul does_I ha hb
theorem px_mod (ha : PE X a (Lb X.K ta)) (hb : PE X b (Lb X.K tb)) : PE X (.BinOp a .Mod b pos) (Li X.K (x2 (fI (fun _ j => 0 < j) fun i j => i % j) ta tb)) := px_bin op_mod does_I ha hb
theorem px_fdiv (ha : PE X a (Lb X.K ta)) (hb : PE X b (Lb X.K tb)) : PE X (.BinOp a .FloorDiv b pos) (Li X.K (x2 (fI CDiv fun i j => i / j) ta tb)) := px_bin op_fdiv does_I ha hb
theorem px_pow (ha : PE X a (Lb X.K ta)) (hb : PE X b (Lb X.K tb)) : PE X (.BinOp a .Pow b pos) (Li X.K (x2 (fI CPow fun i j => i ^ j.toNat) ta tb)) := px_bin op_pow does_I ha hb
theorem px_lt (ha : PE X a (Lb X.K ta)) (hb : PE X b (Lb X.K tb)) : PE X (.Compare a [.Lt] [b] pos) (Li X.K (x2 (fB0 fun i j => decide (i < j)) ta tb)) := px_cmp op_lt does_B0 ha hb
theorem px_le (ha : PE X a (Lb X.K ta)) (hb : PE X b (Lb X.K tb)) : PE X (.Compare a [.LtE] [b] pos) (Li X.K (x2 (fB0 fun i j => decide (i ≤ j)) ta tb)) := px_cmp op_le does_B0 ha hb
theorem px_gt (ha : PE X a (Lb X.K ta)) (hb : PE X b (Lb X.K tb)) : PE X (.Compare a [.Gt] [b] pos) (Li X.K (x2 (fB0 fun i j => decide (j < i)) ta tb)) := px_cmp op_gt does_B0 ha hb
theorem px_ge (ha : PE X a (Lb X.K ta)) (hb : PE X b (Lb X.K tb)) : PE X (.Compare a [.GtE] [b] pos) (Li X.K (x2 (fB0 fun i j => decide (j ≤ i)) ta tb)) := px_cmp op_ge does_B0 ha hb
theorem tx_lt (ha : PE X a (Lb X.K ta)) (hb : PE X b (Lb X.K tb)) : PT X (.Compare a [.Lt] [b] pos) (Lt X.K (b2 (fB0 fun i j => decide (i < j)) ta tb)) := tx_cmp op_lt does_B0 ha hb
theorem tx_le (ha : PE X a (Lb X.K ta)) (hb : PE X b (Lb X.K tb)) : PT X (.Compare a [.LtE] [b] pos) (Lt X.K (b2 (fB0 fun i j => decide (i ≤ j)) ta tb)) := tx_cmp op_le does_B0 ha hb
theorem tx_gt (ha : PE X a (Lb X.K ta)) (hb : PE X b (Lb X.K tb)) : PT X (.Compare a [.Gt] [b] pos) (Lt X.K (b2 (fB0 fun i j => decide (j < i)) ta tb)) := tx_cmp op_gt does_B0 ha hb
theorem tx_ge (ha : PE X a (Lb X.K ta)) (hb : PE X b (Lb X.K tb)) : PT X (.Compare a [.GtE] [b] pos) (Lt X.K (b2 (fB0 fun i j => decide (j ≤ i)) ta tb)) := tx_cmp op_ge does_B0 ha hb
end
end
end Kb
set_option Elab.async false
set_option linter.all false
set_option maxRecDepth 100000
set_option maxHeartbeats 1000000
/-! Kb2: equality, tests, attributes, subscripts, displays, calls of built-ins. -/
namespace Kb
open PySem L2
set_option autoImplicit false

/-! ### data as the model's data -/
mutual
def D.py : D → PyData
  | .non => .none
  | .bl b => .bool b
  | .int i => .int i
  | .str x => .str x
  | .lst xs => .list (D.pys xs)
  | .tup xs => .tuple (D.pys xs)
  | _ => .none
def D.pys : List D → List PyData
  | [] => []
  | d :: ds => d.py :: D.pys ds
end
theorem pys_map : ∀ ds : List D, D.pys ds = ds.map D.py
  | [] => rfl
  | d :: ds => by rw [D.pys, pys_map ds]; rfl
/-- plain data of depth at most n -/
def D.sh : Nat → D → Bool
  | _, .non => true
  | _, .bl _ => true
  | _, .int _ => true
  | _, .str x => PyData.strOk x
  | n + 1, .lst xs => xs.all (D.sh n)
  | n + 1, .tup xs => xs.all (D.sh n)
  | _, _ => false
def eqD (d e : D) : Bool := PyData.eqv d.py e.py
theorem sh_lay : ∀ (n : Nat) (d : D), d.sh n = true → d.py.canLay0 = true ∧ d.py.depth ≤ n := by
  intro n
  induction n with
  | zero => intro d h; cases d <;> simp_all [D.sh, D.py, PyData.canLay0, PyData.depth]
  | succ n ih =>
    have all : ∀ xs : List D, xs.all (D.sh n) = true → PyData.canLayAll0 (D.pys xs) = true ∧ PyData.depthAll (D.pys xs) ≤ n := by
      intro xs
      induction xs with
      | nil => intro _; simp [D.pys, PyData.canLayAll0, PyData.depthAll]
      | cons x xs ih2 =>
        intro h
        have h' : D.sh n x = true ∧ xs.all (D.sh n) = true := by simpa using h
        obtain ⟨a, b⟩ := ih x h'.1
        obtain ⟨c, d⟩ := ih2 h'.2
        simp only [D.pys, PyData.canLayAll0, PyData.depthAll, a, c, Bool.and_self, true_and]
        omega
    intro d h
    cases d with
    | lst xs =>
      obtain ⟨a, b⟩ := all xs h
      simp only [D.py, PyData.canLay0, PyData.depth, a, true_and]
      omega
    | tup xs =>
      obtain ⟨a, b⟩ := all xs h
      simp only [D.py, PyData.canLay0, PyData.depth, a, true_and]
      omega
    | _ => simp_all [D.sh, D.py, PyData.canLay0, PyData.depth]
theorem sh_shaped {n : Nat} {d : D} (h : d.sh n = true) (hn : n ≤ 64 := by decide) : SeqAt.shaped d.py = true := by
  obtain ⟨a, b⟩ := sh_lay n d h
  unfold SeqAt.shaped
  rw [a, Bool.true_and]
  exact decide_eq_true (Nat.le_trans b hn)
theorem rep_dp {K : Frag} {H : Hp} : ∀ (n : Nat) (d : D) (v : V), d.sh n = true → Rep K H v d → Dp K H v d.py := by
  intro n
  induction n with
  | zero =>
    intro d v h r
    cases r <;> first | exact .non | exact .bl _ | exact .int _ | exact .str _ | (simp [D.sh] at h)
  | succ n ih =>
    have all : ∀ (ds : List D) (vs : List V), ds.all (D.sh n) = true → Reps K H vs ds → DpAll K H vs (D.pys ds) := by
      intro ds
      induction ds with
      | nil => intro vs _ r; cases r; exact .nil
      | cons d ds ih2 =>
        intro vs h r
        have h' : D.sh n d = true ∧ ds.all (D.sh n) = true := by simpa using h
        cases r with
        | cons a b => exact .cons (ih _ _ h'.1 a) (ih2 _ h'.2 b)
    intro d v h r
    cases r with
    | non => exact .non
    | bl b => exact .bl _
    | int i => exact .int _
    | str x => exact .str _
    | lst a b => exact .lst (SqL.of a) (all _ _ h b)
    | tup a b => exact .tup a (all _ _ h b)
    | _ => simp [D.sh] at h

section
variable {X : Cx}
abbrev hi60 : Nat := 60
def fEq : F2 := fun d e P => d.sh 60 = true ∧ e.sh 60 = true ∧ P (.bl (eqD d e))
def fNe : F2 := fun d e P => d.sh 60 = true ∧ e.sh 60 = true ∧ P (.bl (!eqD d e))
theorem does_eq {K : Frag} : Does K (rEqD K) fEq := fun ms H x y d e P Q b rx ry h k =>
  ⟨d.py, e.py, rep_dp 60 d x h.1 (rx.rep hid_ex), rep_dp 60 e y h.2.1 (ry.rep hid_ex), sh_shaped h.1, sh_shaped h.2.1, k _ _ H h.2.2 (Same.refl H) (.bl _)⟩
theorem does_ne {K : Frag} : Does K (rNeD K) fNe := fun ms H x y d e P Q b rx ry h k =>
  ⟨d.py, e.py, rep_dp 60 d x h.1 (rx.rep hid_ex), rep_dp 60 e y h.2.1 (ry.rep hid_ex), sh_shaped h.1, sh_shaped h.2.1, k _ _ H h.2.2 (Same.refl H) (.bl _)⟩
def inL (d : D) (ys : List D) : Bool := ys.any fun z => eqD z d
def fIn (neg : Bool) : F2 := fun d e P => match e with
  | .lst ys => d.sh 60 = true ∧ (D.lst ys).sh 60 = true ∧ P (.bl (if neg then !inL d ys else inL d ys))
  | _ => False
theorem pys_any (d : D) (ys : List D) : ((D.pys ys).any fun z => PyData.eqv z d.py) = inL d ys := by
  rw [pys_map, List.any_map]; rfl
theorem does_in {K : Frag} : Does K (rInD K) (fIn false) := fun ms H x y d e P Q b rx ry h k => by
  unfold fIn at h
  split at h
  · rename_i ys
    refine ⟨d.py, D.pys ys, rep_dp 60 d x h.1 (rx.rep hid_ex), rep_dp 60 (.lst ys) y h.2.1 (ry.rep hid_ex), sh_shaped h.1, sh_shaped h.2.1, ?_⟩
    rw [pys_any]
    exact k _ _ H h.2.2 (Same.refl H) (.bl _)
  · exact h.elim
theorem does_nin {K : Frag} : Does K (rNotInD K) (fIn true) := fun ms H x y d e P Q b rx ry h k => by
  unfold fIn at h
  split at h
  · rename_i ys
    refine ⟨d.py, D.pys ys, rep_dp 60 d x h.1 (rx.rep hid_ex), rep_dp 60 (.lst ys) y h.2.1 (ry.rep hid_ex), sh_shaped h.1, sh_shaped h.2.1, ?_⟩
    rw [pys_any]
    exact k _ _ H h.2.2 (Same.refl H) (.bl _)
  · exact h.elim
def D.isN : D → Bool
  | .non => true
  | .raw v => decide (v = .non)
  | _ => false
theorem rep_isN {K : Frag} {B H : Hp} {v : V} {d : D} (r : RepW K B H v d) : decide (v = .non) = d.isN := by
  cases r with
  | im r => cases r <;> simp [D.isN]
  | _ => simp [D.isN]
def fIs : F2 := fun d e P => match e with
  | .non => P (.bl d.isN)
  | _ => False
def fIsNot : F2 := fun d e P => match e with
  | .non => P (.bl (!d.isN))
  | _ => False
theorem RepW.nonv {K : Frag} {B H : Hp} {v : V} (h : RepW K B H v .non) : v = .non := by
  cases h with
  | im h => cases h; rfl
theorem does_is {K : Frag} : Does K (fun x y H Q => y = .non ∧ Q (.bl (decide (x = .non))) H) fIs := fun ms H x y d e P Q b rx ry h k => by
  unfold fIs at h
  split at h
  · refine ⟨ry.nonv, ?_⟩
    rw [rep_isN rx]
    exact k _ _ H h (Same.refl H) (.bl _)
  · exact h.elim
theorem does_isnot {K : Frag} : Does K (fun x y H Q => y = .non ∧ Q (.bl (!decide (x = .non))) H) fIsNot := fun ms H x y d e P Q b rx ry h k => by
  unfold fIsNot at h
  split at h
  · refine ⟨ry.nonv, ?_⟩
    rw [rep_isN rx]
    exact k _ _ H h (Same.refl H) (.bl _)
  · exact h.elim
section
variable {a b : Expr} {pos : Pos} {ta tb : XT}
theorem px_eq {k : Nat} (hr : Room k X.A) (ha : PE X a (Lb X.K ta)) (hb : PE X b (Lb X.K tb)) : PE X (.Compare a [.Eq] [b] pos) (Li X.K (x2 fEq ta tb)) := px_cmp (op_eqD hr.units) does_eq ha hb
theorem px_ne {k : Nat} (hr : Room k X.A) (ha : PE X a (Lb X.K ta)) (hb : PE X b (Lb X.K tb)) : PE X (.Compare a [.NotEq] [b] pos) (Li X.K (x2 fNe ta tb)) := px_cmp (op_neD hr.units) does_ne ha hb
theorem tx_eq {k : Nat} (hr : Room k X.A) (ha : PE X a (Lb X.K ta)) (hb : PE X b (Lb X.K tb)) : PT X (.Compare a [.Eq] [b] pos) (Lt X.K (b2 fEq ta tb)) := tx_cmp (op_eqD hr.units) does_eq ha hb
theorem tx_ne {k : Nat} (hr : Room k X.A) (ha : PE X a (Lb X.K ta)) (hb : PE X b (Lb X.K tb)) : PT X (.Compare a [.NotEq] [b] pos) (Lt X.K (b2 fNe ta tb)) := tx_cmp (op_neD hr.units) does_ne ha hb
theorem hu65 {k : Nat} {A : Around} (hr : Room (k + 1) A) : A.units + 65 < cLine := by have := hr.un; omega
theorem px_in {k : Nat} (hr : Room (k + 1) X.A) (ha : PE X a (Lb X.K ta)) (hb : PE X b (Lb X.K tb)) (hm : behindInMarks .In b = false := by rfl) : PE X (.Compare a [.In] [b] pos) (Li X.K (x2 (fIn false) ta tb)) := px_cmp (op_inD (hu65 hr)) does_in ha hb hm
theorem px_nin {k : Nat} (hr : Room (k + 1) X.A) (ha : PE X a (Lb X.K ta)) (hb : PE X b (Lb X.K tb)) (hm : behindInMarks .NotIn b = false := by rfl) : PE X (.Compare a [.NotIn] [b] pos) (Li X.K (x2 (fIn true) ta tb)) := px_cmp (op_notInD (hu65 hr)) does_nin ha hb hm
theorem tx_in {k : Nat} (hr : Room (k + 1) X.A) (ha : PE X a (Lb X.K ta)) (hb : PE X b (Lb X.K tb)) (hm : behindInMarks .In b = false := by rfl) : PT X (.Compare a [.In] [b] pos) (Lt X.K (b2 (fIn false) ta tb)) := tx_cmp (op_inD (hu65 hr)) does_in ha hb hm
theorem tx_nin {k : Nat} (hr : Room (k + 1) X.A) (ha : PE X a (Lb X.K ta)) (hb : PE X b (Lb X.K tb)) (hm : behindInMarks .NotIn b = false := by rfl) : PT X (.Compare a [.NotIn] [b] pos) (Lt X.K (b2 (fIn true) ta tb)) := tx_cmp (op_notInD (hu65 hr)) does_nin ha hb hm
theorem px_is (ha : PE X a (Lb X.K ta)) (hb : PE X b (Lb X.K tb)) : PE X (.Compare a [.Is] [b] pos) (Li X.K (x2 fIs ta tb)) := px_cmp op_isN does_is ha hb
theorem px_isnot (ha : PE X a (Lb X.K ta)) (hb : PE X b (Lb X.K tb)) : PE X (.Compare a [.IsNot] [b] pos) (Li X.K (x2 fIsNot ta tb)) := px_cmp op_notN does_isnot ha hb
theorem tx_is (ha : PE X a (Lb X.K ta)) (hb : PE X b (Lb X.K tb)) : PT X (.Compare a [.Is] [b] pos) (Lt X.K (b2 fIs ta tb)) := tx_cmp op_isN does_is ha hb
theorem tx_isnot (ha : PE X a (Lb X.K ta)) (hb : PE X b (Lb X.K tb)) : PT X (.Compare a [.IsNot] [b] pos) (Lt X.K (b2 fIsNot ta tb)) := tx_cmp op_notN does_isnot ha hb
end

/-! ### unary minus -/
def xNeg (t : XT) : XT := fun Γ P => t Γ fun d => match d with
  | .int i => P (.int (-i))
  | _ => False
theorem px_neg {a : Expr} {pos : Pos} {t : XT} (ha : PE X a (Lb X.K t)) : PE X (.UnaryOp .USub a pos) (Li X.K (xNeg t)) := pe_imp (pe_un un_neg ha) fun σ H Q ⟨H0, ps, hs, Γ, P, se, ht, k⟩ => ⟨H0, ps, hs, Γ, _, se, ht, fun d v H2 p e r => by
  cases d with
  | int i => cases r.intv; exact ⟨i, rfl, k _ _ H2 p e (.int _)⟩
  | _ => exact p.elim⟩

/-! ### tests -/
def bTru (t : XT) : BT := fun Γ P => t Γ fun d => match d with
  | .non => P false
  | .bl b => P b
  | .int i => P (i != 0)
  | .str y => y.length ≤ sizeLine ∧ P ((y.length : Int) != 0)
  | .lst xs => P (!xs.isEmpty)
  | .tup xs => P (!xs.isEmpty)
  | .dic es => P (!es.isEmpty)
  | _ => False
theorem reps_empty {K : Frag} {B : Hp} {vs : List V} {ds : List D} (r : Reps K B vs ds) : (!ds.isEmpty) = !vs.isEmpty := by cases r <;> rfl
theorem keys_empty {κ : Type} {kvs : List (κ × V)} {es : List (κ × D)} (h : kvs.map (·.1) = es.map (·.1)) : (!es.isEmpty) = !kvs.isEmpty := by
  cases kvs <;> cases es <;> simp_all
/-- truth of any value -/
theorem tx_tru {a : Expr} {t : XT} (ha : PE X a (Lb X.K t)) (he : ∀ whole, isTrue a X.env whole = (do let v ← whole; standAt a.pos; holding [v] (truthy v)) := by intro _; rfl) : PT X a (Lt X.K (bTru t)) :=
  pt_imp (pt_truth ha he) fun σ H Q ⟨H0, ps, hs, Γ, P, se, ht, k⟩ => ⟨H0, ps, hs, Γ, _, se, ht, fun d v H2 p e r => by
    have em : Ex (hid (hs ++ adr Γ) H2) H2 := hid_ex
    cases d with
    | non => cases r.nonv; exact ⟨false, rfl, k _ H2 p e⟩
    | bl b => cases r.blv; exact ⟨b, rfl, k _ H2 p e⟩
    | int i => cases r.intv; exact ⟨_, rfl, k _ H2 p e⟩
    | str i => cases r.strv; exact ⟨_, ⟨p.1, rfl⟩, k _ H2 p.2 e⟩
    | lst xs => obtain ⟨a, vs, rfl, h, q⟩ := r.list em; exact ⟨_, .inl ⟨vs, SqL.of h, reps_empty q⟩, k _ H2 p e⟩
    | tup xs => obtain ⟨a, vs, rfl, h, q⟩ := r.tuple em; exact ⟨_, .inr (.inl ⟨vs, h, reps_empty q⟩), k _ H2 p e⟩
    | dic xs => obtain ⟨a, vs, rfl, h, q, _⟩ := r.dict em; exact ⟨_, .inr (.inr ⟨vs, h, keys_empty q⟩), k _ H2 p e⟩
    | _ => exact p.elim⟩
def bNot (t : BT) : BT := fun Γ P => t Γ fun b => P (!b)
theorem tx_not {a : Expr} {pos : Pos} {t : BT} (ha : PT X a (Lt X.K t)) : PT X (.UnaryOp .Not a pos) (Lt X.K (bNot t)) := pt_imp (pt_not ha) fun σ H Q ⟨H0, ps, hs, Γ, P, se, ht, k⟩ => ⟨H0, ps, hs, Γ, _, se, ht, fun b H2 p e => k _ H2 p e⟩
def bAnd (t u : BT) : BT := fun Γ P => t Γ fun b => (b = true → u Γ P) ∧ (b = false → P false)
def bOr (t u : BT) : BT := fun Γ P => t Γ fun b => (b = true → P true) ∧ (b = false → u Γ P)
theorem tw_and1 {a : Expr} {pos : Pos} {t : BT} (ha : PT X a (Lt X.K t)) : PW X (.BoolOp .And [a] pos) (Lt X.K t) := pw_and1 ha
theorem tw_or1 {a : Expr} {pos : Pos} {t : BT} (ha : PT X a (Lt X.K t)) : PW X (.BoolOp .Or [a] pos) (Lt X.K t) := pw_or1 ha
theorem tw_and {a b : Expr} {rest : List Expr} {pos : Pos} {t u : BT} (ha : PT X a (Lt X.K t)) (hb : PW X (.BoolOp .And (b :: rest) pos) (Lt X.K u)) : PW X (.BoolOp .And (a :: b :: rest) pos) (Lt X.K (bAnd t u)) :=
  pw_imp (pw_and ha hb) fun σ H Q ⟨H0, ps, hs, Γ, P, se, ht, k⟩ => ⟨H0, ps, hs, Γ, _, se, ht, fun b H2 p e => by
    cases b with
    | true => exact iteT ⟨H0, ps, hs, Γ, P, se.mono e, p.1 rfl, fun b H3 q e3 => k b H3 q (e.trans e3)⟩
    | false => exact iteF (k _ H2 (p.2 rfl) e)⟩
theorem tw_or {a b : Expr} {rest : List Expr} {pos : Pos} {t u : BT} (ha : PT X a (Lt X.K t)) (hb : PW X (.BoolOp .Or (b :: rest) pos) (Lt X.K u)) : PW X (.BoolOp .Or (a :: b :: rest) pos) (Lt X.K (bOr t u)) :=
  pw_imp (pw_or ha hb) fun σ H Q ⟨H0, ps, hs, Γ, P, se, ht, k⟩ => ⟨H0, ps, hs, Γ, _, se, ht, fun b H2 p e => by
    cases b with
    | true => exact iteT (k _ H2 (p.1 rfl) e)
    | false => exact iteF ⟨H0, ps, hs, Γ, P, se.mono e, p.2 rfl, fun b H3 q e3 => k b H3 q (e.trans e3)⟩⟩
theorem tx_w {e : Expr} {t : BT} (h : PW X e (Lt X.K t)) : PT X e (Lt X.K t) := h.pt
/-! ### values of and, or, not; conditional expressions -/
def xAnd (ta tb : XT) : XT := fun Γ P => ta Γ fun d => match d with
  | .bl b => (b = true → tb Γ P) ∧ (b = false → P (.bl false))
  | _ => False
def xOr (ta tb : XT) : XT := fun Γ P => ta Γ fun d => match d with
  | .bl b => (b = true → P (.bl true)) ∧ (b = false → tb Γ P)
  | _ => False
def xNot (ta : XT) : XT := fun Γ P => ta Γ fun d => match d with
  | .bl b => P (.bl (!b))
  | _ => False
theorem px_one {op : BoolOp} {a : Expr} {pos : Pos} {t : XT} (ha : PE X a (Li X.K t)) : PE X (.BoolOp op [a] pos) (Li X.K t) := pe_one ha
theorem px_and {a b : Expr} {rest : List Expr} {pos : Pos} {ta tb : XT} (ha : PE X a (Lb X.K ta)) (hb : PE X (.BoolOp .And (b :: rest) pos) (Li X.K tb)) : PE X (.BoolOp .And (a :: b :: rest) pos) (Li X.K (xAnd ta tb)) :=
  pe_imp (pe_and ha hb) fun σ H Q ⟨H0, ps, hs, Γ, P, se, ht, k⟩ => ⟨H0, ps, hs, Γ, _, se, ht, fun d v H2 p e r => by
    cases d with
    | bl b =>
      cases r.blv
      refine ⟨b, rfl, ?_⟩
      cases b with
      | true => exact iteT ⟨H0, ps, hs, Γ, P, se.mono e, p.1 rfl, fun d v H3 q e3 r3 => k d v H3 q (e.trans e3) r3⟩
      | false => exact iteF (k _ _ H2 (p.2 rfl) e (.bl _))
    | _ => exact p.elim⟩
theorem px_or {a b : Expr} {rest : List Expr} {pos : Pos} {ta tb : XT} (ha : PE X a (Lb X.K ta)) (hb : PE X (.BoolOp .Or (b :: rest) pos) (Li X.K tb)) : PE X (.BoolOp .Or (a :: b :: rest) pos) (Li X.K (xOr ta tb)) :=
  pe_imp (pe_or ha hb) fun σ H Q ⟨H0, ps, hs, Γ, P, se, ht, k⟩ => ⟨H0, ps, hs, Γ, _, se, ht, fun d v H2 p e r => by
    cases d with
    | bl b =>
      cases r.blv
      refine ⟨b, rfl, ?_⟩
      cases b with
      | true => exact iteT (k _ _ H2 (p.1 rfl) e (.bl _))
      | false => exact iteF ⟨H0, ps, hs, Γ, P, se.mono e, p.2 rfl, fun d v H3 q e3 r3 => k d v H3 q (e.trans e3) r3⟩
    | _ => exact p.elim⟩
theorem px_not {a : Expr} {pos : Pos} {t : XT} (ha : PE X a (Lb X.K t)) : PE X (.UnaryOp .Not a pos) (Li X.K (xNot t)) := pe_imp (pe_not ha) fun σ H Q ⟨H0, ps, hs, Γ, P, se, ht, k⟩ => ⟨H0, ps, hs, Γ, _, se, ht, fun d v H2 p e r => by
  cases d with
  | bl b => cases r.blv; exact ⟨b, rfl, k _ _ H2 p e (.bl _)⟩
  | _ => exact p.elim⟩
def xIfE (c : BT) (ta tb : XT) : XT := fun Γ P => c Γ fun b => (b = true → ta Γ P) ∧ (b = false → tb Γ P)
theorem px_ifE {c a b : Expr} {pos : Pos} {t : BT} {ta tb : XT} (hc : PT X c (Lt X.K t)) (ha : PE X a (Li X.K ta)) (hb : PE X b (Li X.K tb)) : PE X (.IfExp c a b pos) (Li X.K (xIfE t ta tb)) :=
  pe_imp (pe_ifExp hc ha hb) fun σ H Q ⟨H0, ps, hs, Γ, P, se, ht, k⟩ => ⟨H0, ps, hs, Γ, _, se, ht, fun b H2 p e => by
    cases b with
    | true => exact iteT ⟨H0, ps, hs, Γ, P, se.mono e, p.1 rfl, fun d v H3 q e3 r3 => k d v H3 q (e.trans e3) r3⟩
    | false => exact iteF ⟨H0, ps, hs, Γ, P, se.mono e, p.2 rfl, fun d v H3 q e3 r3 => k d v H3 q (e.trans e3) r3⟩⟩

/-! ### attributes -/
theorem look_rep {K : Frag} {B : Hp} : ∀ {fvs : List (Str × V)} {fs : List (Str × D)} {f : Str} {d : D}, fvs.map (·.1) = fs.map (·.1) → Reps K B (fvs.map (·.2)) (fs.map (·.2)) → fs.lookup f = some d → ∃ v, fvs.lookup f = some v ∧ Rep K B v d
  | [], [], _, _, _, _, h => by simp at h
  | (x, v) :: r, (y, e) :: q, f, d, hk, hr, h => by
    simp only [List.map_cons, List.cons.injEq] at hk
    obtain ⟨rfl, hk⟩ := hk
    cases hr with
    | cons h1 h2 =>
      rw [List.lookup_cons] at h ⊢
      cases z : (f == x) with
      | true => rw [z] at h; cases h; exact ⟨v, rfl, h1⟩
      | false => rw [z] at h; exact look_rep hk h2 h
  | [], _ :: _, _, _, hk, _, _ => by simp at hk
  | _ :: _, [], _, _, hk, _, _ => by simp at hk
def xFld (C : Addr) (f : Str) (t : XT) : XT := fun Γ P => t Γ fun d => match d with
  | .obj C' fs => C' = C ∧ (match fs.lookup f with
    | some z => P z
    | none => False)
  | _ => False
theorem px_fld {e : Expr} {f : Str} {pos : Pos} {t : XT} {C : Addr} (c : Cls X.K C) (n : NoAttr X.K C f) (he : PE X e (Lb X.K t)) (hb : attributeBase e f X.env (eval e X.env) = eval e X.env := by rfl) : PE X (.Attribute e f pos) (Li X.K (xFld C f t)) :=
  pe_imp (pe_fld he hb) fun σ H Q ⟨H0, ps, hs, Γ, P, se, ht, k⟩ => ⟨H0, ps, hs, Γ, _, se, ht, fun d v H2 p e r => by
    cases d with
    | obj C' fs =>
      obtain ⟨rfl, p⟩ := p
      obtain ⟨a, dx, fvs, rfl, h, hk, hr⟩ := r.inst hid_ex
      cases z : fs.lookup f with
      | none => rw [z] at p; exact p.elim
      | some d =>
        rw [z] at p
        obtain ⟨v, h1, h2⟩ := look_rep hk hr z
        exact ⟨a, C', dx, fvs, v, rfl, h, c, n, h1, k d v H2 p e h2⟩
    | _ => exact p.elim⟩

/-! ### subscripts, slices -/
theorem ixN_lt {n : Nat} {i : Int} {j : Nat} (h : ixN n i = some j) : j < n := (ixN_seq h).2.1
theorem atI_rep {K : Frag} {B : Hp} {vs : List V} {ds : List D} {i : Int} {d : D} (r : Reps K B vs ds) (h : atI ds i = some d) : ∃ v, atI vs i = some v ∧ Rep K B v d := by
  unfold atI at h ⊢
  rw [r.length]
  cases e : ixN ds.length i with
  | none => rw [e] at h; cases h
  | some j =>
    rw [e] at h
    exact r.get' h
def fIx : F2 := fun d e P => match d, e with
  | .lst xs, .int i => (match atI xs i with
    | some z => P z
    | none => False)
  | .tup xs, .int i => (match atI xs i with
    | some z => P z
    | none => False)
  | .scr xs, .int i => (match atI xs i with
    | some z => P (.int z)
    | none => False)
  | _, _ => False
theorem atI_map {α β : Type} (g : α → β) (xs : List α) (i : Int) : atI (xs.map g) i = (atI xs i).map g := by
  unfold atI
  rw [List.length_map]
  cases ixN xs.length i <;> simp
theorem does_ix {K : Frag} : Does K (rIx K) fIx := fun ms H x y d e P Q b rx ry h k => by
  have em : Ex (hid ms H) H := hid_ex
  unfold fIx at h
  split at h
  · rename_i xs i
    cases ry.intv
    obtain ⟨a, vs, rfl, h1, r1⟩ := rx.list em
    cases z : atI xs i with
    | none => rw [z] at h; exact h.elim
    | some d =>
      rw [z] at h
      obtain ⟨v, q1, q2⟩ := atI_rep r1 z
      exact .inl ⟨a, vs, i, v, rfl, rfl, SqL.of h1, q1, k _ _ H h (Same.refl H) q2⟩
  · rename_i xs i
    cases ry.intv
    obtain ⟨a, vs, rfl, h1, r1⟩ := rx.tuple em
    cases z : atI xs i with
    | none => rw [z] at h; exact h.elim
    | some d =>
      rw [z] at h
      obtain ⟨v, q1, q2⟩ := atI_rep r1 z
      exact .inr (.inl ⟨a, vs, i, v, rfl, rfl, h1, q1, k _ _ H h (Same.refl H) q2⟩)
  · rename_i xs i
    cases ry.intv
    cases rx with
    | im rx =>
      cases rx with
      | scr h1 =>
        cases z : atI xs i with
        | none => rw [z] at h; exact h.elim
        | some d =>
          rw [z] at h
          exact .inl ⟨_, _, i, .int d, rfl, rfl, em.sl h1, by rw [atI_map, z]; rfl, k _ _ H h (Same.refl H) (.int _)⟩
  · exact h.elim
theorem px_ix {a b : Expr} {pos : Pos} {ta tb : XT} (ha : PE X a (Lb X.K ta)) (hb : PE X b (Lb X.K tb)) (hs : PlainIx b := by exact fun _ _ => rfl) : PE X (.Subscript a b pos) (Li X.K (x2 fIx ta tb)) :=
  pe_imp (pe_ix ix_seq ha hb hs) fun _ _ _ h => bin_of does_ix h
def cutD (xs : List D) (lo hi : Option Int) : List D := (xs.drop (HT.sIx xs.length 0 lo)).take (HT.sIx xs.length xs.length hi - HT.sIx xs.length 0 lo)
theorem cut_rep {K : Frag} {B : Hp} {vs : List V} {ds : List D} (r : Reps K B vs ds) (lo hi : Option Int) : Reps K B (cutV vs lo hi) (cutD ds lo hi) := by
  unfold cutV cutD
  rw [r.length]
  exact (r.drop _).take _
abbrev OT := Env → (Option Int → Prop) → Prop
def Lo (K : Frag) (t : OT) : TO := fun σ H Q => ∃ (H0 : Hp) (ps hs : List Addr) (Γ : Env) (P : Option Int → Prop), SE K H0 ps hs Γ σ H ∧ t Γ P ∧ ∀ o H2, P o → Ex H H2 → Q o H2
def oNo : OT := fun _ P => P none
def oSo (t : XT) : OT := fun Γ P => t Γ fun d => match d with
  | .int i => P (some i)
  | _ => False
theorem po_imp {e : Option Expr} {t t' : TO} (h : PO X e t) (hi : ∀ σ H Q, t' σ H Q → t σ H Q) : PO X e t' := ⟨fun pins s σ H Q I q => h.run pins s σ H Q I (hi σ H Q q)⟩
theorem ox_no : PO X none (Lo X.K oNo) := po_imp po_none fun σ H Q ⟨H0, ps, hs, Γ, P, se, ht, k⟩ => k none H ht (Same.refl H)
theorem ox_so {e : Expr} {t : XT} (he : PE X e (Lb X.K t)) : PO X (some e) (Lo X.K (oSo t)) := po_imp (po_some he) fun σ H Q ⟨H0, ps, hs, Γ, P, se, ht, k⟩ => ⟨H0, ps, hs, Γ, _, se, ht, fun d v H2 p e r => by
  cases d with
  | int i => cases r.intv; exact ⟨i, rfl, k _ H2 p e⟩
  | _ => exact p.elim⟩
def fSl (t : XT) (tl th : OT) : FT := fun Γ P => t Γ fun d => match d with
  | .lst xs => tl Γ fun lo => th Γ fun hi => P (cutD xs lo hi)
  | _ => False
theorem reps_new {K : Frag} {ms : List Addr} {H : Hp} {p : Addr} {o : HO} {vs : List V} {ds : List D} (n : H p = none) (r : Reps K (hid ms H) vs ds) : Reps K (hid (p :: ms) (upd H p o)) vs ds := by
  rw [hid_upd (List.mem_cons_self)]
  refine r.mono fun a u e => ?_
  have ha : a ∉ ms := fun m => by rw [hid_in m] at e; cases e
  rw [hid_ni ha] at e
  rw [hid_ni (fun m => (List.mem_cons.mp m).elim (ne_of_none e n) ha)]
  exact e
theorem fx_sl {e : Expr} {lo hi : Option Expr} {p2 pos : Pos} {t : XT} {tl th : OT} (he : PE X e (Lb X.K t)) (hl : PO X lo (Lo X.K tl)) (hh : PO X hi (Lo X.K th)) : PE X (.Subscript e (.Slice lo hi none p2) pos) (Lf X.K (fSl t tl th)) :=
  pe_imp (pe_slice sl_list he hl hh) fun σ H Q ⟨H0, ps, hs, Γ, P, se, ht, k⟩ => ⟨H0, ps, hs, Γ, _, se, ht, fun d v H2 p e r => by
    cases d with
    | lst xs =>
      refine ⟨H0, ps, hs, Γ, _, se.mono e, p, fun lo H3 q3 e3 => ⟨H0, ps, hs, Γ, _, (se.mono e).mono e3, q3, fun hi H4 q4 e4 => ?_⟩⟩
      obtain ⟨a, vs, rfl, h, rr⟩ := r.list hid_ex
      have em : Ex H2 H4 := e3.trans e4
      refine ⟨a, vs, rfl, SqL.of (em _ _ h), fun q n => ?_⟩
      have rr2 : Reps X.K (hid (hs ++ adr Γ) H4) vs xs := rr.mono (hid_ex2 em)
      exact k _ q _ _ q4 (by
        cases z : H q with
        | none => rfl
        | some o => rw [em _ _ (e _ _ z)] at n; cases n) ((e.trans em).trans (Ex.new n)) upd_same (reps_new n (cut_rep rr2 lo hi))
    | _ => exact p.elim⟩

/-! ### arguments, displays -/
def aNil : FT := fun _ P => P []
def aCons (t : XT) (u : FT) : FT := fun Γ P => t Γ fun d => u Γ fun ds => P (d :: ds)
theorem as_nil : PA X [] (LaS X.K aNil) := pa_imp pa_nil fun σ H Q ⟨H0, ps, hs, Γ, P, se, ht, k⟩ => k [] [] H ht (Same.refl H) .nil
theorem aw_nil : PA X [] (LaW X.K aNil) := pa_imp pa_nil fun σ H Q ⟨H0, ps, hs, Γ, P, se, ht, k⟩ => k [] [] H ht (Same.refl H) .nil
theorem as_cons {e : Expr} {es : List Expr} {t : XT} {u : FT} (he : PE X e (Li X.K t)) (hs : PA X es (LaS X.K u)) (hx : starEach (e :: es) X.env = (false, eval e X.env) :: starEach es X.env := by rfl) : PA X (e :: es) (LaS X.K (aCons t u)) :=
  pa_imp (pa_cons he hs hx) fun σ H Q ⟨H0, ps, hs, Γ, P, se, ht, k⟩ => ⟨H0, ps, hs, Γ, _, se, ht, fun d v H2 p e r => ⟨H0, ps, hs, Γ, _, se.mono e, p, fun ds vs H3 q e3 r3 => k _ _ H3 q (e.trans e3) (.cons (r.mono (hid_ex2 e3)) r3)⟩⟩
theorem aw_cons {e : Expr} {es : List Expr} {t : XT} {u : FT} (he : PE X e (Lb X.K t)) (hs : PA X es (LaW X.K u)) (hx : starEach (e :: es) X.env = (false, eval e X.env) :: starEach es X.env := by rfl) : PA X (e :: es) (LaW X.K (aCons t u)) :=
  pa_imp (pa_cons he hs hx) fun σ H Q ⟨H0, ps, hs, Γ, P, se, ht, k⟩ => ⟨H0, ps, hs, Γ, _, se, ht, fun d v H2 p e r => ⟨H0, ps, hs, Γ, _, se.mono e, p, fun ds vs H3 q e3 r3 => k _ _ H3 q (e.trans e3) (.cons (r.mono (hid_ex2 e3) e3) r3)⟩⟩
def xTup (t : FT) : XT := fun Γ P => t Γ fun ds => ds.length ≤ sizeLine ∧ P (.tup ds)
theorem px_tup {es : List Expr} {x1 : Nat} {pos : Pos} {t : FT} (h : PA X es (LaS X.K t)) : PE X (.Tuple es x1 pos) (Li X.K (xTup t)) := pe_imp (pe_tup h) fun σ H Q ⟨H0, ps, hs, Γ, P, se, ht, k⟩ => ⟨H0, ps, hs, Γ, _, se, ht, fun ds vs H2 p e r =>
  ⟨by rw [r.length]; exact p.1, fun q n => k _ _ _ p.2 (e.trans (Ex.new n)) (rep_newT (se.mono e).bs n r)⟩⟩
def fLst (t : FT) : FT := fun Γ P => t Γ fun ds => ds.length ≤ sizeLine ∧ P ds
theorem fresh_of {H H2 : Hp} {q : Addr} (e : Ex H H2) (n : H2 q = none) : H q = none := by
  cases z : H q with
  | none => rfl
  | some o => rw [e _ _ z] at n; cases n
theorem fx_lst {es : List Expr} {pos : Pos} {t : FT} (h : PA X es (LaS X.K t)) : PE X (.List es pos) (Lf X.K (fLst t)) := pe_imp (pe_lst h) fun σ H Q ⟨H0, ps, hs, Γ, P, se, ht, k⟩ => ⟨H0, ps, hs, Γ, _, se, ht, fun ds vs H2 p e r =>
  ⟨by rw [r.length]; exact p.1, fun q n => k _ q vs _ p.2 (fresh_of e n) (e.trans (Ex.new n)) upd_same (reps_new n r)⟩⟩
/-- xs + ys as a new list -/
def fCat (ta tb : XT) : FT := fun Γ P => ta Γ fun d => tb Γ fun e => match d, e with
  | .lst xs, .lst ys => xs.length + ys.length ≤ sizeLine ∧ P (xs ++ ys)
  | _, _ => False
theorem fx_cat {a b : Expr} {pos : Pos} {ta tb : XT} (ha : PE X a (Lb X.K ta)) (hb : PE X b (Lb X.K tb)) : PE X (.BinOp a .Add b pos) (Lf X.K (fCat ta tb)) :=
  pe_imp (pe_op op_cat ha hb) fun σ H Q ⟨H0, ps, hs, Γ, P, se, ht, k⟩ => ⟨H0, ps, hs, Γ, _, se, ht, fun d x H1 h1 e1 r1 => ⟨H0, ps, hs, Γ, _, se.mono e1, h1, fun e y H2 h2 e2 r2 => by
    split at h2
    · obtain ⟨a, vs, rfl, g1, q1⟩ := r1.list hid_ex
      obtain ⟨c, ws, rfl, g2, q2⟩ := r2.list hid_ex
      exact ⟨a, c, vs, ws, rfl, rfl, e2 _ _ g1, g2, by rw [q1.length, q2.length]; exact h2.1, fun p n => k _ p _ _ h2.2 (fresh_of (e1.trans e2) n) ((e1.trans e2).trans (Ex.new n)) upd_same (reps_new n ((q1.mono (hid_ex2 e2)).append q2))⟩
    · exact h2.elim⟩⟩
end
end Kb
set_option Elab.async false
set_option linter.all false
set_option maxRecDepth 100000
set_option maxHeartbeats 1000000
/-! Kb3: calls of built-ins. -/
namespace Kb
open PySem L2
set_option autoImplicit false

abbrev F1 := List D → (D → Prop) → Prop
abbrev FL := List D → (List D → Prop) → Prop
def DoesC (K : Frag) (r : List V → Hp → VK → Prop) (f : F1) : Prop := ∀ (ms : List Addr) (H : Hp) (xs : List V) (ds : List D) (P : D → Prop) (Q : VK), Bs ms H → RepWs K (hid ms H) H xs ds → f ds P →
  (∀ z v H2, P z → Ex H H2 → Rep K (hid ms H2) v z → Q v H2) → r xs H Q
def DoesF (K : Frag) (r : List V → Hp → VK → Prop) (f : FL) : Prop := ∀ (ms : List Addr) (H : Hp) (xs : List V) (ds : List D) (P : List D → Prop) (Q : VK), Bs ms H → RepWs K (hid ms H) H xs ds → f ds P →
  (∀ zs p vs H2, P zs → H p = none → Ex H H2 → H2 p = some (.lst vs) → Reps K (hid (p :: ms) H2) vs zs → Q (.ref p) H2) → r xs H Q
def xCall (f : F1) (t : FT) : XT := fun Γ P => t Γ fun ds => f ds P
def fCall (f : FL) (t : FT) : FT := fun Γ P => t Γ fun ds => f ds P
section
variable {X : Cx}
theorem cb_of {σ : St} {H : Hp} {Q : VK} {r : List V → Hp → VK → Prop} {f : F1} {t : FT} (hd : DoesC X.K r f) (h : Li X.K (xCall f t) σ H Q) : tCB r (LaW X.K t) σ H Q := by
  obtain ⟨H0, ps, hs, Γ, P, se, ht, k⟩ := h
  exact ⟨H0, ps, hs, Γ, _, se, ht, fun ds vs H2 p e rr => hd _ H2 vs ds P Q (se.mono e).bs rr p fun z v H3 hz e3 r3 => k z v H3 hz (e.trans e3) r3⟩
theorem cf_of {σ : St} {H : Hp} {Q : VK} {r : List V → Hp → VK → Prop} {f : FL} {t : FT} (hd : DoesF X.K r f) (h : Lf X.K (fCall f t) σ H Q) : tCB r (LaW X.K t) σ H Q := by
  obtain ⟨H0, ps, hs, Γ, P, se, ht, k⟩ := h
  exact ⟨H0, ps, hs, Γ, _, se, ht, fun ds vs H2 p e rr => hd _ H2 vs ds P Q (se.mono e).bs rr p fun z q v H3 hz n e3 h3 r3 => k z q v H3 hz (fresh_of e n) (e.trans e3) h3 r3⟩
section
variable {x : Str} {id T : String} {e : Expr} {es : List Expr} {p pos : Pos} {r : List V → Hp → VK → Prop} {t : FT}
theorem px_callB {f : F1} (hc : CallR X (.builtin id) r) (hd : DoesC X.K r f) (hg : Gl X x) (hm : X.mg x = none) (hv : bootBuiltins x = some (.builtin id)) (ha : PA X (e :: es) (LaW X.K t)) (hn : x ≠ "__name__" := by decide) (hdb : (x == ("__debug__" : Str)) = false := by decide)
    (he : starEach (e :: es) X.env = (false, eval e X.env) :: starEach es X.env := by rfl) (hpl : (backTo pos (starEach es X.env)).any (·.1) = false := by rfl) : PE X (.Call (.Name x p) (e :: es) [] pos) (Li X.K (xCall f t)) :=
  pe_imp (pe_callB hc hg hm hv ha hn hdb he hpl) fun _ _ _ h => cb_of hd h
theorem px_callTy {f : F1} (hc : CallR X (.type T) r) (hd : DoesC X.K r f) (hg : Gl X x) (hm : X.mg x = none) (hv : bootBuiltins x = some (.type T)) (ha : PA X (e :: es) (LaW X.K t)) (hn : x ≠ "__name__" := by decide) (hdb : (x == ("__debug__" : Str)) = false := by decide)
    (he : starEach (e :: es) X.env = (false, eval e X.env) :: starEach es X.env := by rfl) (hpl : (backTo pos (starEach es X.env)).any (·.1) = false := by rfl) : PE X (.Call (.Name x p) (e :: es) [] pos) (Li X.K (xCall f t)) :=
  pe_imp (pe_callTy hc hg hm hv ha hn hdb he hpl) fun _ _ _ h => cb_of hd h
theorem fx_callB {f : FL} (hc : CallR X (.builtin id) r) (hd : DoesF X.K r f) (hg : Gl X x) (hm : X.mg x = none) (hv : bootBuiltins x = some (.builtin id)) (ha : PA X (e :: es) (LaW X.K t)) (hn : x ≠ "__name__" := by decide) (hdb : (x == ("__debug__" : Str)) = false := by decide)
    (he : starEach (e :: es) X.env = (false, eval e X.env) :: starEach es X.env := by rfl) (hpl : (backTo pos (starEach es X.env)).any (·.1) = false := by rfl) : PE X (.Call (.Name x p) (e :: es) [] pos) (Lf X.K (fCall f t)) :=
  pe_imp (pe_callB hc hg hm hv ha hn hdb he hpl) fun _ _ _ h => cf_of hd h
theorem fx_callTy {f : FL} (hc : CallR X (.type T) r) (hd : DoesF X.K r f) (hg : Gl X x) (hm : X.mg x = none) (hv : bootBuiltins x = some (.type T)) (ha : PA X (e :: es) (LaW X.K t)) (hn : x ≠ "__name__" := by decide) (hdb : (x == ("__debug__" : Str)) = false := by decide)
    (he : starEach (e :: es) X.env = (false, eval e X.env) :: starEach es X.env := by rfl) (hpl : (backTo pos (starEach es X.env)).any (·.1) = false := by rfl) : PE X (.Call (.Name x p) (e :: es) [] pos) (Lf X.K (fCall f t)) :=
  pe_imp (pe_callTy hc hg hm hv ha hn hdb he hpl) fun _ _ _ h => cf_of hd h
end

/-! ### len -/
def fLen : F1 := fun ds P => match ds with
  | [.lst xs] => P (.int xs.length)
  | [.tup xs] => P (.int xs.length)
  | [.scr xs] => P (.int xs.length)
  | [.str x] => x.length ≤ sizeLine ∧ P (.int x.length)
  | _ => False
theorem RepWs.one {K : Frag} {B H : Hp} {xs : List V} {d : D} (h : RepWs K B H xs [d]) : ∃ v, xs = [v] ∧ RepW K B H v d := by
  cases h with
  | cons a b => cases b; exact ⟨_, rfl, a⟩
theorem RepWs.two {K : Frag} {B H : Hp} {xs : List V} {d e : D} (h : RepWs K B H xs [d, e]) : ∃ v w, xs = [v, w] ∧ RepW K B H v d ∧ RepW K B H w e := by
  cases h with
  | cons a b => obtain ⟨w, rfl, c⟩ := b.one; exact ⟨_, _, rfl, a, c⟩
theorem does_len {K : Frag} : DoesC K (fun xs H Q => ∃ x n, xs = [x] ∧ LenV K x H n ∧ Q (.int n) H) fLen := fun ms H xs ds P Q b rr h k => by
  have em : Ex (hid ms H) H := hid_ex
  unfold fLen at h
  split at h
  · obtain ⟨v, rfl, r⟩ := rr.one
    obtain ⟨a, vs, rfl, h1, r1⟩ := r.list em
    exact ⟨_, _, rfl, .inl ⟨vs, SqL.of h1, rfl⟩, by rw [r1.length]; exact k _ _ H h (Same.refl H) (.int _)⟩
  · obtain ⟨v, rfl, r⟩ := rr.one
    obtain ⟨a, vs, rfl, h1, r1⟩ := r.tuple em
    exact ⟨_, _, rfl, .inr ⟨vs, h1, rfl⟩, by rw [r1.length]; exact k _ _ H h (Same.refl H) (.int _)⟩
  · obtain ⟨v, rfl, r⟩ := rr.one
    cases r with
    | im r =>
      cases r with
      | scr h1 => exact ⟨_, _, rfl, .inl ⟨_, em.sl h1, rfl⟩, by rw [List.length_map]; exact k _ _ H h (Same.refl H) (.int _)⟩
  · obtain ⟨v, rfl, r⟩ := rr.one
    cases r.strv
    exact ⟨_, _, rfl, ⟨h.1, rfl⟩, k _ _ H h.2 (Same.refl H) (.int _)⟩
  · exact h.elim
theorem px_len {e : Expr} {p pos : Pos} {t : XT} (hg : Gl X "len") (hm : X.mg "len" = none) (h : PE X e (Lb X.K t)) (he : starEach [e] X.env = (false, eval e X.env) :: starEach [] X.env := by rfl) (hpl : (backTo pos (starEach [] X.env)).any (·.1) = false := by rfl) :
    PE X (.Call (.Name "len" p) [e] [] pos) (Li X.K (xCall fLen (aCons t aNil))) := px_callB call_len does_len hg hm PySem.boot_len (aw_cons h aw_nil he) (by decide) (by decide) he hpl
/-! ### abs, int, list, tuple, any, all -/
def fAbs : F1 := fun ds P => match ds with
  | [.int i] => P (.int (if i < 0 then -i else i))
  | _ => False
theorem does_abs {K : Frag} : DoesC K (fun xs H Q => ∃ i, xs = [.int i] ∧ Q (.int (if i < 0 then -i else i)) H) fAbs := fun ms H xs ds P Q b rr h k => by
  unfold fAbs at h
  split at h
  · obtain ⟨v, rfl, r⟩ := rr.one
    cases r.intv
    exact ⟨_, rfl, k _ _ H h (Same.refl H) (.int _)⟩
  · exact h.elim
def fInt : F1 := fun ds P => match ds with
  | [.int i] => P (.int i)
  | [.bl b] => P (.int (if b then 1 else 0))
  | _ => False
theorem does_int {K : Frag} : DoesC K (fun xs H Q => (∃ i, xs = [.int i] ∧ Q (.int i) H) ∨ ∃ k, xs = [.bl k] ∧ Q (.int (if k then 1 else 0)) H) fInt := fun ms H xs ds P Q b rr h k => by
  unfold fInt at h
  split at h
  · obtain ⟨v, rfl, r⟩ := rr.one
    cases r.intv
    exact .inl ⟨_, rfl, k _ _ H h (Same.refl H) (.int _)⟩
  · obtain ⟨v, rfl, r⟩ := rr.one
    cases r.blv
    exact .inr ⟨_, rfl, k _ _ H h (Same.refl H) (.int _)⟩
  · exact h.elim
def fList : FL := fun ds P => match ds with
  | [.lst xs] => P xs
  | [.tup xs] => P xs
  | _ => False
theorem does_list {K : Frag} : DoesF K (fun xs H Q => ∃ p ys, xs = [.ref p] ∧ (SqL K H p ys ∨ SqT K H p ys) ∧ ∀ l, H l = none → Q (.ref l) (upd H l (.lst ys))) fList := fun ms H xs ds P Q b rr h k => by
  have em : Ex (hid ms H) H := hid_ex
  unfold fList at h
  split at h
  · obtain ⟨v, rfl, r⟩ := rr.one
    obtain ⟨a, vs, rfl, h1, r1⟩ := r.list em
    exact ⟨a, vs, rfl, .inl (SqL.of h1), fun l n => k _ l vs _ h n (Ex.new n) upd_same (reps_new n r1)⟩
  · obtain ⟨v, rfl, r⟩ := rr.one
    obtain ⟨a, vs, rfl, h1, r1⟩ := r.tuple em
    exact ⟨a, vs, rfl, .inr h1, fun l n => k _ l vs _ h n (Ex.new n) upd_same (reps_new n r1)⟩
  · exact h.elim
def fTuple : F1 := fun ds P => match ds with
  | [.lst xs] => P (.tup xs)
  | [.tup xs] => P (.tup xs)
  | _ => False
theorem does_tuple {K : Frag} : DoesC K (fun xs H Q => ∃ p ys, xs = [.ref p] ∧ ((SqL K H p ys ∧ ∀ l, H l = none → Q (.ref l) (upd H l (.tup ys))) ∨ (SqT K H p ys ∧ Q (.ref p) H))) fTuple := fun ms H xs ds P Q b rr h k => by
  have em : Ex (hid ms H) H := hid_ex
  unfold fTuple at h
  split at h
  · obtain ⟨v, rfl, r⟩ := rr.one
    obtain ⟨a, vs, rfl, h1, r1⟩ := r.list em
    exact ⟨a, vs, rfl, .inl ⟨SqL.of h1, fun l n => k _ _ _ h (Ex.new n) (rep_newT b n r1)⟩⟩
  · obtain ⟨v, rfl, r⟩ := rr.one
    obtain ⟨a, vs, rfl, h1, r1⟩ := r.tuple em
    cases r with
    | im r => exact ⟨a, vs, rfl, .inr ⟨h1, k _ _ H h (Same.refl H) r⟩⟩
  · exact h.elim
theorem reps_bl {K : Frag} {B : Hp} : ∀ {bs : List Bool} {vs : List V}, Reps K B vs (bs.map D.bl) → vs = bs.map V.bl
  | [], _, .nil => rfl
  | b :: bs, _, .cons h r => by cases h; rw [reps_bl r]; rfl
theorem reps_int {K : Frag} {B : Hp} : ∀ {bs : List Int} {vs : List V}, Reps K B vs (bs.map D.int) → vs = bs.map V.int
  | [], _, .nil => rfl
  | b :: bs, _, .cons h r => by cases h; rw [reps_int r]; rfl
theorem int_reps {K : Frag} {B : Hp} : ∀ (bs : List Int), Reps K B (bs.map V.int) (bs.map D.int)
  | [] => .nil
  | b :: bs => .cons (.int b) (int_reps bs)
def fAny (any : Bool) : F1 := fun ds P => ∃ bs : List Bool, ds = [.lst (bs.map D.bl)] ∧ P (.bl (if any then bs.any id else bs.all id))
theorem does_any {K : Frag} : DoesC K (rAny K) (fAny true) := fun ms H xs ds P Q b rr h k => by
  obtain ⟨bs, rfl, h⟩ := h
  obtain ⟨v, rfl, r⟩ := rr.one
  obtain ⟨a, vs, rfl, h1, r1⟩ := r.list hid_ex
  have e := reps_bl r1
  subst e
  exact ⟨a, bs, rfl, SqL.of h1, k _ _ H h (Same.refl H) (.bl _)⟩
theorem does_all {K : Frag} : DoesC K (rAll K) (fAny false) := fun ms H xs ds P Q b rr h k => by
  obtain ⟨bs, rfl, h⟩ := h
  obtain ⟨v, rfl, r⟩ := rr.one
  obtain ⟨a, vs, rfl, h1, r1⟩ := r.list hid_ex
  have e := reps_bl r1
  subst e
  exact ⟨a, bs, rfl, SqL.of h1, k _ _ H h (Same.refl H) (.bl _)⟩
section
variable {e : Expr} {p pos : Pos} {t : XT}
theorem px_abs (hg : Gl X "abs") (hm : X.mg "abs" = none) (h : PE X e (Lb X.K t)) (he : starEach [e] X.env = (false, eval e X.env) :: starEach [] X.env := by rfl) (hpl : (backTo pos (starEach [] X.env)).any (·.1) = false := by rfl) :
    PE X (.Call (.Name "abs" p) [e] [] pos) (Li X.K (xCall fAbs (aCons t aNil))) := px_callB call_abs does_abs hg hm (by decide +kernel) (aw_cons h aw_nil he) (by decide) (by decide) he hpl
theorem px_toint (hg : Gl X "int") (hm : X.mg "int" = none) (h : PE X e (Lb X.K t)) (he : starEach [e] X.env = (false, eval e X.env) :: starEach [] X.env := by rfl) (hpl : (backTo pos (starEach [] X.env)).any (·.1) = false := by rfl) :
    PE X (.Call (.Name "int" p) [e] [] pos) (Li X.K (xCall fInt (aCons t aNil))) := px_callTy call_int1 does_int hg hm (by decide +kernel) (aw_cons h aw_nil he) (by decide) (by decide) he hpl
theorem fx_list (hg : Gl X "list") (hm : X.mg "list" = none) (h : PE X e (Lb X.K t)) (he : starEach [e] X.env = (false, eval e X.env) :: starEach [] X.env := by rfl) (hpl : (backTo pos (starEach [] X.env)).any (·.1) = false := by rfl) :
    PE X (.Call (.Name "list" p) [e] [] pos) (Lf X.K (fCall fList (aCons t aNil))) := fx_callTy call_list_of does_list hg hm (by decide +kernel) (aw_cons h aw_nil he) (by decide) (by decide) he hpl
theorem px_tuple (hg : Gl X "tuple") (hm : X.mg "tuple" = none) (h : PE X e (Lb X.K t)) (he : starEach [e] X.env = (false, eval e X.env) :: starEach [] X.env := by rfl) (hpl : (backTo pos (starEach [] X.env)).any (·.1) = false := by rfl) :
    PE X (.Call (.Name "tuple" p) [e] [] pos) (Li X.K (xCall fTuple (aCons t aNil))) := px_callTy call_tuple_of does_tuple hg hm (by decide +kernel) (aw_cons h aw_nil he) (by decide) (by decide) he hpl
theorem px_any (hc : X.calm = true) (hg : Gl X "any") (hm : X.mg "any" = none) (h : PE X e (Lb X.K t)) (he : starEach [e] X.env = (false, eval e X.env) :: starEach [] X.env := by rfl) (hpl : (backTo pos (starEach [] X.env)).any (·.1) = false := by rfl) :
    PE X (.Call (.Name "any" p) [e] [] pos) (Li X.K (xCall (fAny true) (aCons t aNil))) := px_callB (cr_any hc) does_any hg hm (by decide +kernel) (aw_cons h aw_nil he) (by decide) (by decide) he hpl
theorem px_all (hc : X.calm = true) (hg : Gl X "all") (hm : X.mg "all" = none) (h : PE X e (Lb X.K t)) (he : starEach [e] X.env = (false, eval e X.env) :: starEach [] X.env := by rfl) (hpl : (backTo pos (starEach [] X.env)).any (·.1) = false := by rfl) :
    PE X (.Call (.Name "all" p) [e] [] pos) (Li X.K (xCall (fAny false) (aCons t aNil))) := px_callB (cr_all hc) does_all hg hm (by decide +kernel) (aw_cons h aw_nil he) (by decide) (by decide) he hpl
end

/-! ### isinstance -/
def D.ty : D → Option String
  | .non => some "NoneType"
  | .bl _ => some "bool"
  | .int _ => some "int"
  | .str _ => some "str"
  | .lst _ => some "list"
  | .tup _ => some "tuple"
  | .dic _ => some "dict"
  | .dit _ => some "dict"
  | _ => none
def fIsi : F1 := fun ds P => match ds with
  | [d, .raw (.ty n)] => ∃ m b, d.ty = some m ∧ kitB m n = some b ∧ P (.bl b)
  | _ => False
theorem rep_ty {K : Frag} {B H : Hp} (em : Ex B H) {v : V} {d : D} {m : String} (r : RepW K B H v d) (h : d.ty = some m) : TyX K H v (.type m) := by
  cases d with
  | non => cases h; cases r.nonv; exact .base .non
  | bl b => cases h; cases r.blv; exact .base (.bl _)
  | int b => cases h; cases r.intv; exact .base (.int _)
  | str b => cases h; cases r.strv; exact .base (.str _)
  | lst xs => cases h; obtain ⟨a, vs, rfl, h1, _⟩ := r.list em; exact .base (.lst h1)
  | tup xs =>
    cases h
    obtain ⟨a, vs, rfl, h1, _⟩ := r.tuple em
    rcases h1 with (h1 | ⟨o, h1⟩) | ⟨o, its, n, hk, hc, _⟩
    · exact .base (.tup h1)
    · exact .fTuple h1
    · exact .kTuple hk hc
  | dic xs => cases h; obtain ⟨a, vs, rfl, h1, _⟩ := r.dict em; exact .base (.dK h1)
  | dit xs => cases h; obtain ⟨a, vs, rfl, h1, _⟩ := r.dictT em; exact .base (.dT h1)
  | _ => cases h
theorem does_isi {K : Frag} : DoesC K (rIsi K) fIsi := fun ms H xs ds P Q b rr h k => by
  unfold fIsi at h
  split at h
  · obtain ⟨m, c, h1, h2, h3⟩ := h
    obtain ⟨v, w, rfl, r1, r2⟩ := rr.two
    cases r2 with
    | im r2 =>
      cases r2
      exact ⟨v, _, _, _, c, rfl, .ty _, rep_ty hid_ex r1 h1, kit_ty h2, k _ _ H h3 (Same.refl H) (.bl _)⟩
  · exact h.elim
theorem px_isi {e c : Expr} {p pos : Pos} {t u : XT} (hg : Gl X "isinstance") (hm : X.mg "isinstance" = none) (h : PE X e (Lb X.K t)) (hc : PE X c (Lb X.K u)) (he : starEach [e, c] X.env = (false, eval e X.env) :: starEach [c] X.env := by rfl)
    (he2 : starEach [c] X.env = (false, eval c X.env) :: starEach [] X.env := by rfl) (hpl : (backTo pos (starEach [c] X.env)).any (·.1) = false := by rfl) :
    PE X (.Call (.Name "isinstance" p) [e, c] [] pos) (Li X.K (xCall fIsi (aCons t (aCons u aNil)))) := px_callB call_isi does_isi hg hm (by decide +kernel) (aw_cons h (aw_cons hc aw_nil he2) he) (by decide) (by decide) he hpl
theorem px_ty {x : Str} {n : String} {pos : Pos} (hg : Gl X x) (hm : X.mg x = none) (hv : bootBuiltins x = some (.type n)) (hn : x ≠ "__name__" := by decide) (hd : (x == ("__debug__" : Str)) = false := by decide) : PE X (.Name x pos) (Li X.K (xC (.raw (.ty n)))) :=
  px_c (pe_bltn (v := .ty n) hg hm hv rfl hn hd) fun _ _ => .raw _
theorem kit_ll : kitB "list" "list" = some true := by decide +kernel
theorem kit_nl : kitB "NoneType" "list" = some false := by decide +kernel
theorem kit_ii : kitB "int" "int" = some true := by decide +kernel
theorem kit_ib : kitB "int" "bool" = some false := by decide +kernel
theorem kit_bb : kitB "bool" "bool" = some true := by decide +kernel
theorem kit_bi : kitB "bool" "int" = some true := by decide +kernel
theorem kit_ni : kitB "NoneType" "int" = some false := by decide +kernel
theorem kit_si : kitB "str" "int" = some false := by decide +kernel
theorem kit_tt : kitB "tuple" "tuple" = some true := by decide +kernel
theorem kit_lt : kitB "list" "tuple" = some false := by decide +kernel
theorem kit_li : kitB "list" "int" = some false := by decide +kernel

/-! ### sorted, min of data -/
def alkD (ds : List D) : Prop := PySem.W.AllAlike (ds.map D.py) ∧ PySem.W.Sortable (ds.map D.py)
def leD : D → D → Bool := PySem.W.dataLe false D.py
def rSrtD (K : Frag) : List V → Hp → VK → Prop := fun xs H Q => ∃ (a : Addr) (bs : List (V × D)), xs = [.ref a] ∧ SqL K H a (bs.map (·.1)) ∧ (∀ p ∈ bs, Rep K H p.1 p.2 ∧ p.2.sh 60 = true) ∧ alkD (bs.map (·.2)) ∧
  ∀ p, H p = none → Q (.ref p) (upd H p (.lst ((bs.mergeSort fun p q => leD p.2 q.2).map (·.1))))
theorem each_of {α β : Type} {R : α → β → Prop} {S : β → Prop} {f : β → V} {g : V → α → Prop} (h : ∀ b u, S b → g (f b) u → R u b) : ∀ {bs : List β} {us : List α}, (∀ b ∈ bs, S b) → Paired g (bs.map f) us → PySem.W.EachIs R us bs
  | [], _, _, .nil => .nil
  | b :: bs, _, hs, .cons r t => .cons (h b _ (hs b List.mem_cons_self) r) (each_of h (fun c m => hs c (List.mem_cons_of_mem _ m)) t)
theorem paired_of {α β : Type} {R : α → β → Prop} {f : β → V} {g : V → α → Prop} (h : ∀ b u, R u b → g (f b) u) : ∀ {bs : List β} {us : List α}, PySem.W.EachIs R us bs → Paired g (bs.map f) us
  | _, _, .nil => .nil
  | _, _, .cons r t => .cons (h _ _ r) (paired_of h t)
theorem cr_srtD (hu : X.A.units + 64 < cLine) : CallR X (.builtin "sorted") (rSrtD X.K) := by
  intro pins s σ H vs us Q I r h
  obtain ⟨a, bs, rfl, hs, hb, ha, q⟩ := h
  obtain ⟨its, rv, hl, hz⟩ := I.list hs
  rw [Vals.ref1 r]
  have e1 : PySem.W.EachIs (fun (u : Value) (b : V × D) => RelV b.1 u) its bs := each_of (S := fun _ => True) (f := fun b : V × D => b.1) (g := RelV) (fun b u _ z => z) (fun _ _ => trivial) rv
  have e2 : PySem.W.EachIs (fun (u : Value) (b : V × D) => ∃ as, Reads s.heap u b.2.py as) its bs := each_of (S := fun b : V × D => Rep X.K H b.1 b.2 ∧ b.2.sh 60 = true) (f := fun b : V × D => b.1) (g := RelV) (fun b u z ru => Dp.reads I _ _ _ (rep_dp 60 _ _ z.2 z.1) ru) hb rv
  have hn : bs.length ≤ sizeLine := by simpa using hz
  have hal : PySem.W.AllAlike (bs.map fun b => b.2.py) := by
    have z := ha.1
    rw [List.map_map] at z
    exact z
  have hsb : PySem.W.Sortable (bs.map fun b => b.2.py) := by
    have z := ha.2
    rw [List.map_map] at z
    exact z
  refine PySem.W.sorted_data (enc := fun b : V × D => b.2.py) hl.isList e1 e2 hal hsb hn (fun b m => ?_) fun out ho he => ?_
  · have z := (sh_lay 60 b.2 (hb b m).2).2
    omega
  · obtain ⟨ep, he'⟩ := PyProof.Rows.sortedAll_at s.heap its out.toArray
    have rv2 := paired_of (f := fun b : V × D => b.1) (g := RelV) (fun b u z => z) he
    have hlen : ((bs.mergeSort fun p q => leD p.2 q.2).map (·.1)).length ≤ sizeLine := by rw [List.length_map, List.length_mergeSort]; exact hn
    exact ⟨.ref _, upd H (s.heap.objs.size + 1) (.lst ((bs.mergeSort fun p q => leD p.2 q.2).map (·.1))), I.laid (t' := s.toks) (fun _ _ => PyProof.Rows.sortedAll_old) (Nat.le_succ _) ⟨hlen, out, ep, rv2, he'⟩, rfl, q _ (I.hok.fresh (Nat.le_succ _))⟩
def fSrt : FL := fun ds P => match ds with
  | [.lst xs] => xs.all (D.sh 59) = true ∧ alkD xs ∧ P (xs.mergeSort leD)
  | [.tup xs] => False
  | _ => False
theorem reps_zip {K : Frag} {B : Hp} : ∀ {vs : List V} {ds : List D}, Reps K B vs ds → (vs.zip ds).map (·.1) = vs ∧ (vs.zip ds).map (·.2) = ds ∧ ∀ p ∈ vs.zip ds, Rep K B p.1 p.2
  | _, _, .nil => ⟨rfl, rfl, fun _ m => by simp at m⟩
  | _, _, .cons h r => by
    obtain ⟨a, b, c⟩ := reps_zip r
    refine ⟨by simp [a], by simp [b], fun p m => ?_⟩
    simp only [List.zip_cons_cons, List.mem_cons] at m
    rcases m with rfl | m
    · exact h
    · exact c p m
theorem reps_of {K : Frag} {B : Hp} : ∀ (bs : List (V × D)), (∀ p ∈ bs, Rep K B p.1 p.2) → Reps K B (bs.map (·.1)) (bs.map (·.2))
  | [], _ => .nil
  | b :: bs, h => .cons (h b List.mem_cons_self) (reps_of bs fun p m => h p (List.mem_cons_of_mem _ m))
theorem sh_mono : ∀ {n m : Nat} {d : D}, n ≤ m → d.sh n = true → d.sh m = true := by
  intro n
  induction n with
  | zero => intro m d h z; cases m <;> cases d <;> simp_all [D.sh]
  | succ n ih =>
    intro m d h z
    cases m with
    | zero => omega
    | succ m =>
      have hh : n ≤ m := by omega
      cases d with
      | lst xs =>
        simp only [D.sh, List.all_eq_true] at z ⊢
        exact fun x hx => ih hh (z x hx)
      | tup xs =>
        simp only [D.sh, List.all_eq_true] at z ⊢
        exact fun x hx => ih hh (z x hx)
      | _ => simp_all [D.sh]
theorem does_srt {K : Frag} : DoesF K (rSrtD K) fSrt := fun ms H xs ds P Q b rr h k => by
  have em : Ex (hid ms H) H := hid_ex
  unfold fSrt at h
  split at h
  · rename_i ys
    obtain ⟨v, rfl, r⟩ := rr.one
    obtain ⟨a, vs, rfl, h1, r1⟩ := r.list em
    obtain ⟨z1, z2, z3⟩ := reps_zip r1
    have hsh : ∀ d ∈ ys, d.sh 60 = true := fun d m => sh_mono (by decide : 59 ≤ 60) (List.all_eq_true.mp h.1 d m)
    refine ⟨a, vs.zip ys, rfl, by rw [z1]; exact SqL.of h1, fun p m => ⟨(z3 p m).mono em, hsh _ (by rw [← z2]; exact List.mem_map_of_mem m)⟩, by rw [z2]; exact h.2.1, fun p n => ?_⟩
    have e2 : ((vs.zip ys).mergeSort fun p q => leD p.2 q.2).map (·.2) = ys.mergeSort leD := by
      rw [PySem.W.sort_maps (s := leD) (fun p : V × D => p.2) (fun _ _ _ _ => rfl), z2]
    have e3 := reps_of (K := K) (B := hid ms H) ((vs.zip ys).mergeSort fun p q => leD p.2 q.2) fun p m => z3 p ((List.mergeSort_perm _ _).mem_iff.mp m)
    rw [e2] at e3
    exact k _ p _ _ h.2.2 n (Ex.new n) upd_same (reps_new n e3)
  · exact h.elim
  · exact h.elim
theorem fx_sorted {k : Nat} {e : Expr} {p pos : Pos} {t : XT} (hr : Room k X.A) (hg : Gl X "sorted") (hm : X.mg "sorted" = none) (h : PE X e (Lb X.K t)) (he : starEach [e] X.env = (false, eval e X.env) :: starEach [] X.env := by rfl) (hpl : (backTo pos (starEach [] X.env)).any (·.1) = false := by rfl) :
    PE X (.Call (.Name "sorted" p) [e] [] pos) (Lf X.K (fCall fSrt (aCons t aNil))) := fx_callB (cr_srtD hr.units) does_srt hg hm (by decide +kernel) (aw_cons h aw_nil he) (by decide) (by decide) he hpl
end
end Kb
set_option Elab.async false
set_option linter.all false
set_option maxRecDepth 100000
set_option maxHeartbeats 1000000
/-! Kb4: stores into slots, targets, what is walked, comprehensions. -/
namespace Kb
open PySem L2
set_option autoImplicit false

/-! ### slots stored -/
theorem adr_nil : adr [] = [] := rfl
theorem adr_cons (o : Option Slot) (Γ : Env) : adr (o :: Γ) = (match o.bind Slot.ad with
  | some a => a :: adr Γ
  | none => adr Γ) := by
  unfold adr
  cases h : o.bind Slot.ad with
  | none => simp [List.filterMap_cons, h]
  | some a => simp [List.filterMap_cons, h]
theorem mem_adr_cons {o : Option Slot} {Γ : Env} {a : Addr} : a ∈ adr (o :: Γ) ↔ o.bind Slot.ad = some a ∨ a ∈ adr Γ := by
  rw [adr_cons]
  cases h : o.bind Slot.ad with
  | none => simp
  | some b =>
    simp only [List.mem_cons, Option.some.injEq]
    constructor
    · rintro (rfl | h) <;> simp_all
    · rintro (rfl | h) <;> simp_all
theorem adr_set_sub {Γ : Env} : ∀ {i : Nat} {o : Option Slot} {a : Addr}, a ∈ adr (Γ.set i o) → a ∈ adr Γ ∨ o.bind Slot.ad = some a := by
  induction Γ with
  | nil => intro i o a h; simp [adr] at h
  | cons p Γ ih =>
    intro i o a h
    cases i with
    | zero =>
      rw [List.set_cons_zero, mem_adr_cons] at h
      rcases h with h | h
      · exact .inr h
      · exact .inl (mem_adr_cons.mpr (.inr h))
    | succ i =>
      rw [List.set_cons_succ, mem_adr_cons] at h
      rcases h with h | h
      · exact .inl (mem_adr_cons.mpr (.inl h))
      · rcases ih h with h | h
        · exact .inl (mem_adr_cons.mpr (.inr h))
        · exact .inr h
theorem adr_set_nodup {Γ : Env} (nd : (adr Γ).Nodup) : ∀ {i : Nat} {o : Option Slot}, (∀ a, o.bind Slot.ad = some a → a ∉ adr Γ) → (adr (Γ.set i o)).Nodup := by
  induction Γ with
  | nil => intro i o h; simp [adr]
  | cons p Γ ih =>
    intro i o h
    have nd' : (adr Γ).Nodup := by
      rw [adr_cons] at nd
      split at nd
      · exact (List.nodup_cons.mp nd).2
      · exact nd
    have h' : ∀ a, o.bind Slot.ad = some a → a ∉ adr Γ := fun a e m => h a e (mem_adr_cons.mpr (.inr m))
    cases i with
    | zero =>
      rw [List.set_cons_zero, adr_cons]
      split
      · rename_i a e
        exact List.nodup_cons.mpr ⟨h' a e, nd'⟩
      · exact nd'
    | succ i =>
      rw [List.set_cons_succ, adr_cons]
      split
      · rename_i a e
        refine List.nodup_cons.mpr ⟨fun m => ?_, ih nd' h'⟩
        rcases adr_set_sub m with m | m
        · rw [adr_cons, e] at nd
          exact (List.nodup_cons.mp nd).1 m
        · exact h a m (mem_adr_cons.mpr (.inl e))
      · exact ih nd' h'
theorem adr_ne {Γ : Env} (nd : (adr Γ).Nodup) : ∀ (i j : Nat) {s s2 : Slot} {a b : Addr}, i ≠ j → Γ[i]? = some (some s) → s.ad = some a → Γ[j]? = some (some s2) → s2.ad = some b → a ≠ b := by
  induction Γ with
  | nil => intro i j s s2 a b _ h; simp at h
  | cons p Γ ih =>
    intro i j s s2 a b hij hi ha hj hb z
    subst z
    rw [adr_cons] at nd
    cases i with
    | zero =>
      simp at hi
      subst hi
      cases j with
      | zero => exact hij rfl
      | succ j =>
        have e : (some s).bind Slot.ad = some a := ha
        rw [e] at nd
        exact (List.nodup_cons.mp nd).1 (mem_adr.mpr ⟨j, s2, by simpa using hj, hb⟩)
    | succ i =>
      cases j with
      | zero =>
        simp at hj
        subst hj
        have e : (some s2).bind Slot.ad = some a := hb
        rw [e] at nd
        exact (List.nodup_cons.mp nd).1 (mem_adr.mpr ⟨i, s, by simpa using hi, ha⟩)
      | succ j =>
        have nd' : (adr Γ).Nodup := by
          split at nd
          · exact (List.nodup_cons.mp nd).2
          · exact nd
        exact ih nd' i j (fun z => hij (by omega)) (by simpa using hi) ha (by simpa using hj) hb rfl
theorem own_set {Γ : Env} {ps : List Addr} {H0 : Hp} (h : ∀ (i : Nat) (s : Slot) (l : Addr), Γ[i]? = some (some s) → s.ad = some l → (s.par = true → l ∈ ps) ∧ (s.par = false → H0 l = none)) {i : Nat} {o : Option Slot}
    (ho : ∀ l, o.bind Slot.ad = some l → ((o.map Slot.par) = some true → l ∈ ps) ∧ ((o.map Slot.par) = some false → H0 l = none)) : ∀ (j : Nat) (s : Slot) (l : Addr), (Γ.set i o)[j]? = some (some s) → s.ad = some l → (s.par = true → l ∈ ps) ∧ (s.par = false → H0 l = none) := fun j s l e a => by
  by_cases hj : i = j
  · subst hj
    have hl : i < Γ.length := by
      have := (List.getElem?_eq_some_iff.mp e).1
      rwa [List.length_set] at this
    rw [List.getElem?_set_self hl] at e
    cases e
    obtain ⟨h1, h2⟩ := ho l a
    exact ⟨fun z => h1 (by rw [Option.map_some, z]), fun z => h2 (by rw [Option.map_some, z])⟩
  · rw [List.getElem?_set_ne hj] at e
    exact h j s l e a
section
variable {K : Frag} {H0 : Hp} {ps hs : List Addr} {Γ : Env} {σ : St} {H H2 : Hp}
theorem app_sub {as bs cs : List Addr} (h : ∀ a ∈ bs, a ∈ cs) : ∀ a ∈ as ++ bs, a ∈ as ++ cs := fun a m => (List.mem_append.mp m).elim (fun z => List.mem_append_left _ z) fun z => List.mem_append_right _ (h a z)
/-- data into a slot -/
theorem SE.set_im (se : SE K H0 ps hs Γ σ H) {v : V} {d : D} (r : Rep K (hid (hs ++ adr Γ) H) v d) (i : Nat) : SE K H0 ps hs (Γ.set i (some (.im d))) (σ.set i (some v)) H := by
  have sub : ∀ a ∈ adr (Γ.set i (some (.im d))), a ∈ adr Γ := fun a m => (adr_set_sub m).elim id fun z => by cases z
  have em : Ex (hid (hs ++ adr Γ) H) (hid (hs ++ adr (Γ.set i (some (.im d)))) H) := hid_sub (app_sub sub)
  refine ⟨by rw [List.length_set, List.length_set]; exact se.len, fun j s e => ?_, adr_set_nodup se.nd fun a z => (by cases z), se.fr, own_set se.own fun l z => (by cases z), se.psub, se.hx⟩
  by_cases hj : i = j
  · subst hj
    have hl : i < Γ.length := by
      have := (List.getElem?_eq_some_iff.mp e).1
      rwa [List.length_set] at this
    rw [List.getElem?_set_self hl] at e
    cases e
    refine ⟨v, ?_, r.mono em⟩
    rw [List.getElem?_set_self (by rw [se.len]; exact hl)]
  · rw [List.getElem?_set_ne hj] at e
    obtain ⟨u, h1, h2⟩ := se.ok j s e
    exact ⟨u, by rw [List.getElem?_set_ne hj]; exact h1, h2.mono em (hid_sub sub) (Same.refl H)⟩
theorem hid_fresh {ms : List Addr} {p : Addr} (n : H p = none) (e : Ex H H2) : Ex (hid ms H) (hid (p :: ms) H2) := fun a o q => by
  have ha : a ∉ ms := fun m => by rw [hid_in m] at q; cases q
  rw [hid_ni ha] at q
  rw [hid_ni (fun m => (List.mem_cons.mp m).elim (ne_of_none q n) ha)]
  exact e _ _ q
/-- a new object of one's own into a slot -/
theorem SE.set_own (se : SE K H0 ps hs Γ σ H) {l : Addr} (n : H l = none) (e : Ex H H2) {v : V} {s : Slot} (ha : s.ad = some l) (hpar : s.par = false) (ok : SlotOk K (hid (l :: (hs ++ adr Γ)) H2) (hid (l :: adr Γ) H2) H2 v s) (i : Nat) : SE K H0 ps hs (Γ.set i (some s)) (σ.set i (some v)) H2 := by
  have nl : l ∉ adr Γ := se.fresh n
  have sub : ∀ a ∈ adr (Γ.set i (some s)), a ∈ l :: adr Γ := fun a m => (adr_set_sub m).elim (fun z => List.mem_cons_of_mem _ z) fun z => by
    have q : some l = some a := ha.symm.trans z
    cases q
    exact List.mem_cons_self
  have sub2 : ∀ a ∈ hs ++ adr (Γ.set i (some s)), a ∈ l :: (hs ++ adr Γ) := fun a m => by
    rcases List.mem_append.mp m with m | m
    · exact List.mem_cons_of_mem _ (List.mem_append_left _ m)
    · rcases List.mem_cons.mp (sub a m) with rfl | m
      · exact List.mem_cons_self
      · exact List.mem_cons_of_mem _ (List.mem_append_right _ m)
  have em : Ex (hid (l :: (hs ++ adr Γ)) H2) (hid (hs ++ adr (Γ.set i (some s))) H2) := hid_sub sub2
  refine ⟨by rw [List.length_set, List.length_set]; exact se.len, fun j s' q => ?_, adr_set_nodup se.nd fun a z => ?_, fun a o h q => e _ _ (se.fr a o h q), own_set se.own ?_, se.psub, (se.mono e).hx⟩
  · by_cases hj : i = j
    · subst hj
      have hl : i < Γ.length := by
        have := (List.getElem?_eq_some_iff.mp q).1
        rwa [List.length_set] at this
      rw [List.getElem?_set_self hl] at q
      cases q
      refine ⟨v, ?_, ok.mono em (hid_sub sub) (Same.refl H2)⟩
      rw [List.getElem?_set_self (by rw [se.len]; exact hl)]
    · rw [List.getElem?_set_ne hj] at q
      obtain ⟨u, h1, h2⟩ := se.ok j s' q
      refine ⟨u, by rw [List.getElem?_set_ne hj]; exact h1, ?_⟩
      exact h2.mono ((hid_fresh n e).trans em) ((hid_fresh n e).trans (hid_sub sub)) e
  · have q : some l = some a := ha.symm.trans z
    cases q
    exact nl
  · intro l' z
    refine ⟨fun q => (by rw [Option.map_some, hpar] at q; cases q), fun _ => ?_⟩
    have q : some l = some l' := ha.symm.trans z
    cases q
    cases z : H0 l with
    | none => rfl
    | some o =>
      by_cases hp : l ∈ ps
      · exact absurd n (se.hx l (se.psub l hp))
      · rw [se.fr l o hp z] at n; cases n
/-- a slot's object of one's own changed -/
theorem SE.write (se : SE K H0 ps hs Γ σ H) {i : Nat} {s s' : Slot} {l : Addr} (hi : Γ[i]? = some (some s)) (ha : s.ad = some l) (ha' : s'.ad = some l) (hpp : s'.par = s.par) {o : HO}
    (ok : SlotOk K (hid (hs ++ adr Γ) H) (hid (adr Γ) H) (upd H l o) (.ref l) s') : SE K H0 ps hs (Γ.set i (some s')) σ (upd H l o) ∧ adr (Γ.set i (some s')) = adr Γ := by
  have eq : adr (Γ.set i (some s')) = adr Γ := by
    clear se ok
    induction Γ generalizing i with
    | nil => simp at hi
    | cons p Γ ih =>
      cases i with
      | zero =>
        simp at hi
        subst hi
        rw [List.set_cons_zero, adr_cons, adr_cons]
        show (match s'.ad with
          | some a => a :: adr Γ
          | none => adr Γ) = (match s.ad with
          | some a => a :: adr Γ
          | none => adr Γ)
        rw [ha, ha']
      | succ i => rw [List.set_cons_succ, adr_cons, adr_cons, ih (by simpa using hi)]
  have hm : l ∈ adr Γ := mem_adr.mpr ⟨i, s, hi, ha⟩
  have hB : hid (hs ++ adr Γ) (upd H l o) = hid (hs ++ adr Γ) H := hid_upd (List.mem_append_right _ hm)
  have hG : hid (adr Γ) (upd H l o) = hid (adr Γ) H := hid_upd hm
  refine ⟨⟨by rw [List.length_set]; exact se.len, fun j s2 q => ?_, by rw [eq]; exact se.nd, fun a u h q => ?_, own_set se.own ?_, se.psub, fun a m q => ?_⟩, eq⟩
  · rw [eq, hB, hG]
    by_cases hj : i = j
    · subst hj
      have hlt : i < Γ.length := (List.getElem?_eq_some_iff.mp hi).1
      rw [List.getElem?_set_self hlt] at q
      cases q
      obtain ⟨u, h1, h2⟩ := se.ok i s hi
      have hv : u = .ref l := by
        cases s with
        | im d => cases ha
        | bo d => cases ha
        | ml _ _ => cases ha; exact h2.1
        | pl _ _ => cases ha; exact h2.1
        | md _ _ => cases ha; exact h2.1
        | mt _ _ => cases ha; exact h2.1
        | mi _ _ _ => cases ha; exact h2.1
      subst hv
      exact ⟨_, h1, ok⟩
    · rw [List.getElem?_set_ne hj] at q
      obtain ⟨u, h1, h2⟩ := se.ok j s2 q
      refine ⟨u, h1, ?_⟩
      have nd : ∀ l2, s2.ad = some l2 → l2 ≠ l := fun l2 h3 z => by
        exact adr_ne se.nd i j hj hi ha q h3 z.symm
      cases s2 with
      | im d => exact h2
      | bo d => exact h2
      | ml l2 ds => obtain ⟨a, vs, b, c⟩ := h2; exact ⟨a, vs, by rw [upd_ne (nd l2 rfl)]; exact b, c⟩
      | pl l2 ds => obtain ⟨a, vs, b, c⟩ := h2; exact ⟨a, vs, by rw [upd_ne (nd l2 rfl)]; exact b, c⟩
      | md l2 es => obtain ⟨a, vs, b, c⟩ := h2; exact ⟨a, vs, by rw [upd_ne (nd l2 rfl)]; exact b, c⟩
      | mt l2 es => obtain ⟨a, vs, b, c⟩ := h2; exact ⟨a, vs, by rw [upd_ne (nd l2 rfl)]; exact b, c⟩
      | mi l2 C fs => obtain ⟨a, dx, vs, b, c⟩ := h2; exact ⟨a, dx, vs, by rw [upd_ne (nd l2 rfl)]; exact b, c⟩
  · have na : a ≠ l := fun z => by
      subst z
      cases hp : s.par with
      | true => exact h ((se.own i s a hi ha).1 hp)
      | false => rw [(se.own i s a hi ha).2 hp] at q; cases q
    rw [upd_ne na]
    exact se.fr a u h q
  · intro l' z
    have q : some l = some l' := ha'.symm.trans z
    cases q
    obtain ⟨h1, h2⟩ := se.own i s l hi ha
    refine ⟨fun z => h1 ?_, fun z => h2 ?_⟩
    · rw [Option.map_some, hpp] at z; exact Option.some.inj z
    · rw [Option.map_some, hpp] at z; exact Option.some.inj z
  · by_cases z : a = l
    · subst z; rw [upd_same] at q; cases q
    · rw [upd_ne z] at q; exact se.hx a m q
end
end Kb
set_option Elab.async false
set_option linter.all false
set_option maxRecDepth 100000
set_option maxHeartbeats 1000000
/-! Kb5: targets, what is walked, comprehensions. -/
namespace Kb
open PySem L2
set_option autoImplicit false

abbrev GT := D → Env → (Env → Prop) → Prop
abbrev GTs := List D → Env → (Env → Prop) → Prop
def free (Γ : Env) (i : Nat) : Bool := match Γ[i]? with
  | some (some s) => s.ad.isNone
  | _ => true
def gN (i : Nat) : GT := fun d Γ Q => free Γ i = true ∧ Q (Γ.set i (some (.im d)))
def gsN : GTs := fun ds Γ Q => match ds with
  | [] => Q Γ
  | _ => False
def gsC (g : GT) (u : GTs) : GTs := fun ds Γ Q => match ds with
  | d :: r => g d Γ fun Γ2 => u r Γ2 Q
  | _ => False
def gTu (n : Nat) (u : GTs) : GT := fun d Γ Q => match d with
  | .tup ds => ds.length = n ∧ u ds Γ Q
  | _ => False
def Lg (K : Frag) (own : List Nat) (g : GT) : TG := fun v σ H Q => ∃ (H0 : Hp) (ps hs : List Addr) (Γ : Env) (d : D) (P : Env → Prop), SE K H0 ps hs Γ σ H ∧ Rep K (hid (hs ++ adr Γ) H) v d ∧ g d Γ P ∧
  ∀ Γ2 σ2, P Γ2 → adr Γ2 = adr Γ → SE K H0 ps hs Γ2 σ2 H → σ2.length = σ.length → (∀ j, j ∉ own → σ2[j]? = σ[j]?) → Q σ2 H
def Lgs (K : Frag) (own : List Nat) (g : GTs) : TGs := fun vs σ H Q => ∃ (H0 : Hp) (ps hs : List Addr) (Γ : Env) (ds : List D) (P : Env → Prop), SE K H0 ps hs Γ σ H ∧ Reps K (hid (hs ++ adr Γ) H) vs ds ∧ g ds Γ P ∧
  ∀ Γ2 σ2, P Γ2 → adr Γ2 = adr Γ → SE K H0 ps hs Γ2 σ2 H → σ2.length = σ.length → (∀ j, j ∉ own → σ2[j]? = σ[j]?) → Q σ2 H
theorem adr_free {Γ : Env} : ∀ {i : Nat} {d : D}, free Γ i = true → adr (Γ.set i (some (.im d))) = adr Γ := by
  induction Γ with
  | nil => intro i d _; rfl
  | cons p Γ ih =>
    intro i d h
    cases i with
    | zero =>
      rw [List.set_cons_zero, adr_cons, adr_cons]
      cases p with
      | none => rfl
      | some s =>
        have z : s.ad.isNone = true := h
        show adr Γ = (match s.ad with
          | some a => a :: adr Γ
          | none => adr Γ)
        cases e : s.ad with
        | none => rfl
        | some a => rw [e] at z; cases z
    | succ i =>
      rw [List.set_cons_succ, adr_cons, adr_cons, ih (by simpa [free] using h)]
section
variable {X : Cx}
theorem pg_imp {tg : Expr} {t t' : TG} (h : PG X tg t) (hi : ∀ v σ H Q, t' v σ H Q → t v σ H Q) : PG X tg t' := ⟨fun pins s σ H v u Q I r q => h.run pins s σ H v u Q I r (hi v σ H Q q)⟩
theorem pgs_imp {tg : List Expr} {t t' : TGs} (h : PGs X tg t) (hi : ∀ v σ H Q, t' v σ H Q → t v σ H Q) : PGs X tg t' := ⟨fun pins s σ H v u Q I r q => h.run pins s σ H v u Q I r (hi v σ H Q q)⟩
theorem gx_name {i : Nat} {x : Str} {pos : Pos} (hN : X.N.Nodup) (hi : X.N[i]? = some x := by rfl) (hx : Loc X.env.scope x := by first | exact Or.inl rfl | exact Or.inr rfl) (hf : X.fn x = true ∨ X.env.scope.names.lookup x = some .local := by first | exact .inl rfl | exact .inr rfl | assumption) :
    PG X (.Name x pos) (Lg X.K [i] (gN i)) := pg_imp (pg_name hN hi hx hf) fun v σ H Q ⟨H0, ps, hs, Γ, d, P, se, r, hg, k⟩ => by
  refine k _ _ hg.2 (adr_free hg.1) (se.set_im r i) (by rw [List.length_set]) fun j hj => ?_
  rw [List.getElem?_set_ne]
  intro z
  exact hj (by rw [z]; exact List.mem_singleton.mpr rfl)
theorem gx_nil : PGs X [] (Lgs X.K [] gsN) := pgs_imp pgs_nil fun vs σ H Q ⟨H0, ps, hs, Γ, ds, P, se, r, hg, k⟩ => by
  cases ds with
  | nil => cases r; exact ⟨rfl, k Γ σ hg rfl se rfl fun _ _ => rfl⟩
  | cons d ds => exact hg.elim
theorem gx_cons {e : Expr} {es : List Expr} {g : GT} {u : GTs} {o1 o2 : List Nat} (h1 : PG X e (Lg X.K o1 g)) (h2 : PGs X es (Lgs X.K o2 u)) (hs : (assignEach (e :: es) X.env).map (·.2) = assign e X.env :: (assignEach es X.env).map (·.2) := by rfl) :
    PGs X (e :: es) (Lgs X.K (o1 ++ o2) (gsC g u)) := pgs_imp (pgs_cons h1 h2 hs) fun vs σ H Q ⟨H0, ps, hs, Γ, ds, P, se, r, hg, k⟩ => by
  cases ds with
  | nil => exact hg.elim
  | cons d ds =>
    cases r with
    | cons ra rb =>
      refine ⟨_, _, rfl, H0, ps, hs, Γ, d, _, se, ra, hg, fun Γ2 σ2 p a2 se2 l2 ag2 => ?_⟩
      refine ⟨H0, ps, hs, Γ2, ds, _, se2, by rw [a2]; exact rb, p, fun Γ3 σ3 p3 a3 se3 l3 ag3 => k Γ3 σ3 p3 (a3.trans a2) se3 (l3.trans l2) fun j hj => ?_⟩
      rw [ag3 j fun z => hj (List.mem_append_right _ z), ag2 j fun z => hj (List.mem_append_left _ z)]
theorem gx_tup {es : List Expr} {k0 : Nat} {u : GTs} {o : List Nat} {n : Nat} {pos : Pos} (hc : X.calm = true) (h : PGs X es (Lgs X.K o u)) (hn : (assignEach es X.env).length = n := by rfl) (hst : (assignEach es X.env).findIdx? (·.1) = none := by rfl) :
    PG X (.Tuple es k0 pos) (Lg X.K o (gTu n u)) := pg_imp (pg_tup hc h hn hst) fun v σ H Q ⟨H0, ps, hs, Γ, d, P, se, r, hg, k⟩ => by
  cases d with
  | tup ds =>
    cases r with
    | tup a b => exact ⟨_, _, rfl, hid_ex.st a, by rw [b.length]; exact hg.1, H0, ps, hs, Γ, ds, P, se, b, hg.2, k⟩
  | _ => exact hg.elim
end

/-! ### what is walked -/
structure Walks (K : Frag) (S : Hp → Prop) (B : Hp) (J : It) (ds : List D) : Prop where
  go : ∀ i H, S H → i < ds.length → J.go i H
  yl : ∀ i H x H', S H → i < ds.length → J.yld i H x H' → Ex H H' ∧ ∃ d, ds[i]? = some d ∧ ∀ ms, Bs ms H → Ex B (hid ms H) → Rep K (hid ms H') x d
  st : ∀ i H, S H → ds.length = i → J.stop i H
theorem Walks.imp {K : Frag} {S S' : Hp → Prop} {B : Hp} {J : It} {ds : List D} (w : Walks K S B J ds) (h : ∀ H, S' H → S H) : Walks K S' B J ds := ⟨fun i H s => w.go i H (h H s), fun i H x H' s => w.yl i H x H' (h H s), fun i H s => w.st i H (h H s)⟩
def LI (K : Frag) (t : FT) : TI := fun σ H R => ∃ (H0 : Hp) (ps hs : List Addr) (Γ : Env) (P : List D → Prop), SE K H0 ps hs Γ σ H ∧ t Γ P ∧ ∀ ds J H2, P ds → Ex H H2 → Walks K (fun H' => Ex (hid (hs ++ adr Γ) H2) H') (hid (hs ++ adr Γ) H2) J ds → R J H2
def LB (K : Frag) (t : FT) : TI := fun σ H R => ∃ (H0 : Hp) (ps hs : List Addr) (Γ : Env) (P : List D → Prop), SE K H0 ps hs Γ σ H ∧ t Γ P ∧ ∀ ds J H2, P ds → Ex H H2 → Walks K (fun H' => Ex H2 H') (hid (hs ++ adr Γ) H2) J ds → R J H2
theorem walk_list {K : Frag} {S : Hp → Prop} {B : Hp} {a : Addr} {vs : List V} {ds : List D} (hS : ∀ H, S H → SqL K H a vs) (r : Reps K B vs ds) : Walks K S B (Itl K a) ds where
  go := fun i H s h => ⟨vs, vs[i]'(by rw [r.length]; exact h), hS H s, List.getElem?_eq_getElem _⟩
  yl := fun i H x H' s h ⟨e, y⟩ => (by
    subst e
    obtain ⟨d, h1, h2⟩ := r.get (y vs (hS _ s))
    exact ⟨Same.refl _, d, h1, fun ms _ e => h2.mono e⟩)
  st := fun i H s h => ⟨vs, hS H s, Nat.le_of_eq (by rw [r.length]; exact h)⟩
theorem walk_tup {K : Frag} {S : Hp → Prop} {B : Hp} {a : Addr} {vs : List V} {ds : List D} (hS : ∀ H, S H → SqT K H a vs) (r : Reps K B vs ds) : Walks K S B (Itt K a) ds where
  go := fun i H s h => ⟨vs, vs[i]'(by rw [r.length]; exact h), hS H s, List.getElem?_eq_getElem _⟩
  yl := fun i H x H' s h ⟨e, y⟩ => (by
    subst e
    obtain ⟨d, h1, h2⟩ := r.get (y vs (hS _ s))
    exact ⟨Same.refl _, d, h1, fun ms _ e => h2.mono e⟩)
  st := fun i H s h => ⟨vs, hS H s, Nat.le_of_eq (by rw [r.length]; exact h)⟩
def rngD (lo c : Int) (n : Nat) : List D := (List.range n).map fun k => .int (lo + (k : Nat) * c)
theorem walk_rng {K : Frag} {S : Hp → Prop} {B : Hp} {lo : Int} {n : Nat} : Walks K S B (Itr lo n) (rngD lo 1 n) where
  go := fun i H s h => by
    have z : i < n := by simpa [rngD] using h
    exact z
  yl := fun i H x H' s h ⟨e, y⟩ => ⟨by rw [e]; exact Same.refl _, .int (lo + i), by
    have hi : i < n := by simpa [rngD] using h
    simp [rngD, hi], fun ms _ _ => by rw [y]; exact .int _⟩
  st := fun i H s h => by
    have z : n = i := by simpa [rngD] using h
    exact Nat.le_of_eq z
theorem walk_rngC {K : Frag} {S : Hp → Prop} {B : Hp} {lo c : Int} {n : Nat} : Walks K S B (Itc lo c n) (rngD lo c n) where
  go := fun i H s h => by
    have z : i < n := by simpa [rngD] using h
    exact z
  yl := fun i H x H' s h ⟨e, y⟩ => ⟨by rw [e]; exact Same.refl _, .int (lo + (i : Nat) * c), by
    have hi : i < n := by simpa [rngD] using h
    simp [rngD, hi], fun ms _ _ => by rw [y]; exact .int _⟩
  st := fun i H s h => by
    have z : n = i := by simpa [rngD] using h
    exact Nat.le_of_eq z
def iL (t : XT) : FT := fun Γ P => t Γ fun d => match d with
  | .lst xs => P xs
  | _ => False
def iT (t : XT) : FT := fun Γ P => t Γ fun d => match d with
  | .tup xs => P xs
  | _ => False
def iR1 (t : FT) : FT := fun Γ P => t Γ fun ds => match ds with
  | [.int j] => -(2 ^ 62) ≤ j ∧ j < 2 ^ 62 ∧ P (rngD 0 1 j.toNat)
  | _ => False
def iR2 (t : FT) : FT := fun Γ P => t Γ fun ds => match ds with
  | [.int i, .int j] => (-(2 ^ 62) ≤ i ∧ i < 2 ^ 62 ∧ -(2 ^ 62) ≤ j ∧ j < 2 ^ 62) ∧ P (rngD i 1 (j - i).toNat)
  | _ => False
def iR3 (t : FT) : FT := fun Γ P => t Γ fun ds => match ds with
  | [.int i, .int j, .int c] => ∃ n, RgC i j c n ∧ P (rngD i c n)
  | _ => False
section
variable {X : Cx} {tg e : Expr}
theorem pi_imp {t t' : TI} (h : PI X tg e t) (hi : ∀ σ H R, t' σ H R → t σ H R) : PI X tg e t' := ⟨fun pins s σ H R I q => h.run pins s σ H R I (hi σ H R q)⟩
theorem il_list {t : XT} (h : PE X e (Li X.K t)) : PI X tg e (LI X.K (iL t)) := pi_imp (pi_list h) fun σ H R ⟨H0, ps, hs, Γ, P, se, ht, k⟩ => ⟨H0, ps, hs, Γ, _, se, ht, fun d v H2 p e r => by
  cases d with
  | lst xs =>
    cases r with
    | lst a b => exact ⟨_, rfl, ⟨_, SqL.of (hid_ex _ _ a)⟩, k _ _ H2 p e (walk_list (fun H' s => SqL.of (s _ _ a)) b)⟩
  | _ => exact p.elim⟩
theorem il_tup {t : XT} (h : PE X e (Li X.K t)) : PI X tg e (LI X.K (iT t)) := pi_imp (pi_tup h) fun σ H R ⟨H0, ps, hs, Γ, P, se, ht, k⟩ => ⟨H0, ps, hs, Γ, _, se, ht, fun d v H2 p e r => by
  cases d with
  | tup xs =>
    cases r with
    | tup a b => exact ⟨_, rfl, ⟨_, hid_ex.st a⟩, k _ _ H2 p e (walk_tup (fun H' s => s.st a) b)⟩
  | _ => exact p.elim⟩
theorem ib_list {t : XT} (h : PE X e (Lb X.K t)) : PI X tg e (LB X.K (iL t)) := pi_imp (pi_list h) fun σ H R ⟨H0, ps, hs, Γ, P, se, ht, k⟩ => ⟨H0, ps, hs, Γ, _, se, ht, fun d v H2 p e r => by
  cases d with
  | lst xs =>
    obtain ⟨a, vs, rfl, h1, r1⟩ := r.list hid_ex
    exact ⟨_, rfl, ⟨_, SqL.of h1⟩, k _ _ H2 p e (walk_list (fun H' s => SqL.of (s _ _ h1)) r1)⟩
  | _ => exact p.elim⟩
theorem ib {t : FT} (h : PI X tg e (LI X.K t)) : PI X tg e (LB X.K t) := pi_imp h fun σ H R ⟨H0, ps, hs, Γ, P, se, ht, k⟩ => ⟨H0, ps, hs, Γ, _, se, ht, fun ds J H2 p e w => k ds J H2 p e (w.imp fun H' s => fun a o q => s a o (hid_ex a o q))⟩
theorem RepWs.ints {K : Frag} {B H : Hp} : ∀ {vs : List V} {ds : List D}, RepWs K B H vs ds → ∀ {ns : List Int}, ds = ns.map D.int → vs = ns.map V.int
  | _, _, .nil, [], _ => rfl
  | _, _, .nil, _ :: _, h => by cases h
  | _, _, .cons a b, [], h => by cases h
  | _, _, .cons a b, n :: ns, h => by
    simp only [List.map_cons, List.cons.injEq] at h
    obtain ⟨rfl, h⟩ := h
    cases a.intv
    rw [b.ints h]
    rfl
theorem il_r1 {a : Expr} {t : FT} {p pos : Pos} (hg : Gl X "range") (hm : X.mg "range" = none) (ha : PA X [a] (LaW X.K t)) (hs : starEach [a] X.env = [(false, eval a X.env)] := by rfl) : PI X tg (.Call (.Name "range" p) [a] [] pos) (LI X.K (iR1 t)) :=
  pi_imp (pi_range1 hg hm ha hs) fun σ H R ⟨H0, ps, hs, Γ, P, se, ht, k⟩ => ⟨H0, ps, hs, Γ, _, se, ht, fun ds vs H2 p e r => by
    split at p
    · exact ⟨_, r.ints (ns := [_]) rfl, p.1, p.2.1, k _ _ H2 p.2.2 e walk_rng⟩
    · exact p.elim⟩
theorem il_r2 {a b : Expr} {t : FT} {p pos : Pos} (hg : Gl X "range") (hm : X.mg "range" = none) (ha : PA X [a, b] (LaW X.K t)) (hs : starEach [a, b] X.env = [(false, eval a X.env), (false, eval b X.env)] := by rfl) (hs2 : starEach [b] X.env = [(false, eval b X.env)] := by rfl) :
    PI X tg (.Call (.Name "range" p) [a, b] [] pos) (LI X.K (iR2 t)) :=
  pi_imp (pi_range2 hg hm ha hs hs2) fun σ H R ⟨H0, ps, hs, Γ, P, se, ht, k⟩ => ⟨H0, ps, hs, Γ, _, se, ht, fun ds vs H2 p e r => by
    split at p
    · exact ⟨_, _, r.ints (ns := [_, _]) rfl, p.1, k _ _ H2 p.2 e walk_rng⟩
    · exact p.elim⟩
theorem il_r3 {a b c : Expr} {t : FT} {p pos : Pos} (hg : Gl X "range") (hm : X.mg "range" = none) (ha : PA X [a, b, c] (LaW X.K t)) (hs : starEach [a, b, c] X.env = (false, eval a X.env) :: starEach [b, c] X.env := by rfl) (hpl : (backTo pos (starEach [b, c] X.env)).any (·.1) = false := by rfl) :
    PI X tg (.Call (.Name "range" p) [a, b, c] [] pos) (LI X.K (iR3 t)) :=
  pi_imp (pi_range3 hg hm ha hs hpl) fun σ H R ⟨H0, ps, hs, Γ, P, se, ht, k⟩ => ⟨H0, ps, hs, Γ, _, se, ht, fun ds vs H2 p e r => by
    split at p
    · obtain ⟨n, h1, h2⟩ := p
      exact ⟨_, _, _, n, r.ints (ns := [_, _, _]) rfl, h1, k _ _ H2 h2 e walk_rngC⟩
    · exact p.elim⟩
end

/-! ### comprehensions -/
def wipeE (Γ : Env) : List Nat → Env
  | [] => Γ
  | v :: vs => (wipeE Γ vs).set v none
theorem SE.set_none {K : Frag} {H0 : Hp} {ps hs : List Addr} {Γ : Env} {σ : St} {H : Hp} (se : SE K H0 ps hs Γ σ H) (i : Nat) : SE K H0 ps hs (Γ.set i none) (σ.set i none) H := by
  have sub : ∀ a ∈ adr (Γ.set i none), a ∈ adr Γ := fun a m => (adr_set_sub m).elim id fun z => by cases z
  refine ⟨by rw [List.length_set, List.length_set]; exact se.len, fun j s e => ?_, adr_set_nodup se.nd fun a z => (by cases z), se.fr, own_set se.own fun l z => (by cases z), se.psub, se.hx⟩
  by_cases hj : i = j
  · subst hj
    have hl : i < Γ.length := by
      have := (List.getElem?_eq_some_iff.mp e).1
      rwa [List.length_set] at this
    rw [List.getElem?_set_self hl] at e
    cases e
  · rw [List.getElem?_set_ne hj] at e
    obtain ⟨u, h1, h2⟩ := se.ok j s e
    exact ⟨u, by rw [List.getElem?_set_ne hj]; exact h1, h2.mono (hid_sub (app_sub sub)) (hid_sub sub) (Same.refl H)⟩
theorem SE.wipe {K : Frag} {H0 : Hp} {ps hs : List Addr} {Γ : Env} {σ : St} {H : Hp} (se : SE K H0 ps hs Γ σ H) : ∀ vs : List Nat, SE K H0 ps hs (wipeE Γ vs) (wipe σ vs) H
  | [] => se
  | v :: vs => (se.wipe vs).set_none v
theorem wipe_get (σ : St) : ∀ (vs : List Nat) (j : Nat), (wipe σ vs)[j]? = if j ∈ vs then (σ[j]?).map (fun _ => none) else σ[j]?
  | [], j => by simp [wipe]
  | v :: vs, j => by
    unfold wipe
    by_cases h : v = j
    · subst h
      simp only [List.mem_cons, true_or, if_true]
      by_cases hl : v < σ.length
      · rw [List.getElem?_set_self (by rw [wipe_length]; exact hl), List.getElem?_eq_getElem hl]
        rfl
      · rw [List.getElem?_eq_none (by rw [List.length_set, wipe_length]; omega), List.getElem?_eq_none (by omega)]
        rfl
    · rw [List.getElem?_set_ne h, wipe_get σ vs j]
      have : j ∈ v :: vs ↔ j ∈ vs := by simp [Ne.symm h]
      simp only [this]
theorem wipe_eq {σ τ : St} {vs own : List Nat} (hl : τ.length = (wipe σ vs).length) (hag : ∀ j, j ∉ own → τ[j]? = (wipe σ vs)[j]?) (hsub : ∀ j ∈ own, j ∈ vs) : wipe τ vs = wipe σ vs := by
  have hl' : τ.length = σ.length := by rw [hl, wipe_length]
  apply List.ext_getElem?
  intro j
  rw [wipe_get, wipe_get]
  by_cases h : j ∈ vs
  · simp only [h, if_true]
    by_cases hj : j < σ.length
    · rw [List.getElem?_eq_getElem (by omega : j < τ.length), List.getElem?_eq_getElem hj]; rfl
    · rw [List.getElem?_eq_none (by omega), List.getElem?_eq_none (by omega)]
  · simp only [h, if_false]
    rw [hag j (fun z => h (hsub j z)), wipe_get]
    simp only [h, if_false]
theorem SE.hide {K : Frag} {H0 : Hp} {ps hs : List Addr} {Γ : Env} {σ : St} {H H' : Hp} (se : SE K H0 ps hs Γ σ H) {p : Addr} (n : H p = none) (e : Ex H H') (hp : H' p ≠ none) : SE K H0 ps (p :: hs) Γ σ H' := by
  have s2 := se.mono e
  refine ⟨se.len, fun i s q => ?_, se.nd, s2.fr, se.own, fun l m => List.mem_cons_of_mem _ (se.psub l m), fun l m => ?_⟩
  · obtain ⟨v, h1, h2⟩ := se.ok i s q
    exact ⟨v, h1, h2.mono (hid_fresh n e) (hid_ex2 e) e⟩
  · rcases List.mem_cons.mp m with rfl | m
    · exact hp
    · exact s2.hx l m
/-- a comprehension's block over the items ds -/
def LcB (Γ : Env) (g : GT) (tt : BT) (te : XT) (vs : List Nat) (ds : List D) (P : List D → Prop) : Prop := ds.length ≤ sizeLine ∧ adr (wipeE Γ vs) = adr Γ ∧
  ∃ zs : List (Option D), zs.length = ds.length ∧ (∀ (i : Nat) (d : D) (o : Option D), ds[i]? = some d → zs[i]? = some o → g d (wipeE Γ vs) fun Γ2 => tt Γ2 fun b => (b = true → te Γ2 fun z => o = some z) ∧ (b = false → o = none)) ∧ P (zs.filterMap id)
def fLc (ti : FT) (g : GT) (tt : BT) (te : XT) (vs : List Nat) : FT := fun Γ P => ti Γ fun ds => LcB Γ g tt te vs ds P
theorem lcb {α : Type} {Γ : Env} {g : GT} {tt : BT} {te : XT} {vs : List Nat} {P : List D → Prop} {xs : List α} {enc : α → D} (o : α → Option D) (hl : xs.length ≤ sizeLine)
    (hb : ∀ x ∈ xs, g (enc x) (wipeE Γ vs) fun Γ2 => tt Γ2 fun b => (b = true → te Γ2 fun z => o x = some z) ∧ (b = false → o x = none)) (hP : P (xs.filterMap o)) (ha : adr (wipeE Γ vs) = adr Γ := by rfl) : LcB Γ g tt te vs (xs.map enc) P := by
  refine ⟨by rw [List.length_map]; exact hl, ha, xs.map o, by rw [List.length_map, List.length_map], fun i d z h1 h2 => ?_, ?_⟩
  · rw [List.getElem?_map] at h1 h2
    cases e : xs[i]? with
    | none => rw [e] at h1; cases h1
    | some x =>
      rw [e] at h1 h2
      cases h1
      cases h2
      exact hb x (List.mem_iff_getElem?.mpr ⟨i, e⟩)
  · rw [List.filterMap_map]
    exact hP
def bYes : BT := fun _ P => P true
section
variable {X : Cx}
theorem pts_imp {ifs : List Expr} {t t' : TT} (h : PTs X ifs t) (hi : ∀ σ H Q, t' σ H Q → t σ H Q) : PTs X ifs t' := ⟨fun pins s σ H Q I q => h.run pins s σ H Q I (hi σ H Q q)⟩
theorem tts_nil : PTs X [] (Lt X.K bYes) := pts_imp pts_nil fun σ H Q ⟨H0, ps, hs, Γ, P, se, ht, k⟩ => k true H ht (Same.refl H)
theorem tts_one {c : Expr} {t : BT} (h : PT X c (Lt X.K t)) : PTs X [c] (Lt X.K t) := pts_one h
theorem bs_cons {p : Addr} {ms : List Addr} {H : Hp} (h : H p ≠ none) (b : Bs ms H) : Bs (p :: ms) H := fun a m => by
  rcases List.mem_cons.mp m with rfl | m
  · exact h
  · exact b a m
theorem lc_li {vs : List Nat} {ti : FT} {g : GT} {tt : BT} {te : XT} {gown : List Nat} (hsub : ∀ j ∈ gown, j ∈ vs) {K : Frag} (σ : St) (H : Hp) (Q : VK) (h : Lf K (fLc ti g tt te vs) σ H Q) : tLc (LB K ti) (Lg K gown g) (Lt K tt) (Li K te) vs σ H Q := by
  obtain ⟨H0, ps, hs, Γ, P, se, hti, k⟩ := h
  refine ⟨H0, ps, hs, Γ, _, se, hti, fun ds J H1 hp e1 w => fun Dl nD => ?_⟩
  obtain ⟨hlen, hadr, zs, hzl, hf, hP⟩ := hp
  have se1 := se.mono e1
  have nH : H Dl = none := fresh_of e1 nD
  refine ⟨fun i m H' => m = ds.length - i ∧ i ≤ ds.length ∧ Ex H1 H' ∧ ∃ acc, H' Dl = some (.lst acc) ∧ acc.length ≤ i ∧ Reps K (hid (Dl :: (hs ++ adr Γ)) H') acc ((zs.take i).filterMap id),
    ⟨ds.length, by simp, Nat.zero_le _, Ex.new nD, [], upd_same, Nat.le_refl _, .nil⟩, ?_⟩
  rintro i m H' ⟨rfl, hil, eH, acc, hD, hacc, racc⟩
  by_cases hlt : i < ds.length
  · refine .inr ⟨w.go i H' eH hlt, fun H'' => Ex H1 H'' ∧ ∃ acc, H'' Dl = some (.lst acc) ∧ acc.length ≤ i + 1 ∧ Reps K (hid (Dl :: (hs ++ adr Γ)) H'') acc ((zs.take (i + 1)).filterMap id), ?_, ?_⟩
    · rintro H'' ⟨e2, acc', a, b, c⟩
      exact ⟨ds.length - (i + 1), by omega, rfl, hlt, e2, acc', a, b, c⟩
    · intro x H'' hy
      obtain ⟨e9, d, hd, rx⟩ := w.yl i H' x H'' eH hlt hy
      replace rx := rx (Dl :: (hs ++ adr Γ)) (bs_cons (by rw [hD]; intro z; cases z) (se1.bs.mono eH)) (hid_fresh nD eH)
      replace eH := eH.trans e9
      replace hD := e9 _ _ hD
      replace racc := racc.mono (hid_ex2 e9)
      have hzi : i < zs.length := by omega
      obtain ⟨oz, hoz⟩ : ∃ oz, zs[i]? = some oz := ⟨_, List.getElem?_eq_getElem hzi⟩
      have seI : SE K H0 ps (Dl :: hs) (wipeE Γ vs) (wipe σ vs) H'' := (se1.hide nD eH (by rw [hD]; intro z; cases z)).wipe _
      have htk : zs.take (i + 1) = zs.take i ++ [oz] := by
        rw [List.take_add_one, hoz]; rfl
      refine ⟨H0, ps, Dl :: hs, wipeE Γ vs, d, _, seI, ?_, hf i d oz hd hoz, fun Γ2 σ2 p2 a2 se2 l2 ag2 => ?_⟩
      · rw [hadr]
        exact rx
      · refine ⟨wipe_eq l2 ag2 hsub, H0, ps, Dl :: hs, Γ2, _, se2, p2, fun b H3 hb e3 => ?_⟩
        have hD3 : H3 Dl = some (.lst acc) := e3 _ _ hD
        cases b with
        | true =>
          refine iteT ⟨H0, ps, Dl :: hs, Γ2, _, se2.mono e3, hb.1 rfl, fun z y H4 hz e4 r4 => ?_⟩
          have hD4 : H4 Dl = some (.lst acc) := e4 _ _ hD3
          rw [a2, hadr] at r4
          refine ⟨acc, hD4, by omega, ?_, acc ++ [y], upd_same, by simp; omega, ?_⟩
          · intro a o q
            rw [upd_ne (ne_of_none q nD)]
            exact e4 _ _ (e3 _ _ (eH _ _ q))
          · rw [hid_upd List.mem_cons_self, htk, List.filterMap_append]
            have ez : [oz].filterMap id = [z] := by simp [hz]
            rw [ez]
            exact (racc.mono (hid_ex2 (e3.trans e4))).append (.one r4)
        | false =>
          refine iteF ⟨fun a o q => e3 _ _ (eH _ _ q), acc, hD3, by omega, ?_⟩
          rw [htk, List.filterMap_append]
          have ez : [oz].filterMap id = [] := by simp [hb.2 rfl]
          rw [ez, List.append_nil]
          exact racc.mono (hid_ex2 e3)
  · have e : i = ds.length := by omega
    subst e
    refine .inl ⟨w.st _ H' eH rfl, ?_⟩
    rw [← hzl, List.take_length] at racc
    exact k _ Dl acc H' hP nH (e1.trans eH) hD racc
theorem fx_lc {elt tg iter : Expr} {ifs : List Expr} {scope : Scope} {own : List (Str × Nat)} {pos : Pos} {ti : FT} {g : GT} {tt : BT} {te : XT} {gown : List Nat} (hc : X.calm = true) (hN : X.N.Nodup) (hi : PI X tg iter (LB X.K ti)) (ok : BlkOk X.N X.env.scope scope own)
    (hg : ∀ (s : Shared) (H : Hp) (C : Addr) (cl : List (Str × Addr)) (fp : List Addr), PG (X.blk s H scope (compEnvC scope cl C X.env) fp) tg (Lg X.K gown g)) (ht : ∀ (s : Shared) (H : Hp) (C : Addr) (cl : List (Str × Addr)) (fp : List Addr), PTs (X.blk s H scope (compEnvC scope cl C X.env) fp) ifs (Lt X.K tt))
    (he : ∀ (s : Shared) (H : Hp) (C : Addr) (cl : List (Str × Addr)) (fp : List Addr), PE (X.blk s H scope (compEnvC scope cl C X.env) fp) elt (Li X.K te)) (hsub : ∀ j ∈ gown, j ∈ own.map (·.2) := by decide) (hs : ∀ x, foldedSetIterable iter X.env x = pure x := by intro _; rfl) :
    PE X (.ListComp elt [⟨tg, iter, ifs, 0⟩] scope pos) (Lf X.K (fLc ti g tt te (own.map (·.2)))) :=
  pe_imp (pe_lc hc hN hi ok hg ht he hs) (lc_li hsub)
end
end Kb
set_option Elab.async false
set_option linter.all false
set_option maxRecDepth 100000
set_option maxHeartbeats 1000000
/-! Kb6: statements. -/
namespace Kb
open PySem L2
set_option autoImplicit false

/-- what is handed back: data; a new list, dicts -/
inductive Rs where
  | d (d : D) | fl (ds : List D) | fd (es : List (Key × D)) | ft (es : List (List Key × D))
def ResOk (K : Frag) (H0 : Hp) (hs : List Addr) (H : Hp) (v : V) : Rs → Prop
  | .d d => Rep K (hid hs H) v d
  | .fl ds => ∃ p vs, v = .ref p ∧ H0 p = none ∧ H p = some (.lst vs) ∧ Reps K (hid (p :: hs) H) vs ds
  | .fd es => ∃ (p : Addr) (kvs : List (Key × V)), v = .ref p ∧ H0 p = none ∧ H p = some (.dK kvs) ∧ kvs.map (·.1) = es.map (·.1) ∧ Reps K (hid (p :: hs) H) (kvs.map (·.2)) (es.map (·.2))
  | .ft es => ∃ (p : Addr) (kvs : List (List Key × V)), v = .ref p ∧ H0 p = none ∧ H p = some (.dT kvs) ∧ kvs.map (·.1) = es.map (·.1) ∧ Reps K (hid (p :: hs) H) (kvs.map (·.2)) (es.map (·.2))
structure En where
  nx : Env → Prop
  rt : Rs → Env → Prop
  bk : Env → Prop := fun _ => False
  ct : Env → Prop := fun _ => False
  /-- an error of an own class leaves: its class, its fields -/
  ex : Addr → List (Str × D) → Env → Prop := fun _ _ _ => False
abbrev ST := En → Env → Prop
/-- nothing is raised -/
abbrev W0 : WX := fun _ _ _ _ => False
def Kp (hs : List Addr) (Γ : Env) (H : Hp) (Γ' : Env) (H' : Hp) : Prop := Ex (hid (adr Γ) H) (hid (adr Γ') H')
theorem Kp.x {hs : List Addr} {Γ Γ' : Env} {H H' : Hp} (k : Kp hs Γ H Γ' H') : Ex (hid (hs ++ adr Γ) H) (hid (hs ++ adr Γ') H') := fun a o q => by
  have h1 : a ∉ hs ++ adr Γ := fun m => by rw [hid_in m] at q; cases q
  rw [hid_ni h1] at q
  have h2 := k a o (by rw [hid_ni (fun m => h1 (List.mem_append_right _ m))]; exact q)
  have h3 : a ∉ adr Γ' := fun m => by rw [hid_in m] at h2; cases h2
  rw [hid_ni h3] at h2
  rw [hid_ni (fun m => (List.mem_append.mp m).elim (fun z => h1 (List.mem_append_left _ z)) h3)]
  exact h2
theorem Kp.refl {hs : List Addr} {Γ : Env} {H : Hp} : Kp hs Γ H Γ H := Same.refl _
theorem Kp.trans {hs : List Addr} {Γ Γ1 Γ2 : Env} {H H1 H2 : Hp} (a : Kp hs Γ H Γ1 H1) (b : Kp hs Γ1 H1 Γ2 H2) : Kp hs Γ H Γ2 H2 := Same.trans a b
theorem Kp.ex {hs : List Addr} {Γ : Env} {H H' : Hp} (e : Ex H H') : Kp hs Γ H Γ H' := hid_ex2 e
/-- the error's own dict -/
def ExD (K : Frag) (ms : List Addr) (H : Hp) (d : Option Addr) (fs : List (Str × D)) : Prop := match d with
  | none => fs = []
  | some d => d ∉ ms ∧ ∃ fvs : List (Str × V), H d = some (.xd fvs) ∧ fvs.map (·.1) = fs.map (·.1) ∧ Reps K (hid ms H) (fvs.map (·.2)) (fs.map (·.2))
structure Rel (W : WX) (K : Frag) (H0 : Hp) (ps hs : List Addr) (Γ : Env) (H : Hp) (E : En) (D : Ends) : Prop where
  nx : ∀ Γ' σ' H', E.nx Γ' → SE K H0 ps hs Γ' σ' H' → Kp hs Γ H Γ' H' → D.nx σ' H'
  rt : ∀ r Γ' σ' v H', E.rt r Γ' → SE K H0 ps hs Γ' σ' H' → ResOk K H0 hs H' v r → D.rt v H'
  bk : ∀ Γ' σ' H', E.bk Γ' → SE K H0 ps hs Γ' σ' H' → Kp hs Γ H Γ' H' → D.bk σ' H'
  ct : ∀ Γ' σ' H', E.ct Γ' → SE K H0 ps hs Γ' σ' H' → Kp hs Γ H Γ' H' → D.ct σ' H'
  ex : ∀ C fs Γ' σ' H' d, E.ex C fs Γ' → SE K H0 ps hs Γ' σ' H' → Kp hs Γ H Γ' H' → ExD K (hs ++ adr Γ') H' d fs → W (.ref C) d σ' H'
def Ls (K : Frag) (W : WX) (t : ST) : TS := fun D σ H => ∃ (H0 : Hp) (ps hs : List Addr) (Γ : Env) (E : En), SE K H0 ps hs Γ σ H ∧ t E Γ ∧ Rel W K H0 ps hs Γ H E D
theorem Rel.from {W : WX} {K : Frag} {H0 : Hp} {ps hs : List Addr} {Γ Γ1 : Env} {H H1 : Hp} {E : En} {D : Ends} (r : Rel W K H0 ps hs Γ H E D) (k : Kp hs Γ H Γ1 H1) : Rel W K H0 ps hs Γ1 H1 E D :=
  ⟨fun Γ' σ' H' a b c => r.nx Γ' σ' H' a b (k.trans c), r.rt, fun Γ' σ' H' a b c => r.bk Γ' σ' H' a b (k.trans c), fun Γ' σ' H' a b c => r.ct Γ' σ' H' a b (k.trans c), fun C fs Γ' σ' H' d a b c x => r.ex C fs Γ' σ' H' d a b (k.trans c) x⟩

section
variable {X : Cx} {W : WX}
theorem ps_imp {st : Stmt} {t t' : TS} (h : PS X st t) (hi : ∀ D σ H, t' D σ H → t D σ H) : PS X st t' := ⟨fun pins s σ H D I q => h.run pins s σ H D I (hi D σ H q)⟩
theorem pss_imp {st : List Stmt} {t t' : TS} (h : PSs X st t) (hi : ∀ D σ H, t' D σ H → t D σ H) : PSs X st t' := ⟨fun pins s σ H D I q => h.run pins s σ H D I (hi D σ H q)⟩
def sNext : ST := fun E Γ => E.nx Γ
def sSeq (t u : ST) : ST := fun E Γ => t { E with nx := u E } Γ
theorem ss_nil : PSs X [] (Ls X.K W sNext) := pss_imp pss_nil fun D σ H ⟨H0, ps, hs, Γ, E, se, ht, r⟩ => r.nx Γ σ H ht se Kp.refl
theorem ss_one {st : Stmt} {t : ST} (h : PS X st (Ls X.K W t)) : PSs X [st] (Ls X.K W t) := pss_one h
theorem ss_cons {st : Stmt} {rest : List Stmt} {t u : ST} (h1 : PS X st (Ls X.K W t)) (h2 : PSs X rest (Ls X.K W u)) : PSs X (st :: rest) (Ls X.K W (sSeq t u)) := pss_imp (pss_cons h1 h2) fun D σ H ⟨H0, ps, hs, Γ, E, se, ht, r⟩ =>
  ⟨H0, ps, hs, Γ, { E with nx := u E }, se, ht, ⟨fun Γ' σ' H' a b c => ⟨H0, ps, hs, Γ', E, b, a, r.from c⟩, r.rt, r.bk, r.ct, r.ex⟩⟩
theorem ss_never {st : List Stmt} : PSs X st (Ls X.K W fun _ _ => False) := pss_imp pss_never fun D σ H ⟨H0, ps, hs, Γ, E, se, ht, r⟩ => ht.elim
theorem s_never {st : Stmt} : PS X st (Ls X.K W fun _ _ => False) := ps_imp ps_never fun D σ H ⟨H0, ps, hs, Γ, E, se, ht, r⟩ => ht.elim
theorem s_pass {pos : Pos} : PS X (.Pass pos) (Ls X.K W sNext) := ps_imp ps_pass fun D σ H ⟨H0, ps, hs, Γ, E, se, ht, r⟩ => r.nx Γ σ H ht se Kp.refl
def sBreak : ST := fun E Γ => E.bk Γ
def sCont : ST := fun E Γ => E.ct Γ
theorem s_break {pos : Pos} : PS X (.Break pos) (Ls X.K W sBreak) := ps_imp ps_break fun D σ H ⟨H0, ps, hs, Γ, E, se, ht, r⟩ => r.bk Γ σ H ht se Kp.refl
theorem s_cont {pos : Pos} : PS X (.Continue pos) (Ls X.K W sCont) := ps_imp ps_continue fun D σ H ⟨H0, ps, hs, Γ, E, se, ht, r⟩ => r.ct Γ σ H ht se Kp.refl
/-! ### return -/
theorem rep_out {K : Frag} {hs : List Addr} {Γ : Env} {H : Hp} {v : V} {d : D} (r : Rep K (hid (hs ++ adr Γ) H) v d) : Rep K (hid hs H) v d := r.mono (hid_sub fun a m => List.mem_append_left _ m)
def sRet (t : XT) : ST := fun E Γ => t Γ fun d => E.rt (.d d) Γ
theorem s_ret {e : Expr} {pos : Pos} {t : XT} (h : PE X e (Li X.K t)) : PS X (.Return (some e) pos) (Ls X.K W (sRet t)) := ps_imp (ps_ret h) fun D σ H ⟨H0, ps, hs, Γ, E, se, ht, r⟩ =>
  ⟨H0, ps, hs, Γ, _, se, ht, fun d v H2 p e rr => r.rt (.d d) Γ σ v H2 p (se.mono e) (rep_out rr)⟩
theorem s_retN {pos : Pos} : PS X (.Return none pos) (Ls X.K W (sRet (xC .non))) := ps_imp ps_retN fun D σ H ⟨H0, ps, hs, Γ, E, se, ht, r⟩ => r.rt (.d .non) Γ σ _ H ht se .non
theorem SE.h0 {K : Frag} {H0 : Hp} {ps hs : List Addr} {Γ : Env} {σ : St} {H : Hp} (se : SE K H0 ps hs Γ σ H) {p : Addr} (n : H p = none) : H0 p = none := by
  cases z : H0 p with
  | none => rfl
  | some o =>
    by_cases hp : p ∈ ps
    · exact absurd n (se.hx p (se.psub p hp))
    · rw [se.fr p o hp z] at n; cases n
def sRetF (t : FT) : ST := fun E Γ => t Γ fun ds => E.rt (.fl ds) Γ
theorem s_retF {e : Expr} {pos : Pos} {t : FT} (h : PE X e (Lf X.K t)) : PS X (.Return (some e) pos) (Ls X.K W (sRetF t)) := ps_imp (ps_ret h) fun D σ H ⟨H0, ps, hs, Γ, E, se, ht, r⟩ =>
  ⟨H0, ps, hs, Γ, _, se, ht, fun ds q vs H2 p n e h2 rr => r.rt (.fl ds) Γ σ _ H2 p (se.mono e) ⟨q, vs, rfl, se.h0 n, h2, rr.mono (hid_sub fun a m => (List.mem_cons.mp m).elim (fun z => by rw [z]; exact List.mem_cons_self) fun z => List.mem_cons_of_mem _ (List.mem_append_left _ z))⟩⟩
/-- return of a list, dict of one's own -/
def sRetO (i : Nat) : ST := fun E Γ => match Γ[i]? with
  | some (some (.ml _ ds)) => E.rt (.fl ds) Γ
  | some (some (.md _ es)) => E.rt (.fd es) Γ
  | some (some (.mt _ es)) => E.rt (.ft es) Γ
  | _ => False
theorem s_retO (i : Nat) {x : Str} {pos pos' : Pos} (hN : X.N[i]? = some x := by rfl) (hv : Vis X.env.scope x := by first | exact Or.inl rfl | exact Or.inr (Or.inl rfl) | exact Or.inr (Or.inr rfl)) (hd : (x == ("__debug__" : Str)) = false := by decide)
    (hcd : (x == ("__classdict__" : Str)) = false := by decide) : PS X (.Return (some (.Name x pos')) pos) (Ls X.K W (sRetO i)) := ps_imp (ps_ret (pe_var hN hv hd hcd)) fun D σ H ⟨H0, ps, hs, Γ, E, se, ht, r⟩ => by
  unfold sRetO at ht
  have sub : ∀ l, l ∈ adr Γ → ∀ a ∈ l :: hs, a ∈ hs ++ adr Γ := fun l hl a m => (List.mem_cons.mp m).elim (fun z => by rw [z]; exact List.mem_append_right _ hl) fun z => List.mem_append_left _ z
  split at ht
  · rename_i l ds e
    obtain ⟨v, h1, rfl, vs, h2, h3⟩ := se.ok i _ e
    exact ⟨_, h1, r.rt (.fl ds) Γ σ _ H ht se ⟨l, vs, rfl, (se.own i _ l e rfl).2 rfl, h2, h3.mono (hid_sub (sub l (mem_adr.mpr ⟨i, _, e, rfl⟩)))⟩⟩
  · rename_i l es e
    obtain ⟨v, h1, rfl, vs, h2, h3, h4⟩ := se.ok i _ e
    exact ⟨_, h1, r.rt (.fd es) Γ σ _ H ht se ⟨l, vs, rfl, (se.own i _ l e rfl).2 rfl, h2, h3, h4.mono (hid_sub (sub l (mem_adr.mpr ⟨i, _, e, rfl⟩)))⟩⟩
  · rename_i l es e
    obtain ⟨v, h1, rfl, vs, h2, h3, h4⟩ := se.ok i _ e
    exact ⟨_, h1, r.rt (.ft es) Γ σ _ H ht se ⟨l, vs, rfl, (se.own i _ l e rfl).2 rfl, h2, h3, h4.mono (hid_sub (sub l (mem_adr.mpr ⟨i, _, e, rfl⟩)))⟩⟩
  · exact ht.elim
/-! ### assignment -/
theorem kp_set_im {hs : List Addr} {Γ : Env} {H H2 : Hp} {i : Nat} {d : D} (e : Ex H H2) : Kp hs Γ H (Γ.set i (some (.im d))) H2 :=
  (hid_ex2 e).trans (hid_sub fun a m => (adr_set_sub m).elim id fun z => by cases z)
theorem kp_set_own {hs : List Addr} {Γ : Env} {H H2 : Hp} {i : Nat} {s : Slot} {l : Addr} (n : H l = none) (e : Ex H H2) (ha : s.ad = some l) : Kp hs Γ H (Γ.set i (some s)) H2 :=
  (hid_fresh n e).trans (hid_sub fun a m => by
    rcases adr_set_sub m with m | m
    · exact List.mem_cons_of_mem _ m
    · have q : some l = some a := ha.symm.trans m
      cases q
      exact List.mem_cons_self)
def sAsg (i : Nat) (t : XT) : ST := fun E Γ => t Γ fun d => E.nx (Γ.set i (some (.im d)))
theorem asg_li {W : WX} {K : Frag} {i : Nat} {t : XT} (D : Ends) (σ : St) (H : Hp) (h : Ls K W (sAsg i t) D σ H) : tAsg (Li K t) (gName i) D σ H := by
  obtain ⟨H0, ps, hs, Γ, E, se, ht, r⟩ := h
  exact ⟨H0, ps, hs, Γ, _, se, ht, fun d v H2 p e rr => r.nx _ _ H2 p ((se.mono e).set_im rr i) (kp_set_im e)⟩
theorem s_asg {i : Nat} {x : Str} {e : Expr} {t : XT} {pos pos' : Pos} (hN : X.N.Nodup) (he : PE X e (Li X.K t)) (hi : X.N[i]? = some x := by rfl) (hx : Loc X.env.scope x := by first | exact Or.inl rfl | exact Or.inr rfl) (hs : swapsWith e (some (.Name x pos')) pos.line X.env = pure false := by rfl) (hf : X.fn x = true ∨ X.env.scope.names.lookup x = some .local := by first | exact .inl rfl | exact .inr rfl | assumption) :
    PS X (.Assign [.Name x pos'] e pos) (Ls X.K W (sAsg i t)) := ps_imp (ps_set hN hi hx he hs hf) asg_li
def sAsgF (i : Nat) (t : FT) : ST := fun E Γ => t Γ fun ds => ∀ l, l ∉ adr Γ → E.nx (Γ.set i (some (.ml l ds)))
theorem slot_ml {K : Frag} {hs : List Addr} {Γ : Env} {H2 : Hp} {q : Addr} {vs : List V} {ds : List D} (h2 : H2 q = some (.lst vs)) (rr : Reps K (hid (q :: (hs ++ adr Γ)) H2) vs ds) : SlotOk K (hid (q :: (hs ++ adr Γ)) H2) (hid (q :: adr Γ) H2) H2 (.ref q) (.ml q ds) := ⟨rfl, vs, h2, rr⟩
theorem asgF_li {W : WX} {K : Frag} {i : Nat} {t : FT} (D : Ends) (σ : St) (H : Hp) (h : Ls K W (sAsgF i t) D σ H) : tAsg (Lf K t) (gName i) D σ H := by
  obtain ⟨H0, ps, hs, Γ, E, se, ht, r⟩ := h
  exact ⟨H0, ps, hs, Γ, _, se, ht, fun ds q vs H2 p n e h2 rr => r.nx _ _ H2 (p q (se.fresh n)) (se.set_own n e rfl rfl (slot_ml h2 rr) i) (kp_set_own n e rfl)⟩
theorem s_asgF {i : Nat} {x : Str} {e : Expr} {t : FT} {pos pos' : Pos} (hN : X.N.Nodup) (he : PE X e (Lf X.K t)) (hi : X.N[i]? = some x := by rfl) (hx : Loc X.env.scope x := by first | exact Or.inl rfl | exact Or.inr rfl) (hs : swapsWith e (some (.Name x pos')) pos.line X.env = pure false := by rfl) (hf : X.fn x = true ∨ X.env.scope.names.lookup x = some .local := by first | exact .inl rfl | exact .inr rfl | assumption) :
    PS X (.Assign [.Name x pos'] e pos) (Ls X.K W (sAsgF i t)) := ps_imp (ps_set hN hi hx he hs hf) asgF_li
/-- x = [..] by a comprehension on one line: data, or a list of one's own -/
theorem lf_li {K : Frag} {t : FT} (σ : St) (H : Hp) (Q : VK) (h : Li K (xF t) σ H Q) : Lf K t σ H Q := by
  obtain ⟨H0, ps, hs, Γ, P, se, ht, k⟩ := h
  exact ⟨H0, ps, hs, Γ, fun ds => P (.lst ds), se, ht, fun ds p vs H2 q n e h2 r => k _ _ H2 q e (by
    have np : p ∉ hs ++ adr Γ := se.bs.new n
    exact .lst (by rw [hid_ni np]; exact h2) (r.mono (hid_sub fun a m => List.mem_cons_of_mem _ m)))⟩
section
variable {i : Nat} {y : Str} {py : Pos} {elt tg iter : Expr} {ifs : List Expr} {scope : Scope} {own : List (Str × Nat)} {pos spos : Pos} {ti : FT} {g : GT} {tt : BT} {te : XT} {gown : List Nat}
theorem s_lcF (hc : X.calm = true) (hN : X.N.Nodup) (hy : X.N[i]? = some y) (hyl : X.env.scope.names.lookup y = some .local)
    (hsw : swapsWith (.ListComp elt [⟨tg, iter, ifs, 0⟩] scope pos) (some (.Name y py)) spos.line X.env = pure true) (hi : PI X tg iter (LB X.K ti)) (ok : BlkOk X.N X.env.scope scope own)
    (hg : ∀ (s : Shared) (H : Hp) (C : Addr) (cl : List (Str × Addr)) (fp : List Addr), PG (X.blk s H scope (compEnvC scope cl C X.env) fp) tg (Lg X.K gown g)) (ht : ∀ (s : Shared) (H : Hp) (C : Addr) (cl : List (Str × Addr)) (fp : List Addr), PTs (X.blk s H scope (compEnvC scope cl C X.env) fp) ifs (Lt X.K tt))
    (he : ∀ (s : Shared) (H : Hp) (C : Addr) (cl : List (Str × Addr)) (fp : List Addr), PE (X.blk s H scope (compEnvC scope cl C X.env) fp) elt (Li X.K te)) (hsub : ∀ j ∈ gown, j ∈ own.map (·.2) := by decide) (hs : ∀ x, foldedSetIterable iter X.env x = pure x := by intro _; rfl) :
    PS X (.Assign [.Name y py] (.ListComp elt [⟨tg, iter, ifs, 0⟩] scope pos) spos) (Ls X.K W (sAsgF i (fLc ti g tt te (own.map (·.2))))) :=
  ps_imp (ps_setLc hc hN hy hyl hsw hi ok hg ht he hs) fun D σ H h => lc_li hsub σ H _ (asgF_li D σ H h)
theorem s_lc (hc : X.calm = true) (hN : X.N.Nodup) (hy : X.N[i]? = some y) (hyl : X.env.scope.names.lookup y = some .local)
    (hsw : swapsWith (.ListComp elt [⟨tg, iter, ifs, 0⟩] scope pos) (some (.Name y py)) spos.line X.env = pure true) (hi : PI X tg iter (LB X.K ti)) (ok : BlkOk X.N X.env.scope scope own)
    (hg : ∀ (s : Shared) (H : Hp) (C : Addr) (cl : List (Str × Addr)) (fp : List Addr), PG (X.blk s H scope (compEnvC scope cl C X.env) fp) tg (Lg X.K gown g)) (ht : ∀ (s : Shared) (H : Hp) (C : Addr) (cl : List (Str × Addr)) (fp : List Addr), PTs (X.blk s H scope (compEnvC scope cl C X.env) fp) ifs (Lt X.K tt))
    (he : ∀ (s : Shared) (H : Hp) (C : Addr) (cl : List (Str × Addr)) (fp : List Addr), PE (X.blk s H scope (compEnvC scope cl C X.env) fp) elt (Li X.K te)) (hsub : ∀ j ∈ gown, j ∈ own.map (·.2) := by decide) (hs : ∀ x, foldedSetIterable iter X.env x = pure x := by intro _; rfl) :
    PS X (.Assign [.Name y py] (.ListComp elt [⟨tg, iter, ifs, 0⟩] scope pos) spos) (Ls X.K W (sAsg i (xF (fLc ti g tt te (own.map (·.2)))))) :=
  ps_imp (ps_setLc hc hN hy hyl hsw hi ok hg ht he hs) fun D σ H h => lc_li hsub σ H _ (lf_li σ H _ (asg_li D σ H h))
end
/-- a, b = e -/
def sUnp (g : GT) (t : XT) : ST := fun E Γ => t Γ fun d => g d Γ E.nx
theorem s_unp {tg e : Expr} {t : XT} {g : GT} {own : List Nat} {pos : Pos} (he : PE X e (Li X.K t)) (hg : PG X tg (Lg X.K own g)) (hs : swapsWithSole [tg] e pos.line X.env = pure false := by rfl) (hw : swappedStores [tg] e X.env = pure none := by rfl)
    (h1 : (assignEach [tg] X.env).map (·.2) = [assign tg X.env] := by rfl) : PS X (.Assign [tg] e pos) (Ls X.K W (sUnp g t)) := ps_imp (ps_asg he hg hs hw h1) fun D σ H ⟨H0, ps, hs, Γ, E, se, ht, r⟩ =>
  ⟨H0, ps, hs, Γ, _, se, ht, fun d v H2 p e rr => ⟨H0, ps, hs, Γ, d, _, se.mono e, rr, p, fun Γ2 σ2 p2 a2 se2 _ _ => r.nx Γ2 σ2 H2 p2 se2 (by
    have z : Kp hs Γ H Γ H2 := Kp.ex e
    unfold Kp at z ⊢
    rw [a2]
    exact z)⟩⟩
/-- x += e -/
def sAug (i : Nat) (f : Int → Int → Int) (t : XT) : ST := fun E Γ => match Γ[i]? with
  | some (some (.im (.int a))) => t Γ fun d => (match d with
    | .int b => E.nx (Γ.set i (some (.im (.int (f a b)))))
    | _ => False)
  | _ => False
theorem s_aug {i : Nat} {x : Str} {op : Operator} {e : Expr} {t : XT} {f : Int → Int → Int} {pos pos' : Pos} (hN : X.N.Nodup) (he : PE X e (Lb X.K t)) (hip : PIp X op (ipI f)) (hi : X.N[i]? = some x := by rfl) (hx : Loc X.env.scope x := by first | exact Or.inl rfl | exact Or.inr rfl)
    (hf : X.fn x = true ∨ X.env.scope.names.lookup x = some .local := by first | exact .inl rfl | exact .inr rfl | assumption) : PS X (.AugAssign (.Name x pos') op e pos) (Ls X.K W (sAug i f t)) := ps_imp (ps_aug hN hi hx he hip hf) fun D σ H ⟨H0, ps, hs, Γ, E, se, ht, r⟩ => by
  unfold sAug at ht
  split at ht
  · rename_i a ea
    obtain ⟨v, h1, h2⟩ := se.ok i _ ea
    cases h2
    refine ⟨_, h1, H0, ps, hs, Γ, _, se, ht, fun d v H2 p e rr => ?_⟩
    cases d with
    | int b => cases rr.intv; exact ⟨a, b, rfl, rfl, r.nx _ _ H2 p ((se.mono e).set_im (.int _) i) (kp_set_im e)⟩
    | _ => exact p.elim
  · exact ht.elim
/-- an expression alone -/
def sDrop (t : XT) : ST := fun E Γ => t Γ fun _ => E.nx Γ
theorem s_drop {e : Expr} {t : XT} {pos : Pos} (he : PE X e (Lb X.K t)) (hs : swapsWith e none pos.line X.env = pure false := by rfl) : PS X (.Expr e pos) (Ls X.K W (sDrop t)) := ps_imp (ps_expr he hs) fun D σ H ⟨H0, ps, hs, Γ, E, se, ht, r⟩ =>
  ⟨H0, ps, hs, Γ, _, se, ht, fun d v H2 p e rr => r.nx Γ σ H2 p (se.mono e) (Kp.ex e)⟩
/-! ### if, for, while -/
def sIf (c : BT) (t u : ST) : ST := fun E Γ => c Γ fun b => (b = true → t E Γ) ∧ (b = false → u E Γ)
theorem s_if {c : Expr} {a b : List Stmt} {pos : Pos} {tc : BT} {t u : ST} (hc : PT X c (Lt X.K tc)) (ha : PSs X a (Ls X.K W t)) (hb : PSs X b (Ls X.K W u)) : PS X (.If c a b pos) (Ls X.K W (sIf tc t u)) := ps_imp (ps_if hc ha hb) fun D σ H ⟨H0, ps, hs, Γ, E, se, ht, r⟩ =>
  ⟨H0, ps, hs, Γ, _, se, ht, fun b H2 p e => by
    cases b with
    | true => exact iteT ⟨H0, ps, hs, Γ, E, se.mono e, p.1 rfl, r.from (Kp.ex e)⟩
    | false => exact iteF ⟨H0, ps, hs, Γ, E, se.mono e, p.2 rfl, r.from (Kp.ex e)⟩⟩
def ForB (g : GT) (tb : ST) (E : En) (Γ : Env) (ds : List D) : Prop := ∃ I : Nat → Env → Prop, I 0 Γ ∧ (∀ (i : Nat) (d : D) (Γ' : Env), ds[i]? = some d → I i Γ' → g d Γ' fun Γ2 => tb { nx := I (i + 1), rt := E.rt, ct := I (i + 1), bk := E.nx, ex := E.ex } Γ2) ∧ ∀ Γ', I ds.length Γ' → E.nx Γ'
def sFor (ti : FT) (g : GT) (tb : ST) : ST := fun E Γ => ti Γ fun ds => ForB g tb E Γ ds
/-- by an invariant over the items taken -/
theorem forb {α : Type} {g : GT} {tb : ST} {E : En} {Γ : Env} {xs : List α} {enc : α → D} (I : List α → Env → Prop) (h0 : I [] Γ) (hs : ∀ pre x post Γ', xs = pre ++ x :: post → I pre Γ' → g (enc x) Γ' fun Γ2 => tb { nx := I (pre ++ [x]), rt := E.rt, ct := I (pre ++ [x]), bk := E.nx, ex := E.ex } Γ2)
    (hd : ∀ Γ', I xs Γ' → E.nx Γ') : ForB g tb E Γ (xs.map enc) := by
  refine ⟨fun i Γ' => I (xs.take i) Γ', h0, fun i d Γ' e h => ?_, fun Γ' h => hd Γ' (by rw [List.length_map, List.take_length] at h; exact h)⟩
  rw [List.getElem?_map] at e
  cases z : xs[i]? with
  | none => rw [z] at e; cases e
  | some x =>
    rw [z] at e
    cases e
    have hi : i < xs.length := (List.getElem?_eq_some_iff.mp z).1
    have hx : xs[i] = x := (List.getElem?_eq_some_iff.mp z).2
    have ht : xs.take (i + 1) = xs.take i ++ [x] := by rw [List.take_add_one, z]; rfl
    show g (enc x) Γ' fun Γ2 => tb { nx := I (xs.take (i + 1)), rt := E.rt, ct := I (xs.take (i + 1)), bk := E.nx, ex := E.ex } Γ2
    rw [ht]
    refine hs (xs.take i) x (xs.drop (i + 1)) Γ' ?_ h
    have := List.take_append_drop i xs
    rw [List.drop_eq_getElem_cons hi, hx] at this
    exact this.symm
theorem s_for {tg iter : Expr} {body : List Stmt} {ti : FT} {g : GT} {tb : ST} {gown : List Nat} {pos : Pos} (hp : PassesOwn (model X.prog X.w) X.A X.env X.xe) (hc : X.calm = true) (hi : PI X tg iter (LI X.K ti)) (hg : PG X tg (Lg X.K gown g)) (hb : PSs X body (Ls X.K W tb))
    (hs : ∀ x, foldedSetIterable iter X.env x = pure x := by intro _; rfl) : PS X (.For tg iter body [] pos) (Ls X.K W (sFor ti g tb)) := ps_imp (ps_for hp hc hi hg hb hs) fun D σ H ⟨H0, ps, hs, Γ, E, se, ht, r⟩ => by
  refine ⟨H0, ps, hs, Γ, _, se, ht, fun ds J H1 hp e1 w => ?_⟩
  obtain ⟨I, i0, turn, done⟩ := hp
  have k1 : Kp hs Γ H Γ H1 := Kp.ex e1
  have S : ∀ Γ' H', Kp hs Γ H1 Γ' H' → Ex (hid (hs ++ adr Γ) H1) H' := fun Γ' H' k a o q => hid_ex _ _ (k.x a o q)
  refine ⟨fun i m σ' H' => m = ds.length - i ∧ i ≤ ds.length ∧ ∃ Γ', SE X.K H0 ps hs Γ' σ' H' ∧ Kp hs Γ H1 Γ' H' ∧ I i Γ', ⟨ds.length, by simp, Nat.zero_le _, Γ, se.mono e1, Kp.refl, i0⟩, ?_⟩
  rintro i m σ' H' ⟨rfl, hil, Γ', se', kp, hI⟩
  by_cases hlt : i < ds.length
  · refine .inr ⟨w.go i H' (S _ _ kp) hlt, fun σ'' H'' => ∃ Γ'', SE X.K H0 ps hs Γ'' σ'' H'' ∧ Kp hs Γ H1 Γ'' H'' ∧ I (i + 1) Γ'', ?_, fun x H'' hy => ?_⟩
    · rintro σ'' H'' ⟨Γ'', a, b, c⟩
      exact ⟨ds.length - (i + 1), by omega, rfl, hlt, Γ'', a, b, c⟩
    · obtain ⟨e9, d, hd, rx⟩ := w.yl i H' x H'' (S _ _ kp) hlt hy
      replace rx := rx (hs ++ adr Γ') se'.bs kp.x
      replace kp := kp.trans (Kp.ex e9)
      replace se' := se'.mono e9
      refine ⟨H0, ps, hs, Γ', d, _, se', rx, turn i d Γ' hd hI, fun Γ2 σ2 p2 a2 se2 _ _ => ?_⟩
      have kp2 : Kp hs Γ H1 Γ2 H'' := by
        unfold Kp at kp ⊢
        rw [a2]
        exact kp
      exact ⟨H0, ps, hs, Γ2, _, se2, p2, ⟨fun Γ3 σ3 H3 a b c => ⟨Γ3, b, kp2.trans c, a⟩, r.rt, fun Γ3 σ3 H3 a b c => r.nx Γ3 σ3 H3 a b ((k1.trans kp2).trans c), fun Γ3 σ3 H3 a b c => ⟨Γ3, b, kp2.trans c, a⟩, fun C fs Γ3 σ3 H3 d a b c x => r.ex C fs Γ3 σ3 H3 d a b ((k1.trans kp2).trans c) x⟩⟩
  · have e : i = ds.length := by omega
    subst e
    exact .inl ⟨w.st _ H' (S _ _ kp) rfl, r.nx Γ' σ' H' (done Γ' hI) se' (k1.trans kp)⟩
def sWhile (c : BT) (tb : ST) : ST := fun E Γ => ∃ I : Nat → Env → Prop, (∃ m, I m Γ) ∧ ∀ m Γ', I m Γ' → c Γ' fun b => (b = true → tb { nx := fun Γ2 => ∃ m', m' < m ∧ I m' Γ2, rt := E.rt, ct := fun Γ2 => ∃ m', m' < m ∧ I m' Γ2, bk := E.nx, ex := E.ex } Γ') ∧ (b = false → E.nx Γ')
theorem s_while {c : Expr} {body : List Stmt} {tc : BT} {tb : ST} {pos : Pos} (hp : PassesOwn (model X.prog X.w) X.A X.env X.xe) (hc : PT X c (Lt X.K tc)) (hb : PSs X body (Ls X.K W tb)) : PS X (.While c body [] pos) (Ls X.K W (sWhile tc tb)) := ps_imp (ps_while hp hc hb) fun D σ H ⟨H0, ps, hs, Γ, E, se, ht, r⟩ => by
  obtain ⟨I, ⟨m0, i0⟩, turn⟩ := ht
  refine ⟨fun m σ' H' => ∃ Γ', SE X.K H0 ps hs Γ' σ' H' ∧ Kp hs Γ H Γ' H' ∧ I m Γ', ⟨m0, Γ, se, Kp.refl, i0⟩, ?_⟩
  rintro m σ' H' ⟨Γ', se', kp, hI⟩
  refine ⟨H0, ps, hs, Γ', _, se', turn m Γ' hI, fun b H2 p e => ?_⟩
  have kp2 : Kp hs Γ H Γ' H2 := kp.trans (Kp.ex e)
  cases b with
  | true =>
    refine iteT ⟨fun σ'' H'' => ∃ m', m' < m ∧ ∃ Γ'', SE X.K H0 ps hs Γ'' σ'' H'' ∧ Kp hs Γ H Γ'' H'' ∧ I m' Γ'', fun σ'' H'' ⟨m', h1, h2⟩ => ⟨m', h1, h2⟩, ?_⟩
    exact ⟨H0, ps, hs, Γ', _, se'.mono e, p.1 rfl, ⟨fun Γ3 σ3 H3 ⟨m', h1, h2⟩ b c => ⟨m', h1, Γ3, b, kp2.trans c, h2⟩, r.rt, fun Γ3 σ3 H3 a b c => r.nx Γ3 σ3 H3 a b (kp2.trans c), fun Γ3 σ3 H3 ⟨m', h1, h2⟩ b c => ⟨m', h1, Γ3, b, kp2.trans c, h2⟩, fun C fs Γ3 σ3 H3 d a b c x => r.ex C fs Γ3 σ3 H3 d a b (kp2.trans c) x⟩⟩
  | false => exact iteF (r.nx Γ' σ' H2 (p.2 rfl) (se'.mono e) kp2)
end
end Kb
set_option Elab.async false
set_option linter.all false
set_option maxRecDepth 100000
set_option maxHeartbeats 1000000
/-! Kb7: defs, their calls; what changes lists. -/
namespace Kb
open PySem L2
set_option autoImplicit false

def Rs.dat : Rs → D
  | .d z => z
  | .fl ds => .lst ds
  | .fd es => .dic es
  | .ft es => .dit es
theorem res_dat {K : Frag} {H0 : Hp} {hs : List Addr} {H : Hp} {v : V} {r : Rs} (b : ∀ p, H0 p = none → p ∉ hs) (h : ResOk K H0 hs H v r) : Rep K (hid hs H) v r.dat := by
  have sub : ∀ p : Addr, ∀ a ∈ hs, a ∈ p :: hs := fun p a m => List.mem_cons_of_mem _ m
  cases r with
  | d d => exact h
  | fl ds => obtain ⟨p, vs, rfl, n, h1, h2⟩ := h; exact .lst (by rw [hid_ni (b p n)]; exact h1) (h2.mono (hid_sub (sub p)))
  | fd es => obtain ⟨p, vs, rfl, n, h1, h2, h3⟩ := h; exact .dic (by rw [hid_ni (b p n)]; exact h1) h2 (h3.mono (hid_sub (sub p)))
  | ft es => obtain ⟨p, vs, rfl, n, h1, h2, h3⟩ := h; exact .dit (by rw [hid_ni (b p n)]; exact h1) h2 (h3.mono (hid_sub (sub p)))

/-! ### arguments as slots -/
abbrev AT := Env → (List Slot → Prop) → Prop
/-- an argument list for a def: im, bo alone -/
structure Args (K : Frag) (hs : List Addr) (H : Hp) (vs : List V) (as : List Slot) : Prop where
  len : vs.length = as.length
  ok : ∀ (i : Nat) (s : Slot), as[i]? = some s → ∃ v, vs[i]? = some v ∧ SlotOk K (hid hs H) H H v s ∧ s.ad = none
def LaX (K : Frag) (t : AT) : TA := fun σ H Q => ∃ (H0 : Hp) (ps hs : List Addr) (Γ : Env) (P : List Slot → Prop), SE K H0 ps hs Γ σ H ∧ t Γ P ∧ ∀ as vs H2, P as → Ex H H2 → Args K (hs ++ adr Γ) H2 vs as → Q vs H2
def axNil : AT := fun _ P => P []
def axI (t : XT) (u : AT) : AT := fun Γ P => t Γ fun d => u Γ fun as => P (.im d :: as)
def axB (t : XT) (u : AT) : AT := fun Γ P => t Γ fun d => u Γ fun as => P (.bo d :: as)
theorem Args.nil {K : Frag} {hs : List Addr} {H : Hp} : Args K hs H [] [] := ⟨rfl, fun i s e => by simp at e⟩
theorem Args.cons {K : Frag} {hs : List Addr} {H : Hp} {v : V} {s : Slot} {vs : List V} {as : List Slot} (h : SlotOk K (hid hs H) H H v s) (n : s.ad = none) (r : Args K hs H vs as) : Args K hs H (v :: vs) (s :: as) :=
  ⟨by simp [r.len], fun i s' e => by
    cases i with
    | zero => simp at e; subst e; exact ⟨v, rfl, h, n⟩
    | succ i => simpa using r.ok i s' (by simpa using e)⟩
section
variable {X : Cx} {W : WX}
theorem ax_nil : PA X [] (LaX X.K axNil) := pa_imp pa_nil fun σ H Q ⟨H0, ps, hs, Γ, P, se, ht, k⟩ => k [] [] H ht (Same.refl H) .nil
theorem ax_i {e : Expr} {es : List Expr} {t : XT} {u : AT} (he : PE X e (Li X.K t)) (hs : PA X es (LaX X.K u)) (hx : starEach (e :: es) X.env = (false, eval e X.env) :: starEach es X.env := by rfl) : PA X (e :: es) (LaX X.K (axI t u)) :=
  pa_imp (pa_cons he hs hx) fun σ H Q ⟨H0, ps, hs, Γ, P, se, ht, k⟩ => ⟨H0, ps, hs, Γ, _, se, ht, fun d v H2 p e r => ⟨H0, ps, hs, Γ, _, se.mono e, p, fun as vs H3 q e3 r3 => k _ _ H3 q (e.trans e3) (.cons (s := .im d) (r.mono (hid_ex2 e3)) rfl r3)⟩⟩
theorem ax_b {e : Expr} {es : List Expr} {t : XT} {u : AT} (he : PE X e (Lb X.K t)) (hs : PA X es (LaX X.K u)) (hx : starEach (e :: es) X.env = (false, eval e X.env) :: starEach es X.env := by rfl) : PA X (e :: es) (LaX X.K (axB t u)) :=
  pa_imp (pa_cons he hs hx) fun σ H Q ⟨H0, ps, hs, Γ, P, se, ht, k⟩ => ⟨H0, ps, hs, Γ, _, se, ht, fun d v H2 p e r => ⟨H0, ps, hs, Γ, _, se.mono e, p, fun as vs H3 q e3 r3 => k _ _ H3 q (e.trans e3) (.cons (s := .bo d) (r.mono (hid_ex2 e3) e3) rfl r3)⟩⟩
end

/-! ### a def that changes nothing -/
/-- a promise: for each x of α: with these arguments, under pre, something of post comes back -/
structure SP where
  S : List Slot → (Rs → Prop) → Prop
  mon : ∀ as (R R' : Rs → Prop), (∀ r, R r → R' r) → S as R → S as R'
def spc {α : Type} (args : α → List Slot) (pre : α → Prop) (post : α → Rs → Prop) : SP := ⟨fun as R => ∃ x, as = args x ∧ pre x ∧ ∀ r, post x r → R r, fun as R R' h ⟨x, a, b, c⟩ => ⟨x, a, b, fun r q => h r (c r q)⟩⟩
def spP (K : Frag) (S : SP) : Sp := fun vs H Q _ => ∃ hs as, Args K hs H vs as ∧ Bs hs H ∧ S.S as fun r => ∀ v H', Ex H H' → ResOk K H hs H' v r → Q v H'
def env0 (as : List Slot) (n : Nat) : Env := as.map some ++ List.replicate (n - as.length) none
theorem adr_none : ∀ {as : List Slot}, (∀ s ∈ as, s.ad = none) → ∀ n, adr (env0 as n) = []
  | as, h, n => by
    unfold env0 adr
    rw [List.filterMap_append]
    have a : (as.map some).filterMap (fun o => o.bind Slot.ad) = [] := by
      rw [List.filterMap_eq_nil_iff]
      intro o m
      obtain ⟨s, hs, rfl⟩ := List.mem_map.mp m
      exact h s hs
    have b : (List.replicate (n - as.length) (none : Option Slot)).filterMap (fun o => o.bind Slot.ad) = [] := by
      rw [List.filterMap_eq_nil_iff]
      intro o m
      rw [(List.mem_replicate.mp m).2]
      rfl
    rw [a, b]
    rfl
theorem Args.se {K : Frag} {hs : List Addr} {H : Hp} {vs : List V} {as : List Slot} {N : List Str} (h : Args K hs H vs as) (b : Bs hs H) : SE K H [] hs (env0 as N.length) (L2.start N vs) H := by
  have hn : adr (env0 as N.length) = [] := adr_none (fun s m => by
    obtain ⟨i, hi⟩ := List.mem_iff_getElem?.mp m
    exact (h.ok i s hi).choose_spec.2.2) _
  have hh : hid [] H = H := by funext a; simp [hid]
  refine ⟨by simp [env0, L2.start, h.len], fun i s e => ?_, by rw [hn]; exact List.nodup_nil, fun a o _ q => q, fun i s l e a => ?_, fun l m => (by cases m), b⟩
  · have hi : i < as.length := by
      by_cases z : i < as.length
      · exact z
      · exfalso
        unfold env0 at e
        rw [List.getElem?_append_right (by simp; omega)] at e
        have := List.mem_iff_getElem?.mpr ⟨_, e⟩
        have q := (List.mem_replicate.mp this).2
        cases q
    have e2 : as[i]? = some s := by
      unfold env0 at e
      rw [List.getElem?_append_left (by simpa using hi), List.getElem?_map] at e
      cases z : as[i]? with
      | none => rw [z] at e; cases e
      | some s' => rw [z] at e; simp at e; rw [e]
    obtain ⟨v, h1, h2, _⟩ := h.ok i s e2
    refine ⟨v, ?_, ?_⟩
    · unfold L2.start
      rw [List.getElem?_append_left (by simp [h.len]; exact hi), List.getElem?_map, h1]
      rfl
    · rw [hn, List.append_nil, hh]
      exact h2
  · have m : l ∈ adr (env0 as N.length) := mem_adr.mpr ⟨i, s, e, a⟩
    rw [hn] at m
    cases m
theorem Bs.fresh {hs : List Addr} {H : Hp} (b : Bs hs H) : ∀ p, H p = none → p ∉ hs := fun p n m => b p m n
section
variable {P : Program} {w : World} {K : Frag} {mg : Str → Option Value} {base : Heap}
/-- THE RULE for a def that changes nothing of its caller's -/
theorem fn_pure {x qual : Str} {params : Arguments} {body : List Stmt} {scope : Scope} {dvs : List V} {kws : List (Str × V)} {f : Addr} {fd : FuncData} {N ps : List Str} {k : Nat} {S : SP} (F : FunD K x qual params body scope dvs kws f fd) (Sc : FnScope N ps scope)
    (hlen : ∀ as R, S.S as R → as.length = ps.length)
    (hb : ∀ (cdv : Value) (A : Around) (outer : List PySem.Env) (s : Shared) (H : Hp) (E : XK), Room k (A.deeper (PyProof.Rows.envOfC qual scope s.heap.objs.size f cdv)) →
      ∃ t, PSs (cxOf CX0 P w K mg base N qual scope f cdv A outer s H E).nox body (Ls K W0 t) ∧ ∀ as R, S.S as R → t { nx := fun _ => R (.d .non), rt := fun r _ => R r } (env0 as N.length)) : FnOk P w K mg base CX0 (k + 1) f fd ps (spP K S) := by
  refine F.ok Sc (fun vs H Q E h => ?_) fun cdv A outer s H vs Q E hr h => ?_
  · obtain ⟨hs, as, a, _, z⟩ := h
    rw [a.len]
    exact hlen as _ z
  · obtain ⟨hs, as, a, bb, z⟩ := h
    obtain ⟨t, h1, h2⟩ := hb cdv A outer s H E hr
    refine ⟨Ls K W0 t, h1.nox, H, [], hs, _, _, a.se bb, h2 as _ z, ⟨fun Γ' σ' H' q se _ => q .non H' (fun a o e => se.fr a o (by simp) e) .non, fun r Γ' σ' v H' q se ro => q v H' (fun a o e => se.fr a o (by simp) e) ro, fun _ _ _ q => q.elim, fun _ _ _ q => q.elim, fun _ _ _ _ _ _ q => q.elim⟩⟩
/-- the same for a promise by arguments; G: the slots at the entry -/
theorem fn_spc {x qual : Str} {params : Arguments} {body : List Stmt} {scope : Scope} {dvs : List V} {kws : List (Str × V)} {f : Addr} {fd : FuncData} {N ps : List Str} {k : Nat} {α : Type} {args : α → List Slot} {pre : α → Prop} {post : α → Rs → Prop}
    (F : FunD K x qual params body scope dvs kws f fd) (Sc : FnScope N ps scope) (G : α → Env)
    (hb : ∀ (cdv : Value) (A : Around) (outer : List PySem.Env) (s : Shared) (H : Hp) (E : XK), Room k (A.deeper (PyProof.Rows.envOfC qual scope s.heap.objs.size f cdv)) →
      ∃ t, PSs (cxOf CX0 P w K mg base N qual scope f cdv A outer s H E).nox body (Ls K W0 t) ∧ ∀ x (R : Rs → Prop), pre x → (∀ r, post x r → R r) → t { nx := fun _ => R (.d .non), rt := fun r _ => R r } (G x))
    (hG : ∀ x, env0 (args x) N.length = G x := by intro _; rfl) (hlen : ∀ x, (args x).length = ps.length := by intro _; rfl) : FnOk P w K mg base CX0 (k + 1) f fd ps (spP K (spc args pre post)) := by
  refine fn_pure F Sc (fun as R ⟨x, h, _⟩ => by rw [h]; exact hlen x) fun cdv A outer s H E hr => ?_
  obtain ⟨t, h1, h2⟩ := hb cdv A outer s H E hr
  exact ⟨t, h1, fun as R ⟨x, h, hp, hR⟩ => by rw [h, hG]; exact h2 x R hp hR⟩
/-- a def of the module, by its name -/
structure Df (P : Program) (w : World) (K : Frag) (mg : Str → Option Value) (base : Heap) (x : Str) (k : Nat) (sp : Sp) : Prop where
  ex : ∃ (f : Addr) (fd : FuncData) (ps : List Str), FnOk P w K mg base CX0 k f fd ps sp ∧ mg x = some (.ref f) ∧ PySem.W.keepIn K (.ref f) = true ∧ Binds K fd ps []
/-- a method of the class at C -/
structure Dm (P : Program) (w : World) (K : Frag) (mg : Str → Option Value) (base : Heap) (C : Addr) (m : Str) (k : Nat) (sp : Sp) : Prop where
  ex : ∃ (f : Addr) (fd : FuncData) (ps : List Str), FnOk P w K mg base CX0 k f fd ps sp ∧ Meth K C m f ∧ Binds K fd ps []
end
def xCl (S : SP) (t : AT) : XT := fun Γ P => t Γ fun as => S.S as fun r => P r.dat
def fCl (S : SP) (t : AT) : FT := fun Γ P => t Γ fun as => S.S as fun r => match r with
  | .fl ds => P ds
  | _ => False
section
variable {X : Cx} {W : WX}
theorem call_li {S : SP} {t : AT} {E : XK} (σ : St) (H : Hp) (Q : VK) (h : Li X.K (xCl S t) σ H Q) : tCall (spP X.K S) [] E (LaX X.K t) σ H Q := by
  obtain ⟨H0, ps, hs, Γ, P, se, ht, k⟩ := h
  refine ⟨H0, ps, hs, Γ, _, se, ht, fun as vs H2 p e ar => ?_⟩
  show spP X.K S (vs ++ []) H2 Q E
  rw [List.append_nil]
  exact ⟨hs ++ adr Γ, as, ar, (se.mono e).bs, S.mon _ _ _ (fun r hr v H' e3 ro => k _ v H' hr (e.trans e3) (res_dat (se.mono e).bs.fresh ro)) p⟩
theorem call_lf {S : SP} {t : AT} {E : XK} (σ : St) (H : Hp) (Q : VK) (h : Lf X.K (fCl S t) σ H Q) : tCall (spP X.K S) [] E (LaX X.K t) σ H Q := by
  obtain ⟨H0, ps, hs, Γ, P, se, ht, k⟩ := h
  refine ⟨H0, ps, hs, Γ, _, se, ht, fun as vs H2 p e ar => ?_⟩
  show spP X.K S (vs ++ []) H2 Q E
  rw [List.append_nil]
  exact ⟨hs ++ adr Γ, as, ar, (se.mono e).bs, S.mon _ _ _ (fun r hr v H' e3 ro => by
    cases r with
    | fl ds => obtain ⟨q, vs, rfl, n, h1, h2⟩ := ro; exact k ds q vs H' hr (fresh_of e n) (e.trans e3) h1 h2
    | _ => exact hr.elim) p⟩
section
variable {x : Str} {k : Nat} {S : SP} {e : Expr} {es : List Expr} {p pos : Pos} {t : AT}
theorem px_call (F : Df X.prog X.w X.K X.mg X.base x k (spP X.K S)) (hr : Room k X.A) (ha : PA X (e :: es) (LaX X.K t)) (hg : Gl X x := by rfl) (hd : (x == ("__debug__" : Str)) = false := by decide)
    (he : starEach (e :: es) X.env = (false, eval e X.env) :: starEach es X.env := by rfl) (hpl : (backTo pos (starEach es X.env)).any (·.1) = false := by rfl) : PE X (.Call (.Name x p) (e :: es) [] pos) (Li X.K (xCl S t)) := by
  obtain ⟨f, fd, ps, h1, h2, h3, h4⟩ := F.ex
  exact pe_imp (pe_call h1 hr hg h2 h3 h4 .nil pass0 ha hd he hpl) call_li
theorem fx_call (F : Df X.prog X.w X.K X.mg X.base x k (spP X.K S)) (hr : Room k X.A) (ha : PA X (e :: es) (LaX X.K t)) (hg : Gl X x := by rfl) (hd : (x == ("__debug__" : Str)) = false := by decide)
    (he : starEach (e :: es) X.env = (false, eval e X.env) :: starEach es X.env := by rfl) (hpl : (backTo pos (starEach es X.env)).any (·.1) = false := by rfl) : PE X (.Call (.Name x p) (e :: es) [] pos) (Lf X.K (fCl S t)) := by
  obtain ⟨f, fd, ps, h1, h2, h3, h4⟩ := F.ex
  exact pe_imp (pe_call h1 hr hg h2 h3 h4 .nil pass0 ha hd he hpl) call_lf
end
/-! ### methods: the receiver is data, the class's instance -/
def xMe (C : Addr) (m : Str) (S : SP) (to : XT) (t : AT) : XT := fun Γ P => to Γ fun d => match d with
  | .obj C' fs => C' = C ∧ fs.lookup m = none ∧ t Γ fun as => S.S (.im d :: as) fun r => P r.dat
  | _ => False
def fMe (C : Addr) (m : Str) (S : SP) (to : XT) (t : AT) : FT := fun Γ P => to Γ fun d => match d with
  | .obj C' fs => C' = C ∧ fs.lookup m = none ∧ t Γ fun as => S.S (.im d :: as) fun r => match r with
    | .fl ds => P ds
    | _ => False
  | _ => False
theorem look_none : ∀ {fvs : List (Str × V)} {fs : List (Str × D)} {f : Str}, fvs.map (·.1) = fs.map (·.1) → fs.lookup f = none → fvs.lookup f = none
  | [], [], _, _, h => rfl
  | (x, v) :: r, (y, e) :: q, f, hk, h => by
    simp only [List.map_cons, List.cons.injEq] at hk
    obtain ⟨rfl, hk⟩ := hk
    rw [List.lookup_cons] at h ⊢
    cases z : (f == x) with
    | true => rw [z] at h; cases h
    | false => rw [z] at h; exact look_none hk h
  | [], _ :: _, _, hk, _ => by simp at hk
  | _ :: _, [], _, hk, _ => by simp at hk
section
variable {m : Str} {k : Nat} {S : SP} {o e : Expr} {es : List Expr} {apos pos : Pos} {t : AT} {to : XT} {C : Addr}
theorem meth_li {E : XK} (σ : St) (H : Hp) (Q : VK) (h : Li X.K (xMe C m S to t) σ H Q) : tMeth C m (spP X.K S) [] E (Li X.K to) (LaX X.K t) σ H Q := by
  obtain ⟨H0, ps, hs, Γ, P, se, ht, k⟩ := h
  refine ⟨H0, ps, hs, Γ, _, se, ht, fun d v H1 p e1 r => ?_⟩
  cases d with
  | obj C' fs =>
    obtain ⟨rfl, p1, p⟩ := p
    obtain ⟨a, dx, fvs, rfl, h1, h2, h3⟩ := (RepW.im r).inst hid_ex
    refine ⟨a, dx, fvs, rfl, h1, look_none h2 p1, H0, ps, hs, Γ, _, se.mono e1, p, fun as vs H2 q e2 ar => ?_⟩
    show spP X.K S (V.ref a :: (vs ++ [])) H2 Q E
    rw [List.append_nil]
    exact ⟨hs ++ adr Γ, _, .cons (s := .im (.obj C' fs)) (r.mono (hid_ex2 e2)) rfl ar, ((se.mono e1).mono e2).bs, S.mon _ _ _ (fun r hr v H' e3 ro => k _ v H' hr ((e1.trans e2).trans e3) (res_dat ((se.mono e1).mono e2).bs.fresh ro)) q⟩
  | _ => exact p.elim
theorem meth_lf {E : XK} (σ : St) (H : Hp) (Q : VK) (h : Lf X.K (fMe C m S to t) σ H Q) : tMeth C m (spP X.K S) [] E (Li X.K to) (LaX X.K t) σ H Q := by
  obtain ⟨H0, ps, hs, Γ, P, se, ht, k⟩ := h
  refine ⟨H0, ps, hs, Γ, _, se, ht, fun d v H1 p e1 r => ?_⟩
  cases d with
  | obj C' fs =>
    obtain ⟨rfl, p1, p⟩ := p
    obtain ⟨a, dx, fvs, rfl, h1, h2, h3⟩ := (RepW.im r).inst hid_ex
    refine ⟨a, dx, fvs, rfl, h1, look_none h2 p1, H0, ps, hs, Γ, _, se.mono e1, p, fun as vs H2 q e2 ar => ?_⟩
    show spP X.K S (V.ref a :: (vs ++ [])) H2 Q E
    rw [List.append_nil]
    exact ⟨hs ++ adr Γ, _, .cons (s := .im (.obj C' fs)) (r.mono (hid_ex2 e2)) rfl ar, ((se.mono e1).mono e2).bs, S.mon _ _ _ (fun r hr v H' e3 ro => by
      cases r with
      | fl ds => obtain ⟨q, vs, rfl, n, h1, h2⟩ := ro; exact k ds q vs H' hr (fresh_of (e1.trans e2) n) ((e1.trans e2).trans e3) h1 h2
      | _ => exact hr.elim) q⟩
  | _ => exact p.elim
theorem px_meth {pl : Sem Bool} (c : Cls X.K C) (F : Dm X.prog X.w X.K X.mg X.base C m k (spP X.K S)) (hr : Room k X.A) (ho : PE X o (Li X.K to)) (ha : PA X (e :: es) (LaX X.K t))
    (hst : starEach (e :: es) X.env = (false, eval e X.env) :: starEach es X.env := by rfl) (hpl : (backTo pos (starEach es X.env)).any (·.1) = false := by rfl)
    (ht : eval (.Call (.Attribute o m apos) (e :: es) [] pos) X.env = (do
      let ov ← eval o X.env
      standAt apos.atName
      let (f, first) ← holding [ov] (getMethod ov m pl)
      callWith pos f first (backTo pos (starEach (e :: es) X.env)) (backToKw pos (keywordEach [] X.env))) := by rfl) : PE X (.Call (.Attribute o m apos) (e :: es) [] pos) (Li X.K (xMe C m S to t)) := by
  obtain ⟨f, fd, ps, h1, h2, h3⟩ := F.ex
  exact pe_imp (pe_meth ho c h2 h1 hr h3 .nil pass0 ha hst hpl ht) meth_li
theorem fx_meth {pl : Sem Bool} (c : Cls X.K C) (F : Dm X.prog X.w X.K X.mg X.base C m k (spP X.K S)) (hr : Room k X.A) (ho : PE X o (Li X.K to)) (ha : PA X (e :: es) (LaX X.K t))
    (hst : starEach (e :: es) X.env = (false, eval e X.env) :: starEach es X.env := by rfl) (hpl : (backTo pos (starEach es X.env)).any (·.1) = false := by rfl)
    (ht : eval (.Call (.Attribute o m apos) (e :: es) [] pos) X.env = (do
      let ov ← eval o X.env
      standAt apos.atName
      let (f, first) ← holding [ov] (getMethod ov m pl)
      callWith pos f first (backTo pos (starEach (e :: es) X.env)) (backToKw pos (keywordEach [] X.env))) := by rfl) : PE X (.Call (.Attribute o m apos) (e :: es) [] pos) (Lf X.K (fMe C m S to t)) := by
  obtain ⟨f, fd, ps, h1, h2, h3⟩ := F.ex
  exact pe_imp (pe_meth ho c h2 h1 hr h3 .nil pass0 ha hst hpl ht) meth_lf
end
end
end Kb
set_option Elab.async false
set_option linter.all false
set_option maxRecDepth 100000
set_option maxHeartbeats 1000000
/-! Kb8: lists changed; defs that change a list of their caller's (first argument). -/
namespace Kb
open PySem L2
set_option autoImplicit false

theorem fm_if {α β : Type} (p : α → Bool) (g : α → β) (xs : List α) : xs.filterMap (fun x => if p x then some (g x) else none) = (xs.filter p).map g := by
  induction xs with
  | nil => rfl
  | cons x xs ih => cases h : p x <;> simp [h, ih]
theorem lcbF {α : Type} {Γ : Env} {g : GT} {tt : BT} {te : XT} {vs : List Nat} {P : List D → Prop} {xs : List α} {enc : α → D} (p : α → Bool) (h : α → D) (hl : xs.length ≤ sizeLine)
    (hb : ∀ x ∈ xs, g (enc x) (wipeE Γ vs) fun Γ2 => tt Γ2 fun b => (b = true → te Γ2 fun z => (if p x then some (h x) else none) = some z) ∧ (b = false → (if p x then some (h x) else none) = none)) (hP : P ((xs.filter p).map h)) (ha : adr (wipeE Γ vs) = adr Γ := by rfl) : LcB Γ g tt te vs (xs.map enc) P :=
  lcb (fun x => if p x then some (h x) else none) hl hb (by rw [fm_if]; exact hP) ha
theorem lcbM {α : Type} {Γ : Env} {g : GT} {tt : BT} {te : XT} {vs : List Nat} {P : List D → Prop} {xs : List α} {enc : α → D} (h : α → D) (hl : xs.length ≤ sizeLine)
    (hb : ∀ x ∈ xs, g (enc x) (wipeE Γ vs) fun Γ2 => tt Γ2 fun b => (b = true → te Γ2 fun z => some (h x) = some z) ∧ (b = false → some (h x) = none)) (hP : P (xs.map h)) (ha : adr (wipeE Γ vs) = adr Γ := by rfl) : LcB Γ g tt te vs (xs.map enc) P :=
  lcb (fun x => some (h x)) hl hb (by rw [List.filterMap_eq_map']; exact hP) ha

section
variable {X : Cx} {W : WX}
/-! ### xs.append(e), xs a list of one's own -/
def sApp (i : Nat) (t : XT) : ST := fun E Γ => match Γ[i]? with
  | some (some (.ml l ds)) => t Γ fun d => ds.length < sizeLine ∧ E.nx (Γ.set i (some (.ml l (ds ++ [d]))))
  | _ => False
theorem kp_write {hs : List Addr} {Γ Γ' : Env} {H : Hp} {l : Addr} {o : HO} (hl : l ∈ adr Γ) (ha : adr Γ' = adr Γ) : Kp hs Γ H Γ' (upd H l o) := by
  unfold Kp
  rw [ha, hid_upd hl]
  exact Same.refl _
theorem s_app (i : Nat) {x : Str} {e : Expr} {t : XT} {npos apos cpos pos : Pos} (he : PE X e (Li X.K t)) (hN : X.N[i]? = some x := by rfl) (hv : Vis X.env.scope x := by first | exact Or.inl rfl | exact Or.inr (Or.inl rfl) | exact Or.inr (Or.inr rfl)) (hd : (x == ("__debug__" : Str)) = false := by decide) (hcd : (x == ("__classdict__" : Str)) = false := by decide)
    (hbase : attributeBase (.Name x npos) "append" X.env (eval (.Name x npos) X.env) = eval (.Name x npos) X.env := by rfl)
    (hfew : ((backTo cpos (starEach [e] X.env)).all (fun x => !x.1) && (backToKw cpos (keywordEach [] X.env)).all (fun x => x.1.isSome)
      && decide ([e].length + ([] : List Keyword).length + (if ([] : List Keyword).isEmpty then 0 else 1) < 30)) = true := by rfl)
    (hline : (apos.endLine == cpos.line) = true := by rfl) (hs : starEach [e] X.env = (false, eval e X.env) :: starEach [] X.env := by rfl) (hplain : (backTo cpos (starEach [] X.env)).any (·.1) = false := by rfl)
    (hsw : swapsWith (.Call (.Attribute (.Name x npos) "append" apos) [e] [] cpos) none pos.line X.env = pure false := by rfl) :
    PS X (.Expr (.Call (.Attribute (.Name x npos) "append" apos) [e] [] cpos) pos) (Ls X.K W (sApp i t)) :=
  ps_imp (ps_expr (pe_bm PySem.F.plainAttrs_list PySem.F.slot_list_append PySem.F.type_list_append mt_append (pe_var hN hv hd hcd) (pa_cons he pa_nil hs) hbase hfew hline hs hplain) hsw) fun D σ H ⟨H0, ps, hs, Γ, E, se, ht, r⟩ => by
    unfold sApp at ht
    split at ht
    · rename_i l ds e
      obtain ⟨v, h1, rfl, vs, h2, h3⟩ := se.ok i _ e
      refine ⟨_, h1, .inl ⟨rfl, _, SqL.of h2⟩, H0, ps, hs, Γ, _, se, ht, fun d y H2 p e2 rr => ?_⟩
      have h2' := e2 _ _ h2
      have hl : l ∈ adr Γ := mem_adr.mpr ⟨i, _, e, rfl⟩
      obtain ⟨se', ha⟩ := (se.mono e2).write (s' := .ml l (ds ++ [d])) (o := .lst (vs ++ [y])) e rfl rfl rfl ⟨rfl, _, upd_same, (h3.mono (hid_ex2 e2)).append (.one rr)⟩
      exact ⟨l, vs, y, rfl, rfl, h2', by rw [h3.length]; exact p.1, r.nx _ σ _ p.2 se' ((Kp.ex e2).trans (kp_write hl ha))⟩
    · exact ht.elim
/-! ### xs[k] = e, xs a list of one's own or of the caller's -/
def sSetI (i : Nat) (te tk : XT) : ST := fun E Γ => te Γ fun d => match Γ[i]? with
  | some (some (.ml l ds)) => tk Γ fun z => (match z with
    | .int k => ∃ j, ixN ds.length k = some j ∧ E.nx (Γ.set i (some (.ml l (ds.set j d))))
    | _ => False)
  | some (some (.pl l ds)) => tk Γ fun z => (match z with
    | .int k => ∃ j, ixN ds.length k = some j ∧ E.nx (Γ.set i (some (.pl l (ds.set j d))))
    | _ => False)
  | _ => False
theorem s_setI (i : Nat) {x : Str} {e k : Expr} {te tk : XT} {npos pos' pos : Pos} (he : PE X e (Li X.K te)) (hk : PE X k (Lb X.K tk)) (hN : X.N[i]? = some x := by rfl) (hv : Vis X.env.scope x := by first | exact Or.inl rfl | exact Or.inr (Or.inl rfl) | exact Or.inr (Or.inr rfl)) (hd : (x == ("__debug__" : Str)) = false := by decide) (hcd : (x == ("__classdict__" : Str)) = false := by decide)
    (ha : ∀ v, assign (.Subscript (.Name x npos) k pos') X.env v = (do
      let ov ← holding [v] (eval (.Name x npos) X.env)
      let iv ← holding [v, ov] (eval k X.env)
      standAt pos'
      holding [v, ov, iv] (setItem ov iv v)
      release [v, ov, iv] []) := by intro _; rfl) (hs : swapsWithSole [.Subscript (.Name x npos) k pos'] e pos.line X.env = pure false := by rfl) (hw : swappedStores [.Subscript (.Name x npos) k pos'] e X.env = pure none := by rfl)
    (h1 : (assignEach [.Subscript (.Name x npos) k pos'] X.env).map (·.2) = [assign (.Subscript (.Name x npos) k pos') X.env] := by rfl) :
    PS X (.Assign [.Subscript (.Name x npos) k pos'] e pos) (Ls X.K W (sSetI i te tk)) :=
  ps_imp (ps_asg he (pg_sub (pe_var hN hv hd hcd) hk set_list ha) hs hw h1) fun D σ H ⟨H0, ps, hs, Γ, E, se, ht, r⟩ => by
    refine ⟨H0, ps, hs, Γ, _, se, ht, fun d y H2 p e2 rr => ?_⟩
    have se2 := se.mono e2
    split at p
    · rename_i l ds e
      obtain ⟨v, h1, rfl, vs, h2, h3⟩ := se2.ok i _ e
      refine ⟨_, h1, H0, ps, hs, Γ, _, se2, p, fun z u H3 q e3 r3 => ?_⟩
      cases z with
      | int k =>
        obtain ⟨j, hj, q⟩ := q
        cases r3.intv
        have hl : l ∈ adr Γ := mem_adr.mpr ⟨i, _, e, rfl⟩
        obtain ⟨se', ha⟩ := (se2.mono e3).write (s' := .ml l (ds.set j d)) (o := .lst (vs.set j y)) e rfl rfl rfl ⟨rfl, _, upd_same, (h3.mono (hid_ex2 e3)).set (rr.mono (hid_ex2 e3)) j⟩
        exact ⟨l, vs, k, j, rfl, rfl, e3 _ _ h2, by rw [h3.length]; exact hj, r.nx _ σ _ q se' ((Kp.ex (e2.trans e3)).trans (kp_write hl ha))⟩
      | _ => exact q.elim
    · rename_i l ds e
      obtain ⟨v, h1, rfl, vs, h2, h3⟩ := se2.ok i _ e
      refine ⟨_, h1, H0, ps, hs, Γ, _, se2, p, fun z u H3 q e3 r3 => ?_⟩
      cases z with
      | int k =>
        obtain ⟨j, hj, q⟩ := q
        cases r3.intv
        have hl : l ∈ adr Γ := mem_adr.mpr ⟨i, _, e, rfl⟩
        obtain ⟨se', ha⟩ := (se2.mono e3).write (s' := .pl l (ds.set j d)) (o := .lst (vs.set j y)) e rfl rfl rfl ⟨rfl, _, upd_same, (h3.mono (hid_ex2 e3)).set (rr.mono (hid_ex2 e3)) j⟩
        exact ⟨l, vs, k, j, rfl, rfl, e3 _ _ h2, by rw [h3.length]; exact hj, r.nx _ σ _ q se' ((Kp.ex (e2.trans e3)).trans (kp_write hl ha))⟩
      | _ => exact q.elim
    · exact p.elim
end

/-! ### a def that changes the list that is its first argument -/
structure SM where
  S : List D → List D → (Rs → List D → Prop) → Prop
  mon : ∀ ds as (R R' : Rs → List D → Prop), (∀ r z, R r z → R' r z) → S ds as R → S ds as R'
def spcM {α : Type} (fst : α → List D) (args : α → List D) (pre : α → Prop) (post : α → Rs → List D → Prop) : SM :=
  ⟨fun ds as R => ∃ x, ds = fst x ∧ as = args x ∧ pre x ∧ ∀ r z, post x r z → R r z, fun ds as R R' h ⟨x, a, b, c, d⟩ => ⟨x, a, b, c, fun r z q => h r z (d r z q)⟩⟩
def spM (K : Frag) (S : SM) : Sp := fun vs H Q _ => ∃ hs l ds us as, vs = .ref l :: us ∧ Reps K (hid hs H) us as ∧ Bs hs H ∧ l ∈ hs ∧ (∃ ws, H l = some (.lst ws) ∧ Reps K (hid hs H) ws ds) ∧
  S.S ds as fun r z => ∀ v H', (∀ a o, a ≠ l → H a = some o → H' a = some o) → (∃ ws, H' l = some (.lst ws) ∧ Reps K (hid hs H') ws z) → ResOk K H hs H' v r → Q v H'
def envD (as : List D) (n : Nat) : Env := as.map (fun d => some (.im d)) ++ List.replicate (n - as.length) none
theorem adr_envD (as : List D) (n : Nat) : adr (envD as n) = [] := by
  unfold envD adr
  rw [List.filterMap_append]
  have a : (as.map fun d => some (Slot.im d)).filterMap (fun o => o.bind Slot.ad) = [] := by
    rw [List.filterMap_eq_nil_iff]
    intro o m
    obtain ⟨s, hs, rfl⟩ := List.mem_map.mp m
    rfl
  have b : (List.replicate (n - as.length) (none : Option Slot)).filterMap (fun o => o.bind Slot.ad) = [] := by
    rw [List.filterMap_eq_nil_iff]
    intro o m
    rw [(List.mem_replicate.mp m).2]
    rfl
  rw [a, b]
  rfl
section
variable {P : Program} {w : World} {K : Frag} {mg : Str → Option Value} {base : Heap}
theorem fn_pot {x qual : Str} {params : Arguments} {body : List Stmt} {scope : Scope} {dvs : List V} {kws : List (Str × V)} {f : Addr} {fd : FuncData} {N ps : List Str} {k : Nat} {α : Type} {fst : α → List D} {args : α → List D} {pre : α → Prop} {post : α → Rs → List D → Prop} {n0 : Str}
    (F : FunD K x qual params body scope dvs kws f fd) (Sc : FnScope (n0 :: N) (n0 :: ps) scope) (G : Addr → α → Env)
    (hb : ∀ (cdv : Value) (A : Around) (outer : List PySem.Env) (s : Shared) (H : Hp) (E : XK), Room k (A.deeper (PyProof.Rows.envOfC qual scope s.heap.objs.size f cdv)) →
      ∃ t, PSs (cxOf CX0 P w K mg base (n0 :: N) qual scope f cdv A outer s H E).nox body (Ls K W0 t) ∧ ∀ l x (R : Rs → List D → Prop), pre x → (∀ r z, post x r z → R r z) → t { nx := fun Γ => ∃ z, Γ[0]? = some (some (.pl l z)) ∧ R (.d .non) z, rt := fun r Γ => ∃ z, Γ[0]? = some (some (.pl l z)) ∧ R r z } (G l x))
    (hG : ∀ l x, some (.pl l (fst x)) :: envD (args x) N.length = G l x := by intro _ _; rfl) (hlen : ∀ x, (args x).length = ps.length := by intro _; rfl) : FnOk P w K mg base CX0 (k + 1) f fd (n0 :: ps) (spM K (spcM fst args pre post)) := by
  refine F.ok Sc (fun vs H Q E h => ?_) fun cdv A outer s H vs Q E hr h => ?_
  · obtain ⟨hs, l, ds, us, as, rfl, a, _, _, _, x, _, rfl, _⟩ := h
    simp [a.length, hlen x]
  · obtain ⟨hs, l, ds, us, as, rfl, a, bb, hl, ⟨ws, hw, rw_⟩, x, rfl, rfl, hp, hR⟩ := h
    obtain ⟨t, h1, h2⟩ := hb cdv A outer s H E hr
    have hadr : adr (some (.pl l (fst x)) :: envD (args x) N.length) = [l] := by rw [adr_cons, adr_envD]; rfl
    have hB : ∀ H', hid (hs ++ [l]) H' = hid hs H' := fun H' => by
      funext b
      by_cases hb : b ∈ hs
      · rw [hid_in hb, hid_in (List.mem_append_left _ hb)]
      · rw [hid_ni hb, hid_ni (fun m => (List.mem_append.mp m).elim hb fun z => hb (by rw [List.mem_singleton.mp z]; exact hl))]
    have hst : L2.start (n0 :: N) (.ref l :: us) = some (.ref l) :: (us.map some ++ List.replicate (N.length - us.length) none) := by
      unfold L2.start
      simp
    have se : SE K H [l] hs (G l x) (L2.start (n0 :: N) (.ref l :: us)) H := by
      rw [← hG, hst]
      refine ⟨by simp [envD, a.length], fun i s e => ?_, by rw [hadr]; simp, fun b o _ q => q, fun i s b e z => ?_, fun b m => (by rw [List.mem_singleton.mp m]; exact hl), bb⟩
      · rw [hadr, hB]
        cases i with
        | zero =>
          simp at e
          subst e
          exact ⟨_, rfl, rfl, ws, hw, rw_⟩
        | succ i =>
          have e' : (envD (args x) N.length)[i]? = some (some s) := by simpa using e
          have hi : i < (args x).length := by
            by_cases z : i < (args x).length
            · exact z
            · exfalso
              unfold envD at e'
              rw [List.getElem?_append_right (by simp; omega)] at e'
              have q := (List.mem_replicate.mp (List.mem_iff_getElem?.mpr ⟨_, e'⟩)).2
              cases q
          obtain ⟨d, hd⟩ : ∃ d, (args x)[i]? = some d := ⟨_, List.getElem?_eq_getElem hi⟩
          have es : s = .im d := by
            unfold envD at e'
            rw [List.getElem?_append_left (by simpa using hi), List.getElem?_map, hd] at e'
            simp at e'
            exact e'.symm
          subst es
          obtain ⟨v, g1, g2⟩ := a.get' hd
          refine ⟨v, ?_, g2⟩
          have hi2 : i < us.length := by rw [a.length]; exact hi
          simp only [List.getElem?_cons_succ]
          rw [List.getElem?_append_left (by simpa using hi2), List.getElem?_map, g1]
          rfl
      · cases i with
        | zero =>
          simp at e
          subst e
          cases z
          exact ⟨fun _ => List.mem_singleton.mpr rfl, fun q => (by cases q)⟩
        | succ i =>
          have m : b ∈ adr (envD (args x) N.length) := mem_adr.mpr ⟨i, s, by simpa using e, z⟩
          rw [adr_envD] at m
          cases m
    have fin : ∀ (Γ' : Env) (σ' : St) (H' : Hp) (z : List D), Γ'[0]? = some (some (.pl l z)) → SE K H [l] hs Γ' σ' H' → (∀ a o, a ≠ l → H a = some o → H' a = some o) ∧ ∃ ws, H' l = some (.lst ws) ∧ Reps K (hid hs H') ws z := fun Γ' σ' H' z hz se' => by
      obtain ⟨v, _, _, ws, g2, g3⟩ := se'.ok 0 _ hz
      exact ⟨fun a o h q => se'.fr a o (fun m => h (List.mem_singleton.mp m)) q, ws, g2, g3.mono (hid_sub fun a m => List.mem_append_left _ m)⟩
    refine ⟨Ls K W0 t, h1.nox, H, [l], hs, _, _, se, h2 l x _ hp hR, ⟨fun Γ' σ' H' q se' _ => ?_, fun r Γ' σ' v H' q se' ro => ?_, fun _ _ _ q => q.elim, fun _ _ _ q => q.elim, fun _ _ _ _ _ _ q => q.elim⟩⟩
    · obtain ⟨z, hz, q⟩ := q
      obtain ⟨g1, g2⟩ := fin Γ' σ' H' z hz se'
      exact q .non H' g1 g2 .non
    · obtain ⟨z, hz, q⟩ := q
      obtain ⟨g1, g2⟩ := fin Γ' σ' H' z hz se'
      exact q v H' g1 g2 ro
end
/-! ### expressions that change lists -/
abbrev IT := Env → (D → Env → Prop) → Prop
abbrev MT := Env → (List D → Env → Prop) → Prop
abbrev BMT := Env → (Bool → Env → Prop) → Prop
def Km (hs : List Addr) (Γ : Env) (H : Hp) (Γ2 : Env) (H2 : Hp) : Prop := adr Γ2 = adr Γ ∧ ∀ a o, a ∉ adr Γ → H a = some o → H2 a = some o
theorem Km.x {hs : List Addr} {Γ Γ2 : Env} {H H2 : Hp} (k : Km hs Γ H Γ2 H2) : Ex (hid (hs ++ adr Γ) H) (hid (hs ++ adr Γ) H2) := hid_mono fun a o n q => k.2 a o (fun m => n (List.mem_append_right _ m)) q
theorem Km.kp {hs : List Addr} {Γ Γ2 : Env} {H H2 : Hp} (k : Km hs Γ H Γ2 H2) : Kp hs Γ H Γ2 H2 := by
  unfold Kp
  rw [k.1]
  exact hid_mono fun a o n q => k.2 a o n q
theorem Km.trans {hs : List Addr} {Γ Γ1 Γ2 : Env} {H H1 H2 : Hp} (a : Km hs Γ H Γ1 H1) (b : Km hs Γ1 H1 Γ2 H2) : Km hs Γ H Γ2 H2 :=
  ⟨b.1.trans a.1, fun c o n q => b.2 c o (by rw [a.1]; exact n) (a.2 c o n q)⟩
theorem Km.ex {hs : List Addr} {Γ : Env} {H H2 : Hp} (e : Ex H H2) : Km hs Γ H Γ H2 := ⟨rfl, fun a o _ q => e a o q⟩
def Lm (K : Frag) (t : IT) : TE := fun σ H Q => ∃ (H0 : Hp) (ps hs : List Addr) (Γ : Env) (P : D → Env → Prop), SE K H0 ps hs Γ σ H ∧ t Γ P ∧ ∀ d Γ2 v H2, P d Γ2 → SE K H0 ps hs Γ2 σ H2 → Km hs Γ H Γ2 H2 → Rep K (hid (hs ++ adr Γ) H2) v d → Q v H2
def LmT (K : Frag) (t : BMT) : TT := fun σ H Q => ∃ (H0 : Hp) (ps hs : List Addr) (Γ : Env) (P : Bool → Env → Prop), SE K H0 ps hs Γ σ H ∧ t Γ P ∧ ∀ b Γ2 H2, P b Γ2 → SE K H0 ps hs Γ2 σ H2 → Km hs Γ H Γ2 H2 → Q b H2
def LmA (K : Frag) (t : MT) : TA := fun σ H Q => ∃ (H0 : Hp) (ps hs : List Addr) (Γ : Env) (P : List D → Env → Prop), SE K H0 ps hs Γ σ H ∧ t Γ P ∧ ∀ ds Γ2 vs H2, P ds Γ2 → SE K H0 ps hs Γ2 σ H2 → Km hs Γ H Γ2 H2 → Reps K (hid (hs ++ adr Γ) H2) vs ds → Q vs H2
section
variable {X : Cx} {W : WX}
def mP (t : XT) : IT := fun Γ P => t Γ fun d => P d Γ
theorem mx {e : Expr} {t : XT} (h : PE X e (Li X.K t)) : PE X e (Lm X.K (mP t)) := pe_imp h fun σ H Q ⟨H0, ps, hs, Γ, P, se, ht, k⟩ => ⟨H0, ps, hs, Γ, _, se, ht, fun d v H2 p e r => k d Γ v H2 p (se.mono e) (Km.ex e) r⟩
def m2 (f : F2) (ta tb : IT) : IT := fun Γ P => ta Γ fun d Γ1 => tb Γ1 fun e Γ2 => f d e fun z => P z Γ2
def bm2 (f : F2) (ta tb : IT) : BMT := fun Γ P => ta Γ fun d Γ1 => tb Γ1 fun e Γ2 => f d e fun z => match z with
  | .bl b => P b Γ2
  | _ => False
theorem mbin_of {σ : St} {H : Hp} {Q : VK} {r : R2} {f : F2} {ta tb : IT} (hd : Does X.K r f) (h : Lm X.K (m2 f ta tb) σ H Q) : tOp r (Lm X.K ta) (Lm X.K tb) σ H Q := by
  obtain ⟨H0, ps, hs, Γ, P, se, ht, k⟩ := h
  refine ⟨H0, ps, hs, Γ, _, se, ht, fun d Γ1 x H1 h1 se1 k1 r1 => ?_⟩
  refine ⟨H0, ps, hs, Γ1, _, se1, h1, fun e Γ2 y H2 h2 se2 k2 r2 => ?_⟩
  have bs2 := se2.bs
  rw [k2.1, k1.1] at bs2
  rw [k1.1] at r2
  have z2 := k2.x
  rw [k1.1] at z2
  exact hd _ H2 x y d e _ Q bs2 (.im (r1.mono z2)) (.im r2) h2 fun z v H3 hz e3 r3 => k z Γ2 v H3 hz (se2.mono e3) ((k1.trans k2).trans (Km.ex e3)) r3
theorem mx_bin {op : Operator} {a b : Expr} {pos : Pos} {r : R2} {f : F2} {ta tb : IT} (ho : OpR X (binaryOp op) r) (hd : Does X.K r f) (ha : PE X a (Lm X.K ta)) (hb : PE X b (Lm X.K tb)) : PE X (.BinOp a op b pos) (Lm X.K (m2 f ta tb)) :=
  pe_imp (pe_op ho ha hb) fun _ _ _ h => mbin_of hd h
theorem mx_cmp {op : CmpOp} {a b : Expr} {pos : Pos} {r : R2} {f : F2} {ta tb : IT} (ho : OpR X (compareOp op) r) (hd : Does X.K r f) (ha : PE X a (Lm X.K ta)) (hb : PE X b (Lm X.K tb)) (hm : behindInMarks op b = false := by first | exact nomark _ | rfl) : PE X (.Compare a [op] [b] pos) (Lm X.K (m2 f ta tb)) :=
  pe_imp (pe_cmpR ho ha hb hm) fun _ _ _ h => mbin_of hd h
theorem tm_cmp {op : CmpOp} {a b : Expr} {pos : Pos} {r : R2} {f : F2} {ta tb : IT} (ho : OpR X (compareOp op) r) (hd : Does X.K r f) (ha : PE X a (Lm X.K ta)) (hb : PE X b (Lm X.K tb)) (hm : behindInMarks op b = false := by first | exact nomark _ | rfl) : PT X (.Compare a [op] [b] pos) (LmT X.K (bm2 f ta tb)) :=
  pt_imp (pt_cmpR ho ha hb hm) fun σ H Q ⟨H0, ps, hs, Γ, P, se, ht, k⟩ => mbin_of hd ⟨H0, ps, hs, Γ, (fun z Γ2 => match z with
    | .bl b => P b Γ2
    | _ => False), se, ht, fun d Γ2 v H2 p se2 k2 r => by
    cases d with
    | bl c =>
      cases r
      exact ⟨c, rfl, k c Γ2 H2 p se2 k2⟩
    | _ => exact p.elim⟩
theorem mx_ix {a b : Expr} {pos : Pos} {ta tb : IT} (ha : PE X a (Lm X.K ta)) (hb : PE X b (Lm X.K tb)) (hs : PlainIx b := by exact fun _ _ => rfl) : PE X (.Subscript a b pos) (Lm X.K (m2 fIx ta tb)) :=
  pe_imp (pe_ix ix_seq ha hb hs) fun _ _ _ h => mbin_of does_ix h
def amNil : MT := fun Γ P => P [] Γ
def amCons (t : IT) (u : MT) : MT := fun Γ P => t Γ fun d Γ1 => u Γ1 fun ds Γ2 => P (d :: ds) Γ2
theorem am_nil : PA X [] (LmA X.K amNil) := pa_imp pa_nil fun σ H Q ⟨H0, ps, hs, Γ, P, se, ht, k⟩ => k [] Γ [] H ht se (Km.ex (Same.refl H)) .nil
theorem am_cons {e : Expr} {es : List Expr} {t : IT} {u : MT} (he : PE X e (Lm X.K t)) (hs : PA X es (LmA X.K u)) (hx : starEach (e :: es) X.env = (false, eval e X.env) :: starEach es X.env := by rfl) : PA X (e :: es) (LmA X.K (amCons t u)) :=
  pa_imp (pa_cons he hs hx) fun σ H Q ⟨H0, ps, hs, Γ, P, se, ht, k⟩ => ⟨H0, ps, hs, Γ, _, se, ht, fun d Γ1 v H1 p se1 k1 r => ⟨H0, ps, hs, Γ1, _, se1, p, fun ds Γ2 vs H2 q se2 k2 r2 => by
    have z2 := k2.x
    rw [k1.1] at z2 r2
    exact k _ Γ2 _ H2 q se2 (k1.trans k2) (.cons (r.mono z2) r2)⟩⟩
def mTup (t : MT) : IT := fun Γ P => t Γ fun ds Γ2 => ds.length ≤ sizeLine ∧ P (.tup ds) Γ2
theorem mx_tup {es : List Expr} {x1 : Nat} {pos : Pos} {t : MT} (h : PA X es (LmA X.K t)) : PE X (.Tuple es x1 pos) (Lm X.K (mTup t)) := pe_imp (pe_tup h) fun σ H Q ⟨H0, ps, hs, Γ, P, se, ht, k⟩ => ⟨H0, ps, hs, Γ, _, se, ht, fun ds Γ2 vs H2 p se2 k2 r => by
  have bs2 := se2.bs
  rw [k2.1] at bs2
  exact ⟨by rw [r.length]; exact p.1, fun q n => k _ Γ2 _ _ p.2 (se2.mono (Ex.new n)) (k2.trans (Km.ex (Ex.new n))) (rep_newT bs2 n r)⟩⟩
def mLst (t : MT) : IT := fun Γ P => t Γ fun ds Γ2 => ds.length ≤ sizeLine ∧ P (.lst ds) Γ2
theorem mx_lst {es : List Expr} {pos : Pos} {t : MT} (h : PA X es (LmA X.K t)) : PE X (.List es pos) (Lm X.K (mLst t)) := pe_imp (pe_lst h) fun σ H Q ⟨H0, ps, hs, Γ, P, se, ht, k⟩ => ⟨H0, ps, hs, Γ, _, se, ht, fun ds Γ2 vs H2 p se2 k2 r => by
  have bs2 := se2.bs
  rw [k2.1] at bs2
  exact ⟨by rw [r.length]; exact p.1, fun q n => k _ Γ2 _ _ p.2 (se2.mono (Ex.new n)) (k2.trans (Km.ex (Ex.new n))) (rep_newL bs2 n r)⟩⟩
/-! ### the call of such a def -/
def mCl (i : Nat) (S : SM) (t : MT) : IT := fun Γ P => (∃ l z, Γ[i]? = some (some (.pl l z)) ∨ Γ[i]? = some (some (.ml l z))) ∧ t Γ fun as Γ1 => match Γ1[i]? with
  | some (some (.pl l ds)) => S.S ds as fun r z => P r.dat (Γ1.set i (some (.pl l z)))
  | some (some (.ml l ds)) => S.S ds as fun r z => P r.dat (Γ1.set i (some (.ml l z)))
  | _ => False
end
end Kb
set_option Elab.async false
set_option linter.all false
set_option maxRecDepth 100000
set_option maxHeartbeats 1000000
/-! Kb9: calls of defs that change a list; statements with such expressions. -/
namespace Kb
open PySem L2
set_option autoImplicit false

theorem SE.step {K : Frag} {H0 : Hp} {ps hs : List Addr} {Γ : Env} {σ : St} {H H' : Hp} (se : SE K H0 ps hs Γ σ H) {i : Nat} {s s' : Slot} {l : Addr} (hi : Γ[i]? = some (some s)) (ha : s.ad = some l) (ha' : s'.ad = some l) (hpp : s'.par = s.par)
    (fr : ∀ a o, a ≠ l → H a = some o → H' a = some o) {o : HO} (hl : H' l = some o) (ok : SlotOk K (hid (hs ++ adr Γ) H') (hid (adr Γ) H') H' (.ref l) s') : SE K H0 ps hs (Γ.set i (some s')) σ H' ∧ adr (Γ.set i (some s')) = adr Γ ∧ Ex (hid (hs ++ adr Γ) H) (hid (hs ++ adr Γ) H') := by
  have hm : l ∈ adr Γ := mem_adr.mpr ⟨i, s, hi, ha⟩
  let H1 : Hp := fun a => if a = l then H l else H' a
  have e1 : Ex H H1 := fun a u q => by
    show (if a = l then H l else H' a) = some u
    by_cases z : a = l
    · rw [if_pos z, ← z]; exact q
    · rw [if_neg z]; exact fr a u z q
  have e2 : upd H1 l o = H' := by
    funext a
    unfold upd
    by_cases z : a = l
    · rw [if_pos z, z, hl]
    · rw [if_neg z]
      show (if a = l then H l else H' a) = H' a
      rw [if_neg z]
  have b1 : hid (hs ++ adr Γ) H1 = hid (hs ++ adr Γ) H' := by rw [← e2, hid_upd (List.mem_append_right _ hm)]
  have b2 : hid (adr Γ) H1 = hid (adr Γ) H' := by rw [← e2, hid_upd hm]
  obtain ⟨g1, g2⟩ := (se.mono e1).write (s' := s') (o := o) hi ha ha' hpp (by rw [b1, b2, e2]; exact ok)
  rw [e2] at g1
  refine ⟨g1, g2, ?_⟩
  rw [← b1]
  exact hid_ex2 e1
structure DfM (P : Program) (w : World) (K : Frag) (mg : Str → Option Value) (base : Heap) (x : Str) (k : Nat) (S : SM) : Prop where
  ex : Df P w K mg base x k (spM K S)
section
variable {X : Cx} {W : WX}
theorem mcall_li {i : Nat} {S : SM} {t : MT} {E : XK} (σ : St) (H : Hp) (Q : VK) (h : Lm X.K (mCl i S t) σ H Q) : tCall (spM X.K S) [] E (tCons (tVar i) (LmA X.K t)) σ H Q := by
  obtain ⟨H0, ps, hs, Γ, P, se, ⟨⟨l, z0, hl⟩, ht⟩, k⟩ := h
  have hv : σ[i]? = some (some (.ref l)) ∧ l ∈ adr Γ := by
    rcases hl with e | e
    · obtain ⟨v, h1, rfl, _⟩ := se.ok i _ e
      exact ⟨h1, mem_adr.mpr ⟨i, _, e, rfl⟩⟩
    · obtain ⟨v, h1, rfl, _⟩ := se.ok i _ e
      exact ⟨h1, mem_adr.mpr ⟨i, _, e, rfl⟩⟩
  refine ⟨_, hv.1, H0, ps, hs, Γ, _, se, ht, fun as Γ1 us H1 p se1 k1 r1 => ?_⟩
  show spM X.K S ((.ref l :: us) ++ []) H1 Q E
  rw [List.append_nil]
  have bs1 := se1.bs
  rw [k1.1] at bs1
  split at p
  · rename_i l1 ds e
    obtain ⟨v, h1, rfl, ws, h2, h3⟩ := se1.ok i _ e
    have el : l1 = l := by rw [hv.1] at h1; injection h1 with h1; injection h1 with h1; injection h1 with h1; exact h1.symm
    subst el
    rw [k1.1] at h3
    refine ⟨hs ++ adr Γ, l1, ds, us, as, rfl, r1, bs1, List.mem_append_right _ hv.2, ⟨ws, h2, h3⟩, S.mon _ _ _ _ (fun r z hr v H' fr ⟨ws', g1, g2⟩ ro => ?_) p⟩
    obtain ⟨se2, a2, x2⟩ := se1.step (s' := .pl l1 z) e rfl rfl rfl fr g1 ⟨rfl, ws', g1, by rw [k1.1]; exact g2⟩
    exact k _ _ v H' hr se2 (k1.trans ⟨a2, fun a o n q => fr a o (fun z => n (by rw [z]; exact mem_adr.mpr ⟨i, _, e, rfl⟩)) q⟩) (res_dat bs1.fresh ro)
  · rename_i l1 ds e
    obtain ⟨v, h1, rfl, ws, h2, h3⟩ := se1.ok i _ e
    have el : l1 = l := by rw [hv.1] at h1; injection h1 with h1; injection h1 with h1; injection h1 with h1; exact h1.symm
    subst el
    rw [k1.1] at h3
    refine ⟨hs ++ adr Γ, l1, ds, us, as, rfl, r1, bs1, List.mem_append_right _ hv.2, ⟨ws, h2, h3⟩, S.mon _ _ _ _ (fun r z hr v H' fr ⟨ws', g1, g2⟩ ro => ?_) p⟩
    obtain ⟨se2, a2, x2⟩ := se1.step (s' := .ml l1 z) e rfl rfl rfl fr g1 ⟨rfl, ws', g1, by rw [k1.1]; exact g2⟩
    exact k _ _ v H' hr se2 (k1.trans ⟨a2, fun a o n q => fr a o (fun z => n (by rw [z]; exact mem_adr.mpr ⟨i, _, e, rfl⟩)) q⟩) (res_dat bs1.fresh ro)
  · exact p.elim
theorem mx_call {i : Nat} {x y : Str} {k : Nat} {S : SM} {es : List Expr} {p p2 pos : Pos} {t : MT} (F : DfM X.prog X.w X.K X.mg X.base x k S) (hr : Room k X.A) (ha : PA X es (LmA X.K t)) (hN : X.N[i]? = some y := by rfl) (hv : Vis X.env.scope y := by first | exact Or.inl rfl | exact Or.inr (Or.inl rfl) | exact Or.inr (Or.inr rfl))
    (hd : (y == ("__debug__" : Str)) = false := by decide) (hcd : (y == ("__classdict__" : Str)) = false := by decide) (hg : Gl X x := by rfl) (hd2 : (x == ("__debug__" : Str)) = false := by decide)
    (he : starEach (.Name y p2 :: es) X.env = (false, eval (.Name y p2) X.env) :: starEach es X.env := by rfl) (hpl : (backTo pos (starEach es X.env)).any (·.1) = false := by rfl) : PE X (.Call (.Name x p) (.Name y p2 :: es) [] pos) (Lm X.K (mCl i S t)) := by
  obtain ⟨f, fd, ps, h1, h2, h3, h4⟩ := F.ex.ex
  exact pe_imp (pe_call h1 hr hg h2 h3 h4 .nil pass0 (pa_cons (pe_var hN hv hd hcd) ha he) hd2 he hpl) mcall_li
/-! ### statements -/
def sAsgM (i : Nat) (t : IT) : ST := fun E Γ => t Γ fun d Γ2 => E.nx (Γ2.set i (some (.im d)))
theorem s_asgM {i : Nat} {x : Str} {e : Expr} {t : IT} {pos pos' : Pos} (hN : X.N.Nodup) (he : PE X e (Lm X.K t)) (hi : X.N[i]? = some x := by rfl) (hx : Loc X.env.scope x := by first | exact Or.inl rfl | exact Or.inr rfl) (hs : swapsWith e (some (.Name x pos')) pos.line X.env = pure false := by rfl) (hf : X.fn x = true ∨ X.env.scope.names.lookup x = some .local := by first | exact .inl rfl | exact .inr rfl | assumption) :
    PS X (.Assign [.Name x pos'] e pos) (Ls X.K W (sAsgM i t)) := ps_imp (ps_set hN hi hx he hs hf) fun D σ H ⟨H0, ps, hs, Γ, E, se, ht, r⟩ =>
  ⟨H0, ps, hs, Γ, _, se, ht, fun d Γ2 v H2 p se2 k2 rr => r.nx _ _ H2 p (se2.set_im (by rw [k2.1]; exact rr) i) (k2.kp.trans (kp_set_im (Same.refl H2)))⟩
def sRetM (t : IT) : ST := fun E Γ => t Γ fun d Γ2 => E.rt (.d d) Γ2
theorem s_retM {e : Expr} {pos : Pos} {t : IT} (h : PE X e (Lm X.K t)) : PS X (.Return (some e) pos) (Ls X.K W (sRetM t)) := ps_imp (ps_ret h) fun D σ H ⟨H0, ps, hs, Γ, E, se, ht, r⟩ =>
  ⟨H0, ps, hs, Γ, _, se, ht, fun d Γ2 v H2 p se2 k2 rr => r.rt (.d d) Γ2 σ v H2 p se2 (rep_out rr)⟩
def sIfM (c : BMT) (t u : ST) : ST := fun E Γ => c Γ fun b Γ2 => (b = true → t E Γ2) ∧ (b = false → u E Γ2)
theorem s_ifM {c : Expr} {a b : List Stmt} {pos : Pos} {tc : BMT} {t u : ST} (hc : PT X c (LmT X.K tc)) (ha : PSs X a (Ls X.K W t)) (hb : PSs X b (Ls X.K W u)) : PS X (.If c a b pos) (Ls X.K W (sIfM tc t u)) := ps_imp (ps_if hc ha hb) fun D σ H ⟨H0, ps, hs, Γ, E, se, ht, r⟩ =>
  ⟨H0, ps, hs, Γ, _, se, ht, fun b Γ2 H2 p se2 k2 => by
    cases b with
    | true => exact iteT ⟨H0, ps, hs, Γ2, E, se2, p.1 rfl, r.from k2.kp⟩
    | false => exact iteF ⟨H0, ps, hs, Γ2, E, se2, p.2 rfl, r.from k2.kp⟩⟩
def sDropM (t : IT) : ST := fun E Γ => t Γ fun _ Γ2 => E.nx Γ2
theorem s_dropM {e : Expr} {t : IT} {pos : Pos} (he : PE X e (Lm X.K t)) (hs : swapsWith e none pos.line X.env = pure false := by rfl) : PS X (.Expr e pos) (Ls X.K W (sDropM t)) := ps_imp (ps_expr he hs) fun D σ H ⟨H0, ps, hs, Γ, E, se, ht, r⟩ =>
  ⟨H0, ps, hs, Γ, _, se, ht, fun d Γ2 v H2 p se2 k2 rr => r.nx Γ2 σ H2 p se2 k2.kp⟩
/-! ### for over a range whose end changes lists -/
def LIM (K : Frag) (t : MT) : TI := fun σ H R => ∃ (H0 : Hp) (ps hs : List Addr) (Γ : Env) (P : List D → Env → Prop), SE K H0 ps hs Γ σ H ∧ t Γ P ∧ ∀ ds Γ2 J H2, P ds Γ2 → SE K H0 ps hs Γ2 σ H2 → Km hs Γ H Γ2 H2 → Walks K (fun _ => True) (hid (hs ++ adr Γ) H2) J ds → R J H2
def iR1M (t : MT) : MT := fun Γ P => t Γ fun ds Γ2 => match ds with
  | [.int j] => -(2 ^ 62) ≤ j ∧ j < 2 ^ 62 ∧ P (rngD 0 1 j.toNat) Γ2
  | _ => False
theorem reps_ints {K : Frag} {B : Hp} : ∀ {vs : List V} {ds : List D}, Reps K B vs ds → ∀ {ns : List Int}, ds = ns.map D.int → vs = ns.map V.int
  | _, _, .nil, [], _ => rfl
  | _, _, .nil, _ :: _, h => by cases h
  | _, _, .cons a b, [], h => by cases h
  | _, _, .cons a b, n :: ns, h => by
    simp only [List.map_cons, List.cons.injEq] at h
    obtain ⟨rfl, h⟩ := h
    cases a
    rw [reps_ints b h]
    rfl
theorem ilm_r1 {tg a : Expr} {t : MT} {p pos : Pos} (hg : Gl X "range") (hm : X.mg "range" = none) (ha : PA X [a] (LmA X.K t)) (hs : starEach [a] X.env = [(false, eval a X.env)] := by rfl) : PI X tg (.Call (.Name "range" p) [a] [] pos) (LIM X.K (iR1M t)) :=
  pi_imp (pi_range1 hg hm ha hs) fun σ H R ⟨H0, ps, hs, Γ, P, se, ht, k⟩ => ⟨H0, ps, hs, Γ, _, se, ht, fun ds Γ2 vs H2 p se2 k2 r => by
    split at p
    · exact ⟨_, reps_ints r (ns := [_]) rfl, p.1, p.2.1, k _ Γ2 _ H2 p.2.2 se2 k2 walk_rng⟩
    · exact p.elim⟩
def sForM (ti : MT) (g : GT) (tb : ST) : ST := fun E Γ => ti Γ fun ds Γ2 => ForB g tb E Γ2 ds
theorem s_forM {tg iter : Expr} {body : List Stmt} {ti : MT} {g : GT} {tb : ST} {gown : List Nat} {pos : Pos} (hp : PassesOwn (model X.prog X.w) X.A X.env X.xe) (hc : X.calm = true) (hi : PI X tg iter (LIM X.K ti)) (hg : PG X tg (Lg X.K gown g)) (hb : PSs X body (Ls X.K W tb))
    (hs : ∀ x, foldedSetIterable iter X.env x = pure x := by intro _; rfl) : PS X (.For tg iter body [] pos) (Ls X.K W (sForM ti g tb)) := ps_imp (ps_for hp hc hi hg hb hs) fun D σ H ⟨H0, ps, hs, Γ, E, se, ht, r⟩ => by
  refine ⟨H0, ps, hs, Γ, _, se, ht, fun ds Γ1 J H1 hp se1 k1 w => ?_⟩
  obtain ⟨I, i0, turn, done⟩ := hp
  refine ⟨fun i m σ' H' => m = ds.length - i ∧ i ≤ ds.length ∧ ∃ Γ', SE X.K H0 ps hs Γ' σ' H' ∧ Kp hs Γ1 H1 Γ' H' ∧ I i Γ', ⟨ds.length, by simp, Nat.zero_le _, Γ1, se1, Kp.refl, i0⟩, ?_⟩
  rintro i m σ' H' ⟨rfl, hil, Γ', se', kp, hI⟩
  by_cases hlt : i < ds.length
  · refine .inr ⟨w.go i H' trivial hlt, fun σ'' H'' => ∃ Γ'', SE X.K H0 ps hs Γ'' σ'' H'' ∧ Kp hs Γ1 H1 Γ'' H'' ∧ I (i + 1) Γ'', ?_, fun x H'' hy => ?_⟩
    · rintro σ'' H'' ⟨Γ'', a, b, c⟩
      exact ⟨ds.length - (i + 1), by omega, rfl, hlt, Γ'', a, b, c⟩
    · obtain ⟨e9, d, hd, rx⟩ := w.yl i H' x H'' trivial hlt hy
      replace rx := rx (hs ++ adr Γ') se'.bs (by rw [← k1.1]; exact kp.x)
      replace kp := kp.trans (Kp.ex e9)
      replace se' := se'.mono e9
      refine ⟨H0, ps, hs, Γ', d, _, se', rx, turn i d Γ' hd hI, fun Γ2 σ2 p2 a2 se2 _ _ => ?_⟩
      have kp2 : Kp hs Γ1 H1 Γ2 H'' := by
        unfold Kp at kp ⊢
        rw [a2]
        exact kp
      exact ⟨H0, ps, hs, Γ2, _, se2, p2, ⟨fun Γ3 σ3 H3 a b c => ⟨Γ3, b, kp2.trans c, a⟩, r.rt, fun Γ3 σ3 H3 a b c => r.nx Γ3 σ3 H3 a b ((k1.kp.trans kp2).trans c), fun Γ3 σ3 H3 a b c => ⟨Γ3, b, kp2.trans c, a⟩, fun C fs Γ3 σ3 H3 d a b c x => r.ex C fs Γ3 σ3 H3 d a b ((k1.kp.trans kp2).trans c) x⟩⟩
  · have e : i = ds.length := by omega
    subst e
    exact .inl ⟨w.st _ H' trivial rfl, r.nx Γ' σ' H' (done Γ' hI) se' (k1.kp.trans kp)⟩
end
end Kb
set_option Elab.async false
set_option linter.all false
set_option maxRecDepth 100000
set_option maxHeartbeats 1000000
/-! Kb10: dicts. -/
namespace Kb
open PySem L2
set_option autoImplicit false

section
variable {κ β : Type} [DecidableEq κ]
def valG (kvs : List (κ × β)) (k : κ) : Option β := (kvs.find? fun kv => decide (kv.1 = k)).map (·.2)
def putG (kvs : List (κ × β)) (k : κ) (v : β) : List (κ × β) :=
  if (kvs.any fun kv => decide (kv.1 = k)) = true then kvs.map (fun kv => if kv.1 = k then (kv.1, v) else kv) else kvs ++ [(k, v)]
def putAll (kvs : List (κ × β)) (more : List (κ × β)) : List (κ × β) := more.foldl (fun acc kv => putG acc kv.1 kv.2) kvs
theorem valG_cons (p : κ × β) (r : List (κ × β)) (k : κ) : valG (p :: r) k = if p.1 = k then some p.2 else valG r k := by
  unfold valG
  by_cases h : p.1 = k <;> simp [List.find?_cons, h]
theorem val_rep {K : Frag} {B : Hp} : ∀ {kvs : List (κ × V)} {es : List (κ × D)} (k : κ), kvs.map (·.1) = es.map (·.1) → Reps K B (kvs.map (·.2)) (es.map (·.2)) → (valG es k = none ∧ valV kvs k = none) ∨ ∃ d v, valG es k = some d ∧ valV kvs k = some v ∧ Rep K B v d
  | [], [], k, _, _ => .inl ⟨rfl, rfl⟩
  | [], _ :: _, _, h, _ => by simp at h
  | _ :: _, [], _, h, _ => by simp at h
  | (x, v) :: r, (y, d) :: q, k, h, hr => by
    simp only [List.map_cons, List.cons.injEq] at h
    obtain ⟨rfl, h⟩ := h
    cases hr with
    | cons h1 h2 =>
      rw [valG_cons]
      by_cases z : x = k
      · exact .inr ⟨d, v, by simp [z], valV_pos z, h1⟩
      · rw [valV_neg z, if_neg z]
        exact val_rep k h h2
theorem put_rep {K : Frag} {B : Hp} {kvs : List (κ × V)} {es : List (κ × D)} (k : κ) {v : V} {d : D} (h : kvs.map (·.1) = es.map (·.1)) (hr : Reps K B (kvs.map (·.2)) (es.map (·.2))) (r : Rep K B v d) :
    (putK kvs k v).map (·.1) = (putG es k d).map (·.1) ∧ Reps K B ((putK kvs k v).map (·.2)) ((putG es k d).map (·.2)) := by
  have ha : (kvs.any fun kv => decide (kv.1 = k)) = (es.any fun kv => decide (kv.1 = k)) := by
    have e : ∀ {γ : Type} (l : List (κ × γ)), (l.any fun kv => decide (kv.1 = k)) = (l.map (·.1)).any fun x => decide (x = k) := fun l => by rw [List.any_map]; rfl
    rw [e, e, h]
  unfold putK putG
  rw [ha]
  split
  · rename_i hany
    clear ha hany
    constructor
    · have e : ∀ {γ : Type} (u : γ) (l : List (κ × γ)), (l.map (fun kv => if kv.1 = k then (kv.1, u) else kv)).map (·.1) = l.map (·.1) := fun u l => by
        rw [List.map_map]
        apply List.map_congr_left
        intro p _
        show (if p.1 = k then (p.1, u) else p).1 = p.1
        split <;> rfl
      rw [e, e, h]
    · rw [List.map_map, List.map_map]
      induction kvs generalizing es with
      | nil => cases es with
        | nil => exact .nil
        | cons _ _ => simp at h
      | cons p kvs ih => cases es with
        | nil => simp at h
        | cons q es =>
          simp only [List.map_cons, List.cons.injEq] at h
          cases hr with
          | cons h1 h2 =>
            refine .cons ?_ (ih h.2 h2)
            show Rep K B (if p.1 = k then (p.1, v) else p).2 (if q.1 = k then (q.1, d) else q).2
            rw [h.1]
            split
            · exact r
            · exact h1
  · rw [List.map_append, List.map_append, List.map_append, List.map_append, h]
    exact ⟨rfl, hr.append (.one r)⟩
theorem putG_len (es : List (κ × β)) (k : κ) (d : β) : (putG es k d).length ≤ es.length + 1 := by
  unfold putG
  split <;> simp
end
def keyD : D → Option Key
  | .int i => some (.inl i)
  | .str x => some (.inr x)
  | _ => none
theorem key_rep {K : Frag} {B H : Hp} {v : V} {d : D} {k : Key} (r : RepW K B H v d) (h : keyD d = some k) : v = kV k := by
  cases d with
  | int i => cases h; exact r.intv
  | str x => cases h; exact r.strv
  | _ => cases h
def keysD : List D → Option (List Key)
  | [] => some []
  | d :: ds => match keyD d, keysD ds with
    | some k, some ks => some (k :: ks)
    | _, _ => none
theorem keys_rep {K : Frag} {B : Hp} : ∀ {vs : List V} {ds : List D} {ks : List Key}, Reps K B vs ds → keysD ds = some ks → vs = ks.map kV
  | _, _, _, .nil, h => by cases h; rfl
  | _, _, _, .cons (d := d) (ds := ds) a b, h => by
    unfold keysD at h
    cases e1 : keyD d with
    | none => rw [e1] at h; cases h
    | some k =>
      cases e2 : keysD ds with
      | none => rw [e1, e2] at h; cases h
      | some ks =>
        rw [e1, e2] at h
        cases h
        rw [key_rep (RepW.im (H := B) a) e1, keys_rep b e2]
        rfl

section
variable {X : Cx} {W : WX}
/-! ### d[k], k in d -/
def xDGet (td tk : XT) : XT := fun Γ P => td Γ fun d => tk Γ fun kd => match d with
  | .dic es => (match keyD kd with
    | some k => (match valG es k with
      | some z => P z
      | none => False)
    | none => False)
  | _ => False
theorem px_dget {k : Nat} {o i : Expr} {pos : Pos} {td tk : XT} (hr : Room k X.A) (ho : PE X o (Lb X.K td)) (hi : PE X i (Lb X.K tk)) (hs : NoSl i := by exact fun _ _ => rfl) : PE X (.Subscript o i pos) (Li X.K (xDGet td tk)) :=
  pe_imp (pe_dget (hu_of hr) ho hi hs) fun σ H Q ⟨H0, ps, hs, Γ, P, se, ht, k⟩ => ⟨H0, ps, hs, Γ, _, se, ht, fun d x H1 p1 e1 r1 => ⟨H0, ps, hs, Γ, _, se.mono e1, p1, fun kd y H2 p2 e2 r2 => by
    split at p2
    · rename_i es
      obtain ⟨a, kvs, rfl, h1, h2, h3⟩ := r1.dict hid_ex
      cases ek : keyD kd with
      | none => rw [ek] at p2; exact p2.elim
      | some key =>
        rw [ek] at p2
        cases key_rep r2 ek
        rcases val_rep key h2 h3 with ⟨z1, _⟩ | ⟨z, v, z1, z2, z3⟩
        · dsimp only at p2; rw [z1] at p2; exact p2.elim
        · dsimp only at p2
          rw [z1] at p2
          have g := DGet.k (k := key) (e2 _ _ h1)
          rw [z2] at g
          exact ⟨a, v, rfl, g, k z v H2 p2 (e1.trans e2) (z3.mono (hid_ex2 e2))⟩
    · exact p2.elim⟩⟩
def fDIn (neg : Bool) : F2 := fun kd d P => match d with
  | .dic es => (match keyD kd with
    | some k => P (.bl (if neg then !(valG es k).isSome else (valG es k).isSome))
    | none => False)
  | _ => False
theorem din_of {σ : St} {H : Hp} {Q : VK} {ty td : XT} (h : Li X.K (x2 (fDIn false) ty td) σ H Q) : tDIn (Lb X.K ty) (Lb X.K td) σ H Q := by
  obtain ⟨H0, ps, hs, Γ, P, se, ht, k⟩ := h
  refine ⟨H0, ps, hs, Γ, _, se, ht, fun kd y H1 p1 e1 r1 => ⟨H0, ps, hs, Γ, _, se.mono e1, p1, fun d x H2 p2 e2 r2 => ?_⟩⟩
  unfold fDIn at p2
  split at p2
  · rename_i es
    obtain ⟨a, kvs, rfl, h1, h2, h3⟩ := r2.dict hid_ex
    cases ek : keyD kd with
    | none => rw [ek] at p2; exact p2.elim
    | some key =>
      rw [ek] at p2
      cases key_rep r1 ek
      refine ⟨a, _, rfl, DGet.k (k := key) h1, ?_⟩
      have e : (valV kvs key).isSome = (valG es key).isSome := by
        rcases val_rep key h2 h3 with ⟨z1, z2⟩ | ⟨z, v, z1, z2, _⟩ <;> rw [z1, z2] <;> rfl
      rw [e]
      exact k _ _ H2 p2 (e1.trans e2) (.bl _)
  · exact p2.elim
theorem dnin_of {σ : St} {H : Hp} {Q : VK} {ty td : XT} (h : Li X.K (x2 (fDIn true) ty td) σ H Q) : tDNotIn (Lb X.K ty) (Lb X.K td) σ H Q := by
  obtain ⟨H0, ps, hs, Γ, P, se, ht, k⟩ := h
  refine ⟨H0, ps, hs, Γ, _, se, ht, fun kd y H1 p1 e1 r1 => ⟨H0, ps, hs, Γ, _, se.mono e1, p1, fun d x H2 p2 e2 r2 => ?_⟩⟩
  unfold fDIn at p2
  split at p2
  · rename_i es
    obtain ⟨a, kvs, rfl, h1, h2, h3⟩ := r2.dict hid_ex
    cases ek : keyD kd with
    | none => rw [ek] at p2; exact p2.elim
    | some key =>
      rw [ek] at p2
      cases key_rep r1 ek
      refine ⟨a, _, rfl, DGet.k (k := key) h1, ?_⟩
      have e : (valV kvs key).isSome = (valG es key).isSome := by
        rcases val_rep key h2 h3 with ⟨z1, z2⟩ | ⟨z, v, z1, z2, _⟩ <;> rw [z1, z2] <;> rfl
      rw [e]
      exact k _ _ H2 p2 (e1.trans e2) (.bl _)
  · exact p2.elim
section
variable {a b : Expr} {pos : Pos} {ta tb : XT} {k : Nat}
theorem li_of_lt {f : F2} {ta tb : XT} (σ : St) (H : Hp) (Q : Bool → Hp → Prop) (h : Lt X.K (b2 f ta tb) σ H Q) : Li X.K (x2 f ta tb) σ H fun x H1 => ∃ c, x = .bl c ∧ Q c H1 := by
  obtain ⟨H0, ps, hs, Γ, P, se, ht, k⟩ := h
  exact ⟨H0, ps, hs, Γ, _, se, ht, fun d v H2 p e r => by
    cases d with
    | bl c =>
      cases r
      exact ⟨c, rfl, k c H2 p e⟩
    | _ => exact p.elim⟩
theorem px_din (hr : Room k X.A) (ha : PE X a (Lb X.K ta)) (hb : PE X b (Lb X.K tb)) (hm : behindInMarks .In b = false := by rfl) : PE X (.Compare a [.In] [b] pos) (Li X.K (x2 (fDIn false) ta tb)) := pe_imp (pe_cmp (pc_din (hu_of hr) ha hb) hm) fun _ _ _ h => din_of h
theorem px_dnin (hr : Room k X.A) (ha : PE X a (Lb X.K ta)) (hb : PE X b (Lb X.K tb)) (hm : behindInMarks .NotIn b = false := by rfl) : PE X (.Compare a [.NotIn] [b] pos) (Li X.K (x2 (fDIn true) ta tb)) := pe_imp (pe_cmp (pc_dnotin (hu_of hr) ha hb) hm) fun _ _ _ h => dnin_of h
theorem tx_din (hr : Room k X.A) (ha : PE X a (Lb X.K ta)) (hb : PE X b (Lb X.K tb)) (hm : behindInMarks .In b = false := by rfl) : PT X (.Compare a [.In] [b] pos) (Lt X.K (b2 (fDIn false) ta tb)) := pt_imp (pt_cmp (pc_din (hu_of hr) ha hb) hm) fun σ H Q h => din_of (li_of_lt σ H Q h)
theorem tx_dnin (hr : Room k X.A) (ha : PE X a (Lb X.K ta)) (hb : PE X b (Lb X.K tb)) (hm : behindInMarks .NotIn b = false := by rfl) : PT X (.Compare a [.NotIn] [b] pos) (Lt X.K (b2 (fDIn true) ta tb)) := pt_imp (pt_cmp (pc_dnotin (hu_of hr) ha hb) hm) fun σ H Q h => dnin_of (li_of_lt σ H Q h)
end
/-! ### d[a, b] of a dict by tuples (the key displayed) -/
def xDGetT (td : XT) (tk : FT) : XT := fun Γ P => td Γ fun d => tk Γ fun kds => kds.length ≤ sizeLine ∧ match d with
  | .dit es => (match keysD kds with
    | some k => (match valG es k with
      | some z => P z
      | none => False)
    | none => False)
  | _ => False
theorem px_dgetT {k : Nat} {o : Expr} {es : List Expr} {x1 : Nat} {pos p2 : Pos} {td : XT} {tk : FT} (hr : Room k X.A) (ho : PE X o (Lb X.K td)) (hi : PA X es (LaS X.K tk)) (hs : NoSl (.Tuple es x1 p2) := by exact fun _ _ => rfl) : PE X (.Subscript o (.Tuple es x1 p2) pos) (Li X.K (xDGetT td tk)) :=
  pe_imp (pe_dget (hu_of hr) ho (pe_tup hi) hs) fun σ H Q ⟨H0, ps, hs, Γ, P, se, ht, k⟩ => ⟨H0, ps, hs, Γ, _, se, ht, fun d x H1 p1 e1 r1 => ⟨H0, ps, hs, Γ, _, se.mono e1, p1, fun kds ys H2 p2 e2 r2 => ⟨by rw [r2.length]; exact p2.1, fun q n => by
    have p2 := p2.2
    split at p2
    · rename_i es
      obtain ⟨a, kvs, rfl, h1, h2, h3⟩ := r1.dictT hid_ex
      cases ek : keysD kds with
      | none => rw [ek] at p2; exact p2.elim
      | some key =>
        rw [ek] at p2
        cases keys_rep r2 ek
        have em : Ex H1 (upd H2 q (.tup (key.map kV))) := e2.trans (Ex.new n)
        rcases val_rep key h2 h3 with ⟨z1, _⟩ | ⟨z, v, z1, z2, z3⟩
        · dsimp only at p2; rw [z1] at p2; exact p2.elim
        · dsimp only at p2
          rw [z1] at p2
          have g := DGet.t (k := key) (b := q) (em _ _ h1) upd_same
          rw [z2] at g
          exact ⟨a, v, rfl, g, k z v _ p2 (e1.trans em) (z3.mono (hid_ex2 em))⟩
    · exact p2.elim⟩⟩⟩
/-! ### d[k] = v, d of one's own -/
def sDPu (i : Nat) (te tk : XT) : ST := fun E Γ => te Γ fun d => match Γ[i]? with
  | some (some (.md l es)) => tk Γ fun kd => es.length < sizeLine ∧ (match keyD kd with
    | some k => E.nx (Γ.set i (some (.md l (putG es k d))))
    | none => False)
  | _ => False
theorem keys_len {κ : Type} {kvs : List (κ × V)} {es : List (κ × D)} (h : kvs.map (·.1) = es.map (·.1)) : kvs.length = es.length := by
  have := congrArg List.length h
  simpa using this
theorem s_dpu (i : Nat) {k : Nat} {x : Str} {e kx : Expr} {te tk : XT} {npos pos' pos : Pos} (hr : Room k X.A) (he : PE X e (Li X.K te)) (hk : PE X kx (Lb X.K tk)) (hN : X.N[i]? = some x := by rfl) (hv : Vis X.env.scope x := by first | exact Or.inl rfl | exact Or.inr (Or.inl rfl) | exact Or.inr (Or.inr rfl)) (hd : (x == ("__debug__" : Str)) = false := by decide) (hcd : (x == ("__classdict__" : Str)) = false := by decide)
    (hs : swapsWith e (some (.Subscript (.Name x npos) kx pos')) pos.line X.env = pure false := by rfl) : PS X (.Assign [.Subscript (.Name x npos) kx pos'] e pos) (Ls X.K W (sDPu i te tk)) :=
  ps_imp (ps_dput (hu_of hr) (pe_var hN hv hd hcd) hk he hs) fun D σ H ⟨H0, ps, hs, Γ, E, se, ht, r⟩ => by
    refine ⟨H0, ps, hs, Γ, _, se, ht, fun d y H2 p e2 rr => ?_⟩
    have se2 := se.mono e2
    split at p
    · rename_i l es e
      obtain ⟨v, h1, rfl, kvs, h2, h3, h4⟩ := se2.ok i _ e
      refine ⟨_, h1, H0, ps, hs, Γ, _, se2, p, fun kd u H3 q e3 r3 => ?_⟩
      obtain ⟨q0, q⟩ := q
      cases ek : keyD kd with
      | none => rw [ek] at q; exact q.elim
      | some key =>
        rw [ek] at q
        cases key_rep r3 ek
        have hl : l ∈ adr Γ := mem_adr.mpr ⟨i, _, e, rfl⟩
        obtain ⟨pr1, pr2⟩ := put_rep key h3 (h4.mono (hid_ex2 e3)) (rr.mono (hid_ex2 e3))
        obtain ⟨se', ha⟩ := (se2.mono e3).write (s' := .md l (putG es key d)) (o := .dK (putK kvs key y)) e rfl rfl rfl ⟨rfl, _, upd_same, pr1, pr2⟩
        exact ⟨l, _, rfl, DPut.k (e3 _ _ h2) (by rw [keys_len h3]; exact q0), r.nx _ σ _ q se' ((Kp.ex (e2.trans e3)).trans (kp_write hl ha))⟩
    · exact p.elim
def sDPuT (i : Nat) (te : XT) (tk : FT) : ST := fun E Γ => te Γ fun d => match Γ[i]? with
  | some (some (.mt l es)) => tk Γ fun kds => kds.length ≤ sizeLine ∧ es.length < sizeLine ∧ (match keysD kds with
    | some k => E.nx (Γ.set i (some (.mt l (putG es k d))))
    | none => False)
  | _ => False
theorem s_dpuT (i : Nat) {k : Nat} {x : Str} {e : Expr} {kxs : List Expr} {x1 : Nat} {te : XT} {tk : FT} {npos pos' pos p2 : Pos} (hr : Room k X.A) (he : PE X e (Li X.K te)) (hk : PA X kxs (LaS X.K tk)) (hN : X.N[i]? = some x := by rfl) (hv : Vis X.env.scope x := by first | exact Or.inl rfl | exact Or.inr (Or.inl rfl) | exact Or.inr (Or.inr rfl)) (hd : (x == ("__debug__" : Str)) = false := by decide) (hcd : (x == ("__classdict__" : Str)) = false := by decide)
    (hs : swapsWith e (some (.Subscript (.Name x npos) (.Tuple kxs x1 p2) pos')) pos.line X.env = pure false := by rfl) : PS X (.Assign [.Subscript (.Name x npos) (.Tuple kxs x1 p2) pos'] e pos) (Ls X.K W (sDPuT i te tk)) :=
  ps_imp (ps_dput (hu_of hr) (pe_var hN hv hd hcd) (pe_tup hk) he hs) fun D σ H ⟨H0, ps, hs, Γ, E, se, ht, r⟩ => by
    refine ⟨H0, ps, hs, Γ, _, se, ht, fun d y H2 p e2 rr => ?_⟩
    have se2 := se.mono e2
    split at p
    · rename_i l es e
      obtain ⟨v, h1, rfl, kvs, h2, h3, h4⟩ := se2.ok i _ e
      refine ⟨_, h1, H0, ps, hs, Γ, _, se2, p, fun kds us H3 q e3 r3 => ⟨by rw [r3.length]; exact q.1, fun t n => ?_⟩⟩
      obtain ⟨_, q0, q⟩ := q
      cases ek : keysD kds with
      | none => rw [ek] at q; exact q.elim
      | some key =>
        rw [ek] at q
        cases keys_rep r3 ek
        have e4 : Ex H2 (upd H3 t (.tup (key.map kV))) := e3.trans (Ex.new n)
        have hl : l ∈ adr Γ := mem_adr.mpr ⟨i, _, e, rfl⟩
        obtain ⟨pr1, pr2⟩ := put_rep key h3 (h4.mono (hid_ex2 e4)) (rr.mono (hid_ex2 e4))
        obtain ⟨se', ha⟩ := (se2.mono e4).write (s' := .mt l (putG es key d)) (o := .dT (putK kvs key y)) e rfl rfl rfl ⟨rfl, _, upd_same, pr1, pr2⟩
        exact ⟨l, _, rfl, DPut.t (e4 _ _ h2) upd_same (by rw [keys_len h3]; exact q0), r.nx _ σ _ q se' ((Kp.ex (e2.trans e4)).trans (kp_write hl ha))⟩
    · exact p.elim
/-! ### d = {}, d = {k: v} -/
def sDNew (i : Nat) : ST := fun E Γ => ∀ l, l ∉ adr Γ → E.nx (Γ.set i (some (.md l [])))
def sDNewT (i : Nat) : ST := fun E Γ => ∀ l, l ∉ adr Γ → E.nx (Γ.set i (some (.mt l [])))
section
variable {i : Nat} {x : Str} {pos pos' p2 : Pos}
theorem s_dnew (hN : X.N.Nodup) (hi : X.N[i]? = some x := by rfl) (hx : Loc X.env.scope x := by first | exact Or.inl rfl | exact Or.inr rfl) (hs : swapsWith (.Dict [] [] p2) (some (.Name x pos')) pos.line X.env = pure false := by rfl) (hf : X.fn x = true ∨ X.env.scope.names.lookup x = some .local := by first | exact .inl rfl | exact .inr rfl | assumption) :
    PS X (.Assign [.Name x pos'] (.Dict [] [] p2) pos) (Ls X.K W (sDNew i)) := ps_imp (ps_set hN hi hx pe_dnewK hs hf) fun D σ H ⟨H0, ps, hs, Γ, E, se, ht, r⟩ => fun l n =>
  r.nx _ _ _ (ht l (se.fresh n)) (se.set_own n (Ex.new n) (s := .md l []) rfl rfl ⟨rfl, [], upd_same, rfl, .nil⟩ i) (kp_set_own n (Ex.new n) rfl)
theorem s_dnewT (hN : X.N.Nodup) (hi : X.N[i]? = some x := by rfl) (hx : Loc X.env.scope x := by first | exact Or.inl rfl | exact Or.inr rfl) (hs : swapsWith (.Dict [] [] p2) (some (.Name x pos')) pos.line X.env = pure false := by rfl) (hf : X.fn x = true ∨ X.env.scope.names.lookup x = some .local := by first | exact .inl rfl | exact .inr rfl | assumption) :
    PS X (.Assign [.Name x pos'] (.Dict [] [] p2) pos) (Ls X.K W (sDNewT i)) := ps_imp (ps_set hN hi hx pe_dnewT hs hf) fun D σ H ⟨H0, ps, hs, Γ, E, se, ht, r⟩ => fun l n =>
  r.nx _ _ _ (ht l (se.fresh n)) (se.set_own n (Ex.new n) (s := .mt l []) rfl rfl ⟨rfl, [], upd_same, rfl, .nil⟩ i) (kp_set_own n (Ex.new n) rfl)
def sDOne (i : Nat) (tk tv : XT) : ST := fun E Γ => tk Γ fun kd => tv Γ fun d => match keyD kd with
  | some k => ∀ l, l ∉ adr Γ → E.nx (Γ.set i (some (.md l [(k, d)])))
  | none => False
theorem s_done {k v : Expr} {tk tv : XT} (hN : X.N.Nodup) (hk : PE X k (Lb X.K tk)) (hv : PE X v (Li X.K tv)) (hi : X.N[i]? = some x := by rfl) (hx : Loc X.env.scope x := by first | exact Or.inl rfl | exact Or.inr rfl) (hs : swapsWith (.Dict [some k] [v] p2) (some (.Name x pos')) pos.line X.env = pure false := by rfl) (hf : X.fn x = true ∨ X.env.scope.names.lookup x = some .local := by first | exact .inl rfl | exact .inr rfl | assumption) :
    PS X (.Assign [.Name x pos'] (.Dict [some k] [v] p2) pos) (Ls X.K W (sDOne i tk tv)) := ps_imp (ps_set hN hi hx (pe_disp (pps_cons hk hv pps_nil) rfl rfl (by intro z; cases z) (Nat.le_of_ble_eq_true rfl)) hs hf) fun D σ H ⟨H0, ps, hs, Γ, E, se, ht, r⟩ => fun l n => by
  have e0 : Ex H (upd H l (.dK [])) := Ex.new n
  have se0 : SE X.K H0 ps (l :: hs) Γ σ (upd H l (.dK [])) := se.hide n e0 (by rw [upd_same]; intro z; cases z)
  have hpl : ∀ p ∈ ps, p ∈ l :: hs := fun p m => List.mem_cons_of_mem _ (se.psub p m)
  refine ⟨H0, ps, l :: hs, Γ, _, se0, ht, fun kd y H1 p1 e1 r1 => ⟨H0, ps, l :: hs, Γ, _, se0.mono e1, p1, fun d z H2 p2 e2 r2 => ?_⟩⟩
  cases ek : keyD kd with
  | none => rw [ek] at p2; exact p2.elim
  | some key =>
    rw [ek] at p2
    cases key_rep r1 ek
    have hl2 : H2 l = some (.dK []) := e2 _ _ (e1 _ _ upd_same)
    refine ⟨hl2, [(key, z)], rfl, Nat.le_of_ble_eq_true rfl, ?_⟩
    have em : Ex H (upd H2 l (.dK [(key, z)])) := fun a o q => by
      rw [upd_ne (ne_of_none q n)]
      exact e2 _ _ (e1 _ _ (e0 _ _ q))
    refine r.nx _ _ _ (p2 l (se.fresh n)) (se.set_own n em (s := .md l [(key, d)]) rfl rfl ⟨rfl, [(key, z)], upd_same, rfl, .one ?_⟩ i) (kp_set_own n em rfl)
    rw [hid_upd List.mem_cons_self]
    exact r2
end
/-! ### dict comprehensions -/
def DcB (Γ : Env) (g : GT) (tt : BT) (tk tv : XT) (vs : List Nat) (ds : List D) (P : D → Prop) : Prop := ds.length ≤ sizeLine ∧ adr (wipeE Γ vs) = adr Γ ∧
  ∃ zs : List (Option (Key × D)), zs.length = ds.length ∧ (∀ (i : Nat) (d : D) (o : Option (Key × D)), ds[i]? = some d → zs[i]? = some o → g d (wipeE Γ vs) fun Γ2 => tt Γ2 fun b => (b = true → tk Γ2 fun kd => tv Γ2 fun z => ∃ k, keyD kd = some k ∧ o = some (k, z)) ∧ (b = false → o = none)) ∧ P (.dic (putAll [] (zs.filterMap id)))
def xDc (ti : FT) (g : GT) (tt : BT) (tk tv : XT) (vs : List Nat) : XT := fun Γ P => ti Γ fun ds => DcB Γ g tt tk tv vs ds P
theorem dcb {α : Type} {Γ : Env} {g : GT} {tt : BT} {tk tv : XT} {vs : List Nat} {P : D → Prop} {xs : List α} {enc : α → D} (o : α → Option (Key × D)) (hl : xs.length ≤ sizeLine)
    (hb : ∀ x ∈ xs, g (enc x) (wipeE Γ vs) fun Γ2 => tt Γ2 fun b => (b = true → tk Γ2 fun kd => tv Γ2 fun z => ∃ k, keyD kd = some k ∧ o x = some (k, z)) ∧ (b = false → o x = none)) (hP : P (.dic (putAll [] (xs.filterMap o)))) (ha : adr (wipeE Γ vs) = adr Γ := by rfl) : DcB Γ g tt tk tv vs (xs.map enc) P := by
  refine ⟨by rw [List.length_map]; exact hl, ha, xs.map o, by rw [List.length_map, List.length_map], fun i d z h1 h2 => ?_, ?_⟩
  · rw [List.getElem?_map] at h1 h2
    cases e : xs[i]? with
    | none => rw [e] at h1; cases h1
    | some x =>
      rw [e] at h1 h2
      cases h1
      cases h2
      exact hb x (List.mem_iff_getElem?.mpr ⟨i, e⟩)
  · rw [List.filterMap_map]
    exact hP
theorem dc_li {vs : List Nat} {ti : FT} {g : GT} {tt : BT} {tk tv : XT} {gown : List Nat} (hsub : ∀ j ∈ gown, j ∈ vs) {K : Frag} (σ : St) (H : Hp) (Q : VK) (h : Li K (xDc ti g tt tk tv vs) σ H Q) : tDc (LB K ti) (Lg K gown g) (Lt K tt) (Li K tk) (Li K tv) vs σ H Q := by
  obtain ⟨H0, ps, hs, Γ, P, se, hti, k⟩ := h
  refine ⟨H0, ps, hs, Γ, _, se, hti, fun ds J H1 hp e1 w => fun Dl nD => ?_⟩
  obtain ⟨hlen, hadr, zs, hzl, hf, hP⟩ := hp
  have se1 := se.mono e1
  have nH : H Dl = none := fresh_of e1 nD
  have nb : Dl ∉ hs ++ adr Γ := se1.bs.new nD
  refine ⟨fun i m H' => m = ds.length - i ∧ i ≤ ds.length ∧ Ex H1 H' ∧ ∃ acc es, H' Dl = some (.dK acc) ∧ es.length ≤ i ∧ es = putAll [] ((zs.take i).filterMap id) ∧ acc.map (·.1) = es.map (·.1) ∧ Reps K (hid (Dl :: (hs ++ adr Γ)) H') (acc.map (·.2)) (es.map (·.2)),
    ⟨ds.length, by simp, Nat.zero_le _, Ex.new nD, [], [], upd_same, Nat.le_refl _, rfl, rfl, .nil⟩, ?_⟩
  rintro i m H' ⟨rfl, hil, eH, acc, es, hD, hacc, hes, hk1, racc⟩
  by_cases hlt : i < ds.length
  · refine .inr ⟨w.go i H' eH hlt, fun H'' => Ex H1 H'' ∧ ∃ acc es, H'' Dl = some (.dK acc) ∧ es.length ≤ i + 1 ∧ es = putAll [] ((zs.take (i + 1)).filterMap id) ∧ acc.map (·.1) = es.map (·.1) ∧ Reps K (hid (Dl :: (hs ++ adr Γ)) H'') (acc.map (·.2)) (es.map (·.2)), ?_, ?_⟩
    · rintro H'' ⟨e2, acc', es', a, b, c, d, e⟩
      exact ⟨ds.length - (i + 1), by omega, rfl, hlt, e2, acc', es', a, b, c, d, e⟩
    · intro x H'' hy
      obtain ⟨e9, d, hd, rx⟩ := w.yl i H' x H'' eH hlt hy
      replace rx := rx (Dl :: (hs ++ adr Γ)) (bs_cons (by rw [hD]; intro z; cases z) (se1.bs.mono eH)) (hid_fresh nD eH)
      replace eH := eH.trans e9
      replace hD := e9 _ _ hD
      replace racc := racc.mono (hid_ex2 e9)
      have hzi : i < zs.length := by omega
      obtain ⟨oz, hoz⟩ : ∃ oz, zs[i]? = some oz := ⟨_, List.getElem?_eq_getElem hzi⟩
      have seI : SE K H0 ps (Dl :: hs) (wipeE Γ vs) (wipe σ vs) H'' := (se1.hide nD eH (by rw [hD]; intro z; cases z)).wipe _
      have htk : zs.take (i + 1) = zs.take i ++ [oz] := by
        rw [List.take_add_one, hoz]; rfl
      refine ⟨H0, ps, Dl :: hs, wipeE Γ vs, d, _, seI, ?_, hf i d oz hd hoz, fun Γ2 σ2 p2 a2 se2 l2 ag2 => ?_⟩
      · rw [hadr]
        exact rx
      · refine ⟨wipe_eq l2 ag2 hsub, H0, ps, Dl :: hs, Γ2, _, se2, p2, fun b H3 hb e3 => ?_⟩
        have hD3 : H3 Dl = some (.dK acc) := e3 _ _ hD
        cases b with
        | true =>
          refine iteT ⟨H0, ps, Dl :: hs, Γ2, _, se2.mono e3, hb.1 rfl, fun kd y H4 hz e4 r4 => ⟨H0, ps, Dl :: hs, Γ2, _, (se2.mono e3).mono e4, hz, fun dz u H5 ho e5 r5 => ?_⟩⟩
          obtain ⟨key, ek, rfl⟩ := ho
          have hD5 : H5 Dl = some (.dK acc) := e5 _ _ (e4 _ _ hD3)
          rw [a2, hadr] at r5
          cases key_rep (RepW.im (H := H4) r4) ek
          obtain ⟨pr1, pr2⟩ := put_rep key hk1 (racc.mono (hid_ex2 ((e3.trans e4).trans e5))) r5
          refine ⟨acc, key, rfl, hD5, by rw [keys_len hk1]; omega, ?_, _, putG es key dz, upd_same, ?_, ?_, pr1, ?_⟩
          · intro a o q
            rw [upd_ne (ne_of_none q nD)]
            exact e5 _ _ (e4 _ _ (e3 _ _ (eH _ _ q)))
          · have := putG_len es key dz
            omega
          · rw [htk, List.filterMap_append]
            have ez : [some (key, dz)].filterMap id = [(key, dz)] := by simp
            rw [ez]
            unfold putAll
            rw [List.foldl_append]
            show _ = putG (putAll [] ((zs.take i).filterMap id)) key dz
            rw [← hes]
          · rw [hid_upd List.mem_cons_self]
            exact pr2
        | false =>
          refine iteF ⟨fun a o q => e3 _ _ (eH _ _ q), acc, es, hD3, by omega, ?_, hk1, racc.mono (hid_ex2 e3)⟩
          rw [htk, List.filterMap_append]
          have ez : [oz].filterMap id = [] := by simp [hb.2 rfl]
          rw [ez, List.append_nil]
          exact hes
  · have e : i = ds.length := by omega
    subst e
    refine .inl ⟨w.st _ H' eH rfl, ?_⟩
    rw [← hzl, List.take_length] at hes
    rw [← hes] at hP
    exact k _ _ H' hP (e1.trans eH) (.dic (by rw [hid_ni nb]; exact hD) hk1 (racc.mono (hid_sub fun a m => List.mem_cons_of_mem _ m)))
theorem px_dc {kx vx tg iter : Expr} {ifs : List Expr} {scope : Scope} {own : List (Str × Nat)} {pos : Pos} {ti : FT} {g : GT} {tt : BT} {tk tv : XT} {gown : List Nat} (hc : X.calm = true) (hN : X.N.Nodup) (hi : PI X tg iter (LB X.K ti)) (ok : BlkOk X.N X.env.scope scope own)
    (hg : ∀ (s : Shared) (H : Hp) (C : Addr) (cl : List (Str × Addr)) (fp : List Addr), PG (X.blk s H scope (compEnvC scope cl C X.env) fp) tg (Lg X.K gown g)) (ht : ∀ (s : Shared) (H : Hp) (C : Addr) (cl : List (Str × Addr)) (fp : List Addr), PTs (X.blk s H scope (compEnvC scope cl C X.env) fp) ifs (Lt X.K tt))
    (hk : ∀ (s : Shared) (H : Hp) (C : Addr) (cl : List (Str × Addr)) (fp : List Addr), PE (X.blk s H scope (compEnvC scope cl C X.env) fp) kx (Li X.K tk))
    (he : ∀ (s : Shared) (H : Hp) (C : Addr) (cl : List (Str × Addr)) (fp : List Addr), PE (X.blk s H scope (compEnvC scope cl C X.env) fp) vx (Li X.K tv)) (hsub : ∀ j ∈ gown, j ∈ own.map (·.2) := by decide) (hs : ∀ x, foldedSetIterable iter X.env x = pure x := by intro _; rfl) :
    PE X (.DictComp kx vx [⟨tg, iter, ifs, 0⟩] scope pos) (Li X.K (xDc ti g tt tk tv (own.map (·.2)))) :=
  pe_imp (pe_dc hc hN hi ok hg ht hk he hs) (dc_li hsub)
end
end Kb
set_option Elab.async false
set_option linter.all false
set_option maxRecDepth 100000
set_option maxHeartbeats 1000000
/-! Kb11: instances made, chains, min, index, sorted(set(..)). -/
namespace Kb
open PySem L2
set_option autoImplicit false

/-! ### __init__: the instance is the caller's; its fields come one after another -/
structure SI where
  S : List D → (List (Str × D) → Prop) → Prop
  mon : ∀ as (R R' : List (Str × D) → Prop), (∀ r, R r → R' r) → S as R → S as R'
def spcI {α : Type} (args : α → List D) (pre : α → Prop) (post : α → List (Str × D)) : SI :=
  ⟨fun as R => ∃ x, as = args x ∧ pre x ∧ R (post x), fun as R R' h ⟨x, b, c, d⟩ => ⟨x, b, c, h _ d⟩⟩
def spI (K : Frag) (C : Addr) (S : SI) : Sp := fun vs H Q _ => ∃ hs l dx us as, vs = .ref l :: us ∧ Reps K (hid hs H) us as ∧ Bs hs H ∧ l ∈ hs ∧ H l = some (.ins C dx []) ∧
  S.S as fun fs => ∀ H', (∀ a o, a ≠ l → H a = some o → H' a = some o) → (∃ dx' fvs, H' l = some (.ins C dx' fvs) ∧ fvs.map (·.1) = fs.map (·.1) ∧ Reps K (hid hs H') (fvs.map (·.2)) (fs.map (·.2))) → Q .non H'
/-- a state whose first slot is an object of the caller's -/
theorem se_first {K : Frag} {hs : List Addr} {H : Hp} {l : Addr} {us : List V} {as : List D} {s0 : Slot} {n : Nat} (a : Reps K (hid hs H) us as) (bb : Bs hs H) (hl : l ∈ hs) (h0 : s0.ad = some l) (hp : s0.par = true)
    (ok : SlotOk K (hid hs H) (hid [l] H) H (.ref l) s0) : SE K H [l] hs (some s0 :: envD as n) (some (.ref l) :: (us.map some ++ List.replicate (n - us.length) none)) H := by
  have hadr : adr (some s0 :: envD as n) = [l] := by
    rw [adr_cons, adr_envD]
    show (match s0.ad with
      | some a => [a]
      | none => []) = [l]
    rw [h0]
  have hB : hid (hs ++ [l]) H = hid hs H := by
    funext b
    by_cases hb : b ∈ hs
    · rw [hid_in hb, hid_in (List.mem_append_left _ hb)]
    · rw [hid_ni hb, hid_ni (fun m => (List.mem_append.mp m).elim hb fun z => hb (by rw [List.mem_singleton.mp z]; exact hl))]
  refine ⟨by simp [envD, a.length], fun i s e => ?_, by rw [hadr]; simp, fun b o _ q => q, fun i s b e z => ?_, fun b m => (by rw [List.mem_singleton.mp m]; exact hl), bb⟩
  · rw [hadr, hB]
    cases i with
    | zero =>
      simp at e
      subst e
      exact ⟨_, rfl, ok⟩
    | succ i =>
      have e' : (envD as n)[i]? = some (some s) := by simpa using e
      have hi : i < as.length := by
        by_cases z : i < as.length
        · exact z
        · exfalso
          unfold envD at e'
          rw [List.getElem?_append_right (by simp; omega)] at e'
          have q := (List.mem_replicate.mp (List.mem_iff_getElem?.mpr ⟨_, e'⟩)).2
          cases q
      obtain ⟨d, hd⟩ : ∃ d, as[i]? = some d := ⟨_, List.getElem?_eq_getElem hi⟩
      have es : s = .im d := by
        unfold envD at e'
        rw [List.getElem?_append_left (by simpa using hi), List.getElem?_map, hd] at e'
        simp at e'
        exact e'.symm
      subst es
      obtain ⟨v, g1, g2⟩ := a.get' hd
      refine ⟨v, ?_, g2⟩
      have hi2 : i < us.length := by rw [a.length]; exact hi
      simp only [List.getElem?_cons_succ]
      rw [List.getElem?_append_left (by simpa using hi2), List.getElem?_map, g1]
      rfl
  · cases i with
    | zero =>
      simp at e
      subst e
      have q : some l = some b := h0.symm.trans z
      cases q
      exact ⟨fun _ => List.mem_singleton.mpr rfl, fun q => (by rw [hp] at q; cases q)⟩
    | succ i =>
      have m : b ∈ adr (envD as n) := mem_adr.mpr ⟨i, s, by simpa using e, z⟩
      rw [adr_envD] at m
      cases m
theorem putF_new : ∀ {fs : List (Str × V)} {f : Str} {v : V}, f ∉ fs.map (·.1) → putF f v fs = fs ++ [(f, v)]
  | [], _, _, _ => rfl
  | (g, x) :: r, f, v, h => by
    have h1 : ¬ g = f := fun z => h (by rw [z]; exact List.mem_cons_self)
    show (if g = f then (g, v) :: r else (g, x) :: putF f v r) = _
    rw [if_neg h1, putF_new (fun m => h (List.mem_cons_of_mem _ m))]
    rfl
section
variable {X : Cx} {W : WX}
/-- self.f = e -/
def sFldI (i : Nat) (C : Addr) (f : Str) (t : XT) : ST := fun E Γ => t Γ fun d => match Γ[i]? with
  | some (some (.mi l C' fs)) => C' = C ∧ f ∉ fs.map (·.1) ∧ fs.length < 1000 ∧ E.nx (Γ.set i (some (.mi l C' (fs ++ [(f, d)]))))
  | _ => False
theorem s_fld (i : Nat) {x f : Str} {e : Expr} {t : XT} {C : Addr} {npos pos' pos : Pos} (c : Cls X.K C) (n : NoAttr X.K C f) (he : PE X e (Li X.K t)) (hN : X.N[i]? = some x := by rfl) (hv : Vis X.env.scope x := by first | exact Or.inl rfl | exact Or.inr (Or.inl rfl) | exact Or.inr (Or.inr rfl)) (hd : (x == ("__debug__" : Str)) = false := by decide) (hcd : (x == ("__classdict__" : Str)) = false := by decide)
    (hs : swapsWith e (some (.Attribute (.Name x npos) f pos')) pos.line X.env = pure false := by rfl) : PS X (.Assign [.Attribute (.Name x npos) f pos'] e pos) (Ls X.K W (sFldI i C f t)) :=
  ps_imp (ps_fld (pe_var hN hv hd hcd) he hs) fun D σ H ⟨H0, ps, hs, Γ, E, se, ht, r⟩ => by
    refine ⟨H0, ps, hs, Γ, _, se, ht, fun d y H2 p e2 rr => ?_⟩
    have se2 := se.mono e2
    split at p
    · rename_i l C' fs e
      obtain ⟨rfl, p1, p2, p3⟩ := p
      obtain ⟨v, h1, rfl, dx, fvs, h2, h3, h4⟩ := se2.ok i _ e
      have hl : l ∈ adr Γ := mem_adr.mpr ⟨i, _, e, rfl⟩
      have p1' : f ∉ fvs.map (·.1) := by rw [h3]; exact p1
      obtain ⟨se', ha⟩ := se2.write (s' := .mi l C' (fs ++ [(f, d)])) (o := .ins C' dx (fvs ++ [(f, y)])) e rfl rfl rfl ⟨rfl, dx, _, upd_same, by simp [h3], by
        rw [List.map_append, List.map_append]
        exact h4.append (.one rr)⟩
      refine ⟨_, h1, l, C', dx, fvs, rfl, h2, c, n, by rw [keys_len h3]; exact p2, ?_⟩
      rw [putF_new p1']
      exact r.nx _ σ _ p3 se' ((Kp.ex e2).trans (kp_write hl ha))
    · exact p.elim
end
section
variable {P : Program} {w : World} {K : Frag} {mg : Str → Option Value} {base : Heap}
theorem fn_init {x qual : Str} {params : Arguments} {body : List Stmt} {scope : Scope} {dvs : List V} {kws : List (Str × V)} {f : Addr} {fd : FuncData} {N ps : List Str} {k : Nat} {α : Type} {args : α → List D} {pre : α → Prop} {post : α → List (Str × D)} {n0 : Str} {C : Addr}
    (F : FunD K x qual params body scope dvs kws f fd) (Sc : FnScope (n0 :: N) (n0 :: ps) scope) (G : Addr → α → Env)
    (hb : ∀ (cdv : Value) (A : Around) (outer : List PySem.Env) (s : Shared) (H : Hp) (E : XK), Room k (A.deeper (PyProof.Rows.envOfC qual scope s.heap.objs.size f cdv)) →
      ∃ t, PSs (cxOf CX0 P w K mg base (n0 :: N) qual scope f cdv A outer s H E).nox body (Ls K W0 t) ∧ ∀ l x, pre x → t { nx := fun Γ => Γ[0]? = some (some (.mi l C (post x))), rt := fun _ _ => False } (G l x))
    (hG : ∀ l x, some (.mi l C []) :: envD (args x) N.length = G l x := by intro _ _; rfl) (hlen : ∀ x, (args x).length = ps.length := by intro _; rfl) : FnOk P w K mg base CX0 (k + 1) f fd (n0 :: ps) (spI K C (spcI args pre post)) := by
  refine F.ok Sc (fun vs H Q E h => ?_) fun cdv A outer s H vs Q E hr h => ?_
  · obtain ⟨hs, l, dx, us, as, rfl, a, _, _, _, x, rfl, _⟩ := h
    simp [a.length, hlen x]
  · obtain ⟨hs, l, dx, us, as, rfl, a, bb, hl, hw, x, rfl, hp, hR⟩ := h
    obtain ⟨t, h1, h2⟩ := hb cdv A outer s H E hr
    have hst : L2.start (n0 :: N) (.ref l :: us) = some (.ref l) :: (us.map some ++ List.replicate (N.length - us.length) none) := by
      unfold L2.start
      simp
    have se : SE K H [l] hs (G l x) (L2.start (n0 :: N) (.ref l :: us)) H := by
      rw [← hG, hst]
      exact se_first a bb hl rfl rfl ⟨rfl, dx, [], hw, rfl, .nil⟩
    refine ⟨Ls K W0 t, h1.nox, H, [l], hs, _, _, se, h2 l x hp, ⟨fun Γ' σ' H' hz se' _ => ?_, fun r Γ' σ' v H' q => q.elim, fun _ _ _ q => q.elim, fun _ _ _ q => q.elim, fun _ _ _ _ _ _ q => q.elim⟩⟩
    obtain ⟨v, _, _, dx', ws, g2, g3, g4⟩ := se'.ok 0 _ hz
    exact hR H' (fun a o h q => se'.fr a o (fun m => h (List.mem_singleton.mp m)) q) ⟨dx', ws, g2, g3, g4.mono (hid_sub fun a m => List.mem_append_left _ m)⟩
/-- a class and its __init__ -/
structure Dc (P : Program) (w : World) (K : Frag) (mg : Str → Option Value) (base : Heap) (x : Str) (C : Addr) (k : Nat) (S : SI) : Prop where
  ex : ∃ (f : Addr) (fd : FuncData) (ps : List Str), FnOk P w K mg base CX0 k f fd ps (spI K C S) ∧ Mk K C f ∧ mg x = some (.ref C) ∧ Binds K fd ps []
end
def xMk (C : Addr) (S : SI) (t : FT) : XT := fun Γ P => t Γ fun ds => S.S ds fun fs => P (.obj C fs)
section
variable {X : Cx} {W : WX}
theorem make_li {C : Addr} {S : SI} {t : FT} {E : XK} (σ : St) (H : Hp) (Q : VK) (h : Li X.K (xMk C S t) σ H Q) : tMake C (spI X.K C S) [] E (LaS X.K t) σ H Q := by
  obtain ⟨H0, ps, hs, Γ, P, se, ht, k⟩ := h
  refine ⟨H0, ps, hs, Γ, _, se, ht, fun ds us H1 p e1 r => fun x dx nx nd ne => ?_⟩
  show spI X.K C S (.ref x :: (us ++ [])) (upd (upd H1 dx (.own x)) x (.ins C dx [])) _ E
  rw [List.append_nil]
  have se1 := se.mono e1
  have eN : Ex H1 (upd (upd H1 dx (.own x)) x (.ins C dx [])) := fun a o q => by
    rw [upd_ne (ne_of_none q nx), upd_ne (ne_of_none q nd)]; exact q
  have nms : x ∉ hs ++ adr Γ := se1.bs.new nx
  have ndm : dx ∉ hs ++ adr Γ := se1.bs.new nd
  have eH : Ex (hid (hs ++ adr Γ) H1) (hid (x :: (hs ++ adr Γ)) (upd (upd H1 dx (.own x)) x (.ins C dx []))) := hid_fresh nx eN
  refine ⟨x :: (hs ++ adr Γ), x, dx, us, ds, rfl, r.mono eH, fun a m => ?_, List.mem_cons_self, upd_same, S.mon _ _ _ (fun fs hf H' fr ⟨dx', fvs, g1, g2, g3⟩ => ⟨rfl, ?_⟩) p⟩
  · rcases List.mem_cons.mp m with rfl | m
    · rw [upd_same]; intro z; cases z
    · exact (se1.bs.mono eN) a m
  · have e2 : Ex H1 H' := fun a o q => fr a o (ne_of_none q nx) (eN a o q)
    exact k _ _ H' hf (e1.trans e2) (.obj (by rw [hid_ni nms]; exact g1) g2 (g3.mono (hid_sub fun a m => List.mem_cons_of_mem _ m)))
theorem px_make {x : Str} {C : Addr} {k : Nat} {S : SI} {e : Expr} {es : List Expr} {p pos : Pos} {t : FT} (F : Dc X.prog X.w X.K X.mg X.base x C k S) (hr : Room (k + 1) X.A) (ha : PA X (e :: es) (LaS X.K t)) (hg : Gl X x := by rfl) (hdb : (x == ("__debug__" : Str)) = false := by decide)
    (he : starEach (e :: es) X.env = (false, eval e X.env) :: starEach es X.env := by rfl) (hpl : (backTo pos (starEach es X.env)).any (·.1) = false := by rfl) : PE X (.Call (.Name x p) (e :: es) [] pos) (Li X.K (xMk C S t)) := by
  obtain ⟨f, fd, ps, h1, h2, h3, h4⟩ := F.ex
  exact pe_imp (pe_make h2 h1 hr hg h3 h4 .nil pass0 ha hdb he hpl) make_li

/-! ### a < b < c -/
def bCh (f f' : F2) (ta tb tc : XT) : BT := fun Γ P => ta Γ fun d => tb Γ fun e => f d e fun z => match z with
  | .bl b => (b = true → tc Γ fun c => f' e c fun z' => match z' with
    | .bl b' => P b'
    | _ => False) ∧ (b = false → P false)
  | _ => False
theorem tx_chain {op op' : CmpOp} {a b c : Expr} {pos : Pos} {r r' : R2} {f f' : F2} {ta tb tc : XT} (ho : OpR X (compareOp op) r) (hd : Does X.K r f) (ho' : OpR X (compareOp op') r') (hd' : Does X.K r' f') (ha : PE X a (Lb X.K ta)) (hb : PE X b (Lb X.K tb)) (hc : PE X c (Lb X.K tc))
    (hm : lastMarks [op, op'] [b, c] = false := by with_unfolding_all rfl) : PT X (.Compare a [op, op'] [b, c] pos) (Lt X.K (bCh f f' ta tb tc)) :=
  pt_imp (pt_chain ho ho' ha hb hc hm) fun σ H Q ⟨H0, ps, hs, Γ, P, se, ht, k⟩ => by
    refine ⟨H0, ps, hs, Γ, _, se, ht, fun d x H1 p1 e1 r1 => ⟨H0, ps, hs, Γ, _, se.mono e1, p1, fun e y H2 p2 e2 r2 => ?_⟩⟩
    have se2 := (se.mono e1).mono e2
    refine hd _ H2 x y d e _ _ se2.bs (r1.mono (hid_ex2 e2) e2) r2 p2 fun z v H3 p3 e3 r3 => ?_
    cases z with
    | bl bb =>
      cases r3
      refine ⟨bb, rfl, ?_⟩
      have se3 := se2.mono e3
      cases bb with
      | true =>
        refine iteT ⟨H0, ps, hs, Γ, _, se3, p3.1 rfl, fun c u H4 p4 e4 r4 => ?_⟩
        refine hd' _ H4 y u e c _ _ (se3.mono e4).bs (r2.mono (hid_ex2 (e3.trans e4)) (e3.trans e4)) r4 p4 fun z' v' H5 p5 e5 r5 => ?_
        cases z' with
        | bl b' =>
          cases r5
          exact ⟨b', rfl, k b' H5 p5 ((((e1.trans e2).trans e3).trans e4).trans e5)⟩
        | _ => exact p5.elim
      | false => exact iteF ⟨false, rfl, k false H3 (p3.2 rfl) ((e1.trans e2).trans e3)⟩
    | _ => exact p3.elim
/-! ### xs.index(x) -/
def xIdx (to tx : XT) : XT := fun Γ P => to Γ fun d => match d with
  | .lst ys => tx Γ fun x => x.sh 60 = true ∧ (D.lst ys).sh 60 = true ∧ ∃ j, ys.findIdx? (fun z => eqD z x) = some j ∧ P (.int (j : Nat))
  | _ => False
theorem px_index {k : Nat} {o e : Expr} {to tx : XT} {apos cpos : Pos} (hr : Room (k + 1) X.A) (ho : PE X o (Lb X.K to)) (he : PE X e (Lb X.K tx))
    (hbase : attributeBase o "index" X.env (eval o X.env) = eval o X.env := by rfl)
    (hfew : ((backTo cpos (starEach [e] X.env)).all (fun x => !x.1) && (backToKw cpos (keywordEach [] X.env)).all (fun x => x.1.isSome)
      && decide ([e].length + ([] : List Keyword).length + (if ([] : List Keyword).isEmpty then 0 else 1) < 30)) = true := by rfl)
    (hline : (apos.endLine == cpos.line) = true := by rfl) (hs : starEach [e] X.env = (false, eval e X.env) :: starEach [] X.env := by rfl) (hplain : (backTo cpos (starEach [] X.env)).any (·.1) = false := by rfl) :
    PE X (.Call (.Attribute o "index" apos) [e] [] cpos) (Li X.K (xIdx to tx)) :=
  pe_imp (pe_bm PySem.F.plainAttrs_list PySem.F.slot_list_index PySem.F.type_list_index (mt_indexD (hu65 hr)) ho (pa_cons he pa_nil hs) hbase hfew hline hs hplain) fun σ H Q ⟨H0, ps, hs, Γ, P, se, ht, k⟩ => by
    refine ⟨H0, ps, hs, Γ, _, se, ht, fun d v H1 p1 e1 r1 => ?_⟩
    cases d with
    | lst ys =>
      obtain ⟨a, vs, rfl, h1, h2⟩ := r1.list hid_ex
      refine ⟨.inl ⟨rfl, _, SqL.of h1⟩, H0, ps, hs, Γ, _, se.mono e1, p1, fun x u H2 p2 e2 r2 => ?_⟩
      obtain ⟨s1, s2, j, hj, p⟩ := p2
      have rl : Rep X.K H2 (.ref a) (.lst ys) := (r1.rep hid_ex).mono e2
      have dl : Dp X.K H2 (.ref a) (.list (D.pys ys)) := rep_dp 60 (.lst ys) _ s2 rl
      rw [List.findIdx?_eq_some_iff_getElem] at hj
      obtain ⟨hjl, hj1, hj2⟩ := hj
      have gp : ∀ (m : Nat) (hm : m < ys.length), (D.pys ys)[m]? = some ys[m].py := fun m hm => by
        rw [pys_map, List.getElem?_map, List.getElem?_eq_getElem hm]; rfl
      refine ⟨a, u, x.py, D.pys ys, j, ys[j].py, rfl, rfl, dl, rep_dp 60 x u s1 (r2.rep hid_ex), sh_shaped (d := .lst ys) s2, sh_shaped s1, gp j hjl, hj1, fun m z' hm hz' => ?_, k _ _ H2 p (e1.trans e2) (.int _)⟩
      have hml : m < ys.length := by omega
      rw [gp m hml] at hz'
      cases hz'
      have := hj2 m hm
      simpa [eqD] using this
    | _ => exact p1.elim
/-! ### min of a list of data -/
def minP (x : D) (xs : List D) : PyData := PySem.W.minD x.py (xs.map D.py)
def rMinD (K : Frag) : List V → Hp → VK → Prop := fun xs H Q => ∃ (a : Addr) (vs : List V) (x : D) (ds : List D), xs = [.ref a] ∧ SqL K H a vs ∧ Reps K H vs (x :: ds) ∧ (x :: ds).all (D.sh 59) = true ∧ PySem.W.AlikeAll ((x :: ds).map D.py) ∧
  ∀ (i : Nat) v d, vs[i]? = some v → (x :: ds)[i]? = some d → d.py = minP x ds → Q v H
theorem minD_mem (x : PyData) (xs : List PyData) : PySem.W.minD x xs ∈ x :: xs := by
  unfold PySem.W.minD
  induction xs generalizing x with
  | nil => exact List.mem_cons_self
  | cons y ys ih =>
    rw [List.foldl_cons]
    have h := ih (if PySem.W.dataLt y x then y else x)
    rcases List.mem_cons.mp h with h | h
    · rw [h]
      split
      · exact List.mem_cons_of_mem _ List.mem_cons_self
      · exact List.mem_cons_self
    · exact List.mem_cons_of_mem _ (List.mem_cons_of_mem _ h)
theorem cr_minD (hc : X.calm = true) (hu : X.A.units + 64 < cLine) : CallR X (.builtin "min") (rMinD X.K) := by
  intro pins s σ H vs us Q I r h
  obtain ⟨a, ws, x, ds, rfl, hs, hr, hsh, ha, q⟩ := h
  obtain ⟨its, rv, hl, hz⟩ := I.list hs
  rw [Vals.ref1 r]
  have hall : ∀ d ∈ x :: ds, d.sh 59 = true := List.all_eq_true.mp hsh
  have dall : DpAll X.K H ws (D.pys (x :: ds)) := by
    have go : ∀ (vs : List V) (es : List D), (∀ d ∈ es, d.sh 59 = true) → Reps X.K H vs es → DpAll X.K H vs (D.pys es) := by
      intro vs es
      induction es generalizing vs with
      | nil => intro _ r; cases r; exact .nil
      | cons e es ih =>
        intro h r
        cases r with
        | cons r1 r2 => exact .cons (rep_dp 59 e _ (h e List.mem_cons_self) r1) (ih _ (fun d m => h d (List.mem_cons_of_mem _ m)) r2)
    exact go _ _ hall hr
  obtain ⟨as, hra⟩ := Dp.readsAll I _ _ its dall rv
  have hdep : PyData.depthAll (D.pys (x :: ds)) ≤ 59 := by
    have go : ∀ es : List D, (∀ d ∈ es, d.sh 59 = true) → PyData.depthAll (D.pys es) ≤ 59 := by
      intro es
      induction es with
      | nil => intro _; simp [D.pys, PyData.depthAll]
      | cons e es ih =>
        intro h
        have h1 := (sh_lay 59 e (h e List.mem_cons_self)).2
        have h2 := ih fun d m => h d (List.mem_cons_of_mem _ m)
        simp only [D.pys, PyData.depthAll]
        omega
    exact go _ hall
  have eqs : D.pys (x :: ds) = x.py :: ds.map D.py := by rw [D.pys, pys_map]
  rw [eqs] at hra hdep
  refine PySem.W.min_list_data (I.ok.hd hc) hl.isList (by simpa using hra) (by simpa using ha) (by omega) fun i v h' tk bs hv hb hk => ?_
  have hv' : its[i]? = some v := by simpa using hv
  have hi : i < its.length := (List.getElem?_eq_some_iff.mp hv').1
  have hlen := rv.length
  obtain ⟨w, hw⟩ : ∃ w, ws[i]? = some w := ⟨_, List.getElem?_eq_getElem (by omega)⟩
  obtain ⟨u, hu1, hu2⟩ := Vals.get rv hw
  rw [hv'] at hu1
  cases hu1
  obtain ⟨d, hd, rd⟩ := hr.get hw
  have hdm : d ∈ x :: ds := List.mem_iff_getElem?.mpr ⟨i, hd⟩
  obtain ⟨cs, rc⟩ := Dp.reads I _ _ _ (rep_dp 59 d w (hall d hdm) rd) hu2
  have rc' : Reads h' v d.py cs := PyProof.Rows.Reads.keeps hk rc
  have hmin : minP x ds ∈ x.py :: ds.map D.py := minD_mem _ _
  have hcl : ∀ p ∈ x.py :: ds.map D.py, p.canLay0 = true := fun p m => by
    rw [← List.map_cons] at m
    obtain ⟨e, he, rfl⟩ := List.mem_map.mp m
    exact (sh_lay 59 e (hall e he)).1
  have e : d.py = minP x ds := (SeqAt.readOf_eq (sh_lay 59 d (hall d hdm)).1 rc').symm.trans (SeqAt.readOf_eq (hcl _ hmin) hb)
  exact ⟨w, H, I.kept hk, hu2, q i w d hw hd e⟩
def fMin : F1 := fun ds P => match ds with
  | [.lst (x :: xs)] => (x :: xs).all (D.sh 59) = true ∧ PySem.W.AlikeAll ((x :: xs).map D.py) ∧ ∀ d ∈ x :: xs, d.py = minP x xs → P d
  | _ => False
theorem does_min {K : Frag} : DoesC K (rMinD K) fMin := fun ms H xs ds P Q b rr h k => by
  unfold fMin at h
  split at h
  · rename_i x ys
    obtain ⟨v, rfl, r⟩ := rr.one
    obtain ⟨a, vs, rfl, h1, r1⟩ := r.list hid_ex
    refine ⟨a, vs, x, ys, rfl, SqL.of h1, r1.mono hid_ex, h.1, h.2.1, fun i v d hv hd he => ?_⟩
    obtain ⟨d', hd', rd⟩ := r1.get hv
    rw [hd] at hd'
    cases hd'
    exact k d v H (h.2.2 d (List.mem_iff_getElem?.mpr ⟨i, hd⟩) he) (Same.refl H) rd
  · exact h.elim
theorem px_min {k : Nat} {e : Expr} {p pos : Pos} {t : XT} (hr : Room k X.A) (hc : X.calm = true) (hg : Gl X "min") (hm : X.mg "min" = none) (h : PE X e (Lb X.K t)) (he : starEach [e] X.env = (false, eval e X.env) :: starEach [] X.env := by rfl) (hpl : (backTo pos (starEach [] X.env)).any (·.1) = false := by rfl) :
    PE X (.Call (.Name "min" p) [e] [] pos) (Li X.K (xCall fMin (aCons t aNil))) := px_callB (cr_minD hc hr.units) does_min hg hm (by decide +kernel) (aw_cons h aw_nil he) (by decide) (by decide) he hpl
/-! ### sorted(set(xs)), xs a list of tuples of ints -/
def tupD (k : List Int) : D := .tup (k.map D.int)
theorem reps_tups {K : Frag} {B : Hp} : ∀ {vs : List V} {ks : List (List Int)}, Reps K B vs (ks.map tupD) → ∃ ps : List (Addr × List Int), vs = ps.map (fun p => V.ref p.1) ∧ ps.map (·.2) = ks ∧ ∀ p ∈ ps, SqT K B p.1 (p.2.map V.int)
  | _, [], .nil => ⟨[], rfl, rfl, fun p m => by cases m⟩
  | _, k :: ks, .cons a b => by
    obtain ⟨ps, h1, h2, h3⟩ := reps_tups b
    cases a with
    | tup a1 a2 =>
      rename_i ad vs'
      have e := reps_int a2
      subst e
      refine ⟨(ad, k) :: ps, by rw [h1]; rfl, by rw [List.map_cons, h2], fun p m => ?_⟩
      rcases List.mem_cons.mp m with rfl | m
      · exact a1
      · exact h3 p m
theorem tups_reps {K : Frag} {B : Hp} : ∀ (ps : List (Addr × List Int)), (∀ p ∈ ps, SqT K B p.1 (p.2.map V.int)) → Reps K B (ps.map fun p => V.ref p.1) ((ps.map (·.2)).map tupD)
  | [], _ => .nil
  | p :: ps, h => .cons (.tup (h p List.mem_cons_self) (int_reps _)) (tups_reps ps fun q m => h q (List.mem_cons_of_mem _ m))
def fSS (t : XT) : FT := fun Γ P => t Γ fun d => match d with
  | .lst ys => ∃ (ks : List (List Int)) (dd : Nat) (B : Int), ys = ks.map tupD ∧ ks.length < 64 ∧ 1 ≤ dd ∧ (∀ k ∈ ks, k.length = dd ∧ TS.Bd B k) ∧
      ∀ ls : List (List Int), ls.Nodup → (∀ k, k ∈ ls ↔ k ∈ ks) → ls.Pairwise (fun q r => TS.code B q ≤ TS.code B r) → P (ls.map tupD)
  | _ => False
theorem fx_ss {k : Nat} {e : Expr} {p p2 q pos : Pos} {t : XT} (hr : Room k X.A) (hc : X.calm = true) (hg : Gl X "sorted") (hm : X.mg "sorted" = none) (hg2 : Gl X "set") (hm2 : X.mg "set" = none) (h : PE X e (Lb X.K t)) (he : starEach [e] X.env = (false, eval e X.env) :: starEach [] X.env := by rfl) (hpl0 : (backTo q (starEach [] X.env)).any (·.1) = false := by rfl)
    (he2 : starEach [.Call (.Name "set" p2) [e] [] q] X.env = (false, eval (.Call (.Name "set" p2) [e] [] q) X.env) :: starEach [] X.env := by rfl) (hpl : (backTo pos (starEach [] X.env)).any (·.1) = false := by rfl) :
    PE X (.Call (.Name "sorted" p) [.Call (.Name "set" p2) [e] [] q] [] pos) (Lf X.K (fSS t)) :=
  pe_imp (pe_callB (cr_sortedT hc) hg hm (by decide +kernel) (pa_cons (pe_callTy (cr_setOfT hc hr.units) hg2 hm2 (by decide +kernel) (pa_cons h pa_nil he) (by decide) (by decide) he hpl0) pa_nil he2) (by decide) (by decide) he2 hpl) fun σ H Q ⟨H0, ps, hs, Γ, P, se, ht, k⟩ => by
    refine ⟨H0, ps, hs, Γ, _, se, ht, fun d v H1 p1 e1 r1 => ?_⟩
    cases d with
    | lst ys =>
      obtain ⟨ks, dd, B, rfl, h64, hdd, hB, hP⟩ := p1
      obtain ⟨a, vs, rfl, h1, h2⟩ := r1.list hid_ex
      obtain ⟨qs, rfl, rfl, q3⟩ := reps_tups h2
      have se1 := se.mono e1
      refine ⟨a, qs, rfl, SqL.of h1, fun p m => hid_ex.st (q3 p m), by simpa using h64, fun sa L ns hL1 hL2 => ?_⟩
      have e2 : Ex H1 (upd H1 sa (SetTO X.prog X.w sa L)) := Ex.new ns
      refine ⟨sa, L, dd, B, rfl, upd_same, fun p m => e2.st (hid_ex.st (q3 p (hL1 p m))), hdd, fun p m => hB _ (List.mem_map_of_mem (hL1 p m)), fun L' pp hperm hnd hl64 hpw np => ?_⟩
      have em : Ex H1 (upd (upd H1 sa (SetTO X.prog X.w sa L)) pp (.lst (L'.map fun q => V.ref q.1))) := e2.trans (Ex.new np)
      have hmem : ∀ p ∈ L', p ∈ qs := fun p m => hL1 p (hperm.mem_iff.mp m)
      refine k _ pp _ _ (hP (L'.map (·.2)) hnd (fun k => ⟨fun m => ?_, fun m => ?_⟩) ?_) (fresh_of (e1.trans e2) np) (e1.trans em) upd_same ?_
      · obtain ⟨p, hp, rfl⟩ := List.mem_map.mp m
        exact List.mem_map_of_mem (hmem p hp)
      · obtain ⟨p, hp, rfl⟩ := List.mem_map.mp m
        obtain ⟨p', hp', e⟩ := List.mem_map.mp (hL2 p hp)
        rw [← e]
        exact List.mem_map_of_mem (hperm.mem_iff.mpr hp')
      · exact List.pairwise_map.mpr hpw
      · refine reps_new np ?_
        have z := tups_reps (K := X.K) (B := hid (hs ++ adr Γ) H1) L' fun p m => q3 p (hmem p m)
        exact z.mono (hid_ex2 e2)
    | _ => exact p1.elim
end
end Kb
set_option Elab.async false
set_option linter.all false
set_option maxRecDepth 100000
set_option maxHeartbeats 1000000
/-! Kb12: generator defs, list(g). -/
namespace Kb
open PySem L2
set_option autoImplicit false

structure GEn where
  nx : List D → Env → Prop
  rt : List D → Prop
  bk : List D → Env → Prop := fun _ _ => False
  ct : List D → Env → Prop := fun _ _ => False
abbrev GST := GEn → List D → Env → Prop
structure RelG (K : Frag) (H0 : Hp) (ps hs : List Addr) (E : GEn) (D : GEnds) : Prop where
  nx : ∀ yd Γ ys σ H, E.nx yd Γ → SE K H0 ps hs Γ σ H → Reps K (hid (hs ++ adr Γ) H) ys yd → D.nx ys σ H
  rt : ∀ yd Γ ys σ H, E.rt yd → SE K H0 ps hs Γ σ H → Reps K (hid (hs ++ adr Γ) H) ys yd → D.rt ys .non H
  bk : ∀ yd Γ ys σ H, E.bk yd Γ → SE K H0 ps hs Γ σ H → Reps K (hid (hs ++ adr Γ) H) ys yd → D.bk ys σ H
  ct : ∀ yd Γ ys σ H, E.ct yd Γ → SE K H0 ps hs Γ σ H → Reps K (hid (hs ++ adr Γ) H) ys yd → D.ct ys σ H
def LsG (K : Frag) (t : GST) : TGn := fun D ys σ H => ∃ (H0 : Hp) (ps hs : List Addr) (Γ : Env) (E : GEn) (yd : List _root_.Kb.D), SE K H0 ps hs Γ σ H ∧ Reps K (hid (hs ++ adr Γ) H) ys yd ∧ t E yd Γ ∧ RelG K H0 ps hs E D
section
variable {X : Cx} {W : WX}
theorem gs_imp {st : Stmt} {t t' : TGn} (h : GS X st t) (hi : ∀ D ys σ H, t' D ys σ H → t D ys σ H) : GS X st t' :=
  ⟨fun A S ip R n ys s₀ c fs K J gd lv s σ H D a b c d e => h.run A S ip R n ys s₀ _ fs K J gd lv s σ H D a b c d (hi _ _ _ _ e)⟩
theorem gss_imp {st : List Stmt} {t t' : TGn} (h : GSs X st t) (hi : ∀ D ys σ H, t' D ys σ H → t D ys σ H) : GSs X st t' :=
  ⟨fun A S ip R n ys s₀ c fs K J gd lv s σ H D a b c d e => h.run A S ip R n ys s₀ _ fs K J gd lv s σ H D a b c d (hi _ _ _ _ e)⟩
def gPlain (t : ST) : GST := fun E yd Γ => t { nx := E.nx yd, rt := fun _ _ => False, bk := E.bk yd, ct := E.ct yd } Γ
theorem g_plain {st : Stmt} {t : ST} (h : PS X st (Ls X.K W0 t)) : GS X st (LsG X.K (gPlain t)) := gs_imp (gs_ps h) fun D ys σ H ⟨H0, ps, hs, Γ, E, yd, se, ry, ht, r⟩ =>
  ⟨H0, ps, hs, Γ, _, se, ht, ⟨fun Γ' σ' H' a b c => r.nx yd Γ' ys σ' H' a b (ry.mono c.x), fun rr Γ' σ' v H' a b c => a.elim, fun Γ' σ' H' a b c => r.bk yd Γ' ys σ' H' a b (ry.mono c.x), fun Γ' σ' H' a b c => r.ct yd Γ' ys σ' H' a b (ry.mono c.x), fun _ _ _ _ _ _ q => q.elim⟩⟩
def gNil : GST := fun E yd Γ => E.nx yd Γ
def gThen (t u : GST) : GST := fun E yd Γ => t { E with nx := fun yd' Γ' => u E yd' Γ' } yd Γ
theorem g_nil : GSs X [] (LsG X.K gNil) := gss_imp gss_nil fun D ys σ H ⟨H0, ps, hs, Γ, E, yd, se, ry, ht, r⟩ => r.nx yd Γ ys σ H ht se ry
theorem g_cons {st : Stmt} {rest : List Stmt} {t u : GST} (h1 : GS X st (LsG X.K t)) (h2 : GSs X rest (LsG X.K u)) : GSs X (st :: rest) (LsG X.K (gThen t u)) := gss_imp (gss_cons h1 h2) fun D ys σ H ⟨H0, ps, hs, Γ, E, yd, se, ry, ht, r⟩ =>
  ⟨H0, ps, hs, Γ, { E with nx := fun yd' Γ' => u E yd' Γ' }, yd, se, ry, ht, ⟨fun yd' Γ' ys' σ' H' a b c => ⟨H0, ps, hs, Γ', E, yd', b, c, a, r⟩, r.rt, r.bk, r.ct⟩⟩
def gYield (t : XT) : GST := fun E yd Γ => yd.length < sizeLine ∧ t Γ fun d => E.nx (yd ++ [d]) Γ
theorem g_yield {e : Expr} {yp pos : Pos} {t : XT} (he : PE X e (Li X.K t)) (hco : X.env.scope.isCoroutine = false := by rfl) (hi : interactive X.env = false := by rfl) : GS X (.Expr (.Yield (some e) yp) pos) (LsG X.K (gYield t)) :=
  gs_imp (gs_yield he hco hi) fun D ys σ H ⟨H0, ps, hs, Γ, E, yd, se, ry, ht, r⟩ => ⟨by rw [ry.length]; exact ht.1, H0, ps, hs, Γ, _, se, ht.2, fun d v H2 p e rr => r.nx _ Γ _ σ H2 p (se.mono e) ((ry.mono (hid_ex2 e)).append (.one rr))⟩
def gWhile (c : BT) (tb : GST) : GST := fun E yd Γ => ∃ I : Nat → List D → Env → Prop, (∃ m, I m yd Γ) ∧ ∀ m yd' Γ', I m yd' Γ' → c Γ' fun b => (b = true → tb { nx := fun y2 Γ2 => ∃ m', m' < m ∧ I m' y2 Γ2, rt := E.rt, ct := fun y2 Γ2 => ∃ m', m' < m ∧ I m' y2 Γ2, bk := E.nx } yd' Γ') ∧ (b = false → E.nx yd' Γ')
theorem g_while {test : Expr} {body : List Stmt} {pos : Pos} {tc : BT} {tb : GST} (hp : PassesOwn (model X.prog X.w) X.A X.env X.xe) (hc : PT X test (Lt X.K tc)) (hb : GSs X body (LsG X.K tb)) : GS X (.While test body [] pos) (LsG X.K (gWhile tc tb)) :=
  gs_imp (gs_while hp hc hb) fun D ys σ H ⟨H0, ps, hs, Γ, E, yd, se, ry, ht, r⟩ => by
    obtain ⟨I, ⟨m0, i0⟩, turn⟩ := ht
    refine ⟨fun m ys' σ' H' => ∃ yd' Γ', SE X.K H0 ps hs Γ' σ' H' ∧ Reps X.K (hid (hs ++ adr Γ') H') ys' yd' ∧ I m yd' Γ', ⟨m0, yd, Γ, se, ry, i0⟩, ?_⟩
    rintro m ys' σ' H' ⟨yd', Γ', se', ry', hI⟩
    refine ⟨H0, ps, hs, Γ', _, se', turn m yd' Γ' hI, fun b H2 p e => ?_⟩
    cases b with
    | true =>
      refine iteT ⟨fun ys'' σ'' H'' => ∃ m', m' < m ∧ ∃ yd'' Γ'', SE X.K H0 ps hs Γ'' σ'' H'' ∧ Reps X.K (hid (hs ++ adr Γ'') H'') ys'' yd'' ∧ I m' yd'' Γ'', fun ys'' σ'' H'' ⟨m', h1, h2⟩ => ⟨m', h1, h2⟩, ?_⟩
      exact ⟨H0, ps, hs, Γ', _, yd', se'.mono e, ry'.mono (hid_ex2 e), p.1 rfl, ⟨fun y2 Γ3 ys3 σ3 H3 ⟨m', h1, h2⟩ b c => ⟨m', h1, y2, Γ3, b, c, h2⟩, r.rt, r.nx, fun y2 Γ3 ys3 σ3 H3 ⟨m', h1, h2⟩ b c => ⟨m', h1, y2, Γ3, b, c, h2⟩⟩⟩
    | false => exact iteF (r.nx yd' Γ' ys' σ' H2 (p.2 rfl) (se'.mono e) (ry'.mono (hid_ex2 e)))
end
/-! ### a generator def's promise -/
structure SG where
  S : List Slot → (List D → Prop) → Prop
  mon : ∀ as (R R' : List D → Prop), (∀ r, R r → R' r) → S as R → S as R'
def spcG {α : Type} (args : α → List Slot) (pre : α → Prop) (post : α → List D) : SG := ⟨fun as R => ∃ x, as = args x ∧ pre x ∧ R (post x), fun as R R' h ⟨x, a, b, c⟩ => ⟨x, a, b, h _ c⟩⟩
def spG (K : Frag) (S : SG) : SpG := fun vs H Q E => ∃ hs as, Args K hs H vs as ∧ Bs hs H ∧ S.S as fun yd => ∀ out H', Ex H H' → Reps K (hid hs H') out yd → Q out H'
section
variable {P : Program} {w : World} {K : Frag} {mg : Str → Option Value} {base : Heap}
theorem fn_gen {x qual : Str} {params : Arguments} {body : List Stmt} {scope : Scope} {dvs : List V} {kws : List (Str × V)} {f : Addr} {fd : FuncData} {N ps : List Str} {k : Nat} {α : Type} {args : α → List Slot} {pre : α → Prop} {post : α → List D}
    (F : FunD K x qual params body scope dvs kws f fd) (Sc : GScope N ps scope) (G : α → Env)
    (hb : ∀ (cdv : Value) (A : Around) (outer : List PySem.Env) (s : Shared) (H : Hp) (E : XK) (pn : List (Addr × Obj)), Room k (A.deeper (PyProof.Rows.envOfC qual scope s.heap.objs.size f cdv)) →
      ∃ t, GSs (gcxOf P w K mg base N qual scope f cdv A outer s H E pn) body (LsG K t) ∧ ∀ x, pre x → t { nx := fun yd _ => yd = post x, rt := fun _ => False } [] (G x))
    (hG : ∀ x, env0 (args x) N.length = G x := by intro _; rfl) (hlen : ∀ x, (args x).length = ps.length := by intro _; rfl) : GFn P w K mg base (k + 1) f fd ps (spG K (spcG args pre post)) := by
  obtain ⟨oc, od, dV, kV, doc, pm, an, cdv, ct, osl, rfl, lk, hcd, _, _⟩ := F.ex
  refine gfn_of lk hcd Sc (fun vs H Q E h => ?_) fun A outer s H vs Q E pn hr h => ?_
  · obtain ⟨hs, as, a, _, x, rfl, _⟩ := h
    rw [a.len]
    exact hlen x
  · obtain ⟨hs, as, a, bb, x, rfl, hp, hR⟩ := h
    obtain ⟨t, h1, h2⟩ := hb cdv A outer s H E pn hr
    refine ⟨LsG K t, h1, H, [], hs, _, _, [], by rw [← hG]; exact a.se bb, .nil, h2 x hp, ⟨fun yd Γ ys σ H' q se ry => ?_, fun yd Γ ys σ H' q => q.elim, fun _ _ _ _ _ q => q.elim, fun _ _ _ _ _ q => q.elim⟩⟩
    subst q
    exact hR ys H' (fun a o e => se.fr a o (by simp) e) (ry.mono (hid_sub fun a m => List.mem_append_left _ m))
structure Dg (P : Program) (w : World) (K : Frag) (mg : Str → Option Value) (base : Heap) (x : Str) (k : Nat) (S : SG) : Prop where
  ex : ∃ (f : Addr) (fd : FuncData) (ps : List Str), GFn P w K mg base k f fd ps (spG K S) ∧ mg x = some (.ref f) ∧ PySem.W.keepIn K (.ref f) = true ∧ Binds K fd ps []
end
section
variable {X : Cx} {W : WX}
theorem passE0 : Passes (CX X.prog X.w) X E0 := fun pins σ H s e s' I c => by
  obtain ⟨a, B, H', cls, d, _, _, _, _, _, _, _, hW⟩ := c
  exact hW.elim
def fGen (S : SG) (t : AT) : FT := fun Γ P => t Γ fun as => S.S as P
/-- list(f(e, ..)) -/
theorem fx_listG {x : Str} {k : Nat} {S : SG} {e : Expr} {es : List Expr} {p p2 pos pos' : Pos} {t : AT} (F : Dg X.prog X.w X.K X.mg X.base x k S) (hr : Room (k + 3) X.A) (hg : Gl X "list") (hm : X.mg "list" = none) (ha : PA X (e :: es) (LaX X.K t)) (hg2 : Gl X x := by rfl) (hdb : (x == ("__debug__" : Str)) = false := by decide)
    (he : starEach (e :: es) X.env = (false, eval e X.env) :: starEach es X.env := by rfl) (hpl : (backTo pos' (starEach es X.env)).any (·.1) = false := by rfl)
    (he2 : starEach [.Call (.Name x p) (e :: es) [] pos'] X.env = (false, eval (.Call (.Name x p) (e :: es) [] pos') X.env) :: starEach [] X.env := by rfl) : PE X (.Call (.Name "list" p2) [.Call (.Name x p) (e :: es) [] pos'] [] pos) (Lf X.K (fGen S t)) := by
  obtain ⟨f, fd, ps, h1, h2, h3, h4⟩ := F.ex
  refine pe_imp (pe_listG (E := E0) (pgen_call h1 (hr.mono (by omega)) hg2 h2 h3 h4 .nil ha hdb he hpl) passE0 (fun _ _ _ z => z.elim) hr hg hm (by decide +kernel) (by decide) (by decide) he2) fun σ H Q ⟨H0, ps, hs, Γ, P, se, ht, k⟩ => ?_
  refine ⟨H0, ps, hs, Γ, _, se, ht, fun as vs H2 p e ar => ?_⟩
  show spG X.K S (vs ++ []) H2 _ E0
  rw [List.append_nil]
  refine ⟨hs ++ adr Γ, as, ar, (se.mono e).bs, S.mon _ _ _ (fun yd hy out H3 e3 ro q n => ?_) p⟩
  exact k yd q out _ hy (fresh_of (e.trans e3) n) ((e.trans e3).trans (Ex.new n)) upd_same (reps_new n ro)
end
end Kb
set_option Elab.async false
set_option linter.all false
set_option maxRecDepth 100000
set_option maxHeartbeats 1000000
namespace Kb
open PySem L2
set_option autoImplicit false
/-! ### x = f(..) whose answer is data or a list of one's own -/
abbrev RT := Env → (Rs → Prop) → Prop
def Lr (K : Frag) (t : RT) : TE := fun σ H Q => ∃ (H0 : Hp) (ps hs : List Addr) (Γ : Env) (P : Rs → Prop), SE K H0 ps hs Γ σ H ∧ t Γ P ∧ ∀ r v H2, P r → Ex H H2 → ResOk K H (hs ++ adr Γ) H2 v r → Q v H2
def rCl (S : SP) (t : AT) : RT := fun Γ P => t Γ fun as => S.S as P
def rMe (C : Addr) (m : Str) (S : SP) (to : XT) (t : AT) : RT := fun Γ P => to Γ fun d => match d with
  | .obj C' fs => C' = C ∧ fs.lookup m = none ∧ t Γ fun as => S.S (.im d :: as) P
  | _ => False
theorem res_back {K : Frag} {H H1 H' : Hp} {hs : List Addr} {v : V} {r : Rs} (e : Ex H H1) (ro : ResOk K H1 hs H' v r) : ResOk K H hs H' v r := by
  cases r with
  | d d => exact ro
  | fl ds => obtain ⟨p, vs, a, n, b⟩ := ro; exact ⟨p, vs, a, fresh_of e n, b⟩
  | fd es => obtain ⟨p, vs, a, n, b⟩ := ro; exact ⟨p, vs, a, fresh_of e n, b⟩
  | ft es => obtain ⟨p, vs, a, n, b⟩ := ro; exact ⟨p, vs, a, fresh_of e n, b⟩
section
variable {X : Cx} {W : WX}
theorem call_lr {S : SP} {t : AT} {E : XK} (σ : St) (H : Hp) (Q : VK) (h : Lr X.K (rCl S t) σ H Q) : tCall (spP X.K S) [] E (LaX X.K t) σ H Q := by
  obtain ⟨H0, ps, hs, Γ, P, se, ht, k⟩ := h
  refine ⟨H0, ps, hs, Γ, _, se, ht, fun as vs H2 p e ar => ?_⟩
  show spP X.K S (vs ++ []) H2 Q E
  rw [List.append_nil]
  exact ⟨hs ++ adr Γ, as, ar, (se.mono e).bs, S.mon _ _ _ (fun r hr v H' e3 ro => k r v H' hr (e.trans e3) (res_back e ro)) p⟩
theorem meth_lr {m : Str} {S : SP} {t : AT} {to : XT} {C : Addr} {E : XK} (σ : St) (H : Hp) (Q : VK) (h : Lr X.K (rMe C m S to t) σ H Q) : tMeth C m (spP X.K S) [] E (Li X.K to) (LaX X.K t) σ H Q := by
  obtain ⟨H0, ps, hs, Γ, P, se, ht, k⟩ := h
  refine ⟨H0, ps, hs, Γ, _, se, ht, fun d v H1 p e1 r => ?_⟩
  cases d with
  | obj C' fs =>
    obtain ⟨rfl, p1, p⟩ := p
    obtain ⟨a, dx, fvs, rfl, h1, h2, h3⟩ := (RepW.im r).inst hid_ex
    refine ⟨a, dx, fvs, rfl, h1, look_none h2 p1, H0, ps, hs, Γ, _, se.mono e1, p, fun as vs H2 q e2 ar => ?_⟩
    show spP X.K S (V.ref a :: (vs ++ [])) H2 Q E
    rw [List.append_nil]
    exact ⟨hs ++ adr Γ, _, .cons (s := .im (.obj C' fs)) (r.mono (hid_ex2 e2)) rfl ar, ((se.mono e1).mono e2).bs, S.mon _ _ _ (fun r hr v H' e3 ro => k r v H' hr ((e1.trans e2).trans e3) (res_back (e1.trans e2) ro)) q⟩
  | _ => exact p.elim
theorem rx_call {x : Str} {k : Nat} {S : SP} {e : Expr} {es : List Expr} {p pos : Pos} {t : AT} (F : Df X.prog X.w X.K X.mg X.base x k (spP X.K S)) (hr : Room k X.A) (ha : PA X (e :: es) (LaX X.K t)) (hg : Gl X x := by rfl) (hd : (x == ("__debug__" : Str)) = false := by decide)
    (he : starEach (e :: es) X.env = (false, eval e X.env) :: starEach es X.env := by rfl) (hpl : (backTo pos (starEach es X.env)).any (·.1) = false := by rfl) : PE X (.Call (.Name x p) (e :: es) [] pos) (Lr X.K (rCl S t)) := by
  obtain ⟨f, fd, ps, h1, h2, h3, h4⟩ := F.ex
  exact pe_imp (pe_call h1 hr hg h2 h3 h4 .nil pass0 ha hd he hpl) call_lr
theorem rx_meth {m : Str} {k : Nat} {S : SP} {o e : Expr} {es : List Expr} {apos pos : Pos} {t : AT} {to : XT} {C : Addr} {pl : Sem Bool} (c : Cls X.K C) (F : Dm X.prog X.w X.K X.mg X.base C m k (spP X.K S)) (hr : Room k X.A) (ho : PE X o (Li X.K to)) (ha : PA X (e :: es) (LaX X.K t))
    (hst : starEach (e :: es) X.env = (false, eval e X.env) :: starEach es X.env := by rfl) (hpl : (backTo pos (starEach es X.env)).any (·.1) = false := by rfl)
    (ht : eval (.Call (.Attribute o m apos) (e :: es) [] pos) X.env = (do
      let ov ← eval o X.env
      standAt apos.atName
      let (f, first) ← holding [ov] (getMethod ov m pl)
      callWith pos f first (backTo pos (starEach (e :: es) X.env)) (backToKw pos (keywordEach [] X.env))) := by rfl) : PE X (.Call (.Attribute o m apos) (e :: es) [] pos) (Lr X.K (rMe C m S to t)) := by
  obtain ⟨f, fd, ps, h1, h2, h3⟩ := F.ex
  exact pe_imp (pe_meth ho c h2 h1 hr h3 .nil pass0 ha hst hpl ht) meth_lr
def sAsgR (i : Nat) (t : RT) : ST := fun E Γ => t Γ fun r => match r with
  | .d d => E.nx (Γ.set i (some (.im d)))
  | .fl ds => ∀ l, l ∉ adr Γ → E.nx (Γ.set i (some (.ml l ds)))
  | _ => False
theorem asgR_li {W : WX} {K : Frag} {i : Nat} {t : RT} (D : Ends) (σ : St) (H : Hp) (h : Ls K W (sAsgR i t) D σ H) : tAsg (Lr K t) (gName i) D σ H := by
  obtain ⟨H0, ps, hs, Γ, E, se, ht, r⟩ := h
  refine ⟨H0, ps, hs, Γ, _, se, ht, fun rs v H2 p e ro => ?_⟩
  cases rs with
  | d d => exact r.nx _ _ H2 p ((se.mono e).set_im ro i) (kp_set_im e)
  | fl ds =>
    obtain ⟨q, vs, rfl, n, h2, rr⟩ := ro
    exact r.nx _ _ H2 (p q (se.fresh n)) (se.set_own n e rfl rfl (slot_ml h2 rr) i) (kp_set_own n e rfl)
  | _ => exact p.elim
theorem s_asgR {i : Nat} {x : Str} {e : Expr} {t : RT} {pos pos' : Pos} (hN : X.N.Nodup) (he : PE X e (Lr X.K t)) (hi : X.N[i]? = some x := by rfl) (hx : Loc X.env.scope x := by first | exact Or.inl rfl | exact Or.inr rfl) (hs : swapsWith e (some (.Name x pos')) pos.line X.env = pure false := by rfl) (hf : X.fn x = true ∨ X.env.scope.names.lookup x = some .local := by first | exact .inl rfl | exact .inr rfl | assumption) :
    PS X (.Assign [.Name x pos'] e pos) (Ls X.K W (sAsgR i t)) := ps_imp (ps_set hN hi hx he hs hf) asgR_li
/-! ### sorted(set(e)), e calls the pot -/
def mSS (t : IT) : IT := fun Γ P => t Γ fun d Γ2 => match d with
  | .lst ys => ∃ (ks : List (List Int)) (dd : Nat) (B : Int), ys = ks.map tupD ∧ ks.length < 64 ∧ 1 ≤ dd ∧ (∀ k ∈ ks, k.length = dd ∧ TS.Bd B k) ∧
      ∀ ls : List (List Int), ls.Nodup → (∀ k, k ∈ ls ↔ k ∈ ks) → ls.Pairwise (fun q r => TS.code B q ≤ TS.code B r) → P (.lst (ls.map tupD)) Γ2
  | _ => False
theorem mx_ss {k : Nat} {e : Expr} {p p2 q pos : Pos} {t : IT} (hr : Room k X.A) (hc : X.calm = true) (hg : Gl X "sorted") (hm : X.mg "sorted" = none) (hg2 : Gl X "set") (hm2 : X.mg "set" = none) (h : PE X e (Lm X.K t)) (he : starEach [e] X.env = (false, eval e X.env) :: starEach [] X.env := by rfl) (hpl0 : (backTo q (starEach [] X.env)).any (·.1) = false := by rfl)
    (he2 : starEach [.Call (.Name "set" p2) [e] [] q] X.env = (false, eval (.Call (.Name "set" p2) [e] [] q) X.env) :: starEach [] X.env := by rfl) (hpl : (backTo pos (starEach [] X.env)).any (·.1) = false := by rfl) :
    PE X (.Call (.Name "sorted" p) [.Call (.Name "set" p2) [e] [] q] [] pos) (Lm X.K (mSS t)) :=
  pe_imp (pe_callB (cr_sortedT hc) hg hm (by decide +kernel) (pa_cons (pe_callTy (cr_setOfT hc hr.units) hg2 hm2 (by decide +kernel) (pa_cons h pa_nil he) (by decide) (by decide) he hpl0) pa_nil he2) (by decide) (by decide) he2 hpl) fun σ H Q ⟨H0, ps, hs, Γ, P, se, ht, k⟩ => by
    refine ⟨H0, ps, hs, Γ, _, se, ht, fun d Γ2 v H1 p1 se1 km r1 => ?_⟩
    cases d with
    | lst ys =>
      obtain ⟨ks, dd, B, rfl, h64, hdd, hB, hP⟩ := p1
      obtain ⟨a, vs, rfl, h1, h2⟩ := (RepW.im r1).list hid_ex
      obtain ⟨qs, rfl, rfl, q3⟩ := reps_tups h2
      refine ⟨a, qs, rfl, SqL.of h1, fun p m => hid_ex.st (q3 p m), by simpa using h64, fun sa L ns hL1 hL2 => ?_⟩
      have e2 : Ex H1 (upd H1 sa (SetTO X.prog X.w sa L)) := Ex.new ns
      refine ⟨sa, L, dd, B, rfl, upd_same, fun p m => e2.st (hid_ex.st (q3 p (hL1 p m))), hdd, fun p m => hB _ (List.mem_map_of_mem (hL1 p m)), fun L' pp hperm hnd hl64 hpw np => ?_⟩
      have em : Ex H1 (upd (upd H1 sa (SetTO X.prog X.w sa L)) pp (.lst (L'.map fun q => V.ref q.1))) := e2.trans (Ex.new np)
      have hmem : ∀ p ∈ L', p ∈ qs := fun p m => hL1 p (hperm.mem_iff.mp m)
      have npp : pp ∉ hs ++ adr Γ := by
        have := (se1.mono e2).bs.new np
        rw [km.1] at this
        exact this
      refine k _ Γ2 (.ref pp) _ (hP (L'.map (·.2)) hnd (fun k => ⟨fun m => ?_, fun m => ?_⟩) ?_) (se1.mono em) (km.trans (Km.ex em)) ?_
      · obtain ⟨p, hp, rfl⟩ := List.mem_map.mp m
        exact List.mem_map_of_mem (hmem p hp)
      · obtain ⟨p, hp, rfl⟩ := List.mem_map.mp m
        obtain ⟨p', hp', e⟩ := List.mem_map.mp (hL2 p hp)
        rw [← e]
        exact List.mem_map_of_mem (hperm.mem_iff.mpr hp')
      · exact List.pairwise_map.mpr hpw
      · refine .lst (by rw [hid_ni npp]; exact upd_same) ?_
        have z := tups_reps (K := X.K) (B := hid (hs ++ adr Γ) H1) L' fun p m => q3 p (hmem p m)
        exact z.mono (hid_ex2 em)
    | _ => exact p1.elim
end
end Kb
set_option Elab.async false
set_option linter.all false
set_option maxRecDepth 100000
set_option maxHeartbeats 1000000
/-! Kb14: defs that may raise an error of an own class. -/
namespace Kb
open PySem L2
set_option autoImplicit false
abbrev EF := Addr → List (Str × D) → Prop
structure SPX where
  S : List Slot → (Rs → Prop) → EF → Prop
  mon : ∀ as (R R' : Rs → Prop) (F F' : EF), (∀ r, R r → R' r) → (∀ C fs, F C fs → F' C fs) → S as R F → S as R' F'
def spcX {α : Type} (args : α → List Slot) (pre : α → Prop) (post : α → Rs → Prop) (exc : α → EF) : SPX :=
  ⟨fun as R F => ∃ x, as = args x ∧ pre x ∧ (∀ r, post x r → R r) ∧ ∀ C fs, exc x C fs → F C fs, fun as R R' F F' h1 h2 ⟨x, a, b, c, d⟩ => ⟨x, a, b, fun r q => h1 r (c r q), fun C fs q => h2 C fs (d C fs q)⟩⟩
def spX (K : Frag) (S : SPX) : Sp := fun vs H Q E => ∃ hs as, Args K hs H vs as ∧ Bs hs H ∧ S.S as (fun r => ∀ v H', Ex H H' → ResOk K H hs H' v r → Q v H') fun C fs => ∀ d H', Ex H H' → ExD K hs H' d fs → E (.ref C) d H'
theorem ExD.sub {K : Frag} {ms ns : List Addr} {H : Hp} {d : Option Addr} {fs : List (Str × D)} (hm : ∀ a ∈ ns, a ∈ ms) (h : ExD K ms H d fs) : ExD K ns H d fs := by
  cases d with
  | none => exact h
  | some d =>
    obtain ⟨n, fvs, a, b, c⟩ := h
    exact ⟨fun m => n (hm _ m), fvs, a, b, c.mono (hid_sub hm)⟩
theorem ExD.out {K : Frag} {hs : List Addr} {Γ : Env} {H : Hp} {d : Option Addr} {fs : List (Str × D)} (h : ExD K (hs ++ adr Γ) H d fs) : ExD K hs H d fs := h.sub fun a m => List.mem_append_left _ m
/-! ### expressions that may change lists and may raise -/
abbrev EZ := Addr → List (Str × D) → Env → Prop
abbrev ZT := Env → (D → Env → Prop) → EZ → Prop
abbrev ZB := Env → (Bool → Env → Prop) → EZ → Prop
abbrev ZR := Env → (Rs → Env → Prop) → EZ → Prop
abbrev ZA := Env → (List D → Env → Prop) → EZ → Prop
def ExZ (K : Frag) (W : WX) (H0 : Hp) (ps hs : List Addr) (Γ : Env) (σ : St) (H : Hp) (F : EZ) : Prop := ∀ C fs Γ2 H2 d, F C fs Γ2 → SE K H0 ps hs Γ2 σ H2 → Km hs Γ H Γ2 H2 → ExD K (hs ++ adr Γ) H2 d fs → W (.ref C) d σ H2
theorem ExZ.from {K : Frag} {W : WX} {H0 : Hp} {ps hs : List Addr} {Γ Γ1 : Env} {σ : St} {H H1 : Hp} {F : EZ} (h : ExZ K W H0 ps hs Γ σ H F) (k : Km hs Γ H Γ1 H1) : ExZ K W H0 ps hs Γ1 σ H1 F := fun C fs Γ2 H2 d a b c x =>
  h C fs Γ2 H2 d a b (k.trans c) (by rw [k.1] at x; exact x)
def Lz (K : Frag) (W : WX) (t : ZT) : TE := fun σ H Q => ∃ (H0 : Hp) (ps hs : List Addr) (Γ : Env) (P : D → Env → Prop) (F : EZ), SE K H0 ps hs Γ σ H ∧ t Γ P F ∧ (∀ d Γ2 v H2, P d Γ2 → SE K H0 ps hs Γ2 σ H2 → Km hs Γ H Γ2 H2 → Rep K (hid (hs ++ adr Γ) H2) v d → Q v H2) ∧ ExZ K W H0 ps hs Γ σ H F
def LzT (K : Frag) (W : WX) (t : ZB) : TT := fun σ H Q => ∃ (H0 : Hp) (ps hs : List Addr) (Γ : Env) (P : Bool → Env → Prop) (F : EZ), SE K H0 ps hs Γ σ H ∧ t Γ P F ∧ (∀ b Γ2 H2, P b Γ2 → SE K H0 ps hs Γ2 σ H2 → Km hs Γ H Γ2 H2 → Q b H2) ∧ ExZ K W H0 ps hs Γ σ H F
def LzR (K : Frag) (W : WX) (t : ZR) : TE := fun σ H Q => ∃ (H0 : Hp) (ps hs : List Addr) (Γ : Env) (P : Rs → Env → Prop) (F : EZ), SE K H0 ps hs Γ σ H ∧ t Γ P F ∧ (∀ r Γ2 v H2, P r Γ2 → SE K H0 ps hs Γ2 σ H2 → Km hs Γ H Γ2 H2 → ResOk K H (hs ++ adr Γ) H2 v r → Q v H2) ∧ ExZ K W H0 ps hs Γ σ H F
def LzA (K : Frag) (W : WX) (t : ZA) : TA := fun σ H Q => ∃ (H0 : Hp) (ps hs : List Addr) (Γ : Env) (P : List D → Env → Prop) (F : EZ), SE K H0 ps hs Γ σ H ∧ t Γ P F ∧ (∀ ds Γ2 vs H2, P ds Γ2 → SE K H0 ps hs Γ2 σ H2 → Km hs Γ H Γ2 H2 → Reps K (hid (hs ++ adr Γ) H2) vs ds → Q vs H2) ∧ ExZ K W H0 ps hs Γ σ H F
section
variable {X : Cx} {W : WX}
def zP (t : XT) : ZT := fun Γ P _ => t Γ fun d => P d Γ
theorem zx {e : Expr} {t : XT} (h : PE X e (Li X.K t)) : PE X e (Lz X.K W (zP t)) := pe_imp h fun σ H Q ⟨H0, ps, hs, Γ, P, F, se, ht, k, _⟩ => ⟨H0, ps, hs, Γ, _, se, ht, fun d v H2 p e r => k d Γ v H2 p (se.mono e) (Km.ex e) r⟩
def zM (t : IT) : ZT := fun Γ P _ => t Γ P
theorem zx_m {e : Expr} {t : IT} (h : PE X e (Lm X.K t)) : PE X e (Lz X.K W (zM t)) := pe_imp h fun σ H Q ⟨H0, ps, hs, Γ, P, F, se, ht, k, _⟩ => ⟨H0, ps, hs, Γ, P, se, ht, k⟩
def zTP (t : BT) : ZB := fun Γ P _ => t Γ fun b => P b Γ
theorem tz {e : Expr} {t : BT} (h : PT X e (Lt X.K t)) : PT X e (LzT X.K W (zTP t)) := pt_imp h fun σ H Q ⟨H0, ps, hs, Γ, P, F, se, ht, k, _⟩ => ⟨H0, ps, hs, Γ, _, se, ht, fun b H2 p e => k b Γ H2 p (se.mono e) (Km.ex e)⟩
theorem res_datM {K : Frag} {H0 : Hp} {ps hs : List Addr} {Γ : Env} {σ : St} {H H2 : Hp} {v : V} {r : Rs} (se : SE K H0 ps hs Γ σ H) (ro : ResOk K H (hs ++ adr Γ) H2 v r) : Rep K (hid (hs ++ adr Γ) H2) v r.dat := res_dat se.bs.fresh ro
def zD (t : ZR) : ZT := fun Γ P F => t Γ (fun r => P r.dat) F
theorem zx_r {e : Expr} {t : ZR} (h : PE X e (LzR X.K W t)) : PE X e (Lz X.K W (zD t)) := pe_imp h fun σ H Q ⟨H0, ps, hs, Γ, P, F, se, ht, k, x⟩ => ⟨H0, ps, hs, Γ, _, F, se, ht, fun r Γ2 v H2 p se2 k2 ro => k _ Γ2 v H2 p se2 k2 (res_datM se ro), x⟩
/-! ### operators -/
def z2 (f : F2) (ta tb : ZT) : ZT := fun Γ P F => ta Γ (fun d Γ1 => tb Γ1 (fun e Γ2 => f d e fun z => P z Γ2) F) F
def bz2 (f : F2) (ta tb : ZT) : ZB := fun Γ P F => ta Γ (fun d Γ1 => tb Γ1 (fun e Γ2 => f d e fun z => match z with
  | .bl b => P b Γ2
  | _ => False) F) F
theorem zbin_of {σ : St} {H : Hp} {Q : VK} {r : R2} {f : F2} {ta tb : ZT} (hd : Does X.K r f) (h : Lz X.K W (z2 f ta tb) σ H Q) : tOp r (Lz X.K W ta) (Lz X.K W tb) σ H Q := by
  obtain ⟨H0, ps, hs, Γ, P, F, se, ht, k, xz⟩ := h
  refine ⟨H0, ps, hs, Γ, _, F, se, ht, fun d Γ1 x H1 h1 se1 k1 r1 => ?_, xz⟩
  refine ⟨H0, ps, hs, Γ1, _, F, se1, h1, fun e Γ2 y H2 h2 se2 k2 r2 => ?_, xz.from k1⟩
  have bs2 := se2.bs
  rw [k2.1, k1.1] at bs2
  rw [k1.1] at r2
  have z2 := k2.x
  rw [k1.1] at z2
  exact hd _ H2 x y d e _ Q bs2 (.im (r1.mono z2)) (.im r2) h2 fun z v H3 hz e3 r3 => k z Γ2 v H3 hz (se2.mono e3) ((k1.trans k2).trans (Km.ex e3)) r3
theorem z_bin {op : Operator} {a b : Expr} {pos : Pos} {r : R2} {f : F2} {ta tb : ZT} (ho : OpR X (binaryOp op) r) (hd : Does X.K r f) (ha : PE X a (Lz X.K W ta)) (hb : PE X b (Lz X.K W tb)) : PE X (.BinOp a op b pos) (Lz X.K W (z2 f ta tb)) :=
  pe_imp (pe_op ho ha hb) fun _ _ _ h => zbin_of hd h
theorem z_cmp {op : CmpOp} {a b : Expr} {pos : Pos} {r : R2} {f : F2} {ta tb : ZT} (ho : OpR X (compareOp op) r) (hd : Does X.K r f) (ha : PE X a (Lz X.K W ta)) (hb : PE X b (Lz X.K W tb)) (hm : behindInMarks op b = false := by first | exact nomark _ | rfl) : PE X (.Compare a [op] [b] pos) (Lz X.K W (z2 f ta tb)) :=
  pe_imp (pe_cmpR ho ha hb hm) fun _ _ _ h => zbin_of hd h
theorem tz_cmp {op : CmpOp} {a b : Expr} {pos : Pos} {r : R2} {f : F2} {ta tb : ZT} (ho : OpR X (compareOp op) r) (hd : Does X.K r f) (ha : PE X a (Lz X.K W ta)) (hb : PE X b (Lz X.K W tb)) (hm : behindInMarks op b = false := by first | exact nomark _ | rfl) : PT X (.Compare a [op] [b] pos) (LzT X.K W (bz2 f ta tb)) :=
  pt_imp (pt_cmpR ho ha hb hm) fun σ H Q ⟨H0, ps, hs, Γ, P, F, se, ht, k, xz⟩ => zbin_of hd ⟨H0, ps, hs, Γ, (fun z Γ2 => match z with
    | .bl b => P b Γ2
    | _ => False), F, se, ht, fun d Γ2 v H2 p se2 k2 r => (by
    cases d with
    | bl c =>
      cases r
      exact ⟨c, rfl, k c Γ2 H2 p se2 k2⟩
    | _ => exact p.elim), xz⟩
theorem z_ix {a b : Expr} {pos : Pos} {ta tb : ZT} (ha : PE X a (Lz X.K W ta)) (hb : PE X b (Lz X.K W tb)) (hs : PlainIx b := by exact fun _ _ => rfl) : PE X (.Subscript a b pos) (Lz X.K W (z2 fIx ta tb)) :=
  pe_imp (pe_ix ix_seq ha hb hs) fun _ _ _ h => zbin_of does_ix h
/-! ### tests -/
def zTru (t : ZT) : ZB := fun Γ P F => t Γ (fun d Γ2 => match d with
  | .non => P false Γ2
  | .bl b => P b Γ2
  | .int i => P (i != 0) Γ2
  | .lst xs => P (!xs.isEmpty) Γ2
  | .tup xs => P (!xs.isEmpty) Γ2
  | _ => False) F
theorem tz_tru {a : Expr} {t : ZT} (ha : PE X a (Lz X.K W t)) (he : ∀ whole, isTrue a X.env whole = (do let v ← whole; standAt a.pos; holding [v] (truthy v)) := by intro _; rfl) : PT X a (LzT X.K W (zTru t)) :=
  pt_imp (pt_truth ha he) fun σ H Q ⟨H0, ps, hs, Γ, P, F, se, ht, k, xz⟩ => ⟨H0, ps, hs, Γ, _, F, se, ht, fun d Γ2 v H2 p se2 k2 r => (by
    have em : Ex (hid (hs ++ adr Γ) H2) H2 := hid_ex
    have rw_ := RepW.im (H := H2) r
    cases d with
    | non => cases r; exact ⟨false, rfl, k _ Γ2 H2 p se2 k2⟩
    | bl b => cases r; exact ⟨b, rfl, k _ Γ2 H2 p se2 k2⟩
    | int i => cases r; exact ⟨_, rfl, k _ Γ2 H2 p se2 k2⟩
    | lst xs => obtain ⟨a, vs, rfl, h, q⟩ := rw_.list em; exact ⟨_, .inl ⟨vs, SqL.of h, reps_empty q⟩, k _ Γ2 H2 p se2 k2⟩
    | tup xs => obtain ⟨a, vs, rfl, h, q⟩ := rw_.tuple em; exact ⟨_, .inr (.inl ⟨vs, h, reps_empty q⟩), k _ Γ2 H2 p se2 k2⟩
    | _ => exact p.elim), xz⟩
def zNot (t : ZB) : ZB := fun Γ P F => t Γ (fun b => P (!b)) F
theorem tz_not {a : Expr} {pos : Pos} {t : ZB} (ha : PT X a (LzT X.K W t)) : PT X (.UnaryOp .Not a pos) (LzT X.K W (zNot t)) := pt_imp (pt_not ha) fun σ H Q ⟨H0, ps, hs, Γ, P, F, se, ht, k, xz⟩ => ⟨H0, ps, hs, Γ, _, F, se, ht, fun b Γ2 H2 p se2 k2 => k _ Γ2 H2 p se2 k2, xz⟩
def zAnd (t u : ZB) : ZB := fun Γ P F => t Γ (fun b Γ2 => (b = true → u Γ2 P F) ∧ (b = false → P false Γ2)) F
def zOr (t u : ZB) : ZB := fun Γ P F => t Γ (fun b Γ2 => (b = true → P true Γ2) ∧ (b = false → u Γ2 P F)) F
theorem tzw_and1 {a : Expr} {pos : Pos} {t : ZB} (ha : PT X a (LzT X.K W t)) : PW X (.BoolOp .And [a] pos) (LzT X.K W t) := pw_and1 ha
theorem tzw_or1 {a : Expr} {pos : Pos} {t : ZB} (ha : PT X a (LzT X.K W t)) : PW X (.BoolOp .Or [a] pos) (LzT X.K W t) := pw_or1 ha
theorem tzw_and {a b : Expr} {rest : List Expr} {pos : Pos} {t u : ZB} (ha : PT X a (LzT X.K W t)) (hb : PW X (.BoolOp .And (b :: rest) pos) (LzT X.K W u)) : PW X (.BoolOp .And (a :: b :: rest) pos) (LzT X.K W (zAnd t u)) :=
  pw_imp (pw_and ha hb) fun σ H Q ⟨H0, ps, hs, Γ, P, F, se, ht, k, xz⟩ => ⟨H0, ps, hs, Γ, _, F, se, ht, fun b Γ2 H2 p se2 k2 => (by
    cases b with
    | true => exact iteT ⟨H0, ps, hs, Γ2, P, F, se2, p.1 rfl, fun b Γ3 H3 q se3 k3 => k b Γ3 H3 q se3 (k2.trans k3), xz.from k2⟩
    | false => exact iteF (k _ Γ2 H2 (p.2 rfl) se2 k2)), xz⟩
theorem tzw_or {a b : Expr} {rest : List Expr} {pos : Pos} {t u : ZB} (ha : PT X a (LzT X.K W t)) (hb : PW X (.BoolOp .Or (b :: rest) pos) (LzT X.K W u)) : PW X (.BoolOp .Or (a :: b :: rest) pos) (LzT X.K W (zOr t u)) :=
  pw_imp (pw_or ha hb) fun σ H Q ⟨H0, ps, hs, Γ, P, F, se, ht, k, xz⟩ => ⟨H0, ps, hs, Γ, _, F, se, ht, fun b Γ2 H2 p se2 k2 => (by
    cases b with
    | true => exact iteT (k _ Γ2 H2 (p.1 rfl) se2 k2)
    | false => exact iteF ⟨H0, ps, hs, Γ2, P, F, se2, p.2 rfl, fun b Γ3 H3 q se3 k3 => k b Γ3 H3 q se3 (k2.trans k3), xz.from k2⟩), xz⟩
theorem tz_w {e : Expr} {t : ZB} (h : PW X e (LzT X.K W t)) : PT X e (LzT X.K W t) := h.pt
/-! ### arguments, displays -/
def zNil : ZA := fun Γ P _ => P [] Γ
def zCons (t : ZT) (u : ZA) : ZA := fun Γ P F => t Γ (fun d Γ1 => u Γ1 (fun ds Γ2 => P (d :: ds) Γ2) F) F
theorem az_nil : PA X [] (LzA X.K W zNil) := pa_imp pa_nil fun σ H Q ⟨H0, ps, hs, Γ, P, F, se, ht, k, x⟩ => k [] Γ [] H ht se (Km.ex (Same.refl H)) .nil
theorem az_cons {e : Expr} {es : List Expr} {t : ZT} {u : ZA} (he : PE X e (Lz X.K W t)) (hs : PA X es (LzA X.K W u)) (hx : starEach (e :: es) X.env = (false, eval e X.env) :: starEach es X.env := by rfl) : PA X (e :: es) (LzA X.K W (zCons t u)) :=
  pa_imp (pa_cons he hs hx) fun σ H Q ⟨H0, ps, hs, Γ, P, F, se, ht, k, xz⟩ => ⟨H0, ps, hs, Γ, _, F, se, ht, fun d Γ1 v H1 p se1 k1 r => ⟨H0, ps, hs, Γ1, _, F, se1, p, fun ds Γ2 vs H2 q se2 k2 r2 => (by
    have z2 := k2.x
    rw [k1.1] at z2 r2
    exact k _ Γ2 _ H2 q se2 (k1.trans k2) (.cons (r.mono z2) r2)), xz.from k1⟩, xz⟩
def zTup (t : ZA) : ZT := fun Γ P F => t Γ (fun ds Γ2 => ds.length ≤ sizeLine ∧ P (.tup ds) Γ2) F
theorem z_tup {es : List Expr} {x1 : Nat} {pos : Pos} {t : ZA} (h : PA X es (LzA X.K W t)) : PE X (.Tuple es x1 pos) (Lz X.K W (zTup t)) := pe_imp (pe_tup h) fun σ H Q ⟨H0, ps, hs, Γ, P, F, se, ht, k, xz⟩ => ⟨H0, ps, hs, Γ, _, F, se, ht, fun ds Γ2 vs H2 p se2 k2 r => (by
  have bs2 := se2.bs
  rw [k2.1] at bs2
  exact ⟨by rw [r.length]; exact p.1, fun q n => k _ Γ2 _ _ p.2 (se2.mono (Ex.new n)) (k2.trans (Km.ex (Ex.new n))) (rep_newT bs2 n r)⟩), xz⟩
def zLst (t : ZA) : ZT := fun Γ P F => t Γ (fun ds Γ2 => ds.length ≤ sizeLine ∧ P (.lst ds) Γ2) F
theorem z_lst {es : List Expr} {pos : Pos} {t : ZA} (h : PA X es (LzA X.K W t)) : PE X (.List es pos) (Lz X.K W (zLst t)) := pe_imp (pe_lst h) fun σ H Q ⟨H0, ps, hs, Γ, P, F, se, ht, k, xz⟩ => ⟨H0, ps, hs, Γ, _, F, se, ht, fun ds Γ2 vs H2 p se2 k2 r => (by
  have bs2 := se2.bs
  rw [k2.1] at bs2
  exact ⟨by rw [r.length]; exact p.1, fun q n => k _ Γ2 _ _ p.2 (se2.mono (Ex.new n)) (k2.trans (Km.ex (Ex.new n))) (rep_newL bs2 n r)⟩), xz⟩
/-! ### calls -/
theorem reps_args {K : Frag} {hs : List Addr} {H : Hp} : ∀ {vs : List V} {ds : List D}, Reps K (hid hs H) vs ds → Args K hs H vs (ds.map Slot.im)
  | _, _, .nil => .nil
  | _, _, .cons r t => .cons (s := .im _) r rfl (reps_args t)
theorem res_backM {K : Frag} {hs : List Addr} {Γ Γ2 : Env} {H H2 H' : Hp} {v : V} {r : Rs} (bs2 : Bs (hs ++ adr Γ) H2) (k2 : Km hs Γ H Γ2 H2) (ro : ResOk K H2 (hs ++ adr Γ) H' v r) : ResOk K H (hs ++ adr Γ) H' v r := by
  have nn : ∀ p, H2 p = none → H p = none := fun p n => by
    cases z : H p with
    | none => rfl
    | some o =>
      by_cases hp : p ∈ hs ++ adr Γ
      · exact absurd n (bs2 p hp)
      · have q := k2.x p o (by rw [hid_ni hp]; exact z)
        rw [hid_ni hp, n] at q
        cases q
  cases r with
  | d d => exact ro
  | fl ds => obtain ⟨p, vs, h1, h2, h3⟩ := ro; exact ⟨p, vs, h1, nn p h2, h3⟩
  | fd es => obtain ⟨p, vs, h1, h2, h3⟩ := ro; exact ⟨p, vs, h1, nn p h2, h3⟩
  | ft es => obtain ⟨p, vs, h1, h2, h3⟩ := ro; exact ⟨p, vs, h1, nn p h2, h3⟩
def zCl (S : SP) (t : ZA) : ZR := fun Γ P F => t Γ (fun ds Γ2 => S.S (ds.map Slot.im) fun r => P r Γ2) F
theorem zcall_li {S : SP} {t : ZA} {E : XK} (σ : St) (H : Hp) (Q : VK) (h : LzR X.K W (zCl S t) σ H Q) : tCall (spP X.K S) [] E (LzA X.K W t) σ H Q := by
  obtain ⟨H0, ps, hs, Γ, P, F, se, ht, k, xz⟩ := h
  refine ⟨H0, ps, hs, Γ, _, F, se, ht, fun ds Γ2 vs H2 p se2 k2 r2 => ?_, xz⟩
  show spP X.K S (vs ++ []) H2 Q E
  rw [List.append_nil]
  have bs2 := se2.bs
  rw [k2.1] at bs2
  exact ⟨hs ++ adr Γ, _, reps_args r2, bs2, S.mon _ _ _ (fun r hr v H' e3 ro => k r Γ2 v H' hr (se2.mono e3) (k2.trans (Km.ex e3)) (res_backM bs2 k2 ro)) p⟩
theorem z_call {x : Str} {k : Nat} {S : SP} {e : Expr} {es : List Expr} {p pos : Pos} {t : ZA} (F : Df X.prog X.w X.K X.mg X.base x k (spP X.K S)) (hr : Room k X.A) (ha : PA X (e :: es) (LzA X.K W t)) (hg : Gl X x := by rfl) (hd : (x == ("__debug__" : Str)) = false := by decide)
    (he : starEach (e :: es) X.env = (false, eval e X.env) :: starEach es X.env := by rfl) (hpl : (backTo pos (starEach es X.env)).any (·.1) = false := by rfl) : PE X (.Call (.Name x p) (e :: es) [] pos) (LzR X.K W (zCl S t)) := by
  obtain ⟨f, fd, ps, h1, h2, h3, h4⟩ := F.ex
  exact pe_imp (pe_call h1 hr hg h2 h3 h4 .nil pass0 ha hd he hpl) zcall_li
/-- a def that may raise; pure arguments -/
def zClX (S : SPX) (t : AT) : ZR := fun Γ P F => t Γ fun as => S.S as (fun r => P r Γ) fun C fs => F C fs Γ
structure DfX (P : Program) (w : World) (K : Frag) (mg : Str → Option Value) (base : Heap) (x : Str) (k : Nat) (sp : Sp) : Prop where
  ex : ∃ (f : Addr) (fd : FuncData) (ps : List Str), FnOk P w K mg base (L2.CX P w) k f fd ps sp ∧ mg x = some (.ref f) ∧ PySem.W.keepIn K (.ref f) = true ∧ Binds K fd ps []
theorem zcallX_li {S : SPX} {t : AT} (σ : St) (H : Hp) (Q : VK) (h : LzR X.K W (zClX S t) σ H Q) : tCallS (spX X.K S) (WE W) (LaX X.K t) σ H Q := by
  obtain ⟨H0, ps, hs, Γ, P, F, se, ht, k, xz⟩ := h
  refine ⟨H0, ps, hs, Γ, _, se, ht, fun as vs H2 p e ar => ?_⟩
  exact ⟨hs ++ adr Γ, as, ar, (se.mono e).bs, S.mon _ _ _ _ _ (fun r hr v H' e3 ro => k r Γ v H' hr (se.mono (e.trans e3)) (Km.ex (e.trans e3)) (res_back e ro)) (fun C fs q d H' e3 xd => xz C fs Γ H' d q (se.mono (e.trans e3)) (Km.ex (e.trans e3)) xd) p⟩
theorem z_callX {x : Str} {k : Nat} {S : SPX} {e : Expr} {es : List Expr} {p pos : Pos} {t : AT} (tk : Takes X W) (F : DfX X.prog X.w X.K X.mg X.base x k (spX X.K S)) (hr : Room k X.A) (ha : PA X (e :: es) (LaX X.K t)) (hg : Gl X x := by rfl) (hd : (x == ("__debug__" : Str)) = false := by decide)
    (he : starEach (e :: es) X.env = (false, eval e X.env) :: starEach es X.env := by rfl) (hpl : (backTo pos (starEach es X.env)).any (·.1) = false := by rfl) : PE X (.Call (.Name x p) (e :: es) [] pos) (LzR X.K W (zClX S t)) := by
  obtain ⟨f, fd, ps, h1, h2, h3, h4⟩ := F.ex
  exact pe_imp (pe_callS h1 hr hg h2 h3 h4 (fun σ => passAt tk σ) ha hd he hpl) zcallX_li
/-! ### statements -/
def sAsgZ (i : Nat) (t : ZT) : ST := fun E Γ => t Γ (fun d Γ2 => E.nx (Γ2.set i (some (.im d)))) E.ex
theorem ex_of_rel {H0 : Hp} {ps hs : List Addr} {Γ : Env} {σ : St} {H : Hp} {E : En} {D : Ends} {K : Frag} (r : Rel W K H0 ps hs Γ H E D) : ExZ K W H0 ps hs Γ σ H E.ex := fun C fs Γ2 H2 d a b c x => r.ex C fs Γ2 σ H2 d a b c.kp (by rw [c.1]; exact x)
theorem asgZ_li {K : Frag} {i : Nat} {t : ZT} (D : Ends) (σ : St) (H : Hp) (h : Ls K W (sAsgZ i t) D σ H) : tAsg (Lz K W t) (gName i) D σ H := by
  obtain ⟨H0, ps, hs, Γ, E, se, ht, r⟩ := h
  exact ⟨H0, ps, hs, Γ, _, _, se, ht, fun d Γ2 v H2 p se2 k2 ro => r.nx _ _ H2 p (se2.set_im (by rw [k2.1]; exact ro) i) (k2.kp.trans (kp_set_im (Same.refl H2))), ex_of_rel r⟩
theorem s_asgZ {i : Nat} {x : Str} {e : Expr} {t : ZT} {pos pos' : Pos} (hN : X.N.Nodup) (he : PE X e (Lz X.K W t)) (hi : X.N[i]? = some x := by rfl) (hx : Loc X.env.scope x := by first | exact Or.inl rfl | exact Or.inr rfl) (hs : swapsWith e (some (.Name x pos')) pos.line X.env = pure false := by rfl) (hf : X.fn x = true ∨ X.env.scope.names.lookup x = some .local := by first | exact .inl rfl | exact .inr rfl | assumption) :
    PS X (.Assign [.Name x pos'] e pos) (Ls X.K W (sAsgZ i t)) := ps_imp (ps_set hN hi hx he hs hf) asgZ_li
def sRetZ (t : ZT) : ST := fun E Γ => t Γ (fun d Γ2 => E.rt (.d d) Γ2) E.ex
theorem s_retZ {e : Expr} {pos : Pos} {t : ZT} (h : PE X e (Lz X.K W t)) : PS X (.Return (some e) pos) (Ls X.K W (sRetZ t)) := ps_imp (ps_ret h) fun D σ H ⟨H0, ps, hs, Γ, E, se, ht, r⟩ =>
  ⟨H0, ps, hs, Γ, _, _, se, ht, fun d Γ2 v H2 p se2 k2 rr => r.rt (.d d) Γ2 σ v H2 p se2 (rep_out rr), ex_of_rel r⟩
def sIfZ (c : ZB) (t u : ST) : ST := fun E Γ => c Γ (fun b Γ2 => (b = true → t E Γ2) ∧ (b = false → u E Γ2)) E.ex
theorem s_ifZ {c : Expr} {a b : List Stmt} {pos : Pos} {tc : ZB} {t u : ST} (hc : PT X c (LzT X.K W tc)) (ha : PSs X a (Ls X.K W t)) (hb : PSs X b (Ls X.K W u)) : PS X (.If c a b pos) (Ls X.K W (sIfZ tc t u)) := ps_imp (ps_if hc ha hb) fun D σ H ⟨H0, ps, hs, Γ, E, se, ht, r⟩ =>
  ⟨H0, ps, hs, Γ, _, _, se, ht, fun b Γ2 H2 p se2 k2 => (by
    cases b with
    | true => exact iteT ⟨H0, ps, hs, Γ2, E, se2, p.1 rfl, r.from k2.kp⟩
    | false => exact iteF ⟨H0, ps, hs, Γ2, E, se2, p.2 rfl, r.from k2.kp⟩), ex_of_rel r⟩
def sDropZ (t : ZT) : ST := fun E Γ => t Γ (fun _ Γ2 => E.nx Γ2) E.ex
theorem s_dropZ {e : Expr} {t : ZT} {pos : Pos} (he : PE X e (Lz X.K W t)) (hs : swapsWith e none pos.line X.env = pure false := by rfl) : PS X (.Expr e pos) (Ls X.K W (sDropZ t)) := ps_imp (ps_expr he hs) fun D σ H ⟨H0, ps, hs, Γ, E, se, ht, r⟩ =>
  ⟨H0, ps, hs, Γ, _, _, se, ht, fun d Γ2 v H2 p se2 k2 rr => r.nx Γ2 σ H2 p se2 k2.kp, ex_of_rel r⟩
end
section
variable {P : Program} {w : World} {K : Frag} {mg : Str → Option Value} {base : Heap}
/-- a def that may raise, by its body -/
theorem fn_spcX {x qual : Str} {params : Arguments} {body : List Stmt} {scope : Scope} {dvs : List V} {kws : List (Str × V)} {f : Addr} {fd : FuncData} {N ps : List Str} {k : Nat} {α : Type} {args : α → List Slot} {pre : α → Prop} {post : α → Rs → Prop} {exc : α → EF}
    (F : FunD K x qual params body scope dvs kws f fd) (Sc : FnScope N ps scope) (G : α → Env)
    (hb : ∀ (cdv : Value) (A : Around) (outer : List PySem.Env) (s : Shared) (H : Hp) (E : XK), Room k (A.deeper (PyProof.Rows.envOfC qual scope s.heap.objs.size f cdv)) →
      ∃ t, PSs (cxOf (L2.CX P w) P w K mg base N qual scope f cdv A outer s H E) body (Ls K (fun cls d _ H => E cls d H) t) ∧ ∀ x (R : Rs → Prop) (F : EF), pre x → (∀ r, post x r → R r) → (∀ C fs, exc x C fs → F C fs) → t { nx := fun _ => R (.d .non), rt := fun r _ => R r, ex := fun C fs _ => F C fs } (G x))
    (hG : ∀ x, env0 (args x) N.length = G x := by intro _; rfl) (hlen : ∀ x, (args x).length = ps.length := by intro _; rfl) : FnOk P w K mg base (L2.CX P w) (k + 1) f fd ps (spX K (spcX args pre post exc)) := by
  refine F.ok Sc (fun vs H Q E h => ?_) fun cdv A outer s H vs Q E hr h => ?_
  · obtain ⟨hs, as, a, _, x, rfl, _⟩ := h
    rw [a.len]
    exact hlen x
  · obtain ⟨hs, as, a, bb, x, rfl, hp, hR, hX⟩ := h
    obtain ⟨t, h1, h2⟩ := hb cdv A outer s H E hr
    have z := h2 x _ _ hp hR hX
    rw [← hG x] at z
    exact ⟨Ls K _ t, h1, H, [], hs, _, _, a.se bb, z, ⟨fun Γ' σ' H' q se _ => q .non H' (fun a o e => se.fr a o (by simp) e) .non, fun r Γ' σ' v H' q se ro => q v H' (fun a o e => se.fr a o (by simp) e) ro, fun _ _ _ q => q.elim, fun _ _ _ q => q.elim, fun C fs Γ' σ' H' d q se _ xd => q d H' (fun a o e => se.fr a o (by simp) e) xd.out⟩⟩
/-! ### an __init__ that may raise -/
structure SIX where
  S : List D → (List (Str × D) → Prop) → EF → Prop
  mon : ∀ as (R R' : List (Str × D) → Prop) (F F' : EF), (∀ r, R r → R' r) → (∀ C fs, F C fs → F' C fs) → S as R F → S as R' F'
def spcIX {α : Type} (args : α → List D) (pre : α → Prop) (post : α → List (Str × D) → Prop) (exc : α → EF) : SIX :=
  ⟨fun as R F => ∃ x, as = args x ∧ pre x ∧ (∀ r, post x r → R r) ∧ ∀ C fs, exc x C fs → F C fs, fun as R R' F F' h1 h2 ⟨x, a, b, c, d⟩ => ⟨x, a, b, fun r q => h1 r (c r q), fun C fs q => h2 C fs (d C fs q)⟩⟩
def spIX (K : Frag) (C : Addr) (S : SIX) : Sp := fun vs H Q E => ∃ hs l dx us as, vs = .ref l :: us ∧ Reps K (hid hs H) us as ∧ Bs hs H ∧ l ∈ hs ∧ H l = some (.ins C dx []) ∧
  S.S as (fun fs => ∀ H', (∀ a o, a ≠ l → H a = some o → H' a = some o) → (∃ dx' fvs, H' l = some (.ins C dx' fvs) ∧ fvs.map (·.1) = fs.map (·.1) ∧ Reps K (hid hs H') (fvs.map (·.2)) (fs.map (·.2))) → Q .non H')
    fun C' fs => ∀ d H', (∀ a o, a ≠ l → H a = some o → H' a = some o) → ExD K hs H' d fs → E (.ref C') d H'
theorem fn_initX {x qual : Str} {params : Arguments} {body : List Stmt} {scope : Scope} {dvs : List V} {kws : List (Str × V)} {f : Addr} {fd : FuncData} {N ps : List Str} {k : Nat} {α : Type} {args : α → List D} {pre : α → Prop} {post : α → List (Str × D) → Prop} {exc : α → EF} {n0 : Str} {C : Addr}
    (F : FunD K x qual params body scope dvs kws f fd) (Sc : FnScope (n0 :: N) (n0 :: ps) scope) (G : Addr → α → Env)
    (hb : ∀ (cdv : Value) (A : Around) (outer : List PySem.Env) (s : Shared) (H : Hp) (E : XK), Room k (A.deeper (PyProof.Rows.envOfC qual scope s.heap.objs.size f cdv)) →
      ∃ t, PSs (cxOf (L2.CX P w) P w K mg base (n0 :: N) qual scope f cdv A outer s H E) body (Ls K (fun cls d _ H => E cls d H) t) ∧ ∀ l x (R : List (Str × D) → Prop) (F : EF), pre x → (∀ r, post x r → R r) → (∀ C fs, exc x C fs → F C fs) → t { nx := fun Γ => ∃ fs, Γ[0]? = some (some (.mi l C fs)) ∧ R fs, rt := fun _ _ => False, ex := fun C fs _ => F C fs } (G l x))
    (hG : ∀ l x, some (.mi l C []) :: envD (args x) N.length = G l x := by intro _ _; rfl) (hlen : ∀ x, (args x).length = ps.length := by intro _; rfl) : FnOk P w K mg base (L2.CX P w) (k + 1) f fd (n0 :: ps) (spIX K C (spcIX args pre post exc)) := by
  refine F.ok Sc (fun vs H Q E h => ?_) fun cdv A outer s H vs Q E hr h => ?_
  · obtain ⟨hs, l, dx, us, as, rfl, a, _, _, _, x, rfl, _⟩ := h
    simp [a.length, hlen x]
  · obtain ⟨hs, l, dx, us, as, rfl, a, bb, hl, hw, x, rfl, hp, hR, hX⟩ := h
    obtain ⟨t, h1, h2⟩ := hb cdv A outer s H E hr
    have hst : L2.start (n0 :: N) (.ref l :: us) = some (.ref l) :: (us.map some ++ List.replicate (N.length - us.length) none) := by
      unfold L2.start
      simp
    have se : SE K H [l] hs (G l x) (L2.start (n0 :: N) (.ref l :: us)) H := by
      rw [← hG, hst]
      exact se_first a bb hl rfl rfl ⟨rfl, dx, [], hw, rfl, .nil⟩
    refine ⟨Ls K _ t, h1, H, [l], hs, _, _, se, h2 l x _ _ hp hR hX, ⟨fun Γ' σ' H' ⟨fs, hz, q⟩ se' _ => ?_, fun r Γ' σ' v H' q => q.elim, fun _ _ _ q => q.elim, fun _ _ _ q => q.elim, fun C' fs Γ' σ' H' d q se' _ xd => q d H' (fun a o h q => se'.fr a o (fun m => h (List.mem_singleton.mp m)) q) xd.out⟩⟩
    obtain ⟨v, _, _, dx', ws, g2, g3, g4⟩ := se'.ok 0 _ hz
    exact q H' (fun a o h q => se'.fr a o (fun m => h (List.mem_singleton.mp m)) q) ⟨dx', ws, g2, g3, g4.mono (hid_sub fun a m => List.mem_append_left _ m)⟩
structure DcX (P : Program) (w : World) (K : Frag) (mg : Str → Option Value) (base : Heap) (x : Str) (C : Addr) (k : Nat) (S : SIX) (dvs : List V) : Prop where
  ex : ∃ (f : Addr) (fd : FuncData) (ps : List Str) (ds : List Value), FnOk P w K mg base (L2.CX P w) k f fd ps (spIX K C S) ∧ Mk K C f ∧ mg x = some (.ref C) ∧ Binds K fd ps ds ∧ Vals dvs ds
end
/-! ### C(..), its __init__ may raise -/
section
variable {X : Cx} {W : WX} {CX : CXT} {k : Nat} {f C : Addr} {fd : FuncData} {ps : List Str} {sp : Sp} {dvs : List V} {ds : List Value}
def tMakeY (C : Addr) (sp : Sp) (dvs : List V) (E : St → XK) (t : TA) : TE := fun σ H Q => t σ H fun vs H1 => ∀ x dx, H1 x = none → H1 dx = none → dx ≠ x → sp (.ref x :: (vs ++ dvs)) (upd (upd H1 dx (.own x)) x (.ins C dx [])) (fun v H2 => v = .non ∧ Q (.ref x) H2) (E σ)
theorem run_makeY {E : St → XK} {pins : List (Addr × Obj)} {σ : St} {H : Hp} {s : Shared} {Q : VK} {us : List Value} {vs : List V} (mk : Mk X.K C f) (fo : FnOk X.prog X.w X.K X.mg X.base CX k f fd ps sp) (room : Room (k + 1) X.A) (hb : Binds X.K fd ps ds) (hv : Vals dvs ds) (pas : PassesAt CX X σ (E σ)) (I : Inv X pins σ H s) (r : Vals vs us)
    (h : ∀ x dx, H x = none → H dx = none → dx ≠ x → sp (.ref x :: (vs ++ dvs)) (upd (upd H dx (.own x)) x (.ins C dx [])) (fun v H2 => v = .non ∧ Q (.ref x) H2) (E σ)) : wpAny (model X.prog X.w) X.A (call (.ref C) us) (EP X pins σ Q) X.xe s := by
  have q0 := h (s.heap.objs.size + 1) s.heap.objs.size (I.hok.fresh (Nat.le_succ _)) (I.hok.fresh (Nat.le_refl _)) (Nat.ne_of_lt (Nat.lt_succ_self _))
  have J := Inv.made (C := C) I
  have rr : Vals (V.ref (s.heap.objs.size + 1) :: (vs ++ dvs)) (Value.ref (s.heap.objs.size + 1) :: (us ++ ds)) := .cons rfl (r.append hv)
  have len : (Value.ref (s.heap.objs.size + 1) :: us ++ ds).length = ps.length := (rr.length.symm).trans (fo.len _ _ _ _ q0)
  have go := fo.run _ X.stack _ _ ⟨Value.ref (s.heap.objs.size + 1) :: us, []⟩ (Value.ref (s.heap.objs.size + 1) :: (us ++ ds)) _ _ (E σ) (room.make C us []) (J.env0.make C us []) (hb _ (Value.ref (s.heap.objs.size + 1) :: us) J.kIn len) rr q0
  refine wpAny_call (make_map (f := f) I.kIn mk.makes mk.init (beq_iff_eq.mp mk.fn) (codeAny_mono go fun res s' ans => ?_))
  match res, ans with
  | .error e, ans => exact pas pins _ _ e s' J ans
  | .ok (.ret u), ans =>
    obtain ⟨v, H', I3, rv, ev, q3⟩ := J.after ans
    cases ev
    exact ⟨rv, V.ref (s.heap.objs.size + 1), H', I3, rfl, q3⟩
  | .ok .next, ans => exact ans.elim
  | .ok .brk, ans => exact ans.elim
  | .ok .cont, ans => exact ans.elim
theorem pe_makeY {E : St → XK} {x : Str} {e : Expr} {es : List Expr} {p pos : Pos} {t : TA} (mk : Mk X.K C f) (fo : FnOk X.prog X.w X.K X.mg X.base CX k f fd ps sp) (room : Room (k + 1) X.A) (hg : Gl X x) (hm : X.mg x = some (.ref C)) (hb : Binds X.K fd ps ds) (hv : Vals dvs ds) (pas : ∀ σ, PassesAt CX X σ (E σ)) (ha : PA X (e :: es) t)
    (hdb : (x == ("__debug__" : Str)) = false := by decide) (he : starEach (e :: es) X.env = (false, eval e X.env) :: starEach es X.env := by rfl) (hpl : (backTo pos (starEach es X.env)).any (·.1) = false := by rfl) : PE X (.Call (.Name x p) (e :: es) [] pos) (tMakeY C sp dvs E t) :=
  ⟨fun pins s σ H Q I h => wpAny_Call_Name_kw (ld_glob I hg hm (PySem.W.callWith_K (h₀ := X.base) I.ok.mod.kin mk.kp (thn (ha.run pos pins s σ H _ I h) fun us s1 ⟨vs, H1, I1, r, q⟩ => ⟨I1.kIn, run_makeY mk fo room hb hv (pas σ) I1 r q⟩) he hpl) hdb)⟩
def zMk (C : Addr) (S : SIX) (t : FT) (dds : List D) : ZT := fun Γ P F => t Γ fun ds => S.S (ds ++ dds) (fun fs => P (.obj C fs) Γ) fun C' fs => F C' fs Γ
theorem zmake_li {S : SIX} {t : FT} {dds : List D} (hdv : ∀ H, Reps X.K H dvs dds) (σ : St) (H : Hp) (Q : VK) (h : Lz X.K W (zMk C S t dds) σ H Q) : tMakeY C (spIX X.K C S) dvs (WE W) (LaS X.K t) σ H Q := by
  obtain ⟨H0, ps, hs, Γ, P, F, se, ht, k, xw⟩ := h
  refine ⟨H0, ps, hs, Γ, _, se, ht, fun ds us H1 p e1 r => fun x dx nx nd ne => ?_⟩
  have se1 := se.mono e1
  have eN : Ex H1 (upd (upd H1 dx (.own x)) x (.ins C dx [])) := fun a o q => by
    rw [upd_ne (ne_of_none q nx), upd_ne (ne_of_none q nd)]; exact q
  have nms : x ∉ hs ++ adr Γ := se1.bs.new nx
  have eH : Ex (hid (hs ++ adr Γ) H1) (hid (x :: (hs ++ adr Γ)) (upd (upd H1 dx (.own x)) x (.ins C dx []))) := hid_fresh nx eN
  refine ⟨x :: (hs ++ adr Γ), x, dx, us ++ dvs, ds ++ dds, rfl, (r.mono eH).append (hdv _), fun a m => ?_, List.mem_cons_self, upd_same, S.mon _ _ _ _ _ (fun fs hf H' fr ⟨dx', fvs, g1, g2, g3⟩ => ⟨rfl, ?_⟩) (fun C' fs hf d H' fr xd => ?_) p⟩
  · rcases List.mem_cons.mp m with rfl | m
    · rw [upd_same]; intro z; cases z
    · exact (se1.bs.mono eN) a m
  · have e2 : Ex H1 H' := fun a o q => fr a o (ne_of_none q nx) (eN a o q)
    exact k _ Γ _ H' hf (se.mono (e1.trans e2)) (Km.ex (e1.trans e2)) (.obj (by rw [hid_ni nms]; exact g1) g2 (g3.mono (hid_sub fun a m => List.mem_cons_of_mem _ m)))
  · have e2 : Ex H1 H' := fun a o q => fr a o (ne_of_none q nx) (eN a o q)
    exact xw C' fs Γ H' d hf (se.mono (e1.trans e2)) (Km.ex (e1.trans e2)) (xd.sub fun a m => List.mem_cons_of_mem _ m)
theorem z_make {x : Str} {S : SIX} {e : Expr} {es : List Expr} {p pos : Pos} {t : FT} {dds : List D} (tk : Takes X W) (F : DcX X.prog X.w X.K X.mg X.base x C k S dvs) (hdv : ∀ H, Reps X.K H dvs dds) (hr : Room (k + 1) X.A) (ha : PA X (e :: es) (LaS X.K t)) (hg : Gl X x := by rfl) (hdb : (x == ("__debug__" : Str)) = false := by decide)
    (he : starEach (e :: es) X.env = (false, eval e X.env) :: starEach es X.env := by rfl) (hpl : (backTo pos (starEach es X.env)).any (·.1) = false := by rfl) : PE X (.Call (.Name x p) (e :: es) [] pos) (Lz X.K W (zMk C S t dds)) := by
  obtain ⟨f, fd, ps, ds, h1, h2, h3, h4, h5⟩ := F.ex
  exact pe_imp (pe_makeY h2 h1 hr hg h3 h4 h5 (fun σ => passAt tk σ) ha hdb he hpl) (zmake_li hdv)
end
end Kb
set_option Elab.async false
set_option linter.all false
set_option maxRecDepth 100000
set_option maxHeartbeats 1000000
/-! Kb15: lists and fields of what may raise; try .. except X as n; n.f. -/
namespace Kb
open PySem L2
set_option autoImplicit false
section
variable {X : Cx} {W : WX}
/-! ### try .. except X as n -/
def sTry (K : Frag) (c : Value) (i : Nat) (tb : ST) (ts : Addr → Value → Option Addr → ST) : ST := fun E Γ => tb { nx := E.nx, rt := E.rt, bk := E.bk, ct := E.ct, ex := fun C fs Γ' => ∃ b, PySem.W.exmOne K (.ref C) c = some b ∧
  (b = true → ∀ a d, ts a (.ref C) d { nx := fun Γ2 => E.nx (Γ2.set i none), rt := E.rt, bk := fun Γ2 => E.bk (Γ2.set i none), ct := fun Γ2 => E.ct (Γ2.set i none), ex := E.ex } (Γ'.set i (some (.im (.err a C d fs))))) ∧ (b = false → E.ex C fs Γ') } Γ
theorem kp_set_none {hs : List Addr} {Γ Γ' : Env} {H H' : Hp} {i : Nat} (k : Kp hs Γ H Γ' H') : Kp hs Γ H (Γ'.set i none) H' := k.trans (hid_sub fun a m => (adr_set_sub m).elim id fun z => by cases z)
theorem s_try_as {x n : Str} {c : Value} {i : Nat} {body suite : List Stmt} {b0 : Stmt} {np pos pos' : Pos} {tb : ST} {ts : Addr → Value → Option Addr → ST} (hs : X.stack = X.env :: X.outer) (hf : X.env.frame = some X.env.locals) (hN : X.N.Nodup) (hi : X.N[i]? = some n) (hln : X.env.kindOf n = some .local) (hc : Names X x c) (tk : Takes X W)
    (hb : ∀ (W : WX) (pn : List (Addr × Obj)) (xe : Value → Shared → Prop), Takes (X.tr pn xe) W → PassesOwn (model X.prog X.w) X.A X.env xe → PSs (X.tr pn xe) body (Ls X.K W tb))
    (hsu : ∀ (a : Addr) (oe : Obj) (cls : Value) (d : Option Addr) (pn : List (Addr × Obj)), Zc cls d oe → (∃ vs, oe.data = .fields vs) → PSs (X.suite a ((a, oe) :: pn)) (b0 :: suite) (Ls X.K W (ts a cls d))) :
    PS X (.Try body [.ExceptHandler (some (.Name x np)) (some n) (b0 :: suite) pos'] [] [] pos) (Ls X.K W (sTry X.K c i tb ts)) :=
  ps_imp (ps_try_as (i := i) (tb := fun W => Ls X.K W tb) (ts := fun a cls d => Ls X.K W (ts a cls d)) hs hf hN hi hln hc tk hb hsu) fun D σ H ⟨H0, ps, hs, Γ, E, se, ht, r⟩ => by
    refine ⟨H0, ps, hs, Γ, _, se, ht, ⟨r.nx, r.rt, r.bk, r.ct, fun C fs Γ' σ' H' d ⟨b, hb1, hb2, hb3⟩ se' kp xd => ⟨b, hb1, fun hb a na => ?_, fun hb => r.ex C fs Γ' σ' H' d (hb3 hb) se' kp xd⟩⟩⟩
    have rep : Rep X.K (hid (hs ++ adr Γ') H') (.ref a) (.err a C d fs) := by
      cases d with
      | none =>
        have e : fs = [] := xd
        subst e
        exact .err0
      | some d =>
        obtain ⟨nd, fvs, g1, g2, g3⟩ := xd
        exact .err (by rw [hid_ni nd]; exact g1) g2 g3
    have kp1 : Kp hs Γ H (Γ'.set i (some (.im (.err a C d fs)))) H' := kp.trans (kp_set_im (Same.refl H'))
    exact ⟨H0, ps, hs, _, _, se'.set_im rep i, hb2 hb a d, ⟨fun Γ2 σ2 H2 q se2 k2 => r.nx _ _ H2 q (se2.set_none i) (kp_set_none (kp1.trans k2)), r.rt, fun Γ2 σ2 H2 q se2 k2 => r.bk _ _ H2 q (se2.set_none i) (kp_set_none (kp1.trans k2)), fun Γ2 σ2 H2 q se2 k2 => r.ct _ _ H2 q (se2.set_none i) (kp_set_none (kp1.trans k2)), fun C2 fs2 Γ2 σ2 H2 d2 q se2 k2 x2 => r.ex C2 fs2 Γ2 σ2 H2 d2 q se2 (kp1.trans k2) x2⟩⟩
end
end Kb
set_option Elab.async false
set_option linter.all false
set_option maxRecDepth 100000
set_option maxHeartbeats 1000000
/-! Kb16: error classes of one's own. -/
namespace Kb
open PySem L2
set_option autoImplicit false
/-- what is read off the class of a caught error -/
structure ErrR (K : Frag) (C : Addr) (f : Str) : Prop where
  ga : PySem.W.findIn K (.ref C) "__getattribute__" = some (some (.builtin "BaseException.__getattribute__"))
  gg : PySem.W.findIn K (.ref C) "__getattr__" = some none
  no : PySem.W.findIn K (.ref C) f = some none
  sub : PySem.W.subIn K (.ref C) (.type "BaseException") = some true
  hd : PySem.W.hasDictIn K C = true
section
variable {X : Cx}
/-- the field f of the error that the suite holds at a -/
def tEFld (C a : Addr) (cls : Value) (d : Option Addr) (f : Str) (te : TE) : TE := fun σ H Q => te σ H fun x H1 => x = .ref a ∧ cls = .ref C ∧ ∃ (dd : Addr) (fvs : List (Str × V)) (v : V), d = some dd ∧ H1 dd = some (.xd fvs) ∧ fvs.lookup f = some v ∧ Q v H1
theorem pe_efld {C a : Addr} {oe : Obj} {cls : Value} {d : Option Addr} {pn : List (Addr × Obj)} {e : Expr} {te : TE} {pos : Pos} {f : Str} (T : ErrR X.K C f) (hz : Zc cls d oe) (hf : ∃ vs, oe.data = .fields vs) (he : PE (X.suite a ((a, oe) :: pn)) e te) (hb : attributeBase e f X.env (eval e X.env) = eval e X.env := by rfl) :
    PE (X.suite a ((a, oe) :: pn)) (.Attribute e f pos) (tEFld C a cls d f te) := ⟨fun pins s σ H Q I h => attr_of hb (thn (he.run pins s σ H _ I h) fun u s1 ⟨x, H1, I1, rx, ex, ec, dd, fvs, v, ed, ea, lk, q⟩ => by
    cases ex
    cases ec
    cases ed
    obtain rfl : u = Value.ref a := rx
    have pinned := (I1.pin (a, oe) (List.mem_append_left _ List.mem_cons_self)).1
    obtain ⟨vs, hd⟩ := hf
    obtain ⟨mA, hns, hr⟩ := (show ObjOk X.prog X.w H1 s1.heap dd (.xd fvs) from I1.hok dd _ ea)
    obtain ⟨od, ho, hl⟩ := lookIn_ns hns
    obtain ⟨u2, hu, ru⟩ := RelO.some_of (v := v) (o := mA f) (by rw [← lk]; exact hr f)
    have J : PySem.W.InstAt s1.heap a oe C (some od) := ⟨pinned, hz.1, by unfold PySem.W.notCls; rw [hd] <;> rfl, by rw [hz.2]; exact ho⟩
    exact HandSPX.exc_get I1.kIn J T.ga T.gg T.sub (PySem.W.findObj_own T.hd T.no rfl (by rw [hl, hu])) (handed_of ru) ⟨v, H1, I1.tok _, ru, q⟩)⟩
def xEFld (C a : Addr) (cls : Value) (d : Option Addr) (f : Str) (t : XT) : XT := fun Γ P => t Γ fun z => match z with
  | .err a' C' d' fs => a' = a ∧ C' = C ∧ cls = .ref C ∧ d = d' ∧ (match fs.lookup f with
    | some z => P z
    | none => False)
  | _ => False
theorem look_some {K : Frag} {B : Hp} : ∀ {fvs : List (Str × V)} {fs : List (Str × D)} {f : Str} {d : D}, fvs.map (·.1) = fs.map (·.1) → Reps K B (fvs.map (·.2)) (fs.map (·.2)) → fs.lookup f = some d → ∃ v, fvs.lookup f = some v ∧ Rep K B v d
  | [], [], _, _, _, _, h => by cases h
  | (x, v) :: r, (y, e) :: q, f, d, hk, hr, h => by
    simp only [List.map_cons, List.cons.injEq] at hk
    obtain ⟨rfl, hk⟩ := hk
    cases hr with
    | cons h1 h2 =>
      rw [List.lookup_cons] at h ⊢
      cases z : (f == x) with
      | true =>
        rw [z] at h
        cases h
        exact ⟨v, rfl, h1⟩
      | false =>
        rw [z] at h
        exact look_some hk h2 h
  | [], _ :: _, _, _, hk, _, _ => by simp at hk
  | _ :: _, [], _, _, hk, _, _ => by simp at hk
theorem px_efld {C a : Addr} {oe : Obj} {cls : Value} {d : Option Addr} {pn : List (Addr × Obj)} {e : Expr} {t : XT} {pos : Pos} {f : Str} (T : ErrR X.K C f) (hz : Zc cls d oe) (hf : ∃ vs, oe.data = .fields vs) (he : PE (X.suite a ((a, oe) :: pn)) e (Li X.K t)) (hb : attributeBase e f X.env (eval e X.env) = eval e X.env := by rfl) :
    PE (X.suite a ((a, oe) :: pn)) (.Attribute e f pos) (Li X.K (xEFld C a cls d f t)) := pe_imp (pe_efld T hz hf he hb) fun σ H Q ⟨H0, ps, hs, Γ, P, se, ht, k⟩ => ⟨H0, ps, hs, Γ, _, se, ht, fun z v H2 p e r => by
    cases z with
    | err a' C' d' fs =>
      obtain ⟨rfl, rfl, rfl, rfl, p⟩ := p
      cases r with
      | err0 => exact p.elim
      | err g1 g2 g3 =>
        cases z2 : fs.lookup f with
        | none => rw [z2] at p; exact p.elim
        | some w =>
          rw [z2] at p
          obtain ⟨v, lv, rv⟩ := look_some g2 g3 z2
          exact ⟨rfl, rfl, _, _, v, rfl, hid_ex _ _ g1, lv, k w v H2 p e rv⟩
    | _ => exact p.elim⟩
end
end Kb
set_option Elab.async false
set_option linter.all false
set_option maxRecDepth 100000
set_option maxHeartbeats 1000000
/-! Kb17: errors of one's own, made and raised: class X(..): def __init__(self, f, ..): super().__init__("..."); self.f = f; .. -/
namespace Kb
open PySem PySem.W PySem.Calls PyProof.Rows PySem.HandSPX
set_option autoImplicit false
abbrev EQ := Str × Pos × Pos × Pos × Pos
def eStore (q : EQ) : Stmt := .Assign [.Attribute (.Name "self" q.2.1) q.1 q.2.2.1] (.Name q.1 q.2.2.2.1) q.2.2.2.2
/-- what the written part says of the class at C and of its __init__, at fI; fl: its fields -/
structure ErrTxt (P : Program) (K : PySem.W.Frag) (mg : Str → Option Value) (x : Str) (C fI : Addr) (fl : List Str) : Prop where
  gC : mg x = some (.ref C)
  sC : mg "super" = none
  cls : ∃ nm q N bs bm sn sub ab col dd k0 k1 k2 k3 k5, K.lookup C = some (excClassObj nm q C N bs bm true sn sub ab col dd k0 k1 k2 k3 k5 "ValueError.__new__") ∧ refsVE bm = true
  sa : findIn K (.ref C) "__setattr__" = some (some (.builtin "object.__setattr__"))
  no : ∀ f ∈ fl, findIn K (.ref C) f = some none
  iC : findIn K (.ref C) "__init__" = some (some (.ref fI))
  tC : typeIn K (.ref fI) = some (.type "function")
  kC : keepIn K (.ref C) = true
  exC : subIn K (.ref C) (.type "BaseException") = some true
  veC : subIn K (.ref C) (.type "ValueError") = some true
  tyC : typeIn K (.ref C) = some (.type "type")
  sup : ks_superIn K C C "__init__" = some (some (.builtin "ValueError.__init__"))
  mro : mroIn K C (.ref C) = some true
  tp : nsIn K cStatics "thirdparty.any" = some none
  top : (P.main.scope.names.lookup ("super" : Str)).isSome = false
  fn : ∃ (oc : Value) (od : Option Addr) (qual : Str) (params : Arguments) (scope : Scope) (dV kV doc pm : Value) (an : Option Addr) (cda : Addr) (ct : Value) (cc : Addr) (osl : Array (Option Value)) (ar : Arg) (ccl : Value) (cdd : Option Addr) (vs : Array Value) (ccs : Array (Option Value)) (file : Str) (tf : Tok)
      (cl : Value) (cld : Option Addr) (csl : Array (Option Value)) (p0 p1 p2 p3 p4 p5 : Pos) (msg : Str) (j : Nat) (qs : List EQ),
    K.lookup fI = some ⟨oc, od, .func (ksFn "__init__" qual params (.Expr (.Call (.Attribute (.Call (.Name "super" p0) [] [] p1) "__init__" p2) [.Constant (.str msg) j p3] [] p4) p5 :: qs.map eStore) scope dV kV doc pm an (.ref cda) ct cc), osl⟩ ∧
    codeIn K (.ref cda) qual = true ∧ (p2.endLine == p4.line) = true ∧ qs.map (·.1) = fl ∧ (params.posonlyargs ++ params.args).head? = some ar ∧ ar.arg = "self" ∧
    K.lookup cda = some ⟨ccl, cdd, .fields vs, ccs⟩ ∧ vs[2]? = some (.str file tf) ∧ ((P.main.file : Str) == file) = true ∧ K.lookup cc = some ⟨cl, cld, .cell (some (.ref C)), csl⟩ ∧
    scope.names.lookup ("super" : Str) = some .globalImplicit ∧ scope.names.lookup ("__class__" : Str) = some .free ∧ scope.names.lookup ("self" : Str) = some .local ∧ (∀ f ∈ fl, scope.names.lookup f = some .local) ∧ scope.kind = .function ∧
    (∀ x ∈ scope.names, x.2 ≠ .cell) ∧ scope.isCoroutine = false ∧ scope.isGenerator = false ∧
    (∀ (s : Shared) (u : Value) (us : List Value), us.length = fl.length → BindsTo s (ksFn "__init__" qual params (.Expr (.Call (.Attribute (.Call (.Name "super" p0) [] [] p1) "__init__" p2) [.Constant (.str msg) j p3] [] p4) p5 :: qs.map eStore) scope dV kV doc pm an (.ref cda) ct cc) ⟨u :: us, []⟩ (("self", u) :: fl.zip us)) ∧
    ("self" : Str) ∉ fl ∧ fl.Nodup ∧ (∀ f ∈ fl, (f == ("__debug__" : Str)) = false) ∧ fl.length ≤ 10
section
variable {prog : Program} {w : World} {A : Around} {E : Value → Shared → Prop} {R : Result → Shared → Prop}
/-- a store into the own dict that stands already -/
theorem excD_osa {hp : Heap} {g : Array GenState} {d : Drawn} {t : Nat} {os : OsState} {K : PySem.W.Frag} {name : Str} {tk : Tok} {v : Value} {x C dx : Addr} {fv : Array Value} {cd : ClassData} {m0 : Str → Option Value} {nl : List Str}
    (X : K.In hp) (hx : hp.get? x = some { cls := .ref C, dict := some dx, data := .fields fv }) (hns : hp.Ns1 dx m0) (hw : Within m0 nl) (hz : nl.length ≤ 1000) (hcd : clsIn K C = some cd) (hm : refsVE cd.mro = true) (hh : cd.hasDict = true) (ha : findIn K (.ref C) name = some none)
    (hq : ∀ h' tk', (∀ b o, b ≠ dx → hp.get? b = some o → h'.get? b = some o) → h'.Ns1 dx (fun y => if y = name then some v else m0 y) → R (.ok (.ret .none)) ⟨h', g, d, tk', os⟩) :
    codeAny (model prog w) A (.call (.builtin "object.__setattr__") ⟨[.ref x, .str name tk, v], []⟩) R ⟨hp, g, d, t, os⟩ := by
  obtain ⟨oD, esD, epD, hoD, hdD, _⟩ := hns.count hw
  have I : InstAt hp x { cls := .ref C, dict := some dx, data := .fields fv } C (some oD) := ⟨hx, rfl, rfl, hoD⟩
  have SF := F.store_object
  have ne := refsVE_ne hm
  have hob : cd.mro.contains (.type "object") = true := (refsVE_contains "object" _ hm).trans (by decide +kernel)
  have sub : Looks (model prog w) hp (isInstance (.ref x) (.type "object")) true := I.type.andThen (looks_mroIn X (by unfold mroIn; rw [hcd, Option.bind_some, if_neg (by rw [ne]; decide), hob]))
  refine codeAny_call_builtin SF.slot.plain SF.entry (@check_slot (model prog w) _ _ ⟨hp, g, d, t, os⟩ "object.__setattr__" "object" "__setattr__" (.ref x) [.str name tk, v] [] _ SF.kind SF.split sub (SF.args (.ref x) (.str name tk) v) ?_)
  have hmr : Looks (model prog w) hp (mroOf (.ref C)) cd.mro := (looks_clsIn X hcd).andThen .now
  have L3 : Looks (model prog w) hp (Builtin.ObjectAttr.storeTaker? none) none := .now
  have hcls : Looks (model prog w) hp (classData C) cd := looks_clsIn X hcd
  rw [osa_eq, refuse_eq]
  refine wpAny_bind (wpAny_bind (I.type.at (wpAny_bind (hmr.at ?_))))
  rw [refsVE_pass _ _ hm]
  refine wpAny_pure (wpAny_bind (I.type.at (wpAny_bind ((looks_findIn X ha).at (wpAny_bind (L3.at ?_))))))
  show wpAny _ _ (Builtin.ObjectAttr.storeInOwnDict (.ref x) (.ref C) (.str name tk) name v false) _ _ _
  obtain ⟨nm, bs, mro, ns, qn, hd, sn, sb, ab, col, del⟩ := cd
  dsimp only at hh
  subst hh
  unfold Builtin.ObjectAttr.storeInOwnDict Builtin.ObjectAttr.ownDictForStores
  repeat (first | with_reducible refine ESX.store_in_old hns hw hz ?_ | with_reducible refine wpAny_loadPart_at hx ?_ | with_reducible refine hcls.at ?_ | wp_step)
  intro h' tk' hn' hs
  exact hq h' tk' (fun b o hb ho => (hs.2 b hb).trans ho) hn'
/-- ValueError.__init__, bound to e, called -/
theorem call_vw {h : Heap} {g : Array GenState} {d : Drawn} {t : Nat} {os : OsState} {nm q : Str} {C N : Addr} {bs bm : List Value} {hdct : Bool} {sn : List Str} {sub : List Value} {ab : Bool} {col : Option Bool} {dd : Option Addr} {k0 k1 k2 k3 k5 : Option Value}
    {u e t0 : Addr} {rest : List Value} {Q : Value → Shared → Prop}
    (hC : h.get? C = some (excClassObj nm q C N bs bm hdct sn sub ab col dd k0 k1 k2 k3 k5 "ValueError.__new__")) (he : h.get? e = some (excO C t0)) (hu : h.get? u = some (kxs_mw "ValueError.__init__" e)) (hrest : rest.length ≤ sizeLine)
    (hq : ∀ h' t1, (∀ b o, b ≠ e → h.get? b = some o → h'.get? b = some o) → h'.get? e = some (excO C t1) → Q .none ⟨h', g, d, t, os⟩) :
    wpAny (model prog w) A (call (.ref u) rest) Q E ⟨h, g, d, t, os⟩ := by
  refine wpAny_call (codeAny_of_tree ?_)
  show wpAny _ A.in1 (callAny (.ref u) ⟨rest, []⟩) _ _ _
  simp only [callAny]
  refine wpAny_bind (wpAny_load hu ?_)
  simp only [kxs_mw, show (Value.type "method-wrapper" == Value.type "method" || Value.type "method-wrapper" == Value.type "builtin_function_or_method" || Value.type "method-wrapper" == Value.type "method-wrapper") = true by decide, if_true]
  refine KFB.if_so (by decide) ?_
  refine wpAny_bind (check_bound_init F.excBase_ValueError.toExcCallFacts hC he rfl ?_)
  refine wpAny_bind (wpAny_pure (wpAny_pure ?_))
  refine ⟨plainId_quiet F.excBase_ValueError.init.plain _, codeAny_builtin F.excBase_ValueError.initEntry ?_⟩
  exact exc_init_tree (cls := .ref C) (t0 := t0) (dv := none) (c2 := .none) (c3 := .none) (b4 := .bool false) he hrest fun h' a b _ => hq h' _ a b
end
theorem lk_mem {α β : Type} [BEq α] [LawfulBEq α] : ∀ {l : List (α × β)} {k : α} {v : β}, (l.map (·.1)).Nodup → (k, v) ∈ l → l.lookup k = some v
  | [], _, _, _, h => by cases h
  | (a, b) :: l, k, v, nd, h => by
    rw [List.lookup_cons]
    rcases List.mem_cons.mp h with e | hl
    · cases e
      rw [beq_self_eq_true]
    · have n := (List.nodup_cons.mp nd).1
      have ne : (k == a) = false := by
        cases z : (k == a) with
        | false => rfl
        | true =>
          have e := eq_of_beq z
          subst e
          exact absurd (show k ∈ l.map (·.1) from List.mem_map.mpr ⟨(k, v), hl, rfl⟩) n
      rw [ne]
      exact lk_mem (List.nodup_cons.mp nd).2 hl
theorem lk_in {α β : Type} [BEq α] [LawfulBEq α] : ∀ {l : List (α × β)} {k : α}, l.lookup k ≠ none → k ∈ l.map (·.1)
  | [], _, h => absurd rfl h
  | (a, b) :: l, k, h => by
    rw [List.lookup_cons] at h
    cases z : (k == a) with
    | true => simp [eq_of_beq z]
    | false =>
      rw [z] at h
      exact List.mem_cons_of_mem _ (lk_in h)
theorem zip_fst {α β : Type} : ∀ {as : List α} {bs : List β}, bs.length = as.length → (as.zip bs).map (·.1) = as
  | [], [], _ => rfl
  | [], _ :: _, h => by cases h
  | _ :: _, [], h => by cases h
  | a :: as, b :: bs, h => by simp [zip_fst (as := as) (bs := bs) (by simpa using h)]
theorem zip_snd {α β : Type} : ∀ {as : List α} {bs : List β}, bs.length = as.length → (as.zip bs).map (·.2) = bs
  | [], [], _ => rfl
  | [], _ :: _, h => by cases h
  | _ :: _, [], h => by cases h
  | a :: as, b :: bs, h => by simp [zip_snd (as := as) (bs := bs) (by simpa using h)]
/-- the error at x, some of its fields stored -/
structure ErrSt (h h' : Heap) (x C : Addr) (od : Option Addr) (kvs : List (Str × Value)) : Prop where
  keep : ∀ b o, b ≠ x → h.get? b = some o → h'.get? b = some o
  obj : ∃ t1, h'.get? x = some { cls := .ref C, dict := od, data := .fields #[.ref t1, .none, .none, .none, .bool false, .none] }
  dic : match od with
    | none => kvs = []
    | some dx => h.objs.size ≤ dx ∧ dx ≠ x ∧ kvs ≠ [] ∧ h'.Ns1 dx fun y => kvs.reverse.lookup y
section
variable {prog : Program} {w : World} {A : Around} {E : Value → Shared → Prop} {R : Result → Shared → Prop}
theorem ns_keep {h h' : Heap} {L : Addr} {m : Str → Option Value} {z : Addr} (hn : h.Ns L m) (k : ∀ b o, b ≠ z → h.get? b = some o → h'.get? b = some o) (hz : L ≠ z) : h'.Ns L m := by
  obtain ⟨o, es, ep, ho, r⟩ := hn
  exact ⟨o, es, ep, k _ _ hz ho, r⟩
theorem kin_keep {K : PySem.W.Frag} {h h' : Heap} {z : Addr} (X : K.In h) (hz : K.lookup z = none) (k : ∀ b o, b ≠ z → h.get? b = some o → h'.get? b = some o) : K.In h' := fun a o e =>
  k a o (fun q => by rw [q, hz] at e; cases e) (X a o e)
theorem err_stores {K : PySem.W.Frag} {C x L : Addr} {h : Heap} {m : Str → Option Value} {env : PySem.Env} {cd : ClassData} (hcd : clsIn K C = some cd) (hm : refsVE cd.mro = true) (hh : cd.hasDict = true) (hsa : findIn K (.ref C) "__setattr__" = some (some (.builtin "object.__setattr__")))
    (hnx : K.lookup x = none) (hbig : ∀ b, h.objs.size ≤ b → K.lookup b = none) (hL : env.locals = L) (hLs : h.objs.size ≤ L) (hLx : L ≠ x) (hk : env.scope.kind = .function) (hself : m "self" = some (.ref x)) (hsl : env.kindOf "self" = some .local)
    {g : Array GenState} {d : Drawn} {os : OsState} {Q : Flow → Shared → Prop} : ∀ (qs : List EQ) (vs : List Value) (kvs : List (Str × Value)) (od : Option Addr) (hp : Heap) (tk : Nat), vs.length = qs.length → ErrSt h hp x C od kvs → kvs.length + qs.length ≤ 10 → (∀ dx, od = some dx → dx ≠ L) → hp.Ns L m → K.In hp →
      (∀ p ∈ (qs.map (·.1)).zip vs, m p.1 = some p.2) → (∀ q ∈ qs, env.kindOf q.1 = some .local ∧ (q.1 == ("__debug__" : Str)) = false ∧ findIn K (.ref C) q.1 = some none) →
      (∀ h' tk' od', ErrSt h h' x C od' (kvs ++ (qs.map (·.1)).zip vs) → Q .next ⟨h', g, d, tk', os⟩) → wpAny (model prog w) A (execs (qs.map eStore) env) Q E ⟨hp, g, d, tk, os⟩
  | [], [], kvs, od, hp, tk, _, st, _, _, _, _, _, _, hq => by
    refine wpAny_execs_nil (hq hp tk od ?_)
    simpa using st
  | [], _ :: _, _, _, _, _, hl, _, _, _, _, _, _, _, _ => by cases hl
  | _ :: _, [], _, _, _, _, hl, _, _, _, _, _, _, _, _ => by cases hl
  | q :: qs, v :: vs, kvs, od, hp, tk, hl, st, hc, hdl, hn, X, hv, hf, hq => by
    obtain ⟨f1, f2, f3⟩ := hf q List.mem_cons_self
    have hvq : m q.1 = some v := hv (q.1, v) (by simp)
    have ml : ∀ kvs' : List (Str × Value), (fun y => if y = q.1 then some v else kvs'.reverse.lookup y) = fun y => (kvs' ++ [(q.1, v)]).reverse.lookup y := fun kvs' => by
      funext y
      rw [List.reverse_append]
      show _ = List.lookup y ((q.1, v) :: kvs'.reverse)
      rw [List.lookup_cons]
      by_cases e : y = q.1
      · subst e; simp
      · have e2 : (y == q.1) = false := by simpa using e
        rw [if_neg e, e2]
    have next : ∀ h' tk' od', ErrSt h h' x C od' (kvs ++ [(q.1, v)]) → (∀ dx, od' = some dx → dx ≠ L) → h'.Ns L m → K.In h' → wpAny (model prog w) A (execs (qs.map eStore) env) Q E ⟨h', g, d, tk', os⟩ := fun h' tk' od' st' hd' hn' X' =>
      err_stores hcd hm hh hsa hnx hbig hL hLs hLx hk hself hsl qs vs (kvs ++ [(q.1, v)]) od' h' tk' (by simpa using hl) st' (by simp at hc ⊢; omega) hd' hn' X' (fun p hp => hv p (by simp [hp])) (fun q' hq' => hf q' (List.mem_cons_of_mem _ hq'))
        fun h'' tk'' od'' st'' => hq h'' tk'' od'' (by simpa using st'')
    obtain ⟨t1, ho⟩ := st.obj
    show wpAny _ _ (execs (eStore q :: qs.map eStore) env) _ _ _
    refine wpAny_execs_cons (plainObj_wpAny_Assign_Attribute (wpAny_Name (wpAny_loadName_local hk f1 (by rw [hL]; exact hn) hvq (wpAny_Name (wpAny_loadName_local hk hsl (by rw [hL]; exact hn) hself ?_))) f2))
    cases od with
    | none =>
      refine set_plain X (ox := excO C t1) (od := none) ⟨ho, rfl, rfl, trivial⟩ hsa ?_
      refine exc_osa X ho hcd hm hh f3 (fun h₃ tk₃ dx k₃ dn dne hx₃ hn₃ => ?_)
      have e : kvs = [] := st.dic
      subst e
      have hne : dx ≠ L := fun z => by
        have := hn.lt
        rw [← z] at this
        exact absurd this (Nat.not_lt.mpr dn)
      refine next h₃ tk₃ (some dx) ⟨fun b o hb e => k₃ b o hb (st.keep b o hb e), ⟨t1, hx₃⟩, ?_, dne, by simp, ?_⟩ (fun _ z => by cases z; exact hne) (ns_keep hn k₃ hLx) (kin_keep X hnx k₃)
      · refine Nat.le_trans ?_ dn
        exact Nat.le_trans hLs (Nat.le_of_lt hn.lt)
      · have z := ml []
        rw [← z]
        exact hn₃
    | some dx =>
      obtain ⟨d1, d2, _, d3⟩ := st.dic
      obtain ⟨oD, esD, epD, hoD, hdD, hkD⟩ := d3
      refine set_plain X (ox := { cls := .ref C, dict := some dx, data := .fields #[.ref t1, .none, .none, .none, .bool false, .none] }) (od := some oD) ⟨ho, rfl, rfl, hoD⟩ hsa ?_
      refine excD_osa (nl := kvs.map (·.1)) X ho ⟨oD, esD, epD, hoD, hdD, hkD⟩ ?_ (by simp at hc ⊢; omega) hcd hm hh f3 (fun h₃ tk₃ k₃ hn₃ => ?_)
      · intro y hy
        have z := lk_in hy
        rw [List.map_reverse, List.mem_reverse] at z
        exact z
      refine next h₃ tk₃ (some dx) ⟨fun b o hb e => k₃ b o ?_ (st.keep b o hb e), ⟨t1, k₃ _ _ (Ne.symm d2) ho⟩, d1, d2, by simp, ?_⟩ hdl (ns_keep hn k₃ (Ne.symm (hdl dx rfl))) (kin_keep X (hbig dx d1) k₃)
      · intro z
        have := Heap.lt_size e
        rw [z] at this
        exact absurd this (Nat.not_lt.mpr d1)
      · rw [← ml kvs]
        exact hn₃
theorem super_call {env : PySem.Env} {p0 p1 p2 p3 p4 : Pos} {msg : Str} {j : Nat} (hline : (p2.endLine == p4.line) = true) : eval (.Call (.Attribute (.Call (.Name "super" p0) [] [] p1) "__init__" p2) [.Constant (.str msg) j p3] [] p4) env = (do
      let ov ← attributeBase (.Call (.Name "super" p0) [] [] p1) "__init__" env (eval (.Call (.Name "super" p0) [] [] p1) env)
      standAt p2.atName
      let (f, first) ← holding [ov] (getMethod ov "__init__" (do return (← importBound (.Call (.Name "super" p0) [] [] p1) env).getD true))
      callWith p4 f first (backTo p4 (starEach [.Constant (.str msg) j p3] env)) []) := by
  have hpos : methodCallPos true (.Call (.Name "super" p0) [] [] p1) env p2 p4 = pure p4 := by
    unfold methodCallPos
    rw [hline]
    rfl
  show (attributeBase (.Call (.Name "super" p0) [] [] p1) "__init__" env (eval (.Call (.Name "super" p0) [] [] p1) env) >>= fun ov => standAt p2.atName >>= fun _ => methodCall (.Call (.Name "super" p0) [] [] p1) "__init__" p2 p4 env ov 1 (backTo p4 (starEach [.Constant (.str msg) j p3] env)) []) = _
  congr 1
  funext ov
  congr 1
  funext _
  show (holding [ov] (getMethod ov "__init__" (do return (← importBound (.Call (.Name "super" p0) [] [] p1) env).getD true)) >>= fun x => methodCallPos true (.Call (.Name "super" p0) [] [] p1) env p2 p4 >>= fun callPos => callWith callPos x.1 x.2 (backTo p4 (starEach [.Constant (.str msg) j p3] env)) []) = _
  rw [hpos]
  rfl
theorem kin_big {K : PySem.W.Frag} {h : Heap} (X : K.In h) : ∀ b, h.objs.size ≤ b → K.lookup b = none := fun b hb => by
  cases e : K.lookup b with
  | none => rfl
  | some o => exact absurd (Heap.lt_size (X _ _ e)) (Nat.not_lt.mpr hb)
theorem err_init {s : Shared} {K : PySem.W.Frag} {mg : Str → Option Value} {ex : Str} {C fI : Addr} {fl : List Str} (T : ErrTxt prog K mg ex C fI fl) {x t0 : Addr} {us : List Value} (X : K.In s.heap) (hlim : s.heap.NoLimit) (G : s.heap.Ns mainGlobals mg) (B : ∃ mb, s.heap.Ns builtinsNs mb ∧ ∀ y : Str, y ≠ "__name__" → mb y = bootBuiltins y)
    (hx : s.heap.get? x = some (excO C t0)) (hnx : K.lookup x = none) (hroom : A.depth < recursionLimit) (hl : us.length = fl.length) (hq : ∀ h' tk od, ErrSt s.heap h' x C od (fl.zip us) → R (.ok (.ret .none)) { s with heap := h', toks := tk }) :
    codeAny (model prog w) A (.call (.ref fI) ⟨.ref x :: us, []⟩) R s := by
  obtain ⟨oc, od, qual, params, scope, dV, kV, doc, pm, an, cda, ct, cc, osl, ar, ccl, cdd, vs, ccs, file, tf, cl, cld, csl, p0, p1, p2, p3, p4, p5, msg, j, qs, ho, hcd, hline, hqs, har, harn, hcda, hvs, hfile, hcc, hks, hkc, hksl, hkf, hkind, hcell, hco, hgen, hbind, hsn, hnd, hdb, hlen⟩ := T.fn
  obtain ⟨nm, q, N, bs, bm, sn, sub, ab, col, dd, k0, k1, k2, k3, k5, hC, hbm⟩ := T.cls
  have hcl : clsIn K C = some { name := nm, bases := bs, mro := .ref C :: bm, ns := N, qualname := q, hasDict := true, slotNames := sn, subclasses := sub, abstract := ab, collection := col, hasDel := false } := by unfold clsIn; rw [hC] <;> rfl
  obtain ⟨hp, g, d, tk, os⟩ := s
  obtain ⟨sk, snm, sgn, sco, smo⟩ := scope
  dsimp only at hks hkc hksl hkf hkind hcell hco hgen
  subst hkind hco hgen
  have hkind : (Scope.mk ScopeKind.function snm false false smo).kind = .function := rfl
  have hzl : (fl.zip us).map (·.1) = fl := zip_fst hl
  have hbl : ∀ y ∈ (("self" : Str), Value.ref x) :: fl.zip us, snm.lookup y.1 = some .local := fun y hy => by
    rcases List.mem_cons.mp hy with rfl | hy
    · exact hksl
    · exact hkf y.1 (by rw [← hzl]; exact List.mem_map_of_mem hy)
  refine ks_codeAny_call_defAt (fd := ksFn "__init__" qual params _ _ dV kV doc pm an (.ref cda) ct cc) (binds := ("self", .ref x) :: fl.zip us) hroom (X _ _ ho) rfl hlim (codeRec_of X hcd) rfl (hbind _ _ _ hl) hcell hbl (fun h₁ hns hk₁ => ?_) rfl rfl rfl
  have X₁ : K.In h₁ := X.keeps hk₁
  have hx₁ := hk₁ _ _ hx
  have hxL : hp.objs.size ≠ x := Nat.ne_of_gt (Heap.lt_size hx)
  have ndb : (((("self" : Str), Value.ref x) :: fl.zip us).reverse.map (·.1)).Nodup := by
    rw [List.map_reverse]
    refine List.pairwise_reverse.mpr ((List.Pairwise.imp (fun h => Ne.symm h)) ?_)
    rw [List.map_cons, hzl]
    exact List.nodup_cons.mpr ⟨hsn, hnd⟩
  have mself : ((("self" : Str), Value.ref x) :: fl.zip us).reverse.lookup ("self" : Str) = some (Value.ref x) := lk_mem ndb (by simp)
  -- super()
  refine ks_wpAt_execs_cons (ks_wpAt_Expr_any (ks_wpAt_MethodCall ?_ (super_call hline)))
  obtain ⟨mb, hmb, hmb2⟩ := B
  have hI : InstAt h₁ x (excO C t0) C none := ⟨hx₁, rfl, rfl, trivial⟩
  have hDo : ∃ oD, h₁.get? C = some oD ∧ oD.data = .cls { name := nm, bases := bs, mro := .ref C :: bm, ns := N, qualname := q, hasDict := true, slotNames := sn, subclasses := sub, abstract := ab, collection := col, hasDel := false } := ⟨_, X₁ _ _ hC, rfl⟩
  obtain ⟨oD, hD1, hD2⟩ := hDo
  refine ks_wpAt_super_base (env := ksEnv qual (Scope.mk ScopeKind.function snm false false smo) hp.objs.size fI (.ref cda) cc) hks hkc (by decide) rfl (X₁ _ _ ho) rfl har rfl (X₁ _ _ hcda) rfl hvs hfile T.top ?_
  refine ks_loadName_global hkind hks (loadGlobal_builtin (env := ksEnv qual (Scope.mk ScopeKind.function snm false false smo) hp.objs.size fI (.ref cda) cc) (G.keeps hk₁) T.sC (hmb.keeps hk₁) ((hmb2 _ (by decide)).trans (show bootBuiltins "super" = some (.type "super") by decide +kernel)) ⟨rfl, ?_⟩)
  refine wpAny_loadName_free hkind hkc rfl ⟨_, X₁ _ _ hcc, rfl⟩ ?_
  rw [harn]
  refine wpAny_loadName_local hkind hksl hns mself ?_
  refine ks_wpAny_isType_cls hD1 hD2 ⟨rfl, ?_⟩
  refine ks_wpAny_call_super hD1 hD2 hx₁ rfl (fun c e => by cases e) (looks_mroIn X₁ T.mro) (fun h₂ e₂ k₂ => ?_)
  -- .__init__
  have X₂ : K.In h₂ := X₁.keeps k₂
  have hsup := T.sup
  unfold ks_superIn at hsup
  rw [hcl] at hsup
  refine kxs_getMethod kxs_ValueError e₂ (looks_opaque X₂ T.tp) (l₀ := .ref C :: bm) ?_ rfl X₂ hsup ?_ ?_ (by decide) ?_
  · exact fun A Q E s k q => wpAny_bind ((looks_clsIn X₂ hcl) A _ E s k (wpAny_pure q))
  · exact (show InstAt h₂ x (excO C t0) C none from ⟨k₂ _ _ hx₁, rfl, rfl, trivial⟩).type.andThen (looks_subIn X₂ T.veC)
  · exact ks_ne X₁ hI hcl
  have k₃ : ∀ b o, h₂.get? b = some o → (h₂.push (kxs_mw "ValueError.__init__" x)).get? b = some o := fun b o e => Heap.get?_push_of_some _ e
  -- (msg)
  refine kxs_callWith (i := "ValueError.__init__") (x := x) rfl (evalArgs_plain (spliced_cons (Constant_str (k := j) (pos := p3) (spliced_nil ⟨?_, ?_⟩))))
  · exact Heap.get?_push_at rfl rfl
  refine call_vw (k₃ _ _ (X₂ _ _ hC)) (k₃ _ _ (k₂ _ _ hx₁)) (Heap.get?_push_at rfl rfl) (show [_].length ≤ sizeLine by rw [sizeLine_eq]; exact (by decide : 1 ≤ 16777216)) fun h₄ t₁ k₄ hx₄ => ?_
  have kk : ∀ b o, b ≠ x → h₁.get? b = some o → h₄.get? b = some o := fun b o hb e => k₄ b o hb (k₃ _ _ (k₂ _ _ e))
  refine wpAt_of_wpAny (err_stores (h := hp) (L := hp.objs.size) (env := ksEnv qual (Scope.mk ScopeKind.function snm false false smo) hp.objs.size fI (.ref cda) cc) (m := fun y => ((("self" : Str), Value.ref x) :: fl.zip us).reverse.lookup y) hcl (show refsVE (.ref C :: bm) = true from hbm) rfl T.sa hnx (kin_big X) rfl (Nat.le_refl _) hxL hkind mself hksl qs us [] none h₄ _ (by rw [hl, ← hqs, List.length_map]) ⟨fun b o hb e => kk b o hb (hk₁ _ _ e), ⟨t₁, hx₄⟩, rfl⟩ ?_ (fun _ z => by cases z) (ns_keep hns kk hxL) (kin_keep X₁ hnx kk) ?_ ?_ fun h' tk' od' st => ?_)
  · have : qs.length = fl.length := by rw [← hqs, List.length_map]
    simp; omega
  · intro p hp'
    rw [hqs] at hp'
    exact lk_mem ndb (by simp [hp'])
  · intro q' hq'
    have hm : q'.1 ∈ fl := by rw [← hqs]; exact List.mem_map_of_mem hq'
    exact ⟨hkf _ hm, hdb _ hm, T.no _ hm⟩
  · rw [hqs, List.nil_append] at st
    exact hq h' tk' od' st
/-- a made error -/
structure ErrMd (h h' : Heap) (e C : Addr) (od : Option Addr) (kvs : List (Str × Value)) : Prop where
  keep : ∀ b o, h.get? b = some o → h'.get? b = some o
  new : h.objs.size ≤ e
  obj : ∃ oe vs, h'.get? e = some oe ∧ oe.cls = .ref C ∧ oe.dict = od ∧ oe.data = .fields vs ∧ vs[1]? = some .none
  dic : match od with
    | none => kvs = []
    | some dx => h.objs.size ≤ dx ∧ dx ≠ e ∧ kvs ≠ [] ∧ h'.Ns1 dx fun y => kvs.reverse.lookup y
theorem err_made {s : Shared} {K : PySem.W.Frag} {mg : Str → Option Value} {ex : Str} {C fI : Addr} {fl : List Str} (T : ErrTxt prog K mg ex C fI fl) {us : List Value} (X : K.In s.heap) (hlim : s.heap.NoLimit) (G : s.heap.Ns mainGlobals mg) (B : ∃ mb, s.heap.Ns builtinsNs mb ∧ ∀ y : Str, y ≠ "__name__" → mb y = bootBuiltins y)
    (hroom : A.depth + 1 < recursionLimit) (hl : us.length = fl.length) (hq : ∀ h' tk e od, ErrMd s.heap h' e C od (fl.zip us) → R (.ok (.ret (.ref e))) { s with heap := h', toks := tk }) :
    codeAny (model prog w) A (.call (.ref C) ⟨us, []⟩) R s := by
  obtain ⟨nm, q, N, bs, bm, sn, sub, ab, col, dd, k0, k1, k2, k3, k5, hC, hbm⟩ := T.cls
  have hlen : fl.length ≤ 10 := by
    obtain ⟨oc, od, qual, params, scope, dV, kV, doc, pm, an, cda, ct, cc, osl, ar, ccl, cdd, vs, ccs, file, tf, cl, cld, csl, p0, p1, p2, p3, p4, p5, msg, j, qs, ho, hcd, hline, hqs, har, harn, hcda, hvs, hfile, hcc, hks, hkc, hksl, hkf, hkind, hcell, hco, hgen, hbind, hsn, hnd, hdb, hlen⟩ := T.fn
    exact hlen
  obtain ⟨hp, g, dr, tk, os⟩ := s
  have k : ∀ b o, hp.get? b = some o → ((hp.push (kdv_tup us)).push (excO C hp.objs.size)).get? b = some o := fun b o e => Heap.get?_push_of_some _ (Heap.get?_push_of_some _ e)
  have hget : ((hp.push (kdv_tup us)).push (excO C hp.objs.size)).get? (hp.objs.size + 1) = some (excO C hp.objs.size) := by heap_get
  have hnx : K.lookup (hp.objs.size + 1) = none := kin_big X _ (Nat.le_succ _)
  obtain ⟨mb, hmb, hmb2⟩ := B
  refine call_own F.excBase_ValueError (fun X => refsVE_contains X bm hbm) (X _ _ hC) (looks_findIn X T.iC) (fun self => bind_fn X self T.tC) (by rw [hl, sizeLine_eq]; omega) ?_
  refine err_init (s := ⟨(hp.push (kdv_tup us)).push (excO C hp.objs.size), g, dr, tk, os⟩) T (X.keeps k) (hlim.keeps k) (G.keeps k) ⟨mb, hmb.keeps k, hmb2⟩ hget hnx ?_ hl fun h' tk' od st => ?_
  · show A.depth + 1 < recursionLimit
    exact hroom
  · obtain ⟨t1, ho⟩ := st.obj
    have old : ∀ b o, hp.get? b = some o → h'.get? b = some o := fun b o e => st.keep b o (Nat.ne_of_lt (Nat.lt_succ_of_lt (Heap.lt_size e))) (k b o e)
    refine ⟨rfl, hq h' tk' (hp.objs.size + 1) od ⟨old, Nat.le_succ _, ⟨_, _, ho, rfl, rfl, rfl, rfl⟩, ?_⟩⟩
    have z := st.dic
    cases od with
    | none => exact z
    | some dx =>
      obtain ⟨z1, z2, z3⟩ := z
      have z4 : hp.objs.size + 1 + 1 ≤ dx := by
        first
          | (simpa only [Heap.size_push] using z1)
          | exact z1
          | (have q := z1; rw [Heap.size_push, Heap.size_push] at q; exact q)
      exact ⟨Nat.le_trans (Nat.le_trans (Nat.le_succ _) (Nat.le_succ _)) z4, z2, z3⟩
end
end Kb
namespace Kb
open PySem L2
set_option autoImplicit false
theorem relO_lk : ∀ {fl : List Str} {vs : List V} {us : List Value}, Vals vs us → vs.length = fl.length → fl.Nodup → ∀ f : Str, RelO (List.lookup f (fl.zip vs)) ((fl.zip us).reverse.lookup f) := by
  intro fl vs us r hl nd f
  have hu : us.length = fl.length := by rw [← r.length]; exact hl
  have e : (fl.zip us).reverse.lookup f = (fl.zip us).lookup f := by
    have nd1 : ((fl.zip us).map (·.1)).Nodup := by rw [zip_fst hu]; exact nd
    have nd2 : ((fl.zip us).reverse.map (·.1)).Nodup := by
      rw [List.map_reverse]
      exact List.pairwise_reverse.mpr (List.Pairwise.imp (fun h => Ne.symm h) nd1)
    cases z : (fl.zip us).lookup f with
    | some v =>
      have m : (f, v) ∈ fl.zip us := by
        clear nd1 nd2
        generalize fl.zip us = l at z
        induction l with
        | nil => cases z
        | cons p l ih =>
          rw [List.lookup_cons] at z
          cases q : (f == p.1) with
          | true => rw [q] at z; cases z; rw [eq_of_beq q]; exact List.mem_cons_self
          | false => rw [q] at z; exact List.mem_cons_of_mem _ (ih z)
      exact lk_mem nd2 (by simp [m])
    | none =>
      cases z2 : (fl.zip us).reverse.lookup f with
      | none => rfl
      | some v =>
        exfalso
        have m := lk_in (l := (fl.zip us).reverse) (k := f) (by rw [z2]; intro h; cases h)
        rw [List.map_reverse, List.mem_reverse] at m
        obtain ⟨⟨a, b⟩, hm, rfl⟩ := List.mem_map.mp m
        rw [lk_mem nd1 hm] at z
        cases z
  rw [e]
  clear e nd
  induction fl generalizing vs us with
  | nil => exact trivial
  | cons a fl ih =>
    cases r with
    | nil => cases hl
    | cons r1 r2 =>
      rename_i v u vs us
      show RelO (List.lookup f ((a, v) :: fl.zip vs)) (List.lookup f ((a, u) :: fl.zip us))
      rw [List.lookup_cons, List.lookup_cons]
      cases q : (f == a) with
      | true => exact r1
      | false => exact ih r2 (by simpa using hl) (by simpa using hu)
section
variable {X : Cx} {W : WX} {C fI : Addr} {ex : Str} {fl : List Str}
/-- X(e, ..) -/
def tMkE (C : Addr) (fl : List Str) (ta : TA) : St → Hp → XK → Prop := fun σ H Q => ta σ H fun vs H1 => vs.length = fl.length ∧ (fl = [] → Q (.ref C) none H1) ∧ (fl ≠ [] → ∀ d, H1 d = none → Q (.ref C) (some d) (upd H1 d (.xd (fl.zip vs))))
theorem pmk_e {e : Expr} {es : List Expr} {ta : TA} {p pos : Pos} {k : Nat} (T : ErrTxt X.prog X.K X.mg ex C fI fl) (hr : Room k X.A) (ha : PA X (e :: es) ta) (hg : Gl X ex := by rfl) (hdb : (ex == ("__debug__" : Str)) = false := by decide)
    (he : starEach (e :: es) X.env = (false, eval e X.env) :: starEach es X.env := by rfl) (hpl : (backTo pos (starEach es X.env)).any (·.1) = false := by rfl) :
    PMk X (.Call (.Name ex p) (e :: es) [] pos) (tMkE C fl ta) := by
  intro pins s σ H Q I h
  refine wpAny_Call_Name_kw (ld_glob I hg T.gC ?_ hdb)
  refine PySem.W.callWith_K (h₀ := X.base) I.ok.mod.kin T.kC (thn (ha.run pos pins s σ H _ I h) fun us s1 hh => ?_) he hpl
  obtain ⟨vs, H1, I1, r1, hl, q0, q1⟩ := hh
  refine ⟨I1.kIn, ?_⟩
  have hlim := I1.nolimit
  have hu : us.length = fl.length := by rw [← r1.length]; exact hl
  obtain ⟨mb, h1, h2⟩ := I1.mod.blt
  have G := I1.mod.glob.keeps I1.bk
  have Bk := h1.keeps I1.bk
  have nd : fl.Nodup := by
    obtain ⟨oc, od, qual, params, scope, dV, kV, doc, pm, an, cda, ct, cc, osl, ar, ccl, cdd, vs, ccs, file, tf, cl, cld, csl, p0, p1, p2, p3, p4, p5, msg, j, qs, ho, hcd, hline, hqs, har, harn, hcda, hvs, hfile, hcc, hks, hkc, hksl, hkf, hkind, hcell, hco, hgen, hbind, hsn, hnd, hdb, hlen⟩ := T.fn
    exact hnd
  obtain ⟨hp, g, dr, tk, os⟩ := s1
  refine wpAny_call (err_made T I1.kIn hlim G ⟨mb, Bk, h2⟩ (by have := hr.dp; omega) hu fun h' tk' e d M => ?_)
  show MkP X pins σ Q (.ref e) ⟨h', g, dr, tk', os⟩
  obtain ⟨oe, fv, hoe, hc, hd, hdat, h1'⟩ := M.obj
  obtain ⟨G', g1, g2⟩ := restrict h' fun b => decide (b ≠ e)
  have gk : ∀ b, b ≠ e → G'.get? b = h'.get? b := fun b hb => g1 b (decide_eq_true hb)
  have ge : G'.get? e = none := g2 e (by simp)
  have old : ∀ b o, hp.get? b = some o → G'.get? b = some o := fun b o q => (gk b (Nat.ne_of_lt (Nat.lt_of_lt_of_le (Heap.lt_size q) M.new))).trans (M.keep b o q)
  have back : ∀ b o, G'.get? b = some o → h'.get? b = some o := fun b o q => by
    by_cases hb : b = e
    · rw [hb, ge] at q; cases q
    · exact (gk b hb).symm.trans q
  have hdic := M.dic
  cases d with
  | none =>
    have e0 : fl.zip us = [] := hdic
    have efl : fl = [] := by
      cases fl with
      | nil => rfl
      | cons a fl =>
        cases us with
        | nil => cases hu
        | cons u us => cases e0
    have J : Inv X pins σ H1 ⟨G', g, dr, tk', os⟩ := I1.kept (t' := tk') old
    exact ⟨e, oe, fv, ⟨G', g, dr, tk', os⟩, H1, .ref C, none, rfl, J, back, ge, hoe, ⟨hc, hd⟩, hdat, h1', I1.hok.fresh M.new, rfl, I1.bare, raises_own T.exC T.tyC, q0 efl⟩
  | some d =>
    obtain ⟨dbig, dne, hne, hns⟩ := hdic
    have ob : ObjOk X.prog X.w (upd H1 d (.xd (fl.zip vs))) G' d (.xd (fl.zip vs)) :=
      ⟨_, hns.at (fun o q => (gk d dne).trans q), fun f => relO_lk r1 hl nd f⟩
    have J : Inv X pins σ (upd H1 d (.xd (fl.zip vs))) ⟨G', g, dr, tk', os⟩ := I1.laid (t' := tk') old dbig ob
    have efl : fl ≠ [] := fun z => hne (by rw [z]; rfl)
    refine ⟨e, oe, fv, ⟨G', g, dr, tk', os⟩, _, .ref C, some d, rfl, J, back, ge, hoe, ⟨hc, hd⟩, hdat, h1', ?_, rfl, I1.bare, raises_own T.exC T.tyC, q1 efl d (I1.hok.fresh dbig)⟩
    rw [upd_ne (Ne.symm dne)]
    exact I1.hok.fresh M.new
end
end Kb
set_option Elab.async false
set_option linter.all false
set_option maxRecDepth 100000
set_option maxHeartbeats 1000000
/-! Kb18: raise; isinstance of a caught error; constructors with borrowed and keyword arguments. -/
namespace Kb
open PySem L2
set_option autoImplicit false
/-! ### raise X(e, ..) -/
def sRaise (C : Addr) (fl : List Str) (t : FT) : ST := fun E Γ => t Γ fun ds => ds.length = fl.length ∧ E.ex C (fl.zip ds) Γ
theorem zip_keys {α β γ : Type} {fl : List α} {vs : List β} {ds : List γ} (h1 : vs.length = fl.length) (h2 : ds.length = fl.length) : (fl.zip vs).map (·.1) = (fl.zip ds).map (·.1) := by rw [zip_fst h1, zip_fst h2]
theorem s_raise {X : Cx} {W : WX} {ex : Str} {C fI : Addr} {fl : List Str} {e : Expr} {es : List Expr} {t : FT} {p pos pos2 : Pos} {k : Nat} (hc : X.calm = true) (tk : Takes X W) (T : ErrTxt X.prog X.K X.mg ex C fI fl) (hr : Room k X.A) (ha : PA X (e :: es) (LaS X.K t)) (hg : Gl X ex := by rfl) (hdb : (ex == ("__debug__" : Str)) = false := by decide)
    (he : starEach (e :: es) X.env = (false, eval e X.env) :: starEach es X.env := by rfl) (hpl : (backTo pos (starEach es X.env)).any (·.1) = false := by rfl) : PS X (.Raise (some (.Call (.Name ex p) (e :: es) [] pos)) none pos2) (Ls X.K W (sRaise C fl t)) :=
  ps_imp (ps_raise hc tk (pmk_e T hr ha hg hdb he hpl)) fun D σ H ⟨H0, ps, hs, Γ, E, se, ht, r⟩ => ⟨H0, ps, hs, Γ, _, se, ht, fun ds vs H2 p e rr => by
    have hv : vs.length = fl.length := by rw [rr.length]; exact p.1
    refine ⟨hv, fun z => r.ex C _ Γ σ H2 none p.2 (se.mono e) (Kp.ex e) (by subst z; rfl), fun _ d n => ?_⟩
    have e2 := e.trans (Ex.new (o := .xd (fl.zip vs)) n)
    refine r.ex C _ Γ σ _ (some d) p.2 (se.mono e2) (Kp.ex e2) ⟨(se.mono e).bs.new n, _, upd_same, zip_keys hv p.1, ?_⟩
    rw [zip_snd hv, zip_snd p.1]
    exact rr.mono (hid_ex2 (Ex.new n))⟩
/-! ### isinstance of the error that a suite holds -/
theorem kitx_e {K : Frag} {x D : Addr} {ox : Obj} (C : ExcC K D) : PySem.W.KitX K (.ref x) (.ref D) (fun h => ∃ od, PySem.W.InstAt h x ox D od) where
  ty := fun _ _ _ ⟨_, I⟩ => I.type
  it := fun _ _ X _ => by
    obtain ⟨cd, hcd, _⟩ := PySem.W.any_some C.hd
    unfold PySem.W.clsIn at hcd
    split at hcd
    · rename_i c1 d1 cd1 sl1 ho
      exact fun A1 Q1 E1 s1 k1 q1 => (by unfold isType loadHead; exact wpAny_bind (wpAny_loadPart (k1 _ _ (X _ _ ho)) (wpAny_pure q1)))
    · cases hcd
  ne := fun h tp dd its n sl X htp => by
    obtain ⟨cd, hcd, _⟩ := PySem.W.any_some C.hd
    refine Bool.eq_false_iff.mpr fun z => ?_
    obtain rfl : D = tp := Value.ref.inj (beq_iff_eq.mp z)
    unfold PySem.W.clsIn at hcd
    split at hcd
    · rename_i c1 d1 cd1 sl1 ho
      cases (X _ _ ho).symm.trans htp
    · cases hcd
  ca := fun X ⟨_, I⟩ k => PySem.W.kx_classE X I C.hg C.hk C.hs (PySem.W.findObj_dataE (by obtain ⟨cd, hcd, _⟩ := PySem.W.any_some C.hd; rw [hcd]; rfl) C.ha C.hn C.ht) C.hm k
def cvV : V → Option Value
  | .ref a => some (.ref a)
  | .ty n => some (.type n)
  | _ => none
def rIsX (K : Frag) (D a : Addr) (d : Option Addr) : List V → Hp → VK → Prop := fun xs H Q => ∃ (c : V) (cv : Value) (b : Bool), xs = [.ref a, c] ∧ cvV c = some cv ∧ (∀ dd, d = some dd → ∃ fvs, H dd = some (.xd fvs)) ∧ PySem.W.kitOne K (.ref D) cv = some b ∧ Q (.bl b) H
theorem cr_isX {X : Cx} {a D : Addr} {d : Option Addr} {oe : Obj} {pn : List (Addr × Obj)} (C : ExcC X.K D) (hz : Zc (.ref D) d oe) (hf : ∃ vs, oe.data = .fields vs) : CallR (X.suite a ((a, oe) :: pn)) (.builtin "isinstance") (rIsX X.K D a d) := by
  intro pins s σ H xs us Q I r h
  obtain ⟨c, cv, b, rfl, hcv, hdd, e, q⟩ := h
  cases r with
  | cons rx rr =>
    cases rr with
    | cons rt rr =>
      cases rr
      cases rx
      have ec : ∀ u, RelV c u → u = cv := fun u ru => by
        cases c <;> first | (cases hcv; exact ru) | cases hcv
      obtain rfl := ec _ rt
      obtain ⟨hget, _⟩ := I.pin (a, oe) (List.mem_append.mpr (.inl List.mem_cons_self))
      obtain ⟨vs, hv⟩ := hf
      have J : ∃ od, PySem.W.InstAt s.heap a oe D od := by
        have nc : PySem.W.notCls oe = true := by unfold PySem.W.notCls; rw [hv] <;> rfl
        cases d with
        | none => exact ⟨none, hget, hz.1, nc, by rw [hz.2]; trivial⟩
        | some dd =>
          obtain ⟨fvs, hx⟩ := hdd dd rfl
          obtain ⟨mA, hns, _⟩ := (show ObjOk X.prog X.w H s.heap dd (.xd fvs) from I.hok dd _ hx)
          obtain ⟨od, ho, _⟩ := lookIn_ns hns
          exact ⟨some od, hget, hz.1, nc, by rw [hz.2]; exact ho⟩
      exact PySem.W.kia_one (kitx_e C) I.kIn J e (fun z => nomatch z) fun tk => ⟨.bl b, H, I.kept (t' := tk) fun _ _ z => z, rfl, q⟩
def fIsX (K : Frag) (D0 a : Addr) (cls : Value) (d : Option Addr) : F1 := fun ds P => match ds with
  | [.err a' C' d' fs, .raw c] => a' = a ∧ C' = D0 ∧ cls = .ref D0 ∧ d' = d ∧ ∃ cv b, cvV c = some cv ∧ PySem.W.kitOne K (.ref D0) cv = some b ∧ P (.bl b)
  | _ => False
theorem does_isX {K : Frag} {D0 a : Addr} {cls : Value} {d : Option Addr} : DoesC K (rIsX K D0 a d) (fIsX K D0 a cls d) := fun ms H xs ds P Q b rr h k => by
  unfold fIsX at h
  split at h
  · obtain ⟨rfl, rfl, _, rfl, cv, c, h1, h2, h3⟩ := h
    obtain ⟨v, w, rfl, r1, r2⟩ := rr.two
    cases r2 with
    | im r2 =>
      cases r2
      cases r1 with
      | im r1 =>
        cases r1 with
        | err g1 _ _ => exact ⟨_, cv, c, rfl, h1, fun dd z => (by cases z; exact ⟨_, hid_ex _ _ g1⟩), h2, k _ _ H h3 (Same.refl H) (.bl _)⟩
        | err0 => exact ⟨_, cv, c, rfl, h1, fun dd z => (by cases z), h2, k _ _ H h3 (Same.refl H) (.bl _)⟩
  · exact h.elim
/-- in a suite: isinstance(error, c) -/
theorem px_isX {X : Cx} {a D0 : Addr} {cls : Value} {d : Option Addr} {oe : Obj} {pn : List (Addr × Obj)} {e c : Expr} {p pos : Pos} {t u : XT} (C : cls = .ref D0 → ExcC X.K D0) (hz : Zc cls d oe) (hf : ∃ vs, oe.data = .fields vs) (hg : Gl (X.suite a ((a, oe) :: pn)) "isinstance") (hm : X.mg "isinstance" = none) (h : PE (X.suite a ((a, oe) :: pn)) e (Lb X.K t)) (hc : PE (X.suite a ((a, oe) :: pn)) c (Lb X.K u)) (he : starEach [e, c] X.env = (false, eval e X.env) :: starEach [c] X.env := by rfl)
    (he2 : starEach [c] X.env = (false, eval c X.env) :: starEach [] X.env := by rfl) (hpl : (backTo pos (starEach [c] X.env)).any (·.1) = false := by rfl) :
    PE (X.suite a ((a, oe) :: pn)) (.Call (.Name "isinstance" p) [e, c] [] pos) (Li X.K (xCall (fIsX X.K D0 a cls d) (aCons t (aCons u aNil)))) := by
  by_cases q : cls = .ref D0
  · subst q
    exact px_callB (X := X.suite a ((a, oe) :: pn)) (cr_isX (C rfl) hz hf) does_isX hg hm (by decide +kernel) (aw_cons (X := X.suite a ((a, oe) :: pn)) h (aw_cons (X := X.suite a ((a, oe) :: pn)) hc aw_nil he2) he) (by decide) (by decide) he hpl
  · refine pe_imp (X := X.suite a ((a, oe) :: pn)) (pe_callB (X := X.suite a ((a, oe) :: pn)) call_isi hg hm (by decide +kernel) (aw_cons (X := X.suite a ((a, oe) :: pn)) h (aw_cons (X := X.suite a ((a, oe) :: pn)) hc aw_nil he2) he) (by decide) (by decide) he hpl) fun σ H Q ⟨H0, ps, hs, Γ, P, se, ht, k⟩ => ?_
    refine ⟨H0, ps, hs, Γ, _, se, ht, fun ds vs H2 p e r => ?_⟩
    exfalso
    unfold fIsX at p
    split at p
    · exact q p.2.2.1
    · exact p
/-! ### constructors -/
structure ArgsG (K : Frag) (B G H : Hp) (vs : List V) (as : List Slot) : Prop where
  len : vs.length = as.length
  ok : ∀ (i : Nat) (s : Slot), as[i]? = some s → ∃ v, vs[i]? = some v ∧ SlotOk K B G H v s ∧ s.ad = none
theorem ArgsG.nil {K : Frag} {B G H : Hp} : ArgsG K B G H [] [] := ⟨rfl, fun i s e => by simp at e⟩
theorem ArgsG.cons {K : Frag} {B G H : Hp} {v : V} {s : Slot} {vs : List V} {as : List Slot} (h : SlotOk K B G H v s) (n : s.ad = none) (r : ArgsG K B G H vs as) : ArgsG K B G H (v :: vs) (s :: as) :=
  ⟨by simp [r.len], fun i s' e => by
    cases i with
    | zero => simp at e; subst e; exact ⟨v, rfl, h, n⟩
    | succ i => simpa using r.ok i s' (by simpa using e)⟩
theorem ArgsG.append {K : Frag} {B G H : Hp} {vs ws : List V} {as bs : List Slot} (a : ArgsG K B G H vs as) (b : ArgsG K B G H ws bs) : ArgsG K B G H (vs ++ ws) (as ++ bs) := by
  refine ⟨by simp [a.len, b.len], fun i s e => ?_⟩
  by_cases h : i < as.length
  · rw [List.getElem?_append_left h] at e
    rw [List.getElem?_append_left (by rw [a.len]; exact h)]
    exact a.ok i s e
  · rw [List.getElem?_append_right (by omega)] at e
    rw [List.getElem?_append_right (by rw [a.len]; omega), a.len]
    exact b.ok _ s e
theorem ArgsG.mono {K : Frag} {B G H B' G' H' : Hp} {vs : List V} {as : List Slot} (a : ArgsG K B G H vs as) (e1 : Ex B B') (e2 : Ex G G') (e3 : Ex H H') : ArgsG K B' G' H' vs as :=
  ⟨a.len, fun i s q => let ⟨v, h1, h2, h3⟩ := a.ok i s q; ⟨v, h1, h2.mono e1 e2 e3, h3⟩⟩
structure SIS where
  S : List Slot → (List (Str × D) → Prop) → EF → Prop
  mon : ∀ as (R R' : List (Str × D) → Prop) (F F' : EF), (∀ r, R r → R' r) → (∀ C fs, F C fs → F' C fs) → S as R F → S as R' F'
def spcIS {α : Type} (args : α → List Slot) (pre : α → Prop) (post : α → List (Str × D) → Prop) (exc : α → EF) : SIS :=
  ⟨fun as R F => ∃ x, as = args x ∧ pre x ∧ (∀ r, post x r → R r) ∧ ∀ C fs, exc x C fs → F C fs, fun as R R' F F' h1 h2 ⟨x, a, b, c, d⟩ => ⟨x, a, b, fun r q => h1 r (c r q), fun C fs q => h2 C fs (d C fs q)⟩⟩
def spIS (K : Frag) (C : Addr) (S : SIS) : Sp := fun vs H Q E => ∃ hs l dx us as, vs = .ref l :: us ∧ ArgsG K (hid hs H) (hid [l] H) H us as ∧ Bs hs H ∧ l ∈ hs ∧ H l = some (.ins C dx []) ∧
  S.S as (fun fs => ∀ H', (∀ a o, a ≠ l → H a = some o → H' a = some o) → (∃ dx' fvs, H' l = some (.ins C dx' fvs) ∧ fvs.map (·.1) = fs.map (·.1) ∧ Reps K (hid hs H') (fvs.map (·.2)) (fs.map (·.2))) → Q .non H')
    fun C' fs => ∀ d H', (∀ a o, a ≠ l → H a = some o → H' a = some o) → ExD K hs H' d fs → E (.ref C') d H'
theorem se_firstS {K : Frag} {hs : List Addr} {H : Hp} {l : Addr} {us : List V} {as : List Slot} {s0 : Slot} {n : Nat} (a : ArgsG K (hid hs H) (hid [l] H) H us as) (bb : Bs hs H) (hl : l ∈ hs) (h0 : s0.ad = some l) (hp : s0.par = true)
    (ok : SlotOk K (hid hs H) (hid [l] H) H (.ref l) s0) : SE K H [l] hs (some s0 :: env0 as n) (some (.ref l) :: (us.map some ++ List.replicate (n - us.length) none)) H := by
  have hn : adr (env0 as n) = [] := adr_none (fun s m => by
    obtain ⟨i, hi⟩ := List.mem_iff_getElem?.mp m
    exact (a.ok i s hi).choose_spec.2.2) _
  have hadr : adr (some s0 :: env0 as n) = [l] := by
    rw [adr_cons, hn]
    show (match s0.ad with
      | some a => [a]
      | none => []) = [l]
    rw [h0]
  have hB : hid (hs ++ [l]) H = hid hs H := by
    funext b
    by_cases hb : b ∈ hs
    · rw [hid_in hb, hid_in (List.mem_append_left _ hb)]
    · rw [hid_ni hb, hid_ni (fun m => (List.mem_append.mp m).elim hb fun z => hb (by rw [List.mem_singleton.mp z]; exact hl))]
  refine ⟨by simp [env0, a.len], fun i s e => ?_, by rw [hadr]; simp, fun b o _ q => q, fun i s b e z => ?_, fun b m => (by rw [List.mem_singleton.mp m]; exact hl), bb⟩
  · rw [hadr, hB]
    cases i with
    | zero =>
      simp at e
      subst e
      exact ⟨_, rfl, ok⟩
    | succ i =>
      have e' : (env0 as n)[i]? = some (some s) := by simpa using e
      have hi : i < as.length := by
        by_cases z : i < as.length
        · exact z
        · exfalso
          unfold env0 at e'
          rw [List.getElem?_append_right (by simp; omega)] at e'
          have q := (List.mem_replicate.mp (List.mem_iff_getElem?.mpr ⟨_, e'⟩)).2
          cases q
      have e2 : as[i]? = some s := by
        unfold env0 at e'
        rw [List.getElem?_append_left (by simpa using hi), List.getElem?_map] at e'
        cases z : as[i]? with
        | none => rw [z] at e'; cases e'
        | some s' => rw [z] at e'; simp at e'; rw [e']
      obtain ⟨v, h1, h2, _⟩ := a.ok i s e2
      refine ⟨v, ?_, h2⟩
      have hi2 : i < us.length := by rw [a.len]; exact hi
      simp only [List.getElem?_cons_succ]
      rw [List.getElem?_append_left (by simpa using hi2), List.getElem?_map, h1]
      rfl
  · cases i with
    | zero =>
      simp at e
      subst e
      have q : some l = some b := h0.symm.trans z
      cases q
      exact ⟨fun _ => List.mem_singleton.mpr rfl, fun q => (by rw [hp] at q; cases q)⟩
    | succ i =>
      have m : b ∈ adr (env0 as n) := mem_adr.mpr ⟨i, s, by simpa using e, z⟩
      rw [hn] at m
      cases m
section
variable {P : Program} {w : World} {K : Frag} {mg : Str → Option Value} {base : Heap}
theorem fn_initS {x qual : Str} {params : Arguments} {body : List Stmt} {scope : Scope} {dvs : List V} {kws : List (Str × V)} {f : Addr} {fd : FuncData} {N ps : List Str} {k : Nat} {α : Type} {args : α → List Slot} {pre : α → Prop} {post : α → List (Str × D) → Prop} {exc : α → EF} {n0 : Str} {C : Addr}
    (F : FunD K x qual params body scope dvs kws f fd) (Sc : FnScope (n0 :: N) (n0 :: ps) scope) (G : Addr → α → Env)
    (hb : ∀ (cdv : Value) (A : Around) (outer : List PySem.Env) (s : Shared) (H : Hp) (E : XK), Room k (A.deeper (PyProof.Rows.envOfC qual scope s.heap.objs.size f cdv)) →
      ∃ t, PSs (cxOf (L2.CX P w) P w K mg base (n0 :: N) qual scope f cdv A outer s H E) body (Ls K (fun cls d _ H => E cls d H) t) ∧ ∀ l x (R : List (Str × D) → Prop) (F : EF), pre x → (∀ r, post x r → R r) → (∀ C fs, exc x C fs → F C fs) → t { nx := fun Γ => ∃ fs, Γ[0]? = some (some (.mi l C fs)) ∧ R fs, rt := fun _ _ => False, ex := fun C fs _ => F C fs } (G l x))
    (hG : ∀ l x, some (.mi l C []) :: env0 (args x) N.length = G l x := by intro _ _; rfl) (hlen : ∀ x, (args x).length = ps.length := by intro _; rfl) : FnOk P w K mg base (L2.CX P w) (k + 1) f fd (n0 :: ps) (spIS K C (spcIS args pre post exc)) := by
  refine F.ok Sc (fun vs H Q E h => ?_) fun cdv A outer s H vs Q E hr h => ?_
  · obtain ⟨hs, l, dx, us, as, rfl, a, _, _, _, x, rfl, _⟩ := h
    simp [a.len, hlen x]
  · obtain ⟨hs, l, dx, us, as, rfl, a, bb, hl, hw, x, rfl, hp, hR, hX⟩ := h
    obtain ⟨t, h1, h2⟩ := hb cdv A outer s H E hr
    have hst : L2.start (n0 :: N) (.ref l :: us) = some (.ref l) :: (us.map some ++ List.replicate (N.length - us.length) none) := by
      unfold L2.start
      simp
    have se : SE K H [l] hs (G l x) (L2.start (n0 :: N) (.ref l :: us)) H := by
      rw [← hG, hst]
      exact se_firstS a bb hl rfl rfl ⟨rfl, dx, [], hw, rfl, .nil⟩
    refine ⟨Ls K _ t, h1, H, [l], hs, _, _, se, h2 l x _ _ hp hR hX, ⟨fun Γ' σ' H' ⟨fs, hz, q⟩ se' _ => ?_, fun r Γ' σ' v H' q => q.elim, fun _ _ _ q => q.elim, fun _ _ _ q => q.elim, fun C' fs Γ' σ' H' d q se' _ xd => q d H' (fun a o h q => se'.fr a o (fun m => h (List.mem_singleton.mp m)) q) xd.out⟩⟩
    obtain ⟨v, _, _, dx', ws, g2, g3, g4⟩ := se'.ok 0 _ hz
    exact q H' (fun a o h q => se'.fr a o (fun m => h (List.mem_singleton.mp m)) q) ⟨dx', ws, g2, g3, g4.mono (hid_sub fun a m => List.mem_append_left _ m)⟩
/-- how written arguments come to the parameters, as slots -/
def ArgRel (K : Frag) (n m : Nat) (gV : List V → List V → List V) (gS : List Slot → List Slot → List Slot) : Prop := ∀ (B G H : Hp) (v0 : V) (vs zs : List V) (as bs : List Slot), vs.length = n → zs.length = m → ArgsG K B G H vs as → ArgsG K B G H zs bs → ∃ us, gV (v0 :: vs) zs = v0 :: us ∧ ArgsG K B G H us (gS as bs)
/-- a class called with n arguments and the keywords ks -/
structure DcS (P : Program) (w : World) (K : Frag) (mg : Str → Option Value) (base : Heap) (x : Str) (C : Addr) (k : Nat) (S : SIS) (n : Nat) (ks : List Str) (gS : List Slot → List Slot → List Slot) : Prop where
  ex : ∃ (f : Addr) (fd : FuncData) (ps : List Str) (g : List Value → List Value → List Value) (gV : List V → List V → List V), FnOk P w K mg base (L2.CX P w) k f fd ps (spIS K C S) ∧ Mk K C f ∧ mg x = some (.ref C) ∧ KBn K fd ps (n + 1) ks g gV ∧ ArgRel K n ks.length gV gS
end
section
variable {X : Cx} {W : WX} {CX : CXT} {k n : Nat} {f C : Addr} {fd : FuncData} {ps ks : List Str} {sp : Sp} {g : List Value → List Value → List Value} {gV : List V → List V → List V}
def tMakeS (C : Addr) (n m : Nat) (sp : Sp) (gV : List V → List V → List V) (E : St → XK) (t tk : TA) : TE := fun σ H Q => t σ H fun vs H1 => tk σ H1 fun zs H2 => vs.length = n ∧ zs.length = m ∧
  ∀ x dx, H2 x = none → H2 dx = none → dx ≠ x → sp (gV (.ref x :: vs) zs) (upd (upd H2 dx (.own x)) x (.ins C dx [])) (fun v H3 => v = .non ∧ Q (.ref x) H3) (E σ)
theorem run_makeS {E : St → XK} {pins : List (Addr × Obj)} {σ : St} {H : Hp} {s : Shared} {Q : VK} {us ws : List Value} {vs zs : List V} (mk : Mk X.K C f) (fo : FnOk X.prog X.w X.K X.mg X.base CX k f fd ps sp) (room : Room (k + 1) X.A) (hb : KBn X.K fd ps (n + 1) ks g gV)
    (pas : PassesAt CX X σ (E σ)) (I : Inv X pins σ H s) (r : Vals vs us) (rz : Vals zs ws) (l1 : vs.length = n) (l2 : zs.length = ks.length)
    (h : ∀ x dx, H x = none → H dx = none → dx ≠ x → sp (gV (.ref x :: vs) zs) (upd (upd H dx (.own x)) x (.ins C dx [])) (fun v H2 => v = .non ∧ Q (.ref x) H2) (E σ)) :
    wpAny (model X.prog X.w) X.A (call (.ref C) us (ks.zip ws)) (EP X pins σ Q) X.xe s := by
  have q0 := h (s.heap.objs.size + 1) s.heap.objs.size (I.hok.fresh (Nat.le_succ _)) (I.hok.fresh (Nat.le_refl _)) (Nat.ne_of_lt (Nat.lt_succ_self _))
  have J := Inv.made (C := C) I
  have ra : Vals (V.ref (s.heap.objs.size + 1) :: vs) (Value.ref (s.heap.objs.size + 1) :: us) := .cons rfl r
  have len1 : (Value.ref (s.heap.objs.size + 1) :: us).length = n + 1 := (ra.length.symm).trans (congrArg Nat.succ l1)
  have len2 : ws.length = ks.length := (rz.length.symm).trans l2
  have go := fo.run _ X.stack _ _ ⟨Value.ref (s.heap.objs.size + 1) :: us, ks.zip ws⟩ (g (Value.ref (s.heap.objs.size + 1) :: us) ws) _ _ (E σ) (room.make C us (ks.zip ws)) (J.env0.make C us (ks.zip ws)) (hb.to _ (Value.ref (s.heap.objs.size + 1) :: us) ws J.kIn len1 len2) (hb.rel ra rz) q0
  refine wpAny_call (make_map (f := f) I.kIn mk.makes mk.init (beq_iff_eq.mp mk.fn) (codeAny_mono go fun res s' ans => ?_))
  match res, ans with
  | .error e, ans => exact pas pins _ _ e s' J ans
  | .ok (.ret u), ans =>
    obtain ⟨v, H', I3, rv, ev, q3⟩ := J.after ans
    cases ev
    exact ⟨rv, ⟨V.ref (s.heap.objs.size + 1), H', I3, rfl, q3⟩⟩
  | .ok .next, ans => exact False.elim ans
  | .ok .brk, ans => exact False.elim ans
  | .ok .cont, ans => exact False.elim ans
theorem pe_makeS {x : Str} {p pos : Pos} {e : Expr} {es : List Expr} {kws : List Keyword} {t tk : TA} {E : St → XK} (mk : Mk X.K C f) (fo : FnOk X.prog X.w X.K X.mg X.base CX k f fd ps sp) (room : Room (k + 1) X.A) (hg : Gl X x) (hm : X.mg x = some (.ref C)) (hb : KBn X.K fd ps (n + 1) ks g gV) (pas : ∀ σ, PassesAt CX X σ (E σ))
    (ha : PA X (e :: es) t) (hkw : PK X kws tk) (hall : (backToKw pos (keywordEach kws X.env)).all (·.1.isSome) = true) (hks : (backToKw pos (keywordEach kws X.env)).filterMap (·.1) = ks)
    (hdb : (x == ("__debug__" : Str)) = false) (he : starEach (e :: es) X.env = (false, eval e X.env) :: starEach es X.env)
    (hpl : ((backTo pos (starEach (e :: es) X.env)).any (·.1) || (backToKw pos (keywordEach kws X.env)).any (·.1.isNone)) = false) :
    PE X (.Call (.Name x p) (e :: es) kws pos) (tMakeS C n ks.length sp gV E t tk) := ⟨fun pins s σ H Q I h =>
  wpAny_Call_Name_kw (ld_glob I hg hm (PySem.W.callWith_KW (h₀ := X.base) I.ok.mod.kin mk.kp hall (thn (ha.run pos pins s σ H _ I h) fun us s1 ⟨vs, H1, I1, r, q⟩ =>
    thn (hkw.run pos pins s1 σ H1 _ I1 q) fun ws s2 ⟨zs, H2, I2, rz, l1, l2, q2⟩ => ⟨I2.kIn, by rw [hks]; exact run_makeS mk fo room hb (pas σ) I2 r rz l1 l2 q2⟩) hpl he) hdb)⟩
theorem pk_imp {kws : List Keyword} {t t' : TA} (h : PK X kws t) (hi : ∀ σ H Q, t' σ H Q → t σ H Q) : PK X kws t' := ⟨fun p pins s σ H Q I q => h.run p pins s σ H Q I (hi σ H Q q)⟩
theorem kx_nil : PK X [] (LaX X.K axNil) := pk_imp pk_nil fun σ H Q ⟨H0, ps, hs, Γ, P, se, ht, k⟩ => k [] [] H ht (Same.refl H) .nil
theorem kx_i {e : Expr} {nm : Option Str} {kpos : Pos} {kws : List Keyword} {t : XT} {u : AT} (he : PE X e (Li X.K t)) (hs : PK X kws (LaX X.K u)) : PK X (⟨nm, e, kpos⟩ :: kws) (LaX X.K (axI t u)) :=
  pk_imp (pk_cons he hs) fun σ H Q ⟨H0, ps, hs, Γ, P, se, ht, k⟩ => ⟨H0, ps, hs, Γ, _, se, ht, fun d v H2 p e r => ⟨H0, ps, hs, Γ, _, se.mono e, p, fun as vs H3 q e3 r3 => k _ _ H3 q (e.trans e3) (.cons (s := .im d) (r.mono (hid_ex2 e3)) rfl r3)⟩⟩
theorem kx_b {e : Expr} {nm : Option Str} {kpos : Pos} {kws : List Keyword} {t : XT} {u : AT} (he : PE X e (Lb X.K t)) (hs : PK X kws (LaX X.K u)) : PK X (⟨nm, e, kpos⟩ :: kws) (LaX X.K (axB t u)) :=
  pk_imp (pk_cons he hs) fun σ H Q ⟨H0, ps, hs, Γ, P, se, ht, k⟩ => ⟨H0, ps, hs, Γ, _, se, ht, fun d v H2 p e r => ⟨H0, ps, hs, Γ, _, se.mono e, p, fun as vs H3 q e3 r3 => k _ _ H3 q (e.trans e3) (.cons (s := .bo d) (r.mono (hid_ex2 e3) e3) rfl r3)⟩⟩
def zMkS (C : Addr) (S : SIS) (n m : Nat) (gS : List Slot → List Slot → List Slot) (t tk : AT) : ZT := fun Γ P F => t Γ fun as => tk Γ fun bs => as.length = n ∧ bs.length = m ∧ S.S (gS as bs) (fun fs => P (.obj C fs) Γ) fun C' fs => F C' fs Γ
theorem zmakeS_li {S : SIS} {m : Nat} {gS : List Slot → List Slot → List Slot} {t tk : AT} (ar : ArgRel X.K n m gV gS) (σ : St) (H : Hp) (Q : VK) (h : Lz X.K W (zMkS C S n m gS t tk) σ H Q) : tMakeS C n m (spIS X.K C S) gV (WE W) (LaX X.K t) (LaX X.K tk) σ H Q := by
  obtain ⟨H0, ps, hs, Γ, P, F, se, ht, k, xw⟩ := h
  refine ⟨H0, ps, hs, Γ, _, se, ht, fun as vs H1 p e1 r1 => ?_⟩
  refine ⟨H0, ps, hs, Γ, _, se.mono e1, p, fun bs zs H2 p2 e2 r2 => ?_⟩
  obtain ⟨la, lb, p⟩ := p2
  refine ⟨r1.len.trans la, r2.len.trans lb, fun x dx nx nd ne => ?_⟩
  have se2 := (se.mono e1).mono e2
  have eN : Ex H2 (upd (upd H2 dx (.own x)) x (.ins C dx [])) := fun a o q => by
    rw [upd_ne (ne_of_none q nx), upd_ne (ne_of_none q nd)]; exact q
  have nms : x ∉ hs ++ adr Γ := se2.bs.new nx
  have eH : Ex (hid (hs ++ adr Γ) H2) (hid (x :: (hs ++ adr Γ)) (upd (upd H2 dx (.own x)) x (.ins C dx []))) := hid_fresh nx eN
  have eG : Ex H2 (hid [x] (upd (upd H2 dx (.own x)) x (.ins C dx []))) := fun a o q => (hid_fresh (ms := []) nx eN) a o (by rw [hid_ni (by simp)]; exact q)
  have g1 : ArgsG X.K (hid (x :: (hs ++ adr Γ)) (upd (upd H2 dx (.own x)) x (.ins C dx []))) (hid [x] (upd (upd H2 dx (.own x)) x (.ins C dx []))) (upd (upd H2 dx (.own x)) x (.ins C dx [])) vs as :=
    (ArgsG.mk (K := X.K) (B := hid (hs ++ adr Γ) H1) (G := H1) (H := H1) r1.len r1.ok).mono ((hid_ex2 e2).trans eH) (e2.trans eG) (e2.trans eN)
  have g2 : ArgsG X.K (hid (x :: (hs ++ adr Γ)) (upd (upd H2 dx (.own x)) x (.ins C dx []))) (hid [x] (upd (upd H2 dx (.own x)) x (.ins C dx []))) (upd (upd H2 dx (.own x)) x (.ins C dx [])) zs bs :=
    (ArgsG.mk (K := X.K) (B := hid (hs ++ adr Γ) H2) (G := H2) (H := H2) r2.len r2.ok).mono eH eG eN
  obtain ⟨us, hu, g3⟩ := ar _ _ _ (.ref x) vs zs as bs (r1.len.trans la) (r2.len.trans lb) g1 g2
  refine ⟨x :: (hs ++ adr Γ), x, dx, us, gS as bs, hu, g3, fun a m => ?_, List.mem_cons_self, upd_same, S.mon _ _ _ _ _ (fun fs hf H' fr ⟨dx', fvs, g1, g2, g3⟩ => ⟨rfl, ?_⟩) (fun C' fs hf d H' fr xd => ?_) p⟩
  · rcases List.mem_cons.mp m with rfl | m
    · rw [upd_same]; intro z; cases z
    · exact (se2.bs.mono eN) a m
  · have e3 : Ex H2 H' := fun a o q => fr a o (ne_of_none q nx) (eN a o q)
    have e4 := (e1.trans e2).trans e3
    exact k _ Γ _ H' hf (se.mono e4) (Km.ex e4) (.obj (by rw [hid_ni nms]; exact g1) g2 (g3.mono (hid_sub fun a m => List.mem_cons_of_mem _ m)))
  · have e3 : Ex H2 H' := fun a o q => fr a o (ne_of_none q nx) (eN a o q)
    have e4 := (e1.trans e2).trans e3
    exact xw C' fs Γ H' d hf (se.mono e4) (Km.ex e4) (xd.sub fun a m => List.mem_cons_of_mem _ m)
theorem z_makeS {x : Str} {S : SIS} {gS : List Slot → List Slot → List Slot} {e : Expr} {es : List Expr} {kws : List Keyword} {p pos : Pos} {t tk : AT} (tks : Takes X W) (F : DcS X.prog X.w X.K X.mg X.base x C k S n ks gS) (hr : Room (k + 1) X.A) (ha : PA X (e :: es) (LaX X.K t)) (hkw : PK X kws (LaX X.K tk)) (hg : Gl X x := by rfl)
    (hall : (backToKw pos (keywordEach kws X.env)).all (·.1.isSome) = true := by rfl) (hks : (backToKw pos (keywordEach kws X.env)).filterMap (·.1) = ks := by rfl) (hdb : (x == ("__debug__" : Str)) = false := by decide)
    (he : starEach (e :: es) X.env = (false, eval e X.env) :: starEach es X.env := by rfl) (hpl : ((backTo pos (starEach (e :: es) X.env)).any (·.1) || (backToKw pos (keywordEach kws X.env)).any (·.1.isNone)) = false := by rfl) : PE X (.Call (.Name x p) (e :: es) kws pos) (Lz X.K W (zMkS C S n ks.length gS t tk)) := by
  obtain ⟨f, fd, ps, g, gV, h1, h2, h3, h4, h5⟩ := F.ex
  exact pe_imp (pe_makeS h2 h1 hr hg h3 h4 (fun σ => passAt tks σ) ha hkw hall hks hdb he hpl) (zmakeS_li h5)
end
end Kb
set_option Elab.async false
set_option linter.all false
set_option maxRecDepth 100000
set_option maxHeartbeats 1000000
/-! Kb19: comprehensions whose elements change lists; fields of what may raise. -/
namespace Kb
open PySem L2
set_option autoImplicit false
/-! ### what is walked, its maker may change lists -/
def LIZ (K : Frag) (t : MT) : TI := fun σ H R => ∃ (H0 : Hp) (ps hs : List Addr) (Γ : Env) (P : List D → Env → Prop), SE K H0 ps hs Γ σ H ∧ t Γ P ∧ ∀ ds Γ2 J H2, P ds Γ2 → SE K H0 ps hs Γ2 σ H2 → Km hs Γ H Γ2 H2 → Walks K (fun H' => Ex (hid (hs ++ adr Γ) H2) H') (hid (hs ++ adr Γ) H2) J ds → R J H2
def iP (t : FT) : MT := fun Γ P => t Γ fun ds => P ds Γ
section
variable {X : Cx} {tg e : Expr}
theorem iz {t : FT} (h : PI X tg e (LI X.K t)) : PI X tg e (LIZ X.K (iP t)) := pi_imp h fun σ H R ⟨H0, ps, hs, Γ, P, se, ht, k⟩ => ⟨H0, ps, hs, Γ, _, se, ht, fun ds J H2 p e w => k ds Γ J H2 p (se.mono e) (Km.ex e) w⟩
theorem iz_m {t : MT} (h : PI X tg e (LIM X.K t)) : PI X tg e (LIZ X.K t) := pi_imp h fun σ H R ⟨H0, ps, hs, Γ, P, se, ht, k⟩ => ⟨H0, ps, hs, Γ, _, se, ht, fun ds Γ2 J H2 p se2 k2 w => k ds Γ2 J H2 p se2 k2 (w.imp fun _ _ => trivial)⟩
end
/-! ### new lists -/
def LmF (K : Frag) (t : MT) : TE := fun σ H Q => ∃ (H0 : Hp) (ps hs : List Addr) (Γ : Env) (P : List D → Env → Prop), SE K H0 ps hs Γ σ H ∧ t Γ P ∧ ∀ ds Γ2 p vs H2, P ds Γ2 → H p = none → SE K H0 ps (p :: hs) Γ2 σ H2 → Km hs Γ H Γ2 H2 → H2 p = some (.lst vs) → Reps K (hid (p :: (hs ++ adr Γ)) H2) vs ds → Q (.ref p) H2
theorem SE.unhide {K : Frag} {H0 : Hp} {ps hs : List Addr} {Γ : Env} {σ : St} {H : Hp} {p : Addr} (h : SE K H0 ps (p :: hs) Γ σ H) (hp : ∀ l ∈ ps, l ∈ hs) : SE K H0 ps hs Γ σ H :=
  ⟨h.len, fun i s q => let ⟨v, a, b⟩ := h.ok i s q; ⟨v, a, b.mono (hid_sub fun a m => List.mem_cons_of_mem _ m) (Same.refl _) (Same.refl _)⟩, h.nd, h.fr, h.own, hp, fun l m => h.hx l (List.mem_cons_of_mem _ m)⟩
def mF (t : MT) : IT := fun Γ P => t Γ fun ds Γ2 => P (.lst ds) Γ2
section
variable {X : Cx} {W : WX}
theorem mx_f {e : Expr} {t : MT} (h : PE X e (LmF X.K t)) : PE X e (Lm X.K (mF t)) := pe_imp h fun σ H Q ⟨H0, ps, hs, Γ, P, se, ht, k⟩ => ⟨H0, ps, hs, Γ, _, se, ht, fun ds Γ2 p vs H2 q n se2 k2 h2 r => k _ Γ2 _ H2 q (se2.unhide se.psub) k2 (by
  have np : p ∉ hs ++ adr Γ := se.bs.new n
  exact .lst (by rw [hid_ni np]; exact h2) (r.mono (hid_sub fun a m => List.mem_cons_of_mem _ m)))⟩
def sRetMF (t : MT) : ST := fun E Γ => t Γ fun ds Γ2 => E.rt (.fl ds) Γ2
theorem s_retMF {e : Expr} {pos : Pos} {t : MT} (h : PE X e (LmF X.K t)) : PS X (.Return (some e) pos) (Ls X.K W (sRetMF t)) := ps_imp (ps_ret h) fun D σ H ⟨H0, ps, hs, Γ, E, se, ht, r⟩ =>
  ⟨H0, ps, hs, Γ, _, se, ht, fun ds Γ2 p vs H2 q n se2 k2 h2 rr => r.rt (.fl ds) Γ2 σ _ H2 q (se2.unhide se.psub) ⟨p, vs, rfl, se.h0 n, h2, rr.mono (hid_sub fun a m => (List.mem_cons.mp m).elim (fun z => by rw [z]; exact List.mem_cons_self) fun z => List.mem_cons_of_mem _ (List.mem_append_left _ z))⟩⟩
end
/-! ### the comprehension -/
def backE (Γ Γw : Env) : List Nat → Env
  | [] => Γw
  | v :: vs => (backE Γ Γw vs).set v (Γ[v]?.join)
/-- slots that hold data, or nothing -/
def freeI (Γ : Env) (vs : List Nat) : Bool := vs.all fun v => match Γ[v]? with
  | some (some (.im _)) => true
  | some none => true
  | _ => false
/-- nothing borrowed -/
def nobo (Γ : Env) : Bool := Γ.all fun o => match o with
  | some (.bo _) => false
  | _ => true
def okW (vs : List Nat) (Γ : Env) : Bool := nobo Γ && freeI Γ vs
def LcZ (Γ : Env) (g : GT) (tt : BT) (te : IT) (vs : List Nat) (ds : List D) (P : List D → Env → Prop) : Prop := ds.length ≤ sizeLine ∧ okW vs Γ = true ∧
  ∃ I : Nat → List D → Env → Prop, I 0 [] (wipeE Γ vs) ∧ (∀ (i : Nat) (d : D) (acc : List D) (Γw : Env), ds[i]? = some d → acc.length ≤ i → I i acc Γw → g d Γw fun Γ2 => tt Γ2 fun b => (b = true → te Γ2 fun z Γ3 => okW vs Γ3 = true ∧ I (i + 1) (acc ++ [z]) (wipeE Γ3 vs)) ∧ (b = false → okW vs Γ2 = true ∧ I (i + 1) acc (wipeE Γ2 vs))) ∧
    ∀ acc Γw, I ds.length acc Γw → P acc (backE Γ Γw vs)
def mLc (ti : MT) (g : GT) (tt : BT) (te : IT) (vs : List Nat) : MT := fun Γ P => ti Γ fun ds Γ1 => LcZ Γ1 g tt te vs ds P
theorem adr_set_free {Γ : Env} : ∀ {i : Nat} {o : Option Slot}, free Γ i = true → o.bind Slot.ad = none → adr (Γ.set i o) = adr Γ := by
  induction Γ with
  | nil => intro i o _ _; rfl
  | cons p Γ ih =>
    intro i o h ho
    cases i with
    | zero =>
      rw [List.set_cons_zero, adr_cons, adr_cons, ho]
      cases p with
      | none => rfl
      | some s =>
        have z : s.ad.isNone = true := h
        show adr Γ = (match s.ad with
          | some a => a :: adr Γ
          | none => adr Γ)
        cases e : s.ad with
        | none => rfl
        | some a => rw [e] at z; cases z
    | succ i => rw [List.set_cons_succ, adr_cons, adr_cons, ih (by simpa [free] using h) ho]
theorem freeI_free {Γ : Env} {vs : List Nat} (h : freeI Γ vs = true) {v : Nat} (hv : v ∈ vs) : free Γ v = true := by
  have z := List.all_eq_true.mp h v hv
  unfold free
  split at z <;> simp_all [Slot.ad]
theorem free_set {Γ : Env} {i v : Nat} {o : Option Slot} (h : free Γ v = true) (ho : o.bind Slot.ad = none) : free (Γ.set i o) v = true := by
  unfold free at h ⊢
  by_cases e : i = v
  · subst e
    by_cases hl : i < Γ.length
    · rw [List.getElem?_set_self hl]
      cases o with
      | none => rfl
      | some s =>
        have : s.ad = none := ho
        simp [this]
    · rw [List.getElem?_eq_none (by rw [List.length_set]; omega)]
  · rw [List.getElem?_set_ne e]
    exact h
theorem wipe_free {Γ : Env} : ∀ {vs : List Nat}, (∀ v ∈ vs, free Γ v = true) → adr (wipeE Γ vs) = adr Γ ∧ ∀ v, free Γ v = true → free (wipeE Γ vs) v = true
  | [], _ => ⟨rfl, fun _ h => h⟩
  | v :: vs, h => by
    obtain ⟨a, b⟩ := wipe_free (Γ := Γ) (vs := vs) fun u hu => h u (List.mem_cons_of_mem _ hu)
    have fv : free (wipeE Γ vs) v = true := b v (h v List.mem_cons_self)
    exact ⟨(adr_set_free fv rfl).trans a, fun u hu => free_set (b u hu) rfl⟩
theorem wipeE_len (Γ : Env) : ∀ vs : List Nat, (wipeE Γ vs).length = Γ.length
  | [] => rfl
  | v :: vs => by rw [wipeE, List.length_set, wipeE_len Γ vs]
theorem backE_len (Γ Γw : Env) : ∀ vs : List Nat, (backE Γ Γw vs).length = Γw.length
  | [] => rfl
  | v :: vs => by rw [backE, List.length_set, backE_len Γ Γw vs]
theorem wipeE_get (Γ : Env) : ∀ (vs : List Nat) (j : Nat), j ∈ vs → j < Γ.length → (wipeE Γ vs)[j]? = some none
  | v :: vs, j, h, hl => by
    unfold wipeE
    by_cases e : v = j
    · subst e
      rw [List.getElem?_set_self (by rw [wipeE_len]; exact hl)]
    · rw [List.getElem?_set_ne e]
      exact wipeE_get Γ vs j ((List.mem_cons.mp h).resolve_left fun z => e z.symm) hl
theorem backE_get (Γ Γw : Env) : ∀ (vs : List Nat) (j : Nat), (backE Γ Γw vs)[j]? = if j ∈ vs ∧ j < Γw.length then some (Γ[j]?.join) else Γw[j]?
  | [], j => by simp [backE]
  | v :: vs, j => by
    unfold backE
    by_cases e : v = j
    · subst e
      by_cases hl : v < Γw.length
      · rw [List.getElem?_set_self (by rw [backE_len]; exact hl), if_pos ⟨List.mem_cons_self, hl⟩]
      · rw [List.getElem?_eq_none (by rw [List.length_set, backE_len]; omega), if_neg (fun z => hl z.2), List.getElem?_eq_none (by omega)]
    · rw [List.getElem?_set_ne e, backE_get Γ Γw vs j]
      have : j ∈ v :: vs ↔ j ∈ vs := by simp [Ne.symm e]
      simp only [this]
theorem back_free {Γ Γw : Env} : ∀ {vs : List Nat}, freeI Γ vs = true → (∀ v ∈ vs, free Γw v = true) → adr (backE Γ Γw vs) = adr Γw ∧ ∀ v, free Γw v = true → free (backE Γ Γw vs) v = true
  | [], _, _ => ⟨rfl, fun _ h => h⟩
  | v :: vs, h, hw => by
    have h1 : freeI Γ vs = true := by
      unfold freeI at h ⊢
      rw [List.all_cons, Bool.and_eq_true] at h
      exact h.2
    obtain ⟨a, b⟩ := back_free (Γ := Γ) (Γw := Γw) (vs := vs) h1 fun u hu => hw u (List.mem_cons_of_mem _ hu)
    have fv : free (backE Γ Γw vs) v = true := b v (hw v List.mem_cons_self)
    have ho : (Γ[v]?.join).bind Slot.ad = none := by
      have z := List.all_eq_true.mp h v List.mem_cons_self
      split at z <;> simp_all [Slot.ad]
    exact ⟨(adr_set_free fv ho).trans a, fun u hu => free_set (b u hu) ho⟩
/-- back to the slots ahead of the comprehension -/
theorem SE.back {K : Frag} {H0 : Hp} {ps hs hs' : List Addr} {Γ Γw : Env} {σ : St} {H H' : Hp} {vs : List Nat} (se : SE K H0 ps hs Γ σ H) (fr : freeI Γ vs = true) (hw : ∀ v ∈ vs, free Γw v = true) (sw : SE K H0 ps hs' Γw (L2.wipe σ vs) H')
    (hB : Ex (hid (hs ++ adr Γ) H) (hid (hs' ++ adr Γw) H')) (hlen : Γw.length = Γ.length) : SE K H0 ps hs' (backE Γ Γw vs) σ H' := by
  obtain ⟨ha, _⟩ := back_free fr hw
  refine ⟨by rw [backE_len, hlen]; exact se.len, fun i s q => ?_, by rw [ha]; exact sw.nd, sw.fr, fun i s l q hl => ?_, sw.psub, sw.hx⟩
  · rw [ha]
    rw [backE_get] at q
    by_cases hi : i ∈ vs ∧ i < Γw.length
    · rw [if_pos hi] at q
      have z := List.all_eq_true.mp fr i hi.1
      split at z
      · rename_i d e
        rw [e] at q
        cases q
        obtain ⟨v, h1, h2⟩ := se.ok i _ e
        exact ⟨v, h1, Rep.mono hB h2⟩
      · rename_i e
        rw [e] at q
        cases q
      · cases z
    · rw [if_neg hi] at q
      obtain ⟨v, h1, h2⟩ := sw.ok i s q
      rw [wipe_get] at h1
      by_cases hv : i ∈ vs
      · have hl : i < Γw.length := (List.getElem?_eq_some_iff.mp q).1
        exact absurd ⟨hv, hl⟩ hi
      · rw [if_neg hv] at h1
        exact ⟨v, h1, h2⟩
  · rw [backE_get] at q
    by_cases hi : i ∈ vs ∧ i < Γw.length
    · rw [if_pos hi] at q
      have z := List.all_eq_true.mp fr i hi.1
      split at z
      · rename_i d e
        rw [e] at q
        cases q
        cases hl
      · rename_i e
        rw [e] at q
        cases q
      · cases z
    · rw [if_neg hi] at q
      exact sw.own i s l q hl
theorem Km.none {hs : List Addr} {Γ Γ2 : Env} {H H2 : Hp} (k : Km hs Γ H Γ2 H2) (bs2 : Bs (adr Γ) H2) {p : Addr} (n : H2 p = none) : H p = none := by
  cases z : H p with
  | none => rfl
  | some o =>
    by_cases hp : p ∈ adr Γ
    · exact absurd n (bs2 p hp)
    · rw [k.2 p o hp z] at n; cases n
theorem Bs.right {as bs : List Addr} {H : Hp} (b : Bs (as ++ bs) H) : Bs bs H := fun a m => b a (List.mem_append_right _ m)
theorem hid_one {ms : List Addr} {H H2 : Hp} {p : Addr} (n : H p = none) (e : Ex (hid ms H) (hid ms H2)) : Ex (hid ms H) (hid (p :: ms) H2) := fun a o q => by
  have h1 := e a o q
  have ha : a ∉ ms := fun m => by rw [hid_in m] at q; cases q
  rw [hid_ni ha] at q h1
  rw [hid_ni (fun m => (List.mem_cons.mp m).elim (ne_of_none q n) ha)]
  exact h1
theorem nobo_wipe {Γ : Env} (h : nobo Γ = true) (vs : List Nat) {i : Nat} {d : D} : (wipeE Γ vs)[i]? ≠ some (some (.bo d)) := by
  induction vs with
  | nil =>
    intro e
    have z := List.all_eq_true.mp h _ (List.mem_iff_getElem?.mpr ⟨i, e⟩)
    cases z
  | cons v vs ih =>
    intro e
    unfold wipeE at e
    by_cases hv : v = i
    · subst hv
      have hl : v < (wipeE Γ vs).length := by
        have := (List.getElem?_eq_some_iff.mp e).1
        rwa [List.length_set] at this
      rw [List.getElem?_set_self hl] at e
      cases e
    · rw [List.getElem?_set_ne hv] at e
      exact ih e
/-- a hidden object is written; nothing is borrowed -/
theorem SE.updHid {K : Frag} {H0 : Hp} {ps hs : List Addr} {Γ : Env} {σ : St} {H : Hp} (se : SE K H0 ps hs Γ σ H) {l : Addr} {o : HO} (hl : l ∈ hs) (hn : l ∉ adr Γ) (h0 : H0 l = none) (nb : ∀ (i : Nat) (d : D), Γ[i]? ≠ some (some (Slot.bo d))) : SE K H0 ps hs Γ σ (upd H l o) := by
  refine ⟨se.len, fun i s q => ?_, se.nd, fun a u h q => ?_, se.own, se.psub, fun a m q => ?_⟩
  · obtain ⟨v, h1, h2⟩ := se.ok i s q
    refine ⟨v, h1, ?_⟩
    rw [hid_upd (List.mem_append_left _ hl)]
    have nd : ∀ l2, s.ad = some l2 → l2 ≠ l := fun l2 h3 z => hn (by rw [← z]; exact mem_adr.mpr ⟨i, s, q, h3⟩)
    cases s with
    | im d => exact h2
    | bo d => exact absurd q (nb i d)
    | ml l2 ds => obtain ⟨a, vs, b, c⟩ := h2; exact ⟨a, vs, by rw [upd_ne (nd l2 rfl)]; exact b, c⟩
    | pl l2 ds => obtain ⟨a, vs, b, c⟩ := h2; exact ⟨a, vs, by rw [upd_ne (nd l2 rfl)]; exact b, c⟩
    | md l2 es => obtain ⟨a, vs, b, c⟩ := h2; exact ⟨a, vs, by rw [upd_ne (nd l2 rfl)]; exact b, c⟩
    | mt l2 es => obtain ⟨a, vs, b, c⟩ := h2; exact ⟨a, vs, by rw [upd_ne (nd l2 rfl)]; exact b, c⟩
    | mi l2 C fs => obtain ⟨a, dx, vs, b, c⟩ := h2; exact ⟨a, dx, vs, by rw [upd_ne (nd l2 rfl)]; exact b, c⟩
  · rw [upd_ne (fun z => by rw [z, h0] at q; cases q)]
    exact se.fr a u h q
  · by_cases z : a = l
    · subst z; rw [upd_same] at q; cases q
    · rw [upd_ne z] at q; exact se.hx a m q
section
variable {X : Cx}
theorem free_wipe (Γ : Env) (vs : List Nat) : ∀ v ∈ vs, free (wipeE Γ vs) v = true := fun v hv => by
  unfold free
  by_cases hl : v < Γ.length
  · rw [wipeE_get Γ vs v hv hl]
  · rw [List.getElem?_eq_none (by rw [wipeE_len]; omega)]
theorem lcz_li {vs : List Nat} {ti : MT} {g : GT} {tt : BT} {te : IT} {gown : List Nat} (hsub : ∀ j ∈ gown, j ∈ vs) {K : Frag} (σ : St) (H : Hp) (Q : VK) (h : LmF K (mLc ti g tt te vs) σ H Q) : tLc (LIZ K ti) (Lg K gown g) (Lt K tt) (Lm K te) vs σ H Q := by
  obtain ⟨H0, ps, hs, Γ, P, se, hti, k⟩ := h
  refine ⟨H0, ps, hs, Γ, _, se, hti, fun ds Γ1 J H1 hp se1 k1 w => fun Dl nD => ?_⟩
  obtain ⟨hlen, hok, I, i0, turn, done⟩ := hp
  obtain ⟨hnb, hfr⟩ := Bool.and_eq_true_iff.mp hok
  have bs1 := se1.bs
  have nH : H Dl = none := k1.none (by rw [← k1.1]; exact bs1.right) nD
  have hw0 := (wipe_free (Γ := Γ1) (vs := vs) fun v hv => freeI_free hfr hv).1
  have nms : Dl ∉ hs ++ adr Γ1 := bs1.new nD
  refine ⟨fun i m H' => m = ds.length - i ∧ i ≤ ds.length ∧ (∀ a o, a ∉ adr Γ1 → H1 a = some o → H' a = some o) ∧ ∃ acc accD Γw, H' Dl = some (.lst acc) ∧ accD.length ≤ i ∧ Reps K (hid (Dl :: (hs ++ adr Γ1)) H') acc accD ∧ SE K H0 ps (Dl :: hs) Γw (L2.wipe σ vs) H' ∧ adr Γw = adr Γ1 ∧ (∀ v ∈ vs, free Γw v = true) ∧ Γw.length = Γ1.length ∧ I i accD Γw,
    ⟨ds.length, by simp, Nat.zero_le _, fun a o _ q => Ex.new nD a o q, [], [], wipeE Γ1 vs, upd_same, Nat.le_refl _, .nil, (se1.hide nD (Ex.new nD) (by rw [upd_same]; intro z; cases z)).wipe _, hw0, free_wipe Γ1 vs, wipeE_len _ _, i0⟩, ?_⟩
  rintro i m H' ⟨rfl, hil, eH, acc, accD, Γw, hD, hacc, racc, sw, haw, hfw, hlw, hI⟩
  have eB : Ex (hid (hs ++ adr Γ1) H1) (hid (hs ++ adr Γ1) H') := hid_mono fun a o n q => eH a o (fun z => n (List.mem_append_right _ z)) q
  have hS : Ex (hid (hs ++ adr Γ) H1) H' := by rw [← k1.1]; exact eB.trans hid_ex
  by_cases hlt : i < ds.length
  · refine .inr ⟨w.go i H' hS hlt, fun H'' => (∀ a o, a ∉ adr Γ1 → H1 a = some o → H'' a = some o) ∧ ∃ acc accD Γw, H'' Dl = some (.lst acc) ∧ accD.length ≤ i + 1 ∧ Reps K (hid (Dl :: (hs ++ adr Γ1)) H'') acc accD ∧ SE K H0 ps (Dl :: hs) Γw (L2.wipe σ vs) H'' ∧ adr Γw = adr Γ1 ∧ (∀ v ∈ vs, free Γw v = true) ∧ Γw.length = Γ1.length ∧ I (i + 1) accD Γw, ?_, ?_⟩
    · rintro H'' ⟨e2, z⟩
      exact ⟨ds.length - (i + 1), by omega, rfl, hlt, e2, z⟩
    · intro x H'' hy
      obtain ⟨e9, d, hd, rx⟩ := w.yl i H' x H'' hS hlt hy
      replace rx := rx (Dl :: (hs ++ adr Γ1)) (bs_cons (by rw [hD]; intro z; cases z) (fun a m => sw.bs a (by rw [haw]; exact List.mem_cons_of_mem _ m))) (by rw [← k1.1]; exact hid_one nD eB)
      replace eH := fun a o n q => e9 _ _ (eH a o n q)
      replace hD := e9 _ _ hD
      replace racc := racc.mono (hid_ex2 e9)
      replace sw := sw.mono e9
      refine ⟨H0, ps, Dl :: hs, Γw, d, _, sw, ?_, turn i d accD Γw hd hacc hI, fun Γ2 σ2 p2 a2 se2 l2 ag2 => ?_⟩
      · rw [haw]
        exact rx
      · have wq : L2.wipe σ2 vs = L2.wipe σ vs := wipe_eq l2 ag2 hsub
        have len2 : Γ2.length = Γ1.length := by rw [← se2.len, l2, wipe_length, ← hlw, ← sw.len, wipe_length]
        refine ⟨wq, H0, ps, Dl :: hs, Γ2, _, se2, p2, fun b H3 hb e3 => ?_⟩
        have hD3 : H3 Dl = some (.lst acc) := e3 _ _ hD
        cases b with
        | true =>
          refine iteT ⟨H0, ps, Dl :: hs, Γ2, _, se2.mono e3, hb.1 rfl, fun z Γ3 y H4 hz se4 k4 r4 => ?_⟩
          have nd2 : Dl ∉ adr Γ2 := fun m => nms (List.mem_append_right _ (by rw [a2, haw] at m; exact m))
          have hD4 : H4 Dl = some (.lst acc) := k4.2 _ _ nd2 hD3
          have ea3 : adr Γ3 = adr Γ1 := k4.1.trans (a2.trans haw)
          rw [a2, haw] at r4
          have x4 := k4.x
          rw [a2, haw] at x4
          have len3 : Γ3.length = Γ1.length := by rw [← se4.len, l2, wipe_length, ← hlw, ← sw.len, wipe_length]
          refine ⟨acc, hD4, ?_, ?_, acc ++ [y], accD ++ [z], wipeE Γ3 vs, upd_same, by simp; omega, ?_, ?_, ?_, free_wipe Γ3 vs, by rw [wipeE_len, len3], hz.2⟩
          · rw [racc.length]; omega
          · intro a o hn q
            rw [upd_ne (ne_of_none q nD)]
            exact k4.2 _ _ (by rw [a2, haw]; exact hn) (e3 _ _ (eH _ _ hn q))
          · rw [hid_upd List.mem_cons_self]
            exact (racc.mono ((hid_ex2 e3).trans x4)).append (.one r4)
          · have s5 := se4.wipe vs
            rw [wq] at s5
            refine s5.updHid List.mem_cons_self ?_ (se.h0 nH) fun j d => nobo_wipe (Bool.and_eq_true_iff.mp hz.1).1 vs
            rw [(wipe_free fun v hv => freeI_free (Bool.and_eq_true_iff.mp hz.1).2 hv).1, ea3]
            exact fun m => nms (List.mem_append_right _ m)
          · rw [(wipe_free fun v hv => freeI_free (Bool.and_eq_true_iff.mp hz.1).2 hv).1, ea3]
        | false =>
          refine iteF ⟨fun a o hn q => e3 _ _ (eH _ _ hn q), acc, accD, wipeE Γ2 vs, hD3, by omega, racc.mono (hid_ex2 e3), ?_, ?_, free_wipe Γ2 vs, by rw [wipeE_len, len2], (hb.2 rfl).2⟩
          · have s5 := (se2.mono e3).wipe vs
            rw [wq] at s5
            exact s5
          · rw [(wipe_free fun v hv => freeI_free (Bool.and_eq_true_iff.mp (hb.2 rfl).1).2 hv).1, a2, haw]
  · have e : i = ds.length := by omega
    subst e
    refine .inl ⟨w.st _ H' hS rfl, ?_⟩
    have sb := se1.back (hs' := Dl :: hs) hfr hfw sw (by rw [haw]; exact hid_one nD eB) hlw
    have ab := (back_free (Γ := Γ1) (Γw := Γw) hfr hfw).1
    refine k accD _ Dl acc H' (done accD Γw hI) nH sb (k1.trans ⟨ab.trans haw, eH⟩) hD ?_
    rw [← k1.1]
    exact racc
theorem fm_lc {elt tg iter : Expr} {ifs : List Expr} {scope : Scope} {own : List (Str × Nat)} {pos : Pos} {ti : MT} {g : GT} {tt : BT} {te : IT} {gown : List Nat} (hc : X.calm = true) (hN : X.N.Nodup) (hi : PI X tg iter (LIZ X.K ti)) (ok : BlkOk X.N X.env.scope scope own)
    (hg : ∀ (s : Shared) (H : Hp) (C : Addr) (cl : List (Str × Addr)) (fp : List Addr), PG (X.blk s H scope (compEnvC scope cl C X.env) fp) tg (Lg X.K gown g)) (ht : ∀ (s : Shared) (H : Hp) (C : Addr) (cl : List (Str × Addr)) (fp : List Addr), PTs (X.blk s H scope (compEnvC scope cl C X.env) fp) ifs (Lt X.K tt))
    (he : ∀ (s : Shared) (H : Hp) (C : Addr) (cl : List (Str × Addr)) (fp : List Addr), PE (X.blk s H scope (compEnvC scope cl C X.env) fp) elt (Lm X.K te)) (hsub : ∀ j ∈ gown, j ∈ own.map (·.2) := by decide) (hs : ∀ x, foldedSetIterable iter X.env x = pure x := by intro _; rfl) :
    PE X (.ListComp elt [⟨tg, iter, ifs, 0⟩] scope pos) (LmF X.K (mLc ti g tt te (own.map (·.2)))) := pe_imp (pe_lc hc hN hi ok hg ht he hs) (lcz_li hsub)
/-! ### fields -/
def zFld (C : Addr) (f : Str) (t : ZT) : ZT := fun Γ P F => t Γ (fun d Γ2 => match d with
  | .obj C' fs => C' = C ∧ (match fs.lookup f with
    | some z => P z Γ2
    | none => False)
  | _ => False) F
theorem z_fld {W : WX} {e : Expr} {f : Str} {pos : Pos} {t : ZT} {C : Addr} (c : Cls X.K C) (n : NoAttr X.K C f) (he : PE X e (Lz X.K W t)) (hb : attributeBase e f X.env (eval e X.env) = eval e X.env := by rfl) : PE X (.Attribute e f pos) (Lz X.K W (zFld C f t)) :=
  pe_imp (pe_fld he hb) fun σ H Q ⟨H0, ps, hs, Γ, P, F, se, ht, k, x⟩ => ⟨H0, ps, hs, Γ, _, F, se, ht, fun d Γ2 v H2 p se2 k2 r => (by
    cases d with
    | obj C' fs =>
      obtain ⟨rfl, p⟩ := p
      obtain ⟨a, dx, fvs, rfl, h, hk, hr⟩ := (RepW.im (H := H2) r).inst hid_ex
      cases z : fs.lookup f with
      | none => rw [z] at p; exact p.elim
      | some d =>
        rw [z] at p
        obtain ⟨v, lv, rv⟩ := look_some hk hr z
        exact ⟨a, C', dx, fvs, v, rfl, h, c, n, lv, k d Γ2 v H2 p se2 k2 rv⟩
    | _ => exact p.elim), x⟩
end
end Kb
set_option Elab.async false
set_option linter.all false
set_option maxRecDepth 100000
set_option maxHeartbeats 1000000
/-! Kb20: walks of borrowed lists and tuples, enumerate, sorted of tuples. -/
namespace PySem
set_option autoImplicit false
theorem kb_meets_enum {v : Value} {o : Obj} {H : Heap → Prop} (B : Begins v o H) :
    Meets (Builtin.«enumerate.__new__» ⟨[.type "enumerate", v], []⟩) (fun _ R s => H s.heap ∧
      R (.ok (.ret (.ref (s.heap.push o).objs.size))) { s with heap := (s.heap.push o).push { cls := .type "enumerate", data := .fields #[.none, .bool false, .ref s.heap.objs.size, rawInt 0, .none, .none] } }) :=
  .of_wp fun prog w A R s ⟨h1, h⟩ => by
    obtain ⟨hp, g, d, tk, os⟩ := s
    have hsub := sub_enumerate
    have bi : ∀ {A' : Around} {E : Value → Shared → Prop} {Q : Value → Shared → Prop}, Q (.ref hp.objs.size) ⟨hp.push o, g, d, tk, os⟩ → wpAny (model prog w) A' (pyIter v) Q E ⟨hp, g, d, tk, os⟩ := fun q => B.iter prog w _ _ ⟨hp, g, d, tk, os⟩ _ h1 q
    wp_walk using bi
    refine wpAny_stack_any fun st => wpAny_pure ?_
    split
    · rename_i c _ _ _ _ _
      cases (c == Value.type "enumerate") <;> (wp_walk using bi; exact ⟨_, rfl, h⟩)
    · (wp_walk using bi; exact ⟨_, rfl, h⟩)
theorem kb_call_enum {prog : Program} {w : World} {A : Around} {E : Value → Shared → Prop} {s : Shared} {v : Value} {o : Obj} {H : Heap → Prop} {Q : Value → Shared → Prop} (B : Begins v o H) (h1 : H s.heap)
    (h : ∀ h', IsEnum h' (s.heap.objs.size + 1) s.heap.objs.size 0 .none → h'.get? s.heap.objs.size = some o → (∀ b o, s.heap.get? b = some o → h'.get? b = some o) → Q (.ref (s.heap.objs.size + 1)) { s with heap := h' }) :
    wpAny (model prog w) A (call (.type "enumerate") [v]) Q E s := by
  refine callType_new F.called_enumerate (by decide) (F.typeCall_enumerate_1 _) (F.newCall_enumerate_1 _) (fun obj => F.args_object_init_2 obj _) F.entry_enumerate_new (kb_meets_enum B) ⟨h1, ?_⟩
  have hz : (s.heap.push o).objs.size = s.heap.objs.size + 1 := Heap.size_push ..
  show _ ∧ _
  rw [hz]
  have he : IsEnum ((s.heap.push o).push { cls := .type "enumerate", data := .fields #[.none, .bool false, .ref s.heap.objs.size, rawInt 0, .none, .none] }) (s.heap.objs.size + 1) s.heap.objs.size 0 .none := by
    have z := Heap.get?_push_size (s.heap.push o) (o := { cls := .type "enumerate", data := .fields #[.none, .bool false, .ref s.heap.objs.size, rawInt 0, .none, .none] }) rfl
    rwa [hz] at z
  exact ⟨⟨_, he, rfl⟩, h _ he (Heap.get?_push_of_some _ (Heap.get?_push_size _ B.free)) fun b o x => Heap.get?_push_of_some _ (Heap.get?_push_of_some _ x)⟩
end PySem
namespace Kb
open PySem L2
set_option autoImplicit false
/-- the tuple at a, each item in a new pair -/
def IttE (K : Frag) (a : Addr) : It :=
  ⟨fun i H => ∃ (xs : List V) (x : V), SqT K H a xs ∧ xs[i]? = some x, fun i H v H' => ∃ T x, v = .ref T ∧ H T = none ∧ H' = upd H T (.tup [.int (i : Nat), x]) ∧ ∀ xs, SqT K H a xs → xs[i]? = some x, fun i H => ∃ xs : List V, SqT K H a xs ∧ xs.length = i⟩
theorem turn_enumT {P : Program} {w : World} {K : Frag} {elts : List Expr} {kk : Nat} {tpos : Pos} (a e it : Addr) :
    Turn P w K (.Tuple elts kk tpos) (IttE K a) [e, it] e (fun i h => (∃ old, IsEnum h e it ((i : Nat) : Int) old) ∧ h.IsTupleIter it a i ∧ e ≠ it) where
  mem := by simp
  obj := fun i h st b hb => by
    obtain ⟨⟨old, he⟩, ⟨o, ho, hc, hd⟩, _⟩ := st
    rcases (by simpa using hb : b = e ∨ b = it) with rfl | rfl
    · exact ⟨_, he, fun v q => nomatch q⟩
    · exact ⟨o, ho, fun v q => by rw [hd] at q; cases q⟩
  keep := fun i h h' st k => let ⟨⟨old, he⟩, hi, hne⟩ := st; ⟨⟨old, k e (by simp) _ he⟩, hi.at fun o q => k it (by simp) o q, hne⟩
  item := by
    intro X hP hw hK hc i pins s σ H E I hf st hg
    subst hP hw hK
    obtain ⟨⟨old, he⟩, hit, hne⟩ := st
    obtain ⟨xs, x, hq, hx⟩ := hg
    obtain ⟨its, rv, p, hz⟩ := I.tuple hq
    obtain ⟨u, hu, ru⟩ := rv.get hx
    have hel : e < s.heap.objs.size := Heap.lt_size he
    have hil : it < s.heap.objs.size := by obtain ⟨_, q, _⟩ := hit; exact Heap.lt_size q
    have hT : s.heap.IsTuple a its.toArray := p
    have nea : e ≠ a := fun z => by
      subst z
      obtain ⟨o, ho, hcl, _⟩ := p
      rw [he] at ho
      cases ho
      exact absurd (Value.type.inj hcl) (by decide)
    have nia : a ≠ it := fun z => by
      subst z
      obtain ⟨o, ho, hcl, _⟩ := p
      obtain ⟨o', ho', hcl', _⟩ := hit
      rw [ho] at ho'
      cases ho'
      rw [hcl] at hcl'
      exact absurd (Value.type.inj hcl') (by decide)
    refine wpAny_pyNext_enum_itemD (Draws.tuple (A := X.A.in1) (I.ok.hd hc) it a nia its.toArray) he ⟨hit, hT⟩ (i := i) ?_ hne (by simp [hne, nea]) fun y h' tk hy ho hst hTu hsz hk => ?_
    · have z := (List.getElem?_eq_some_iff.mp hu).1
      simpa using z
    have ey : y = u := by
      have z : its.toArray[i]? = some u := by simpa using hu
      rw [z] at hy
      exact (Option.some.inj hy).symm
    subst ey
    refine ⟨_, rfl, wpAny_letOwnedTupleGo_enum (s := { s with heap := h', toks := tk + 1 }) ho fun h'' he' sb => ?_⟩
    have hT2 : h''.get? s.heap.objs.size = some { cls := .type "tuple", data := .seq #[.int i tk, y] } := (sb.2 _ (Nat.ne_of_gt hel)).trans hTu
    have new : ObjOk X.prog X.w (upd H s.heap.objs.size (.tup [.int (i : Nat), x])) h'' s.heap.objs.size (.tup [.int (i : Nat), x]) :=
      ⟨by show 2 ≤ sizeLine; decide, [.int i tk, y], .cons ⟨_, rfl⟩ (.cons ru .nil), ⟨_, hT2, rfl, _, rfl⟩⟩
    have I1 : Inv X pins σ (upd H s.heap.objs.size (.tup [.int (i : Nat), x])) { s with heap := h'', toks := tk + 1 } :=
      I.turnedNew (ch := [e, it]) (fun b ob hb q => (sb.2 b (fun z => hb (by simp [z]))).trans (hk b ob (fun z => hb (by simp [z])) (fun z => hb (by simp [z])) q)) hf (Nat.le_refl _) new
    refine ⟨.ref s.heap.objs.size, _, I1, rfl, ⟨_, x, rfl, I.hok.fresh (Nat.le_refl _), rfl, fun ys hy => by rw [I.tuple_inj hy hq]; exact hx⟩, ⟨⟨y, ?_⟩, hst.1.at fun o q => (sb.2 it (Ne.symm hne)).trans q, hne⟩, fun b hb => ?_⟩
    · rw [show ((i + 1 : Nat) : Int) = (i : Int) + 1 by omega]; exact he'
    · have hb' : b < s.heap.objs.size := by
        rcases (by simpa using hb : b = e ∨ b = it) with rfl | rfl
        · exact hel
        · exact hil
      rw [upd_ne (Nat.ne_of_lt hb')]
      exact (hf b hb).1
  done := by
    intro X hP hw hK hc i pins s σ H E I hf st hg
    subst hP hw hK
    obtain ⟨⟨old, he⟩, hit, hne⟩ := st
    obtain ⟨xs, hq, hx⟩ := hg
    obtain ⟨its, rv, p, hz⟩ := I.tuple hq
    obtain ⟨f0, f1, f2, f3, f4, f5⟩ := hf it (by simp)
    have hl := rv.length
    have hT : s.heap.IsTuple a its.toArray := p
    have nia : a ≠ it := fun z => by
      subst z
      obtain ⟨o, ho, hcl, _⟩ := p
      obtain ⟨o', ho', hcl', _⟩ := hit
      rw [ho] at ho'
      cases ho'
      rw [hcl] at hcl'
      exact absurd (Value.type.inj hcl') (by decide)
    have hi : i = its.toArray.size := by simp; omega
    subst hi
    exact wpAny_pyNext_enum_endD (Draws.tuple (A := X.A.in1) (I.ok.hd hc) it a nia its.toArray) he ⟨hit, hT⟩ fun h' eb => ⟨rfl, I.turned (t' := s.toks) (fun b o hb q => eb b o hb q) f0 f1 f3 f4 f5⟩
  self := fun A i s Q E st h => let ⟨⟨_, he⟩, _⟩ := st; wpAny_pyIter_enum he h
def iEnumT (K : Frag) (ta : TA) : TI := fun σ H R => ta σ H fun vs H1 => ∃ a xs, vs = [.ref a] ∧ SqT K H1 a xs ∧ R (IttE K a) H1
theorem pi_enumT {X : Cx} {e : Expr} {ta : TA} {p pos tpos : Pos} {elts : List Expr} {kk : Nat} (hg : Gl X "enumerate") (hm : X.mg "enumerate" = none) (ha : PA X [e] ta) (hs : starEach [e] X.env = [(false, eval e X.env)] := by rfl) :
    PI X (.Tuple elts kk tpos) (.Call (.Name "enumerate" p) [e] [] pos) (iEnumT X.K ta) := ⟨fun pins s σ H R I h => by
  refine PyProof.Rows.Call_ (ld_blt I hg hm (show bootBuiltins "enumerate" = some (.type "enumerate") by decide +kernel) (PyProof.Rows.callWith_type1 (thn (ha.run pos pins s σ H _ I h) fun us s1 ⟨vs, H1, I1, r1, a, xs, ex, hq, q⟩ => ?_) hs rfl))
  subst ex
  cases r1 with
  | cons r rr =>
    cases rr
    cases r
    obtain ⟨its, rv, p', hz⟩ := I1.tuple hq
    refine kb_call_enum (begins_tuple a its.toArray) p' fun h' he hit hk => wpAny_pyIter_enum he ?_
    have I2 : Inv X pins σ H1 { s1 with heap := h' } := I1.kept (t' := s1.toks) hk
    refine ⟨s1.heap.objs.size + 1, [s1.heap.objs.size + 1, s1.heap.objs.size], _, _, H1, rfl, I2, turn_enumT a (s1.heap.objs.size + 1) s1.heap.objs.size, ⟨⟨.none, he⟩, ⟨_, hit, rfl, rfl⟩, Nat.succ_ne_self _⟩, fun b hb => ?_, q⟩
    have hle : s1.heap.objs.size ≤ b := by
      rcases (by simpa using hb : b = s1.heap.objs.size + 1 ∨ b = s1.heap.objs.size) with rfl | rfl
      · exact Nat.le_add_right _ _
      · exact Nat.le_refl _
    exact I1.fpOk hle (I1.hok.fresh hle)⟩
theorem pi_or {X : Cx} {tg e : Expr} {t t' : TI} (h : PI X tg e t) (h' : PI X tg e t') : PI X tg e (fun σ H R => t σ H R ∨ t' σ H R) := ⟨fun pins s σ H R I q => q.elim (h.run pins s σ H R I) (h'.run pins s σ H R I)⟩
/-! ### borrowed things walked -/
def LIo (K : Frag) (t : FT) : TI := fun σ H R => ∃ (H0 : Hp) (ps hs : List Addr) (Γ : Env) (P : List D → Prop), SE K H0 ps hs Γ σ H ∧ t Γ P ∧ ∀ ds J H2, P ds → Ex H H2 → Walks K (fun H' => Ex (hid (adr Γ) H2) H') (hid (hs ++ adr Γ) H2) J ds → R J H2
def enumD (xs : List D) : List D := xs.zipIdx.map fun p => .tup [.int p.2, p.1]
theorem enumD_get (xs : List D) (i : Nat) : (enumD xs)[i]? = xs[i]?.map fun d => .tup [.int (i : Nat), d] := by
  unfold enumD
  rw [List.getElem?_map, List.getElem?_zipIdx]
  cases xs[i]? <;> simp
theorem enumD_len (xs : List D) : (enumD xs).length = xs.length := by simp [enumD]
/-- items of a list or a tuple that a slot holds (not of one's own) -/
def iSqV (i : Nat) : FT := fun Γ P => match Γ[i]? with
  | some (some (.im (.lst xs))) => P xs
  | some (some (.bo (.lst xs))) => P xs
  | some (some (.im (.tup xs))) => P xs
  | some (some (.bo (.tup xs))) => P xs
  | _ => False
def iEnV (i : Nat) : FT := fun Γ P => iSqV i Γ fun xs => P (enumD xs)
theorem walk_en {K : Frag} {S : Hp → Prop} {B : Hp} {a : Addr} {vs : List V} {ds : List D} (hS : ∀ H, S H → SqL K H a vs) (r : Reps K B vs ds) : Walks K S B (Ite K a) (enumD ds) where
  go := fun i H s h => by
    rw [enumD_len] at h
    exact ⟨vs, vs[i]'(by rw [r.length]; exact h), hS H s, List.getElem?_eq_getElem _⟩
  yl := fun i H x H' s h ⟨T, y, ex, nT, eH, hy⟩ => by
    subst ex eH
    obtain ⟨d, h1, h2⟩ := r.get (hy vs (hS _ s))
    refine ⟨Ex.new nT, .tup [.int (i : Nat), d], by rw [enumD_get, h1]; rfl, fun ms b e => ?_⟩
    exact rep_newT b nT (.cons (.int _) (.one (h2.mono e)))
  st := fun i H s h => ⟨vs, hS H s, Nat.le_of_eq (by rw [enumD_len] at h; rw [r.length]; exact h)⟩
theorem walk_enT {K : Frag} {S : Hp → Prop} {B : Hp} {a : Addr} {vs : List V} {ds : List D} (hS : ∀ H, S H → SqT K H a vs) (r : Reps K B vs ds) : Walks K S B (IttE K a) (enumD ds) where
  go := fun i H s h => by
    rw [enumD_len] at h
    exact ⟨vs, vs[i]'(by rw [r.length]; exact h), hS H s, List.getElem?_eq_getElem _⟩
  yl := fun i H x H' s h ⟨T, y, ex, nT, eH, hy⟩ => by
    subst ex eH
    obtain ⟨d, h1, h2⟩ := r.get (hy vs (hS _ s))
    refine ⟨Ex.new nT, .tup [.int (i : Nat), d], by rw [enumD_get, h1]; rfl, fun ms b e => ?_⟩
    exact rep_newT b nT (.cons (.int _) (.one (h2.mono e)))
  st := fun i H s h => ⟨vs, hS H s, by rw [enumD_len] at h; rw [r.length]; exact h⟩
section
variable {X : Cx} {W : WX} {tg : Expr}
/-- what the slot holds -/
theorem sq_slot {K : Frag} {H0 : Hp} {ps hs : List Addr} {Γ : Env} {σ : St} {H : Hp} {i : Nat} {P : List D → Prop} (se : SE K H0 ps hs Γ σ H) (h : iSqV i Γ P) : ∃ (a : Addr) (vs : List V) (xs : List D), σ[i]? = some (some (.ref a)) ∧ P xs ∧ Reps K (hid (hs ++ adr Γ) H) vs xs ∧
    ((∀ H', Ex (hid (adr Γ) H) H' → SqL K H' a vs) ∨ ∀ H', Ex (hid (adr Γ) H) H' → SqT K H' a vs) := by
  have up : ∀ H', Ex (hid (adr Γ) H) H' → Ex (hid (hs ++ adr Γ) H) H' := fun H' e => (hid_sub fun a m => List.mem_append_right _ m).trans e
  unfold iSqV at h
  split at h
  · rename_i xs e
    obtain ⟨v, h1, h2⟩ := se.ok i _ e
    cases (show Rep K (hid (hs ++ adr Γ) H) v (.lst xs) from h2) with
    | lst a r => exact ⟨_, _, xs, h1, h, r, .inl fun H' e => SqL.of (up H' e _ _ a)⟩
  · rename_i xs e
    obtain ⟨v, h1, h2⟩ := se.ok i _ e
    cases (show RepW K (hid (hs ++ adr Γ) H) (hid (adr Γ) H) v (.lst xs) from h2) with
    | im h2 => cases h2 with
      | lst a r => exact ⟨_, _, xs, h1, h, r, .inl fun H' e => SqL.of (up H' e _ _ a)⟩
    | lst a r => exact ⟨_, _, xs, h1, h, r, .inl fun H' e => SqL.of (e _ _ a)⟩
  · rename_i xs e
    obtain ⟨v, h1, h2⟩ := se.ok i _ e
    cases (show Rep K (hid (hs ++ adr Γ) H) v (.tup xs) from h2) with
    | tup a r => exact ⟨_, _, xs, h1, h, r, .inr fun H' e => (up H' e).st a⟩
  · rename_i xs e
    obtain ⟨v, h1, h2⟩ := se.ok i _ e
    cases (show RepW K (hid (hs ++ adr Γ) H) (hid (adr Γ) H) v (.tup xs) from h2) with
    | im h2 => cases h2 with
      | tup a r => exact ⟨_, _, xs, h1, h, r, .inr fun H' e => (up H' e).st a⟩
  · exact h.elim
theorem io_var (i : Nat) {x : Str} {pos : Pos} (hN : X.N[i]? = some x := by rfl) (hv : Vis X.env.scope x := by first | exact Or.inl rfl | exact Or.inr (Or.inl rfl) | exact Or.inr (Or.inr rfl)) (hd : (x == ("__debug__" : Str)) = false := by decide)
    (hcd : (x == ("__classdict__" : Str)) = false := by decide) : PI X tg (.Name x pos) (LIo X.K (iSqV i)) :=
  pi_imp (pi_or (pi_list (pe_var hN hv hd hcd)) (pi_tup (pe_var hN hv hd hcd))) fun σ H R ⟨H0, ps, hs, Γ, P, se, ht, k⟩ => by
    obtain ⟨a, vs, xs, h1, hP, r, h | h⟩ := sq_slot se ht
    · exact .inl ⟨_, h1, a, rfl, ⟨_, h H hid_ex⟩, k _ _ H hP (Same.refl H) (walk_list (fun H' s => h H' s) r)⟩
    · exact .inr ⟨_, h1, a, rfl, ⟨_, h H hid_ex⟩, k _ _ H hP (Same.refl H) (walk_tup (fun H' s => h H' s) r)⟩
theorem io_en (i : Nat) {x : Str} {elts : List Expr} {kk : Nat} {tpos p npos pos : Pos} (hg : Gl X "enumerate") (hm : X.mg "enumerate" = none) (hN : X.N[i]? = some x := by rfl) (hv : Vis X.env.scope x := by first | exact Or.inl rfl | exact Or.inr (Or.inl rfl) | exact Or.inr (Or.inr rfl)) (hd : (x == ("__debug__" : Str)) = false := by decide)
    (hcd : (x == ("__classdict__" : Str)) = false := by decide) (hs : starEach [.Name x npos] X.env = [(false, eval (.Name x npos) X.env)] := by rfl) : PI X (.Tuple elts kk tpos) (.Call (.Name "enumerate" p) [.Name x npos] [] pos) (LIo X.K (iEnV i)) :=
  pi_imp (pi_or (pi_enum hg hm (pa_cons (pe_var hN hv hd hcd) pa_nil hs) hs) (pi_enumT hg hm (pa_cons (pe_var hN hv hd hcd) pa_nil hs) hs)) fun σ H R ⟨H0, ps, hs, Γ, P, se, ht, k⟩ => by
    obtain ⟨a, vs, xs, h1, hP, r, h | h⟩ := sq_slot se ht
    · exact .inl ⟨_, h1, a, vs, rfl, h H hid_ex, k _ _ H hP (Same.refl H) (walk_en (fun H' s => h H' s) r)⟩
    · exact .inr ⟨_, h1, a, vs, rfl, h H hid_ex, k _ _ H hP (Same.refl H) (walk_enT (fun H' s => h H' s) r)⟩
theorem ib_o {e : Expr} {t : FT} (h : PI X tg e (LIo X.K t)) : PI X tg e (LB X.K t) := pi_imp h fun σ H R ⟨H0, ps, hs, Γ, P, se, ht, k⟩ => ⟨H0, ps, hs, Γ, P, se, ht, fun ds J H2 p e w => k ds J H2 p e (w.imp fun H' s => fun a o q => s a o (hid_ex a o q))⟩
theorem s_forO {iter : Expr} {body : List Stmt} {ti : FT} {g : GT} {tb : ST} {gown : List Nat} {pos : Pos} (hp : PassesOwn (model X.prog X.w) X.A X.env X.xe) (hc : X.calm = true) (hi : PI X tg iter (LIo X.K ti)) (hg : PG X tg (Lg X.K gown g)) (hb : PSs X body (Ls X.K W tb))
    (hs : ∀ x, foldedSetIterable iter X.env x = pure x := by intro _; rfl) : PS X (.For tg iter body [] pos) (Ls X.K W (sFor ti g tb)) := ps_imp (ps_for hp hc hi hg hb hs) fun D σ H ⟨H0, ps, hs, Γ, E, se, ht, r⟩ => by
  refine ⟨H0, ps, hs, Γ, _, se, ht, fun ds J H1 hp e1 w => ?_⟩
  obtain ⟨I, i0, turn, done⟩ := hp
  have k1 : Kp hs Γ H Γ H1 := Kp.ex e1
  have S : ∀ Γ' H', Kp hs Γ H1 Γ' H' → Ex (hid (adr Γ) H1) H' := fun Γ' H' k a o q => hid_ex _ _ (k a o q)
  refine ⟨fun i m σ' H' => m = ds.length - i ∧ i ≤ ds.length ∧ ∃ Γ', SE X.K H0 ps hs Γ' σ' H' ∧ Kp hs Γ H1 Γ' H' ∧ I i Γ', ⟨ds.length, by simp, Nat.zero_le _, Γ, se.mono e1, Kp.refl, i0⟩, ?_⟩
  rintro i m σ' H' ⟨rfl, hil, Γ', se', kp, hI⟩
  by_cases hlt : i < ds.length
  · refine .inr ⟨w.go i H' (S _ _ kp) hlt, fun σ'' H'' => ∃ Γ'', SE X.K H0 ps hs Γ'' σ'' H'' ∧ Kp hs Γ H1 Γ'' H'' ∧ I (i + 1) Γ'', ?_, fun x H'' hy => ?_⟩
    · rintro σ'' H'' ⟨Γ'', a, b, c⟩
      exact ⟨ds.length - (i + 1), by omega, rfl, hlt, Γ'', a, b, c⟩
    · obtain ⟨e9, d, hd, rx⟩ := w.yl i H' x H'' (S _ _ kp) hlt hy
      replace rx := rx (hs ++ adr Γ') se'.bs kp.x
      replace kp := kp.trans (Kp.ex e9)
      replace se' := se'.mono e9
      refine ⟨H0, ps, hs, Γ', d, _, se', rx, turn i d Γ' hd hI, fun Γ2 σ2 p2 a2 se2 _ _ => ?_⟩
      have kp2 : Kp hs Γ H1 Γ2 H'' := by
        unfold Kp at kp ⊢
        rw [a2]
        exact kp
      exact ⟨H0, ps, hs, Γ2, _, se2, p2, ⟨fun Γ3 σ3 H3 a b c => ⟨Γ3, b, kp2.trans c, a⟩, r.rt, fun Γ3 σ3 H3 a b c => r.nx Γ3 σ3 H3 a b ((k1.trans kp2).trans c), fun Γ3 σ3 H3 a b c => ⟨Γ3, b, kp2.trans c, a⟩, fun C fs Γ3 σ3 H3 d a b c x => r.ex C fs Γ3 σ3 H3 d a b ((k1.trans kp2).trans c) x⟩⟩
  · have e : i = ds.length := by omega
    subst e
    exact .inl ⟨w.st _ H' (S _ _ kp) rfl, r.nx Γ' σ' H' (done Γ' hI) se' (k1.trans kp)⟩
end
/-! ### sorted of a tuple -/
end Kb
namespace PySem
open PySem.W PyProof.Rows
theorem kb_collect_tup {prog : Program} {w : World} {A : Around} {E : Value → Shared → Prop} {s : Shared} {l : Addr} {vs : List Value} {Q : List Value → Shared → Prop} (hl : s.heap.IsTuple l vs.toArray)
    (h : Q vs { s with heap := (s.heap.push (seqObj "list" #[] 0)).update s.heap.objs.size (Obj.mapSeq (· ++ vs.toArray)) }) (hsz : vs.length ≤ sizeLine) : wpAny (model prog w) A (collect (.ref l)) Q E s := by
  obtain ⟨o, ho, hc, n, hd⟩ := hl
  have ho' : (s.heap.push (seqObj "list" #[] 0)).get? l = some o := Heap.get?_push_of_some _ ho
  unfold collect
  refine wpAny_bind (wpAny_runValue (codeAny_builtin entry_proto_collect' ?_))
  show wpAny _ _ (do again (.builtin "list.__iadd__" ⟨[← newList [], .ref l], []⟩)) _ _ s
  refine wpAny_bind (wpAny_newList (wpAny_pure ⟨Code.quiet_builtin _ (by decide +kernel), codeAny_builtin entry_list_iadd' ?_⟩)); show wpAny _ _ (Builtin.List.listExtendWith (.ref s.heap.objs.size) (.ref l) (.ref s.heap.objs.size)) _ _ { s with heap := s.heap.push (seqObj "list" #[] 0) }
  unfold Builtin.List.listExtendWith
  refine wpAny_bind (wpAny_typeOf (T := "tuple") ⟨o, ho', hc⟩ ?_)
  have ht : (Value.type "tuple" == Value.type "tuple") = true := by rfl
  rw [if_pos (by rw [ht]; simp)]
  refine wpAny_bind (listItems_at ho' hd (wpAny_bind (listItems_at (xs := #[]) (n := 0) (Heap.get?_push_size _ rfl) rfl ?_)))
  rw [if_neg (by simp)]
  refine wpAny_bind (listUpdate_at (xs := #[]) (n := 0) (Heap.get?_push_size _ rfl) rfl (wpAny_pure ?_) (Nat.zero_le _) (by show (#[] ++ vs.toArray).size ≤ sizeLine + 1; simp only [Array.size_append, List.size_toArray, List.length_nil]; omega))
  show wpAny (model prog w) A (do
      let o ← load s.heap.objs.size
      match o.data with | .seq xs _ => pure xs.toList | _ => unsupported "internal:collect") Q E { s with heap := (s.heap.push (seqObj "list" #[] 0)).update s.heap.objs.size (Obj.mapSeq (· ++ vs.toArray)) }
  refine wpAny_bind (wpAny_load (get?_update_seq (Heap.get?_push_size _ rfl) _) ?_)
  show wpAny _ _ (pure ((#[] : Array Value) ++ vs.toArray).toList) Q E _
  rw [show ((#[] : Array Value) ++ vs.toArray).toList = vs by simp]
  exact wpAny_pure h
theorem kb_sorted_tup {prog : Program} {w : World} {A : Around} {E : Value → Shared → Prop} {s : Shared} {l : Addr} {vs : List Value} {kw : List (Str × Value)} {Q : Value → Shared → Prop} (hl : s.heap.IsTuple l vs.toArray) (hL : vs.length ≤ sizeLine) (ha1 : argsOk "sorted" ⟨[.ref l], kw⟩) (ha2 : ∀ x, argsOk "list.sort" ⟨[.ref x], kw⟩)
    (body : ∀ E' : Value → Shared → Prop, wpAny (model prog w) A.in1.in1 (Builtin.«list.sort» ⟨[.ref (s.heap.objs.size + 1)], kw⟩) (fun f s' => f = .done (.ret .none) ∧ Q (.ref (s.heap.objs.size + 1)) s') E' { s with heap := copyHeap s.heap vs }) :
    wpAny (model prog w) A (call (.builtin "sorted") [.ref l] kw) Q E s := by
  refine call_function_entry_kw kind_sorted plain_sorted entry_sorted ha1 ?_
  unfold Builtin.«sorted»
  have hsz : ((s.heap.push (seqObj "list" #[] 0)).update s.heap.objs.size (Obj.mapSeq (· ++ vs.toArray))).objs.size = s.heap.objs.size + 1 := by rw [Heap.size_update, size_push']
  refine wpAny_bind (m := checkCount "sorted" 1 1 _) (wpAny_pure (wpAny_bind (kb_collect_tup hl (wpAny_bind (wpAny_newList ?_ hL)) hL)))
  show wpAny _ _ _ _ _ { s with heap := copyHeap s.heap vs }
  rw [hsz]
  refine wpAny_bind (wpAny_holding (wpAny_call_entry_kw slot_list_sort ⟨_, copyHeap_at s.heap vs, rfl⟩ entry_list_sort (wpAny_mono (body _) (fun f s' ⟨e, hq⟩ => ?_) fun _ _ e => e) (ha2 _)))
  subst e
  exact ⟨_, rfl, wpAny_pure ⟨_, rfl, hq⟩⟩
theorem kb_sorted_tup_data {prog : Program} {w : World} {A : Around} {E : Value → Shared → Prop} {s : Shared} {β : Type} {vs : List Value} {bs : List β} {enc : β → PyData} {R : Value → β → Prop} {l : Addr} {Q : Value → Shared → Prop} (hl : s.heap.IsTuple l vs.toArray) (e : EachIs R vs bs) (er : EachIs (fun v b => ∃ as, Reads s.heap v (enc b) as) vs bs) (hal : AllAlike (bs.map enc)) (hk : Sortable (bs.map enc)) (hL : bs.length ≤ sizeLine)
    (hu : ∀ b, b ∈ bs → A.units + 2 + (enc b).depth < cLine) (h : ∀ out, out.length = bs.length → EachIs R out (bs.mergeSort (dataLe false enc)) → Q (.ref (s.heap.objs.size + 1)) { s with heap := sortedAll s.heap vs (List.toArray out) }) : wpAny (model prog w) A (call (.builtin "sorted") [.ref l]) Q E s := by
  have er' : EachIs (fun v b => ∃ as, Reads (sortingHeap (copyHeap s.heap vs) (s.heap.objs.size + 1) vs) v (enc b) as) vs bs := er.mono fun _ _ ⟨as, r⟩ => ⟨as, PyProof.Rows.Reads.keeps (fun _ _ => sorting_copy_old) r⟩
  have hv : vs.length ≤ sizeLine := by rw [e.length]; exact hL
  have S : SortsAt prog w A.in1.in1 { s with heap := sortingHeap (copyHeap s.heap vs) (s.heap.objs.size + 1) vs } _ vs := SortsAt.data (each_map (R := fun v d => ∃ as, Reads (sortingHeap (copyHeap s.heap vs) (s.heap.objs.size + 1) vs) v d as) enc er') hal hk (bound_map hu)
  exact kb_sorted_tup hl hv (args_sorted1 _) (fun _ => args_list_sort _) fun _ => list_sort_vals (s := { s with heap := copyHeap s.heap vs }) (copyHeap_at s.heap vs) S hv ⟨rfl, h _ (by rw [sortVals_length false rfl]; exact e.length) (sortVals_data false e er' hal)⟩
end PySem
namespace Kb
open PySem L2
def rSrtT (K : Frag) : List V → Hp → VK → Prop := fun xs H Q => ∃ (a : Addr) (bs : List (V × D)), xs = [.ref a] ∧ SqT K H a (bs.map (·.1)) ∧ (∀ p ∈ bs, Rep K H p.1 p.2 ∧ p.2.sh 60 = true) ∧ alkD (bs.map (·.2)) ∧
  ∀ p, H p = none → Q (.ref p) (upd H p (.lst ((bs.mergeSort fun p q => leD p.2 q.2).map (·.1))))
theorem cr_srtT {X : Cx} (hu : X.A.units + 64 < cLine) : CallR X (.builtin "sorted") (rSrtT X.K) := by
  intro pins s σ H vs us Q I r h
  obtain ⟨a, bs, rfl, hs, hb, ha, q⟩ := h
  obtain ⟨its, rv, hl, hz⟩ := I.tuple hs
  rw [Vals.ref1 r]
  have e1 : PySem.W.EachIs (fun (u : Value) (b : V × D) => RelV b.1 u) its bs := each_of (S := fun _ => True) (f := fun b : V × D => b.1) (g := RelV) (fun b u _ z => z) (fun _ _ => trivial) rv
  have e2 : PySem.W.EachIs (fun (u : Value) (b : V × D) => ∃ as, Reads s.heap u b.2.py as) its bs := each_of (S := fun b : V × D => Rep X.K H b.1 b.2 ∧ b.2.sh 60 = true) (f := fun b : V × D => b.1) (g := RelV) (fun b u z ru => Dp.reads I _ _ _ (rep_dp 60 _ _ z.2 z.1) ru) hb rv
  have hn : bs.length ≤ sizeLine := by simpa using hz
  have hal : PySem.W.AllAlike (bs.map fun b => b.2.py) := by
    have z := ha.1
    rw [List.map_map] at z
    exact z
  have hsb : PySem.W.Sortable (bs.map fun b => b.2.py) := by
    have z := ha.2
    rw [List.map_map] at z
    exact z
  refine kb_sorted_tup_data (enc := fun b : V × D => b.2.py) hl e1 e2 hal hsb hn (fun b m => ?_) fun out ho he => ?_
  · have z := (sh_lay 60 b.2 (hb b m).2).2
    omega
  · obtain ⟨ep, he'⟩ := PyProof.Rows.sortedAll_at s.heap its out.toArray
    have rv2 := paired_of (f := fun b : V × D => b.1) (g := RelV) (fun b u z => z) he
    have hlen : ((bs.mergeSort fun p q => leD p.2 q.2).map (·.1)).length ≤ sizeLine := by rw [List.length_map, List.length_mergeSort]; exact hn
    exact ⟨.ref _, upd H (s.heap.objs.size + 1) (.lst ((bs.mergeSort fun p q => leD p.2 q.2).map (·.1))), I.laid (t' := s.toks) (fun _ _ => PyProof.Rows.sortedAll_old) (Nat.le_succ _) ⟨hlen, out, ep, rv2, he'⟩, rfl, q _ (I.hok.fresh (Nat.le_succ _))⟩
def fSrtQ : FL := fun ds P => match ds with
  | [.lst xs] => xs.all (D.sh 59) = true ∧ alkD xs ∧ P (xs.mergeSort leD)
  | [.tup xs] => xs.all (D.sh 59) = true ∧ alkD xs ∧ P (xs.mergeSort leD)
  | _ => False
theorem does_srtQ {K : Frag} : DoesF K (fun xs H Q => rSrtD K xs H Q ∨ rSrtT K xs H Q) fSrtQ := fun ms H xs ds P Q b rr h k => by
  have em : Ex (hid ms H) H := hid_ex
  unfold fSrtQ at h
  split at h
  · exact .inl (does_srt ms H xs _ P Q b rr h k)
  · rename_i ys
    obtain ⟨v, rfl, r⟩ := rr.one
    obtain ⟨a, vs, rfl, h1, r1⟩ := r.tuple em
    obtain ⟨z1, z2, z3⟩ := reps_zip r1
    have hsh : ∀ d ∈ ys, d.sh 60 = true := fun d m => sh_mono (by decide : 59 ≤ 60) (List.all_eq_true.mp h.1 d m)
    refine .inr ⟨a, vs.zip ys, rfl, by rw [z1]; exact h1, fun p m => ⟨(z3 p m).mono em, hsh _ (by rw [← z2]; exact List.mem_map_of_mem m)⟩, by rw [z2]; exact h.2.1, fun p n => ?_⟩
    have e2 : ((vs.zip ys).mergeSort fun p q => leD p.2 q.2).map (·.2) = ys.mergeSort leD := by
      rw [PySem.W.sort_maps (s := leD) (fun p : V × D => p.2) (fun _ _ _ _ => rfl), z2]
    have e3 := reps_of (K := K) (B := hid ms H) ((vs.zip ys).mergeSort fun p q => leD p.2 q.2) fun p m => z3 p ((List.mergeSort_perm _ _).mem_iff.mp m)
    rw [e2] at e3
    exact k _ p _ _ h.2.2 n (Ex.new n) upd_same (reps_new n e3)
  · exact h.elim
theorem fx_sortedQ {X : Cx} {k : Nat} {e : Expr} {p pos : Pos} {t : XT} (hr : Room k X.A) (hg : Gl X "sorted") (hm : X.mg "sorted" = none) (h : PE X e (Lb X.K t)) (he : starEach [e] X.env = (false, eval e X.env) :: starEach [] X.env := by rfl) (hpl : (backTo pos (starEach [] X.env)).any (·.1) = false := by rfl) :
    PE X (.Call (.Name "sorted" p) [e] [] pos) (Lf X.K (fCall fSrtQ (aCons t aNil))) := fx_callB ((cr_srtD hr.units).or (cr_srtT hr.units)) does_srtQ hg hm (by decide +kernel) (aw_cons h aw_nil he) (by decide) (by decide) he hpl
end Kb
set_option Elab.async false
set_option linter.all false
set_option maxRecDepth 100000
set_option maxHeartbeats 1000000
/-! Kb21: answers of any kind, methods without arguments, list(range(..)). -/
namespace Kb
open PySem L2
set_option autoImplicit false
section
variable {X : Cx} {W : WX}
def rMe0 (C : Addr) (m : Str) (S : SP) (to : XT) : RT := fun Γ P => to Γ fun d => match d with
  | .obj C' fs => C' = C ∧ fs.lookup m = none ∧ S.S [.im d] P
  | _ => False
theorem meth0_lr {m : Str} {S : SP} {to : XT} {C : Addr} {E : XK} (σ : St) (H : Hp) (Q : VK) (h : Lr X.K (rMe0 C m S to) σ H Q) : tMeth C m (spP X.K S) [] E (Li X.K to) tNil σ H Q := by
  obtain ⟨H0, ps, hs, Γ, P, se, ht, k⟩ := h
  refine ⟨H0, ps, hs, Γ, _, se, ht, fun d v H1 p e1 r => ?_⟩
  cases d with
  | obj C' fs =>
    obtain ⟨rfl, p1, p⟩ := p
    obtain ⟨a, dx, fvs, rfl, h1, h2, h3⟩ := (RepW.im r).inst hid_ex
    refine ⟨a, dx, fvs, rfl, h1, look_none h2 p1, ?_⟩
    show spP X.K S [V.ref a] H1 Q E
    exact ⟨hs ++ adr Γ, _, .cons (s := .im (.obj C' fs)) r rfl .nil, (se.mono e1).bs, S.mon _ _ _ (fun r hr v H' e3 ro => k r v H' hr (e1.trans e3) (res_back e1 ro)) p⟩
  | _ => exact p.elim
theorem rx_meth0 {m : Str} {k : Nat} {S : SP} {o : Expr} {apos pos : Pos} {to : XT} {C : Addr} {pl : Sem Bool} (c : Cls X.K C) (F : Dm X.prog X.w X.K X.mg X.base C m k (spP X.K S)) (hr : Room k X.A) (ho : PE X o (Li X.K to))
    (ht : eval (.Call (.Attribute o m apos) [] [] pos) X.env = (do
      let ov ← eval o X.env
      standAt apos.atName
      let (f, first) ← holding [ov] (getMethod ov m pl)
      callWith pos f first (backTo pos (starEach [] X.env)) (backToKw pos (keywordEach [] X.env))) := by rfl) : PE X (.Call (.Attribute o m apos) [] [] pos) (Lr X.K (rMe0 C m S to)) := by
  obtain ⟨f, fd, ps, h1, h2, h3⟩ := F.ex
  exact pe_imp (pe_meth0 ho c h2 h1 hr h3 .nil pass0 ht) meth0_lr
def xR (t : RT) : XT := fun Γ P => t Γ fun r => P r.dat
theorem px_r {e : Expr} {t : RT} (h : PE X e (Lr X.K t)) : PE X e (Li X.K (xR t)) := pe_imp h fun σ H Q ⟨H0, ps, hs, Γ, P, se, ht, k⟩ => ⟨H0, ps, hs, Γ, _, se, ht, fun r v H2 p e ro => k _ v H2 p e (res_dat se.bs.fresh ro)⟩
def fR (t : RT) : FT := fun Γ P => t Γ fun r => match r with
  | .fl ds => P ds
  | _ => False
theorem fx_r {e : Expr} {t : RT} (h : PE X e (Lr X.K t)) : PE X e (Lf X.K (fR t)) := pe_imp h fun σ H Q ⟨H0, ps, hs, Γ, P, se, ht, k⟩ => ⟨H0, ps, hs, Γ, _, se, ht, fun r v H2 p e ro => by
  cases r with
  | fl ds => obtain ⟨q, vs, rfl, n, h1, h2⟩ := ro; exact k ds q vs H2 p n e h1 h2
  | _ => exact p.elim⟩
/-- return f(..), whatever it hands back -/
def sRetR (t : RT) : ST := fun E Γ => t Γ fun r => E.rt r Γ
theorem res_out {K : Frag} {H0 : Hp} {ps hs : List Addr} {Γ : Env} {σ : St} {H H2 : Hp} {v : V} {r : Rs} (se : SE K H0 ps hs Γ σ H) (ro : ResOk K H (hs ++ adr Γ) H2 v r) : ResOk K H0 hs H2 v r := by
  have sub : ∀ p : Addr, ∀ a ∈ p :: hs, a ∈ p :: (hs ++ adr Γ) := fun p a m => (List.mem_cons.mp m).elim (fun z => by rw [z]; exact List.mem_cons_self) fun z => List.mem_cons_of_mem _ (List.mem_append_left _ z)
  cases r with
  | d d => exact rep_out ro
  | fl ds => obtain ⟨p, vs, h1, h2, h3, h4⟩ := ro; exact ⟨p, vs, h1, se.h0 h2, h3, h4.mono (hid_sub (sub p))⟩
  | fd es => obtain ⟨p, vs, h1, h2, h3, h4, h5⟩ := ro; exact ⟨p, vs, h1, se.h0 h2, h3, h4, h5.mono (hid_sub (sub p))⟩
  | ft es => obtain ⟨p, vs, h1, h2, h3, h4, h5⟩ := ro; exact ⟨p, vs, h1, se.h0 h2, h3, h4, h5.mono (hid_sub (sub p))⟩
theorem s_retR {e : Expr} {pos : Pos} {t : RT} (h : PE X e (Lr X.K t)) : PS X (.Return (some e) pos) (Ls X.K W (sRetR t)) := ps_imp (ps_ret h) fun D σ H ⟨H0, ps, hs, Γ, E, se, ht, r⟩ =>
  ⟨H0, ps, hs, Γ, _, se, ht, fun rr v H2 p e ro => r.rt rr Γ σ v H2 p (se.mono e) (res_out se ro)⟩
/-- return of a slot: data, or a list of one's own -/
def sRetV (i : Nat) : ST := fun E Γ => match Γ[i]? with
  | some (some (.im d)) => E.rt (.d d) Γ
  | some (some (.ml _ ds)) => E.rt (.fl ds) Γ
  | _ => False
theorem s_retV (i : Nat) {x : Str} {pos pos' : Pos} (hN : X.N[i]? = some x := by rfl) (hv : Vis X.env.scope x := by first | exact Or.inl rfl | exact Or.inr (Or.inl rfl) | exact Or.inr (Or.inr rfl)) (hd : (x == ("__debug__" : Str)) = false := by decide)
    (hcd : (x == ("__classdict__" : Str)) = false := by decide) : PS X (.Return (some (.Name x pos')) pos) (Ls X.K W (sRetV i)) := ps_imp (ps_ret (pe_var hN hv hd hcd)) fun D σ H ⟨H0, ps, hs, Γ, E, se, ht, r⟩ => by
  unfold sRetV at ht
  split at ht
  · rename_i d e
    obtain ⟨v, h1, h2⟩ := se.ok i _ e
    exact ⟨_, h1, r.rt (.d d) Γ σ _ H ht se (rep_out h2)⟩
  · rename_i l ds e
    obtain ⟨v, h1, rfl, vs, h2, h3⟩ := se.ok i _ e
    exact ⟨_, h1, r.rt (.fl ds) Γ σ _ H ht se ⟨l, vs, rfl, (se.own i _ l e rfl).2 rfl, h2, h3.mono (hid_sub fun a m => (List.mem_cons.mp m).elim (fun z => by rw [z]; exact List.mem_append_right _ (mem_adr.mpr ⟨i, _, e, rfl⟩)) fun z => List.mem_append_left _ z)⟩⟩
  · exact ht.elim
/-! ### list(range(a, b)) -/
def fLRg (ta tb : XT) : FT := fun Γ P => ta Γ fun d => tb Γ fun e => match d, e with
  | .int i, .int j => RgOk i j ∧ P (rngD i 1 (j - i).toNat)
  | _, _ => False
theorem rg_reps {K : Frag} {B : Hp} (i j : Int) : Reps K B (rgV i j) (rngD i 1 (j - i).toNat) := by
  unfold rgV rngD
  generalize (List.range (j - i).toNat) = l
  induction l with
  | nil => exact .nil
  | cons x l ih =>
    refine .cons ?_ ih
    show Rep K B (.int (i + (x : Nat))) (.int (i + (x : Nat) * 1))
    rw [Int.mul_one]
    exact .int _
theorem fx_listRg {a b : Expr} {p p2 pos pos2 : Pos} {ta tb : XT} (hc : X.calm = true) (hg : Gl X "list") (hm : X.mg "list" = none) (hg2 : Gl X "range") (hm2 : X.mg "range" = none) (ha : PE X a (Lb X.K ta)) (hb : PE X b (Lb X.K tb)) (na : starEach [a, b] X.env = (false, eval a X.env) :: starEach [b] X.env := by rfl)
    (nb : starEach [b] X.env = (false, eval b X.env) :: starEach [] X.env := by rfl) (hp : (backTo pos2 (starEach [b] X.env)).any (·.1) = false := by rfl) (nc : starEach [.Call (.Name "range" p2) [a, b] [] pos2] X.env = (false, eval (.Call (.Name "range" p2) [a, b] [] pos2) X.env) :: starEach [] X.env := by rfl) :
    PE X (.Call (.Name "list" p) [.Call (.Name "range" p2) [a, b] [] pos2] [] pos) (Lf X.K (fLRg ta tb)) := pe_imp (pe_listRg hc hg hm (prg_2 hg2 hm2 ha hb na nb hp) nc) fun σ H Q ⟨H0, ps, hs, Γ, P, se, ht, k⟩ =>
  ⟨H0, ps, hs, Γ, _, se, ht, fun d v H1 p1 e1 r1 => ⟨H0, ps, hs, Γ, _, se.mono e1, p1, fun e w H2 p2 e2 r2 => by
    split at p2
    · rename_i i j
      cases r1.intv
      cases r2.intv
      exact ⟨i, j, rfl, rfl, p2.1, fun q n => k _ q _ _ p2.2 (fresh_of (e1.trans e2) n) ((e1.trans e2).trans (Ex.new n)) upd_same (rg_reps i j)⟩
    · exact p2.elim⟩⟩
end
theorem sIf_by {c : BT} {t u : ST} {E : En} {Γ : Env} (b : Bool) (h : ∀ P : Bool → Prop, P b → c Γ P) (h1 : b = true → t E Γ) (h2 : b = false → u E Γ) : sIf c t u E Γ := h _ ⟨h1, h2⟩
theorem sIfM_by {c : BMT} {t u : ST} {E : En} {Γ : Env} (b : Bool) {Γ2 : Env} (h : ∀ P : Bool → Env → Prop, P b Γ2 → c Γ P) (h1 : b = true → t E Γ2) (h2 : b = false → u E Γ2) : sIfM c t u E Γ := h _ ⟨h1, h2⟩
theorem sIfZ_by {c : ZB} {t u : ST} {E : En} {Γ : Env} (b : Bool) {Γ2 : Env} (h : ∀ P : Bool → Env → Prop, P b Γ2 → c Γ P E.ex) (h1 : b = true → t E Γ2) (h2 : b = false → u E Γ2) : sIfZ c t u E Γ := h _ ⟨h1, h2⟩
theorem sIfZ_by0 {c : ZB} {t u : ST} {E : En} {Γ : Env} (b : Bool) (h : ∀ P : Bool → Env → Prop, P b Γ → c Γ P E.ex) (h1 : b = true → t E Γ) (h2 : b = false → u E Γ) : sIfZ c t u E Γ := h _ ⟨h1, h2⟩
end Kb
set_option Elab.async false
set_option linter.all false
set_option maxRecDepth 100000
set_option maxHeartbeats 1000000
/-! Kb22: a def that changes its first argument, called with a new list. -/
namespace Kb
open PySem L2
set_option autoImplicit false
section
variable {X : Cx} {W : WX}
def xClF (S : SM) (t0 : FT) (t : FT) : XT := fun Γ P => t0 Γ fun ds => t Γ fun as => S.S ds as fun r _ => P r.dat
theorem callF_li {S : SM} {t0 t : FT} {E : XK} (σ : St) (H : Hp) (Q : VK) (h : Li X.K (xClF S t0 t) σ H Q) : tCall (spM X.K S) [] E (tCons (Lf X.K t0) (LaS X.K t)) σ H Q := by
  obtain ⟨H0, ps, hs, Γ, P, se, ht, k⟩ := h
  refine ⟨H0, ps, hs, Γ, _, se, ht, fun ds l ws H1 p n e1 h1 r1 => ?_⟩
  refine ⟨H0, ps, l :: hs, Γ, _, se.hide n e1 (by rw [h1]; exact fun z => nomatch z), p, fun as us H2 q e2 r2 => ?_⟩
  show spM X.K S ((.ref l :: us) ++ []) H2 Q E
  rw [List.append_nil]
  have h2 := e2 _ _ h1
  have bs2 : Bs (l :: (hs ++ adr Γ)) H2 := bs_cons (by rw [h2]; exact fun z => nomatch z) (se.bs.mono (e1.trans e2))
  refine ⟨l :: (hs ++ adr Γ), l, ds, us, as, rfl, r2, bs2, List.mem_cons_self, ⟨ws, h2, r1.mono (hid_ex2 e2)⟩, S.mon _ _ _ _ (fun r z hr v H' fr _ ro => ?_) q⟩
  exact k _ v H' hr (fun a o w => fr a o (ne_of_none w n) ((e1.trans e2) a o w)) ((res_dat bs2.fresh ro).mono (hid_sub fun a m => List.mem_cons_of_mem _ m))
theorem px_callF {x : Str} {k : Nat} {S : SM} {e0 : Expr} {es : List Expr} {p pos : Pos} {t0 t : FT} (F : DfM X.prog X.w X.K X.mg X.base x k S) (hr : Room k X.A) (h0 : PE X e0 (Lf X.K t0)) (ha : PA X es (LaS X.K t)) (hg : Gl X x := by rfl) (hd2 : (x == ("__debug__" : Str)) = false := by decide)
    (he : starEach (e0 :: es) X.env = (false, eval e0 X.env) :: starEach es X.env := by rfl) (hpl : (backTo pos (starEach es X.env)).any (·.1) = false := by rfl) : PE X (.Call (.Name x p) (e0 :: es) [] pos) (Li X.K (xClF S t0 t)) := by
  obtain ⟨f, fd, ps, h1, h2, h3, h4⟩ := F.ex.ex
  exact pe_imp (pe_call h1 hr hg h2 h3 h4 .nil pass0 (pa_cons h0 ha he) hd2 he hpl) callF_li
end
end Kb
set_option Elab.async false
set_option linter.all false
set_option maxRecDepth 100000
set_option maxHeartbeats 1000000
/-! Kb23: what the top leaves of errors of one's own, read off by a hook. -/
namespace Kb
open PySem PySem.Spec PyProof.Rows L2
set_option autoImplicit false
abbrev ErV : Type := Option (Str × Str × Arguments × FuncBody × Scope × Addr × List Str × Addr)
def eInit (K : PySem.W.Frag) (x : Str) : Addr := He.ma K (He.ga K x) "__init__"
def erW (K : PySem.W.Frag) (x : Str) : ErV := match K.lookup (eInit K x) with
  | some ⟨_, _, .func fd, _⟩ => some (fd.name, fd.qualname, fd.params, fd.body, fd.scope, fd.globals, fd.closure.map (·.1), fd.builtins)
  | _ => none
/-- an error's class and its __init__ -/
structure ErrD where
  x : Str
  qual : Str
  params : Arguments
  body : List Stmt
  scope : Scope
  fl : List Str
def ErrD.val (d : ErrD) : ErV := some ("__init__", d.qual, d.params, .stmts d.body, d.scope, mainGlobals, ["__class__"], builtinsNs)
def eClsB (K : PySem.W.Frag) (C : Addr) : Bool := match K.lookup C with
  | some ⟨.type "type", _, .cls cd, sl⟩ => (match cd.mro, sl.toList with
    | .ref c :: bm, [_, _, _, _, some (.builtin n), _] => decide (c = C) && (decide (n = "ValueError.__new__") && (!cd.hasDel && (cd.hasDict && PySem.HandSPX.refsVE bm)))
    | _, _ => false)
  | _ => false
def eCodeB (K : PySem.W.Frag) (file q : Str) (cv : Value) : Bool := PySem.W.codeIn K cv q && (match cv with
  | .ref a => (match K.lookup a with
    | some ⟨_, _, .fields vs, _⟩ => (match (vs[2]? : Option Value) with
      | some (.str y _) => y == file
      | _ => false)
    | _ => false)
  | _ => false)
def eCellB (K : PySem.W.Frag) (C : Addr) (cl : List (Str × Addr)) : Bool := match cl with
  | [(_, a)] => (match K.lookup a with
    | some ⟨_, _, .cell (some (.ref c)), _⟩ => decide (c = C)
    | _ => false)
  | _ => false
def eFnB (K : PySem.W.Frag) (file q : Str) (C : Addr) (f : Addr) : Bool := match K.lookup f with
  | some ⟨_, _, .func fd, _⟩ => eCodeB K file q fd.code && (eCellB K C fd.closure && (match fd.defaults with
    | .none => true
    | _ => false))
  | _ => false
def eAtB (K : PySem.W.Frag) (C fI : Addr) (fl : List Str) : Bool :=
  He.eqO (PySem.W.findIn K (.ref C) "__getattribute__") (some (some (.builtin "BaseException.__getattribute__"))) && (He.eqO (PySem.W.findIn K (.ref C) "__getattr__") (some none) && (He.eqO (PySem.W.findIn K (.ref C) "__setattr__") (some (some (.builtin "object.__setattr__"))) && (fl.all (fun f => He.eqO (PySem.W.findIn K (.ref C) f) (some none)) &&
  (He.eqO (PySem.W.findIn K (.ref C) "__init__") (some (some (.ref fI))) && (He.eqO (PySem.W.findIn K (.ref C) "__class__") (some (some (.builtin "object.__class__"))) &&
  (decide (PySem.W.subIn K (.ref C) (.type "BaseException") = some true) && (decide (PySem.W.subIn K (.ref C) (.type "ValueError") = some true) && (decide (PySem.W.typeIn K (.ref C) = some (.type "type")) && (decide (PySem.W.typeIn K (.ref fI) = some (.type "function")) && (PySem.W.hasDictIn K C && (PySem.W.keepIn K (.ref C) && (He.eqO (PySem.W.nsIn K cStatics "thirdparty.any") (some none) && (He.eqO (PySem.W.ks_superIn K C C "__init__") (some (some (.builtin "ValueError.__init__"))) && (decide (PySem.W.mroIn K C (.ref C) = some true) && (decide (PySem.W.mroIn K C (.type "object") = some true) && (He.eqO (PySem.W.specialIn K (.builtin "object.__class__") "__get__") (some (some (.builtin "getset_descriptor.__get__"))) && (decide (PySem.W.takesIn K (.builtin "object.__class__") = some true))))))))))))))))))
def ErrD.ok (K : PySem.W.Frag) (file : Str) (d : ErrD) : Bool := eClsB K (He.ga K d.x) && (eAtB K (He.ga K d.x) (eInit K d.x) d.fl && eFnB K file d.qual (He.ga K d.x) (eInit K d.x))
def kitB2 (K : PySem.W.Frag) (q : Str × Str × Bool) : Bool := decide (PySem.W.kitOne K (.ref (He.ga K q.1)) (.ref (He.ga K q.2.1)) = some q.2.2)
/-! ### the hook -/
abbrev AlE : Type := He.AlD × Bool × List ErV
def obsX (fa : List He.Fa) (fn : List He.DefD) (er : List ErrD) (ki : List (Str × Str × Bool)) (file : Str) (bs : PySem.W.Frag → Bool) (K : PySem.W.Frag) : AlE := (He.obsD fa fn K, (er.all fun d => d.ok K file) && (ki.all (kitB2 K) && bs K), er.map fun d => erW K d.x)
def valX (fn : List He.DefD) (er : List ErrD) : AlE := (He.valD fn, true, er.map ErrD.val)
structure SaysX (fa : List He.Fa) (fn : List He.DefD) (er : List ErrD) (ki : List (Str × Str × Bool)) (file : Str) (bs : PySem.W.Frag → Bool) (K : PySem.W.Frag) : Prop where
  all : obsX fa fn er ki file bs K = valX fn er
def frX (n : Nat) (g : Addr → Option Obj) : PySem.W.Frag := He.frG g (cStatics :: He.asD g n)
def hookX (n : Nat) (fa : List He.Fa) (fn : List He.DefD) (er : List ErrD) (ki : List (Str × Str × Bool)) (file : Str) (bs : PySem.W.Frag → Bool) : PySem.W.Hook where
  α := AlE
  obs := fun s => obsX fa fn er ki file bs (frX n s.heap.get?)
  val := fun _ => valX fn er
  says := fun _ h => ∃ K : PySem.W.Frag, K.In h ∧ SaysX fa fn er ki file bs K
  of := fun _ _ e => ⟨_, He.frG_in, ⟨e⟩⟩
  keeps := fun _ _ _ ⟨K, hK, c⟩ k => ⟨K, PySem.W.Frag.In.keeps hK k, c⟩
def obX (n : Nat) (fa : List He.Fa) (fn : List He.DefD) (er : List ErrD) (ki : List (Str × Str × Bool)) (file : Str) (bs : PySem.W.Frag → Bool) (g : Addr → Option Obj) : AlE := obsX fa fn er ki file bs (frX n g)
theorem obX_eq {n : Nat} {fa : List He.Fa} {fn : List He.DefD} {er : List ErrD} {ki : List (Str × Str × Bool)} {file : Str} {bs : PySem.W.Frag → Bool} {g : Addr → Option Obj} {s : Shared} (h : ∀ a, g a = s.heap.get? a) : obX n fa fn er ki file bs g = (hookX n fa fn er ki file bs).obs s := by
  rw [show g = s.heap.get? from funext h]
  rfl
section
variable {fa : List He.Fa} {fn : List He.DefD} {ers : List ErrD} {ki : List (Str × Str × Bool)} {file : Str} {bs : PySem.W.Frag → Bool} {K : PySem.W.Frag}
theorem SaysX.d (c : SaysX fa fn ers ki file bs K) : He.SaysD fa fn K := congrArg (fun z : AlE => z.1) c.all
theorem SaysX.kit (c : SaysX fa fn ers ki file bs K) (i : Nat) {q : Str × Str × Bool} (h : ki[i]? = some q) : PySem.W.kitOne K (.ref (He.ga K q.1)) (.ref (He.ga K q.2.1)) = some q.2.2 := by
  have c2 := (He.ba (show ((ers.all fun d => d.ok K file) && (ki.all (kitB2 K) && bs K)) = true from congrArg (fun z : AlE => z.2.1) c.all)).2
  have c2 := (He.ba c2).1
  exact of_decide_eq_true (List.all_eq_true.mp c2 q (List.mem_of_getElem? h))
theorem SaysX.b (c : SaysX fa fn ers ki file bs K) : bs K = true := (He.ba (He.ba (show ((ers.all fun d => d.ok K file) && (ki.all (kitB2 K) && bs K)) = true from congrArg (fun z : AlE => z.2.1) c.all)).2).2
theorem SaysX.erd (c : SaysX fa fn ers ki file bs K) (i : Nat) {d : ErrD} (h : ers[i]? = some d) : d.ok K file = true ∧ erW K d.x = d.val := by
  have c2 := (He.ba (show ((ers.all fun d => d.ok K file) && (ki.all (kitB2 K) && bs K)) = true from congrArg (fun z : AlE => z.2.1) c.all)).1
  have e : ers.map (fun d => erW K d.x) = ers.map ErrD.val := congrArg (fun z : AlE => z.2.2) c.all
  have e2 : (ers.map fun d => erW K d.x)[i]? = (ers.map ErrD.val)[i]? := by rw [e]
  rw [List.getElem?_map, List.getElem?_map, h] at e2
  exact ⟨List.all_eq_true.mp c2 d (List.mem_of_getElem? h), Option.some.inj e2⟩
theorem cls_of {C : Addr} (h : eClsB K C = true) : ∃ nm q N bs bm sn sub ab col dd k0 k1 k2 k3 k5, K.lookup C = some (excClassObj nm q C N bs bm true sn sub ab col dd k0 k1 k2 k3 k5 "ValueError.__new__") ∧ PySem.HandSPX.refsVE bm = true := by
  unfold eClsB at h
  split at h
  · rename_i dd cd sl ho
    split at h
    · rename_i c bm k0 k1 k2 k3 n k5 em es
      obtain ⟨h1, h⟩ := He.ba h
      obtain ⟨h2, h⟩ := He.ba h
      obtain ⟨h3, h⟩ := He.ba h
      obtain ⟨h4, h5⟩ := He.ba h
      obtain ⟨nm, bs, mro, ns, qn, hd, sn, sub, ab, col, del⟩ := cd
      dsimp only at em h3 h4
      obtain rfl := of_decide_eq_true h1
      obtain rfl := of_decide_eq_true h2
      subst em h4
      cases del with
      | true => cases h3
      | false =>
        have e : sl = #[k0, k1, k2, k3, some (.builtin "ValueError.__new__"), k5] := by
          obtain ⟨l⟩ := sl
          exact congrArg Array.mk es
        rw [e] at ho
        exact ⟨nm, qn, ns, bs, bm, sn, sub, ab, col, dd, k0, k1, k2, k3, k5, ho, h5⟩
    · cases h
  · cases h
/-- what is left to show of an error's text -/
structure ErrIn (P : Program) (d : ErrD) (file : Str) : Prop where
  top : (P.main.scope.names.lookup ("super" : Str)).isSome = false
  file : ((P.main.file : Str) == file) = true
  body : ∃ (p0 p1 p2 p3 p4 p5 : Pos) (msg : Str) (j : Nat) (qs : List EQ), d.body = .Expr (.Call (.Attribute (.Call (.Name "super" p0) [] [] p1) "__init__" p2) [.Constant (.str msg) j p3] [] p4) p5 :: qs.map eStore ∧ (p2.endLine == p4.line) = true ∧ qs.map (·.1) = d.fl
  self : ∃ ar, (d.params.posonlyargs ++ d.params.args).head? = some ar ∧ ar.arg = "self"
  s1 : d.scope.names.lookup ("super" : Str) = some .globalImplicit
  s2 : d.scope.names.lookup ("__class__" : Str) = some .free
  s3 : d.scope.names.lookup ("self" : Str) = some .local
  s4 : ∀ f ∈ d.fl, d.scope.names.lookup f = some .local
  s5 : d.scope.kind = .function
  s6 : ∀ x ∈ d.scope.names, x.2 ≠ .cell
  s7 : d.scope.isCoroutine = false
  s8 : d.scope.isGenerator = false
  binds : ∀ (kV doc pm : Value) (an : Option Addr) (cdv ct : Value) (cc : Addr) (u : Value) (us : List Value), us.length = d.fl.length → bindArgs (PySem.W.ksFn "__init__" d.qual d.params d.body d.scope .none kV doc pm an cdv ct cc) ⟨u :: us, []⟩ = pure ((("self" : Str), u) :: d.fl.zip us)
  f1 : ("self" : Str) ∉ d.fl
  f2 : d.fl.Nodup
  f3 : ∀ f ∈ d.fl, (f == ("__debug__" : Str)) = false
  f4 : d.fl.length ≤ 10
theorem ErrD.facts {P : Program} {mg : Str → Option Value} {d : ErrD} {h : Heap} (X : K.In h) (G : h.Ns mainGlobals mg) (g : (He.Fa.glo d.x).ok K = true) (g2 : (He.Fa.free "super").ok K = true) (I : ErrIn P d file) (c : d.ok K file = true ∧ erW K d.x = d.val) :
    ErrTxt P K mg d.x (He.ga K d.x) (eInit K d.x) d.fl ∧ (∀ f ∈ d.fl, ErrR K (He.ga K d.x) f) ∧ ExcC K (He.ga K d.x) := by
  obtain ⟨c, e⟩ := c
  obtain ⟨cc, c⟩ := He.ba c
  obtain ⟨q, cf⟩ := He.ba c
  obtain ⟨a0, q⟩ := He.ba q
  obtain ⟨a1, q⟩ := He.ba q
  obtain ⟨a2, q⟩ := He.ba q
  obtain ⟨a3, q⟩ := He.ba q
  obtain ⟨a4, q⟩ := He.ba q
  obtain ⟨a5, q⟩ := He.ba q
  obtain ⟨a6, q⟩ := He.ba q
  obtain ⟨a7, q⟩ := He.ba q
  obtain ⟨a8, q⟩ := He.ba q
  obtain ⟨a9, q⟩ := He.ba q
  obtain ⟨a10, q⟩ := He.ba q
  obtain ⟨a11, q⟩ := He.ba q
  obtain ⟨a12, q⟩ := He.ba q
  obtain ⟨a13, q⟩ := He.ba q
  obtain ⟨a14, q⟩ := He.ba q
  obtain ⟨a15, q⟩ := He.ba q
  obtain ⟨a16, q⟩ := He.ba q
  have no : ∀ f ∈ d.fl, PySem.W.findIn K (.ref (He.ga K d.x)) f = some none := fun f hf => He.eqO_ok (List.all_eq_true.mp a3 f hf)
  refine ⟨⟨He.glo_ok X G g, He.free_ok X G g2, cls_of cc, He.eqO_ok a2, no, He.eqO_ok a4, of_decide_eq_true a9, a11, of_decide_eq_true a6, of_decide_eq_true a7, of_decide_eq_true a8, He.eqO_ok a13, of_decide_eq_true a14, He.eqO_ok a12, I.top, ?_⟩,
    fun f hf => ⟨He.eqO_ok a0, He.eqO_ok a1, no f hf, of_decide_eq_true a6, a10⟩, ⟨He.eqO_ok a0, He.eqO_ok a1, of_decide_eq_true a6, a10, He.eqO_ok a5, He.eqO_ok a16, of_decide_eq_true q, of_decide_eq_true a15⟩⟩
  obtain ⟨p0, p1, p2, p3, p4, p5, msg, j, qs, hb, hl, hq⟩ := I.body
  obtain ⟨ar, hs1, hs2⟩ := I.self
  unfold eFnB at cf
  unfold erW at e
  cases lk : K.lookup (eInit K d.x) with
  | none =>
    rw [lk] at cf
    cases cf
  | some o =>
    obtain ⟨oc, od, dt, osl⟩ := o
    rw [lk] at cf e
    cases dt with
    | func fd =>
      obtain ⟨n1, n2, n3, n4, n5, n6, n7, n8, n9, n10, n11, n12, n13, n14, n15⟩ := fd
      have e2 : (some (n1, n2, n3, n4, n5, n6, n7.map (·.1), n15) : ErV) = (some ((("__init__" : Str)), d.qual, d.params, .stmts d.body, d.scope, mainGlobals, [("__class__" : Str)], builtinsNs) : ErV) := e
      simp only [Option.some.injEq, Prod.mk.injEq] at e2
      obtain ⟨h1, h2, h3, h4, h5, h6, h7, h8⟩ := e2
      subst h1 h2 h3 h4 h5 h6 h8
      obtain ⟨k1, k⟩ := He.ba cf
      obtain ⟨k2, k3⟩ := He.ba k
      dsimp only at k1 k2 k3
      have hd : n8 = .none := by
        cases n8 <;> first | rfl | cases k3
      subst hd
      unfold eCodeB at k1
      obtain ⟨k4, k5⟩ := He.ba k1
      cases n13 with
      | ref cda =>
        dsimp only at k5
        cases lc : K.lookup cda with
        | none => rw [lc] at k5; cases k5
        | some oo =>
          obtain ⟨ccl, cdd, dd, ccs⟩ := oo
          rw [lc] at k5
          cases dd with
          | fields vs =>
            dsimp only at k5
            cases lv : (vs[2]? : Option Value) with
            | none => rw [lv] at k5; cases k5
            | some vv =>
              rw [lv] at k5
              cases vv with
              | str y tf =>
                unfold eCellB at k2
                split at k2
                · rename_i nm ca
                  have hnm : nm = "__class__" := by
                    have z : [nm] = [("__class__" : Str)] := h7
                    exact List.head_eq_of_cons_eq z
                  subst hnm
                  split at k2
                  · rename_i cl cld c csl hcell
                    obtain rfl := of_decide_eq_true k2
                    have hy : ((P.main.file : Str) == y) = true := by
                      rw [beq_iff_eq.mp k5]
                      exact I.file
                    refine ⟨oc, od, d.qual, d.params, d.scope, .none, n9, n10, n11, n12, cda, n14, ca, osl, ar, ccl, cdd, vs, ccs, y, tf, cl, cld, csl, p0, p1, p2, p3, p4, p5, msg, j, qs, ?_, k4, hl, hq, hs1, hs2, lc, lv, hy, hcell, I.s1, I.s2, I.s3, I.s4, I.s5, I.s6, I.s7, I.s8, fun s u us hus => ?_, I.f1, I.f2, I.f3, I.f4⟩
                    · rw [← hb]
                    · rw [← hb]
                      exact .of_eq (I.binds _ _ _ _ _ _ _ u us hus)
                  · cases k2
                · cases k2
              | _ => cases k5
          | _ => cases k5
      | _ => cases k5
    | _ => cases cf
/-! ### arguments in their places -/
def tuE (K : PySem.W.Frag) (a : Addr) : Bool := match K.lookup a with
  | some ⟨.type c, _, .seq its _, _⟩ => decide (c = "tuple") && decide (its.size = 0)
  | _ => false
theorem tuE_ok {a : Addr} (h : tuE K a = true) (H : Hp) : SqT K H a [] := by
  unfold tuE at h
  split at h
  · rename_i c od its m sl ho
    obtain ⟨h1, h2⟩ := He.ba h
    have z : its.size = 0 := of_decide_eq_true h2
    refine .inr ⟨_, its, m, ho, congrArg Value.type (of_decide_eq_true h1), rfl, by rw [z]; decide, ?_⟩
    have e : its.toList = [] := List.length_eq_zero_iff.mp (by rw [Array.length_toList]; exact z)
    rw [e]
    exact .nil
  · cases h
theorem arg_id {n m : Nat} : ArgRel K n m (fun vs _ => vs) (fun as _ => as) := fun B G H v0 vs zs as bs _ _ a _ => ⟨vs, rfl, a⟩
theorem arg_kw {n m : Nat} : ArgRel K n m (fun vs zs => vs ++ zs) (fun as bs => as ++ bs) := fun B G H v0 vs zs as bs _ _ a b => ⟨vs ++ zs, rfl, a.append b⟩
theorem arg_dt {n m : Nat} {a : Addr} (h : tuE K a = true) : ArgRel K n m (fun vs _ => vs ++ [.ref a]) (fun as _ => as ++ [.im (.tup [])]) := fun B G H v0 vs zs as bs _ _ x _ => ⟨vs ++ [.ref a], rfl, x.append (.cons (v := .ref a) (s := .im (.tup [])) (show Rep K B (.ref a) (.tup []) from .tup (tuE_ok h B) .nil) rfl .nil)⟩
end
end Kb
set_option Elab.async false
set_option linter.all false
set_option maxRecDepth 100000
set_option maxHeartbeats 1000000
namespace Kb
open PySem L2
set_option autoImplicit false
def top (i : Nat) : Stmt := PySem.Challenge.pw_keptbase_k62_rings_or_first_order.main.body.getD i (.Pass ⟨0, 0, 0, 0⟩)
/-- what the top has left -/
structure Tx (K : Frag) (mg : Str → Option Value) (C : Addr) : Prop where
  cl : Cls K C
  n_size : NoAttr K C "size"
  n_arrows : NoAttr K C "arrows"
  abs : mg "abs" = none
  all : mg "all" = none
  any : mg "any" = none
  enumerate : mg "enumerate" = none
  bool : mg "bool" = none
  int : mg "int" = none
  isinstance : mg "isinstance" = none
  len : mg "len" = none
  list : mg "list" = none
  min : mg "min" = none
  range : mg "range" = none
  set : mg "set" = none
  sorted : mg "sorted" = none
  tuple : mg "tuple" = none
abbrev FD (K : Frag) (x q : Str) (st : Stmt) (dvs : List V) (f : Addr) (fd : FuncData) : Prop := FunD K x q (defArgs st) (defBody st) (defScope st) dvs [] f fd
def prD (p : Int × Int) : D := .tup [.int p.1, .int p.2]
def grD (C : Addr) (n : Int) (A : List (Int × Int)) : D := .obj C [("size", .int n), ("arrows", .tup (A.map prD))]
theorem lk_arrows (a b : D) : List.lookup (Str.ofString "arrows") [(Str.ofString "size", a), (Str.ofString "arrows", b)] = some b := rfl
theorem lk_size (a b : D) : List.lookup (Str.ofString "size") [(Str.ofString "size", a), (Str.ofString "arrows", b)] = some a := rfl
theorem eqD_int (i j : Int) : eqD (.int i) (.int j) = (i == j) := rfl
theorem sh_int (n : Nat) (i : Int) : D.sh n (.int i) = true := by cases n <;> rfl
theorem sh_ints (n : Nat) (xs : List Int) : D.sh (n + 1) (.lst (xs.map D.int)) = true := by
  show (xs.map D.int).all (D.sh n) = true
  rw [List.all_map, List.all_eq_true]
  intro x _
  exact sh_int n x
theorem sh60_ints (xs : List Int) : D.sh 60 (.lst (xs.map D.int)) = true := sh_ints 59 xs
theorem inL_ints (i : Int) (xs : List Int) : inL (.int i) (xs.map D.int) = xs.contains i := by
  unfold inL
  rw [List.any_map, List.contains_eq_any_beq]
  congr 1
  funext z
  show (z == i) = (i == z)
  exact Bool.eq_iff_iff.mpr ⟨fun h => by simpa using (beq_iff_eq.mp h).symm, fun h => by simpa using (beq_iff_eq.mp h).symm⟩
def rngI (lo c : Int) (n : Nat) : List Int := (List.range n).map fun k => lo + (k : Nat) * c
theorem rngD_ints (lo c : Int) (n : Nat) : rngD lo c n = (rngI lo c n).map D.int := by
  unfold rngD rngI
  rw [List.map_map]
  rfl
abbrev nodes (n : Int) : List Int := rngI 1 1 n.toNat
theorem rngI_len (lo c : Int) (n : Nat) : (rngI lo c n).length = n := by simp [rngI]
theorem mem_nodes {n v : Int} : v ∈ nodes n ↔ 1 ≤ v ∧ v ≤ n := by
  unfold nodes rngI
  rw [List.mem_map]
  constructor
  · rintro ⟨k, hk, rfl⟩
    have := List.mem_range.mp hk
    omega
  · rintro ⟨h1, h2⟩
    exact ⟨(v - 1).toNat, List.mem_range.mpr (by omega), by omega⟩
theorem sz {n : Nat} (h : n ≤ 1000) : n ≤ sizeLine := Nat.le_trans h (by decide)
theorem sz' {n : Nat} (h : n ≤ 1000) : n < sizeLine := Nat.lt_of_le_of_lt h (by decide)
theorem nodes_len {n : Int} (h : n ≤ 1000) : (nodes n).length ≤ 1000 := by rw [rngI_len]; omega
local macro_rules | `(tactic| walk_at "r") => `(tactic| try simp only [sSeq, sNext, sRet, sRetF, sRetO, sAsg, sAsgF, sAsgM, sAsgR, rCl, rMe, sRetM, sIf, sIfM, sDrop, sDropM, sUnp, sAug, sFor, sForM, sApp, sSetI, sDPu, sDPuT, sDNew, sDNewT, sDOne, sFldI, sBreak, sCont, fLc, xDc, xF, xVar, bVar, xC, x2, b2, fAdd, fI, fI0, fB0, fEq, fNe, fIn, fIs, fIsNot, D.isN, xNeg, bTru, bNot, bAnd, bOr, bCh, xAnd, xOr, xNot, xIfE, xFld, fIx, fSl, oNo, oSo, aNil, aCons, xTup, fLst, fCat, xCall, fCall, fLen, fAbs, fInt, fList, fTuple, fIsi, D.ty, fAny, fSrt, fMin, xIdx, fSS, fDIn, xDGet, xDGetT, keyD, keysD, gN, gsN, gsC, gTu, iL, iT, iR1, iR2, iR3, iR1M, bYes, wipeE, free, Slot.ad, Slot.dat, Slot.par, axNil, axI, axB, xCl, fCl, xMe, fMe, xMk, fGen, mP, m2, bm2, mCl, mTup, mLst, mSS, amNil, amCons, gPlain, gThen, gNil, gYield, zP, zM, zTP, zD, z2, bz2, zTru, zNot, zAnd, zOr, zNil, zCons, zTup, zLst, zCl, zClX, zFld, zMkS, sAsgZ, sRetZ, sIfZ, sDropZ, sRaise, sTry, sRetR, sRetV, sRetMF, mF, mLc, iP, xR, fR, xClF, rMe0, fLRg, fSrtQ, iEnV, xEFld, fIsX, cvV, grD, prD, lk_arrows, lk_size, eqD_int, sh_int, sh60_ints, inL_ints,
  List.map_cons, List.map_nil, List.length_cons, List.length_nil, List.getElem?_cons_succ, List.getElem?_cons_zero, List.set_cons_succ, List.set_cons_zero, List.cons_append, List.nil_append, Option.isNone_none, Option.map_some, Option.map_none, true_and, and_true, if_true, if_false, rngD_ints, Int.add_sub_cancel, Bool.false_eq_true, List.length_map])
local macro_rules | `(tactic| walk_at "s") => `(tactic| try simp only [sSeq, sNext, sRet, sRetF, sRetO, sAsg, sAsgF, sAsgM, sAsgR, rCl, rMe, sRetM, sDrop, sDropM, sUnp, sAug, sFor, sForM, sApp, sSetI, sDPu, sDPuT, sDNew, sDNewT, sDOne, sFldI, sBreak, sCont, fLc, xDc, xF, xVar, bVar, xC, x2, b2, fAdd, fI, fI0, fB0, fEq, fNe, fIn, fIs, fIsNot, D.isN, xNeg, bTru, bNot, bAnd, bOr, bCh, xAnd, xOr, xNot, xIfE, xFld, fIx, fSl, oNo, oSo, aNil, aCons, xTup, fLst, fCat, xCall, fCall, fLen, fAbs, fInt, fList, fTuple, fIsi, D.ty, fAny, fSrt, fMin, xIdx, fSS, fDIn, xDGet, xDGetT, keyD, keysD, gN, gsN, gsC, gTu, iL, iT, iR1, iR2, iR3, iR1M, bYes, wipeE, free, Slot.ad, Slot.dat, Slot.par, axNil, axI, axB, xCl, fCl, xMe, fMe, xMk, fGen, mP, m2, bm2, mCl, mTup, mLst, mSS, amNil, amCons, gPlain, gThen, gNil, gYield, zP, zM, zTP, zD, z2, bz2, zTru, zNot, zAnd, zOr, zNil, zCons, zTup, zLst, zCl, zClX, zFld, zMkS, sAsgZ, sRetZ, sDropZ, sRaise, sTry, sRetR, sRetV, sRetMF, mF, mLc, iP, xR, fR, xClF, rMe0, fLRg, fSrtQ, iEnV, xEFld, fIsX, cvV, grD, prD, lk_arrows, lk_size, eqD_int, sh_int, sh60_ints, inL_ints,
  List.map_cons, List.map_nil, List.length_cons, List.length_nil, List.getElem?_cons_succ, List.getElem?_cons_zero, List.set_cons_succ, List.set_cons_zero, List.cons_append, List.nil_append, Option.isNone_none, Option.map_some, Option.map_none, true_and, and_true, if_true, if_false, rngD_ints, Int.add_sub_cancel, Bool.false_eq_true, List.length_map])
section
variable {P : Program} {w : World} {K : Frag} {mg : Str → Option Value} {base : Heap} {C f : Addr} {fd : FuncData}

/-! ### followers, enters -/
def foll (A : List (Int × Int)) (v : Int) : List Int := (A.filter fun p => p.1 == v).map (·.2)
theorem foll_len (A : List (Int × Int)) (v : Int) : (foll A v).length ≤ A.length := by
  unfold foll
  rw [List.length_map]
  exact List.length_filter_le _ _
abbrev s_Graph_followers : Stmt := inClass (top 12) 1
abbrev N_Graph_followers : List Str := ["self", "node", "x", "y"]
theorem sc_Graph_followers : FnScope N_Graph_followers ["self", "node"] (defScope s_Graph_followers) := ⟨rfl, rfl, rfl, by decide +kernel, rfl, by decide +kernel, by decide +kernel⟩
def S_followers (C : Addr) : SP := spc (α := Int × List (Int × Int) × Int) (fun x => [.im (grD C x.1 x.2.1), .im (.int x.2.2)]) (fun x => x.2.1.length ≤ 1000) fun x r => r = .fl ((foll x.2.1 x.2.2).map D.int)
theorem ok_followers (F : FD K "followers" "Graph.followers" s_Graph_followers [] f fd) (T : Tx K mg C) : FnOk P w K mg base CX0 (2 + 1) f fd ["self", "node"] (spP K (S_followers C)) := by
  refine fn_spc F sc_Graph_followers (fun x => [some (.im (grD C x.1 x.2.1)), some (.im (.int x.2.2)), none, none]) fun cdv A outer s H E hr => ?_
  refine ⟨_, (ss_one (s_retF (fx_lc (own := [("x", 2), ("y", 3)]) rfl sc_Graph_followers.nd (ib (il_tup (px_fld T.cl T.n_arrows (bx_var 0)))) (blkOk_by (N := N_Graph_followers) (sc := defScope s_Graph_followers) (by decide +kernel)) (fun _ _ _ _ _ => (gx_tup (n := 2) rfl (gx_cons (gx_name (i := 2) sc_Graph_followers.nd) (gx_cons (gx_name (i := 3) sc_Graph_followers.nd) gx_nil)))) (fun _ _ _ _ _ => (tts_one (tx_eq hr (bx_var 2) (bx_var 1)))) (fun _ _ _ _ _ => (px_var 3))))), ?_⟩
  rintro ⟨n, A, v⟩ R hA hR
  walk_at "r"
  refine lcbF (fun p => p.1 == v) (fun p => .int p.2) (Nat.le_trans hA (by decide)) (fun p _ => ?_) (hR _ ?_)
  · walk_at "r"
    exact ⟨fun h => by rw [h]; rfl, fun h => by rw [h]; rfl⟩
  · unfold foll
    rw [List.map_map]
    rfl
def entersB (A : List (Int × Int)) (v : Int) (goals : List Int) : Bool := (foll A v).any fun y => goals.contains y
abbrev s_Graph_enters : Stmt := inClass (top 12) 3
abbrev N_Graph_enters : List Str := ["self", "node", "goals", "y"]
theorem sc_Graph_enters : FnScope N_Graph_enters ["self", "node", "goals"] (defScope s_Graph_enters) := ⟨rfl, rfl, rfl, by decide +kernel, rfl, by decide +kernel, by decide +kernel⟩
def S_enters (C : Addr) : SP := spc (α := (Int × List (Int × Int)) × Int × List Int) (fun x => [.im (grD C x.1.1 x.1.2), .im (.int x.2.1), .bo (.lst (x.2.2.map D.int))]) (fun x => x.1.2.length ≤ 1000) fun x r => r = .d (.bl (entersB x.1.2 x.2.1 x.2.2))
theorem ok_enters (F : FD K "enters" "Graph.enters" s_Graph_enters [] f fd) (T : Tx K mg C) (D_Graph_followers : Dm P w K mg base C "followers" 3 (spP K (S_followers C))) : FnOk P w K mg base CX0 (3 + 1) f fd ["self", "node", "goals"] (spP K (S_enters C)) := by
  refine fn_spc F sc_Graph_enters (fun x => [some (.im (grD C x.1.1 x.1.2)), some (.im (.int x.2.1)), some (.bo (.lst (x.2.2.map D.int))), none]) fun cdv A outer s H E hr => ?_
  refine ⟨_, (ss_one (s_ret (px_any rfl rfl T.any (bx (px_f (fx_lc (own := [("y", 3)]) rfl sc_Graph_enters.nd (ib_list (bx (px_f (fx_meth T.cl D_Graph_followers (hr.mono (by decide)) (px_var 0) (ax_i (px_var 1) ax_nil))))) (blkOk_by (N := N_Graph_enters) (sc := defScope s_Graph_enters) (by decide +kernel)) (fun _ _ _ _ _ => (gx_name (i := 3) sc_Graph_enters.nd)) (fun _ _ _ _ _ => tts_nil) (fun _ _ _ _ _ => (px_in hr (bx_var 3) (bx_var 2))))))))), ?_⟩
  rintro ⟨⟨n, A⟩, v, gs⟩ R hA hR
  walk_at "r"
  refine ⟨rfl, (n, A, v), rfl, hA, ?_⟩
  rintro _ rfl
  walk_at "r"
  refine lcbM (fun y => .bl (gs.contains y)) (sz (Nat.le_trans (foll_len A v) hA)) (fun y _ => ?_) ⟨(foll A v).map fun y => gs.contains y, ?_, hR _ ?_⟩
  · walk_at "r"
    exact ⟨fun _ => trivial, fun h => by cases h⟩
  · rw [List.map_map]; rfl
  · unfold entersB
    rw [List.any_map]
    rfl
/-! ### free_nodes, completed, first_order, next_order -/
def freeN (n : Int) (A : List (Int × Int)) (placed : List Int) : List Int := (nodes n).filter fun v => !placed.contains v && !(A.any fun p => !placed.contains p.1 && p.2 == v)
theorem putG_has {κ β : Type} [DecidableEq κ] (es : List (κ × β)) (k j : κ) (d : β) : (valG (putG es k d) j).isSome = ((valG es j).isSome || decide (k = j)) := by
  have any : ∀ (l : List (κ × β)) (q : κ), (valG l q).isSome = l.any fun kv => decide (kv.1 = q) := fun l q => by
    unfold valG
    induction l with
    | nil => rfl
    | cons x l ih => by_cases h : x.1 = q <;> simp [List.find?_cons, h, ih] <;> simpa using ih
  rw [any, any]
  unfold putG
  split
  · rename_i h
    have e : (es.map fun kv => if kv.1 = k then (kv.1, d) else kv).any (fun kv => decide (kv.1 = j)) = es.any fun kv => decide (kv.1 = j) := by
      rw [List.any_map]
      congr 1
      funext kv
      show decide ((if kv.1 = k then (kv.1, d) else kv).1 = j) = _
      split <;> rfl
    rw [e]
    by_cases z : k = j
    · subst z
      rw [h]; simp
    · simp [z]
  · rw [List.any_append]
    simp
theorem putAll_has {κ β : Type} [DecidableEq κ] (more : List (κ × β)) (es : List (κ × β)) (j : κ) : (valG (putAll es more) j).isSome = ((valG es j).isSome || more.any fun kv => decide (kv.1 = j)) := by
  induction more generalizing es with
  | nil => simp [putAll]
  | cons x more ih =>
    show (valG (putAll (putG es x.1 x.2) more) j).isSome = _
    rw [ih, putG_has, List.any_cons, Bool.or_assoc]
abbrev s_free_nodes : Stmt := top 8
abbrev N_free_nodes : List Str := ["graph", "placed", "held", "x", "y", "node"]
theorem sc_free_nodes : FnScope N_free_nodes ["graph", "placed"] (defScope s_free_nodes) := ⟨rfl, rfl, rfl, by decide +kernel, rfl, by decide +kernel, by decide +kernel⟩
def S_free (C : Addr) : SP := spc (α := (Int × List (Int × Int)) × List Int) (fun x => [.im (grD C x.1.1 x.1.2), .bo (.lst (x.2.map D.int))]) (fun x => x.1.2.length ≤ 1000 ∧ -1000 ≤ x.1.1 ∧ x.1.1 ≤ 1000) fun x r => r = .fl ((freeN x.1.1 x.1.2 x.2).map D.int)
theorem ok_free (F : FD K "free_nodes" "free_nodes" s_free_nodes [] f fd) (T : Tx K mg C) : FnOk P w K mg base CX0 (2 + 1) f fd ["graph", "placed"] (spP K (S_free C)) := by
  refine fn_spc F sc_free_nodes (fun x => [some (.im (grD C x.1.1 x.1.2)), some (.bo (.lst (x.2.map D.int))), none, none, none, none]) fun cdv A outer s H E hr => ?_
  refine ⟨_, (ss_cons (s_asg (i := 2) sc_free_nodes.nd (px_dc (own := [("x", 3), ("y", 4)]) rfl sc_free_nodes.nd (ib (il_tup (px_fld T.cl T.n_arrows (bx_var 0)))) (blkOk_by (N := N_free_nodes) (sc := defScope s_free_nodes) (by decide +kernel)) (fun _ _ _ _ _ => (gx_tup (n := 2) rfl (gx_cons (gx_name (i := 3) sc_free_nodes.nd) (gx_cons (gx_name (i := 4) sc_free_nodes.nd) gx_nil)))) (fun _ _ _ _ _ => (tts_one (tx_nin hr (bx_var 3) (bx_var 1)))) (fun _ _ _ _ _ => (px_var 4)) (fun _ _ _ _ _ => px_bl)))
      (ss_one (s_retF (fx_lc (own := [("node", 5)]) rfl sc_free_nodes.nd (ib (il_r2 rfl T.range (aw_cons (bx px_int) (aw_cons (bx (px_add (bx (px_fld T.cl T.n_size (bx_var 0))) (bx px_int))) aw_nil)))) (blkOk_by (N := N_free_nodes) (sc := defScope s_free_nodes) (by decide +kernel)) (fun _ _ _ _ _ => (gx_name (i := 5) sc_free_nodes.nd)) (fun _ _ _ _ _ => (tts_one (tx_w (tw_and (tx_nin hr (bx_var 5) (bx_var 1)) (tw_and1 (tx_dnin hr (bx_var 5) (bx_var 2))))))) (fun _ _ _ _ _ => (px_var 5)))))), ?_⟩
  rintro ⟨⟨n, A⟩, pl⟩ R ⟨hA, hn0, hn⟩ hR
  dsimp only at hA hn0 hn hR
  walk_at "r"
  refine dcb (fun p => if !pl.contains p.1 then some (Sum.inl p.2, .bl true) else none) (sz hA) (fun p _ => ?_) ?_
  · walk_at "r"
    exact ⟨fun h => ⟨_, rfl, by rw [h]; rfl⟩, fun h => by rw [h]; rfl⟩
  · walk_at "r"
    refine ⟨⟨by decide, by decide, by omega, by omega⟩, ?_⟩
    refine lcbF (fun v => !pl.contains v && !(A.any fun p => !pl.contains p.1 && p.2 == v)) D.int (sz (nodes_len hn)) (fun v _ => ?_) (hR _ rfl)
    have hh : (valG (putAll [] (A.filterMap fun p => if (!pl.contains p.1) = true then some ((Sum.inl p.2 : Key), D.bl true) else none)) (Sum.inl v)).isSome = A.any fun p => !pl.contains p.1 && p.2 == v := by
      rw [putAll_has]
      show (false || _) = _
      rw [Bool.false_or, fm_if, List.any_map, List.any_filter]
      congr 1
      funext p
      show (!pl.contains p.1 && decide ((Sum.inl p.2 : Key) = Sum.inl v)) = _
      rw [key_ll]
    walk_at "r"
    rw [hh]
    refine ⟨fun h => ⟨fun h2 => by rw [h, h2]; rfl, fun h2 => by rw [h, h2]; rfl⟩, fun h => ⟨fun z => (by cases z), fun _ => by rw [h]; rfl⟩⟩
end
end Kb
set_option Elab.async false
set_option linter.all false
set_option maxRecDepth 100000
set_option maxHeartbeats 1000000
namespace Kb
open PySem L2
set_option autoImplicit false
local macro_rules | `(tactic| walk_at "r") => `(tactic| try simp only [sSeq, sNext, sRet, sRetF, sRetO, sAsg, sAsgF, sAsgM, sAsgR, rCl, rMe, sRetM, sIf, sIfM, sDrop, sDropM, sUnp, sAug, sFor, sForM, sApp, sSetI, sDPu, sDPuT, sDNew, sDNewT, sDOne, sFldI, sBreak, sCont, fLc, xDc, xF, xVar, bVar, xC, x2, b2, fAdd, fI, fI0, fB0, fEq, fNe, fIn, fIs, fIsNot, D.isN, xNeg, bTru, bNot, bAnd, bOr, bCh, xAnd, xOr, xNot, xIfE, xFld, fIx, fSl, oNo, oSo, aNil, aCons, xTup, fLst, fCat, xCall, fCall, fLen, fAbs, fInt, fList, fTuple, fIsi, D.ty, fAny, fSrt, fMin, xIdx, fSS, fDIn, xDGet, xDGetT, keyD, keysD, gN, gsN, gsC, gTu, iL, iT, iR1, iR2, iR3, iR1M, bYes, wipeE, free, Slot.ad, Slot.dat, Slot.par, axNil, axI, axB, xCl, fCl, xMe, fMe, xMk, fGen, mP, m2, bm2, mCl, mTup, mLst, mSS, amNil, amCons, gPlain, gThen, gNil, gYield, zP, zM, zTP, zD, z2, bz2, zTru, zNot, zAnd, zOr, zNil, zCons, zTup, zLst, zCl, zClX, zFld, zMkS, sAsgZ, sRetZ, sIfZ, sDropZ, sRaise, sTry, sRetR, sRetV, sRetMF, mF, mLc, iP, xR, fR, xClF, rMe0, fLRg, fSrtQ, iEnV, xEFld, fIsX, cvV, grD, prD, lk_arrows, lk_size, eqD_int, sh_int, sh60_ints, inL_ints,
  List.map_cons, List.map_nil, List.length_cons, List.length_nil, List.getElem?_cons_succ, List.getElem?_cons_zero, List.set_cons_succ, List.set_cons_zero, List.cons_append, List.nil_append, Option.isNone_none, Option.map_some, Option.map_none, true_and, and_true, if_true, if_false, rngD_ints, Int.add_sub_cancel, Bool.false_eq_true, List.length_map])
local macro_rules | `(tactic| walk_at "s") => `(tactic| try simp only [sSeq, sNext, sRet, sRetF, sRetO, sAsg, sAsgF, sAsgM, sAsgR, rCl, rMe, sRetM, sDrop, sDropM, sUnp, sAug, sFor, sForM, sApp, sSetI, sDPu, sDPuT, sDNew, sDNewT, sDOne, sFldI, sBreak, sCont, fLc, xDc, xF, xVar, bVar, xC, x2, b2, fAdd, fI, fI0, fB0, fEq, fNe, fIn, fIs, fIsNot, D.isN, xNeg, bTru, bNot, bAnd, bOr, bCh, xAnd, xOr, xNot, xIfE, xFld, fIx, fSl, oNo, oSo, aNil, aCons, xTup, fLst, fCat, xCall, fCall, fLen, fAbs, fInt, fList, fTuple, fIsi, D.ty, fAny, fSrt, fMin, xIdx, fSS, fDIn, xDGet, xDGetT, keyD, keysD, gN, gsN, gsC, gTu, iL, iT, iR1, iR2, iR3, iR1M, bYes, wipeE, free, Slot.ad, Slot.dat, Slot.par, axNil, axI, axB, xCl, fCl, xMe, fMe, xMk, fGen, mP, m2, bm2, mCl, mTup, mLst, mSS, amNil, amCons, gPlain, gThen, gNil, gYield, zP, zM, zTP, zD, z2, bz2, zTru, zNot, zAnd, zOr, zNil, zCons, zTup, zLst, zCl, zClX, zFld, zMkS, sAsgZ, sRetZ, sDropZ, sRaise, sTry, sRetR, sRetV, sRetMF, mF, mLc, iP, xR, fR, xClF, rMe0, fLRg, fSrtQ, iEnV, xEFld, fIsX, cvV, grD, prD, lk_arrows, lk_size, eqD_int, sh_int, sh60_ints, inL_ints,
  List.map_cons, List.map_nil, List.length_cons, List.length_nil, List.getElem?_cons_succ, List.getElem?_cons_zero, List.set_cons_succ, List.set_cons_zero, List.cons_append, List.nil_append, Option.isNone_none, Option.map_some, Option.map_none, true_and, and_true, if_true, if_false, rngD_ints, Int.add_sub_cancel, Bool.false_eq_true, List.length_map])
section
variable {P : Program} {w : World} {K : Frag} {mg : Str → Option Value} {base : Heap} {C f : Addr} {fd : FuncData}
def compl (n : Int) (A : List (Int × Int)) : Nat → List Int → Option (List Int)
  | 0, o => some o
  | m + 1, o => match freeN n A o with
    | [] => none
    | v :: _ => compl n A m (o ++ [v])
def optL : Option (List Int) → Rs
  | none => .d .non
  | some o => .fl (o.map D.int)
theorem dint_inj {xs ys : List Int} (h : xs.map D.int = ys.map D.int) : xs = ys := by
  induction xs generalizing ys with
  | nil => cases ys with
    | nil => rfl
    | cons y ys => cases h
  | cons x xs ih => cases ys with
    | nil => cases h
    | cons y ys =>
      simp only [List.map_cons, List.cons.injEq, D.int.injEq] at h
      rw [h.1, ih h.2]
/-! ### completed -/
abbrev s_completed : Stmt := top 9
abbrev N_completed : List Str := ["graph", "beginning", "order", "free"]
theorem sc_completed : FnScope N_completed ["graph", "beginning"] (defScope s_completed) := ⟨rfl, rfl, rfl, by decide +kernel, rfl, by decide +kernel, by decide +kernel⟩
def S_compl (C : Addr) : SP := spc (α := (Int × List (Int × Int)) × List Int) (fun x => [.im (grD C x.1.1 x.1.2), .im (.lst (x.2.map D.int))]) (fun x => x.1.2.length ≤ 1000 ∧ 0 ≤ x.1.1 ∧ x.1.1 ≤ 900 ∧ (x.2.length : Int) ≤ x.1.1)
  fun x r => r = optL (compl x.1.1 x.1.2 (x.1.1.toNat - x.2.length) x.2)
theorem ok_compl (F : FD K "completed" "completed" s_completed [] f fd) (T : Tx K mg C) (D_free_nodes : Df P w K mg base "free_nodes" 3 (spP K (S_free C))) : FnOk P w K mg base CX0 (3 + 1) f fd ["graph", "beginning"] (spP K (S_compl C)) := by
  refine fn_spc F sc_completed (fun x => [some (.im (grD C x.1.1 x.1.2)), some (.im (.lst (x.2.map D.int))), none, none]) fun cdv A outer s H E hr => ?_
  refine ⟨_, (ss_cons (s_asgF (i := 2) sc_completed.nd (fx_list rfl T.list (bx_var 1)))
      (ss_cons (s_while PassesOwn.never (tx_lt (bx (px_len rfl T.len (bx_var 2))) (bx (px_fld T.cl T.n_size (bx_var 0)))) (ss_cons (s_asg (i := 3) sc_completed.nd (px_f (fx_call D_free_nodes (hr.mono (by decide)) (ax_i (px_var 0) (ax_b (bx_var 2) ax_nil)))))
      (ss_cons (s_if (tx_not (tx_tru (bx_var 3))) (ss_one (s_ret px_non)) ss_nil)
      (ss_one (s_app 2 (px_ix (bx_var 3) (bx px_int)))))))
      (ss_one (s_retO 2)))), ?_⟩
  rintro ⟨⟨n, A⟩, bg⟩ R ⟨hA, hn0, hn, hb⟩ hR
  dsimp only at hA hn0 hn hb hR
  walk_at "r"
  intro l hl
  refine ⟨fun m Γ => ∃ (o : List Int) (fr : Option D), Γ = [some (.im (grD C n A)), some (.im (.lst (bg.map D.int))), some (.ml l (o.map D.int)), fr.map Slot.im] ∧ (o.length : Int) ≤ n ∧ m = n.toNat - o.length ∧ compl n A (n.toNat - bg.length) bg = compl n A m o,
    ⟨_, bg, none, rfl, hb, rfl, rfl⟩, ?_⟩
  rintro m Γ ⟨o, fr, rfl, ho, rfl, he⟩
  walk_at "r"
  refine ⟨fun h => ?_, fun h => hR _ ?_⟩
  · have hlt : (o.length : Int) < n := of_decide_eq_true h
    refine ⟨((n, A), o), rfl, ⟨hA, by dsimp only; omega, by dsimp only; omega⟩, ?_⟩
    rintro _ rfl
    dsimp only
    obtain ⟨k, hk⟩ : ∃ k, n.toNat - o.length = k + 1 := ⟨n.toNat - o.length - 1, by omega⟩
    cases hf : freeN n A o with
    | nil =>
      refine ⟨fun _ => hR _ ?_, fun z => ?_⟩
      · rw [he, hk, compl, hf]; rfl
      · simp at z
    | cons v vs =>
      refine ⟨fun z => ?_, fun _ => ?_⟩
      · simp at z
      · have hat : atI ((v :: vs).map D.int) 0 = some (.int v) := atI_nat (j := 0) rfl
        rw [hat]
        refine ⟨sz' (by omega), k, by omega, o ++ [v], some (.lst ((v :: vs).map D.int)), ?_, ?_, ?_, ?_⟩
        · simp only [List.map_append, List.map_cons, List.map_nil, Option.map_some, grD]
        · simp; omega
        · simp; omega
        · rw [he, hk, compl, hf]
  · have hge : ¬ (o.length : Int) < n := of_decide_eq_false h
    have e0 : n.toNat - o.length = 0 := by omega
    rw [he, e0]
    rfl
/-! ### first_order -/
abbrev s_first_order : Stmt := top 10
abbrev N_first_order : List Str := ["graph"]
theorem sc_first_order : FnScope N_first_order ["graph"] (defScope s_first_order) := ⟨rfl, rfl, rfl, by decide +kernel, rfl, by decide +kernel, by decide +kernel⟩
def S_first (C : Addr) : SP := spc (α := Int × List (Int × Int)) (fun x => [.im (grD C x.1 x.2)]) (fun x => x.2.length ≤ 1000 ∧ 0 ≤ x.1 ∧ x.1 ≤ 900) fun x r => r = optL (compl x.1 x.2 x.1.toNat [])
theorem ok_first (F : FD K "first_order" "first_order" s_first_order [] f fd) (T : Tx K mg C) (D_completed : Df P w K mg base "completed" 4 (spP K (S_compl C))) : FnOk P w K mg base CX0 (4 + 1) f fd ["graph"] (spP K (S_first C)) := by
  refine fn_spc F sc_first_order (fun x => [some (.im (grD C x.1 x.2))]) fun cdv A outer s H E hr => ?_
  refine ⟨_, (ss_one (s_retR (rx_call D_completed (hr.mono (by decide)) (ax_i (px_var 0) (ax_i (px_f (fx_lst as_nil)) ax_nil))))), ?_⟩
  rintro ⟨n, A⟩ R ⟨hA, hn0, hn⟩ hR
  dsimp only at hA hn0 hn hR
  walk_at "r"
  refine ⟨by decide, ((n, A), []), rfl, ⟨hA, hn0, hn, hn0⟩, ?_⟩
  rintro _ rfl
  exact hR _ rfl
/-! ### next_order -/
def nextO (n : Int) (A : List (Int × Int)) (o : List Int) : Nat → Option (List Int)
  | 0 => none
  | k + 1 => match (freeN n A (o.take k)).filter (fun v => decide (o.getD k 0 < v)) with
    | [] => nextO n A o k
    | v :: _ => compl n A (n.toNat - (k + 1)) (o.take k ++ [v])
theorem cut_take (xs : List D) (k : Nat) (h : k ≤ xs.length) : cutD xs none (some (k : Int)) = xs.take k := by
  unfold cutD HT.sIx
  have h0 : ¬ ((k : Int) < 0) := by omega
  simp only [h0, if_false]
  simp
theorem rngI_split {lo c : Int} {m : Nat} {pre post : List Int} {x : Int} (h : rngI lo c m = pre ++ x :: post) : x = lo + (pre.length : Nat) * c ∧ pre.length < m := by
  have hl := congrArg List.length h
  rw [rngI_len] at hl
  simp at hl
  have hx : (rngI lo c m)[pre.length]? = some x := by rw [h]; simp
  have hlt : pre.length < m := by omega
  unfold rngI at hx
  rw [List.getElem?_map, List.getElem?_range hlt] at hx
  simp at hx
  exact ⟨hx.symm, hlt⟩
/-! ### orders -/
/-- L is the list that first_order and next_order walk -/
def Chn (n : Int) (A : List (Int × Int)) (L : List (List Int)) : Prop := compl n A n.toNat [] = L.head? ∧ (∀ o ∈ L, o.length = n.toNat) ∧ ∀ (i : Nat) (o : List Int), L[i]? = some o → nextO n A o n.toNat = L[i + 1]?
def lstD (o : List Int) : D := .lst (o.map D.int)
end
end Kb
set_option Elab.async false
set_option linter.all false
set_option maxRecDepth 100000
set_option maxHeartbeats 1000000
namespace Kb
open PySem L2
set_option autoImplicit false
local macro_rules | `(tactic| walk_at "r") => `(tactic| try simp only [sSeq, sNext, sRet, sRetF, sRetO, sAsg, sAsgF, sAsgM, sAsgR, rCl, rMe, sRetM, sIf, sIfM, sDrop, sDropM, sUnp, sAug, sFor, sForM, sApp, sSetI, sDPu, sDPuT, sDNew, sDNewT, sDOne, sFldI, sBreak, sCont, fLc, xDc, xF, xVar, bVar, xC, x2, b2, fAdd, fI, fI0, fB0, fEq, fNe, fIn, fIs, fIsNot, D.isN, xNeg, bTru, bNot, bAnd, bOr, bCh, xAnd, xOr, xNot, xIfE, xFld, fIx, fSl, oNo, oSo, aNil, aCons, xTup, fLst, fCat, xCall, fCall, fLen, fAbs, fInt, fList, fTuple, fIsi, D.ty, fAny, fSrt, fMin, xIdx, fSS, fDIn, xDGet, xDGetT, keyD, keysD, gN, gsN, gsC, gTu, iL, iT, iR1, iR2, iR3, iR1M, bYes, wipeE, free, Slot.ad, Slot.dat, Slot.par, axNil, axI, axB, xCl, fCl, xMe, fMe, xMk, fGen, mP, m2, bm2, mCl, mTup, mLst, mSS, amNil, amCons, gPlain, gThen, gNil, gYield, zP, zM, zTP, zD, z2, bz2, zTru, zNot, zAnd, zOr, zNil, zCons, zTup, zLst, zCl, zClX, zFld, zMkS, sAsgZ, sRetZ, sIfZ, sDropZ, sRaise, sTry, sRetR, sRetV, sRetMF, mF, mLc, iP, xR, fR, xClF, rMe0, fLRg, fSrtQ, iEnV, xEFld, fIsX, cvV, grD, prD, lk_arrows, lk_size, eqD_int, sh_int, sh60_ints, inL_ints,
  List.map_cons, List.map_nil, List.length_cons, List.length_nil, List.getElem?_cons_succ, List.getElem?_cons_zero, List.set_cons_succ, List.set_cons_zero, List.cons_append, List.nil_append, Option.isNone_none, Option.map_some, Option.map_none, true_and, and_true, if_true, if_false, rngD_ints, Int.add_sub_cancel, Bool.false_eq_true, List.length_map])
local macro_rules | `(tactic| walk_at "s") => `(tactic| try simp only [sSeq, sNext, sRet, sRetF, sRetO, sAsg, sAsgF, sAsgM, sAsgR, rCl, rMe, sRetM, sDrop, sDropM, sUnp, sAug, sFor, sForM, sApp, sSetI, sDPu, sDPuT, sDNew, sDNewT, sDOne, sFldI, sBreak, sCont, fLc, xDc, xF, xVar, bVar, xC, x2, b2, fAdd, fI, fI0, fB0, fEq, fNe, fIn, fIs, fIsNot, D.isN, xNeg, bTru, bNot, bAnd, bOr, bCh, xAnd, xOr, xNot, xIfE, xFld, fIx, fSl, oNo, oSo, aNil, aCons, xTup, fLst, fCat, xCall, fCall, fLen, fAbs, fInt, fList, fTuple, fIsi, D.ty, fAny, fSrt, fMin, xIdx, fSS, fDIn, xDGet, xDGetT, keyD, keysD, gN, gsN, gsC, gTu, iL, iT, iR1, iR2, iR3, iR1M, bYes, wipeE, free, Slot.ad, Slot.dat, Slot.par, axNil, axI, axB, xCl, fCl, xMe, fMe, xMk, fGen, mP, m2, bm2, mCl, mTup, mLst, mSS, amNil, amCons, gPlain, gThen, gNil, gYield, zP, zM, zTP, zD, z2, bz2, zTru, zNot, zAnd, zOr, zNil, zCons, zTup, zLst, zCl, zClX, zFld, zMkS, sAsgZ, sRetZ, sDropZ, sRaise, sTry, sRetR, sRetV, sRetMF, mF, mLc, iP, xR, fR, xClF, rMe0, fLRg, fSrtQ, iEnV, xEFld, fIsX, cvV, grD, prD, lk_arrows, lk_size, eqD_int, sh_int, sh60_ints, inL_ints,
  List.map_cons, List.map_nil, List.length_cons, List.length_nil, List.getElem?_cons_succ, List.getElem?_cons_zero, List.set_cons_succ, List.set_cons_zero, List.cons_append, List.nil_append, Option.isNone_none, Option.map_some, Option.map_none, true_and, and_true, if_true, if_false, rngD_ints, Int.add_sub_cancel, Bool.false_eq_true, List.length_map])
section
variable {P : Program} {w : World} {K : Frag} {mg : Str → Option Value} {base : Heap} {C f : Addr} {fd : FuncData}
/-- a walk of k arrows leads from v to g -/
def Rk (A : List (Int × Int)) (g : Int) : Nat → Int → Bool
  | 0, v => v == g
  | k + 1, v => (foll A v).any (Rk A g k)
def Dist (A : List (Int × Int)) (g v : Int) (k : Nat) : Prop := Rk A g k v = true ∧ ∀ j, j < k → Rk A g j v = false
def stE (p : Int × Nat) : Key × D := (.inl p.1, .int p.2)
/-- es tells the distances up to c -/
def StepsTo (n : Int) (A : List (Int × Int)) (g : Int) (c : Nat) (es : List (Int × Nat)) : Prop := (es.map (·.1)).Nodup ∧ ∀ v d, (v, d) ∈ es ↔ v ∈ nodes n ∧ Dist A g v d ∧ d ≤ c
def StepsAll (n : Int) (A : List (Int × Int)) (g : Int) (es : List (Int × Nat)) : Prop := (es.map (·.1)).Nodup ∧ ∀ v d, (v, d) ∈ es ↔ v ∈ nodes n ∧ Dist A g v d
def GOk (n : Int) (A : List (Int × Int)) : Prop := ∀ p ∈ A, p.1 ∈ nodes n ∧ p.2 ∈ nodes n ∧ p.1 ≠ p.2
theorem dist_uniq {A : List (Int × Int)} {g v : Int} {j k : Nat} (h1 : Dist A g v j) (h2 : Dist A g v k) : j = k := by
  rcases Nat.lt_trichotomy j k with h | h | h
  · have := h2.2 j h; rw [h1.1] at this; cases this
  · exact h
  · have := h1.2 k h; rw [h2.1] at this; cases this
theorem mem_foll {A : List (Int × Int)} {v y : Int} : y ∈ foll A v ↔ (v, y) ∈ A := by
  unfold foll
  rw [List.mem_map]
  constructor
  · rintro ⟨⟨a, b⟩, h, rfl⟩
    have := List.mem_filter.mp h
    simp at this
    rw [← this.2]; exact this.1
  · intro h
    exact ⟨(v, y), List.mem_filter.mpr ⟨h, by simp⟩, rfl⟩
theorem dist_succ {A : List (Int × Int)} {g v : Int} {c : Nat} (h : Dist A g v (c + 1)) : ∃ y, y ∈ foll A v ∧ Dist A g y c := by
  obtain ⟨y, hy, hr⟩ := List.any_eq_true.mp h.1
  refine ⟨y, hy, hr, fun j hj => ?_⟩
  cases hb : Rk A g j y with
  | false => rfl
  | true =>
    have := h.2 (j + 1) (by omega)
    have q : Rk A g (j + 1) v = true := List.any_eq_true.mpr ⟨y, hy, hb⟩
    rw [q] at this; cases this
/-- the next front -/
theorem front_next {n : Int} {A : List (Int × Int)} {g : Int} {c : Nat} {es : List (Int × Nat)} {fr : List Int} (ok : GOk n A) (hs : StepsTo n A g c es) (hf : ∀ v, v ∈ fr ↔ v ∈ nodes n ∧ Dist A g v c) (x : Int) :
    x ∈ (nodes n).filter (fun x => !(es.map (·.1)).contains x && entersB A x fr) ↔ x ∈ nodes n ∧ Dist A g x (c + 1) := by
  rw [List.mem_filter, Bool.and_eq_true, Bool.not_eq_true']
  constructor
  · rintro ⟨hx, h1, h2⟩
    refine ⟨hx, ?_⟩
    obtain ⟨y, hy, hyf⟩ := List.any_eq_true.mp h2
    have hyf' : y ∈ fr := by simpa using hyf
    obtain ⟨hyn, hyd⟩ := (hf y).mp hyf'
    have hr : Rk A g (c + 1) x = true := List.any_eq_true.mpr ⟨y, hy, hyd.1⟩
    have hno : x ∉ es.map (·.1) := by simpa using h1
    refine ⟨hr, fun j hj => ?_⟩
    cases hb : Rk A g j x with
    | false => rfl
    | true =>
      -- a least such j stands in es
      exfalso
      have least : ∀ m : Nat, Rk A g m x = true → ∃ k, k ≤ m ∧ Dist A g x k := by
        intro m
        induction m using Nat.strongRecOn with
        | _ m ih =>
          intro hm
          by_cases hex : ∃ i, i < m ∧ Rk A g i x = true
          · obtain ⟨i, hi, hi2⟩ := hex
            obtain ⟨k, hk, hd⟩ := ih i hi hi2
            exact ⟨k, by omega, hd⟩
          · refine ⟨m, Nat.le_refl _, hm, fun i hi => ?_⟩
            cases hz : Rk A g i x with
            | false => rfl
            | true => exact absurd ⟨i, hi, hz⟩ hex
      obtain ⟨k, hk, hd⟩ := least j hb
      exact hno (List.mem_map.mpr ⟨(x, k), (hs.2 x k).mpr ⟨hx, hd, by omega⟩, rfl⟩)
  · rintro ⟨hx, hd⟩
    refine ⟨hx, ?_, ?_⟩
    · have : x ∉ es.map (·.1) := by
        intro hm
        obtain ⟨⟨a, k⟩, hp, rfl⟩ := List.mem_map.mp hm
        obtain ⟨_, hd', hk⟩ := (hs.2 _ _).mp hp
        have := dist_uniq hd hd'
        omega
      simpa using this
    · obtain ⟨y, hy, hyd⟩ := dist_succ hd
      have hyn : y ∈ nodes n := (ok _ (mem_foll.mp hy)).2.1
      exact List.any_eq_true.mpr ⟨y, hy, by simpa using (hf y).mpr ⟨hyn, hyd⟩⟩
theorem valG_st (es : List (Int × Nat)) (v : Int) : (valG (es.map stE) (Sum.inl v)).isSome = (es.map (·.1)).contains v := by
  induction es with
  | nil => rfl
  | cons p es ih =>
    rw [List.map_cons, valG_cons, List.map_cons, List.contains_cons]
    by_cases h : p.1 = v
    · simp [stE, h]
    · have h1 : ¬ ((stE p).1 = Sum.inl v) := fun z => h (Sum.inl.inj z)
      rw [if_neg h1, ih]
      have h2 : (v == p.1) = false := by simpa using fun z : v = p.1 => h z.symm
      rw [h2, Bool.false_or]
theorem putG_new {κ β : Type} [DecidableEq κ] (es : List (κ × β)) (k : κ) (d : β) (h : (valG es k).isSome = false) : putG es k d = es ++ [(k, d)] := by
  unfold putG
  have any : (es.any fun kv => decide (kv.1 = k)) = false := by
    have e : ∀ (l : List (κ × β)), (valG l k).isSome = l.any fun kv => decide (kv.1 = k) := fun l => by
      unfold valG
      induction l with
      | nil => rfl
      | cons x l ih => by_cases h : x.1 = k <;> simp [List.find?_cons, h] <;> simpa using ih
    rw [← e, h]
  rw [any]
  rfl
theorem nodes_nodup (n : Int) : (nodes n).Nodup := by
  unfold nodes rngI
  refine List.nodup_iff_pairwise_ne.mpr (List.pairwise_map.mpr ?_)
  exact List.nodup_range.imp fun {a b} h => by omega
theorem nodup_len {α : Type} [DecidableEq α] : ∀ {l m : List α}, l.Nodup → (∀ x ∈ l, x ∈ m) → l.length ≤ m.length
  | [], _, _, _ => Nat.zero_le _
  | x :: l, m, nd, h => by
    obtain ⟨n1, n2⟩ := List.nodup_cons.mp nd
    have hx : x ∈ m := h x List.mem_cons_self
    have ih := nodup_len (l := l) (m := m.erase x) n2 fun y hy => (List.mem_erase_of_ne (fun z => n1 (by rw [← z]; exact hy))).mpr (h y (List.mem_cons_of_mem _ hy))
    rw [List.length_erase_of_mem hx] at ih
    have : 0 < m.length := List.length_pos_of_mem hx
    simp only [List.length_cons]
    omega
theorem dist_down {n : Int} {A : List (Int × Int)} {g : Int} (ok : GOk n A) (c : Nat) : ∀ (j : Nat) (v : Int), v ∈ nodes n → Dist A g v (c + j) → ∃ y, y ∈ nodes n ∧ Dist A g y c
  | 0, v, h, d => ⟨v, h, d⟩
  | j + 1, v, h, d => by
    obtain ⟨y, hy, hd⟩ := dist_succ (show Dist A g v (c + j + 1) from d)
    exact dist_down ok c j y (ok _ (mem_foll.mp hy)).2.1 hd
def meas (n : Int) (es : List (Int × Nat)) (fr : List Int) : Nat := 2 * ((nodes n).filter fun v => !(es.map (·.1)).contains v).length + (if fr = [] then 0 else 1)
/-- one round -/
theorem steps_round {n : Int} {A : List (Int × Int)} {g : Int} {c : Nat} {es : List (Int × Nat)} {fr : List Int} (ok : GOk n A) (hn : n ≤ 900) (hs : StepsTo n A g c es) (hf : ∀ v, v ∈ fr ↔ v ∈ nodes n ∧ Dist A g v c) (hne : fr ≠ [])
    {fr' : List Int} (e : fr' = (nodes n).filter (fun x => !(es.map (·.1)).contains x && entersB A x fr)) :
    StepsTo n A g (c + 1) (es ++ fr'.map fun x => (x, c + 1)) ∧ (∀ v, v ∈ fr' ↔ v ∈ nodes n ∧ Dist A g v (c + 1)) ∧ (es ++ fr'.map fun x => (x, c + 1)).length ≤ 900 ∧ meas n (es ++ fr'.map fun x => (x, c + 1)) fr' < meas n es fr := by
  have hfn : ∀ v, v ∈ fr' ↔ v ∈ nodes n ∧ Dist A g v (c + 1) := fun v => by rw [e]; exact front_next ok hs hf v
  have ekeys : (es ++ fr'.map fun x => (x, c + 1)).map (·.1) = es.map (·.1) ++ fr' := by
    rw [List.map_append, List.map_map]
    congr 1
    show fr'.map (fun x => x) = fr'
    simp
  have nd' : ((es ++ fr'.map fun x => (x, c + 1)).map (·.1)).Nodup := by
    rw [ekeys, List.nodup_append]
    refine ⟨hs.1, by rw [e]; exact (nodes_nodup n).filter _, fun a ha b hb z => ?_⟩
    subst z
    rw [e] at hb
    have := (List.mem_filter.mp hb).2
    rw [Bool.and_eq_true, Bool.not_eq_true'] at this
    have h1 := this.1
    have : (es.map (·.1)).contains a = true := by simpa using ha
    rw [this] at h1; cases h1
  refine ⟨⟨nd', fun v d => ?_⟩, hfn, ?_, ?_⟩
  · rw [List.mem_append, hs.2 v d, List.mem_map]
    constructor
    · rintro (⟨h1, h2, h3⟩ | ⟨x, hx, hxe⟩)
      · exact ⟨h1, h2, by omega⟩
      · cases hxe
        obtain ⟨h1, h2⟩ := (hfn v).mp hx
        exact ⟨h1, h2, Nat.le_refl _⟩
    · rintro ⟨h1, h2, h3⟩
      by_cases hd : d ≤ c
      · exact .inl ⟨h1, h2, hd⟩
      · have : d = c + 1 := by omega
        subst this
        exact .inr ⟨v, (hfn v).mpr ⟨h1, h2⟩, rfl⟩
  · have h1 := nodup_len (m := nodes n) nd' fun x hx => by
      rw [ekeys, List.mem_append] at hx
      rcases hx with hx | hx
      · obtain ⟨⟨a, k⟩, hp, rfl⟩ := List.mem_map.mp hx
        exact ((hs.2 _ _).mp hp).1
      · exact ((hfn x).mp hx).1
    rw [List.length_map, rngI_len] at h1
    omega
  · unfold meas
    rw [ekeys]
    have hsub : (nodes n).filter (fun v => !(es.map (·.1) ++ fr').contains v) = ((nodes n).filter fun v => !(es.map (·.1)).contains v).filter fun v => !fr'.contains v := by
      rw [List.filter_filter]
      congr 1
      funext v
      simp only [List.contains_append, Bool.not_or]
      rw [Bool.and_comm]
    rw [hsub]
    by_cases hz : fr' = []
    · subst hz
      simp only [if_true, if_neg hne]
      have : (((nodes n).filter fun v => !(es.map (·.1)).contains v).filter fun v => !([] : List Int).contains v).length ≤ ((nodes n).filter fun v => !(es.map (·.1)).contains v).length := List.length_filter_le _ _
      omega
    · simp only [if_neg hz, if_neg hne]
      have : (((nodes n).filter fun v => !(es.map (·.1)).contains v).filter fun v => !fr'.contains v).length < ((nodes n).filter fun v => !(es.map (·.1)).contains v).length := by
        rw [List.length_filter_lt_length_iff_exists]
        obtain ⟨x, hx⟩ := List.exists_mem_of_ne_nil _ hz
        refine ⟨x, ?_, by simpa using hx⟩
        rw [e] at hx
        obtain ⟨h1, h2⟩ := List.mem_filter.mp hx
        rw [Bool.and_eq_true] at h2
        exact List.mem_filter.mpr ⟨h1, h2.1⟩
      omega
abbrev s_Graph_steps_to : Stmt := inClass (top 12) 2
abbrev N_Graph_steps_to : List Str := ["self", "goal", "steps", "front", "count", "x"]
theorem sc_Graph_steps_to : FnScope N_Graph_steps_to ["self", "goal"] (defScope s_Graph_steps_to) := ⟨rfl, rfl, rfl, by decide +kernel, rfl, by decide +kernel, by decide +kernel⟩
def S_steps (C : Addr) : SP := spc (α := (Int × List (Int × Int)) × Int) (fun x => [.im (grD C x.1.1 x.1.2), .im (.int x.2)]) (fun x => x.1.2.length ≤ 1000 ∧ 0 ≤ x.1.1 ∧ x.1.1 ≤ 900 ∧ GOk x.1.1 x.1.2 ∧ x.2 ∈ nodes x.1.1)
  fun x r => ∃ es, r = .fd (es.map stE) ∧ StepsAll x.1.1 x.1.2 x.2 es
theorem ok_steps (F : FD K "steps_to" "Graph.steps_to" s_Graph_steps_to [] f fd) (T : Tx K mg C) (D_Graph_enters : Dm P w K mg base C "enters" 4 (spP K (S_enters C))) : FnOk P w K mg base CX0 (4 + 1) f fd ["self", "goal"] (spP K (S_steps C)) := by
  refine fn_spc F sc_Graph_steps_to (fun x => [some (.im (grD C x.1.1 x.1.2)), some (.im (.int x.2)), none, none, none, none]) fun cdv A outer s H E hr => ?_
  refine ⟨_, (ss_cons (s_done (i := 2) sc_Graph_steps_to.nd (bx_var 1) px_int)
      (ss_cons (s_asg (i := 3) sc_Graph_steps_to.nd (px_f (fx_lst (as_cons (px_var 1) as_nil))))
      (ss_cons (s_asg (i := 4) sc_Graph_steps_to.nd px_int)
      (ss_cons (s_while PassesOwn.never (tx_tru (bx_var 3)) (ss_cons (s_aug (i := 4) sc_Graph_steps_to.nd (bx px_int) ip_add)
      (ss_cons (s_asg (i := 3) sc_Graph_steps_to.nd (px_f (fx_lc (own := [("x", 5)]) rfl sc_Graph_steps_to.nd (ib (il_r2 rfl T.range (aw_cons (bx px_int) (aw_cons (bx (px_add (bx (px_fld T.cl T.n_size (bx_var 0))) (bx px_int))) aw_nil)))) (blkOk_by (N := N_Graph_steps_to) (sc := defScope s_Graph_steps_to) (by decide +kernel)) (fun _ _ _ _ _ => (gx_name (i := 5) sc_Graph_steps_to.nd)) (fun _ _ _ _ _ => (tts_one (tx_w (tw_and (tx_dnin hr (bx_var 5) (bx_var 2)) (tw_and1 (tx_tru (bx (px_meth T.cl D_Graph_enters (hr.mono (by decide)) (px_var 0) (ax_i (px_var 5) (ax_b (bx_var 3) ax_nil)))))))))) (fun _ _ _ _ _ => (px_var 5)))))
      (ss_one (s_for PassesOwn.never rfl (il_list (px_var 3)) (gx_name (i := 5) sc_Graph_steps_to.nd) (ss_one (s_dpu 2 hr (px_var 4) (bx_var 5))))))))
      (ss_one (s_retO 2)))))), ?_⟩
  rintro ⟨⟨n, A⟩, g⟩ R ⟨hA, hn0, hn, ok, hg⟩ hR
  dsimp only at hA hn0 hn ok hg hR
  walk_at "r"
  intro l hl
  refine ⟨by decide, ?_⟩
  refine ⟨fun m Γ => ∃ (c : Nat) (es : List (Int × Nat)) (fr : List Int) (x : Option D), Γ = [some (.im (grD C n A)), some (.im (.int g)), some (.md l (es.map stE)), some (.im (.lst (fr.map D.int))), some (.im (.int c)), x.map Slot.im] ∧ StepsTo n A g c es ∧ (∀ v, v ∈ fr ↔ v ∈ nodes n ∧ Dist A g v c) ∧ es.length ≤ 900 ∧
    m = meas n es fr, ⟨_, 0, [(g, 0)], [g], none, rfl, ⟨by simp, fun v d => ?_⟩, fun v => ?_, (by simp), rfl⟩, ?_⟩
  · constructor
    · intro h
      simp at h
      obtain ⟨rfl, rfl⟩ := h
      exact ⟨hg, ⟨by simp [Rk], fun j hj => by omega⟩, Nat.le_refl _⟩
    · rintro ⟨h1, h2, h3⟩
      have : d = 0 := by omega
      subst this
      have := h2.1
      simp [Rk] at this
      simp [this]
  · constructor
    · intro h
      simp at h
      subst h
      exact ⟨hg, by simp [Rk], fun j hj => by omega⟩
    · rintro ⟨h1, h2⟩
      have := h2.1
      simp [Rk] at this
      simp [this]
  rintro m Γ ⟨c, es, fr, x, rfl, hs, hf, hel, rfl⟩
  walk_at "r"
  have hemp : (!(fr.map D.int).isEmpty) = !decide (fr = []) := by cases fr <;> simp
  rw [hemp]
  refine ⟨fun h => ?_, fun h => hR _ ⟨es, rfl, hs.1, fun v d => ?_⟩⟩
  · have hne : fr ≠ [] := by simpa using h
    refine ⟨⟨by decide, by decide, by omega, by omega⟩, ?_⟩
    refine lcbF (fun x => !(es.map (·.1)).contains x && entersB A x fr) D.int (sz (nodes_len (by omega))) (fun v _ => ?_) ?_ (by cases x <;> rfl)
    · walk_at "r"
      rw [valG_st]
      refine ⟨fun h1 => ⟨rfl, ((n, A), v, fr), rfl, hA, ?_⟩, fun h1 => ⟨fun z => (by cases z), fun _ => by rw [h1]; rfl⟩⟩
      rintro _ rfl
      simp only [Rs.dat]
      refine ⟨fun h2 => by rw [h1, h2]; rfl, fun h2 => by rw [h1, h2]; rfl⟩
    · obtain ⟨r1, r2, r3, r4⟩ := steps_round ok hn hs hf hne (fr' := (nodes n).filter (fun x => !(es.map (·.1)).contains x && entersB A x fr)) rfl
      generalize hfr' : (nodes n).filter (fun x => !(es.map (·.1)).contains x && entersB A x fr) = fr' at r1 r2 r3 r4 ⊢
      refine forb (fun pre Γ => ∃ x : Option D, Γ = [some (.im (grD C n A)), some (.im (.int g)), some (.md l ((es ++ pre.map fun x => (x, c + 1)).map stE)), some (.im (.lst (fr'.map D.int))), some (.im (.int ((c + 1 : Nat) : Int))), x.map Slot.im]) ⟨x, by simp [grD]⟩ ?_ ?_
      · rintro pre y post Γ hx ⟨x2, rfl⟩
        walk_at "r"
        refine ⟨by cases x2 <;> rfl, ?_, some (.int y), ?_⟩
        · have : pre.length ≤ fr'.length := by rw [hx]; simp
          have h5 : (es ++ fr'.map fun x => (x, c + 1)).length = es.length + fr'.length := by simp
          simp only [List.length_append, List.length_map]
          exact sz' (by omega)
        · have hnew : (valG ((es ++ pre.map fun x => (x, c + 1)).map stE) (Sum.inl y)).isSome = false := by
            rw [valG_st]
            have hk : y ∉ (es ++ pre.map fun x => (x, c + 1)).map (·.1) := by
              have nd := r1.1
              rw [hx] at nd
              simp only [List.map_append, List.map_map, List.map_cons, List.nodup_append] at nd
              intro hm
              rw [List.map_append, List.mem_append] at hm
              rcases hm with hm | hm
              · exact nd.2.2 _ hm y (by simp) rfl
              · obtain ⟨q1, q2, q3⟩ := nd.2.1
                rw [List.map_map] at hm
                exact q3 y hm y (by simp) rfl
            simpa using hk
          rw [putG_new _ _ _ hnew]
          simp [stE, grD]
      · rintro Γ ⟨x2, rfl⟩
        exact ⟨_, r4, c + 1, _, fr', x2, rfl, r1, r2, r3, rfl⟩
  · have he : fr = [] := by simpa using h
    rw [hs.2 v d]
    constructor
    · rintro ⟨h1, h2, _⟩; exact ⟨h1, h2⟩
    · rintro ⟨h1, h2⟩
      refine ⟨h1, h2, ?_⟩
      rcases Nat.lt_or_ge c d with hlt | hge
      · exfalso
        obtain ⟨y, hy, hyd⟩ := dist_down ok c (d - c) v h1 (by rw [Nat.add_sub_cancel' (by omega)]; exact h2)
        have := (hf y).mpr ⟨hy, hyd⟩
        rw [he] at this
        cases this
      · exact hge
end
end Kb
set_option Elab.async false
set_option linter.all false
set_option maxRecDepth 100000
set_option maxHeartbeats 1000000
namespace Kb
open PySem L2
set_option autoImplicit false
local macro_rules | `(tactic| walk_at "r") => `(tactic| try simp only [sSeq, sNext, sRet, sRetF, sRetO, sAsg, sAsgF, sAsgM, sAsgR, rCl, rMe, sRetM, sIf, sIfM, sDrop, sDropM, sUnp, sAug, sFor, sForM, sApp, sSetI, sDPu, sDPuT, sDNew, sDNewT, sDOne, sFldI, sBreak, sCont, fLc, xDc, xF, xVar, bVar, xC, x2, b2, fAdd, fI, fI0, fB0, fEq, fNe, fIn, fIs, fIsNot, D.isN, xNeg, bTru, bNot, bAnd, bOr, bCh, xAnd, xOr, xNot, xIfE, xFld, fIx, fSl, oNo, oSo, aNil, aCons, xTup, fLst, fCat, xCall, fCall, fLen, fAbs, fInt, fList, fTuple, fIsi, D.ty, fAny, fSrt, fMin, xIdx, fSS, fDIn, xDGet, xDGetT, keyD, keysD, gN, gsN, gsC, gTu, iL, iT, iR1, iR2, iR3, iR1M, bYes, wipeE, free, Slot.ad, Slot.dat, Slot.par, axNil, axI, axB, xCl, fCl, xMe, fMe, xMk, fGen, mP, m2, bm2, mCl, mTup, mLst, mSS, amNil, amCons, gPlain, gThen, gNil, gYield, zP, zM, zTP, zD, z2, bz2, zTru, zNot, zAnd, zOr, zNil, zCons, zTup, zLst, zCl, zClX, zFld, zMkS, sAsgZ, sRetZ, sIfZ, sDropZ, sRaise, sTry, sRetR, sRetV, sRetMF, mF, mLc, iP, xR, fR, xClF, rMe0, fLRg, fSrtQ, iEnV, xEFld, fIsX, cvV, grD, prD, lk_arrows, lk_size, eqD_int, sh_int, sh60_ints, inL_ints,
  List.map_cons, List.map_nil, List.length_cons, List.length_nil, List.getElem?_cons_succ, List.getElem?_cons_zero, List.set_cons_succ, List.set_cons_zero, List.cons_append, List.nil_append, Option.isNone_none, Option.map_some, Option.map_none, true_and, and_true, if_true, if_false, rngD_ints, Int.add_sub_cancel, Bool.false_eq_true, List.length_map])
local macro_rules | `(tactic| walk_at "s") => `(tactic| try simp only [sSeq, sNext, sRet, sRetF, sRetO, sAsg, sAsgF, sAsgM, sAsgR, rCl, rMe, sRetM, sDrop, sDropM, sUnp, sAug, sFor, sForM, sApp, sSetI, sDPu, sDPuT, sDNew, sDNewT, sDOne, sFldI, sBreak, sCont, fLc, xDc, xF, xVar, bVar, xC, x2, b2, fAdd, fI, fI0, fB0, fEq, fNe, fIn, fIs, fIsNot, D.isN, xNeg, bTru, bNot, bAnd, bOr, bCh, xAnd, xOr, xNot, xIfE, xFld, fIx, fSl, oNo, oSo, aNil, aCons, xTup, fLst, fCat, xCall, fCall, fLen, fAbs, fInt, fList, fTuple, fIsi, D.ty, fAny, fSrt, fMin, xIdx, fSS, fDIn, xDGet, xDGetT, keyD, keysD, gN, gsN, gsC, gTu, iL, iT, iR1, iR2, iR3, iR1M, bYes, wipeE, free, Slot.ad, Slot.dat, Slot.par, axNil, axI, axB, xCl, fCl, xMe, fMe, xMk, fGen, mP, m2, bm2, mCl, mTup, mLst, mSS, amNil, amCons, gPlain, gThen, gNil, gYield, zP, zM, zTP, zD, z2, bz2, zTru, zNot, zAnd, zOr, zNil, zCons, zTup, zLst, zCl, zClX, zFld, zMkS, sAsgZ, sRetZ, sDropZ, sRaise, sTry, sRetR, sRetV, sRetMF, mF, mLc, iP, xR, fR, xClF, rMe0, fLRg, fSrtQ, iEnV, xEFld, fIsX, cvV, grD, prD, lk_arrows, lk_size, eqD_int, sh_int, sh60_ints, inL_ints,
  List.map_cons, List.map_nil, List.length_cons, List.length_nil, List.getElem?_cons_succ, List.getElem?_cons_zero, List.set_cons_succ, List.set_cons_zero, List.cons_append, List.nil_append, Option.isNone_none, Option.map_some, Option.map_none, true_and, and_true, if_true, if_false, rngD_ints, Int.add_sub_cancel, Bool.false_eq_true, List.length_map])
/-- the first of the shortest ways -/
def wayP (A : List (Int × Int)) (g : Int) : Nat → Int → List Int
  | 0, v => [v]
  | k + 1, v => v :: (match (foll A v).find? (Rk A g k) with
    | some y => wayP A g k y
    | none => [])
def PathIs (A : List (Int × Int)) (s g : Int) (o : Option (List Int)) : Prop :=
  (∃ L, 1 ≤ L ∧ Rk A g L s = true ∧ (∀ j, 1 ≤ j → j < L → Rk A g j s = false) ∧ o = some (wayP A g L s)) ∨ ((∀ L, 1 ≤ L → Rk A g L s = false) ∧ o = none)
theorem pathIs_uniq {A : List (Int × Int)} {s g : Int} {o o' : Option (List Int)} (h : PathIs A s g o) (h' : PathIs A s g o') : o = o' := by
  rcases h with ⟨L, a, b, c, d⟩ | ⟨a, d⟩
  · rcases h' with ⟨L', a', b', c', d'⟩ | ⟨a', d'⟩
    · have : L = L' := by
        rcases Nat.lt_trichotomy L L' with z | z | z
        · have := c' L a z; rw [b] at this; cases this
        · exact z
        · have := c L' a' z; rw [b'] at this; cases this
      rw [d, d', this]
    · have := a' L a; rw [b] at this; cases this
  · rcases h' with ⟨L', a', b', c', d'⟩ | ⟨a', d'⟩
    · have := a L' a'; rw [b'] at this; cases this
    · rw [d, d']
def ltP (p q : Int × Int) : Prop := p.1 < q.1 ∨ (p.1 = q.1 ∧ p.2 < q.2)
def Srt (A : List (Int × Int)) : Prop := A.Pairwise ltP
theorem foll_sorted {A : List (Int × Int)} (h : Srt A) (v : Int) : (foll A v).Pairwise (· < ·) := by
  unfold foll
  refine List.pairwise_map.mpr ?_
  have := h.filter (fun p => p.1 == v)
  refine List.Pairwise.imp_of_mem ?_ this
  intro p q hp hq hpq
  have e1 := (List.mem_filter.mp hp).2
  have e2 := (List.mem_filter.mp hq).2
  simp at e1 e2
  rcases hpq with z | z
  · omega
  · exact z.2
theorem find_least {l : List Int} (h : l.Pairwise (· < ·)) {p : Int → Bool} {y : Int} (hy : y ∈ l) (hp : p y = true) (hm : ∀ z ∈ l, p z = true → y ≤ z) : l.find? p = some y := by
  induction l with
  | nil => cases hy
  | cons x l ih =>
    obtain ⟨h1, h2⟩ := List.pairwise_cons.mp h
    rw [List.find?_cons]
    cases hx : p x with
    | true =>
      have := hm x List.mem_cons_self hx
      rcases List.mem_cons.mp hy with rfl | hy'
      · rfl
      · have := h1 y hy'; omega
    | false =>
      rcases List.mem_cons.mp hy with rfl | hy'
      · rw [hp] at hx; cases hx
      · exact ih h2 hy' fun z hz => hm z (List.mem_cons_of_mem _ hz)
/-! ### min of pairs -/
def minPr (p : Int × Int) (ps : List (Int × Int)) : Int × Int := ps.foldl (fun a y => if decide (y.1 < a.1 ∨ (y.1 = a.1 ∧ y.2 < a.2)) then y else a) p
theorem minPr_py (p : Int × Int) (ps : List (Int × Int)) : minP (prD p) (ps.map prD) = (prD (minPr p ps)).py := by
  unfold minP PySem.W.minD minPr
  induction ps generalizing p with
  | nil => rfl
  | cons q ps ih =>
    simp only [List.map_cons, List.foldl_cons]
    have e : PySem.W.dataLt (prD q).py (prD p).py = decide (q.1 < p.1 ∨ (q.1 = p.1 ∧ q.2 < p.2)) := PySem.W.dataLt_ii _ _ _ _
    rw [e, ← ih]
    congr 1
    split <;> rfl
theorem minPr_mem (p : Int × Int) (ps : List (Int × Int)) : minPr p ps ∈ p :: ps := by
  unfold minPr
  induction ps generalizing p with
  | nil => exact List.mem_cons_self
  | cons q ps ih =>
    rw [List.foldl_cons]
    rcases List.mem_cons.mp (ih (if decide (q.1 < p.1 ∨ (q.1 = p.1 ∧ q.2 < p.2)) then q else p)) with h | h
    · rw [h]
      split
      · exact List.mem_cons_of_mem _ List.mem_cons_self
      · exact List.mem_cons_self
    · exact List.mem_cons_of_mem _ (List.mem_cons_of_mem _ h)
theorem minPr_le (p : Int × Int) (ps : List (Int × Int)) : ∀ q ∈ p :: ps, ¬ ltP q (minPr p ps) := by
  unfold minPr
  induction ps generalizing p with
  | nil =>
    intro q hq
    simp at hq
    subst hq
    unfold ltP
    simp
  | cons r ps ih =>
    intro q hq
    rw [List.foldl_cons]
    have key := ih (if decide (r.1 < p.1 ∨ (r.1 = p.1 ∧ r.2 < p.2)) then r else p)
    rcases List.mem_cons.mp hq with rfl | hq
    · -- q = p
      by_cases h : r.1 < q.1 ∨ (r.1 = q.1 ∧ r.2 < q.2)
      · have e : (if decide (r.1 < q.1 ∨ (r.1 = q.1 ∧ r.2 < q.2)) = true then r else q) = r := by simp [h]
        rw [e] at key ⊢
        have := key r List.mem_cons_self
        unfold ltP at this ⊢
        omega
      · have e : (if decide (r.1 < q.1 ∨ (r.1 = q.1 ∧ r.2 < q.2)) = true then r else q) = q := by simp [h]
        rw [e] at key ⊢
        exact key q List.mem_cons_self
    · rcases List.mem_cons.mp hq with rfl | hq
      · by_cases h : q.1 < p.1 ∨ (q.1 = p.1 ∧ q.2 < p.2)
        · have e : (if decide (q.1 < p.1 ∨ (q.1 = p.1 ∧ q.2 < p.2)) = true then q else p) = q := by simp [h]
          rw [e] at key ⊢
          exact key q List.mem_cons_self
        · have e : (if decide (q.1 < p.1 ∨ (q.1 = p.1 ∧ q.2 < p.2)) = true then q else p) = p := by simp [h]
          rw [e] at key ⊢
          have := key p List.mem_cons_self
          unfold ltP at this ⊢
          omega
      · exact key q (List.mem_cons_of_mem _ hq)
theorem prD_inj {p q : Int × Int} (h : (prD p).py = (prD q).py) : p = q := by
  unfold prD at h
  simp only [D.py, D.pys, PyData.tuple.injEq, List.cons.injEq, PyData.int.injEq, and_true] at h
  exact Prod.ext h.1 h.2
theorem sh_pr (n : Nat) (p : Int × Int) : (prD p).sh (n + 1) = true := by
  show [D.int p.1, D.int p.2].all (D.sh n) = true
  simp [sh_int]
theorem prs_alike (ps : List (Int × Int)) : PySem.W.AlikeAll (ps.map prD |>.map D.py) := by
  refine ⟨fun x hx y hy => ?_, fun x hx => ?_⟩
  · rw [List.map_map] at hx hy
    obtain ⟨p, _, rfl⟩ := List.mem_map.mp hx
    obtain ⟨q, _, rfl⟩ := List.mem_map.mp hy
    rfl
  · rw [List.map_map] at hx
    obtain ⟨p, _, rfl⟩ := List.mem_map.mp hx
    intro z
    cases z
theorem valG_mem {es : List (Int × Nat)} (nd : (es.map (·.1)).Nodup) {v : Int} {d : Nat} (h : (v, d) ∈ es) : valG (es.map stE) (Sum.inl v) = some (.int d) := by
  induction es with
  | nil => cases h
  | cons p es ih =>
    rw [List.map_cons, valG_cons]
    rw [List.map_cons, List.nodup_cons] at nd
    rcases List.mem_cons.mp h with rfl | h
    · simp [stE]
    · have hne : ¬ (stE p).1 = Sum.inl v := fun z => nd.1 (by
        have : p.1 = v := Sum.inl.inj z
        rw [this]
        exact List.mem_map.mpr ⟨(v, d), h, rfl⟩)
      rw [if_neg hne]
      exact ih nd.2 h
/-- the state of the walk along the first shortest way: k arrows are left -/
structure Way (n : Int) (A : List (Int × Int)) (s g : Int) (L k : Nat) (pre : List Int) (v : Int) : Prop where
  node : v ∈ nodes n
  rk : Rk A g k v = true
  lo : ∀ y ∈ foll A v, ∀ j, j + 1 < k → Rk A g j y = false
  way : wayP A g L s = pre ++ wayP A g k v
  first : (pre = [] ∧ 1 ≤ k) ∨ (pre ≠ [] ∧ Dist A g v k)
theorem foll_lo {A : List (Int × Int)} {g v : Int} {k : Nat} (h : Dist A g v k) : ∀ y ∈ foll A v, ∀ j, j + 1 < k → Rk A g j y = false := fun y hy j hj => by
  cases hb : Rk A g j y with
  | false => rfl
  | true =>
    have := h.2 (j + 1) hj
    have q : Rk A g (j + 1) v = true := List.any_eq_true.mpr ⟨y, hy, hb⟩
    rw [q] at this; cases this
theorem rk_dist {A : List (Int × Int)} {g v : Int} : ∀ {m : Nat}, Rk A g m v = true → ∃ k, k ≤ m ∧ Dist A g v k := by
  intro m
  induction m using Nat.strongRecOn with
  | _ m ih =>
    intro hm
    by_cases hex : ∃ i, i < m ∧ Rk A g i v = true
    · obtain ⟨i, hi, hi2⟩ := hex
      obtain ⟨k, hk, hd⟩ := ih i hi hi2
      exact ⟨k, by omega, hd⟩
    · refine ⟨m, Nat.le_refl _, hm, fun i hi => ?_⟩
      cases hz : Rk A g i v with
      | false => rfl
      | true => exact absurd ⟨i, hi, hz⟩ hex
/-- what is known at v: the followers with their distances -/
def knowns (es : List (Int × Nat)) (A : List (Int × Int)) (v : Int) : List (Int × Int) := ((foll A v).filter fun y => (es.map (·.1)).contains y).map fun y => (match valG (es.map stE) (Sum.inl y) with
  | some (.int d) => d
  | _ => 0, y)
theorem mem_knowns {n : Int} {A : List (Int × Int)} {g v : Int} {es : List (Int × Nat)} (hs : StepsAll n A g es) (ok : GOk n A) (q : Int × Int) : q ∈ knowns es A v ↔ q.2 ∈ foll A v ∧ ∃ d : Nat, q.1 = d ∧ Dist A g q.2 d := by
  unfold knowns
  rw [List.mem_map]
  constructor
  · rintro ⟨y, hy, rfl⟩
    obtain ⟨h1, h2⟩ := List.mem_filter.mp hy
    have h3 : y ∈ es.map (·.1) := by simpa using h2
    obtain ⟨⟨a, d⟩, hp, rfl⟩ := List.mem_map.mp h3
    refine ⟨h1, d, ?_, ((hs.2 _ _).mp hp).2⟩
    rw [valG_mem hs.1 hp]
  · rintro ⟨h1, d, h2, h3⟩
    have hn : q.2 ∈ nodes n := (ok _ (mem_foll.mp h1)).2.1
    have hp : (q.2, d) ∈ es := (hs.2 _ _).mpr ⟨hn, h3⟩
    refine ⟨q.2, List.mem_filter.mpr ⟨h1, ?_⟩, ?_⟩
    · have : q.2 ∈ es.map (·.1) := List.mem_map.mpr ⟨_, hp, rfl⟩
      simpa using this
    · rw [valG_mem hs.1 hp]
      exact Prod.ext h2.symm rfl
/-- one step along the way -/
theorem way_step {n : Int} {A : List (Int × Int)} {s g : Int} {L k : Nat} {pre : List Int} {v : Int} {es : List (Int × Nat)} (hs : StepsAll n A g es) (ok : GOk n A) (srt : Srt A) (w : Way n A s g L (k + 1) pre v) :
    ∃ p ps, knowns es A v = p :: ps ∧ Way n A s g L k (pre ++ [v]) (minPr p ps).2 := by
  obtain ⟨y0, hy0, hr0⟩ := List.any_eq_true.mp w.rk
  -- every follower with a distance has at least k
  have low : ∀ y ∈ foll A v, ∀ d, Dist A g y d → k ≤ d := fun y hy d hd => by
    rcases Nat.lt_or_ge d k with h | h
    · have := w.lo y hy d (by omega)
      rw [hd.1] at this; cases this
    · exact h
  have hd0 : Dist A g y0 k := by
    obtain ⟨d, hd, hdd⟩ := rk_dist hr0
    have := low y0 hy0 d hdd
    have e : d = k := by omega
    rw [← e]; exact hdd
  have hm0 : ((k : Int), y0) ∈ knowns es A v := (mem_knowns hs ok _).mpr ⟨hy0, k, rfl, hd0⟩
  cases hk : knowns es A v with
  | nil => rw [hk] at hm0; cases hm0
  | cons p ps =>
    refine ⟨p, ps, rfl, ?_⟩
    have hmem : minPr p ps ∈ knowns es A v := by rw [hk]; exact minPr_mem p ps
    have hle : ∀ q ∈ knowns es A v, ¬ ltP q (minPr p ps) := by rw [hk]; exact minPr_le p ps
    obtain ⟨h1, d, h2, h3⟩ := (mem_knowns hs ok _).mp hmem
    have hdk : d = k := by
      have a := low _ h1 d h3
      have b := hle _ hm0
      unfold ltP at b
      simp only at b
      omega
    subst hdk
    have hfind : (foll A v).find? (Rk A g d) = some (minPr p ps).2 := by
      refine find_least (foll_sorted srt v) h1 h3.1 fun z hz hrz => ?_
      have hdz : Dist A g z d := by
        obtain ⟨e, he, hed⟩ := rk_dist hrz
        have := low z hz e hed
        have ee : e = d := by omega
        rw [← ee]; exact hed
      have hmz : ((d : Int), z) ∈ knowns es A v := (mem_knowns hs ok _).mpr ⟨hz, d, rfl, hdz⟩
      have b := hle _ hmz
      unfold ltP at b
      simp only at b
      omega
    refine ⟨(ok _ (mem_foll.mp h1)).2.1, h3.1, foll_lo h3, ?_, .inr ⟨by simp, h3⟩⟩
    rw [w.way]
    show pre ++ (v :: (match (foll A v).find? (Rk A g d) with
      | some y => wayP A g d y
      | none => [])) = _
    rw [hfind, List.append_assoc]
    rfl
section
variable {P : Program} {w : World} {K : Frag} {mg : Str → Option Value} {base : Heap} {C f : Addr} {fd : FuncData}
abbrev s_Graph_path : Stmt := inClass (top 12) 4
abbrev N_Graph_path : List Str := ["self", "start", "goal", "steps", "found", "known", "y"]
theorem sc_Graph_path : FnScope N_Graph_path ["self", "start", "goal"] (defScope s_Graph_path) := ⟨rfl, rfl, rfl, by decide +kernel, rfl, by decide +kernel, by decide +kernel⟩
def S_path (C : Addr) : SP := spc (α := (Int × List (Int × Int)) × Int × Int) (fun x => [.im (grD C x.1.1 x.1.2), .im (.int x.2.1), .im (.int x.2.2)]) (fun x => x.1.2.length ≤ 500 ∧ 0 ≤ x.1.1 ∧ x.1.1 ≤ 900 ∧ GOk x.1.1 x.1.2 ∧ Srt x.1.2 ∧ x.2.1 ∈ nodes x.1.1 ∧ x.2.2 ∈ nodes x.1.1)
  fun x r => ∃ o, PathIs x.1.2 x.2.1 x.2.2 o ∧ (∀ p, o = some p → p.length ≤ 1000) ∧ r = optL o
theorem way_len (A : List (Int × Int)) (g : Int) : ∀ (k : Nat) (v : Int), (wayP A g k v).length ≤ k + 1
  | 0, v => by simp [wayP]
  | k + 1, v => by
    unfold wayP
    split
    · rename_i y _
      have := way_len A g k y
      simp only [List.length_cons]
      omega
    · simp
theorem or_test {a b : Bool} {X Y : Prop} (h : (a = true ∨ b = true) → X) (h2 : a = false → b = false → Y) : (a = true → (True → X) ∧ (true = false → Y)) ∧ (a = false → (b = true → X) ∧ (b = false → Y)) :=
  ⟨fun ha => ⟨fun _ => h (.inl ha), fun z => nomatch z⟩, fun ha => ⟨fun hb => h (.inr hb), fun hb => h2 ha hb⟩⟩
def PathInv (C : Addr) (n : Int) (A : List (Int × Int)) (s g : Int) (es : List (Int × Nat)) (l : Addr) (m : Nat) (Γ : Env) : Prop := ∃ (pre : List Int) (v : Int) (d5 d6 : Option D), Γ = [some (.im (grD C n A)), some (.im (.int s)), some (.im (.int g)), some (.im (.dic (es.map stE))), some (.ml l ((pre ++ [v]).map D.int)), d5.map Slot.im, d6.map Slot.im] ∧ v ∈ nodes n ∧
    ((∃ L, L ≤ 900 ∧ 1 ≤ L ∧ Rk A g L s = true ∧ (∀ j, 1 ≤ j → j < L → Rk A g j s = false) ∧ Way n A s g L m pre v ∧ pre.length + m = L) ∨ ((∀ L, 1 ≤ L → Rk A g L s = false) ∧ pre = [] ∧ v = s))
theorem ok_path (F : FD K "path" "Graph.path" s_Graph_path [] f fd) (T : Tx K mg C) (D_Graph_followers : Dm P w K mg base C "followers" 3 (spP K (S_followers C))) (D_Graph_steps_to : Dm P w K mg base C "steps_to" 5 (spP K (S_steps C))) : FnOk P w K mg base CX0 (5 + 1) f fd ["self", "start", "goal"] (spP K (S_path C)) := by
  refine fn_spc F sc_Graph_path (fun x => [some (.im (grD C x.1.1 x.1.2)), some (.im (.int x.2.1)), some (.im (.int x.2.2)), none, none, none, none]) fun cdv A outer s H E hr => ?_
  refine ⟨_, (ss_cons (s_asg (i := 3) sc_Graph_path.nd (px_meth T.cl D_Graph_steps_to (hr.mono (by decide)) (px_var 0) (ax_i (px_var 2) ax_nil)))
      (ss_cons (s_asgF (i := 4) sc_Graph_path.nd (fx_lst (as_cons (px_var 1) as_nil)))
      (ss_cons (s_while PassesOwn.never (tx_w (tw_or (tx_eq hr (bx (px_len rfl T.len (bx_var 4))) (bx px_int)) (tw_or1 (tx_ne hr (bx (px_ix (bx_var 4) (bx (px_neg (bx px_int))))) (bx_var 2))))) (ss_cons (s_lc (i := 5) (own := [("y", 6)]) rfl sc_Graph_path.nd rfl rfl (sw_true rfl rfl rfl (by decide +kernel)) (ib_list (bx (px_f (fx_meth T.cl D_Graph_followers (hr.mono (by decide)) (px_var 0) (ax_i (px_ix (bx_var 4) (bx (px_neg (bx px_int)))) ax_nil))))) (blkOk_by (N := N_Graph_path) (sc := defScope s_Graph_path) (by decide +kernel)) (fun _ _ _ _ _ => (gx_name (i := 6) sc_Graph_path.nd)) (fun _ _ _ _ _ => (tts_one (tx_din hr (bx_var 6) (bx_var 3)))) (fun _ _ _ _ _ => (px_tup (as_cons (px_dget hr (bx_var 3) (bx_var 6)) (as_cons (px_var 6) as_nil)))))
      (ss_cons (s_if (tx_not (tx_tru (bx_var 5))) (ss_one (s_ret px_non)) ss_nil)
      (ss_one (s_app 4 (px_ix (bx (px_min hr rfl rfl T.min (bx_var 5))) (bx px_int)))))))
      (ss_one (s_retO 4))))), ?_⟩
  rintro ⟨⟨n, A⟩, s, g⟩ R ⟨hA, hn0, hn, ok, srt, hs, hg⟩ hR
  dsimp only at hA hn0 hn ok srt hs hg hR
  walk_at "r"
  refine ⟨rfl, ((n, A), g), rfl, ⟨by dsimp only; omega, hn0, hn, ok, hg⟩, ?_⟩
  rintro _ ⟨es, rfl, hst⟩
  dsimp only at hst ⊢
  refine ⟨by decide, fun l hl => ?_⟩
  have hlen : es.length ≤ 900 := by
    have := nodup_len (m := nodes n) hst.1 fun x hx => by
      obtain ⟨⟨a, k⟩, hp, rfl⟩ := List.mem_map.mp hx
      exact ((hst.2 _ _).mp hp).1
    rw [List.length_map, rngI_len] at this
    omega
  have hcase : (∃ L, L ≤ 900 ∧ 1 ≤ L ∧ Rk A g L s = true ∧ (∀ j, 1 ≤ j → j < L → Rk A g j s = false)) ∨ (∀ L, 1 ≤ L → Rk A g L s = false) := by
    by_cases hex : ∃ L, 1 ≤ L ∧ Rk A g L s = true
    · obtain ⟨L, h1, h2⟩ := hex
      obtain ⟨y, hy, hry⟩ := List.any_eq_true.mp (show (foll A s).any (Rk A g (L - 1)) = true by
        have : Rk A g (L - 1 + 1) s = true := by rw [Nat.sub_add_cancel h1]; exact h2
        exact this)
      obtain ⟨d, hd, hdd⟩ := rk_dist hry
      have hd9 : d + 1 ≤ 900 := by
        have := nodup_len (l := List.range (d + 1)) (m := es.map (·.2)) List.nodup_range fun c hc => by
          have hc' := List.mem_range.mp hc
          obtain ⟨z, hz, hzd⟩ := dist_down ok c (d - c) y (ok _ (mem_foll.mp hy)).2.1 (by rw [Nat.add_sub_cancel' (by omega)]; exact hdd)
          exact List.mem_map.mpr ⟨(z, c), (hst.2 _ _).mpr ⟨hz, hzd⟩, rfl⟩
        rw [List.length_range, List.length_map] at this
        omega
      have hex2 : ∃ L, 1 ≤ L ∧ Rk A g L s = true ∧ L ≤ 900 := ⟨d + 1, by omega, List.any_eq_true.mpr ⟨y, hy, hdd.1⟩, hd9⟩
      clear hd9 hdd hd hry hy h1 h2
      obtain ⟨L, h1, h2, h3⟩ := hex2
      revert h1 h2 h3
      induction L using Nat.strongRecOn with
      | _ L ih =>
        intro h1 h2 h3
        by_cases hq : ∃ j, 1 ≤ j ∧ j < L ∧ Rk A g j s = true
        · obtain ⟨j, q1, q2, q3⟩ := hq
          exact ih j q2 q1 q3 (by omega)
        · exact .inl ⟨L, h3, h1, h2, fun j q1 q2 => by
            cases hz : Rk A g j s with
            | false => rfl
            | true => exact absurd ⟨j, q1, q2, hz⟩ hq⟩
    · exact .inr fun L hL => by
        cases hz : Rk A g L s with
        | false => rfl
        | true => exact absurd ⟨L, hL, hz⟩ hex
  refine ⟨PathInv C n A s g es l, ?_, ?_⟩
  · rcases hcase with ⟨L, h1, h2, h3, h4⟩ | h
    · refine ⟨L, [], s, none, none, rfl, hs, .inl ⟨L, h1, h2, h3, h4, ⟨hs, h3, fun y hy j hj => ?_, rfl, .inl ⟨rfl, h2⟩⟩, by simp⟩⟩
      cases hz : Rk A g j y with
      | false => rfl
      | true =>
        have := h4 (j + 1) (by omega) hj
        have q : Rk A g (j + 1) s = true := List.any_eq_true.mpr ⟨y, hy, hz⟩
        rw [q] at this; cases this
    · exact ⟨0, [], s, none, none, rfl, hs, .inr ⟨h, rfl, rfl⟩⟩
  rintro m Γ ⟨pre, v, d5, d6, rfl, hv, hcase2⟩
  have hat : atI ((pre ++ [v]).map D.int) (-1) = some (.int v) := by rw [List.map_append]; exact atI_last _ _
  walk_at "r"
  rw [hat]
  walk_at "r"
  refine or_test (fun h => ?_) fun h1 h2 => ?_
  · refine ⟨rfl, (n, A, v), rfl, by dsimp only; omega, ?_⟩
    rintro _ rfl
    dsimp only
    have hfl : (foll A v).length ≤ 1000 := by
      unfold foll
      rw [List.length_map]
      exact Nat.le_trans (List.length_filter_le _ _) (by omega)
    refine lcbF (fun y => (es.map (·.1)).contains y) (fun y => prD (match valG (es.map stE) (Sum.inl y) with
      | some (.int d) => d
      | _ => 0, y)) (sz hfl) (fun y _ => ?_) ?_ (by cases d6 <;> rfl)
    · walk_at "r"
      rw [valG_st]
      refine ⟨fun h1 => ?_, fun h1 => by rw [h1]; rfl⟩
      have h3 : y ∈ es.map (·.1) := by simpa using h1
      obtain ⟨⟨a, d⟩, hp, rfl⟩ := List.mem_map.mp h3
      rw [valG_mem hst.1 hp, h1]
      exact ⟨by decide, rfl⟩
    · have hmap : ((foll A v).filter fun y => (es.map (·.1)).contains y).map (fun y => prD (match valG (es.map stE) (Sum.inl y) with
        | some (.int d) => d
        | _ => 0, y)) = (knowns es A v).map prD := by
        unfold knowns
        rw [List.map_map]
        rfl
      rw [hmap]
      have hnz : ¬ (pre ≠ [] ∧ v = g) := by
        rintro ⟨q1, q2⟩
        rcases h with h | h
        · have : pre.length = 0 := by
            have h5 : (((pre ++ [v]).length : Nat) : Int) = 1 := by exact of_decide_eq_true h
            rw [List.length_append, List.length_singleton] at h5
            omega
          exact q1 (List.length_eq_zero_iff.mp this)
        · subst q2
          simp at h
      rcases hcase2 with ⟨L, c1, c2, c3, c4, c5, c6⟩ | ⟨c1, c2, c3⟩
      · cases m with
        | zero =>
          exfalso
          have hvg : v = g := by
            have := c5.rk
            simpa [Rk] using this
          rcases c5.first with ⟨_, z⟩ | ⟨z, _⟩
          · omega
          · exact hnz ⟨z, hvg⟩
        | succ k =>
          obtain ⟨p, ps, hk, hw⟩ := way_step hst ok srt c5
          rw [hk]
          refine ⟨fun z => by simp at z, fun _ => ?_⟩
          have hal := prs_alike (p :: ps)
          refine ⟨?_, hal, fun d hd hdm => ?_⟩
          · have : ((p :: ps).map prD).all (D.sh 59) = true := by
              rw [List.all_map, List.all_eq_true]
              intro q _
              exact sh_pr 58 q
            exact this
          · obtain ⟨q, hq, rfl⟩ := List.mem_map.mp (show d ∈ (p :: ps).map prD from hd)
            rw [minPr_py] at hdm
            have := prD_inj hdm
            subst this
            refine ⟨?_, k, Nat.lt_succ_self _, pre ++ [v], (minPr p ps).2, some (.lst ((p :: ps).map prD)), d6, ?_, hw.node, .inl ⟨L, c1, c2, c3, c4, hw, ?_⟩⟩
            · simp only [List.length_append, List.length_cons, List.length_nil]
              exact sz' (by omega)
            · simp [grD, prD]
            · simp only [List.length_append, List.length_cons, List.length_nil]
              omega
      · subst c3
        have hk : knowns es A v = [] := by
          cases hk : knowns es A v with
          | nil => rfl
          | cons q qs =>
            exfalso
            obtain ⟨q1, d, _, q3⟩ := (mem_knowns hst ok q).mp (by rw [hk]; exact List.mem_cons_self)
            have := c1 (d + 1) (by omega)
            have q : Rk A g (d + 1) v = true := List.any_eq_true.mpr ⟨_, q1, q3.1⟩
            rw [q] at this; cases this
        rw [hk]
        exact ⟨fun _ => hR _ ⟨none, .inr ⟨c1, rfl⟩, fun p z => (by cases z), rfl⟩, fun z => by simp at z⟩
  · have hvg : v = g := by simpa using h2
    have hpre : pre ≠ [] := by
      rintro rfl
      simp at h1
    rcases hcase2 with ⟨L, c1, c2, c3, c4, c5, c6⟩ | ⟨c1, c2, c3⟩
    · rcases c5.first with ⟨z, _⟩ | ⟨_, z⟩
      · exact absurd z hpre
      · have hm : m = 0 := by
          cases m with
          | zero => rfl
          | succ k =>
            have := z.2 0 (by omega)
            simp [Rk, hvg] at this
        subst hm
        have hw := c5.way
        refine hR _ ⟨some (wayP A g L s), .inl ⟨L, c2, c3, c4, rfl⟩, fun p hp => ?_, ?_⟩
        · cases hp
          have := way_len A g L s
          omega
        · rw [hw]
          rfl
    · exact absurd c2 hpre
end
end Kb
set_option Elab.async false
set_option linter.all false
set_option maxRecDepth 100000
set_option maxHeartbeats 1000000
namespace Kb
open PySem L2
set_option autoImplicit false
local macro_rules | `(tactic| walk_at "r") => `(tactic| try simp only [sSeq, sNext, sRet, sRetF, sRetO, sAsg, sAsgF, sAsgM, sAsgR, rCl, rMe, sRetM, sIf, sIfM, sDrop, sDropM, sUnp, sAug, sFor, sForM, sApp, sSetI, sDPu, sDPuT, sDNew, sDNewT, sDOne, sFldI, sBreak, sCont, fLc, xDc, xF, xVar, bVar, xC, x2, b2, fAdd, fI, fI0, fB0, fEq, fNe, fIn, fIs, fIsNot, D.isN, xNeg, bTru, bNot, bAnd, bOr, bCh, xAnd, xOr, xNot, xIfE, xFld, fIx, fSl, oNo, oSo, aNil, aCons, xTup, fLst, fCat, xCall, fCall, fLen, fAbs, fInt, fList, fTuple, fIsi, D.ty, fAny, fSrt, fMin, xIdx, fSS, fDIn, xDGet, xDGetT, keyD, keysD, gN, gsN, gsC, gTu, iL, iT, iR1, iR2, iR3, iR1M, bYes, wipeE, free, Slot.ad, Slot.dat, Slot.par, axNil, axI, axB, xCl, fCl, xMe, fMe, xMk, fGen, mP, m2, bm2, mCl, mTup, mLst, mSS, amNil, amCons, gPlain, gThen, gNil, gYield, zP, zM, zTP, zD, z2, bz2, zTru, zNot, zAnd, zOr, zNil, zCons, zTup, zLst, zCl, zClX, zFld, zMkS, sAsgZ, sRetZ, sIfZ, sDropZ, sRaise, sTry, sRetR, sRetV, sRetMF, mF, mLc, iP, xR, fR, xClF, rMe0, fLRg, fSrtQ, iEnV, xEFld, fIsX, cvV, grD, prD, lk_arrows, lk_size, eqD_int, sh_int, sh60_ints, inL_ints,
  List.map_cons, List.map_nil, List.length_cons, List.length_nil, List.getElem?_cons_succ, List.getElem?_cons_zero, List.set_cons_succ, List.set_cons_zero, List.cons_append, List.nil_append, Option.isNone_none, Option.map_some, Option.map_none, true_and, and_true, if_true, if_false, rngD_ints, Int.add_sub_cancel, Bool.false_eq_true, List.length_map])
local macro_rules | `(tactic| walk_at "s") => `(tactic| try simp only [sSeq, sNext, sRet, sRetF, sRetO, sAsg, sAsgF, sAsgM, sAsgR, rCl, rMe, sRetM, sDrop, sDropM, sUnp, sAug, sFor, sForM, sApp, sSetI, sDPu, sDPuT, sDNew, sDNewT, sDOne, sFldI, sBreak, sCont, fLc, xDc, xF, xVar, bVar, xC, x2, b2, fAdd, fI, fI0, fB0, fEq, fNe, fIn, fIs, fIsNot, D.isN, xNeg, bTru, bNot, bAnd, bOr, bCh, xAnd, xOr, xNot, xIfE, xFld, fIx, fSl, oNo, oSo, aNil, aCons, xTup, fLst, fCat, xCall, fCall, fLen, fAbs, fInt, fList, fTuple, fIsi, D.ty, fAny, fSrt, fMin, xIdx, fSS, fDIn, xDGet, xDGetT, keyD, keysD, gN, gsN, gsC, gTu, iL, iT, iR1, iR2, iR3, iR1M, bYes, wipeE, free, Slot.ad, Slot.dat, Slot.par, axNil, axI, axB, xCl, fCl, xMe, fMe, xMk, fGen, mP, m2, bm2, mCl, mTup, mLst, mSS, amNil, amCons, gPlain, gThen, gNil, gYield, zP, zM, zTP, zD, z2, bz2, zTru, zNot, zAnd, zOr, zNil, zCons, zTup, zLst, zCl, zClX, zFld, zMkS, sAsgZ, sRetZ, sDropZ, sRaise, sTry, sRetR, sRetV, sRetMF, mF, mLc, iP, xR, fR, xClF, rMe0, fLRg, fSrtQ, iEnV, xEFld, fIsX, cvV, grD, prD, lk_arrows, lk_size, eqD_int, sh_int, sh60_ints, inL_ints,
  List.map_cons, List.map_nil, List.length_cons, List.length_nil, List.getElem?_cons_succ, List.getElem?_cons_zero, List.set_cons_succ, List.set_cons_zero, List.cons_append, List.nil_append, Option.isNone_none, Option.map_some, Option.map_none, true_and, and_true, if_true, if_false, rngD_ints, Int.add_sub_cancel, Bool.false_eq_true, List.length_map])
section
variable {P : Program} {w : World} {K : Frag} {mg : Str → Option Value} {base : Heap} {C f : Addr} {fd : FuncData}
theorem prs_alk (ps : List (Int × Int)) : alkD (ps.map prD) := by
  refine ⟨(prs_alike ps).1, .inl fun d hd => ?_⟩
  rw [List.map_map] at hd
  obtain ⟨p, _, rfl⟩ := List.mem_map.mp hd
  exact ⟨_, _, rfl⟩
abbrev s__law_pot : Stmt := top 14
abbrev N__law_pot : List Str := ["_law_script", "_law_k", "_law_number"]
theorem sc__law_pot : FnScope N__law_pot ["_law_script", "_law_k"] (defScope s__law_pot) := ⟨rfl, rfl, rfl, by decide +kernel, rfl, by decide +kernel, by decide +kernel⟩
def PotOk (z : List D) : Prop := ∃ a b : Int, z = [.int a, .int b] ∧ 0 ≤ a ∧ a < 2147483647 ∧ 0 ≤ b
def S_pot : SP := spc (α := List Int × Int) (fun x => [.im (.scr x.1), .im (.int x.2)]) (fun x => 0 ≤ x.2) fun x r => ∃ z, PotOk z ∧ r = .fl z
theorem ok_pot (F : FD K "_law_pot" "_law_pot" s__law_pot [] f fd) (T : Tx K mg C) : FnOk P w K mg base CX0 (2 + 1) f fd ["_law_script", "_law_k"] (spP K S_pot) := by
  refine fn_spc F sc__law_pot (fun x => [some (.im (.scr x.1)), some (.im (.int x.2)), none]) fun cdv A outer s H E hr => ?_
  refine ⟨_, (ss_cons (s_asg (i := 2) sc__law_pot.nd px_int)
      (ss_cons (s_if (tx_lt (bx_var 1) (bx (px_len rfl T.len (bx_var 0)))) (ss_one (s_asg (i := 2) sc__law_pot.nd (px_abs rfl T.abs (bx (px_ix (bx_var 0) (bx_var 1)))))) ss_nil)
      (ss_cons (s_if (tx_lt (bx_var 2) (bx (px_pow (bx px_int) (bx px_int)))) (ss_one (s_retF (fx_lst (as_cons (px_mod (bx (px_toint rfl T.int (bx_var 2))) (bx px_int)) (as_cons px_int as_nil))))) ss_nil)
      (ss_one (s_retF (fx_lst (as_cons px_int (as_cons (px_sub (bx_var 2) (bx (px_pow (bx px_int) (bx px_int)))) as_nil)))))))), ?_⟩
  rintro ⟨ns, k⟩ R hk hR
  dsimp only at hk hR
  walk_at "r"
  have hpow : CPow 10 18 := ⟨by decide, by decide, by decide⟩
  refine ⟨fun h => ?_, fun h => ⟨hpow, fun _ => ⟨by decide, by decide, hR _ ⟨_, ⟨_, _, rfl, by decide, by decide, by decide⟩, rfl⟩⟩, fun z => absurd z (by decide)⟩⟩
  have hlt : k < (ns.length : Int) := of_decide_eq_true h
  obtain ⟨j, rfl⟩ : ∃ j : Nat, k = (j : Int) := ⟨k.toNat, by omega⟩
  have hj : j < ns.length := by omega
  have e : atI ns (j : Int) = some ns[j] := atI_nat (List.getElem?_eq_getElem hj)
  rw [e]
  refine ⟨hpow, fun q => ⟨by decide, by decide, hR _ ⟨_, ⟨_, _, rfl, ?_, ?_, by decide⟩, rfl⟩⟩, fun q => ⟨hpow, by decide, hR _ ⟨_, ⟨_, _, rfl, by decide, by decide, ?_⟩, rfl⟩⟩⟩
  · exact Int.emod_nonneg _ (by decide)
  · exact Int.emod_lt_of_pos _ (by decide)
  · have q' := of_decide_eq_false q
    omega
abbrev s__law_draw : Stmt := top 15
abbrev N__law_draw : List Str := ["_law_pot_here", "_law_many", "_law_found_here"]
theorem sc__law_draw : FnScope N__law_draw ["_law_pot_here", "_law_many"] (defScope s__law_draw) := ⟨rfl, rfl, rfl, by decide +kernel, rfl, by decide +kernel, by decide +kernel⟩
def S_draw : SM := spcM (α := List D × Int) (fun x => x.1) (fun x => [.int x.2]) (fun x => PotOk x.1 ∧ 1 ≤ x.2 ∧ x.2 ≤ 1000) fun x r z => PotOk z ∧ ∃ v : Int, 0 ≤ v ∧ v < x.2 ∧ r = .d (.int v)
theorem ok_draw (F : FD K "_law_draw" "_law_draw" s__law_draw [] f fd) (T : Tx K mg C) : FnOk P w K mg base CX0 (2 + 1) f fd ["_law_pot_here", "_law_many"] (spM K S_draw) := by
  refine fn_pot F sc__law_draw (fun l x => [some (.pl l x.1), some (.im (.int x.2)), none]) fun cdv A outer s H E hr => ?_
  refine ⟨_, (ss_cons (s_if (tx_eq hr (bx (px_ix (bx_var 0) (bx px_int))) (bx px_int)) (ss_cons (s_asg (i := 2) sc__law_draw.nd (px_mod (bx (px_mod (bx (px_toint rfl T.int (bx (px_ix (bx_var 0) (bx px_int))))) (bx px_int))) (bx_var 1)))
      (ss_cons (s_setI 0 (px_fdiv (bx (px_toint rfl T.int (bx (px_ix (bx_var 0) (bx px_int))))) (bx px_int)) (bx px_int))
      (ss_one (s_ret (px_var 2))))) ss_nil)
      (ss_cons (s_setI 0 (px_mod (bx (px_toint rfl T.int (bx (px_mul (bx (px_ix (bx_var 0) (bx px_int))) (bx px_int))))) (bx px_int)) (bx px_int))
      (ss_one (s_ret (px_mod (bx (px_mod (bx (px_toint rfl T.int (bx (px_mul (bx (px_ix (bx_var 0) (bx px_int))) (bx (px_ix (bx_var 0) (bx px_int))))))) (bx px_int))) (bx_var 1)))))), ?_⟩
  rintro l ⟨z, m⟩ R ⟨⟨a, b, rfl, ha, ha2, hb⟩, hm1, hm2⟩ hR
  dsimp only at hm1 hm2 hR
  walk_at "r"
  have e0 : ∀ a b : Int, atI [D.int a, D.int b] 0 = some (.int a) := fun a b => rfl
  have e1 : ∀ a b : Int, atI [D.int a, D.int b] 1 = some (.int b) := fun a b => rfl
  simp only [e0, e1, sh_int, eqD_int]
  refine ⟨trivial, fun h => ⟨by decide, by omega, ⟨by decide, by decide⟩, 1, rfl, _, rfl, hR _ _ ⟨⟨a, b / 1000, rfl, ha, ha2, by omega⟩, _, Int.emod_nonneg _ (by omega), Int.emod_lt_of_pos _ (by omega), rfl⟩⟩, fun h => ?_⟩
  refine ⟨.inl ⟨by omega, by omega⟩, by decide, 0, rfl, ?_⟩
  have b1 : 0 ≤ a * 48271 % 2147483647 := Int.emod_nonneg _ (by decide)
  have b2 : a * 48271 % 2147483647 < 2147483647 := Int.emod_lt_of_pos _ (by decide)
  generalize a * 48271 % 2147483647 = c at b1 b2
  show CMul c c ∧ _
  exact ⟨.inl ⟨by omega, by omega⟩, by decide, by omega, _, rfl, hR _ _ ⟨⟨c, b, rfl, b1, b2, hb⟩, _, Int.emod_nonneg _ (by omega), Int.emod_lt_of_pos _ (by omega), rfl⟩⟩
end
end Kb
set_option Elab.async false
set_option linter.all false
set_option maxRecDepth 100000
set_option maxHeartbeats 1000000
namespace Kb
open PySem L2
set_option autoImplicit false
local macro_rules | `(tactic| walk_at "r") => `(tactic| try simp only [sSeq, sNext, sRet, sRetF, sRetO, sAsg, sAsgF, sAsgM, sAsgR, rCl, rMe, sRetM, sIf, sIfM, sDrop, sDropM, sUnp, sAug, sFor, sForM, sApp, sSetI, sDPu, sDPuT, sDNew, sDNewT, sDOne, sFldI, sBreak, sCont, fLc, xDc, xF, xVar, bVar, xC, x2, b2, fAdd, fI, fI0, fB0, fEq, fNe, fIn, fIs, fIsNot, D.isN, xNeg, bTru, bNot, bAnd, bOr, bCh, xAnd, xOr, xNot, xIfE, xFld, fIx, fSl, oNo, oSo, aNil, aCons, xTup, fLst, fCat, xCall, fCall, fLen, fAbs, fInt, fList, fTuple, fIsi, D.ty, fAny, fSrt, fMin, xIdx, fSS, fDIn, xDGet, xDGetT, keyD, keysD, gN, gsN, gsC, gTu, iL, iT, iR1, iR2, iR3, iR1M, bYes, wipeE, free, Slot.ad, Slot.dat, Slot.par, axNil, axI, axB, xCl, fCl, xMe, fMe, xMk, fGen, mP, m2, bm2, mCl, mTup, mLst, mSS, amNil, amCons, gPlain, gThen, gNil, gYield, zP, zM, zTP, zD, z2, bz2, zTru, zNot, zAnd, zOr, zNil, zCons, zTup, zLst, zCl, zClX, zFld, zMkS, sAsgZ, sRetZ, sIfZ, sDropZ, sRaise, sTry, sRetR, sRetV, sRetMF, mF, mLc, iP, xR, fR, xClF, rMe0, fLRg, fSrtQ, iEnV, xEFld, fIsX, cvV, grD, prD, lk_arrows, lk_size, eqD_int, sh_int, sh60_ints, inL_ints,
  List.map_cons, List.map_nil, List.length_cons, List.length_nil, List.getElem?_cons_succ, List.getElem?_cons_zero, List.set_cons_succ, List.set_cons_zero, List.cons_append, List.nil_append, Option.isNone_none, Option.map_some, Option.map_none, true_and, and_true, if_true, if_false, rngD_ints, Int.add_sub_cancel, Bool.false_eq_true, List.length_map])
local macro_rules | `(tactic| walk_at "s") => `(tactic| try simp only [sSeq, sNext, sRet, sRetF, sRetO, sAsg, sAsgF, sAsgM, sAsgR, rCl, rMe, sRetM, sDrop, sDropM, sUnp, sAug, sFor, sForM, sApp, sSetI, sDPu, sDPuT, sDNew, sDNewT, sDOne, sFldI, sBreak, sCont, fLc, xDc, xF, xVar, bVar, xC, x2, b2, fAdd, fI, fI0, fB0, fEq, fNe, fIn, fIs, fIsNot, D.isN, xNeg, bTru, bNot, bAnd, bOr, bCh, xAnd, xOr, xNot, xIfE, xFld, fIx, fSl, oNo, oSo, aNil, aCons, xTup, fLst, fCat, xCall, fCall, fLen, fAbs, fInt, fList, fTuple, fIsi, D.ty, fAny, fSrt, fMin, xIdx, fSS, fDIn, xDGet, xDGetT, keyD, keysD, gN, gsN, gsC, gTu, iL, iT, iR1, iR2, iR3, iR1M, bYes, wipeE, free, Slot.ad, Slot.dat, Slot.par, axNil, axI, axB, xCl, fCl, xMe, fMe, xMk, fGen, mP, m2, bm2, mCl, mTup, mLst, mSS, amNil, amCons, gPlain, gThen, gNil, gYield, zP, zM, zTP, zD, z2, bz2, zTru, zNot, zAnd, zOr, zNil, zCons, zTup, zLst, zCl, zClX, zFld, zMkS, sAsgZ, sRetZ, sDropZ, sRaise, sTry, sRetR, sRetV, sRetMF, mF, mLc, iP, xR, fR, xClF, rMe0, fLRg, fSrtQ, iEnV, xEFld, fIsX, cvV, grD, prD, lk_arrows, lk_size, eqD_int, sh_int, sh60_ints, inL_ints,
  List.map_cons, List.map_nil, List.length_cons, List.length_nil, List.getElem?_cons_succ, List.getElem?_cons_zero, List.set_cons_succ, List.set_cons_zero, List.cons_append, List.nil_append, Option.isNone_none, Option.map_some, Option.map_none, true_and, and_true, if_true, if_false, rngD_ints, Int.add_sub_cancel, Bool.false_eq_true, List.length_map])
section
variable {P : Program} {w : World} {K : Frag} {mg : Str → Option Value} {base : Heap} {C f : Addr} {fd : FuncData}
def outs (n : Int) (o : List Int) : List (List Int) := ((nodes n).filter fun e => !o.contains e).map fun e => o ++ [e]
def lawOrd (n : Int) : Nat → List (List Int)
  | 0 => [[]]
  | k + 1 => (lawOrd n k).flatMap (outs n)
theorem outs_len (n : Int) (o : List Int) : (outs n o).length ≤ n.toNat := by
  unfold outs
  rw [List.length_map]
  exact Nat.le_trans (List.length_filter_le _ _) (by rw [rngI_len]; exact Nat.le_refl _)
theorem flat_len {α β : Type} (f : α → List β) (k : Nat) (h : ∀ x, (f x).length ≤ k) : ∀ xs : List α, (xs.flatMap f).length ≤ xs.length * k
  | [] => by simp
  | x :: xs => by
    rw [List.flatMap_cons, List.length_append, List.length_cons, Nat.add_mul, Nat.one_mul]
    have := h x
    have := flat_len f k h xs
    omega
theorem lawOrd_len {n : Int} (hn : n ≤ 5) : ∀ k, (lawOrd n k).length ≤ 5 ^ k
  | 0 => by simp [lawOrd]
  | k + 1 => by
    have h1 := lawOrd_len hn k
    have h2 := flat_len (outs n) 5 (fun o => Nat.le_trans (outs_len n o) (by omega)) (lawOrd n k)
    show ((lawOrd n k).flatMap (outs n)).length ≤ 5 ^ (k + 1)
    rw [Nat.pow_succ]
    exact Nat.le_trans h2 (Nat.mul_le_mul_right 5 h1)
theorem lawOrd_item {n : Int} : ∀ k, ∀ o ∈ lawOrd n k, o.length = k
  | 0 => by simp [lawOrd]
  | k + 1 => by
    intro o ho
    obtain ⟨q, hq, hoq⟩ := List.mem_flatMap.mp (show o ∈ (lawOrd n k).flatMap (outs n) from ho)
    unfold outs at hoq
    obtain ⟨e, _, rfl⟩ := List.mem_map.mp hoq
    rw [List.length_append, lawOrd_item k q hq]
    rfl
abbrev s__law_orders : Stmt := top 16
abbrev N__law_orders : List Str := ["_law_many", "_law_found_here", "_law_k", "_law_longer", "_law_order", "_law_entry"]
theorem sc__law_orders : FnScope N__law_orders ["_law_many"] (defScope s__law_orders) := ⟨rfl, rfl, rfl, by decide +kernel, rfl, by decide +kernel, by decide +kernel⟩
def S_lorders : SP := spc (α := Int) (fun x => [.im (.int x)]) (fun x => 0 ≤ x ∧ x ≤ 5) fun x r => r = .d (.lst ((lawOrd x x.toNat).map lstD))
theorem ok_lorders (F : FD K "_law_orders" "_law_orders" s__law_orders [] f fd) (T : Tx K mg C) : FnOk P w K mg base CX0 (2 + 1) f fd ["_law_many"] (spP K S_lorders) := by
  refine fn_spc F sc__law_orders (fun x => [some (.im (.int x)), none, none, none, none, none]) fun cdv A outer s H E hr => ?_
  refine ⟨_, (ss_cons (s_asg (i := 1) sc__law_orders.nd (px_f (fx_lst (as_cons (px_f (fx_lst as_nil)) as_nil))))
      (ss_cons (s_for PassesOwn.never rfl (il_r1 rfl T.range (aw_cons (bx_var 0) aw_nil)) (gx_name (i := 2) sc__law_orders.nd) (ss_cons (s_asg (i := 3) sc__law_orders.nd (px_f (fx_lst as_nil)))
      (ss_cons (s_for PassesOwn.never rfl (il_list (px_var 1)) (gx_name (i := 4) sc__law_orders.nd) (ss_one (s_asg (i := 3) sc__law_orders.nd (px_f (fx_cat (bx_var 3) (bx (px_f (fx_lc (own := [("_law_entry", 5)]) rfl sc__law_orders.nd (ib (il_r2 rfl T.range (aw_cons (bx px_int) (aw_cons (bx (px_add (bx_var 0) (bx px_int))) aw_nil)))) (blkOk_by (N := N__law_orders) (sc := defScope s__law_orders) (by decide +kernel)) (fun _ _ _ _ _ => (gx_name (i := 5) sc__law_orders.nd)) (fun _ _ _ _ _ => (tts_one (tx_nin hr (bx_var 5) (bx_var 4)))) (fun _ _ _ _ _ => (px_f (fx_cat (bx_var 4) (bx (px_f (fx_lst (as_cons (px_var 5) as_nil)))))))))))))))
      (ss_one (s_asg (i := 1) sc__law_orders.nd (px_var 3))))))
      (ss_one (s_ret (px_var 1))))), ?_⟩
  rintro n R ⟨hn0, hn⟩ hR
  walk_at "r"
  refine ⟨by decide, by decide, by omega, by omega, ?_⟩
  refine forb (fun pre Γ => ∃ d2 d3 d4 : Option D, Γ = [some (.im (.int n)), some (.im (.lst ((lawOrd n pre.length).map lstD))), d2.map Slot.im, d3.map Slot.im, d4.map Slot.im, none]) ⟨none, none, none, rfl⟩ ?_ ?_
  · rintro pre k post Γ hx ⟨d2, d3, d4, rfl⟩
    have hk : pre.length ≤ 5 := by
      have : (rngI 0 1 n.toNat).length = pre.length + (post.length + 1) := by rw [hx]; simp
      rw [rngI_len] at this
      omega
    have h5 : (lawOrd n pre.length).length ≤ 3125 := Nat.le_trans (lawOrd_len hn _) (Nat.pow_le_pow_right (by decide) hk)
    walk_at "r"
    refine ⟨by cases d2 <;> rfl, by decide, ?_⟩
    refine forb (fun pre2 Γ => ∃ d4 : Option D, Γ = [some (.im (.int n)), some (.im (.lst ((lawOrd n pre.length).map lstD))), some (.im (.int k)), some (.im (.lst ((pre2.flatMap (outs n)).map lstD))), d4.map Slot.im, none]) ⟨d4, rfl⟩ ?_ ?_
    · rintro pre2 o post2 Γ hx2 ⟨d4, rfl⟩
      have ho : o.length = pre.length := lawOrd_item _ o (by rw [hx2]; simp)
      simp only [lstD]
      walk_at "r"
      refine ⟨by cases d4 <;> rfl, ⟨by decide, by decide, by omega, by omega⟩, ?_⟩
      refine lcbF (fun e => !o.contains e) (fun e => lstD (o ++ [e])) (sz (nodes_len (by omega))) (fun e _ => ?_) ?_
      · walk_at "r"
        refine ⟨fun h => ⟨by decide, sz (by omega), ?_⟩, fun h => by rw [h]; rfl⟩
        rw [h]
        simp [lstD]
      · have hl2 : (pre2.flatMap (outs n)).length ≤ pre2.length * 5 := flat_len (outs n) 5 (fun o => Nat.le_trans (outs_len n o) (by omega)) pre2
        have hl3 : pre2.length ≤ 3125 := by
          have : (lawOrd n pre.length).length = pre2.length + (post2.length + 1) := by rw [hx2]; simp
          omega
        have hl4 := outs_len n o
        refine ⟨?_, some (.lst (o.map D.int)), ?_⟩
        · have e9 : sizeLine = 16777216 := by decide
          have e8 : (((nodes n).filter fun e => !o.contains e).map fun e => lstD (o ++ [e])).length = (outs n o).length := by unfold outs; simp
          rw [e8, e9]
          omega
        · unfold outs lstD
          simp
    · rintro Γ ⟨d4, rfl⟩
      walk_at "r"
      refine ⟨some (.int k), some (.lst (((lawOrd n pre.length).flatMap (outs n)).map lstD)), d4, ?_⟩
      rw [List.length_append]
      rfl
  · rintro Γ ⟨d2, d3, d4, rfl⟩
    walk_at "r"
    refine hR _ ?_
    rw [rngI_len]
theorem cut_drop (xs : List D) (k : Nat) (h : k ≤ xs.length) : cutD xs (some (k : Int)) none = xs.drop k := by
  unfold cutD HT.sIx
  simp only [show ¬ ((k : Int) < 0) by omega, if_false]
  rw [show min (k : Int).toNat xs.length = k by omega, List.take_of_length_le (by simp)]
theorem idx_ints (o : List Int) {v : Int} (h : v ∈ o) : (o.map D.int).findIdx? (fun z => eqD z (.int v)) = some (o.idxOf v) := by
  induction o with
  | nil => cases h
  | cons x o ih =>
    rw [List.map_cons, List.findIdx?_cons, List.idxOf_cons, eqD_int]
    cases hx : x == v with
    | true => rfl
    | false =>
      have : v ∈ o := by
        rcases List.mem_cons.mp h with rfl | h
        · simp at hx
        · exact h
      rw [ih this]
      rfl
abbrev s__law_lined : Stmt := top 17
abbrev N__law_lined : List Str := ["_law_pot_here", "_law_size", "_law_line", "_law_node", "_law_at"]
theorem sc__law_lined : FnScope N__law_lined ["_law_pot_here", "_law_size"] (defScope s__law_lined) := ⟨rfl, rfl, rfl, by decide +kernel, rfl, by decide +kernel, by decide +kernel⟩
def IsLine (n : Int) (L : List Int) : Prop := L.Nodup ∧ ∀ v, v ∈ L ↔ v ∈ nodes n
def S_lined : SM := spcM (α := List D × Int) (fun x => x.1) (fun x => [.int x.2]) (fun x => PotOk x.1 ∧ 0 ≤ x.2 ∧ x.2 ≤ 500) fun x r z => PotOk z ∧ ∃ L, IsLine x.2 L ∧ r.dat = lstD L
theorem ok_lined (F : FD K "_law_lined" "_law_lined" s__law_lined [] f fd) (T : Tx K mg C) (D__law_draw : DfM P w K mg base "_law_draw" 3 S_draw) : FnOk P w K mg base CX0 (3 + 1) f fd ["_law_pot_here", "_law_size"] (spM K S_lined) := by
  refine fn_pot F sc__law_lined (fun l x => [some (.pl l x.1), some (.im (.int x.2)), none, none, none]) fun cdv A outer s H E hr => ?_
  refine ⟨_, (ss_cons (s_asg (i := 2) sc__law_lined.nd (px_f (fx_lst as_nil)))
      (ss_cons (s_for PassesOwn.never rfl (il_r2 rfl T.range (aw_cons (bx px_int) (aw_cons (bx (px_add (bx_var 1) (bx px_int))) aw_nil))) (gx_name (i := 3) sc__law_lined.nd) (ss_cons (s_asgM (i := 4) sc__law_lined.nd (mx_call (i := 0) D__law_draw (hr.mono (by decide)) (am_cons (mx (px_add (bx (px_len rfl T.len (bx_var 2))) (bx px_int))) am_nil)))
      (ss_one (s_asg (i := 2) sc__law_lined.nd (px_f (fx_cat (bx (px_f (fx_cat (bx (px_f (fx_sl (bx_var 2) ox_no (ox_so (bx_var 4))))) (bx (px_f (fx_lst (as_cons (px_var 3) as_nil))))))) (bx (px_f (fx_sl (bx_var 2) (ox_so (bx_var 4)) ox_no)))))))))
      (ss_one (s_ret (px_var 2))))), ?_⟩
  rintro l ⟨z, n⟩ R ⟨hz, hn0, hn⟩ hR
  dsimp only at hz hn0 hn hR
  walk_at "r"
  refine ⟨by decide, ⟨by decide, by decide, by omega, by omega⟩, ?_⟩
  refine forb (fun pre Γ => ∃ (z : List D) (L : List Int) (d3 d4 : Option D), Γ = [some (.pl l z), some (.im (.int n)), some (.im (lstD L)), d3.map Slot.im, d4.map Slot.im] ∧ PotOk z ∧ L.Nodup ∧ (∀ v, v ∈ L ↔ v ∈ pre) ∧ L.length = pre.length) ⟨z, [], none, none, rfl, hz, List.nodup_nil, fun v => Iff.rfl, rfl⟩ ?_ ?_
  · rintro pre k post Γ hx ⟨z, L, d3, d4, rfl, hz, h1, h2, h3⟩
    have hk : pre.length ≤ 500 := by
      have : (rngI 1 1 n.toNat).length = pre.length + (post.length + 1) := by rw [hx]; simp
      rw [rngI_len] at this
      omega
    simp only [lstD]
    walk_at "r"
    refine ⟨by cases d3 <;> rfl, ⟨l, z, .inl rfl⟩, (z, ((L.length + 1 : Nat) : Int)), rfl, rfl, ⟨hz, by dsimp only; omega, by dsimp only; omega⟩, ?_⟩
    rintro r z2 ⟨hz2, v, hv0, hv, rfl⟩
    dsimp only at hv
    obtain ⟨j, rfl⟩ := Int.eq_ofNat_of_zero_le hv0
    simp only [Rs.dat]
    rw [cut_take _ _ (by simp; omega), cut_drop _ _ (by simp; omega)]
    have hkn : k ∉ pre := by
      have := nodes_nodup n
      unfold nodes at this
      rw [hx, List.nodup_append] at this
      exact fun hm => this.2.2 _ hm k List.mem_cons_self rfl
    have hperm : (L.take j ++ [k] ++ L.drop j).Perm (k :: L) := by
      rw [List.append_assoc]
      have := List.perm_middle (a := k) (l₁ := L.take j) (l₂ := L.drop j)
      rw [List.take_append_drop] at this
      exact this
    refine ⟨by decide, ?_, ?_, z2, L.take j ++ [k] ++ L.drop j, some (.int k), some (.int j), ?_, hz2, ?_, fun v => ?_, ?_⟩
    · simp only [List.length_take, List.length_map]
      exact sz (by omega)
    · simp only [List.length_append, List.length_take, List.length_drop, List.length_map, List.length_cons, List.length_nil]
      exact sz (by omega)
    · simp [List.map_take, List.map_drop]
    · rw [hperm.nodup_iff, List.nodup_cons]
      exact ⟨fun hm => hkn ((h2 k).mp hm), h1⟩
    · rw [hperm.mem_iff, List.mem_cons, h2, List.mem_append, List.mem_singleton]
      exact ⟨fun h => h.elim .inr .inl, fun h => h.elim .inr .inl⟩
    · rw [hperm.length_eq, List.length_cons, List.length_append, h3]
      rfl
  · rintro Γ ⟨z, L, d3, d4, rfl, hz, h1, h2, h3⟩
    walk_at "r"
    exact ⟨z, rfl, hR _ _ ⟨hz, L, ⟨h1, h2⟩, rfl⟩⟩
abbrev s__law_kept : Stmt := top 19
abbrev N__law_kept : List Str := ["_law_arrows_here", "_law_order", "_law_x", "_law_y"]
theorem sc__law_kept : FnScope N__law_kept ["_law_arrows_here", "_law_order"] (defScope s__law_kept) := ⟨rfl, rfl, rfl, by decide +kernel, rfl, by decide +kernel, by decide +kernel⟩
def keptB (A : List (Int × Int)) (o : List Int) : Bool := A.all fun p => decide (o.idxOf p.1 < o.idxOf p.2)
def S_kept : SP := spc (α := List (Int × Int) × List Int) (fun x => [.im (.lst (x.1.map prD)), .im (lstD x.2)]) (fun x => x.1.length ≤ 500 ∧ ∀ p ∈ x.1, p.1 ∈ x.2 ∧ p.2 ∈ x.2) fun x r => r = .d (.bl (keptB x.1 x.2))
theorem ok_kept (F : FD K "_law_kept" "_law_kept" s__law_kept [] f fd) (T : Tx K mg C) : FnOk P w K mg base CX0 (2 + 1) f fd ["_law_arrows_here", "_law_order"] (spP K S_kept) := by
  refine fn_spc F sc__law_kept (fun x => [some (.im (.lst (x.1.map prD))), some (.im (lstD x.2)), none, none]) fun cdv A outer s H E hr => ?_
  refine ⟨_, (ss_one (s_ret (px_all rfl rfl T.all (bx (px_f (fx_lc (own := [("_law_x", 2), ("_law_y", 3)]) rfl sc__law_kept.nd (ib_list (bx_var 0)) (blkOk_by (N := N__law_kept) (sc := defScope s__law_kept) (by decide +kernel)) (fun _ _ _ _ _ => (gx_tup (n := 2) rfl (gx_cons (gx_name (i := 2) sc__law_kept.nd) (gx_cons (gx_name (i := 3) sc__law_kept.nd) gx_nil)))) (fun _ _ _ _ _ => tts_nil) (fun _ _ _ _ _ => (px_lt (bx (px_index hr (bx_var 1) (bx_var 2))) (bx (px_index hr (bx_var 1) (bx_var 3))))))))))), ?_⟩
  rintro ⟨A, o⟩ R ⟨hA, ho⟩ hR
  dsimp only at hA ho hR
  walk_at "r"
  refine lcbM (fun p => .bl (decide (o.idxOf p.1 < o.idxOf p.2))) (sz (by omega)) (fun p hp => ?_) ?_
  · obtain ⟨q1, q2⟩ := ho p hp
    simp only [lstD]
    walk_at "r"
    refine ⟨fun _ => ⟨_, idx_ints o q1, _, idx_ints o q2, ?_⟩, fun z => nomatch z⟩
    simp
  · refine ⟨A.map fun p => decide (o.idxOf p.1 < o.idxOf p.2), by simp, ?_⟩
    rw [List.all_map]
    exact hR _ rfl
theorem drawS {z : List D} {m : Int} {R : Rs → List D → Prop} (hz : PotOk z) (h1 : 1 ≤ m) (h2 : m ≤ 1000) (h : ∀ v z', PotOk z' → 0 ≤ v → v < m → R (.d (.int v)) z') : S_draw.S z [.int m] R :=
  ⟨(z, m), rfl, rfl, ⟨hz, h1, h2⟩, by rintro r z ⟨hz, v, a, b, rfl⟩; exact h v z hz a b⟩
theorem line_at {n : Int} {L : List Int} (h : IsLine n L) {i : Int} (h0 : 0 ≤ i) (h1 : i < n) : ∃ x, atI (L.map D.int) i = some (.int x) ∧ L[i.toNat]? = some x ∧ x ∈ nodes n := by
  have hlen : L.length = n.toNat := by
    have a := nodup_len h.1 fun x hx => (h.2 x).mp hx
    have b := nodup_len (nodes_nodup n) fun x hx => (h.2 x).mpr hx
    rw [rngI_len] at a b
    omega
  obtain ⟨j, rfl⟩ := Int.eq_ofNat_of_zero_le h0
  have hj : j < L.length := by omega
  refine ⟨L[j], atI_nat (by rw [List.getElem?_map, List.getElem?_eq_getElem hj]; rfl), by simp [hj], (h.2 _).mp (List.getElem_mem hj)⟩
abbrev s__law_arrows : Stmt := top 18
abbrev N__law_arrows : List Str := ["_law_pot_here", "_law_size", "_law_line", "_law_along", "_law_turned", "_law_many", "_law_found_here", "_law_k", "_law_start", "_law_step", "_law_pair"]
theorem sc__law_arrows : FnScope N__law_arrows ["_law_pot_here", "_law_size"] (defScope s__law_arrows) := ⟨rfl, rfl, rfl, by decide +kernel, rfl, by decide +kernel, by decide +kernel⟩
def S_larrows : SM := spcM (α := List D × Int) (fun x => x.1) (fun x => [.int x.2]) (fun x => PotOk x.1 ∧ 0 ≤ x.2 ∧ x.2 ≤ 500) fun x r z => PotOk z ∧ ∃ A : List (Int × Int), A.length ≤ 12 ∧ GOk x.2 A ∧ r = .fl (A.map prD)
def ArrInv (n : Int) (L : List Int) (along turned : Bool) (m : Int) (l l2 : Addr) (pre : List Int) (Γ : Env) : Prop := ∃ (z : List D) (As : List (Int × Int)) (d7 d8 d9 d10 : Option D), Γ = [some (.pl l z), some (.im (.int n)), some (.im (lstD L)), some (.im (.bl along)), some (.im (.bl turned)), some (.im (.int m)), some (.ml l2 (As.map prD)), d7.map Slot.im, d8.map Slot.im, d9.map Slot.im, d10.map Slot.im] ∧ PotOk z ∧ As.length ≤ pre.length ∧ GOk n As
theorem ok_larrows (F : FD K "_law_arrows" "_law_arrows" s__law_arrows [] f fd) (T : Tx K mg C) (D__law_draw : DfM P w K mg base "_law_draw" 3 S_draw) (D__law_lined : DfM P w K mg base "_law_lined" 4 S_lined) : FnOk P w K mg base CX0 (4 + 1) f fd ["_law_pot_here", "_law_size"] (spM K S_larrows) := by
  refine fn_pot F sc__law_arrows (fun l x => [some (.pl l x.1), some (.im (.int x.2)), none, none, none, none, none, none, none, none, none]) fun cdv A outer s H E hr => ?_
  refine ⟨_, (ss_cons (s_asgM (i := 2) sc__law_arrows.nd (mx_call (i := 0) D__law_lined (hr.mono (by decide)) (am_cons (mx (px_var 1)) am_nil)))
      (ss_cons (s_asgM (i := 3) sc__law_arrows.nd (mx_cmp (op_eqD hr.units) does_eq (mx_call (i := 0) D__law_draw (hr.mono (by decide)) (am_cons (mx px_int) am_nil)) (mx px_int)))
      (ss_cons (s_asgM (i := 4) sc__law_arrows.nd (mx_cmp (op_eqD hr.units) does_eq (mx_call (i := 0) D__law_draw (hr.mono (by decide)) (am_cons (mx px_int) am_nil)) (mx px_int)))
      (ss_cons (s_asgM (i := 5) sc__law_arrows.nd (mx_call (i := 0) D__law_draw (hr.mono (by decide)) (am_cons (mx px_int) am_nil)))
      (ss_cons (s_asgF (i := 6) sc__law_arrows.nd (fx_lst as_nil))
      (ss_cons (s_for PassesOwn.never rfl (il_r1 rfl T.range (aw_cons (bx_var 5) aw_nil)) (gx_name (i := 7) sc__law_arrows.nd) (ss_one (s_if (tx_gt (bx_var 1) (bx px_int)) (ss_cons (s_asgM (i := 8) sc__law_arrows.nd (mx_call (i := 0) D__law_draw (hr.mono (by decide)) (am_cons (mx (px_var 1)) am_nil)))
      (ss_cons (s_asgM (i := 9) sc__law_arrows.nd (mx_bin op_addD does_add (mx px_int) (mx_call (i := 0) D__law_draw (hr.mono (by decide)) (am_cons (mx (px_sub (bx_var 1) (bx px_int))) am_nil))))
      (ss_cons (s_asg (i := 10) sc__law_arrows.nd (px_f (fx_lst (as_cons (px_ix (bx_var 2) (bx_var 8)) (as_cons (px_ix (bx_var 2) (bx (px_mod (bx (px_toint rfl T.int (bx (px_add (bx_var 8) (bx_var 9))))) (bx_var 1)))) as_nil)))))
      (ss_cons (s_if (tx_w (tw_and (tx_tru (bx_var 3)) (tw_and1 (tx_ge (bx (px_add (bx_var 8) (bx_var 9))) (bx_var 1))))) (ss_one (s_asg (i := 10) sc__law_arrows.nd (px_f (fx_lst (as_cons (px_ix (bx_var 10) (bx px_int)) (as_cons (px_ix (bx_var 10) (bx px_int)) as_nil)))))) ss_nil)
      (ss_cons (s_if (tx_w (tw_and (tx_tru (bx_var 3)) (tw_and (tx_tru (bx_var 4)) (tw_and1 (tx_eq hr (bx_var 7) (bx (px_sub (bx_var 5) (bx px_int)))))))) (ss_one (s_asg (i := 10) sc__law_arrows.nd (px_f (fx_lst (as_cons (px_ix (bx_var 10) (bx px_int)) (as_cons (px_ix (bx_var 10) (bx px_int)) as_nil)))))) ss_nil)
      (ss_one (s_app 6 (px_tup (as_cons (px_ix (bx_var 10) (bx px_int)) (as_cons (px_ix (bx_var 10) (bx px_int)) as_nil)))))))))) ss_nil)))
      (ss_one (s_retO 6)))))))), ?_⟩
  rintro l ⟨z, n⟩ R ⟨hz, hn0, hn⟩ hR
  dsimp only at hz hn0 hn hR
  walk_at "r"
  refine ⟨⟨l, z, .inl rfl⟩, (z, n), rfl, rfl, ⟨hz, hn0, hn⟩, ?_⟩
  rintro r z ⟨hz, L, hL, hrL⟩
  dsimp only at hL
  rw [hrL]
  refine ⟨⟨l, z, .inl rfl⟩, drawS hz (by decide) (by decide) fun a z hz _ _ => ⟨rfl, ⟨l, z, .inl rfl⟩, drawS hz (by decide) (by decide) fun b z hz _ _ => ⟨rfl, ⟨l, z, .inl rfl⟩, drawS hz (by decide) (by decide) fun m z hz hm0 hm => ⟨by decide, fun l2 hl2 => ?_⟩⟩⟩⟩
  simp only [Rs.dat, eqD_int]
  generalize (a == 1) = along
  generalize (b == 1) = turned
  refine ⟨by omega, by omega, ?_⟩
  walk_at "r"
  refine forb (ArrInv n L along turned m l l2) ⟨z, [], none, none, none, none, rfl, hz, Nat.le_refl _, fun p hp => by cases hp⟩ ?_ ?_
  · rintro pre k post Γ hx ⟨z, As, d7, d8, d9, d10, rfl, hz, hl, hg⟩
    have hk : pre.length ≤ 12 := by
      have : (rngI 0 1 m.toNat).length = pre.length + (post.length + 1) := by rw [hx]; simp
      rw [rngI_len] at this
      omega
    simp only [lstD]
    walk_at "r"
    refine ⟨by cases d7 <;> rfl, fun h => ?_, fun h => ⟨z, As, some (.int k), d8, d9, d10, rfl, hz, by rw [List.length_append]; omega, hg⟩⟩
    have hn1 : 1 < n := of_decide_eq_true h
    refine ⟨⟨l, z, .inl rfl⟩, drawS hz (by omega) (by omega) fun st z hz hs0 hs => ⟨⟨l, z, .inl rfl⟩, drawS hz (by omega) (by omega) fun dl z hz hd0 hd => ?_⟩⟩
    simp only [Rs.dat]
    obtain ⟨x, hx1, hx2, hx3⟩ := line_at hL hs0 hs
    obtain ⟨y, hy1, hy2, hy3⟩ := line_at hL (Int.emod_nonneg (st + (1 + dl)) (show n ≠ 0 by omega)) (Int.emod_lt_of_pos _ (by omega))
    have hne : x ≠ y := by
      rintro rfl
      have := hL.1
      have e : st.toNat = ((st + (1 + dl)) % n).toNat := by
        have h1 : st.toNat < L.length := by
          rcases Nat.lt_or_ge st.toNat L.length with q | q
          · exact q
          · rw [List.getElem?_eq_none q] at hx2; cases hx2
        exact (List.getElem?_inj h1 this).mp (hx2.trans hy2.symm)
      have e2 : st = (st + (1 + dl)) % n := by
        have := Int.emod_nonneg (st + (1 + dl)) (show n ≠ 0 by omega)
        omega
      rcases (show st + (1 + dl) < n ∨ n ≤ st + (1 + dl) by omega) with q | q
      · rw [Int.emod_eq_of_lt (by omega) q] at e2
        omega
      · have : (st + (1 + dl)) % n = st + (1 + dl) - n := by
          rw [← Int.sub_emod_right, Int.emod_eq_of_lt (by omega) (by omega)]
        omega
    have fin : ∀ (u v : Int) (d : D), u ∈ nodes n → v ∈ nodes n → u ≠ v → ArrInv n L along turned m l l2 (pre ++ [k]) [some (.pl l z), some (.im (.int n)), some (.im (.lst (L.map D.int))), some (.im (.bl along)), some (.im (.bl turned)), some (.im (.int m)), some (.ml l2 (As.map prD ++ [.tup [.int u, .int v]])), some (.im (.int k)), some (.im (.int st)), some (.im (.int (1 + dl))), some (.im d)] := fun u v d h1 h2 h3 => by
      refine ⟨z, As ++ [(u, v)], some (.int k), some (.int st), some (.int (1 + dl)), some d, ?_, hz, ?_, fun p hp => ?_⟩
      · simp [lstD, prD]
      · simp only [List.length_append, List.length_cons, List.length_nil]; omega
      · rcases List.mem_append.mp hp with hp | hp
        · exact hg p hp
        · simp at hp
          subst hp
          exact ⟨h1, h2, h3⟩
    have e0 : ∀ a b : Int, atI [D.int a, D.int b] 0 = some (.int a) := fun a b => rfl
    have e1 : ∀ a b : Int, atI [D.int a, D.int b] 1 = some (.int b) := fun a b => rfl
    have e2 : (0 + 1 + 1 ≤ sizeLine) = True := eq_true (by decide)
    have e3 : (0 < n) = True := eq_true (by omega)
    have e4 : (As.length < sizeLine) = True := eq_true (sz' (by omega))
    simp only [hx1, hy1, e0, e1, e2, e3, e4, true_and]
    generalize decide (n ≤ st + (1 + dl)) = c1
    generalize (k == m - 1) = c2
    have f1 := fun d => fin x y d hx3 hy3 hne
    have f2 := fun d => fin y x d hy3 hx3 (Ne.symm hne)
    clear fin hg hL hR
    cases along <;> cases turned <;> cases c1 <;> cases c2 <;> simp only [Bool.false_eq_true, Bool.true_eq_false, reduceCtorEq, false_implies, true_implies, implies_true, true_and, and_true] <;> first | exact f1 _ | exact f2 _
  · rintro Γ ⟨z, As, d7, d8, d9, d10, rfl, hz, hl, hg⟩
    walk_at "r"
    refine ⟨z, rfl, hR _ _ ⟨hz, As, ?_, hg, rfl⟩⟩
    rw [rngI_len] at hl
    omega
end
end Kb
set_option Elab.async false
set_option linter.all false
set_option maxRecDepth 100000
set_option maxHeartbeats 1000000
namespace Kb
open PySem L2
set_option autoImplicit false
local macro_rules | `(tactic| walk_at "r") => `(tactic| try simp only [sSeq, sNext, sRet, sRetF, sRetO, sAsg, sAsgF, sAsgM, sAsgR, rCl, rMe, sRetM, sIf, sIfM, sDrop, sDropM, sUnp, sAug, sFor, sForM, sApp, sSetI, sDPu, sDPuT, sDNew, sDNewT, sDOne, sFldI, sBreak, sCont, fLc, xDc, xF, xVar, bVar, xC, x2, b2, fAdd, fI, fI0, fB0, fEq, fNe, fIn, fIs, fIsNot, D.isN, xNeg, bTru, bNot, bAnd, bOr, bCh, xAnd, xOr, xNot, xIfE, xFld, fIx, fSl, oNo, oSo, aNil, aCons, xTup, fLst, fCat, xCall, fCall, fLen, fAbs, fInt, fList, fTuple, fIsi, D.ty, fAny, fSrt, fMin, xIdx, fSS, fDIn, xDGet, xDGetT, keyD, keysD, gN, gsN, gsC, gTu, iL, iT, iR1, iR2, iR3, iR1M, bYes, wipeE, free, Slot.ad, Slot.dat, Slot.par, axNil, axI, axB, xCl, fCl, xMe, fMe, xMk, fGen, mP, m2, bm2, mCl, mTup, mLst, mSS, amNil, amCons, gPlain, gThen, gNil, gYield, zP, zM, zTP, zD, z2, bz2, zTru, zNot, zAnd, zOr, zNil, zCons, zTup, zLst, zCl, zClX, zFld, zMkS, sAsgZ, sRetZ, sIfZ, sDropZ, sRaise, sTry, sRetR, sRetV, sRetMF, mF, mLc, iP, xR, fR, xClF, rMe0, fLRg, fSrtQ, iEnV, xEFld, fIsX, cvV, grD, prD, lk_arrows, lk_size, eqD_int, sh_int, sh60_ints, inL_ints,
  List.map_cons, List.map_nil, List.length_cons, List.length_nil, List.getElem?_cons_succ, List.getElem?_cons_zero, List.set_cons_succ, List.set_cons_zero, List.cons_append, List.nil_append, Option.isNone_none, Option.map_some, Option.map_none, true_and, and_true, if_true, if_false, rngD_ints, Int.add_sub_cancel, Bool.false_eq_true, List.length_map])
local macro_rules | `(tactic| walk_at "s") => `(tactic| try simp only [sSeq, sNext, sRet, sRetF, sRetO, sAsg, sAsgF, sAsgM, sAsgR, rCl, rMe, sRetM, sDrop, sDropM, sUnp, sAug, sFor, sForM, sApp, sSetI, sDPu, sDPuT, sDNew, sDNewT, sDOne, sFldI, sBreak, sCont, fLc, xDc, xF, xVar, bVar, xC, x2, b2, fAdd, fI, fI0, fB0, fEq, fNe, fIn, fIs, fIsNot, D.isN, xNeg, bTru, bNot, bAnd, bOr, bCh, xAnd, xOr, xNot, xIfE, xFld, fIx, fSl, oNo, oSo, aNil, aCons, xTup, fLst, fCat, xCall, fCall, fLen, fAbs, fInt, fList, fTuple, fIsi, D.ty, fAny, fSrt, fMin, xIdx, fSS, fDIn, xDGet, xDGetT, keyD, keysD, gN, gsN, gsC, gTu, iL, iT, iR1, iR2, iR3, iR1M, bYes, wipeE, free, Slot.ad, Slot.dat, Slot.par, axNil, axI, axB, xCl, fCl, xMe, fMe, xMk, fGen, mP, m2, bm2, mCl, mTup, mLst, mSS, amNil, amCons, gPlain, gThen, gNil, gYield, zP, zM, zTP, zD, z2, bz2, zTru, zNot, zAnd, zOr, zNil, zCons, zTup, zLst, zCl, zClX, zFld, zMkS, sAsgZ, sRetZ, sDropZ, sRaise, sTry, sRetR, sRetV, sRetMF, mF, mLc, iP, xR, fR, xClF, rMe0, fLRg, fSrtQ, iEnV, xEFld, fIsX, cvV, grD, prD, lk_arrows, lk_size, eqD_int, sh_int, sh60_ints, inL_ints,
  List.map_cons, List.map_nil, List.length_cons, List.length_nil, List.getElem?_cons_succ, List.getElem?_cons_zero, List.set_cons_succ, List.set_cons_zero, List.cons_append, List.nil_append, Option.isNone_none, Option.map_some, Option.map_none, true_and, and_true, if_true, if_false, rngD_ints, Int.add_sub_cancel, Bool.false_eq_true, List.length_map])

/-! ### the walks of _law_path -/
def lastI (o : List Int) : Int := o.getLastD 0
def stepW (n : Int) (A : List (Int × Int)) (g : Int) (o : List Int) : List (List Int) := (((nodes n).filter fun v => A.contains (lastI o, v)).filter fun v => v == g || !o.contains v).map fun v => o ++ [v]
def extW (n : Int) (A : List (Int × Int)) (g : Int) : Nat → List Int → List (List Int)
  | 0, o => [o]
  | k + 1, o => (stepW n A g o).flatMap (extW n A g k)
def endsB (g : Int) (o : List Int) : Bool := lastI o == g
theorem lastI_app (o : List Int) (v : Int) : lastI (o ++ [v]) = v := by simp [lastI]
theorem extW_back (n : Int) (A : List (Int × Int)) (g : Int) : ∀ (k : Nat) (o : List Int), (extW n A g k o).flatMap (stepW n A g) = extW n A g (k + 1) o
  | 0, o => by
    show [o].flatMap (stepW n A g) = (stepW n A g o).flatMap fun o => [o]
    simp
  | k + 1, o => by
    show ((stepW n A g o).flatMap (extW n A g k)).flatMap (stepW n A g) = (stepW n A g o).flatMap (extW n A g (k + 1))
    rw [List.flatMap_assoc]
    congr 1
    funext x
    exact extW_back n A g k x
theorem sorted_ext : ∀ {l m : List Int}, l.Pairwise (· < ·) → m.Pairwise (· < ·) → (∀ x, x ∈ l ↔ x ∈ m) → l = m
  | [], [], _, _, _ => rfl
  | [], y :: m, _, _, h => by have := (h y).mpr List.mem_cons_self; cases this
  | x :: l, [], _, _, h => by have := (h x).mp List.mem_cons_self; cases this
  | x :: l, y :: m, hl, hm, h => by
    obtain ⟨a1, a2⟩ := List.pairwise_cons.mp hl
    obtain ⟨b1, b2⟩ := List.pairwise_cons.mp hm
    have e : x = y := by
      rcases List.mem_cons.mp ((h x).mp List.mem_cons_self) with z | z
      · exact z
      · rcases List.mem_cons.mp ((h y).mpr List.mem_cons_self) with z2 | z2
        · exact z2.symm
        · have := b1 x z
          have := a1 y z2
          omega
    subst e
    rw [sorted_ext a2 b2 fun z => ⟨fun hz => ?_, fun hz => ?_⟩]
    · rcases List.mem_cons.mp ((h z).mp (List.mem_cons_of_mem _ hz)) with q | q
      · have := a1 z hz; omega
      · exact q
    · rcases List.mem_cons.mp ((h z).mpr (List.mem_cons_of_mem _ hz)) with q | q
      · have := b1 z hz; omega
      · exact q
theorem nodes_sorted (n : Int) : (nodes n).Pairwise (· < ·) := by
  unfold nodes rngI
  refine List.pairwise_map.mpr (List.Pairwise.imp (fun {a b} h => ?_) List.pairwise_lt_range)
  omega
theorem stepW_foll {n : Int} {A : List (Int × Int)} {g : Int} (ok : GOk n A) (srt : Srt A) (o : List Int) : stepW n A g o = ((foll A (lastI o)).filter fun v => v == g || !o.contains v).map fun v => o ++ [v] := by
  unfold stepW
  rw [sorted_ext ((nodes_sorted n).filter _) (foll_sorted srt (lastI o)) fun x => ?_]
  rw [List.mem_filter, mem_foll]
  constructor
  · rintro ⟨_, h⟩
    simpa using h
  · intro h
    exact ⟨(ok _ h).2.1, by simpa using h⟩
theorem ext_sound {n : Int} {A : List (Int × Int)} {g : Int} (ok : GOk n A) (srt : Srt A) : ∀ (k : Nat) (o x : List Int), x ∈ extW n A g k o → lastI x = g → Rk A g k (lastI o) = true
  | 0, o, x, h, e => by
    simp [extW] at h
    subst h
    simp [Rk, e]
  | k + 1, o, x, h, e => by
    obtain ⟨y, hy, hx⟩ := List.mem_flatMap.mp (show x ∈ (stepW n A g o).flatMap (extW n A g k) from h)
    rw [stepW_foll ok srt] at hy
    obtain ⟨v, hv, rfl⟩ := List.mem_map.mp hy
    have := ext_sound ok srt k _ x hx e
    rw [lastI_app] at this
    exact List.any_eq_true.mpr ⟨v, (List.mem_filter.mp hv).1, this⟩
theorem find_flat {α β : Type} (f : α → List β) (p : β → Bool) (q : α → Bool) (t : α → Bool) : ∀ (l : List α) {y : α} {r : β}, l.find? q = some y → t y = true → (∀ x ∈ l, q x = false → ∀ z ∈ f x, p z = false) → (f y).find? p = some r → ((l.filter t).flatMap f).find? p = some r
  | [], y, r, h, _, _, _ => by cases h
  | x :: l, y, r, h, ht, hn, hr => by
    rw [List.find?_cons] at h
    cases hq : q x with
    | true =>
      rw [hq] at h
      cases h
      rw [List.filter_cons, if_pos ht, List.flatMap_cons, List.find?_append, hr]
      rfl
    | false =>
      rw [hq] at h
      have ih := find_flat f p q t l h ht (fun x hx => hn x (List.mem_cons_of_mem _ hx)) hr
      have hz : (f x).find? p = none := List.find?_eq_none.mpr fun z hz => by
        rw [hn x List.mem_cons_self hq z hz]; exact Bool.false_ne_true
      rw [List.filter_cons]
      split
      · rw [List.flatMap_cons, List.find?_append, hz]
        exact ih
      · exact ih
theorem ext_first {n : Int} {A : List (Int × Int)} {g : Int} (ok : GOk n A) (srt : Srt A) : ∀ (k : Nat) (pre : List Int) (v : Int), Rk A g k v = true → (∀ u ∈ pre ++ [v], ∀ j, 1 ≤ j → j < k → Rk A g j u = false) → (extW n A g k (pre ++ [v])).find? (endsB g) = some (pre ++ wayP A g k v)
  | 0, pre, v, h, _ => by
    have e : v = g := by simpa [Rk] using h
    simp [extW, endsB, lastI_app, wayP, e]
  | k + 1, pre, v, h, hm => by
    obtain ⟨y0, hy0⟩ : ∃ y, (foll A v).find? (Rk A g k) = some y := by
      cases hf : (foll A v).find? (Rk A g k) with
      | some y => exact ⟨y, rfl⟩
      | none =>
        obtain ⟨y, hy, hr⟩ := List.any_eq_true.mp h
        have := List.find?_eq_none.mp hf y hy
        exact absurd hr this
    have hy1 : Rk A g k y0 = true := List.find?_some hy0
    have hy2 : y0 ∈ foll A v := List.mem_of_find?_eq_some hy0
    have hw : wayP A g (k + 1) v = v :: wayP A g k y0 := by
      show v :: (match (foll A v).find? (Rk A g k) with
        | some y => wayP A g k y
        | none => []) = _
      rw [hy0]
    have ih := ext_first ok srt k (pre ++ [v]) y0 hy1 fun u hu j h1 h2 => by
      rcases List.mem_append.mp hu with hu | hu
      · exact hm u hu j h1 (by omega)
      · simp at hu
        subst hu
        cases hz : Rk A g j u with
        | false => rfl
        | true =>
          have := hm v (by simp) (j + 1) (by omega) (by omega)
          have q : Rk A g (j + 1) v = true := List.any_eq_true.mpr ⟨u, hy2, hz⟩
          rw [q] at this; cases this
    rw [hw]
    show ((stepW n A g (pre ++ [v])).flatMap (extW n A g k)).find? (endsB g) = _
    rw [stepW_foll ok srt, lastI_app, List.flatMap_map]
    rw [show pre ++ v :: wayP A g k y0 = pre ++ [v] ++ wayP A g k y0 by simp]
    refine find_flat _ _ (Rk A g k) _ (foll A v) hy0 ?_ (fun x hx hq z hz => ?_) ih
    · by_cases hg : y0 = g
      · simp [hg]
      · have : y0 ∉ pre ++ [v] := fun hm2 => by
          cases k with
          | zero => exact hg (by simpa [Rk] using hy1)
          | succ k =>
            have := hm y0 hm2 (k + 1) (by omega) (by omega)
            rw [hy1] at this; cases this
        have h2 : (pre ++ [v]).contains y0 = false := by simpa using this
        rw [h2]
        simp
    · cases he : endsB g z with
      | false => rfl
      | true =>
        have := ext_sound ok srt k _ z hz (by simpa [endsB] using he)
        rw [lastI_app, hq] at this
        cases this
theorem dist_chain {n : Int} {A : List (Int × Int)} {g : Int} (ok : GOk n A) : ∀ (d : Nat) (v : Int), v ∈ nodes n → Dist A g v d → ∃ l : List Int, l.length = d + 1 ∧ l.Nodup ∧ (∀ x ∈ l, x ∈ nodes n) ∧ ∀ x ∈ l, ∃ e, e ≤ d ∧ Dist A g x e
  | 0, v, hv, h => ⟨[v], rfl, by simp, fun x hx => by simp at hx; subst hx; exact hv, fun x hx => by simp at hx; subst hx; exact ⟨0, Nat.le_refl _, h⟩⟩
  | d + 1, v, hv, h => by
    obtain ⟨y, hy, hd⟩ := dist_succ h
    obtain ⟨l, h1, h2, h3, h4⟩ := dist_chain ok d y (ok _ (mem_foll.mp hy)).2.1 hd
    refine ⟨v :: l, by simp [h1], List.nodup_cons.mpr ⟨fun hm => ?_, h2⟩, fun x hx => ?_, fun x hx => ?_⟩
    · obtain ⟨e, he, hde⟩ := h4 v hm
      have := dist_uniq hde h
      omega
    · rcases List.mem_cons.mp hx with rfl | hx
      · exact hv
      · exact h3 x hx
    · rcases List.mem_cons.mp hx with rfl | hx
      · exact ⟨d + 1, Nat.le_refl _, h⟩
      · obtain ⟨e, he, hde⟩ := h4 x hx
        exact ⟨e, by omega, hde⟩
theorem dist_lt {n : Int} {A : List (Int × Int)} {g v : Int} {d : Nat} (ok : GOk n A) (hv : v ∈ nodes n) (h : Dist A g v d) : d < n.toNat := by
  obtain ⟨l, h1, h2, h3, _⟩ := dist_chain ok d v hv h
  have := nodup_len h2 h3
  rw [rngI_len] at this
  omega
theorem least_way {n : Int} {A : List (Int × Int)} (ok : GOk n A) (s g : Int) : (∃ L, L ≤ n.toNat ∧ 1 ≤ L ∧ Rk A g L s = true ∧ (∀ j, 1 ≤ j → j < L → Rk A g j s = false)) ∨ (∀ L, 1 ≤ L → Rk A g L s = false) := by
  by_cases hex : ∃ L, 1 ≤ L ∧ Rk A g L s = true
  · obtain ⟨L, h1, h2⟩ := hex
    obtain ⟨y, hy, hry⟩ := List.any_eq_true.mp (show (foll A s).any (Rk A g (L - 1)) = true by
      have : Rk A g (L - 1 + 1) s = true := by rw [Nat.sub_add_cancel h1]; exact h2
      exact this)
    obtain ⟨d, hd, hdd⟩ := rk_dist hry
    have hd9 := dist_lt ok (ok _ (mem_foll.mp hy)).2.1 hdd
    have hex2 : ∃ L, 1 ≤ L ∧ Rk A g L s = true ∧ L ≤ n.toNat := ⟨d + 1, by omega, List.any_eq_true.mpr ⟨y, hy, hdd.1⟩, hd9⟩
    clear hd9 hdd hd hry hy h1 h2
    obtain ⟨L, h1, h2, h3⟩ := hex2
    revert h1 h2 h3
    induction L using Nat.strongRecOn with
    | _ L ih =>
      intro h1 h2 h3
      by_cases hq : ∃ j, 1 ≤ j ∧ j < L ∧ Rk A g j s = true
      · obtain ⟨j, q1, q2, q3⟩ := hq
        exact ih j q2 q1 q3 (by omega)
      · exact .inl ⟨L, h3, h1, h2, fun j q1 q2 => by
          cases hz : Rk A g j s with
          | false => rfl
          | true => exact absurd ⟨j, q1, q2, hz⟩ hq⟩
  · exact .inr fun L hL => by
      cases hz : Rk A g L s with
      | false => rfl
      | true => exact absurd ⟨L, hL, hz⟩ hex
theorem path_some {n : Int} {A : List (Int × Int)} {s g : Int} (ok : GOk n A) (srt : Srt A) {t : Nat} {x : List Int} (hx : (extW n A g (t + 1) [s]).find? (endsB g) = some x) (hn : ∀ j, 1 ≤ j → j ≤ t → (extW n A g j [s]).find? (endsB g) = none) : PathIs A s g (some x) := by
  have snd : ∀ j, (extW n A g j [s]).find? (endsB g) ≠ none → Rk A g j s = true := fun j h => by
    cases hf : (extW n A g j [s]).find? (endsB g) with
    | none => exact absurd hf h
    | some z =>
      have := ext_sound ok srt j [s] z (List.mem_of_find?_eq_some hf) (by simpa [endsB] using List.find?_some hf)
      exact this
  rcases least_way ok s g with ⟨L, h1, h2, h3, h4⟩ | h
  · have hL := ext_first ok srt L [] s h3 fun u hu j q1 q2 => by
      simp at hu
      subst hu
      exact h4 j q1 q2
    have hr := snd (t + 1) (by rw [hx]; exact fun z => nomatch z)
    have e : t + 1 = L := by
      rcases Nat.lt_trichotomy (t + 1) L with z | z | z
      · have := h4 (t + 1) (by omega) z
        rw [hr] at this; cases this
      · exact z
      · have := hn L h2 (by omega)
        rw [List.nil_append] at hL
        rw [hL] at this; cases this
    subst e
    rw [List.nil_append, hx] at hL
    exact .inl ⟨t + 1, h2, h3, h4, hL⟩
  · have hr := snd (t + 1) (by rw [hx]; exact fun z => nomatch z)
    rw [h (t + 1) (by omega)] at hr
    cases hr
theorem path_none {n : Int} {A : List (Int × Int)} {s g : Int} (ok : GOk n A) (srt : Srt A) (hn : ∀ j, 1 ≤ j → j ≤ n.toNat → (extW n A g j [s]).find? (endsB g) = none) : PathIs A s g none := by
  rcases least_way ok s g with ⟨L, h1, h2, h3, h4⟩ | h
  · have hL := ext_first ok srt L [] s h3 fun u hu j q1 q2 => by
      simp at hu
      subst hu
      exact h4 j q1 q2
    have := hn L h2 h1
    rw [List.nil_append] at hL
    rw [hL] at this; cases this
  · exact .inr ⟨h, rfl⟩
theorem stepW_len (n : Int) (A : List (Int × Int)) (g : Int) (o : List Int) : (stepW n A g o).length ≤ n.toNat := by
  unfold stepW
  rw [List.length_map]
  exact Nat.le_trans (List.length_filter_le _ _) (Nat.le_trans (List.length_filter_le _ _) (by rw [rngI_len]; exact Nat.le_refl _))
theorem extW_len {n : Int} (A : List (Int × Int)) (g s : Int) (hn : n ≤ 5) : ∀ k, (extW n A g k [s]).length ≤ 5 ^ k
  | 0 => by simp [extW]
  | k + 1 => by
    have h1 := extW_len A g s hn k
    have h2 := flat_len (stepW n A g) 5 (fun o => Nat.le_trans (stepW_len n A g o) (by omega)) (extW n A g k [s])
    rw [extW_back] at h2
    rw [Nat.pow_succ]
    exact Nat.le_trans h2 (Nat.mul_le_mul_right 5 h1)
theorem extW_item {n : Int} (A : List (Int × Int)) (g s : Int) : ∀ k, ∀ o ∈ extW n A g k [s], o.length = k + 1
  | 0 => by simp [extW]
  | k + 1 => by
    intro o ho
    rw [← extW_back] at ho
    obtain ⟨q, hq, hoq⟩ := List.mem_flatMap.mp ho
    unfold stepW at hoq
    obtain ⟨e, _, rfl⟩ := List.mem_map.mp hoq
    rw [List.length_append, extW_item A g s k q hq]
    rfl
theorem at_last {o : List Int} (h : 0 < o.length) : atI (o.map D.int) ((o.length : Int) - 1) = some (.int (lastI o)) := by
  rcases List.eq_nil_or_concat o with rfl | ⟨q, v, rfl⟩
  · simp at h
  · rw [List.concat_eq_append, lastI_app, show (((q ++ [v]).length : Nat) : Int) - 1 = (q.length : Nat) by simp]
    exact atI_nat (by simp)
theorem inL_prs (x y : Int) (A : List (Int × Int)) : inL (.tup [.int x, .int y]) (A.map prD) = A.contains (x, y) := by
  unfold inL
  rw [List.any_map, List.contains_eq_any_beq]
  congr 1
  funext ⟨u, v⟩
  show (u == x && (v == y && true)) = ((x, y) == (u, v))
  rw [Bool.and_true]
  exact Bool.eq_iff_iff.mpr ⟨fun h => by simp at h; simp [h], fun h => by simp at h; simp [h]⟩
theorem sh_prs (n : Nat) (A : List (Int × Int)) : D.sh (n + 2) (.lst (A.map prD)) = true := by
  show (A.map prD).all (D.sh (n + 1)) = true
  rw [List.all_map, List.all_eq_true]
  intro q _
  exact sh_pr n q
end Kb
set_option Elab.async false
set_option linter.all false
set_option maxRecDepth 100000
set_option maxHeartbeats 1000000
namespace Kb
open PySem L2
set_option autoImplicit false
local macro_rules | `(tactic| walk_at "r") => `(tactic| try simp only [sSeq, sNext, sRet, sRetF, sRetO, sAsg, sAsgF, sAsgM, sAsgR, rCl, rMe, sRetM, sIf, sIfM, sDrop, sDropM, sUnp, sAug, sFor, sForM, sApp, sSetI, sDPu, sDPuT, sDNew, sDNewT, sDOne, sFldI, sBreak, sCont, fLc, xDc, xF, xVar, bVar, xC, x2, b2, fAdd, fI, fI0, fB0, fEq, fNe, fIn, fIs, fIsNot, D.isN, xNeg, bTru, bNot, bAnd, bOr, bCh, xAnd, xOr, xNot, xIfE, xFld, fIx, fSl, oNo, oSo, aNil, aCons, xTup, fLst, fCat, xCall, fCall, fLen, fAbs, fInt, fList, fTuple, fIsi, D.ty, fAny, fSrt, fMin, xIdx, fSS, fDIn, xDGet, xDGetT, keyD, keysD, gN, gsN, gsC, gTu, iL, iT, iR1, iR2, iR3, iR1M, bYes, wipeE, free, Slot.ad, Slot.dat, Slot.par, axNil, axI, axB, xCl, fCl, xMe, fMe, xMk, fGen, mP, m2, bm2, mCl, mTup, mLst, mSS, amNil, amCons, gPlain, gThen, gNil, gYield, zP, zM, zTP, zD, z2, bz2, zTru, zNot, zAnd, zOr, zNil, zCons, zTup, zLst, zCl, zClX, zFld, zMkS, sAsgZ, sRetZ, sIfZ, sDropZ, sRaise, sTry, sRetR, sRetV, sRetMF, mF, mLc, iP, xR, fR, xClF, rMe0, fLRg, fSrtQ, iEnV, xEFld, fIsX, cvV, grD, prD, lk_arrows, lk_size, eqD_int, sh_int, sh60_ints, inL_ints,
  List.map_cons, List.map_nil, List.length_cons, List.length_nil, List.getElem?_cons_succ, List.getElem?_cons_zero, List.set_cons_succ, List.set_cons_zero, List.cons_append, List.nil_append, Option.isNone_none, Option.map_some, Option.map_none, true_and, and_true, if_true, if_false, rngD_ints, Int.add_sub_cancel, Bool.false_eq_true, List.length_map])
local macro_rules | `(tactic| walk_at "s") => `(tactic| try simp only [sSeq, sNext, sRet, sRetF, sRetO, sAsg, sAsgF, sAsgM, sAsgR, rCl, rMe, sRetM, sDrop, sDropM, sUnp, sAug, sFor, sForM, sApp, sSetI, sDPu, sDPuT, sDNew, sDNewT, sDOne, sFldI, sBreak, sCont, fLc, xDc, xF, xVar, bVar, xC, x2, b2, fAdd, fI, fI0, fB0, fEq, fNe, fIn, fIs, fIsNot, D.isN, xNeg, bTru, bNot, bAnd, bOr, bCh, xAnd, xOr, xNot, xIfE, xFld, fIx, fSl, oNo, oSo, aNil, aCons, xTup, fLst, fCat, xCall, fCall, fLen, fAbs, fInt, fList, fTuple, fIsi, D.ty, fAny, fSrt, fMin, xIdx, fSS, fDIn, xDGet, xDGetT, keyD, keysD, gN, gsN, gsC, gTu, iL, iT, iR1, iR2, iR3, iR1M, bYes, wipeE, free, Slot.ad, Slot.dat, Slot.par, axNil, axI, axB, xCl, fCl, xMe, fMe, xMk, fGen, mP, m2, bm2, mCl, mTup, mLst, mSS, amNil, amCons, gPlain, gThen, gNil, gYield, zP, zM, zTP, zD, z2, bz2, zTru, zNot, zAnd, zOr, zNil, zCons, zTup, zLst, zCl, zClX, zFld, zMkS, sAsgZ, sRetZ, sDropZ, sRaise, sTry, sRetR, sRetV, sRetMF, mF, mLc, iP, xR, fR, xClF, rMe0, fLRg, fSrtQ, iEnV, xEFld, fIsX, cvV, grD, prD, lk_arrows, lk_size, eqD_int, sh_int, sh60_ints, inL_ints,
  List.map_cons, List.map_nil, List.length_cons, List.length_nil, List.getElem?_cons_succ, List.getElem?_cons_zero, List.set_cons_succ, List.set_cons_zero, List.cons_append, List.nil_append, Option.isNone_none, Option.map_some, Option.map_none, true_and, and_true, if_true, if_false, rngD_ints, Int.add_sub_cancel, Bool.false_eq_true, List.length_map])
def reachB (n : Int) (A : List (Int × Int)) (x y : Int) : Bool := (List.range n.toNat).any fun k => Rk A y (k + 1) x
theorem reachB_iff {n : Int} {A : List (Int × Int)} (ok : GOk n A) (x y : Int) : reachB n A x y = true ↔ ∃ L, 1 ≤ L ∧ Rk A y L x = true := by
  unfold reachB
  rw [List.any_eq_true]
  constructor
  · rintro ⟨k, _, h⟩
    exact ⟨k + 1, by omega, h⟩
  · rintro ⟨L, h1, h2⟩
    rcases least_way ok x y with ⟨M, a, b, c, _⟩ | h
    · exact ⟨M - 1, List.mem_range.mpr (by omega), by rw [Nat.sub_add_cancel b]; exact c⟩
    · rw [h L h1] at h2; cases h2
theorem pathIs_reach {n : Int} {A : List (Int × Int)} {x y : Int} {o : Option (List Int)} (ok : GOk n A) (h : PathIs A x y o) : o.isSome = reachB n A x y := by
  rcases h with ⟨L, a, b, _, rfl⟩ | ⟨a, rfl⟩
  · exact ((reachB_iff ok x y).mpr ⟨L, a, b⟩).symm
  · cases h : reachB n A x y with
    | false => rfl
    | true =>
      obtain ⟨L, h1, h2⟩ := (reachB_iff ok x y).mp h
      rw [a L h1] at h2; cases h2
section
variable {P : Program} {w : World} {K : Frag} {mg : Str → Option Value} {base : Heap} {C f : Addr} {fd : FuncData}
def toldE (n : Int) (A : List (Int × Int)) (x y : Int) : List Key × D := ([Sum.inl x, Sum.inl y], .bl (reachB n A x y))
def told (n : Int) (A : List (Int × Int)) (xs : List Int) : List (List Key × D) := xs.flatMap fun x => (nodes n).map (toldE n A x)
theorem valG_none {κ β : Type} [DecidableEq κ] {es : List (κ × β)} {k : κ} (h : ∀ e ∈ es, e.1 ≠ k) : valG es k = none := by
  induction es with
  | nil => rfl
  | cons p es ih =>
    rw [valG_cons, if_neg (h p List.mem_cons_self)]
    exact ih fun e he => h e (List.mem_cons_of_mem _ he)
theorem told_len (n : Int) (A : List (Int × Int)) (hn : n ≤ 5) : ∀ xs : List Int, (told n A xs).length ≤ xs.length * 5 := fun xs =>
  flat_len _ 5 (fun x => by rw [List.length_map, rngI_len]; omega) xs
theorem told_put {n : Int} {A : List (Int × Int)} {x y : Int} {pre post pre2 post2 : List Int} (hx : rngI 1 1 n.toNat = pre ++ x :: post) (hx2 : rngI 1 1 n.toNat = pre2 ++ y :: post2) {b : Bool} (hb : b = reachB n A x y) :
    putG (told n A pre ++ pre2.map (toldE n A x)) [Sum.inl x, Sum.inl y] (.bl b) = told n A pre ++ (pre2 ++ [y]).map (toldE n A x) := by
  have nd1 : x ∉ pre := by
    have := nodes_nodup n
    unfold nodes at this
    rw [hx, List.nodup_append] at this
    exact fun hm => this.2.2 _ hm x List.mem_cons_self rfl
  have nd2 : y ∉ pre2 := by
    have := nodes_nodup n
    unfold nodes at this
    rw [hx2, List.nodup_append] at this
    exact fun hm => this.2.2 _ hm y List.mem_cons_self rfl
  rw [putG_new]
  · rw [List.map_append, List.append_assoc, hb]
    rfl
  · rw [valG_none]
    · rfl
    · intro e he
      rcases List.mem_append.mp he with he | he
      · obtain ⟨u, hu, hv⟩ := List.mem_flatMap.mp he
        obtain ⟨v, _, rfl⟩ := List.mem_map.mp hv
        intro z
        injection z with z1 z2
        injection z1 with z1
        exact nd1 (z1 ▸ hu)
      · obtain ⟨v, hv, rfl⟩ := List.mem_map.mp he
        intro z
        injection z with z1 z2
        injection z2 with z2
        injection z2 with z2
        exact nd2 (z2 ▸ hv)
theorem eqD_refl_l (p : List Int) : eqD (.lst (p.map D.int)) (.lst (p.map D.int)) = true := PySem.SeqAt.eqv_refl _ (sh_lay 60 _ (sh60_ints p)).1
theorem told_get {n : Int} {A : List (Int × Int)} {x y : Int} (hy : y ∈ nodes n) : ∀ {xs : List Int}, x ∈ xs → valG (told n A xs) [Sum.inl x, Sum.inl y] = some (.bl (reachB n A x y))
  | [], h => by cases h
  | u :: xs, h => by
    have e : told n A (u :: xs) = (nodes n).map (toldE n A u) ++ told n A xs := rfl
    have app : ∀ (es es' : List (List Key × D)) (k : List Key), valG (es ++ es') k = (valG es k).or (valG es' k) := fun es es' k => by
      induction es with
      | nil => simp [valG]
      | cons p es ih =>
        rw [List.cons_append, valG_cons, valG_cons, ih]
        split <;> rfl
    rw [e, app]
    by_cases hu : u = x
    · subst hu
      have row : ∀ ys : List Int, y ∈ ys → valG (ys.map (toldE n A u)) [Sum.inl u, Sum.inl y] = some (.bl (reachB n A u y)) := fun ys => by
        induction ys with
        | nil => intro h; cases h
        | cons v ys ih =>
          intro h
          rw [List.map_cons, valG_cons]
          by_cases hv : v = y
          · subst hv
            simp [toldE]
          · rw [if_neg (fun z => hv (by
              injection z with z1 z2
              injection z2 with z2
              injection z2 with z2))]
            exact ih ((List.mem_cons.mp h).resolve_left fun z => hv z.symm)
      rw [row _ hy]
      rfl
    · rw [valG_none, told_get hy ((List.mem_cons.mp h).resolve_left fun z => hu z.symm)]
      · rfl
      · intro p hp z
        obtain ⟨v, _, rfl⟩ := List.mem_map.mp hp
        injection z with z1 z2
        injection z1 with z1
        exact hu z1
def aheadN (G : List (List Int)) (x y : Int) : Nat := (G.filter fun o => decide (o.idxOf x < o.idxOf y)).length
structure BefOk (n : Int) (A : List (Int × Int)) (G : List (List Int)) : Prop where
  all : ∀ x ∈ nodes n, ∀ y ∈ nodes n, x ≠ y → (reachB n A x y = true ↔ aheadN G x y = G.length)
  some : ∀ x ∈ nodes n, ∀ y ∈ nodes n, x ≠ y → reachB n A x y = false → reachB n A y x = false → aheadN G x y ≠ 0
end
end Kb
set_option Elab.async false
set_option linter.all false
set_option maxRecDepth 100000
set_option maxHeartbeats 1000000
namespace Kb
open PySem L2
set_option autoImplicit false
/-! ### the orders that keep the arrows -/
/-- no arrow runs backwards -/
def Fwd (A : List (Int × Int)) (o : List Int) : Prop := o.Pairwise fun u v => (v, u) ∉ A
theorem line_len {n : Int} {o : List Int} (h : IsLine n o) : o.length = n.toNat := by
  have a := nodup_len h.1 fun x hx => (h.2 x).mp hx
  have b := nodup_len (nodes_nodup n) fun x hx => (h.2 x).mpr hx
  rw [rngI_len] at a b
  omega
theorem kept_iff {n : Int} {A : List (Int × Int)} {o : List Int} (ok : GOk n A) (h : IsLine n o) : keptB A o = true ↔ Fwd A o := by
  unfold keptB Fwd
  rw [List.all_eq_true, List.pairwise_iff_getElem]
  constructor
  · intro hk i j hi hj hij hm
    have := of_decide_eq_true (hk _ hm)
    rw [h.1.idxOf_getElem j hj, h.1.idxOf_getElem i hi] at this
    omega
  · rintro hp ⟨a, b⟩ hm
    obtain ⟨h1, h2, h3⟩ := ok _ hm
    dsimp only at h1 h2 h3 ⊢
    have ha := (h.2 a).mpr h1
    have hb := (h.2 b).mpr h2
    have ia := List.idxOf_lt_length_of_mem ha
    have ib := List.idxOf_lt_length_of_mem hb
    rw [decide_eq_true_iff]
    rcases Nat.lt_trichotomy (o.idxOf a) (o.idxOf b) with z | z | z
    · exact z
    · exfalso
      have e1 := List.getElem_idxOf ia
      have e2 := List.getElem_idxOf ib
      exact h3 (by rw [← e1, ← e2]; simp only [z])
    · exfalso
      have := hp _ _ ib ia z
      rw [List.getElem_idxOf ia, List.getElem_idxOf ib] at this
      exact this hm
/-- a beginning that the arrows allow -/
structure Beg (n : Int) (A : List (Int × Int)) (p : List Int) : Prop where
  nd : p.Nodup
  sub : ∀ v ∈ p, v ∈ nodes n
  cl : ∀ x y, (x, y) ∈ A → y ∈ p → x ∈ p
  fw : Fwd A p
theorem mem_free {n : Int} {A : List (Int × Int)} {p : List Int} {v : Int} : v ∈ freeN n A p ↔ v ∈ nodes n ∧ v ∉ p ∧ ∀ x, (x, v) ∈ A → x ∈ p := by
  unfold freeN
  rw [List.mem_filter, Bool.and_eq_true, Bool.not_eq_true', Bool.not_eq_true']
  constructor
  · rintro ⟨h1, h2, h3⟩
    refine ⟨h1, by simpa using h2, fun x hx => ?_⟩
    rw [List.any_eq_false] at h3
    have := h3 _ hx
    simpa using this
  · rintro ⟨h1, h2, h3⟩
    refine ⟨h1, by simpa using h2, ?_⟩
    rw [List.any_eq_false]
    rintro ⟨x, y⟩ hx hz
    simp at hz
    obtain ⟨q1, rfl⟩ := hz
    exact q1 (h3 x hx)
theorem Beg.step {n : Int} {A : List (Int × Int)} {p : List Int} {v : Int} (h : Beg n A p) (hv : v ∈ freeN n A p) : Beg n A (p ++ [v]) := by
  obtain ⟨h1, h2, h3⟩ := mem_free.mp hv
  refine ⟨?_, fun u hu => ?_, fun x y hxy hy => ?_, ?_⟩
  · rw [List.nodup_append]
    refine ⟨h.nd, by simp, fun a ha b hb => ?_⟩
    simp at hb
    subst hb
    exact fun z => h2 (z ▸ ha)
  · rcases List.mem_append.mp hu with hu | hu
    · exact h.sub u hu
    · simp at hu; subst hu; exact h1
  · rcases List.mem_append.mp hy with hy | hy
    · exact List.mem_append_left _ (h.cl x y hxy hy)
    · simp at hy; subst hy; exact List.mem_append_left _ (h3 x hxy)
  · unfold Fwd
    rw [List.pairwise_append]
    refine ⟨h.fw, by simp, fun a ha b hb hm => ?_⟩
    simp at hb
    subst hb
    exact h2 (h.cl _ _ hm ha)
theorem Beg.nil (n : Int) (A : List (Int × Int)) : Beg n A [] := ⟨List.nodup_nil, fun v h => (by cases h), fun x y _ h => (by cases h), List.Pairwise.nil⟩
/-- all ways to go on for k nodes -/
def topT (n : Int) (A : List (Int × Int)) : Nat → List Int → List (List Int)
  | 0, o => [o]
  | k + 1, o => (freeN n A o).flatMap fun v => topT n A k (o ++ [v])
theorem topT_mem {n : Int} {A : List (Int × Int)} : ∀ (k : Nat) (p o : List Int), Beg n A p → o ∈ topT n A k p → Beg n A o ∧ o.length = p.length + k ∧ ∃ r, o = p ++ r
  | 0, p, o, h, ho => by
    simp [topT] at ho
    subst ho
    exact ⟨h, rfl, [], by simp⟩
  | k + 1, p, o, h, ho => by
    obtain ⟨v, hv, hov⟩ := List.mem_flatMap.mp (show o ∈ (freeN n A p).flatMap fun v => topT n A k (p ++ [v]) from ho)
    obtain ⟨a, b, r, c⟩ := topT_mem k (p ++ [v]) o (h.step hv) hov
    refine ⟨a, by rw [b]; simp; omega, v :: r, by rw [c]; simp⟩
theorem Beg.line {n : Int} {A : List (Int × Int)} {o : List Int} (h : Beg n A o) (hl : o.length = n.toNat) : IsLine n o := by
  refine ⟨h.nd, fun v => ⟨h.sub v, fun hv => ?_⟩⟩
  by_cases hm : v ∈ o
  · exact hm
  · exfalso
    have := nodup_len (l := v :: o) (m := nodes n) (List.nodup_cons.mpr ⟨hm, h.nd⟩) fun x hx => by
      rcases List.mem_cons.mp hx with rfl | hx
      · exact hv
      · exact h.sub x hx
    rw [rngI_len, List.length_cons] at this
    omega
/-- where an order exists, every beginning goes on -/
theorem free_ex {n : Int} {A : List (Int × Int)} {p t : List Int} (ok : GOk n A) (ht : IsLine n t) (hf : Fwd A t) (hp : p.length < n.toNat) : ∃ v, v ∈ freeN n A p := by
  have hex : ∃ v ∈ t, v ∉ p := by
    by_cases h : ∃ v ∈ t, v ∉ p
    · exact h
    · exfalso
      have := nodup_len (l := t) (m := p) ht.1 fun x hx => by
        by_cases hm : x ∈ p
        · exact hm
        · exact absurd ⟨x, hx, hm⟩ h
      rw [line_len ht] at this
      omega
  have key : ∀ (t a : List Int), (∀ x ∈ a, x ∈ p) → Fwd A (a ++ t) → (∀ x y, (x, y) ∈ A → y ∈ t → x ∈ a ++ t) → (∀ v ∈ t, v ∈ nodes n) → (∃ v ∈ t, v ∉ p) → ∃ v, v ∈ freeN n A p := by
    intro t
    induction t with
    | nil => rintro a _ _ _ _ ⟨v, hv, _⟩; cases hv
    | cons u t ih =>
      intro a ha hf hc hn hex
      by_cases hu : u ∈ p
      · refine ih (a ++ [u]) (fun x hx => ?_) (by simpa using hf) (fun x y hxy hy => by simpa using hc x y hxy (List.mem_cons_of_mem _ hy)) (fun v hv => hn v (List.mem_cons_of_mem _ hv)) ?_
        · rcases List.mem_append.mp hx with hx | hx
          · exact ha x hx
          · simp at hx; subst hx; exact hu
        · obtain ⟨v, hv, hvp⟩ := hex
          rcases List.mem_cons.mp hv with rfl | hv
          · exact absurd hu hvp
          · exact ⟨v, hv, hvp⟩
      · refine ⟨u, mem_free.mpr ⟨hn u List.mem_cons_self, hu, fun x hx => ?_⟩⟩
        have hm := hc x u hx List.mem_cons_self
        rcases List.mem_append.mp hm with hm | hm
        · exact ha x hm
        · exfalso
          unfold Fwd at hf
          rw [List.pairwise_append] at hf
          rcases List.mem_cons.mp hm with rfl | hm
          · exact (ok _ hx).2.2 rfl
          · exact (List.pairwise_cons.mp hf.2.1).1 x hm hx
  exact key t [] (fun x h => by cases h) (by simpa using hf) (fun x y hxy _ => by simpa using (ht.2 x).mpr (ok _ hxy).1) (fun v hv => (ht.2 v).mp hv) hex
theorem topT_ne {n : Int} {A : List (Int × Int)} {t : List Int} (ok : GOk n A) (ht : IsLine n t) (hf : Fwd A t) : ∀ (k : Nat) (p : List Int), p.length + k = n.toNat → topT n A k p ≠ []
  | 0, p, _ => by simp [topT]
  | k + 1, p, h => by
    obtain ⟨v, hv⟩ := free_ex (p := p) ok ht hf (by omega)
    have := topT_ne ok ht hf k (p ++ [v]) (by simp; omega)
    obtain ⟨o, ho⟩ := List.exists_mem_of_ne_nil _ this
    exact List.ne_nil_of_mem (List.mem_flatMap.mpr ⟨v, hv, ho⟩)
theorem head_app {α : Type} {l m : List α} (h : l ≠ []) : (l ++ m).head? = l.head? := by
  cases l with
  | nil => exact absurd rfl h
  | cons x l => rfl
theorem compl_head {n : Int} {A : List (Int × Int)} {t : List Int} (ok : GOk n A) (ht : IsLine n t) (hf : Fwd A t) : ∀ (k : Nat) (p : List Int), p.length + k = n.toNat → compl n A k p = (topT n A k p).head?
  | 0, p, _ => rfl
  | k + 1, p, h => by
    obtain ⟨v, hv⟩ := free_ex (p := p) ok ht hf (by omega)
    unfold compl topT
    cases hfr : freeN n A p with
    | nil => rw [hfr] at hv; cases hv
    | cons u us =>
      show compl n A k (p ++ [u]) = _
      rw [compl_head ok ht hf k (p ++ [u]) (by simp; omega), List.flatMap_cons, head_app (topT_ne ok ht hf k (p ++ [u]) (by simp; omega))]
theorem compl_mem {n : Int} {A : List (Int × Int)} : ∀ (k : Nat) (p r : List Int), compl n A k p = some r → r ∈ topT n A k p
  | 0, p, r, h => by
    cases h
    simp [topT]
  | k + 1, p, r, h => by
    unfold compl at h
    cases hfr : freeN n A p with
    | nil => rw [hfr] at h; cases h
    | cons u us =>
      rw [hfr] at h
      have := compl_mem k (p ++ [u]) r h
      exact List.mem_flatMap.mpr ⟨u, by rw [hfr]; exact List.mem_cons_self, this⟩
theorem flat_split {α β : Type} (f : α → List β) : ∀ (F : List α) (pre : List β) (o : β) (post : List β), F.flatMap f = pre ++ o :: post → ∃ F1 v F2 pre' post', F = F1 ++ v :: F2 ∧ f v = pre' ++ o :: post' ∧ post = post' ++ F2.flatMap f
  | [], pre, o, post, h => by simp at h
  | x :: F, pre, o, post, h => by
    rw [List.flatMap_cons] at h
    rcases List.append_eq_append_iff.mp h with ⟨a, h1, h2⟩ | ⟨a, h1, h2⟩
    · obtain ⟨F1, v, F2, pre', post', q1, q2, q3⟩ := flat_split f F a o post h2
      exact ⟨x :: F1, v, F2, pre', post', by rw [q1]; rfl, q2, q3⟩
    · cases a with
      | nil =>
        simp at h2
        obtain ⟨F1, v, F2, pre', post', q1, q2, q3⟩ := flat_split f F [] o post (by simpa using h2.symm)
        exact ⟨x :: F1, v, F2, pre', post', by rw [q1]; rfl, q2, q3⟩
      | cons c a =>
        simp only [List.cons_append, List.cons.injEq] at h2
        obtain ⟨rfl, h2⟩ := h2
        exact ⟨[], x, F, pre, a, rfl, h1, h2⟩
theorem free_sorted (n : Int) (A : List (Int × Int)) (p : List Int) : (freeN n A p).Pairwise (· < ·) := (nodes_sorted n).filter _
theorem filter_gt {F1 F2 : List Int} {v : Int} (h : (F1 ++ v :: F2).Pairwise (· < ·)) : (F1 ++ v :: F2).filter (fun u => decide (v < u)) = F2 := by
  rw [List.pairwise_append] at h
  obtain ⟨_, h2, h3⟩ := h
  rw [List.filter_append, List.filter_cons]
  have e1 : F1.filter (fun u => decide (v < u)) = [] := List.filter_eq_nil_iff.mpr fun a ha => by
    have := h3 a ha v List.mem_cons_self
    simp; omega
  have e2 : F2.filter (fun u => decide (v < u)) = F2 := List.filter_eq_self.mpr fun a ha => by
    have := (List.pairwise_cons.mp h2).1 a ha
    simpa using this
  rw [e1, e2]
  simp
theorem next_ok {n : Int} {A : List (Int × Int)} {t : List Int} (ok : GOk n A) (ht : IsLine n t) (hf : Fwd A t) : ∀ (k : Nat) (p pre : List Int) (o : List Int) (l post : List (List Int)), Beg n A p → p.length + k = n.toNat → topT n A k p = l ++ o :: post → nextO n A o n.toNat = post.head?.or (nextO n A o p.length)
  | 0, p, _, o, l, post, hb, hl, h => by
    have e : [p] = l ++ o :: post := h
    cases l with
    | nil =>
      simp at e
      obtain ⟨rfl, rfl⟩ := e
      rw [show n.toNat = p.length by omega]
      rfl
    | cons a l => simp at e
  | k + 1, p, pr, o, l, post, hb, hl, h => by
    obtain ⟨F1, v, F2, pre', post', q1, q2, q3⟩ := flat_split (fun v => topT n A k (p ++ [v])) (freeN n A p) l o post h
    have hv : v ∈ freeN n A p := by rw [q1]; simp
    have ih := next_ok ok ht hf k (p ++ [v]) pr o pre' post' (hb.step hv) (by simp; omega) q2
    obtain ⟨_, _, r, hr⟩ := topT_mem k (p ++ [v]) o (hb.step hv) (by show o ∈ topT n A k (p ++ [v]); rw [show topT n A k (p ++ [v]) = pre' ++ o :: post' from q2]; simp)
    rw [ih, q3, List.head?_append, Option.or_assoc]
    congr 1
    rw [show (p ++ [v]).length = p.length + 1 by simp]
    have e1 : o.take p.length = p := by rw [hr]; simp
    have e2 : o.getD p.length 0 = v := by rw [hr]; simp
    show (match (freeN n A (o.take p.length)).filter (fun v => decide (o.getD p.length 0 < v)) with
      | [] => nextO n A o p.length
      | v :: _ => compl n A (n.toNat - (p.length + 1)) (o.take p.length ++ [v])) = _
    have hs := free_sorted n A p
    rw [q1] at hs
    rw [e1, e2, q1, filter_gt hs]
    cases F2 with
    | nil => rfl
    | cons u us =>
      show compl n A (n.toNat - (p.length + 1)) (p ++ [u]) = _
      have hn := topT_ne ok ht hf k (p ++ [u]) (by simp; omega)
      rw [show n.toNat - (p.length + 1) = k by omega, compl_head ok ht hf k (p ++ [u]) (by simp; omega), List.flatMap_cons, head_app hn]
      cases hz : topT n A k (p ++ [u]) with
      | nil => exact absurd hz hn
      | cons a b => rfl
theorem chn_top {n : Int} {A : List (Int × Int)} (ok : GOk n A) : Chn n A (topT n A n.toNat []) := by
  by_cases hne : topT n A n.toNat [] = []
  · rw [hne]
    refine ⟨?_, fun o h => (by cases h), fun i o h => (by simp at h)⟩
    cases hc : compl n A n.toNat [] with
    | none => rfl
    | some r =>
      have := compl_mem _ _ _ hc
      rw [hne] at this; cases this
  · obtain ⟨t, ht⟩ := List.exists_mem_of_ne_nil _ hne
    obtain ⟨hb, hl, _⟩ := topT_mem _ _ _ (Beg.nil n A) ht
    have hline := hb.line (by simpa using hl)
    refine ⟨compl_head ok hline hb.fw _ _ (by simp), fun o ho => by simpa using (topT_mem _ _ _ (Beg.nil n A) ho).2.1, fun i o hi => ?_⟩
    have hlt := (List.getElem?_eq_some_iff.mp hi).1
    have hsp : topT n A n.toNat [] = (topT n A n.toNat []).take i ++ o :: (topT n A n.toNat []).drop (i + 1) := by
      have e := (List.getElem?_eq_some_iff.mp hi).2
      rw [← e, List.getElem_cons_drop, List.take_append_drop]
    have := next_ok ok hline hb.fw n.toNat [] [] o _ _ (Beg.nil n A) (by simp) hsp
    rw [this, List.head?_drop]
    show Option.or _ none = _
    simp
end Kb
set_option Elab.async false
set_option linter.all false
set_option maxRecDepth 100000
set_option maxHeartbeats 1000000
namespace Kb
open PySem L2
set_option autoImplicit false
/-! ### the law's own list of orders -/
def ordX (n : Int) : Nat → List Int → List (List Int)
  | 0, o => [o]
  | k + 1, o => (outs n o).flatMap (ordX n k)
theorem ordX_back (n : Int) : ∀ (k : Nat) (o : List Int), (ordX n k o).flatMap (outs n) = ordX n (k + 1) o
  | 0, o => by
    show [o].flatMap (outs n) = (outs n o).flatMap fun o => [o]
    simp
  | k + 1, o => by
    show ((outs n o).flatMap (ordX n k)).flatMap (outs n) = (outs n o).flatMap (ordX n (k + 1))
    rw [List.flatMap_assoc]
    congr 1
    funext x
    exact ordX_back n k x
theorem lawOrd_eq (n : Int) : ∀ k, lawOrd n k = ordX n k []
  | 0 => rfl
  | k + 1 => by
    show (lawOrd n k).flatMap (outs n) = _
    rw [lawOrd_eq n k, ordX_back]
theorem ordX_mem {n : Int} : ∀ (k : Nat) (p e : List Int), p.Nodup → (∀ v ∈ p, v ∈ nodes n) → e ∈ ordX n k p → e.Nodup ∧ (∀ v ∈ e, v ∈ nodes n) ∧ e.length = p.length + k ∧ ∃ r, e = p ++ r
  | 0, p, e, h1, h2, h => by
    simp [ordX] at h
    subst h
    exact ⟨h1, h2, rfl, [], by simp⟩
  | k + 1, p, e, h1, h2, h => by
    obtain ⟨q, hq, he⟩ := List.mem_flatMap.mp (show e ∈ (outs n p).flatMap (ordX n k) from h)
    unfold outs at hq
    obtain ⟨v, hv, rfl⟩ := List.mem_map.mp hq
    obtain ⟨hv1, hv2⟩ := List.mem_filter.mp hv
    have hv3 : v ∉ p := by simpa using hv2
    obtain ⟨a, b, c, r, d⟩ := ordX_mem k (p ++ [v]) e (by
      rw [List.nodup_append]
      refine ⟨h1, by simp, fun a ha b hb => ?_⟩
      simp at hb
      subst hb
      exact fun z => hv3 (z ▸ ha)) (fun u hu => by
      rcases List.mem_append.mp hu with hu | hu
      · exact h2 u hu
      · simp at hu; subst hu; exact hv1) he
    refine ⟨a, b, by rw [c]; simp; omega, v :: r, by rw [d]; simp⟩
theorem line_of {n : Int} {o : List Int} (nd : o.Nodup) (sub : ∀ v ∈ o, v ∈ nodes n) (hl : o.length = n.toNat) : IsLine n o :=
  Beg.line (A := []) ⟨nd, sub, fun x y h => (by cases h), List.pairwise_of_forall (fun _ _ h => by cases h)⟩ hl
theorem lawOrd_line {n : Int} {e : List Int} (h : e ∈ lawOrd n n.toNat) : IsLine n e := by
  rw [lawOrd_eq] at h
  obtain ⟨a, b, c, _⟩ := ordX_mem n.toNat [] e List.nodup_nil (fun v h => (by cases h)) h
  exact line_of a b (by simpa using c)
theorem ordX_all {n : Int} : ∀ (k : Nat) (p r : List Int), (p ++ r).Nodup → (∀ v ∈ r, v ∈ nodes n) → r.length = k → p ++ r ∈ ordX n k p
  | 0, p, r, _, _, h => by
    have : r = [] := List.length_eq_zero_iff.mp h
    subst this
    simp [ordX]
  | k + 1, p, [], _, _, h => by simp at h
  | k + 1, p, v :: r, nd, hr, h => by
    have := ordX_all k (p ++ [v]) r (by simpa using nd) (fun u hu => hr u (List.mem_cons_of_mem _ hu)) (by simpa using h)
    refine List.mem_flatMap.mpr ⟨p ++ [v], ?_, by simpa using this⟩
    unfold outs
    refine List.mem_map.mpr ⟨v, List.mem_filter.mpr ⟨hr v List.mem_cons_self, ?_⟩, rfl⟩
    rw [List.nodup_append] at nd
    have : v ∉ p := fun hm => nd.2.2 v hm v List.mem_cons_self rfl
    simpa using this
theorem lawOrd_all {n : Int} {e : List Int} (h : IsLine n e) : e ∈ lawOrd n n.toNat := by
  rw [lawOrd_eq]
  have := ordX_all n.toNat [] e (by simpa using h.1) (fun v hv => (h.2 v).mp hv) (line_len h)
  simpa using this
theorem flat_filter {α β : Type} (f g : α → List β) (t : α → Bool) : ∀ (l : List α), (∀ x ∈ l, t x = true → f x = g x) → (∀ x ∈ l, t x = false → f x = []) → l.flatMap f = (l.filter t).flatMap g
  | [], _, _ => rfl
  | x :: l, h1, h2 => by
    have ih := flat_filter f g t l (fun y hy => h1 y (List.mem_cons_of_mem _ hy)) fun y hy => h2 y (List.mem_cons_of_mem _ hy)
    rw [List.flatMap_cons, List.filter_cons, ih]
    cases hx : t x with
    | true => rw [if_pos rfl, List.flatMap_cons, h1 x List.mem_cons_self hx]
    | false => rw [if_neg (by decide), h2 x List.mem_cons_self hx]; rfl
theorem good_top {n : Int} {A : List (Int × Int)} (ok : GOk n A) : ∀ (k : Nat) (p : List Int), Beg n A p → p.length + k = n.toNat → (ordX n k p).filter (keptB A) = topT n A k p
  | 0, p, hb, hl => by
    have hline := hb.line (by omega)
    have : keptB A p = true := (kept_iff ok hline).mpr hb.fw
    show [p].filter (keptB A) = [p]
    simp [this]
  | k + 1, p, hb, hl => by
    show ((outs n p).flatMap (ordX n k)).filter (keptB A) = (freeN n A p).flatMap fun v => topT n A k (p ++ [v])
    unfold outs
    rw [List.flatMap_map, List.filter_flatMap]
    have e : freeN n A p = ((nodes n).filter fun e => !p.contains e).filter fun v => !(A.any fun q => !p.contains q.1 && q.2 == v) := by
      unfold freeN
      rw [List.filter_filter]
      congr 1
      funext v
      rw [Bool.and_comm]
    have hin : ∀ v, v ∈ freeN n A p ↔ v ∈ ((nodes n).filter fun e => !p.contains e) ∧ (!(A.any fun q => !p.contains q.1 && q.2 == v)) = true := fun v => by
      rw [e, List.mem_filter]
    rw [e]
    refine flat_filter _ _ _ _ (fun v hv ht => ?_) fun v hv ht => ?_
    · have hf := (hin v).mpr ⟨hv, ht⟩
      exact good_top ok k (p ++ [v]) (hb.step hf) (by simp; omega)
    · rw [List.filter_eq_nil_iff]
      intro o ho hk
      obtain ⟨hv1, hv2⟩ := List.mem_filter.mp hv
      have hv3 : v ∉ p := by simpa using hv2
      have nd1 : (p ++ [v]).Nodup := by
        rw [List.nodup_append]
        refine ⟨hb.nd, by simp, fun a ha b hb => ?_⟩
        simp at hb
        subst hb
        exact fun z => hv3 (z ▸ ha)
      obtain ⟨a, b, c, r, d⟩ := ordX_mem k (p ++ [v]) o nd1 (fun u hu => by
        rcases List.mem_append.mp hu with hu | hu
        · exact hb.sub u hu
        · simp at hu; subst hu; exact hv1) ho
      have hline := line_of a b (by rw [c]; simp; omega)
      have hfw := (kept_iff ok hline).mp hk
      rw [Bool.not_eq_false', List.any_eq_true] at ht
      obtain ⟨⟨x, y⟩, hm, hxy⟩ := ht
      simp at hxy
      obtain ⟨hx, rfl⟩ := hxy
      obtain ⟨o1, o2, o3⟩ := ok _ hm
      dsimp only at o1 o2 o3
      have hxo : x ∈ o := (hline.2 x).mpr o1
      rw [d] at hxo hfw
      unfold Fwd at hfw
      rw [List.pairwise_append] at hfw
      rcases List.mem_append.mp hxo with hxo | hxo
      · rcases List.mem_append.mp hxo with hxo | hxo
        · exact hx hxo
        · simp at hxo; exact o3 hxo
      · exact hfw.2.2 y (by simp) x hxo hm
theorem good_eq {n : Int} {A : List (Int × Int)} (ok : GOk n A) : (lawOrd n n.toNat).filter (keptB A) = topT n A n.toNat [] := by
  rw [lawOrd_eq]
  exact good_top ok n.toNat [] (Beg.nil n A) (by simp)
/-! ### cycles -/
theorem fwd_rk {n : Int} {A : List (Int × Int)} {o : List Int} {g : Int} (ok : GOk n A) (h : IsLine n o) (hk : keptB A o = true) : ∀ (L : Nat) (v : Int), Rk A g (L + 1) v = true → o.idxOf v < o.idxOf g
  | 0, v, hr => by
    obtain ⟨y, hy, hy2⟩ := List.any_eq_true.mp hr
    have : y = g := by simpa [Rk] using hy2
    subst this
    exact of_decide_eq_true (List.all_eq_true.mp hk _ (mem_foll.mp hy))
  | L + 1, v, hr => by
    obtain ⟨y, hy, hy2⟩ := List.any_eq_true.mp hr
    have a := fwd_rk ok h hk L y hy2
    have b : o.idxOf v < o.idxOf y := of_decide_eq_true (List.all_eq_true.mp hk _ (mem_foll.mp hy))
    omega
def Lnk (A : List (Int × Int)) : List Int → Prop
  | a :: b :: l => (a, b) ∈ A ∧ Lnk A (b :: l)
  | _ => True
theorem Lnk.tl {A : List (Int × Int)} {u : Int} : ∀ {l : List Int}, Lnk A (u :: l) → Lnk A l
  | [], _ => trivial
  | _ :: _, h => h.2
theorem chain_rk {A : List (Int × Int)} {g : Int} : ∀ (l : List Int) (u : Int), Lnk A (u :: l) → g ∈ l → ∃ L, 1 ≤ L ∧ Rk A g L u = true
  | [], u, _, h => by cases h
  | w :: l, u, hc, h => by
    obtain ⟨h1, h2⟩ := hc
    by_cases hg : g = w
    · subst hg
      exact ⟨1, Nat.le_refl _, List.any_eq_true.mpr ⟨g, mem_foll.mpr h1, by simp [Rk]⟩⟩
    · obtain ⟨L, a, b⟩ := chain_rk l w h2 ((List.mem_cons.mp h).resolve_left hg)
      exact ⟨L + 1, by omega, List.any_eq_true.mpr ⟨w, mem_foll.mpr h1, b⟩⟩
theorem chain_cycle {A : List (Int × Int)} : ∀ (l : List Int), Lnk A l → ¬ l.Nodup → ∃ x ∈ l, ∃ L, 1 ≤ L ∧ Rk A x L x = true
  | [], _, h => absurd List.nodup_nil h
  | u :: l, hc, h => by
    by_cases hu : u ∈ l
    · obtain ⟨L, a, b⟩ := chain_rk l u hc hu
      exact ⟨u, List.mem_cons_self, L, a, b⟩
    · have : ¬ l.Nodup := fun z => h (List.nodup_cons.mpr ⟨hu, z⟩)
      obtain ⟨x, hx, r⟩ := chain_cycle l hc.tl this
      exact ⟨x, List.mem_cons_of_mem _ hx, r⟩
theorem chain_ex {A : List (Int × Int)} {U : Int → Prop} (hU : ∀ v, U v → ∃ x, U x ∧ (x, v) ∈ A) {v0 : Int} (h0 : U v0) : ∀ k : Nat, ∃ u l, Lnk A (u :: l) ∧ l.length = k ∧ ∀ x ∈ u :: l, U x
  | 0 => ⟨v0, [], trivial, rfl, fun x hx => by simp at hx; subst hx; exact h0⟩
  | k + 1 => by
    obtain ⟨u, l, h1, h2, h3⟩ := chain_ex hU h0 k
    obtain ⟨x, hx, hm⟩ := hU u (h3 u List.mem_cons_self)
    refine ⟨x, u :: l, ⟨hm, h1⟩, by simp [h2], fun y hy => ?_⟩
    rcases List.mem_cons.mp hy with rfl | hy
    · exact hx
    · exact h3 y hy
theorem stuck_cycle {n : Int} {A : List (Int × Int)} (ok : GOk n A) {p : List Int} (hp : p.length < n.toNat) (hf : freeN n A p = []) : ∃ x ∈ nodes n, ∃ L, 1 ≤ L ∧ Rk A x L x = true := by
  obtain ⟨v0, h0, h00⟩ : ∃ v ∈ nodes n, v ∉ p := by
    by_cases h : ∃ v ∈ nodes n, v ∉ p
    · exact h
    · exfalso
      have := nodup_len (l := nodes n) (m := p) (nodes_nodup n) fun x hx => by
        by_cases hm : x ∈ p
        · exact hm
        · exact absurd ⟨x, hx, hm⟩ h
      rw [rngI_len] at this
      omega
  obtain ⟨u, l, h1, h2, h3⟩ := chain_ex (A := A) (U := fun v => v ∈ nodes n ∧ v ∉ p) (fun v ⟨hv1, hv2⟩ => by
    by_cases h : ∃ x, (x, v) ∈ A ∧ x ∉ p
    · obtain ⟨x, hx, hxp⟩ := h
      exact ⟨x, ⟨(ok _ hx).1, hxp⟩, hx⟩
    · exfalso
      have : v ∈ freeN n A p := mem_free.mpr ⟨hv1, hv2, fun x hx => by
        by_cases hm : x ∈ p
        · exact hm
        · exact absurd ⟨x, hx, hm⟩ h⟩
      rw [hf] at this; cases this) ⟨h0, h00⟩ n.toNat
  obtain ⟨x, hx, r⟩ := chain_cycle (u :: l) h1 fun nd => by
    have := nodup_len nd fun x hx => (h3 x hx).1
    rw [rngI_len, List.length_cons] at this
    omega
  exact ⟨x, (h3 x hx).1, r⟩
theorem top_stuck {n : Int} {A : List (Int × Int)} : ∀ (k : Nat) (p : List Int), p.length + k = n.toNat → topT n A k p = [] → ∃ q : List Int, q.length < n.toNat ∧ freeN n A q = []
  | 0, p, _, h => by simp [topT] at h
  | k + 1, p, hl, h => by
    cases hf : freeN n A p with
    | nil => exact ⟨p, by omega, hf⟩
    | cons v vs =>
      have : (freeN n A p).flatMap (fun v => topT n A k (p ++ [v])) = [] := h
      rw [hf, List.flatMap_cons] at this
      exact top_stuck k (p ++ [v]) (by simp; omega) (List.append_eq_nil_iff.mp this).1
/-! ### one before the other -/
theorem part_kept {n : Int} {A : List (Int × Int)} {t : List Int} {x y : Int} (ok : GOk n A) (ht : IsLine n t) (hk : keptB A t = true) (hx : x ∈ nodes n) (hy : y ∈ nodes n) (hxy : x ≠ y) (hr : reachB n A x y = false) : ∃ o, IsLine n o ∧ keptB A o = true ∧ o.idxOf y < o.idxOf x := by
  let q : Int → Bool := fun v => v == y || reachB n A v y
  have hqa : ∀ a b, (a, b) ∈ A → q b = true → q a = true := fun a b hab hb => by
    have : reachB n A a y = true := by
      rw [reachB_iff ok]
      rcases Bool.or_eq_true_iff.mp hb with h | h
      · have : b = y := by simpa using h
        subst this
        exact ⟨1, Nat.le_refl _, List.any_eq_true.mpr ⟨b, mem_foll.mpr hab, by simp [Rk]⟩⟩
      · obtain ⟨L, h1, h2⟩ := (reachB_iff ok _ _).mp h
        exact ⟨L + 1, by omega, List.any_eq_true.mpr ⟨b, mem_foll.mpr hab, h2⟩⟩
    show (a == y || reachB n A a y) = true
    rw [this, Bool.or_true]
  have hperm : (t.filter q ++ t.filter fun v => !q v).Perm t := List.filter_append_perm q t
  have hline : IsLine n (t.filter q ++ t.filter fun v => !q v) := ⟨hperm.nodup_iff.mpr ht.1, fun v => by rw [hperm.mem_iff]; exact ht.2 v⟩
  have hfw := (kept_iff ok ht).mp hk
  have hfo : Fwd A (t.filter q ++ t.filter fun v => !q v) := by
    unfold Fwd at hfw ⊢
    rw [List.pairwise_append]
    refine ⟨hfw.filter _, hfw.filter _, fun a ha b hb hm => ?_⟩
    have h1 := (List.mem_filter.mp ha).2
    have h2 := (List.mem_filter.mp hb).2
    rw [hqa b a hm h1] at h2
    cases h2
  refine ⟨_, hline, (kept_iff ok hline).mpr hfo, ?_⟩
  have hyq : y ∈ t.filter q := List.mem_filter.mpr ⟨(ht.2 y).mpr hy, by show (y == y || _) = true; simp⟩
  have hxq : x ∉ t.filter q := fun h => by
    have := (List.mem_filter.mp h).2
    rcases Bool.or_eq_true_iff.mp this with z | z
    · exact hxy (by simpa using z)
    · rw [hr] at z; cases z
  have e1 : (t.filter q ++ t.filter fun v => !q v).idxOf y = (t.filter q).idxOf y := by rw [List.idxOf_append, if_pos hyq]
  have e2 : (t.filter q ++ t.filter fun v => !q v).idxOf x = (t.filter fun v => !q v).idxOf x + (t.filter q).length := by rw [List.idxOf_append, if_neg hxq]
  have e3 := List.idxOf_lt_length_of_mem hyq
  omega
theorem bef_ok {n : Int} {A : List (Int × Int)} {G : List (List Int)} (ok : GOk n A) (hG : G = (lawOrd n n.toNat).filter (keptB A)) (hne : G ≠ []) : BefOk n A G := by
  have mem : ∀ o, o ∈ G ↔ IsLine n o ∧ keptB A o = true := fun o => by
    rw [hG, List.mem_filter]
    exact ⟨fun ⟨a, b⟩ => ⟨lawOrd_line a, b⟩, fun ⟨a, b⟩ => ⟨lawOrd_all a, b⟩⟩
  obtain ⟨t, ht⟩ := List.exists_mem_of_ne_nil _ hne
  obtain ⟨t1, t2⟩ := (mem t).mp ht
  refine ⟨fun x hx y hy hxy => ⟨fun hr => ?_, fun ha => ?_⟩, fun x hx y hy hxy h1 h2 => ?_⟩
  · unfold aheadN
    rw [List.filter_eq_self.mpr]
    intro o ho
    obtain ⟨o1, o2⟩ := (mem o).mp ho
    obtain ⟨L, l1, l2⟩ := (reachB_iff ok _ _).mp hr
    obtain ⟨M, rfl⟩ : ∃ M, L = M + 1 := ⟨L - 1, by omega⟩
    exact decide_eq_true (fwd_rk ok o1 o2 M x l2)
  · cases hr : reachB n A x y with
    | true => rfl
    | false =>
      exfalso
      obtain ⟨o, o1, o2, o3⟩ := part_kept ok t1 t2 hx hy hxy hr
      have hm := (mem o).mpr ⟨o1, o2⟩
      have := List.length_filter_eq_length_iff.mp ha o hm
      have := of_decide_eq_true this
      omega
  · intro hz
    obtain ⟨o, o1, o2, o3⟩ := part_kept ok t1 t2 hy hx (Ne.symm hxy) h2
    have hm := (mem o).mpr ⟨o1, o2⟩
    have : o ∈ G.filter fun o => decide (o.idxOf x < o.idxOf y) := List.mem_filter.mpr ⟨hm, decide_eq_true o3⟩
    rw [List.length_eq_zero_iff.mp hz] at this
    cases this
end Kb
set_option Elab.async false
set_option linter.all false
set_option maxRecDepth 100000
set_option maxHeartbeats 1000000
namespace Kb
open PySem L2
set_option autoImplicit false
local macro_rules | `(tactic| walk_at "r") => `(tactic| try simp only [sSeq, sNext, sRet, sRetF, sRetO, sAsg, sAsgF, sAsgM, sAsgR, rCl, rMe, sRetM, sIf, sIfM, sDrop, sDropM, sUnp, sAug, sFor, sForM, sApp, sSetI, sDPu, sDPuT, sDNew, sDNewT, sDOne, sFldI, sBreak, sCont, fLc, xDc, xF, xVar, bVar, xC, x2, b2, fAdd, fI, fI0, fB0, fEq, fNe, fIn, fIs, fIsNot, D.isN, xNeg, bTru, bNot, bAnd, bOr, bCh, xAnd, xOr, xNot, xIfE, xFld, fIx, fSl, oNo, oSo, aNil, aCons, xTup, fLst, fCat, xCall, fCall, fLen, fAbs, fInt, fList, fTuple, fIsi, D.ty, fAny, fSrt, fMin, xIdx, fSS, fDIn, xDGet, xDGetT, keyD, keysD, gN, gsN, gsC, gTu, iL, iT, iR1, iR2, iR3, iR1M, bYes, wipeE, free, Slot.ad, Slot.dat, Slot.par, axNil, axI, axB, xCl, fCl, xMe, fMe, xMk, fGen, mP, m2, bm2, mCl, mTup, mLst, mSS, amNil, amCons, gPlain, gThen, gNil, gYield, zP, zM, zTP, zD, z2, bz2, zTru, zNot, zAnd, zOr, zNil, zCons, zTup, zLst, zCl, zClX, zFld, zMkS, sAsgZ, sRetZ, sIfZ, sDropZ, sRaise, sTry, sRetR, sRetV, sRetMF, mF, mLc, iP, xR, fR, xClF, rMe0, fLRg, fSrtQ, iEnV, xEFld, fIsX, cvV, grD, prD, lk_arrows, lk_size, eqD_int, sh_int, sh60_ints, inL_ints,
  List.map_cons, List.map_nil, List.length_cons, List.length_nil, List.getElem?_cons_succ, List.getElem?_cons_zero, List.set_cons_succ, List.set_cons_zero, List.cons_append, List.nil_append, Option.isNone_none, Option.map_some, Option.map_none, true_and, and_true, if_true, if_false, rngD_ints, Int.add_sub_cancel, Bool.false_eq_true, List.length_map])
local macro_rules | `(tactic| walk_at "s") => `(tactic| try simp only [sSeq, sNext, sRet, sRetF, sRetO, sAsg, sAsgF, sAsgM, sAsgR, rCl, rMe, sRetM, sDrop, sDropM, sUnp, sAug, sFor, sForM, sApp, sSetI, sDPu, sDPuT, sDNew, sDNewT, sDOne, sFldI, sBreak, sCont, fLc, xDc, xF, xVar, bVar, xC, x2, b2, fAdd, fI, fI0, fB0, fEq, fNe, fIn, fIs, fIsNot, D.isN, xNeg, bTru, bNot, bAnd, bOr, bCh, xAnd, xOr, xNot, xIfE, xFld, fIx, fSl, oNo, oSo, aNil, aCons, xTup, fLst, fCat, xCall, fCall, fLen, fAbs, fInt, fList, fTuple, fIsi, D.ty, fAny, fSrt, fMin, xIdx, fSS, fDIn, xDGet, xDGetT, keyD, keysD, gN, gsN, gsC, gTu, iL, iT, iR1, iR2, iR3, iR1M, bYes, wipeE, free, Slot.ad, Slot.dat, Slot.par, axNil, axI, axB, xCl, fCl, xMe, fMe, xMk, fGen, mP, m2, bm2, mCl, mTup, mLst, mSS, amNil, amCons, gPlain, gThen, gNil, gYield, zP, zM, zTP, zD, z2, bz2, zTru, zNot, zAnd, zOr, zNil, zCons, zTup, zLst, zCl, zClX, zFld, zMkS, sAsgZ, sRetZ, sDropZ, sRaise, sTry, sRetR, sRetV, sRetMF, mF, mLc, iP, xR, fR, xClF, rMe0, fLRg, fSrtQ, iEnV, xEFld, fIsX, cvV, grD, prD, lk_arrows, lk_size, eqD_int, sh_int, sh60_ints, inL_ints,
  List.map_cons, List.map_nil, List.length_cons, List.length_nil, List.getElem?_cons_succ, List.getElem?_cons_zero, List.set_cons_succ, List.set_cons_zero, List.cons_append, List.nil_append, Option.isNone_none, Option.map_some, Option.map_none, true_and, and_true, if_true, if_false, rngD_ints, Int.add_sub_cancel, Bool.false_eq_true, List.length_map])
/-- what the top has left of the errors -/
structure TxE (P : Program) (K : Frag) (mg : Str → Option Value) (Ca Co fA fO : Addr) : Prop where
  eA : ErrTxt P K mg "InvalidArrow" Ca fA ["arrow"]
  eO : ErrTxt P K mg "InvalidOrder" Co fO ["listing"]
  rA : ErrR K Ca "arrow"
  rO : ErrR K Co "listing"
  xA : ExcC K Ca
  xO : ExcC K Co
  mA : PySem.W.exmOne K (.ref Ca) (.ref Ca) = some true
  mO : PySem.W.exmOne K (.ref Co) (.ref Co) = some true
  kAO : PySem.W.kitOne K (.ref Ca) (.ref Co) = some false
  kOA : PySem.W.kitOne K (.ref Co) (.ref Ca) = some false
/-! ### pairs sorted -/
def leP (p q : Int × Int) : Bool := decide (p.1 < q.1 ∨ (p.1 = q.1 ∧ p.2 ≤ q.2))
theorem leD_pr (p q : Int × Int) : leD (prD p) (prD q) = leP p q := congrFun (congrFun (PySem.W.dataLe_ii (fun p : Int × Int => p.1) (fun p => p.2)) p) q
theorem sort_prs (l : List (Int × Int)) : (l.map prD).mergeSort leD = (l.mergeSort leP).map prD := (PySem.W.sort_maps (s := leD) prD fun a _ b _ => (leD_pr a b).symm).symm
theorem sort_srt {l : List (Int × Int)} (nd : l.Nodup) : Srt (l.mergeSort leP) := by
  have h1 : (l.mergeSort leP).Pairwise fun a b => leP a b = true := List.pairwise_mergeSort (le := leP) (fun a b c => by unfold leP; simp only [decide_eq_true_eq]; omega) (fun a b => by unfold leP; rw [Bool.or_eq_true, decide_eq_true_eq, decide_eq_true_eq]; omega) l
  have h2 : (l.mergeSort leP).Nodup := (List.mergeSort_perm l leP).nodup_iff.mpr nd
  refine (h1.and h2).imp fun {p q} ⟨a, b⟩ => ?_
  unfold leP at a
  simp only [decide_eq_true_eq] at a
  unfold ltP
  rcases a with a | ⟨a, a2⟩
  · exact .inl a
  · refine .inr ⟨a, ?_⟩
    rcases Int.lt_or_eq_of_le a2 with z | z
    · exact z
    · exact absurd (Prod.ext a z) b
theorem srt_ext : ∀ {l m : List (Int × Int)}, Srt l → Srt m → (∀ p, p ∈ l ↔ p ∈ m) → l = m
  | [], [], _, _, _ => rfl
  | [], b :: m, _, _, h => by have := (h b).mpr List.mem_cons_self; cases this
  | a :: l, [], _, _, h => by have := (h a).mp List.mem_cons_self; cases this
  | a :: l, b :: m, hl, hm, h => by
    obtain ⟨l1, l2⟩ := List.pairwise_cons.mp hl
    obtain ⟨m1, m2⟩ := List.pairwise_cons.mp hm
    have irr : ∀ p q : Int × Int, ltP p q → ltP q p → False := fun p q x y => by unfold ltP at x y; omega
    have irr1 : ∀ p : Int × Int, ltP p p → False := fun p x => by unfold ltP at x; omega
    have e : a = b := by
      rcases List.mem_cons.mp ((h a).mp List.mem_cons_self) with z | z
      · exact z
      · rcases List.mem_cons.mp ((h b).mpr List.mem_cons_self) with z2 | z2
        · exact z2.symm
        · exact (irr _ _ (m1 a z) (l1 b z2)).elim
    subst e
    rw [srt_ext l2 m2 fun p => ?_]
    constructor
    · intro hp
      rcases List.mem_cons.mp ((h p).mp (List.mem_cons_of_mem _ hp)) with z | z
      · subst z; exact (irr1 _ (l1 _ hp)).elim
      · exact z
    · intro hp
      rcases List.mem_cons.mp ((h p).mpr (List.mem_cons_of_mem _ hp)) with z | z
      · subst z; exact (irr1 _ (m1 _ hp)).elim
      · exact z
/-! ### __init__ -/
def badA (n : Int) (p : Int × Int) : Bool := p.1 == p.2 || !(decide (1 ≤ p.1) && decide (p.1 ≤ n)) || !(decide (1 ≤ p.2) && decide (p.2 ≤ n))
theorem badA_ok {n : Int} {p : Int × Int} : badA n p = false ↔ p.1 ∈ nodes n ∧ p.2 ∈ nodes n ∧ p.1 ≠ p.2 := by
  rw [mem_nodes, mem_nodes]
  unfold badA
  simp only [Bool.or_eq_false_iff, Bool.not_eq_false', Bool.and_eq_true, decide_eq_true_eq, beq_eq_false_iff_ne, ne_eq]
  omega
def ddA (l : List (Int × Int)) : List (Int × Int) := l.foldl (fun acc p => if acc.contains p then acc else acc ++ [p]) []
theorem ddA_snoc (l : List (Int × Int)) (p : Int × Int) : ddA (l ++ [p]) = if (ddA l).contains p then ddA l else ddA l ++ [p] := by
  unfold ddA
  rw [List.foldl_append]
  rfl
theorem ddA_facts : ∀ (l : List (Int × Int)), (ddA l).Nodup ∧ (∀ p, p ∈ ddA l ↔ p ∈ l) ∧ (ddA l).length ≤ l.length := by
  intro l
  generalize hn : l.length = n
  induction n generalizing l with
  | zero =>
    have e : l = [] := List.length_eq_zero_iff.mp hn
    subst e
    exact ⟨List.nodup_nil, fun p => Iff.rfl, Nat.le_refl _⟩
  | succ n ih =>
    obtain ⟨l', p, rfl⟩ : ∃ l' p, l = l' ++ [p] := ⟨l.dropLast, l.getLast (by intro z; rw [z] at hn; cases hn), (List.dropLast_concat_getLast _).symm⟩
    simp at hn
    obtain ⟨h1, h2, h3⟩ := ih l' hn
    rw [ddA_snoc]
    split
    · rename_i h
      have hp : p ∈ ddA l' := by simpa using h
      refine ⟨h1, fun q => ?_, by omega⟩
      rw [List.mem_append, List.mem_singleton, h2 q]
      exact ⟨.inl, fun z => z.elim id fun e => by rw [e]; exact (h2 p).mp hp⟩
    · rename_i h
      have hp : p ∉ ddA l' := by simpa using h
      refine ⟨?_, fun q => ?_, by simp; omega⟩
      · rw [List.nodup_append]
        exact ⟨h1, by simp, fun a ha b hb z => by rw [List.mem_singleton] at hb; rw [← hb, ← z] at hp; exact hp ha⟩
      · rw [List.mem_append, List.mem_append, List.mem_singleton, h2 q]
def aSlot : Nat → List D → Slot
  | 0, ds => .im (.lst ds)
  | 1, ds => .bo (.lst ds)
  | _, ds => .im (.tup ds)
theorem iSq_a {i : Nat} {Γ : Env} {kd : Nat} {ds : List D} {P : List D → Prop} (h : Γ[i]? = some (some (aSlot kd ds))) (hp : P ds) : iSqV i Γ P := by
  unfold iSqV
  rw [h]
  rcases kd with _ | _ | kd <;> exact hp
theorem find_none_of {α : Type} {p : α → Bool} : ∀ {l : List α}, l.find? p = none → ∀ x ∈ l, p x = false := fun h x hx => by
  have := List.find?_eq_none.mp h x hx
  simpa using this
theorem find_first {α : Type} {p : α → Bool} {pre post : List α} {x : α} (h : ∀ y ∈ pre, p y = false) (hx : p x = true) : (pre ++ x :: post).find? p = some x := by
  rw [List.find?_append, List.find?_eq_none.mpr (fun y hy => by rw [h y hy]; decide), List.find?_cons_of_pos hx]
  rfl
theorem inL_prs' (p : Int × Int) (A : List (Int × Int)) : inL (prD p) (A.map prD) = A.contains p := inL_prs p.1 p.2 A
theorem sh_prs60 (A : List (Int × Int)) : D.sh 60 (.lst (A.map prD)) = true := sh_prs 58 A
theorem sh_all59 (A : List (Int × Int)) : (A.map prD).all (D.sh 59) = true := sh_prs 58 A
def grF (n : Int) (S : List (Int × Int)) : List (Str × D) := [("size", .int n), ("arrows", .tup (S.map prD))]
section
variable {P : Program} {w : World} {K : Frag} {mg : Str → Option Value} {base : Heap} {C Ca Co fA fO f : Addr} {fd : FuncData}
abbrev s_Graph___init__ : Stmt := inClass (top 12) 0
abbrev N_Graph___init__ : List Str := ["self", "size", "arrows", "different", "x", "y"]
theorem sc_Graph___init__ : FnScope N_Graph___init__ ["self", "size", "arrows"] (defScope s_Graph___init__) := ⟨rfl, rfl, rfl, by decide +kernel, rfl, by decide +kernel, by decide +kernel⟩
def S_initS (Ca : Addr) : SIS := spcIS (α := (Int × List (Int × Int)) × Nat) (fun x => [.im (.int x.1.1), aSlot x.2 (x.1.2.map prD)]) (fun x => x.1.2.length ≤ 500)
  (fun x r => (∀ p ∈ x.1.2, badA x.1.1 p = false) ∧ ∃ S, Srt S ∧ (∀ p, p ∈ S ↔ p ∈ x.1.2) ∧ S.length ≤ x.1.2.length ∧ r = grF x.1.1 S)
  fun x C fs => ∃ p, x.1.2.find? (badA x.1.1) = some p ∧ C = Ca ∧ fs = [(("arrow" : Str), prD p)]
theorem ok_initS {dv : V} (F : FD K "__init__" "Graph.__init__" s_Graph___init__ [dv] f fd) (T : Tx K mg C) (T2 : TxE P K mg Ca Co fA fO) : FnOk P w K mg base (L2.CX P w) (2 + 1) f fd ["self", "size", "arrows"] (spIS K C (S_initS Ca)) := by
  refine fn_initS F sc_Graph___init__ (fun l x => [some (.mi l C []), some (.im (.int x.1.1)), some (aSlot x.2 (x.1.2.map prD)), none, none, none]) fun cdv A outer s H E hr => ?_
  refine ⟨_, (ss_cons (s_fld 0 T.cl T.n_size (px_var 1))
      (ss_cons (s_asgF (i := 3) sc_Graph___init__.nd (fx_lst as_nil))
      (ss_cons (s_forO (passes_of rfl) rfl (io_var 2) (gx_tup (n := 2) rfl (gx_cons (gx_name (i := 4) sc_Graph___init__.nd) (gx_cons (gx_name (i := 5) sc_Graph___init__.nd) gx_nil))) (ss_cons (s_if (tx_w (tw_or (tx_eq hr (bx_var 4) (bx_var 5)) (tw_or (tx_not (tx_chain op_le does_B0 op_le does_B0 (bx px_int) (bx_var 4) (bx_var 1))) (tw_or1 (tx_not (tx_chain op_le does_B0 op_le does_B0 (bx px_int) (bx_var 5) (bx_var 1))))))) (ss_one (s_raise rfl (takes_of rfl rfl rfl rfl) T2.eA hr (as_cons (px_tup (as_cons (px_var 4) (as_cons (px_var 5) as_nil))) as_nil))) ss_nil)
      (ss_one (s_if (tx_nin hr (bx (px_tup (as_cons (px_var 4) (as_cons (px_var 5) as_nil)))) (bx_var 3)) (ss_one (s_app 3 (px_tup (as_cons (px_var 4) (as_cons (px_var 5) as_nil))))) ss_nil))))
      (ss_one (s_fld 0 T.cl T.n_arrows (px_tuple rfl T.tuple (bx (px_f (fx_sortedQ hr rfl T.sorted (bx_var 3)))))))))), ?_⟩
  rintro l ⟨⟨n, A⟩, kd⟩ R F' hA hR hX
  dsimp only at hA hR hX
  walk_at "r"
  refine ⟨by simp, by decide, by decide, fun l2 hl2 => iSq_a (kd := kd) rfl ?_⟩
  refine forb (fun pre Γ => ∃ d4 d5 : Option D, (∀ p ∈ pre, badA n p = false) ∧ Γ = [some (.mi l C [("size", .int n)]), some (.im (.int n)), some (aSlot kd (A.map prD)), some (.ml l2 ((ddA pre).map prD)), d4.map Slot.im, d5.map Slot.im]) ⟨none, none, (fun _ h => by cases h), rfl⟩ ?_ ?_
  · rintro pre ⟨x, y⟩ post Γ hx ⟨d4, d5, hpre, rfl⟩
    obtain ⟨df1, df2, df3⟩ := ddA_facts pre
    have hlen : (ddA pre).length < 1000 := by
      have : A.length = pre.length + (post.length + 1) := by rw [hx]; simp
      omega
    have hbad : badA n (x, y) = true → ∃ p, A.find? (badA n) = some p ∧ p = (x, y) := fun h => ⟨_, by rw [hx]; exact find_first hpre h, rfl⟩
    walk_at "s"
    refine ⟨by cases d4 <;> rfl, by cases d5 <;> rfl, sIf_by (badA n (x, y)) (fun Q hQ => ?_) (fun hb => ?_) fun hb => ?_⟩
    · walk_at "r"
      revert hQ
      unfold badA
      dsimp only
      cases (x == y) <;> cases decide (1 ≤ x) <;> cases decide (x ≤ n) <;> cases decide (1 ≤ y) <;> cases decide (y ≤ n) <;> simp
    · walk_at "r"
      obtain ⟨p, hp, rfl⟩ := hbad hb
      exact ⟨by decide, hX _ _ ⟨_, hp, rfl, rfl⟩⟩
    walk_at "s"
    refine sIf_by (!(ddA pre).contains (x, y)) (fun Q hQ => ?_) (fun hc => ?_) fun hc => ?_
    · walk_at "r"
      refine ⟨by decide, sh_pr 59 (x, y), sh_prs60 _, ?_⟩
      rw [inL_prs]
      exact hQ
    · walk_at "r"
      refine ⟨by decide, sz' (Nat.le_of_lt hlen), some (.int x), some (.int y), ?_, ?_⟩
      · intro p hp
        rcases List.mem_append.mp hp with hp | hp
        · exact hpre p hp
        · rw [List.mem_singleton.mp hp]; exact hb
      · have hc' : (ddA pre).contains (x, y) = false := by simpa using hc
        rw [ddA_snoc, hc']
        simp [prD]
    · walk_at "r"
      refine ⟨some (.int x), some (.int y), ?_, ?_⟩
      · intro p hp
        rcases List.mem_append.mp hp with hp | hp
        · exact hpre p hp
        · rw [List.mem_singleton.mp hp]; exact hb
      · have hc' : (ddA pre).contains (x, y) = true := by simpa using hc
        rw [ddA_snoc, hc']
        simp
  · rintro Γ ⟨d4, d5, hpre, rfl⟩
    walk_at "r"
    obtain ⟨df1, df2, df3⟩ := ddA_facts A
    refine ⟨sh_all59 _, prs_alk _, by decide, by decide, _, rfl, hR _ ⟨hpre, _, sort_srt df1, fun p => ?_, ?_, ?_⟩⟩
    · rw [(List.mergeSort_perm _ _).mem_iff]; exact df2 p
    · rw [List.length_mergeSort]; exact df3
    · rw [sort_prs]
      rfl
end
end Kb
set_option Elab.async false
set_option linter.all false
set_option maxRecDepth 100000
set_option maxHeartbeats 1000000
namespace Kb
open PySem L2
set_option autoImplicit false
local macro_rules | `(tactic| walk_at "r") => `(tactic| try simp only [sSeq, sNext, sRet, sRetF, sRetO, sAsg, sAsgF, sAsgM, sAsgR, rCl, rMe, sRetM, sIf, sIfM, sDrop, sDropM, sUnp, sAug, sFor, sForM, sApp, sSetI, sDPu, sDPuT, sDNew, sDNewT, sDOne, sFldI, sBreak, sCont, fLc, xDc, xF, xVar, bVar, xC, x2, b2, fAdd, fI, fI0, fB0, fEq, fNe, fIn, fIs, fIsNot, D.isN, xNeg, bTru, bNot, bAnd, bOr, bCh, xAnd, xOr, xNot, xIfE, xFld, fIx, fSl, oNo, oSo, aNil, aCons, xTup, fLst, fCat, xCall, fCall, fLen, fAbs, fInt, fList, fTuple, fIsi, D.ty, fAny, fSrt, fMin, xIdx, fSS, fDIn, xDGet, xDGetT, keyD, keysD, gN, gsN, gsC, gTu, iL, iT, iR1, iR2, iR3, iR1M, bYes, wipeE, free, Slot.ad, Slot.dat, Slot.par, axNil, axI, axB, xCl, fCl, xMe, fMe, xMk, fGen, mP, m2, bm2, mCl, mTup, mLst, mSS, amNil, amCons, gPlain, gThen, gNil, gYield, zP, zM, zTP, zD, z2, bz2, zTru, zNot, zAnd, zOr, zNil, zCons, zTup, zLst, zCl, zClX, zFld, zMkS, sAsgZ, sRetZ, sIfZ, sDropZ, sRaise, sTry, sRetR, sRetV, sRetMF, mF, mLc, iP, xR, fR, xClF, rMe0, fLRg, fSrtQ, iEnV, xEFld, fIsX, cvV, grD, prD, lk_arrows, lk_size, eqD_int, sh_int, sh60_ints, inL_ints,
  List.map_cons, List.map_nil, List.length_cons, List.length_nil, List.getElem?_cons_succ, List.getElem?_cons_zero, List.set_cons_succ, List.set_cons_zero, List.cons_append, List.nil_append, Option.isNone_none, Option.map_some, Option.map_none, true_and, and_true, if_true, if_false, rngD_ints, Int.add_sub_cancel, Bool.false_eq_true, List.length_map])
local macro_rules | `(tactic| walk_at "s") => `(tactic| try simp only [sSeq, sNext, sRet, sRetF, sRetO, sAsg, sAsgF, sAsgM, sAsgR, rCl, rMe, sRetM, sDrop, sDropM, sUnp, sAug, sFor, sForM, sApp, sSetI, sDPu, sDPuT, sDNew, sDNewT, sDOne, sFldI, sBreak, sCont, fLc, xDc, xF, xVar, bVar, xC, x2, b2, fAdd, fI, fI0, fB0, fEq, fNe, fIn, fIs, fIsNot, D.isN, xNeg, bTru, bNot, bAnd, bOr, bCh, xAnd, xOr, xNot, xIfE, xFld, fIx, fSl, oNo, oSo, aNil, aCons, xTup, fLst, fCat, xCall, fCall, fLen, fAbs, fInt, fList, fTuple, fIsi, D.ty, fAny, fSrt, fMin, xIdx, fSS, fDIn, xDGet, xDGetT, keyD, keysD, gN, gsN, gsC, gTu, iL, iT, iR1, iR2, iR3, iR1M, bYes, wipeE, free, Slot.ad, Slot.dat, Slot.par, axNil, axI, axB, xCl, fCl, xMe, fMe, xMk, fGen, mP, m2, bm2, mCl, mTup, mLst, mSS, amNil, amCons, gPlain, gThen, gNil, gYield, zP, zM, zTP, zD, z2, bz2, zTru, zNot, zAnd, zOr, zNil, zCons, zTup, zLst, zCl, zClX, zFld, zMkS, sAsgZ, sRetZ, sDropZ, sRaise, sTry, sRetR, sRetV, sRetMF, mF, mLc, iP, xR, fR, xClF, rMe0, fLRg, fSrtQ, iEnV, xEFld, fIsX, cvV, grD, prD, lk_arrows, lk_size, eqD_int, sh_int, sh60_ints, inL_ints,
  List.map_cons, List.map_nil, List.length_cons, List.length_nil, List.getElem?_cons_succ, List.getElem?_cons_zero, List.set_cons_succ, List.set_cons_zero, List.cons_append, List.nil_append, Option.isNone_none, Option.map_some, Option.map_none, true_and, and_true, if_true, if_false, rngD_ints, Int.add_sub_cancel, Bool.false_eq_true, List.length_map])
/-! ### ints sorted -/
def leI (a b : Int) : Bool := decide (a ≤ b)
theorem leD_int (a b : Int) : leD (.int a) (.int b) = leI a b := congrFun (congrFun (PySem.W.dataLe_int (fun a : Int => a)) a) b
theorem sort_ints (l : List Int) : (l.map D.int).mergeSort leD = (l.mergeSort leI).map D.int := (PySem.W.sort_maps (s := leD) D.int fun a _ b _ => (leD_int a b).symm).symm
theorem ints_alk (l : List Int) : alkD (l.map D.int) := by
  refine ⟨fun x hx y hy => ?_, .inr fun d hd => ?_⟩
  · rw [List.map_map] at hx hy
    obtain ⟨p, _, rfl⟩ := List.mem_map.mp hx
    obtain ⟨q, _, rfl⟩ := List.mem_map.mp hy
    rfl
  · rw [List.map_map] at hd
    obtain ⟨p, _, rfl⟩ := List.mem_map.mp hd
    exact ⟨fun z => (by cases z), fun xs z => (by cases z)⟩
theorem ints59 (l : List Int) : (l.map D.int).all (D.sh 59) = true := sh_ints 59 l
theorem eqD_ints (a b : List Int) : eqD (.lst (a.map D.int)) (.lst (b.map D.int)) = decide (a = b) := by
  have h : ∀ a b : List Int, PyData.eqv (.list (D.pys (a.map D.int))) (.list (D.pys (b.map D.int))) = decide (a = b) := by
    intro a
    induction a with
    | nil =>
      intro b
      cases b with
      | nil => rfl
      | cons y b => rfl
    | cons x a ih =>
      intro b
      cases b with
      | nil => rfl
      | cons y b =>
        have e : PyData.eqv (.list (D.pys ((x :: a).map D.int))) (.list (D.pys ((y :: b).map D.int))) = (x == y && PyData.eqv (.list (D.pys (a.map D.int))) (.list (D.pys (b.map D.int)))) := rfl
        rw [e, ih b]
        by_cases h1 : x = y
        · subst h1
          simp
        · have : (x == y) = false := by simpa using h1
          rw [this]
          simp [h1]
  exact h a b
def lineB (n : Int) (o : List Int) : Bool := decide (o.mergeSort leI = nodes n)
theorem sortI_pw (l : List Int) : (l.mergeSort leI).Pairwise (· ≤ ·) := by
  have h1 : (l.mergeSort leI).Pairwise fun a b => leI a b = true := List.pairwise_mergeSort (le := leI) (fun a b c => by unfold leI; simp only [decide_eq_true_eq]; omega) (fun a b => by unfold leI; rw [Bool.or_eq_true, decide_eq_true_eq, decide_eq_true_eq]; omega) l
  exact h1.imp fun {a b} h => by unfold leI at h; simpa using h
theorem lineB_iff {n : Int} {o : List Int} : lineB n o = true ↔ IsLine n o := by
  unfold lineB
  rw [decide_eq_true_eq]
  have hp := List.mergeSort_perm o leI
  constructor
  · intro h
    rw [h] at hp
    exact ⟨hp.nodup_iff.mp (nodes_nodup n), fun v => hp.symm.mem_iff⟩
  · rintro ⟨nd, hm⟩
    refine sorted_ext ?_ (nodes_sorted n) fun v => by rw [hp.mem_iff]; exact hm v
    have nd2 : (o.mergeSort leI).Nodup := hp.nodup_iff.mpr nd
    exact ((sortI_pw o).and nd2).imp fun {a b} ⟨h1, h2⟩ => by
      have : a ≠ b := h2
      omega
def bSlot (b : Bool) (ds : List D) : Slot := .bo (if b then .tup ds else .lst ds)
theorem iSq_b {i : Nat} {Γ : Env} {b : Bool} {ds : List D} {P : List D → Prop} (h : Γ[i]? = some (some (bSlot b ds))) (hp : P ds) : iSqV i Γ P := by
  unfold iSqV
  rw [h]
  cases b <;> exact hp
theorem rg_nodes (n : Int) : rngD 1 1 (n + 1 - 1).toNat = (nodes n).map D.int := by rw [rngD_ints, Int.add_sub_cancel]
section
variable {P : Program} {w : World} {K : Frag} {mg : Str → Option Value} {base : Heap} {C Ca Co fA fO f : Addr} {fd : FuncData}
abbrev s_is_order : Stmt := top 5
abbrev N_is_order : List Str := ["size", "order"]
theorem sc_is_order : FnScope N_is_order ["size", "order"] (defScope s_is_order) := ⟨rfl, rfl, rfl, by decide +kernel, rfl, by decide +kernel, by decide +kernel⟩
def S_isord : SP := spc (α := (Int × List Int) × Bool) (fun x => [.im (.int x.1.1), bSlot x.2 (x.1.2.map D.int)]) (fun x => x.1.2.length ≤ 500 ∧ 0 ≤ x.1.1 ∧ x.1.1 ≤ 500) fun x r => r = .d (.bl (lineB x.1.1 x.1.2))
theorem ok_isord (F : FD K "is_order" "is_order" s_is_order [] f fd) (T : Tx K mg C) : FnOk P w K mg base CX0 (2 + 1) f fd ["size", "order"] (spP K S_isord) := by
  refine fn_spc F sc_is_order (fun x => [some (.im (.int x.1.1)), some (bSlot x.2 (x.1.2.map D.int))]) fun cdv A outer s H E hr => ?_
  refine ⟨_, (ss_one (s_ret (px_eq hr (bx (px_f (fx_sortedQ hr rfl T.sorted (bx_var 1)))) (bx (px_f (fx_listRg rfl rfl T.list rfl T.range (bx px_int) (bx (px_add (bx_var 0) (bx px_int))))))))), ?_⟩
  rintro ⟨⟨n, o⟩, b⟩ R ⟨ho, hn0, hn⟩ hR
  dsimp only at ho hn0 hn hR
  have fin : ∀ (Q : Prop), (R (.d (.bl (lineB n o))) → Q) → Q := fun Q h => h (hR _ rfl)
  cases b <;> (
    unfold bSlot
    walk_at "r"
    refine ⟨ints59 o, ints_alk o, RgOk.of_le (by decide) (by omega) (by decide) (by omega), ?_⟩
    rw [sort_ints, eqD_ints]
    exact ⟨sh60_ints _, hR _ rfl⟩)
/-! ### broken -/
theorem enumD_ints (o : List Int) : enumD (o.map D.int) = o.zipIdx.map fun p => .tup [.int p.2, .int p.1] := by
  unfold enumD
  rw [List.zipIdx_map, List.map_map]
  rfl
def placeE (o : List Int) : List (Key × D) := putAll [] (o.zipIdx.map fun p => (Sum.inl p.1, D.int p.2))
theorem valG_put {κ β : Type} [DecidableEq κ] (es : List (κ × β)) (k j : κ) (d : β) : valG (putG es k d) j = if k = j then some d else valG es j := by
  unfold putG
  split
  · rename_i h
    induction es with
    | nil => simp at h
    | cons p es ih =>
      rw [List.map_cons, valG_cons, valG_cons]
      by_cases hp : p.1 = k
      · by_cases hj : k = j
        · subst hj
          simp [hp]
        · have hpj : ¬ p.1 = j := fun z => hj (hp.symm.trans z)
          simp only [hp, if_true, if_neg hj]
          have rest : valG (es.map fun kv => if kv.1 = k then (kv.1, d) else kv) j = valG es j := by
            clear ih h
            induction es with
            | nil => rfl
            | cons q es ih =>
              rw [List.map_cons, valG_cons, valG_cons, ih]
              by_cases hq : q.1 = k
              · have hqj : ¬ q.1 = j := fun z => hj (hq.symm.trans z)
                simp [hq, hj]
              · simp [hq]
          rw [rest]
      · have h' : (es.any fun kv => decide (kv.1 = k)) = true := by simpa [List.any_cons, hp] using h
        rw [if_neg hp, ih h']
        by_cases hj : k = j
        · subst hj
          simp [hp]
        · simp [hj]
  · rename_i h
    have app : ∀ (es es' : List (κ × β)), valG (es ++ es') j = (valG es j).or (valG es' j) := fun es es' => by
      induction es with
      | nil => simp [valG]
      | cons p es ih =>
        rw [List.cons_append, valG_cons, valG_cons, ih]
        split <;> rfl
    rw [app, valG_cons]
    by_cases hj : k = j
    · subst hj
      have hn : valG es k = none := by
        unfold valG
        rw [Option.map_eq_none_iff, List.find?_eq_none]
        intro x hx z
        refine h (List.any_eq_true.mpr ⟨x, hx, z⟩)
      rw [hn]
      simp
    · rw [if_neg hj, if_neg hj]
      cases valG es j <;> rfl
theorem place_get {o : List Int} (nd : o.Nodup) {v : Int} (hv : v ∈ o) : valG (placeE o) (Sum.inl v) = some (.int (o.idxOf v)) := by
  have gen : ∀ (o : List Int) (k : Nat) (es : List (Key × D)), valG (putAll es ((o.zipIdx k).map fun p => ((Sum.inl p.1 : Key), D.int p.2))) (Sum.inl v) = if v ∈ o ∧ o.Nodup then some (.int ((k + o.idxOf v : Nat) : Int)) else if v ∈ o then valG (putAll es ((o.zipIdx k).map fun p => ((Sum.inl p.1 : Key), D.int p.2))) (Sum.inl v) else valG es (Sum.inl v) := by
    intro o
    induction o with
    | nil => intro k es; simp [putAll]
    | cons x o ih =>
      intro k es
      have e : putAll es (((x :: o).zipIdx k).map fun p => ((Sum.inl p.1 : Key), D.int p.2)) = putAll (putG es (Sum.inl x) (D.int k)) ((o.zipIdx (k + 1)).map fun p => ((Sum.inl p.1 : Key), D.int p.2)) := by
        rw [List.zipIdx_cons]
        rfl
      by_cases hnd : (x :: o).Nodup
      · obtain ⟨n1, n2⟩ := List.nodup_cons.mp hnd
        rw [e, ih]
        by_cases hx : x = v
        · subst hx
          rw [if_neg (fun z => n1 z.1), if_neg n1, valG_put, if_pos rfl, if_pos ⟨List.mem_cons_self, hnd⟩]
          simp
        · by_cases hvo : v ∈ o
          · have hx2 : (x == v) = false := by simpa using hx
            rw [if_pos ⟨hvo, n2⟩, if_pos ⟨List.mem_cons_of_mem _ hvo, hnd⟩, List.idxOf_cons, hx2]
            simp only [cond_false]
            congr 2
            omega
          · have hvx : v ∉ x :: o := fun z => (List.mem_cons.mp z).elim (fun q => hx q.symm) hvo
            rw [if_neg (fun z => hvo z.1), if_neg hvo, valG_put, if_neg (fun z => hx (Sum.inl.inj z)), if_neg (fun z => hvx z.1), if_neg hvx]
      · rw [if_neg (fun z => hnd z.2)]
        by_cases hm : v ∈ x :: o
        · rw [if_pos hm]
        · rw [if_neg hm, e, ih]
          have hvo : v ∉ o := fun z => hm (List.mem_cons_of_mem _ z)
          have hx : ¬ x = v := fun z => hm (by rw [z]; exact List.mem_cons_self)
          rw [if_neg (fun z => hvo z.1), if_neg hvo, valG_put, if_neg (fun z => hx (Sum.inl.inj z))]
  have := gen o 0 []
  rw [if_pos ⟨hv, nd⟩] at this
  unfold placeE
  rw [this]
  simp
def brokenL (A : List (Int × Int)) (o : List Int) : List (Int × Int) := A.filter fun p => decide (o.idxOf p.2 < o.idxOf p.1)
abbrev s_broken : Stmt := top 6
abbrev N_broken : List Str := ["graph", "order", "place", "at", "node", "x", "y"]
theorem sc_broken : FnScope N_broken ["graph", "order"] (defScope s_broken) := ⟨rfl, rfl, rfl, by decide +kernel, rfl, by decide +kernel, by decide +kernel⟩
def S_broken (C Co : Addr) : SPX := spcX (α := ((Int × List (Int × Int)) × List Int) × Bool) (fun x => [.im (grD C x.1.1.1 x.1.1.2), bSlot x.2 (x.1.2.map D.int)]) (fun x => x.1.1.2.length ≤ 500 ∧ 0 ≤ x.1.1.1 ∧ x.1.1.1 ≤ 500 ∧ GOk x.1.1.1 x.1.1.2 ∧ x.1.2.length ≤ 500)
  (fun x r => IsLine x.1.1.1 x.1.2 ∧ r = .fl ((brokenL x.1.1.2 x.1.2).map prD)) fun x C fs => ¬ IsLine x.1.1.1 x.1.2 ∧ C = Co ∧ fs = [(("listing" : Str), .tup (x.1.2.map D.int))]
theorem ok_broken (F : FD K "broken" "broken" s_broken [] f fd) (T : Tx K mg C) (T2 : TxE P K mg Ca Co fA fO) (D_is_order : Df P w K mg base "is_order" 3 (spP K S_isord)) : FnOk P w K mg base (L2.CX P w) (3 + 1) f fd ["graph", "order"] (spX K (S_broken C Co)) := by
  refine fn_spcX F sc_broken (fun x => [some (.im (grD C x.1.1.1 x.1.1.2)), some (bSlot x.2 (x.1.2.map D.int)), none, none, none, none, none]) fun cdv A outer s H E hr => ?_
  refine ⟨_, (ss_cons (s_if (tx_not (tx_tru (bx (px_call D_is_order (hr.mono (by decide)) (ax_i (px_fld T.cl T.n_size (bx_var 0)) (ax_b (bx_var 1) ax_nil)))))) (ss_one (s_raise rfl (takes_of rfl rfl rfl rfl) T2.eO hr (as_cons (px_tuple rfl T.tuple (bx_var 1)) as_nil))) ss_nil)
      (ss_cons (s_asg (i := 2) sc_broken.nd (px_dc (own := [("at", 3), ("node", 4)]) rfl sc_broken.nd (ib_o (io_en 1 rfl T.enumerate)) (blkOk_by (N := N_broken) (sc := defScope s_broken) (by decide +kernel)) (fun _ _ _ _ _ => (gx_tup (n := 2) rfl (gx_cons (gx_name (i := 3) sc_broken.nd) (gx_cons (gx_name (i := 4) sc_broken.nd) gx_nil)))) (fun _ _ _ _ _ => tts_nil) (fun _ _ _ _ _ => (px_var 4)) (fun _ _ _ _ _ => (px_var 3))))
      (ss_one (s_retF (fx_lc (own := [("x", 5), ("y", 6)]) rfl sc_broken.nd (ib (il_tup (px_fld T.cl T.n_arrows (bx_var 0)))) (blkOk_by (N := N_broken) (sc := defScope s_broken) (by decide +kernel)) (fun _ _ _ _ _ => (gx_tup (n := 2) rfl (gx_cons (gx_name (i := 5) sc_broken.nd) (gx_cons (gx_name (i := 6) sc_broken.nd) gx_nil)))) (fun _ _ _ _ _ => (tts_one (tx_lt (bx (px_dget hr (bx_var 2) (bx_var 6))) (bx (px_dget hr (bx_var 2) (bx_var 5)))))) (fun _ _ _ _ _ => (px_tup (as_cons (px_var 5) (as_cons (px_var 6) as_nil))))))))), ?_⟩
  rintro ⟨⟨⟨n, A⟩, o⟩, b⟩ R F' ⟨hA, hn0, hn, ok, ho⟩ hR hX
  dsimp only at hA hn0 hn ok ho hR hX
  walk_at "s"
  refine sIf_by (!lineB n o) (fun Q hQ => ?_) (fun hb => ?_) fun hb => ?_
  · walk_at "r"
    refine ⟨((n, o), b), by cases b <;> rfl, ⟨ho, hn0, hn⟩, ?_⟩
    rintro _ rfl
    exact hQ
  · have hl : ¬ IsLine n o := fun z => by rw [lineB_iff.mpr z] at hb; cases hb
    cases b <;> (unfold bSlot; walk_at "r"; exact hX _ _ ⟨hl, rfl, rfl⟩)
  · have hl : IsLine n o := lineB_iff.mp (by simpa using hb)
    walk_at "r"
    refine iSq_b (b := b) rfl ?_
    rw [enumD_ints]
    refine dcb (fun p => some (Sum.inl p.1, .int p.2)) (by rw [List.length_zipIdx]; exact sz (by omega)) (fun p _ => ?_) ?_
    · walk_at "r"
      exact ⟨fun _ => ⟨_, rfl, rfl⟩, fun z => (by cases z)⟩
    · rw [List.filterMap_eq_map']
      have e : putAll [] (o.zipIdx.map fun p => ((Sum.inl p.1 : Key), D.int p.2)) = placeE o := rfl
      rw [e]
      walk_at "r"
      refine lcbF (fun p => decide (o.idxOf p.2 < o.idxOf p.1)) prD (sz (by omega)) (fun p hp => ?_) (hR _ ⟨hl, rfl⟩)
      obtain ⟨h1, h2, _⟩ := ok p hp
      have g1 := place_get hl.1 ((hl.2 _).mpr h1)
      have g2 := place_get hl.1 ((hl.2 _).mpr h2)
      walk_at "r"
      simp only [g1, g2]
      have ec : decide ((o.idxOf p.2 : Int) < (o.idxOf p.1 : Int)) = decide (o.idxOf p.2 < o.idxOf p.1) := by
        rw [decide_eq_decide]
        omega
      rw [ec]
      exact ⟨fun h => ⟨by decide, by rw [if_pos h]⟩, fun h => by rw [if_neg (by rw [h]; decide)]⟩
/-! ### keeps -/
theorem eqD_nil {l : List D} : eqD (.lst l) (.lst []) = l.isEmpty := by
  cases l <;> rfl
theorem idx_inj {o : List Int} {x y : Int} (hx : x ∈ o) (h : o.idxOf x = o.idxOf y) (hy : y ∈ o) : x = y := by
  have h1 := List.getElem_idxOf (List.idxOf_lt_length_of_mem hx)
  have h2 := List.getElem_idxOf (List.idxOf_lt_length_of_mem hy)
  rw [← h1, ← h2]
  congr 1
theorem broken_kept {n : Int} {A : List (Int × Int)} {o : List Int} (ok : GOk n A) (hl : IsLine n o) : (brokenL A o).isEmpty = keptB A o := by
  unfold brokenL keptB
  rw [Bool.eq_iff_iff, List.isEmpty_iff, List.filter_eq_nil_iff, List.all_eq_true]
  constructor
  · intro h p hp
    obtain ⟨h1, h2, h3⟩ := ok p hp
    have z := h p hp
    rw [decide_eq_true_eq] at z ⊢
    have : o.idxOf p.1 ≠ o.idxOf p.2 := fun e => h3 (idx_inj ((hl.2 _).mpr h1) e ((hl.2 _).mpr h2))
    omega
  · intro h p hp
    have z := h p hp
    rw [decide_eq_true_eq] at z ⊢
    omega
abbrev s_keeps : Stmt := top 7
abbrev N_keeps : List Str := ["graph", "order"]
theorem sc_keeps : FnScope N_keeps ["graph", "order"] (defScope s_keeps) := ⟨rfl, rfl, rfl, by decide +kernel, rfl, by decide +kernel, by decide +kernel⟩
def S_keeps (C Co : Addr) : SPX := spcX (α := ((Int × List (Int × Int)) × List Int) × Bool) (fun x => [.im (grD C x.1.1.1 x.1.1.2), bSlot x.2 (x.1.2.map D.int)]) (fun x => x.1.1.2.length ≤ 500 ∧ 0 ≤ x.1.1.1 ∧ x.1.1.1 ≤ 500 ∧ GOk x.1.1.1 x.1.1.2 ∧ x.1.2.length ≤ 500)
  (fun x r => IsLine x.1.1.1 x.1.2 ∧ r = .d (.bl (keptB x.1.1.2 x.1.2))) fun x C fs => ¬ IsLine x.1.1.1 x.1.2 ∧ C = Co ∧ fs = [(("listing" : Str), .tup (x.1.2.map D.int))]
theorem ok_keeps (F : FD K "keeps" "keeps" s_keeps [] f fd) (T : Tx K mg C) (T2 : TxE P K mg Ca Co fA fO) (D_broken : DfX P w K mg base "broken" 4 (spX K (S_broken C Co))) : FnOk P w K mg base (L2.CX P w) (4 + 1) f fd ["graph", "order"] (spX K (S_keeps C Co)) := by
  refine fn_spcX F sc_keeps (fun x => [some (.im (grD C x.1.1.1 x.1.1.2)), some (bSlot x.2 (x.1.2.map D.int))]) fun cdv A outer s H E hr => ?_
  refine ⟨_, (ss_one (s_retZ (z_cmp (op_eqD hr.units) does_eq (zx_r (z_callX (takes_of rfl rfl rfl rfl) D_broken (hr.mono (by decide)) (ax_i (px_var 0) (ax_b (bx_var 1) ax_nil)))) (zx (px_f (fx_lst as_nil)))))), ?_⟩
  rintro ⟨⟨⟨n, A⟩, o⟩, b⟩ R F' ⟨hA, hn0, hn, ok, ho⟩ hR hX
  dsimp only at hA hn0 hn ok ho hR hX
  walk_at "r"
  refine ⟨(((n, A), o), b), by cases b <;> rfl, ⟨hA, hn0, hn, ok, ho⟩, ?_, hX⟩
  rintro _ ⟨hl, rfl⟩
  simp only [Rs.dat]
  refine ⟨by decide, sh_prs60 _, by decide, ?_⟩
  rw [eqD_nil, List.isEmpty_map, broken_kept ok hl]
  exact hR _ ⟨hl, rfl⟩
end
end Kb
set_option Elab.async false
set_option linter.all false
set_option maxRecDepth 100000
set_option maxHeartbeats 1000000
namespace Kb
open PySem L2
set_option autoImplicit false
local macro_rules | `(tactic| walk_at "r") => `(tactic| try simp only [sSeq, sNext, sRet, sRetF, sRetO, sAsg, sAsgF, sAsgM, sAsgR, rCl, rMe, sRetM, sIf, sIfM, sDrop, sDropM, sUnp, sAug, sFor, sForM, sApp, sSetI, sDPu, sDPuT, sDNew, sDNewT, sDOne, sFldI, sBreak, sCont, fLc, xDc, xF, xVar, bVar, xC, x2, b2, fAdd, fI, fI0, fB0, fEq, fNe, fIn, fIs, fIsNot, D.isN, xNeg, bTru, bNot, bAnd, bOr, bCh, xAnd, xOr, xNot, xIfE, xFld, fIx, fSl, oNo, oSo, aNil, aCons, xTup, fLst, fCat, xCall, fCall, fLen, fAbs, fInt, fList, fTuple, fIsi, D.ty, fAny, fSrt, fMin, xIdx, fSS, fDIn, xDGet, xDGetT, keyD, keysD, gN, gsN, gsC, gTu, iL, iT, iR1, iR2, iR3, iR1M, bYes, wipeE, free, Slot.ad, Slot.dat, Slot.par, axNil, axI, axB, xCl, fCl, xMe, fMe, xMk, fGen, mP, m2, bm2, mCl, mTup, mLst, mSS, amNil, amCons, gPlain, gThen, gNil, gYield, zP, zM, zTP, zD, z2, bz2, zTru, zNot, zAnd, zOr, zNil, zCons, zTup, zLst, zCl, zClX, zFld, zMkS, sAsgZ, sRetZ, sIfZ, sDropZ, sRaise, sTry, sRetR, sRetV, sRetMF, mF, mLc, iP, xR, fR, xClF, rMe0, fLRg, fSrtQ, iEnV, xEFld, fIsX, cvV, grD, prD, lk_arrows, lk_size, eqD_int, sh_int, sh60_ints, inL_ints,
  List.map_cons, List.map_nil, List.length_cons, List.length_nil, List.getElem?_cons_succ, List.getElem?_cons_zero, List.set_cons_succ, List.set_cons_zero, List.cons_append, List.nil_append, Option.isNone_none, Option.map_some, Option.map_none, true_and, and_true, if_true, if_false, rngD_ints, Int.add_sub_cancel, Bool.false_eq_true, List.length_map])
local macro_rules | `(tactic| walk_at "s") => `(tactic| try simp only [sSeq, sNext, sRet, sRetF, sRetO, sAsg, sAsgF, sAsgM, sAsgR, rCl, rMe, sRetM, sDrop, sDropM, sUnp, sAug, sFor, sForM, sApp, sSetI, sDPu, sDPuT, sDNew, sDNewT, sDOne, sFldI, sBreak, sCont, fLc, xDc, xF, xVar, bVar, xC, x2, b2, fAdd, fI, fI0, fB0, fEq, fNe, fIn, fIs, fIsNot, D.isN, xNeg, bTru, bNot, bAnd, bOr, bCh, xAnd, xOr, xNot, xIfE, xFld, fIx, fSl, oNo, oSo, aNil, aCons, xTup, fLst, fCat, xCall, fCall, fLen, fAbs, fInt, fList, fTuple, fIsi, D.ty, fAny, fSrt, fMin, xIdx, fSS, fDIn, xDGet, xDGetT, keyD, keysD, gN, gsN, gsC, gTu, iL, iT, iR1, iR2, iR3, iR1M, bYes, wipeE, free, Slot.ad, Slot.dat, Slot.par, axNil, axI, axB, xCl, fCl, xMe, fMe, xMk, fGen, mP, m2, bm2, mCl, mTup, mLst, mSS, amNil, amCons, gPlain, gThen, gNil, gYield, zP, zM, zTP, zD, z2, bz2, zTru, zNot, zAnd, zOr, zNil, zCons, zTup, zLst, zCl, zClX, zFld, zMkS, sAsgZ, sRetZ, sDropZ, sRaise, sTry, sRetR, sRetV, sRetMF, mF, mLc, iP, xR, fR, xClF, rMe0, fLRg, fSrtQ, iEnV, xEFld, fIsX, cvV, grD, prD, lk_arrows, lk_size, eqD_int, sh_int, sh60_ints, inL_ints,
  List.map_cons, List.map_nil, List.length_cons, List.length_nil, List.getElem?_cons_succ, List.getElem?_cons_zero, List.set_cons_succ, List.set_cons_zero, List.cons_append, List.nil_append, Option.isNone_none, Option.map_some, Option.map_none, true_and, and_true, if_true, if_false, rngD_ints, Int.add_sub_cancel, Bool.false_eq_true, List.length_map])
/-! ### rings by simple ways -/
def stepS (n : Int) (A : List (Int × Int)) (o : List Int) : List (List Int) := (((nodes n).filter fun v => A.contains (lastI o, v)).filter fun v => !o.contains v).map fun v => o ++ [v]
def simpX (n : Int) (A : List (Int × Int)) : Nat → Int → List (List Int)
  | 0, v => [[v]]
  | t + 1, v => (simpX n A t v).flatMap (stepS n A)
def closeB (A : List (Int × Int)) (v : Int) (o : List Int) : Bool := A.contains (lastI o, v)
def clF (n : Int) (A : List (Int × Int)) (t : Nat) (v : Int) : Option (List Int) := (simpX n A t v).find? (closeB A v)
theorem simp_mem {n : Int} {A : List (Int × Int)} {v : Int} : ∀ (t : Nat) (o : List Int), o ∈ simpX n A t v → v ∈ o ∧ o.length = t + 1 ∧ o.head? = some v
  | 0, o, h => by
    simp [simpX] at h
    subst h
    exact ⟨List.mem_singleton.mpr rfl, rfl, rfl⟩
  | t + 1, o, h => by
    obtain ⟨q, hq, ho⟩ := List.mem_flatMap.mp (show o ∈ (simpX n A t v).flatMap (stepS n A) from h)
    obtain ⟨h1, h2, h3⟩ := simp_mem t q hq
    unfold stepS at ho
    obtain ⟨x, _, rfl⟩ := List.mem_map.mp ho
    refine ⟨List.mem_append_left _ h1, by simp [h2], ?_⟩
    cases q with
    | nil => cases h1
    | cons a q => exact h3
theorem flat_congr {α β : Type} {f g : α → List β} : ∀ {l : List α}, (∀ x ∈ l, f x = g x) → l.flatMap f = l.flatMap g
  | [], _ => rfl
  | x :: l, h => by rw [List.flatMap_cons, List.flatMap_cons, h x List.mem_cons_self, flat_congr fun y hy => h y (List.mem_cons_of_mem _ hy)]
theorem ext_simp {n : Int} {A : List (Int × Int)} {v : Int} : ∀ (t : Nat), (∀ j, j < t → clF n A j v = none) → extW n A v t [v] = simpX n A t v
  | 0, _ => rfl
  | t + 1, h => by
    rw [← extW_back, ext_simp t fun j hj => h j (by omega)]
    show _ = (simpX n A t v).flatMap (stepS n A)
    refine flat_congr fun o ho => ?_
    have hc : closeB A v o = false := find_none_of (h t (by omega)) o ho
    unfold stepW stepS
    congr 1
    refine List.filter_congr fun w hw => ?_
    have hw2 := (List.mem_filter.mp hw).2
    by_cases e : w = v
    · subst e
      unfold closeB at hc
      rw [hc] at hw2
      cases hw2
    · have : (w == v) = false := by simpa using e
      rw [this, Bool.false_or]
theorem findSome_map {α β : Type} {p : α → Bool} {f : α → β} : ∀ (l : List α), l.findSome? (fun a => if p a then some (f a) else none) = (l.find? p).map f
  | [] => rfl
  | a :: l => by
    rw [List.findSome?_cons, List.find?_cons]
    cases p a with
    | true => rfl
    | false => exact findSome_map l
theorem findSome_congr {α β : Type} {f g : α → Option β} : ∀ {l : List α}, (∀ x ∈ l, f x = g x) → l.findSome? f = l.findSome? g
  | [], _ => rfl
  | a :: l, h => by
    rw [List.findSome?_cons, List.findSome?_cons, h a List.mem_cons_self, findSome_congr fun y hy => h y (List.mem_cons_of_mem _ hy)]
theorem step_find {n : Int} {A : List (Int × Int)} {v : Int} (hv : v ∈ nodes n) (o : List Int) : (stepW n A v o).find? (endsB v) = if closeB A v o then some (o ++ [v]) else none := by
  unfold stepW
  rw [List.find?_map]
  have ec : (endsB v ∘ fun w => o ++ [w]) = fun w => w == v := by
    funext w
    show endsB v (o ++ [w]) = _
    unfold endsB
    rw [lastI_app]
  rw [ec]
  cases hc : closeB A v o with
  | true =>
    have hm : v ∈ (((nodes n).filter fun w => A.contains (lastI o, w)).filter fun w => w == v || !o.contains w) := List.mem_filter.mpr ⟨List.mem_filter.mpr ⟨hv, hc⟩, by simp⟩
    cases hf : List.find? (fun w => w == v) (((nodes n).filter fun w => A.contains (lastI o, w)).filter fun w => w == v || !o.contains w) with
    | none =>
      have := find_none_of hf v hm
      simp at this
    | some w =>
      have := List.find?_some hf
      have e : w = v := by simpa using this
      subst e
      rfl
  | false =>
    have hf : List.find? (fun w => w == v) (((nodes n).filter fun w => A.contains (lastI o, w)).filter fun w => w == v || !o.contains w) = none := by
      rw [List.find?_eq_none]
      intro w hw hz
      have e : w = v := by simpa using hz
      subst e
      have := (List.mem_filter.mp (List.mem_filter.mp hw).1).2
      unfold closeB at hc
      rw [hc] at this
      cases this
    rw [hf]
    rfl
theorem ext_find {n : Int} {A : List (Int × Int)} {v : Int} (hv : v ∈ nodes n) {t : Nat} (h : ∀ j, j < t → clF n A j v = none) : (extW n A v (t + 1) [v]).find? (endsB v) = (clF n A t v).map (· ++ [v]) := by
  rw [← extW_back, ext_simp t h, List.find?_flatMap, findSome_congr fun o _ => step_find hv o, findSome_map]
  rfl
theorem cl_some {n : Int} {A : List (Int × Int)} {v : Int} (ok : GOk n A) (srt : Srt A) (hv : v ∈ nodes n) {t : Nat} {q : List Int} (h : ∀ j, j < t → clF n A j v = none) (hq : clF n A t v = some q) : PathIs A v v (some (q ++ [v])) ∧ q.length = t + 1 := by
  refine ⟨path_some ok srt (t := t) (by rw [ext_find hv h, hq]; rfl) fun j h1 h2 => ?_, (simp_mem t q (List.mem_of_find?_eq_some hq)).2.1⟩
  obtain ⟨k, rfl⟩ : ∃ k, j = k + 1 := ⟨j - 1, by omega⟩
  rw [ext_find hv fun i hi => h i (by omega), h k (by omega)]
  rfl
theorem cl_none {n : Int} {A : List (Int × Int)} {v : Int} (ok : GOk n A) (srt : Srt A) (hv : v ∈ nodes n) (h : ∀ j, j < n.toNat → clF n A j v = none) : PathIs A v v none := by
  refine path_none ok srt fun j h1 h2 => ?_
  obtain ⟨k, rfl⟩ : ∃ k, j = k + 1 := ⟨j - 1, by omega⟩
  rw [ext_find hv fun i hi => h i (by omega), h k (by omega)]
  rfl
/-- each node: its first closing, or none -/
theorem cl_cases {n : Int} {A : List (Int × Int)} {v : Int} (ok : GOk n A) (srt : Srt A) (hv : v ∈ nodes n) : (∃ t q, t < n.toNat ∧ (∀ j, j < t → clF n A j v = none) ∧ clF n A t v = some q ∧ PathIs A v v (some (q ++ [v])) ∧ q.length = t + 1) ∨ (∀ j, j < n.toNat → clF n A j v = none) ∧ PathIs A v v none := by
  have go : ∀ m : Nat, m ≤ n.toNat → (∃ t q, t < m ∧ (∀ j, j < t → clF n A j v = none) ∧ clF n A t v = some q) ∨ ∀ j, j < m → clF n A j v = none := by
    intro m
    induction m with
    | zero => exact fun _ => .inr fun j hj => absurd hj (by omega)
    | succ m ih =>
      intro hm
      rcases ih (by omega) with ⟨t, q, h1, h2, h3⟩ | h
      · exact .inl ⟨t, q, by omega, h2, h3⟩
      · cases hc : clF n A m v with
        | some q => exact .inl ⟨m, q, by omega, h, hc⟩
        | none =>
          refine .inr fun j hj => ?_
          rcases Nat.lt_or_eq_of_le (Nat.le_of_lt_succ hj) with z | z
          · exact h j z
          · rw [z]; exact hc
  rcases go n.toNat (Nat.le_refl _) with ⟨t, q, h1, h2, h3⟩ | h
  · obtain ⟨p, l⟩ := cl_some ok srt hv h2 h3
    exact .inl ⟨t, q, h1, h2, h3, p, l⟩
  · exact .inr ⟨h, cl_none ok srt hv h⟩
/-! ### the best of the ways around -/
def BestIs (A : List (Int × Int)) (pre : List Int) : Option (List Int) → Prop
  | none => ∀ v ∈ pre, PathIs A v v none
  | some q => ∃ v ∈ pre, ∃ p, PathIs A v v (some p) ∧ q = p.dropLast ∧ (∀ u ∈ pre, ∀ p', PathIs A u u (some p') → q.length ≤ p'.length - 1) ∧ ∀ u ∈ pre, u < v → ∀ p', PathIs A u u (some p') → q.length < p'.length - 1
theorem best_skip {A : List (Int × Int)} {pre : List Int} {b : Option (List Int)} {x : Int} (h : BestIs A pre b) (hlt : ∀ u ∈ pre, u < x) {o : Option (List Int)} (ho : PathIs A x x o) (hno : ∀ p, o = some p → ∃ q, b = some q ∧ q.length ≤ p.length - 1) : BestIs A (pre ++ [x]) b := by
  cases b with
  | none =>
    intro v hv
    rcases List.mem_append.mp hv with hv | hv
    · exact h v hv
    · rw [List.mem_singleton.mp hv]
      cases o with
      | none => exact ho
      | some p => obtain ⟨q, z, _⟩ := hno p rfl; cases z
  | some q =>
    obtain ⟨v, hv, p, h1, h2, h3, h4⟩ := h
    refine ⟨v, List.mem_append_left _ hv, p, h1, h2, fun u hu p' hp' => ?_, fun u hu hl p' hp' => ?_⟩
    · rcases List.mem_append.mp hu with hu | hu
      · exact h3 u hu p' hp'
      · rw [List.mem_singleton.mp hu] at hp'
        have e := pathIs_uniq ho hp'
        obtain ⟨q', z, hl⟩ := hno p' e
        cases z
        exact hl
    · rcases List.mem_append.mp hu with hu | hu
      · exact h4 u hu hl p' hp'
      · rw [List.mem_singleton.mp hu] at hl
        have := hlt v hv
        omega
theorem best_take {A : List (Int × Int)} {pre : List Int} {b : Option (List Int)} {x : Int} (h : BestIs A pre b) {p : List Int} (ho : PathIs A x x (some p)) (hb : ∀ q, b = some q → p.length - 1 < q.length) : BestIs A (pre ++ [x]) (some p.dropLast) := by
  have hle : ∀ u ∈ pre, ∀ p', PathIs A u u (some p') → p.length - 1 < p'.length - 1 := fun u hu p' hp' => by
    cases b with
    | none =>
      have e := pathIs_uniq (h u hu) hp'
      cases e
    | some q =>
      obtain ⟨v, hv, p2, h1, h2, h3, h4⟩ := h
      have z1 := h3 u hu p' hp'
      have z2 := hb q rfl
      omega
  refine ⟨x, List.mem_append_right _ (List.mem_singleton.mpr rfl), p, ho, rfl, fun u hu p' hp' => ?_, fun u hu hl p' hp' => ?_⟩
  · rw [List.length_dropLast]
    rcases List.mem_append.mp hu with hu | hu
    · exact Nat.le_of_lt (hle u hu p' hp')
    · rw [List.mem_singleton.mp hu] at hp'
      have e := pathIs_uniq ho hp'
      cases e
      exact Nat.le_refl _
  · rw [List.length_dropLast]
    rcases List.mem_append.mp hu with hu | hu
    · exact hle u hu p' hp'
    · rw [List.mem_singleton.mp hu] at hl
      omega
/-! ### the law's ring -/
def lawP (n : Int) (A : List (Int × Int)) (t : Nat) : List (List Int) := (nodes n).flatMap fun v => simpX n A t v
def lcB (A : List (Int × Int)) (o : List Int) : Bool := A.contains (lastI o, o.headD 0)
theorem lawP_find (n : Int) (A : List (Int × Int)) (t : Nat) : (lawP n A t).find? (lcB A) = (nodes n).findSome? (clF n A t) := by
  unfold lawP
  rw [List.find?_flatMap]
  refine findSome_congr fun v _ => ?_
  unfold clF
  have go : ∀ l : List (List Int), (∀ o ∈ l, o ∈ simpX n A t v) → l.find? (lcB A) = l.find? (closeB A v) := by
    intro l
    induction l with
    | nil => intro _; rfl
    | cons o l ih =>
      intro h
      have ho := (simp_mem t o (h o List.mem_cons_self)).2.2
      have e : lcB A o = closeB A v o := by
        unfold lcB closeB
        cases o with
        | nil => cases ho
        | cons a o =>
          have : a = v := Option.some.inj ho
          rw [List.headD_cons, this]
      rw [List.find?_cons, List.find?_cons, e, ih fun q hq => h q (List.mem_cons_of_mem _ hq)]
  exact go _ fun o h => h
def LRing (n : Int) (A : List (Int × Int)) (o : Option (List Int)) : Prop :=
  (∃ t q, t < n.toNat ∧ o = some q ∧ (lawP n A t).find? (lcB A) = some q ∧ ∀ j, j < t → (lawP n A j).find? (lcB A) = none) ∨ (o = none ∧ ∀ j, j < n.toNat → (lawP n A j).find? (lcB A) = none)
theorem fs_none {α β : Type} {f : α → Option β} : ∀ {l : List α}, l.findSome? f = none → ∀ x ∈ l, f x = none := fun h x hx => List.findSome?_eq_none_iff.mp h x hx
theorem fs_split {α β : Type} {f : α → Option β} {b : β} : ∀ {l : List α}, l.findSome? f = some b → ∃ l1 a l2, l = l1 ++ a :: l2 ∧ f a = some b ∧ ∀ x ∈ l1, f x = none
  | [], h => by cases h
  | a :: l, h => by
    rw [List.findSome?_cons] at h
    cases e : f a with
    | some c =>
      rw [e] at h
      cases h
      exact ⟨[], a, l, rfl, e, fun x hx => by cases hx⟩
    | none =>
      rw [e] at h
      obtain ⟨l1, c, l2, h1, h2, h3⟩ := fs_split h
      exact ⟨a :: l1, c, l2, by rw [h1]; rfl, h2, fun x hx => (List.mem_cons.mp hx).elim (fun z => by rw [z]; exact e) (h3 x)⟩
theorem ring_same {n : Int} {A : List (Int × Int)} (ok : GOk n A) (srt : Srt A) {b o : Option (List Int)} (hb : BestIs A (nodes n) b) (ho : LRing n A o) : b = o := by
  rcases ho with ⟨t, q, ht, rfl, hf, hn⟩ | ⟨rfl, hn⟩
  · rw [lawP_find] at hf
    obtain ⟨l1, v, l2, hl, hv, h1⟩ := fs_split hf
    have hvn : v ∈ nodes n := by rw [hl]; simp
    have hj : ∀ u ∈ nodes n, ∀ j, j < t → clF n A j u = none := fun u hu j hjt => fs_none (by rw [← lawP_find]; exact hn j hjt) u hu
    obtain ⟨pv, lq⟩ := cl_some ok srt hvn (hj v hvn) hv
    -- each other ring is as long at least
    have long : ∀ u ∈ nodes n, ∀ p', PathIs A u u (some p') → t + 1 ≤ p'.length - 1 ∧ (clF n A t u = none → t + 1 < p'.length - 1) := fun u hu p' hp' => by
      rcases cl_cases ok srt hu with ⟨t', q', h2, h3, h4, h5, h6⟩ | ⟨_, h5⟩
      · have e := pathIs_uniq hp' h5
        cases e
        have hle : t ≤ t' := by
          rcases Nat.lt_or_ge t' t with z | z
          · have := hj u hu t' z
            rw [h4] at this; cases this
          · exact z
        refine ⟨by simp; omega, fun hc => ?_⟩
        have hne : t ≠ t' := fun z => by rw [z, h4] at hc; cases hc
        simp; omega
      · have e := pathIs_uniq hp' h5
        cases e
    cases b with
    | none =>
      have e := pathIs_uniq (hb v hvn) pv
      cases e
    | some q2 =>
      obtain ⟨v2, hv2, p2, g1, g2, g3, g4⟩ := hb
      have len2 : q2.length = p2.length - 1 := by rw [g2, List.length_dropLast]
      have a1 := g3 v hvn _ pv
      simp at a1
      have a2 := long v2 hv2 p2 g1
      have srtn := nodes_sorted n
      have hvv : v2 = v := by
        rcases Int.lt_trichotomy v2 v with z | z | z
        · have hm : v2 ∈ l1 := by
            rw [hl] at hv2 srtn
            rcases List.mem_append.mp hv2 with q | q
            · exact q
            · exfalso
              rcases List.mem_cons.mp q with q | q
              · omega
              · have := (List.pairwise_cons.mp (List.pairwise_append.mp srtn).2.1).1 v2 q
                omega
          have := a2.2 (h1 v2 hm)
          omega
        · exact z
        · have := g4 v hvn z _ pv
          simp at this
          omega
      subst hvv
      have e := pathIs_uniq g1 pv
      cases e
      rw [g2]
      simp
  · cases b with
    | none => rfl
    | some q2 =>
      obtain ⟨v2, hv2, p2, g1, g2, g3, g4⟩ := hb
      have e := pathIs_uniq g1 (cl_none ok srt hv2 fun j hj => fs_none (by rw [← lawP_find]; exact hn j hj) v2 hv2)
      cases e
/-- there is no ring exactly if there is an order -/
theorem ring_order {n : Int} {A : List (Int × Int)} (ok : GOk n A) {b : Option (List Int)} (hb : BestIs A (nodes n) b) : b.isNone = true ↔ topT n A n.toNat [] ≠ [] := by
  constructor
  · intro h hz
    cases b with
    | some q => cases h
    | none =>
      obtain ⟨q, h1, h2⟩ := top_stuck n.toNat [] (by simp) hz
      obtain ⟨x, hx, L, h3, h4⟩ := stuck_cycle ok h1 h2
      rcases hb x hx with ⟨_, _, _, _, z⟩ | ⟨z, _⟩
      · cases z
      · rw [z L h3] at h4; cases h4
  · intro h
    cases b with
    | none => rfl
    | some q =>
      obtain ⟨v, hv, p, h1, _⟩ := hb
      obtain ⟨t, ht⟩ := List.exists_mem_of_ne_nil _ h
      rw [← good_eq ok] at ht
      obtain ⟨h2, h3⟩ := List.mem_filter.mp ht
      rcases h1 with ⟨L, a, b, _, _⟩ | ⟨_, z⟩
      · obtain ⟨k, rfl⟩ : ∃ k, L = k + 1 := ⟨L - 1, by omega⟩
        have := fwd_rk ok (lawOrd_line h2) h3 k v b
        omega
      · cases z
section
variable {P : Program} {w : World} {K : Frag} {mg : Str → Option Value} {base : Heap} {C Ca Co fA fO f : Addr} {fd : FuncData}
/-- a slot that holds None or a list of one's own -/
def optS (l : Addr) : Option (List Int) → Slot
  | none => .im .non
  | some q => .ml l (q.map D.int)
theorem cut_last (xs : List D) : cutD xs none (some (-1)) = xs.dropLast := by
  have e1 : HT.sIx xs.length 0 none = 0 := rfl
  have e2 : HT.sIx xs.length xs.length (some (-1)) = xs.length - 1 := by
    show (if (-1 : Int) < 0 then ((-1 : Int) + (xs.length : Int)).toNat else min (-1 : Int).toNat xs.length) = xs.length - 1
    rw [if_pos (by decide)]
    omega
  unfold cutD
  rw [e1, e2, List.dropLast_eq_take]
  rfl
abbrev s_Graph_ring : Stmt := inClass (top 12) 5
abbrev N_Graph_ring : List Str := ["self", "best", "node", "found"]
theorem sc_Graph_ring : FnScope N_Graph_ring ["self"] (defScope s_Graph_ring) := ⟨rfl, rfl, rfl, by decide +kernel, rfl, by decide +kernel, by decide +kernel⟩
def S_ring (C : Addr) : SP := spc (α := Int × List (Int × Int)) (fun x => [.im (grD C x.1 x.2)]) (fun x => x.2.length ≤ 500 ∧ 0 ≤ x.1 ∧ x.1 ≤ 900 ∧ GOk x.1 x.2 ∧ Srt x.2) fun x r => ∃ o, BestIs x.2 (nodes x.1) o ∧ (∀ p, o = some p → p.length ≤ 1000) ∧ r = optL o
theorem ok_ring (F : FD K "ring" "Graph.ring" s_Graph_ring [] f fd) (T : Tx K mg C) (D_Graph_path : Dm P w K mg base C "path" 6 (spP K (S_path C))) : FnOk P w K mg base CX0 (6 + 1) f fd ["self"] (spP K (S_ring C)) := by
  refine fn_spc F sc_Graph_ring (fun x => [some (.im (grD C x.1 x.2)), none, none, none]) fun cdv A outer s H E hr => ?_
  refine ⟨_, (ss_cons (s_asg (i := 1) sc_Graph_ring.nd px_non)
      (ss_cons (s_for PassesOwn.never rfl (il_r2 rfl T.range (aw_cons (bx px_int) (aw_cons (bx (px_add (bx (px_fld T.cl T.n_size (bx_var 0))) (bx px_int))) aw_nil))) (gx_name (i := 2) sc_Graph_ring.nd) (ss_cons (s_asgR (i := 3) sc_Graph_ring.nd (rx_meth T.cl D_Graph_path (hr.mono (by decide)) (px_var 0) (ax_i (px_var 2) (ax_i (px_var 2) ax_nil))))
      (ss_one (s_if (tx_w (tw_and (tx_isnot (bx_var 3) (bx px_non)) (tw_and1 (tx_w (tw_or (tx_is (bx_var 1) (bx px_non)) (tw_or1 (tx_lt (bx (px_sub (bx (px_len rfl T.len (bx_var 3))) (bx px_int))) (bx (px_len rfl T.len (bx_var 1)))))))))) (ss_one (s_asgF (i := 1) sc_Graph_ring.nd (fx_sl (bx_var 3) ox_no (ox_so (bx (px_neg (bx px_int))))))) ss_nil))))
      (ss_one (s_retV 1)))), ?_⟩
  rintro ⟨n, A⟩ R ⟨hA, hn0, hn, ok, srt⟩ hR
  dsimp only at hA hn0 hn ok srt hR
  walk_at "s"
  refine ⟨⟨by decide, by decide, by omega, by omega⟩, ?_⟩
  refine forb (fun pre Γ => ∃ (b : Option (List Int)) (l : Addr) (d2 : Option D) (o3 : Option (Option (List Int))) (l3 : Addr), Γ = [some (.im (grD C n A)), some (optS l b), d2.map Slot.im, o3.map (optS l3)] ∧ BestIs A pre b ∧ ∀ p, b = some p → p.length ≤ 1000) ⟨none, 0, none, none, 0, rfl, (fun v hv => by cases hv), fun p z => by cases z⟩ ?_ ?_
  · rintro pre x post Γ hx ⟨b, l, d2, o3, l3, rfl, hb, hbl⟩
    have hxn : x ∈ nodes n := by rw [show nodes n = _ from hx]; simp
    have hlt : ∀ u ∈ pre, u < x := fun u hu => by
      have z := nodes_sorted n
      rw [show nodes n = _ from hx] at z
      exact (List.pairwise_append.mp z).2.2 u hu x List.mem_cons_self
    walk_at "s"
    refine ⟨by cases d2 <;> rfl, rfl, ((n, A), x, x), rfl, ⟨hA, hn0, hn, ok, srt, hxn, hxn⟩, ?_⟩
    rintro _ ⟨o, ho, hol, rfl⟩
    cases o with
    | none =>
      show sIf _ _ _ _ _
      refine sIf_by false (fun Q hQ => ?_) (fun z => by cases z) fun _ => ?_
      · walk_at "r"
        exact ⟨fun z => (by cases z), fun _ => hQ⟩
      · exact ⟨b, l, some (.int x), some none, 0, rfl, best_skip hb hlt ho (fun p z => by cases z), hbl⟩
    | some p =>
      intro l9 hl9
      have hp1 : 1 ≤ p.length := by
        rcases ho with ⟨L, _, _, _, z⟩ | ⟨_, z⟩
        · cases z
          cases L <;> simp [wayP]
        · cases z
      have hcut : cutD (p.map D.int) none (some (-1)) = p.dropLast.map D.int := by rw [cut_last, List.map_dropLast]
      have yes : (∀ q, b = some q → p.length - 1 < q.length) → BestIs A (pre ++ [x]) (some p.dropLast) ∧ ∀ q, some p.dropLast = some q → q.length ≤ 1000 := fun h => ⟨best_take hb ho h, fun q z => by
        cases z
        rw [List.length_dropLast]
        have := hol p rfl
        omega⟩
      cases b with
      | none =>
        refine sIf_by true (fun Q hQ => ?_) (fun _ => ?_) fun z => (by cases z)
        · show (bAnd _ _) _ _
          have e : optS l none = .im .non := rfl
          rw [e]
          walk_at "r"
          exact ⟨fun _ => ⟨fun _ => hQ, fun z => (by cases z)⟩, fun z => (by cases z)⟩
        · walk_at "r"
          intro l1 _
          rw [hcut]
          obtain ⟨y1, y2⟩ := yes (fun q z => by cases z)
          exact ⟨some p.dropLast, l1, some (.int x), some (some p), l9, rfl, y1, y2⟩
      | some q =>
        refine sIf_by (decide ((p.length : Int) - 1 < (q.length : Int))) (fun Q hQ => ?_) (fun hc => ?_) fun hc => ?_
        · have e : optS l (some q) = .ml l (q.map D.int) := rfl
          rw [e]
          walk_at "r"
          exact ⟨fun _ => ⟨fun z => (by cases z), fun _ => hQ⟩, fun z => (by cases z)⟩
        · walk_at "r"
          intro l1 _
          rw [hcut]
          have hc' := of_decide_eq_true hc
          obtain ⟨y1, y2⟩ := yes (fun q z => by cases z; omega)
          exact ⟨some p.dropLast, l1, some (.int x), some (some p), l9, rfl, y1, y2⟩
        · have hc' := of_decide_eq_false hc
          exact ⟨some q, l, some (.int x), some (some p), l9, rfl, best_skip hb hlt ho (fun p' z => by cases z; exact ⟨q, rfl, by omega⟩), hbl⟩
  · rintro Γ ⟨b, l, d2, o3, l3, rfl, hb, hbl⟩
    cases b <;> (unfold optS; walk_at "r"; exact hR _ ⟨_, hb, hbl, rfl⟩)
end
end Kb
set_option Elab.async false
set_option linter.all false
set_option maxRecDepth 100000
set_option maxHeartbeats 1000000
namespace Kb
open PySem L2
set_option autoImplicit false
local macro_rules | `(tactic| walk_at "r") => `(tactic| try simp only [sSeq, sNext, sRet, sRetF, sRetO, sAsg, sAsgF, sAsgM, sAsgR, rCl, rMe, sRetM, sIf, sIfM, sDrop, sDropM, sUnp, sAug, sFor, sForM, sApp, sSetI, sDPu, sDPuT, sDNew, sDNewT, sDOne, sFldI, sBreak, sCont, fLc, xDc, xF, xVar, bVar, xC, x2, b2, fAdd, fI, fI0, fB0, fEq, fNe, fIn, fIs, fIsNot, D.isN, xNeg, bTru, bNot, bAnd, bOr, bCh, xAnd, xOr, xNot, xIfE, xFld, fIx, fSl, oNo, oSo, aNil, aCons, xTup, fLst, fCat, xCall, fCall, fLen, fAbs, fInt, fList, fTuple, fIsi, D.ty, fAny, fSrt, fMin, xIdx, fSS, fDIn, xDGet, xDGetT, keyD, keysD, gN, gsN, gsC, gTu, iL, iT, iR1, iR2, iR3, iR1M, bYes, wipeE, free, Slot.ad, Slot.dat, Slot.par, axNil, axI, axB, xCl, fCl, xMe, fMe, xMk, fGen, mP, m2, bm2, mCl, mTup, mLst, mSS, amNil, amCons, gPlain, gThen, gNil, gYield, zP, zM, zTP, zD, z2, bz2, zTru, zNot, zAnd, zOr, zNil, zCons, zTup, zLst, zCl, zClX, zFld, zMkS, sAsgZ, sRetZ, sIfZ, sDropZ, sRaise, sTry, sRetR, sRetV, sRetMF, mF, mLc, iP, xR, fR, xClF, rMe0, fLRg, fSrtQ, iEnV, xEFld, fIsX, cvV, grD, prD, lk_arrows, lk_size, eqD_int, sh_int, sh60_ints, inL_ints,
  List.map_cons, List.map_nil, List.length_cons, List.length_nil, List.getElem?_cons_succ, List.getElem?_cons_zero, List.set_cons_succ, List.set_cons_zero, List.cons_append, List.nil_append, Option.isNone_none, Option.map_some, Option.map_none, true_and, and_true, if_true, if_false, rngD_ints, Int.add_sub_cancel, Bool.false_eq_true, List.length_map])
local macro_rules | `(tactic| walk_at "s") => `(tactic| try simp only [sSeq, sNext, sRet, sRetF, sRetO, sAsg, sAsgF, sAsgM, sAsgR, rCl, rMe, sRetM, sDrop, sDropM, sUnp, sAug, sFor, sForM, sApp, sSetI, sDPu, sDPuT, sDNew, sDNewT, sDOne, sFldI, sBreak, sCont, fLc, xDc, xF, xVar, bVar, xC, x2, b2, fAdd, fI, fI0, fB0, fEq, fNe, fIn, fIs, fIsNot, D.isN, xNeg, bTru, bNot, bAnd, bOr, bCh, xAnd, xOr, xNot, xIfE, xFld, fIx, fSl, oNo, oSo, aNil, aCons, xTup, fLst, fCat, xCall, fCall, fLen, fAbs, fInt, fList, fTuple, fIsi, D.ty, fAny, fSrt, fMin, xIdx, fSS, fDIn, xDGet, xDGetT, keyD, keysD, gN, gsN, gsC, gTu, iL, iT, iR1, iR2, iR3, iR1M, bYes, wipeE, free, Slot.ad, Slot.dat, Slot.par, axNil, axI, axB, xCl, fCl, xMe, fMe, xMk, fGen, mP, m2, bm2, mCl, mTup, mLst, mSS, amNil, amCons, gPlain, gThen, gNil, gYield, zP, zM, zTP, zD, z2, bz2, zTru, zNot, zAnd, zOr, zNil, zCons, zTup, zLst, zCl, zClX, zFld, zMkS, sAsgZ, sRetZ, sDropZ, sRaise, sTry, sRetR, sRetV, sRetMF, mF, mLc, iP, xR, fR, xClF, rMe0, fLRg, fSrtQ, iEnV, xEFld, fIsX, cvV, grD, prD, lk_arrows, lk_size, eqD_int, sh_int, sh60_ints, inL_ints,
  List.map_cons, List.map_nil, List.length_cons, List.length_nil, List.getElem?_cons_succ, List.getElem?_cons_zero, List.set_cons_succ, List.set_cons_zero, List.cons_append, List.nil_append, Option.isNone_none, Option.map_some, Option.map_none, true_and, and_true, if_true, if_false, rngD_ints, Int.add_sub_cancel, Bool.false_eq_true, List.length_map])
theorem stepS_len (n : Int) (A : List (Int × Int)) (o : List Int) : (stepS n A o).length ≤ n.toNat := by
  unfold stepS
  rw [List.length_map]
  exact Nat.le_trans (List.length_filter_le _ _) (Nat.le_trans (List.length_filter_le _ _) (by rw [rngI_len]; exact Nat.le_refl _))
theorem simpX_len {n : Int} (A : List (Int × Int)) (hn : n ≤ 5) (v : Int) : ∀ t, (simpX n A t v).length ≤ 5 ^ t
  | 0 => by simp [simpX]
  | t + 1 => by
    have h1 := simpX_len A hn v t
    have h2 := flat_len (stepS n A) 5 (fun o => Nat.le_trans (stepS_len n A o) (by omega)) (simpX n A t v)
    rw [Nat.pow_succ]
    exact Nat.le_trans h2 (Nat.mul_le_mul_right 5 h1)
theorem lawP_back (n : Int) (A : List (Int × Int)) (t : Nat) : (lawP n A t).flatMap (stepS n A) = lawP n A (t + 1) := by
  unfold lawP
  rw [List.flatMap_assoc]
  rfl
theorem lawP_len {n : Int} (A : List (Int × Int)) (hn : n ≤ 5) (t : Nat) (ht : t ≤ 5) : (lawP n A t).length ≤ 15625 := by
  have h2 := flat_len (fun v => simpX n A t v) (5 ^ t) (fun v => simpX_len A hn v t) (nodes n)
  have h3 : (nodes n).length ≤ 5 := by rw [rngI_len]; omega
  have h4 : 5 ^ t ≤ 5 ^ 5 := Nat.pow_le_pow_right (by decide) ht
  have h5 : (5 : Nat) ^ 5 = 3125 := by decide
  have h6 := Nat.mul_le_mul h3 h4
  exact Nat.le_trans h2 (Nat.le_trans h6 (by rw [h5]; decide))
theorem lawP_item {n : Int} {A : List (Int × Int)} {t : Nat} {o : List Int} (h : o ∈ lawP n A t) : o.length = t + 1 := by
  obtain ⟨v, _, ho⟩ := List.mem_flatMap.mp h
  exact (simp_mem t o ho).2.1
theorem at_head {o : List Int} (h : 0 < o.length) : atI (o.map D.int) 0 = some (.int (o.headD 0)) := by
  cases o with
  | nil => cases h
  | cons a o => exact atI_nat (j := 0) rfl
theorem flat_one {α β : Type} (f : α → β) : ∀ l : List α, (l.flatMap fun v => [f v]) = l.map f
  | [] => rfl
  | a :: l => by rw [List.flatMap_cons, flat_one f l]; rfl
theorem szb {n : Nat} (h : n ≤ 1000000) : n ≤ sizeLine := Nat.le_trans h (by decide)
theorem map_lst (o : List Int) (v : Int) : D.lst (o.map D.int ++ [.int v]) = lstD (o ++ [v]) := by
  unfold lstD
  rw [List.map_append]
  rfl
section
variable {P : Program} {w : World} {K : Frag} {mg : Str → Option Value} {base : Heap} {C Ca Co fA fO f : Addr} {fd : FuncData}
abbrev s__law_ring : Stmt := top 20
abbrev N__law_ring : List Str := ["_law_size", "_law_arrows_here", "_law_paths", "_law_node", "_law_turn", "_law_longer", "_law_path", "_law_last", "_law_nodes"]
theorem sc__law_ring : FnScope N__law_ring ["_law_size", "_law_arrows_here"] (defScope s__law_ring) := ⟨rfl, rfl, rfl, by decide +kernel, rfl, by decide +kernel, by decide +kernel⟩
def S_lring : SP := spc (α := Int × List (Int × Int)) (fun x => [.im (.int x.1), .im (.lst (x.2.map prD))]) (fun x => x.2.length ≤ 500 ∧ 0 ≤ x.1 ∧ x.1 ≤ 5) fun x r => ∃ o, LRing x.1 x.2 o ∧ r.dat = (optL o).dat
theorem ok_lring (F : FD K "_law_ring" "_law_ring" s__law_ring [] f fd) (T : Tx K mg C) : FnOk P w K mg base CX0 (2 + 1) f fd ["_law_size", "_law_arrows_here"] (spP K S_lring) := by
  refine fn_spc F sc__law_ring (fun x => [some (.im (.int x.1)), some (.im (.lst (x.2.map prD))), none, none, none, none, none, none, none]) fun cdv A outer s H E hr => ?_
  refine ⟨_, (ss_cons (s_lc (i := 2) (own := [("_law_node", 3)]) rfl sc__law_ring.nd rfl rfl (sw_true rfl rfl rfl (by decide +kernel)) (ib (il_r2 rfl T.range (aw_cons (bx px_int) (aw_cons (bx (px_add (bx_var 0) (bx px_int))) aw_nil)))) (blkOk_by (N := N__law_ring) (sc := defScope s__law_ring) (by decide +kernel)) (fun _ _ _ _ _ => (gx_name (i := 3) sc__law_ring.nd)) (fun _ _ _ _ _ => tts_nil) (fun _ _ _ _ _ => (px_f (fx_lst (as_cons (px_var 3) as_nil)))))
      (ss_cons (s_for PassesOwn.never rfl (il_r1 rfl T.range (aw_cons (bx_var 0) aw_nil)) (gx_name (i := 4) sc__law_ring.nd) (ss_cons (s_asg (i := 5) sc__law_ring.nd (px_f (fx_lst as_nil)))
      (ss_cons (s_for PassesOwn.never rfl (il_list (px_var 2)) (gx_name (i := 6) sc__law_ring.nd) (ss_cons (s_asg (i := 7) sc__law_ring.nd (px_ix (bx_var 6) (bx (px_sub (bx (px_len rfl T.len (bx_var 6))) (bx px_int)))))
      (ss_cons (s_if (tx_in hr (bx (px_tup (as_cons (px_var 7) (as_cons (px_ix (bx_var 6) (bx px_int)) as_nil)))) (bx_var 1)) (ss_one (s_ret (px_var 6))) ss_nil)
      (ss_cons (s_lc (i := 8) (own := [("_law_node", 3)]) rfl sc__law_ring.nd rfl rfl (sw_true rfl rfl rfl (by decide +kernel)) (ib (il_r2 rfl T.range (aw_cons (bx px_int) (aw_cons (bx (px_add (bx_var 0) (bx px_int))) aw_nil)))) (blkOk_by (N := N__law_ring) (sc := defScope s__law_ring) (by decide +kernel)) (fun _ _ _ _ _ => (gx_name (i := 3) sc__law_ring.nd)) (fun _ _ _ _ _ => (tts_one (tx_in hr (bx (px_tup (as_cons (px_var 7) (as_cons (px_var 3) as_nil)))) (bx_var 1)))) (fun _ _ _ _ _ => (px_var 3)))
      (ss_one (s_asg (i := 5) sc__law_ring.nd (px_f (fx_cat (bx_var 5) (bx (px_f (fx_lc (own := [("_law_node", 3)]) rfl sc__law_ring.nd (ib_list (bx_var 8)) (blkOk_by (N := N__law_ring) (sc := defScope s__law_ring) (by decide +kernel)) (fun _ _ _ _ _ => (gx_name (i := 3) sc__law_ring.nd)) (fun _ _ _ _ _ => (tts_one (tx_nin hr (bx_var 3) (bx_var 6)))) (fun _ _ _ _ _ => (px_f (fx_cat (bx_var 6) (bx (px_f (fx_lst (as_cons (px_var 3) as_nil))))))))))))))))))
      (ss_one (s_asg (i := 2) sc__law_ring.nd (px_var 5))))))
      (ss_one (s_ret px_non)))), ?_⟩
  rintro ⟨n, A⟩ R ⟨hA, hn0, hn⟩ hR
  dsimp only at hA hn0 hn hR
  walk_at "s"
  refine ⟨⟨by decide, by decide, by omega, by omega⟩, lcbM (fun v => lstD [v]) (sz (nodes_len (by omega))) (fun v _ => ?_) ⟨by omega, by omega, ?_⟩⟩
  · walk_at "r"
    exact ⟨fun _ => ⟨by decide, rfl⟩, fun z => (by cases z)⟩
  have e0 : (nodes n).map (fun v => lstD [v]) = (lawP n A 0).map lstD := by
    unfold lawP
    show _ = ((nodes n).flatMap fun v => [[v]]).map lstD
    rw [List.map_flatMap]
    exact (flat_one (fun v => lstD [v]) (nodes n)).symm
  rw [e0]
  refine forb (fun pre Γ => ∃ d4 d5 d6 d7 d8 : Option D, Γ = [some (.im (.int n)), some (.im (.lst (A.map prD))), some (.im (.lst ((lawP n A pre.length).map lstD))), none, d4.map Slot.im, d5.map Slot.im, d6.map Slot.im, d7.map Slot.im, d8.map Slot.im] ∧ ∀ j, j < pre.length → (lawP n A j).find? (lcB A) = none) ⟨none, none, none, none, none, rfl, fun j hj => absurd hj (by simp)⟩ ?_ ?_
  · rintro pre x post Γ hx ⟨d4, d5, d6, d7, d8, rfl, hno⟩
    have hpl : pre.length < n.toNat := by
      have := congrArg List.length hx
      rw [rngI_len] at this
      simp at this
      omega
    have hP := lawP_len A hn pre.length (by omega)
    have hP1 := lawP_len A hn (pre.length + 1) (by omega)
    walk_at "s"
    refine ⟨by cases d4 <;> rfl, by decide, ?_⟩
    refine forb (fun pre2 Γ => ∃ d6 d7 d8 : Option D, Γ = [some (.im (.int n)), some (.im (.lst (A.map prD))), some (.im (.lst ((lawP n A pre.length).map lstD))), none, some (.im (.int x)), some (.im (.lst ((pre2.flatMap (stepS n A)).map lstD))), d6.map Slot.im, d7.map Slot.im, d8.map Slot.im] ∧ ∀ o ∈ pre2, lcB A o = false) ⟨d6, d7, d8, rfl, fun o h => (by cases h)⟩ ?_ ?_
    · rintro pre2 o post2 Γ hx2 ⟨d6, d7, d8, rfl, hno2⟩
      have ho : o ∈ lawP n A pre.length := by rw [hx2]; simp
      have hol := lawP_item ho
      have hlen2 : (pre2.flatMap (stepS n A) ++ stepS n A o).length ≤ 15625 := by
        have z := lawP_back n A pre.length
        rw [hx2, List.flatMap_append, List.flatMap_cons] at z
        rw [← z] at hP1
        simp only [List.length_append] at hP1 ⊢
        omega
      have hat := at_last (o := o) (by omega)
      have hat0 := at_head (o := o) (by omega)
      rw [show lstD o = D.lst (o.map D.int) from rfl]
      walk_at "s"
      refine ⟨by cases d6 <;> rfl, ?_⟩
      rw [hat]
      refine sIf_by (lcB A o) (fun Q hQ => ?_) (fun hc => ?_) fun hc => ?_
      · walk_at "r"
        rw [hat0]
        refine ⟨by decide, sh_pr 59 (lastI o, o.headD 0), sh_prs60 A, ?_⟩
        rw [inL_prs]
        exact hQ
      · walk_at "r"
        refine hR _ ⟨some o, .inl ⟨pre.length, o, hpl, rfl, ?_, hno⟩, rfl⟩
        rw [hx2]
        exact find_first hno2 hc
      · walk_at "r"
        refine ⟨⟨by decide, by decide, by omega, by omega⟩, ?_⟩
        refine lcbF (fun v => A.contains (lastI o, v)) D.int (sz (nodes_len (by omega))) (fun v _ => ?_) ?_
        · walk_at "r"
          refine ⟨by decide, sh_pr 59 (lastI o, v), sh_prs60 A, ?_⟩
          rw [inL_prs]
          exact ⟨fun h => by rw [h]; rfl, fun h => by rw [h]; rfl⟩
        · walk_at "r"
          refine lcbF (fun v => !o.contains v) (fun v => lstD (o ++ [v])) ?_ (fun v _ => ?_) ?_
          · exact sz (Nat.le_trans (List.length_filter_le _ _) (nodes_len (by omega)))
          · walk_at "r"
            refine ⟨fun h => ⟨by decide, ?_, ?_⟩, fun h => by rw [h]; rfl⟩
            · exact sz (by omega)
            · rw [h, map_lst]; rfl
          · have e : ((((nodes n).filter fun v => A.contains (lastI o, v)).filter fun v => !o.contains v).map fun v => lstD (o ++ [v])) = (stepS n A o).map lstD := by
              unfold stepS
              rw [List.map_map]
              rfl
            rw [e]
            refine ⟨?_, some (.lst (o.map D.int)), some (.int (lastI o)), some (.lst (((nodes n).filter fun v => A.contains (lastI o, v)).map D.int)), ?_, ?_⟩
            · simp only [List.length_map]
              rw [List.length_append] at hlen2
              exact szb (by omega)
            · rw [List.flatMap_append, List.map_append]
              simp
            · intro q hq
              rcases List.mem_append.mp hq with hq | hq
              · exact hno2 q hq
              · rw [List.mem_singleton.mp hq]; exact hc
    · rintro Γ ⟨d6, d7, d8, rfl, hno2⟩
      walk_at "r"
      refine ⟨some (.int x), some (.lst ((lawP n A (pre.length + 1)).map lstD)), d6, d7, d8, ?_, ?_⟩
      · rw [lawP_back, List.length_append]
        rfl
      · intro j hj
        rw [List.length_append, List.length_singleton] at hj
        rcases Nat.lt_or_eq_of_le (Nat.le_of_lt_succ hj) with z | z
        · exact hno j z
        · rw [z, List.find?_eq_none]
          intro o ho
          rw [hno2 o ho]
          decide
  · rintro Γ ⟨d4, d5, d6, d7, d8, rfl, hno⟩
    rw [rngI_len] at hno
    walk_at "r"
    exact hR _ ⟨none, .inr ⟨rfl, hno⟩, rfl⟩
/-! ### a listing -/
abbrev s__law_listing : Stmt := top 21
abbrev N__law_listing : List Str := ["_law_pot_here", "_law_size", "_law_k"]
theorem sc__law_listing : FnScope N__law_listing ["_law_pot_here", "_law_size"] (defScope s__law_listing) := ⟨rfl, rfl, rfl, by decide +kernel, rfl, by decide +kernel, by decide +kernel⟩
def S_listing : SM := spcM (α := List D × Int) (fun x => x.1) (fun x => [.int x.2]) (fun x => PotOk x.1 ∧ 0 ≤ x.2 ∧ x.2 ≤ 5) fun x r z => PotOk z ∧ ∃ L : List Int, L.length ≤ 10 ∧ r.dat = lstD L
theorem ok_listing (F : FD K "_law_listing" "_law_listing" s__law_listing [] f fd) (T : Tx K mg C) (D__law_draw : DfM P w K mg base "_law_draw" 3 S_draw) (D__law_lined : DfM P w K mg base "_law_lined" 4 S_lined) : FnOk P w K mg base CX0 (4 + 1) f fd ["_law_pot_here", "_law_size"] (spM K S_listing) := by
  refine fn_pot F sc__law_listing (fun l x => [some (.pl l x.1), some (.im (.int x.2)), none]) fun cdv A outer s H E hr => ?_
  refine ⟨_, (ss_cons (s_ifM (tm_cmp (op_eqD hr.units) does_eq (mx_call (i := 0) D__law_draw (hr.mono (by decide)) (am_cons (mx px_int) am_nil)) (mx px_int)) (ss_one (s_retM (mx_call (i := 0) D__law_lined (hr.mono (by decide)) (am_cons (mx (px_var 1)) am_nil)))) ss_nil)
      (ss_one (s_retMF (fm_lc (own := [("_law_k", 2)]) rfl sc__law_listing.nd (iz_m (ilm_r1 rfl T.range (am_cons (mx_call (i := 0) D__law_draw (hr.mono (by decide)) (am_cons (mx px_int) am_nil)) am_nil))) (blkOk_by (N := N__law_listing) (sc := defScope s__law_listing) (by decide +kernel)) (fun _ _ _ _ _ => (gx_name (i := 2) sc__law_listing.nd)) (fun _ _ _ _ _ => tts_nil) (fun _ _ _ _ _ => (mx_bin op_sub does_I0 (mx_call (i := 0) D__law_draw (hr.mono (by decide)) (am_cons (mx px_int) am_nil)) (mx px_int))))))), ?_⟩
  rintro l ⟨z, n⟩ R ⟨hz, hn0, hn⟩ hR
  dsimp only at hz hn0 hn hR
  walk_at "r"
  refine ⟨⟨_, _, .inl rfl⟩, drawS hz (by decide) (by decide) fun v z1 hz1 hv0 hv => ?_⟩
  simp only [Rs.dat, sh_int, eqD_int]
  refine ⟨trivial, fun _ => ⟨⟨_, _, .inl rfl⟩, (z1, n), rfl, rfl, ⟨hz1, hn0, by dsimp only; omega⟩, ?_⟩, fun _ => ⟨⟨_, _, .inl rfl⟩, drawS hz1 (by decide) (by decide) fun v2 z2 hz2 h20 h21 => ?_⟩⟩
  · rintro r z3 ⟨hz3, L, hL, hr⟩
    refine ⟨z3, rfl, hR _ _ ⟨hz3, L, ?_, hr⟩⟩
    have := line_len hL
    dsimp only at this
    omega
  · simp only [Rs.dat]
    refine ⟨by omega, by omega, ?_, rfl, fun i acc Γw => ∃ z L, PotOk z ∧ acc = List.map D.int L ∧ L.length ≤ i ∧ Γw = [some (.pl l z), some (.im (.int n)), none], ⟨z2, [], hz2, rfl, Nat.le_refl _, rfl⟩, ?_, ?_⟩
    · rw [List.length_map, rngI_len]
      exact sz (by omega)
    · rintro i d acc Γw hd hacc ⟨z, L, hz3, rfl, hL, rfl⟩
      rw [List.getElem?_map] at hd
      obtain ⟨x, _, rfl⟩ := Option.map_eq_some_iff.mp hd
      walk_at "r"
      refine ⟨fun _ => ⟨⟨_, _, .inl rfl⟩, drawS hz3 (by decide) (by decide) fun v3 z4 hz4 h30 h31 => ?_⟩, fun z => (by cases z)⟩
      simp only [Rs.dat]
      exact ⟨rfl, z4, L ++ [v3 - 1], hz4, by simp, by simp; omega, rfl⟩
    · rintro acc Γw ⟨z, L, hz3, rfl, hL, rfl⟩
      rw [List.length_map, rngI_len] at hL
      exact ⟨z, rfl, hR _ _ ⟨hz3, L, by omega, rfl⟩⟩
/-! ### keeps, judged -/
abbrev s__law_judged : Stmt := top 22
abbrev N__law_judged : List Str := ["_law_graph", "_law_listing_here", "_law_told", "error"]
theorem sc__law_judged : FnScope N__law_judged ["_law_graph", "_law_listing_here"] (defScope s__law_judged) := ⟨rfl, rfl, rfl, by decide +kernel, rfl, by decide +kernel, by decide +kernel⟩
def S_judged (C : Addr) : SP := spc (α := ((Int × List (Int × Int)) × List Int) × Bool) (fun x => [.im (grD C x.1.1.1 x.1.1.2), .im (if x.2 then .tup (x.1.2.map D.int) else .lst (x.1.2.map D.int))]) (fun x => x.1.1.2.length ≤ 500 ∧ 0 ≤ x.1.1.1 ∧ x.1.1.1 ≤ 500 ∧ GOk x.1.1.1 x.1.1.2 ∧ x.1.2.length ≤ 500)
  fun x r => (IsLine x.1.1.1 x.1.2 ∧ r.dat = .lst [.bl (keptB x.1.1.2 x.1.2)]) ∨ (¬ IsLine x.1.1.1 x.1.2 ∧ r.dat = .lst [.tup (x.1.2.map D.int), .bl false])
theorem ok_judged (F : FD K "_law_judged" "_law_judged" s__law_judged [] f fd) (T : Tx K mg C) (T2 : TxE P K mg Ca Co fA fO) (D_keeps : DfX P w K mg base "keeps" 5 (spX K (S_keeps C Co))) : FnOk P w K mg base CX0 (5 + 1) f fd ["_law_graph", "_law_listing_here"] (spP K (S_judged C)) := by
  refine fn_spc F sc__law_judged (fun x => [some (.im (grD C x.1.1.1 x.1.1.2)), some (.im (if x.2 then .tup (x.1.2.map D.int) else .lst (x.1.2.map D.int))), none, none]) fun cdv A outer s H E hr => ?_
  refine ⟨_, (ss_cons (s_asg (i := 2) sc__law_judged.nd (px_f (fx_lst as_nil)))
      (ss_cons (s_try_as (i := 3) rfl rfl sc__law_judged.nd rfl rfl ⟨rfl, by decide, Or.inl T2.eO.gC⟩ takes0 (fun W pn xe tk po => (ss_one (s_asgZ (i := 2) sc__law_judged.nd (z_lst (az_cons (zx_r (z_callX tk D_keeps (hr.mono (by decide)) (ax_i (px_var 0) (ax_b (bx_var 1) ax_nil)))) az_nil))))) (fun a oe cls d pn hz hf => (ss_one (s_asg (i := 2) sc__law_judged.nd (px_f (fx_lst (as_cons (px_efld T2.rO hz hf (px_var 3)) (as_cons (px_isX (fun _ => T2.xO) hz hf rfl T.isinstance (bx_var 3) (bx (px_glob (v := .ref _) rfl T2.eA.gC rfl))) as_nil))))))))
      (ss_one (s_ret (px_var 2))))), ?_⟩
  rintro ⟨⟨⟨n, A⟩, o⟩, b⟩ R ⟨hA, hn0, hn, ok, ho⟩ hR
  dsimp only at hA hn0 hn ok ho hR
  walk_at "r"
  refine ⟨by decide, (((n, A), o), b), rfl, ⟨hA, hn0, hn, ok, ho⟩, ?_, ?_⟩
  · rintro _ ⟨hl, rfl⟩
    exact ⟨by decide, hR _ (.inl ⟨hl, rfl⟩)⟩
  · rintro _ _ ⟨hl, rfl, rfl⟩
    exact ⟨true, T2.mO, fun _ a d => ⟨rfl, rfl, rfl, rfl, _, false, rfl, T2.kOA, by decide, hR _ (.inr ⟨hl, rfl⟩)⟩, fun z => (by cases z)⟩
/-! ### the graph with one pair more -/
abbrev s__law_with : Stmt := top 23
abbrev N__law_with : List Str := ["_law_size", "_law_arrows_here", "_law_told", "error"]
theorem sc__law_with : FnScope N__law_with ["_law_size", "_law_arrows_here"] (defScope s__law_with) := ⟨rfl, rfl, rfl, by decide +kernel, rfl, by decide +kernel, by decide +kernel⟩
def S_with (Ca : Addr) : SP := spc (α := Int × List (Int × Int)) (fun x => [.im (.int x.1), .im (.lst (x.2.map prD))]) (fun x => x.2.length ≤ 500)
  fun x r => ((∀ p ∈ x.2, badA x.1 p = false) ∧ ∃ S, Srt S ∧ (∀ p, p ∈ S ↔ p ∈ x.2) ∧ r.dat = .lst [.tup (S.map prD)]) ∨ ∃ p, x.2.find? (badA x.1) = some p ∧ r.dat = .lst [prD p, .bl false]
theorem ok_with (F : FD K "_law_with" "_law_with" s__law_with [] f fd) (T : Tx K mg C) (T2 : TxE P K mg Ca Co fA fO) (D_Graph_2 : DcS P w K mg base "Graph" C 3 (S_initS Ca) 2 [] (fun as _ => as)) : FnOk P w K mg base CX0 (4 + 1) f fd ["_law_size", "_law_arrows_here"] (spP K (S_with Ca)) := by
  refine fn_spc F sc__law_with (fun x => [some (.im (.int x.1)), some (.im (.lst (x.2.map prD))), none, none]) fun cdv A outer s H E hr => ?_
  refine ⟨_, (ss_cons (s_asg (i := 2) sc__law_with.nd (px_f (fx_lst as_nil)))
      (ss_cons (s_try_as (i := 3) rfl rfl sc__law_with.nd rfl rfl ⟨rfl, by decide, Or.inl T2.eA.gC⟩ takes0 (fun W pn xe tk po => (ss_one (s_asgZ (i := 2) sc__law_with.nd (z_lst (az_cons (z_fld T.cl T.n_arrows (z_makeS tk D_Graph_2 (hr.mono (by decide)) (ax_i (px_var 0) (ax_i (px_var 1) ax_nil)) kx_nil)) az_nil))))) (fun a oe cls d pn hz hf => (ss_one (s_asg (i := 2) sc__law_with.nd (px_f (fx_lst (as_cons (px_efld T2.rA hz hf (px_var 3)) (as_cons (px_isX (fun _ => T2.xA) hz hf rfl T.isinstance (bx_var 3) (bx (px_glob (v := .ref _) rfl T2.eO.gC rfl))) as_nil))))))))
      (ss_one (s_ret (px_var 2))))), ?_⟩
  rintro ⟨n, A⟩ R hA hR
  dsimp only at hA hR
  walk_at "r"
  refine ⟨by decide, ((n, A), 0), rfl, hA, ?_, ?_⟩
  · rintro _ ⟨h1, S, h2, h3, _, rfl⟩
    exact ⟨by decide, hR _ (.inl ⟨h1, S, h2, h3, rfl⟩)⟩
  · rintro _ _ ⟨p, h1, rfl, rfl⟩
    exact ⟨true, T2.mA, fun _ a d => ⟨rfl, rfl, rfl, rfl, _, false, rfl, T2.kAO, by decide, hR _ (.inr ⟨p, h1, rfl⟩)⟩, fun z => (by cases z)⟩
end
end Kb
set_option Elab.async false
set_option linter.all false
set_option maxRecDepth 100000
set_option maxHeartbeats 1000000
namespace Kb
open PySem L2
set_option autoImplicit false
local macro_rules | `(tactic| walk_at "r") => `(tactic| try simp only [sSeq, sNext, sRet, sRetF, sRetO, sAsg, sAsgF, sAsgM, sAsgR, rCl, rMe, sRetM, sIf, sIfM, sDrop, sDropM, sUnp, sAug, sFor, sForM, sApp, sSetI, sDPu, sDPuT, sDNew, sDNewT, sDOne, sFldI, sBreak, sCont, fLc, xDc, xF, xVar, bVar, xC, x2, b2, fAdd, fI, fI0, fB0, fEq, fNe, fIn, fIs, fIsNot, D.isN, xNeg, bTru, bNot, bAnd, bOr, bCh, xAnd, xOr, xNot, xIfE, xFld, fIx, fSl, oNo, oSo, aNil, aCons, xTup, fLst, fCat, xCall, fCall, fLen, fAbs, fInt, fList, fTuple, fIsi, D.ty, fAny, fSrt, fMin, xIdx, fSS, fDIn, xDGet, xDGetT, keyD, keysD, gN, gsN, gsC, gTu, iL, iT, iR1, iR2, iR3, iR1M, bYes, wipeE, free, Slot.ad, Slot.dat, Slot.par, axNil, axI, axB, xCl, fCl, xMe, fMe, xMk, fGen, mP, m2, bm2, mCl, mTup, mLst, mSS, amNil, amCons, gPlain, gThen, gNil, gYield, zP, zM, zTP, zD, z2, bz2, zTru, zNot, zAnd, zOr, zNil, zCons, zTup, zLst, zCl, zClX, zFld, zMkS, sAsgZ, sRetZ, sIfZ, sDropZ, sRaise, sTry, sRetR, sRetV, sRetMF, mF, mLc, iP, xR, fR, xClF, rMe0, fLRg, fSrtQ, iEnV, xEFld, fIsX, cvV, grD, prD, lk_arrows, lk_size, eqD_int, sh_int, sh60_ints, inL_ints,
  List.map_cons, List.map_nil, List.length_cons, List.length_nil, List.getElem?_cons_succ, List.getElem?_cons_zero, List.set_cons_succ, List.set_cons_zero, List.cons_append, List.nil_append, Option.isNone_none, Option.map_some, Option.map_none, true_and, and_true, if_true, if_false, rngD_ints, Int.add_sub_cancel, Bool.false_eq_true, List.length_map])
local macro_rules | `(tactic| walk_at "s") => `(tactic| try simp only [sSeq, sNext, sRet, sRetF, sRetO, sAsg, sAsgF, sAsgM, sAsgR, rCl, rMe, sRetM, sDrop, sDropM, sUnp, sAug, sFor, sForM, sApp, sSetI, sDPu, sDPuT, sDNew, sDNewT, sDOne, sFldI, sBreak, sCont, fLc, xDc, xF, xVar, bVar, xC, x2, b2, fAdd, fI, fI0, fB0, fEq, fNe, fIn, fIs, fIsNot, D.isN, xNeg, bTru, bNot, bAnd, bOr, bCh, xAnd, xOr, xNot, xIfE, xFld, fIx, fSl, oNo, oSo, aNil, aCons, xTup, fLst, fCat, xCall, fCall, fLen, fAbs, fInt, fList, fTuple, fIsi, D.ty, fAny, fSrt, fMin, xIdx, fSS, fDIn, xDGet, xDGetT, keyD, keysD, gN, gsN, gsC, gTu, iL, iT, iR1, iR2, iR3, iR1M, bYes, wipeE, free, Slot.ad, Slot.dat, Slot.par, axNil, axI, axB, xCl, fCl, xMe, fMe, xMk, fGen, mP, m2, bm2, mCl, mTup, mLst, mSS, amNil, amCons, gPlain, gThen, gNil, gYield, zP, zM, zTP, zD, z2, bz2, zTru, zNot, zAnd, zOr, zNil, zCons, zTup, zLst, zCl, zClX, zFld, zMkS, sAsgZ, sRetZ, sDropZ, sRaise, sTry, sRetR, sRetV, sRetMF, mF, mLc, iP, xR, fR, xClF, rMe0, fLRg, fSrtQ, iEnV, xEFld, fIsX, cvV, grD, prD, lk_arrows, lk_size, eqD_int, sh_int, sh60_ints, inL_ints,
  List.map_cons, List.map_nil, List.length_cons, List.length_nil, List.getElem?_cons_succ, List.getElem?_cons_zero, List.set_cons_succ, List.set_cons_zero, List.cons_append, List.nil_append, Option.isNone_none, Option.map_some, Option.map_none, true_and, and_true, if_true, if_false, rngD_ints, Int.add_sub_cancel, Bool.false_eq_true, List.length_map])
theorem eqD_refl_i (p : List Int) : eqD (.lst (p.map D.int)) (.lst (p.map D.int)) = true := by rw [eqD_ints]; simp
theorem compl_top {n : Int} {A : List (Int × Int)} (ok : GOk n A) : compl n A n.toNat [] = (topT n A n.toNat []).head? := by
  cases h : topT n A n.toNat [] with
  | nil =>
    cases hc : compl n A n.toNat [] with
    | none => rfl
    | some r =>
      have := compl_mem n.toNat [] r hc
      rw [h] at this
      cases this
  | cons t ts =>
    have hm : t ∈ (lawOrd n n.toNat).filter (keptB A) := by rw [good_eq ok, h]; exact List.mem_cons_self
    obtain ⟨h1, h2⟩ := List.mem_filter.mp hm
    have hl := lawOrd_line h1
    rw [compl_head ok hl ((kept_iff ok hl).mp h2) n.toNat [] (by simp), h]
section
variable {P : Program} {w : World} {K : Frag} {mg : Str → Option Value} {base : Heap} {C Ca Co fA fO f : Addr} {fd : FuncData}
abbrev s__law_found : Stmt := top 24
abbrev N__law_found : List Str := ["_law_graph", "_law_good", "_law_ring_here", "_law_turn", "_law_first", "_law_around"]
theorem sc__law_found : FnScope N__law_found ["_law_graph", "_law_good", "_law_ring_here"] (defScope s__law_found) := ⟨rfl, rfl, rfl, by decide +kernel, rfl, by decide +kernel, by decide +kernel⟩
def S_found (C : Addr) : SP := spc (α := (Int × List (Int × Int)) × Option (List Int)) (fun x => [.im (grD C x.1.1 x.1.2), .im (.lst ((topT x.1.1 x.1.2 x.1.1.toNat []).map lstD)), .im (optL x.2).dat]) (fun x => x.1.2.length ≤ 500 ∧ 0 ≤ x.1.1 ∧ x.1.1 ≤ 5 ∧ GOk x.1.1 x.1.2 ∧ Srt x.1.2 ∧ LRing x.1.1 x.1.2 x.2)
  fun x r => r = .d (.bl true)
theorem ok_found (F : FD K "_law_found" "_law_found" s__law_found [] f fd) (T : Tx K mg C) (D_first_order : Df P w K mg base "first_order" 5 (spP K (S_first C))) (D_Graph_ring : Dm P w K mg base C "ring" 7 (spP K (S_ring C))) : FnOk P w K mg base CX0 (7 + 1) f fd ["_law_graph", "_law_good", "_law_ring_here"] (spP K (S_found C)) := by
  refine fn_spc F sc__law_found (fun x => [some (.im (grD C x.1.1 x.1.2)), some (.im (.lst ((topT x.1.1 x.1.2 x.1.1.toNat []).map lstD))), some (.im (optL x.2).dat), none, none, none]) fun cdv A outer s H E hr => ?_
  refine ⟨_, (ss_cons (s_for PassesOwn.never rfl (il_r1 rfl T.range (aw_cons (bx px_int) aw_nil)) (gx_name (i := 3) sc__law_found.nd) (ss_cons (s_asgR (i := 4) sc__law_found.nd (rx_call D_first_order (hr.mono (by decide)) (ax_i (px_var 0) ax_nil)))
      (ss_cons (s_asgR (i := 5) sc__law_found.nd (rx_meth0 T.cl D_Graph_ring (hr.mono (by decide)) (px_var 0)))
      (ss_one (s_if (tx_tru (bx_var 1)) (ss_cons (s_if (tx_w (tw_or (tx_isnot (bx_var 5) (bx px_non)) (tw_or (tx_not (tx_tru (bx (px_isi rfl T.isinstance (bx_var 4) (bx (px_ty (n := "list") rfl T.list (by decide +kernel))))))) (tw_or1 (tx_ne hr (bx_var 4) (bx (px_ix (bx_var 1) (bx px_int)))))))) (ss_one (s_ret px_bl)) ss_nil)
      (ss_one (s_app 4 px_int))) (ss_cons (s_if (tx_w (tw_or (tx_isnot (bx_var 4) (bx px_non)) (tw_or (tx_not (tx_tru (bx (px_isi rfl T.isinstance (bx_var 5) (bx (px_ty (n := "list") rfl T.list (by decide +kernel))))))) (tw_or1 (tx_ne hr (bx_var 5) (bx_var 2)))))) (ss_one (s_ret px_bl)) ss_nil)
      (ss_one (s_app 5 px_int))))))))
      (ss_one (s_ret px_bl))), ?_⟩
  rintro ⟨⟨n, A⟩, o⟩ R ⟨hA, hn0, hn, ok, srt, ho⟩ hR
  dsimp only at hA hn0 hn ok srt ho hR
  walk_at "s"
  refine ⟨by decide, by decide, ?_⟩
  have hct := compl_top ok
  refine forb (fun pre Γ => ∃ (d3 : Option D) (s4 s5 : Option Slot), Γ = [some (.im (grD C n A)), some (.im (.lst ((topT n A n.toNat []).map lstD))), some (.im (optL o).dat), d3.map Slot.im, s4, s5]) ⟨none, none, none, rfl⟩ ?_ ?_
  · rintro pre x post Γ hx ⟨d3, s4, s5, rfl⟩
    walk_at "s"
    refine ⟨by cases d3 <;> rfl, (n, A), rfl, ⟨by dsimp only; omega, hn0, by dsimp only; omega⟩, ?_⟩
    rintro _ rfl
    dsimp only
    rw [hct]
    have hro := fun b (hb : BestIs A (nodes n) b) => ring_order ok hb
    cases hG : topT n A n.toNat [] with
    | nil =>
      refine ⟨rfl, (n, A), rfl, ⟨hA, hn0, by dsimp only; omega, ok, srt⟩, ?_⟩
      rintro _ ⟨b, hb, hbl, rfl⟩
      have e := ring_same ok srt hb ho
      subst e
      cases b with
      | none => exact absurd hG ((hro none hb).mp rfl)
      | some q =>
        intro l5 hl5
        refine sIf_by false (fun Q hQ => ?_) (fun z => by cases z) fun _ => ?_
        · walk_at "r"
          exact hQ
        walk_at "s"
        refine sIf_by false (fun Q hQ => ?_) (fun z => by cases z) fun _ => ?_
        · walk_at "r"
          refine ⟨fun z => (by cases z), fun _ => ⟨_, _, rfl, kit_ll, fun z => (by cases z), fun _ => ⟨sh60_ints q, ?_⟩⟩⟩
          have e : (optL (some q)).dat = .lst (q.map D.int) := rfl
          rw [e, eqD_refl_i]
          exact hQ
        · walk_at "r"
          exact ⟨sz' (hbl q rfl), some (.int x), _, _, rfl⟩
    | cons g gs =>
      intro l4 hl4
      refine ⟨rfl, (n, A), rfl, ⟨hA, hn0, by dsimp only; omega, ok, srt⟩, ?_⟩
      rintro _ ⟨b, hb, hbl, rfl⟩
      have e := ring_same ok srt hb ho
      subst e
      have hbn := (hro b hb).mpr (by rw [hG]; exact fun z => nomatch z)
      cases b with
      | some q => cases hbn
      | none =>
        show sIf _ _ _ _ _
        refine sIf_by true (fun Q hQ => ?_) (fun _ => ?_) fun z => (by cases z)
        · walk_at "r"
          exact hQ
        walk_at "s"
        refine sIf_by false (fun Q hQ => ?_) (fun z => by cases z) fun _ => ?_
        · walk_at "r"
          have hat : atI (lstD g :: gs.map lstD) 0 = some (lstD g) := atI_nat (j := 0) rfl
          rw [hat]
          refine ⟨fun z => (by cases z), fun _ => ⟨_, _, rfl, kit_ll, fun z => (by cases z), fun _ => ⟨sh60_ints g, ?_⟩⟩⟩
          have e : lstD g = .lst (g.map D.int) := rfl
          rw [e, eqD_refl_i]
          exact hQ
        · walk_at "r"
          refine ⟨?_, some (.int x), _, _, rfl⟩
          have hm : g ∈ (lawOrd n n.toNat).filter (keptB A) := by rw [good_eq ok, hG]; exact List.mem_cons_self
          have hl := line_len (lawOrd_line (List.mem_filter.mp hm).1)
          exact sz' (by omega)
  · rintro Γ ⟨d3, s4, s5, rfl⟩
    walk_at "r"
    exact hR _ rfl
end
end Kb
set_option Elab.async false
set_option linter.all false
set_option maxRecDepth 100000
set_option maxHeartbeats 1000000
namespace Kb
open PySem L2
set_option autoImplicit false
local macro_rules | `(tactic| walk_at "r") => `(tactic| try simp only [sSeq, sNext, sRet, sRetF, sRetO, sAsg, sAsgF, sAsgM, sAsgR, rCl, rMe, sRetM, sIf, sIfM, sDrop, sDropM, sUnp, sAug, sFor, sForM, sApp, sSetI, sDPu, sDPuT, sDNew, sDNewT, sDOne, sFldI, sBreak, sCont, fLc, xDc, xF, xVar, bVar, xC, x2, b2, fAdd, fI, fI0, fB0, fEq, fNe, fIn, fIs, fIsNot, D.isN, xNeg, bTru, bNot, bAnd, bOr, bCh, xAnd, xOr, xNot, xIfE, xFld, fIx, fSl, oNo, oSo, aNil, aCons, xTup, fLst, fCat, xCall, fCall, fLen, fAbs, fInt, fList, fTuple, fIsi, D.ty, fAny, fSrt, fMin, xIdx, fSS, fDIn, xDGet, xDGetT, keyD, keysD, gN, gsN, gsC, gTu, iL, iT, iR1, iR2, iR3, iR1M, bYes, wipeE, free, Slot.ad, Slot.dat, Slot.par, axNil, axI, axB, xCl, fCl, xMe, fMe, xMk, fGen, mP, m2, bm2, mCl, mTup, mLst, mSS, amNil, amCons, gPlain, gThen, gNil, gYield, zP, zM, zTP, zD, z2, bz2, zTru, zNot, zAnd, zOr, zNil, zCons, zTup, zLst, zCl, zClX, zFld, zMkS, sAsgZ, sRetZ, sIfZ, sDropZ, sRaise, sTry, sRetR, sRetV, sRetMF, mF, mLc, iP, xR, fR, xClF, rMe0, fLRg, fSrtQ, iEnV, xEFld, fIsX, cvV, grD, prD, lk_arrows, lk_size, eqD_int, sh_int, sh60_ints, inL_ints,
  List.map_cons, List.map_nil, List.length_cons, List.length_nil, List.getElem?_cons_succ, List.getElem?_cons_zero, List.set_cons_succ, List.set_cons_zero, List.cons_append, List.nil_append, Option.isNone_none, Option.map_some, Option.map_none, true_and, and_true, if_true, if_false, rngD_ints, Int.add_sub_cancel, Bool.false_eq_true, List.length_map])
local macro_rules | `(tactic| walk_at "s") => `(tactic| try simp only [sSeq, sNext, sRet, sRetF, sRetO, sAsg, sAsgF, sAsgM, sAsgR, rCl, rMe, sRetM, sDrop, sDropM, sUnp, sAug, sFor, sForM, sApp, sSetI, sDPu, sDPuT, sDNew, sDNewT, sDOne, sFldI, sBreak, sCont, fLc, xDc, xF, xVar, bVar, xC, x2, b2, fAdd, fI, fI0, fB0, fEq, fNe, fIn, fIs, fIsNot, D.isN, xNeg, bTru, bNot, bAnd, bOr, bCh, xAnd, xOr, xNot, xIfE, xFld, fIx, fSl, oNo, oSo, aNil, aCons, xTup, fLst, fCat, xCall, fCall, fLen, fAbs, fInt, fList, fTuple, fIsi, D.ty, fAny, fSrt, fMin, xIdx, fSS, fDIn, xDGet, xDGetT, keyD, keysD, gN, gsN, gsC, gTu, iL, iT, iR1, iR2, iR3, iR1M, bYes, wipeE, free, Slot.ad, Slot.dat, Slot.par, axNil, axI, axB, xCl, fCl, xMe, fMe, xMk, fGen, mP, m2, bm2, mCl, mTup, mLst, mSS, amNil, amCons, gPlain, gThen, gNil, gYield, zP, zM, zTP, zD, z2, bz2, zTru, zNot, zAnd, zOr, zNil, zCons, zTup, zLst, zCl, zClX, zFld, zMkS, sAsgZ, sRetZ, sDropZ, sRaise, sTry, sRetR, sRetV, sRetMF, mF, mLc, iP, xR, fR, xClF, rMe0, fLRg, fSrtQ, iEnV, xEFld, fIsX, cvV, grD, prD, lk_arrows, lk_size, eqD_int, sh_int, sh60_ints, inL_ints,
  List.map_cons, List.map_nil, List.length_cons, List.length_nil, List.getElem?_cons_succ, List.getElem?_cons_zero, List.set_cons_succ, List.set_cons_zero, List.cons_append, List.nil_append, Option.isNone_none, Option.map_some, Option.map_none, true_and, and_true, if_true, if_false, rngD_ints, Int.add_sub_cancel, Bool.false_eq_true, List.length_map])
/-- a sorted set of pairs -/
theorem ss_pairs2 {A0 S : List (Int × Int)} (bd : ∀ p ∈ A0, (0 ≤ p.1 ∧ p.1 < 64) ∧ (0 ≤ p.2 ∧ p.2 < 64)) (hS : Srt S) (hSm : ∀ p, p ∈ S ↔ p ∈ A0) {ls : List (List Int)} (nd : ls.Nodup) (hm : ∀ k, k ∈ ls ↔ k ∈ A0.map fun p => [p.1, p.2]) (pw : ls.Pairwise fun q r => TS.code 64 q ≤ TS.code 64 r) : ls.map tupD = S.map prD := by
  have two : ∀ k ∈ ls, ∃ p, p ∈ A0 ∧ k = [p.1, p.2] := fun k hk => by
    obtain ⟨p, hp, e⟩ := List.mem_map.mp ((hm k).mp hk)
    exact ⟨p, hp, e.symm⟩
  have hA : Srt (ls.map fun k => (k.getD 0 0, k.getD 1 0)) := by
    unfold Srt
    rw [List.pairwise_map]
    refine List.Pairwise.imp_of_mem (R := fun q r => TS.code 64 q ≤ TS.code 64 r ∧ q ≠ r) (fun {q r} hq hr h => ?_) (pw.and nd)
    obtain ⟨p, hp0, rfl⟩ := two q hq
    obtain ⟨p', hp0', rfl⟩ := two r hr
    obtain ⟨b1, b2⟩ := bd p hp0
    obtain ⟨b3, b4⟩ := bd p' hp0'
    obtain ⟨c1, c2⟩ := h
    have e1 : TS.code 64 [p.1, p.2] = p.1 * 64 + p.2 := by simp [TS.code]
    have e2 : TS.code 64 [p'.1, p'.2] = p'.1 * 64 + p'.2 := by simp [TS.code]
    rw [e1, e2] at c1
    show ltP (p.1, p.2) (p'.1, p'.2)
    unfold ltP
    dsimp only
    by_cases z : p.1 = p'.1
    · refine .inr ⟨z, ?_⟩
      have : p.2 ≠ p'.2 := fun q => c2 (by rw [z, q])
      omega
    · omega
  have e : (ls.map fun k => (k.getD 0 0, k.getD 1 0)) = S := srt_ext hA hS fun p => by
    rw [hSm p, List.mem_map]
    constructor
    · rintro ⟨k, hk, rfl⟩
      obtain ⟨q, hq, rfl⟩ := two k hk
      exact hq
    · intro hp
      exact ⟨[p.1, p.2], (hm _).mpr (List.mem_map.mpr ⟨p, hp, rfl⟩), rfl⟩
  rw [← e, List.map_map]
  refine List.map_congr_left fun k hk => ?_
  obtain ⟨p, _, rfl⟩ := two k hk
  rfl
theorem sh_tprs (A : List (Int × Int)) : D.sh 60 (.tup (A.map prD)) = true := sh_prs 58 A
theorem eqD_refl60 {d : D} (h : D.sh 60 d = true) : eqD d d = true := PySem.SeqAt.eqv_refl _ (sh_lay 60 _ h).1
theorem best_ex {n : Int} {A : List (Int × Int)} (ok : GOk n A) (srt : Srt A) : ∀ (pre : List Int), pre.Pairwise (· < ·) → (∀ v ∈ pre, v ∈ nodes n) → ∃ b, BestIs A pre b := by
  intro pre
  induction hl : pre.length generalizing pre with
  | zero =>
    intro _ _
    rw [List.length_eq_zero_iff.mp hl]
    exact ⟨none, fun v hv => by cases hv⟩
  | succ k ih =>
    intro pw hm
    rcases List.eq_nil_or_concat pre with rfl | ⟨p, x, rfl⟩
    · cases hl
    rw [List.concat_eq_append] at hl pw hm ⊢
    rw [List.length_append] at hl
    obtain ⟨w1, _, w3⟩ := List.pairwise_append.mp pw
    obtain ⟨b, hb⟩ := ih p (Nat.succ.inj hl) w1 fun v hv => hm v (List.mem_append_left _ hv)
    have hx := hm x (List.mem_append_right _ (List.mem_singleton.mpr rfl))
    have hlt : ∀ u ∈ p, u < x := fun u hu => w3 u hu x (List.mem_singleton.mpr rfl)
    rcases cl_cases ok srt hx with ⟨t, q, _, _, _, hp, _⟩ | ⟨_, hp⟩
    · by_cases z : ∃ q', b = some q' ∧ q'.length ≤ (q ++ [x]).length - 1
      · exact ⟨b, best_skip hb hlt hp fun p' e => by cases e; exact z⟩
      · refine ⟨_, best_take hb hp fun q' e => ?_⟩
        apply Nat.lt_of_not_le
        exact fun h => z ⟨q', e, h⟩
    · exact ⟨b, best_skip hb hlt hp fun p' e => by cases e⟩
theorem ring_good {n : Int} {A : List (Int × Int)} (ok : GOk n A) (srt : Srt A) {o : Option (List Int)} (ho : LRing n A o) : o.isNone = true ↔ topT n A n.toNat [] ≠ [] := by
  obtain ⟨b, hb⟩ := best_ex ok srt (nodes n) (nodes_sorted n) fun v hv => hv
  rw [← ring_same ok srt hb ho]
  exact ring_order ok hb
theorem inL_lls (o : List Int) (G : List (List Int)) : inL (lstD o) (G.map lstD) = decide (o ∈ G) := by
  unfold inL
  rw [List.any_map]
  apply Bool.eq_iff_iff.mpr
  rw [List.any_eq_true, decide_eq_true_iff]
  constructor
  · rintro ⟨q, hq, h⟩
    have h' : eqD (.lst (q.map D.int)) (.lst (o.map D.int)) = true := h
    rw [eqD_ints] at h'
    rw [← of_decide_eq_true h']
    exact hq
  · intro h
    refine ⟨o, h, ?_⟩
    show eqD (.lst (o.map D.int)) (.lst (o.map D.int)) = true
    rw [eqD_ints]
    exact decide_eq_true rfl
theorem sIf_asg {c : BT} {i : Nat} {x : XT} {E : En} {Γ : Env} (b : Bool) {d0 d1 : D} (h0 : Γ[i]? = some (some (.im d0))) (hc : ∀ Q : Bool → Prop, Q b → c Γ Q) (h1 : b = true → ∀ Q : D → Prop, Q d1 → x Γ Q) (h : E.nx (Γ.set i (some (.im (if b then d1 else d0))))) : sIf c (sAsg i x) sNext E Γ := hc _ ⟨fun z => h1 z _ (by rw [z] at h; exact h), fun z => by
  rw [z] at h
  have e : Γ.set i (some (.im d0)) = Γ := by
    obtain ⟨hi, hx⟩ := List.getElem?_eq_some_iff.mp h0
    rw [← hx, List.set_getElem_self]
  show E.nx Γ
  rw [← e]
  exact h⟩
section
variable {P : Program} {w : World} {K : Frag} {mg : Str → Option Value} {base : Heap} {C Ca Co fA fO f : Addr} {fd : FuncData}
abbrev s_law : Stmt := top 25
abbrev N_law : List Str := ["_law_script", "_law_pot_here", "_law_size", "_law_arrows_here", "_law_given", "_law_graph", "_law_known", "_law_good", "_law_order", "_law_ring_here", "_law_listing_here", "_law_due", "_law_told", "_law_spot", "_law_x", "_law_y", "_law_more"]
theorem sc_law : FnScope N_law ["_law_script"] (defScope s_law) := ⟨rfl, rfl, rfl, by decide +kernel, rfl, by decide +kernel, by decide +kernel⟩
def S_law : SP := spc (α := List Int) (fun x => [.im (.scr x)]) (fun _ => True) fun x r => r = .d (.bl true)
theorem ok_law (F : FD K "law" "law" s_law [] f fd) (T : Tx K mg C) (T2 : TxE P K mg Ca Co fA fO) (D__law_pot : Df P w K mg base "_law_pot" 3 (spP K S_pot)) (D__law_draw : DfM P w K mg base "_law_draw" 3 S_draw) (D__law_arrows : DfM P w K mg base "_law_arrows" 5 S_larrows)
    (D_Graph_1 : DcS P w K mg base "Graph" C 3 (S_initS Ca) 1 [] (fun as _ => as ++ [.im (.tup [])])) (D_Graph_2 : DcS P w K mg base "Graph" C 3 (S_initS Ca) 2 [] (fun as _ => as)) (D_Graph_1_arrows : DcS P w K mg base "Graph" C 3 (S_initS Ca) 1 ["arrows"] (fun as bs => as ++ bs))
    (D__law_orders : Df P w K mg base "_law_orders" 3 (spP K S_lorders)) (D__law_kept : Df P w K mg base "_law_kept" 3 (spP K S_kept)) (D__law_ring : Df P w K mg base "_law_ring" 3 (spP K S_lring)) (D__law_found : Df P w K mg base "_law_found" 8 (spP K (S_found C)))
    (D__law_listing : DfM P w K mg base "_law_listing" 5 S_listing) (D__law_judged : Df P w K mg base "_law_judged" 6 (spP K (S_judged C))) (D_keeps : DfX P w K mg base "keeps" 5 (spX K (S_keeps C Co))) (D__law_with : Df P w K mg base "_law_with" 5 (spP K (S_with Ca))) :
    FnOk P w K mg base CX0 (9 + 1) f fd ["_law_script"] (spP K S_law) := by
  refine fn_spc F sc_law (fun x => [some (.im (.scr x)), none, none, none, none, none, none, none, none, none, none, none, none, none, none, none, none]) fun cdv A outer s H E hr => ?_
  refine ⟨_, (ss_cons (s_asgF (i := 1) sc_law.nd (fx_call D__law_pot (hr.mono (by decide)) (ax_i (px_var 0) (ax_i px_int ax_nil))))
      (ss_cons (s_asgM (i := 2) sc_law.nd (mx_call (i := 1) D__law_draw (hr.mono (by decide)) (am_cons (mx px_int) am_nil)))
      (ss_cons (s_asgM (i := 3) sc_law.nd (mx_call (i := 1) D__law_arrows (hr.mono (by decide)) (am_cons (mx (px_var 2)) am_nil)))
      (ss_cons (s_asgF (i := 4) sc_law.nd (fx_list rfl T.list (bx_var 3)))
      (ss_cons (s_asgZ (i := 5) sc_law.nd (z_makeS takes0 D_Graph_1_arrows (hr.mono (by decide)) (ax_i (px_var 2) ax_nil) (kx_b (bx_var 4) kx_nil)))
      (ss_cons (s_app 4 (px_tup (as_cons px_int (as_cons px_int as_nil))))
      (ss_cons (s_ifZ (tz_w (tzw_or (tz_cmp (op_neD hr.units) does_ne (z_fld T.cl T.n_arrows (z_makeS takes0 D_Graph_1 (hr.mono (by decide)) (ax_i (px_var 2) ax_nil) kx_nil)) (zx (px_tup as_nil))) (tzw_or1 (tz_cmp (op_neD hr.units) does_ne (z_fld T.cl T.n_arrows (z_makeS takes0 D_Graph_2 (hr.mono (by decide)) (ax_i (px_var 2) (ax_i (px_tuple rfl T.tuple (bx_var 3)) ax_nil)) kx_nil)) (zx (px_fld T.cl T.n_arrows (bx_var 5))))))) (ss_one (s_ret px_bl)) ss_nil)
      (ss_cons (s_asg (i := 6) sc_law.nd (px_f (fx_ss hr rfl rfl T.sorted rfl T.set (bx_var 3))))
      (ss_cons (s_if (tx_w (tw_or (tx_not (tx_tru (bx (px_isi rfl T.isinstance (bx (px_fld T.cl T.n_size (bx_var 5))) (bx (px_ty (n := "int") rfl T.int (by decide +kernel))))))) (tw_or (tx_tru (bx (px_isi rfl T.isinstance (bx (px_fld T.cl T.n_size (bx_var 5))) (bx (px_ty (n := "bool") rfl T.bool (by decide +kernel)))))) (tw_or1 (tx_ne hr (bx (px_fld T.cl T.n_size (bx_var 5))) (bx_var 2)))))) (ss_one (s_ret px_bl)) ss_nil)
      (ss_cons (s_if (tx_w (tw_or (tx_not (tx_tru (bx (px_isi rfl T.isinstance (bx (px_fld T.cl T.n_arrows (bx_var 5))) (bx (px_ty (n := "tuple") rfl T.tuple (by decide +kernel))))))) (tw_or1 (tx_ne hr (bx (px_f (fx_list rfl T.list (bx (px_fld T.cl T.n_arrows (bx_var 5)))))) (bx_var 6))))) (ss_one (s_ret px_bl)) ss_nil)
      (ss_cons (s_lc (i := 7) (own := [("_law_order", 8)]) rfl sc_law.nd rfl rfl (sw_true rfl rfl rfl (by decide +kernel)) (ib_list (bx (px_call D__law_orders (hr.mono (by decide)) (ax_i (px_var 2) ax_nil)))) (blkOk_by (N := N_law) (sc := defScope s_law) (by decide +kernel)) (fun _ _ _ _ _ => (gx_name (i := 8) sc_law.nd)) (fun _ _ _ _ _ => (tts_one (tx_tru (bx (px_call D__law_kept (hr.mono (by decide)) (ax_i (px_var 6) (ax_i (px_var 8) ax_nil))))))) (fun _ _ _ _ _ => (px_var 8)))
      (ss_cons (s_asg (i := 9) sc_law.nd (px_call D__law_ring (hr.mono (by decide)) (ax_i (px_var 2) (ax_i (px_var 6) ax_nil))))
      (ss_cons (s_if (tx_w (tw_or (tx_ne hr (bx (px_is (bx_var 9) (bx px_non))) (bx (px_gt (bx (px_len rfl T.len (bx_var 7))) (bx px_int)))) (tw_or1 (tx_not (tx_tru (bx (px_call D__law_found (hr.mono (by decide)) (ax_i (px_var 5) (ax_i (px_var 7) (ax_i (px_var 9) ax_nil)))))))))) (ss_one (s_ret px_bl)) ss_nil)
      (ss_cons (s_asg (i := 10) sc_law.nd (px_callF D__law_listing (hr.mono (by decide)) (fx_call D__law_pot (hr.mono (by decide)) (ax_i (px_var 0) (ax_i px_int ax_nil))) (as_cons (px_var 2) as_nil)))
      (ss_cons (s_asg (i := 11) sc_law.nd (px_f (fx_lst (as_cons (px_tuple rfl T.tuple (bx_var 10)) (as_cons px_bl as_nil)))))
      (ss_cons (s_if (tx_eq hr (bx (px_f (fx_sortedQ hr rfl T.sorted (bx_var 10)))) (bx (px_f (fx_listRg rfl rfl T.list rfl T.range (bx px_int) (bx (px_add (bx_var 2) (bx px_int))))))) (ss_one (s_asg (i := 11) sc_law.nd (px_f (fx_lst (as_cons (px_call D__law_kept (hr.mono (by decide)) (ax_i (px_var 6) (ax_i (px_var 10) ax_nil))) as_nil))))) ss_nil)
      (ss_cons (s_if (tx_w (tw_or (tx_ne hr (bx (px_call D__law_judged (hr.mono (by decide)) (ax_i (px_var 5) (ax_i (px_f (fx_list rfl T.list (bx_var 10))) ax_nil)))) (bx_var 11)) (tw_or1 (tx_ne hr (bx (px_call D__law_judged (hr.mono (by decide)) (ax_i (px_var 5) (ax_i (px_tuple rfl T.tuple (bx_var 10)) ax_nil)))) (bx_var 11))))) (ss_one (s_ret px_bl)) ss_nil)
      (ss_cons (s_for PassesOwn.never rfl (il_list (px_call D__law_orders (hr.mono (by decide)) (ax_i (px_var 2) ax_nil))) (gx_name (i := 8) sc_law.nd) (ss_cons (s_asgZ (i := 12) sc_law.nd (zx_r (z_callX takes0 D_keeps (hr.mono (by decide)) (ax_i (px_var 5) (ax_b (bx_var 8) ax_nil)))))
      (ss_one (s_if (tx_w (tw_or (tx_not (tx_tru (bx (px_isi rfl T.isinstance (bx_var 12) (bx (px_ty (n := "bool") rfl T.bool (by decide +kernel))))))) (tw_or1 (tx_ne hr (bx_var 12) (bx (px_in hr (bx_var 8) (bx_var 7))))))) (ss_one (s_ret px_bl)) ss_nil))))
      (ss_cons (s_asgF (i := 1) sc_law.nd (fx_call D__law_pot (hr.mono (by decide)) (ax_i (px_var 0) (ax_i px_int ax_nil))))
      (ss_cons (s_asgM (i := 13) sc_law.nd (mx_call (i := 1) D__law_draw (hr.mono (by decide)) (am_cons (mx (px_add (bx (px_len rfl T.len (bx_var 3))) (bx px_int))) am_nil)))
      (ss_cons (s_asgM (i := 14) sc_law.nd (mx_bin op_sub does_I0 (mx_call (i := 1) D__law_draw (hr.mono (by decide)) (am_cons (mx (px_add (bx_var 2) (bx px_int))) am_nil)) (mx px_int)))
      (ss_cons (s_asgM (i := 15) sc_law.nd (mx_bin op_sub does_I0 (mx_call (i := 1) D__law_draw (hr.mono (by decide)) (am_cons (mx (px_add (bx_var 2) (bx px_int))) am_nil)) (mx px_int)))
      (ss_cons (s_asg (i := 16) sc_law.nd (px_f (fx_cat (bx (px_f (fx_cat (bx (px_f (fx_sl (bx_var 3) ox_no (ox_so (bx_var 13))))) (bx (px_f (fx_lst (as_cons (px_tup (as_cons (px_var 14) (as_cons (px_var 15) as_nil))) as_nil))))))) (bx (px_f (fx_sl (bx_var 3) (ox_so (bx_var 13)) ox_no))))))
      (ss_cons (s_asg (i := 11) sc_law.nd (px_f (fx_lst (as_cons (px_tup (as_cons (px_var 14) (as_cons (px_var 15) as_nil))) (as_cons px_bl as_nil)))))
      (ss_cons (s_if (tx_w (tw_and (tx_ne hr (bx_var 14) (bx_var 15)) (tw_and (tx_chain op_le does_B0 op_le does_B0 (bx px_int) (bx_var 14) (bx_var 2)) (tw_and1 (tx_chain op_le does_B0 op_le does_B0 (bx px_int) (bx_var 15) (bx_var 2)))))) (ss_one (s_asg (i := 11) sc_law.nd (px_f (fx_lst (as_cons (px_tuple rfl T.tuple (bx (px_f (fx_ss hr rfl rfl T.sorted rfl T.set (bx_var 16))))) as_nil))))) ss_nil)
      (ss_one (s_ret (px_and (bx (px_eq hr (bx (px_call D__law_with (hr.mono (by decide)) (ax_i (px_var 2) (ax_i (px_var 16) ax_nil)))) (bx_var 11))) (px_one (px_eq hr (bx (px_f (fx_list rfl T.list (bx (px_fld T.cl T.n_arrows (bx_var 5)))))) (bx_var 6))))))))))))))))))))))))))))))), ?_⟩
  rintro ns R _ hR
  walk_at "s"
  refine ⟨(ns, 0), rfl, Int.le_refl 0, ?_⟩
  rintro _ ⟨z, hz, rfl⟩
  dsimp only
  intro l hl
  refine ⟨⟨_, _, .inr rfl⟩, drawS hz (by decide) (by decide) fun n z hz hn0 hn6 => ⟨⟨_, _, .inr rfl⟩, (z, n), rfl, rfl, ⟨hz, hn0, by dsimp only; omega⟩, ?_⟩⟩
  rintro _ z ⟨hz, A0, hA0, ok0, rfl⟩
  dsimp only at ok0
  have hn : n ≤ 5 := by omega
  simp only [Rs.dat]
  intro l2 hl2
  have nob : ∀ B : List (Int × Int), (∀ p ∈ B, badA n p = false) → ∀ p, B.find? (badA n) = some p → False := fun B h p hp => by
    have z := List.find?_some hp
    rw [h p (List.mem_of_find?_eq_some hp)] at z
    cases z
  have ng0 : ∀ p ∈ A0, badA n p = false := fun p hp => badA_ok.mpr (ok0 p hp)
  refine ⟨((n, A0), 1), rfl, by dsimp only; omega, ?_, fun C' fs ⟨p, hp, _⟩ => (nob A0 ng0 p hp).elim⟩
  rintro _ ⟨_, A, srt, hAm, hAl, rfl⟩
  dsimp only at hAm hAl
  have ok : GOk n A := fun p hp => ok0 p ((hAm p).mp hp)
  have hgr : D.obj C (grF n A) = grD C n A := rfl
  simp only [hgr]
  refine ⟨by decide, by rw [List.length_map]; exact sz' (by omega), ?_⟩
  refine sIfZ_by0 false (fun Q hQ => ?_) (fun z => by cases z) fun _ => ?_
  · walk_at "r"
    refine ⟨((n, []), 2), rfl, Nat.zero_le _, ?_, fun C' fs ⟨p, hp, _⟩ => (by cases hp)⟩
    rintro _ ⟨_, S1, srt1, hm1, _, rfl⟩
    have e1 : S1 = [] := List.eq_nil_iff_forall_not_mem.mpr fun p hp => by cases (hm1 p).mp hp
    subst e1
    refine ⟨by decide, by decide, by decide, fun z => absurd z (by decide), fun _ => ?_⟩
    refine ⟨((n, A0), 2), rfl, by dsimp only; omega, ?_, fun C' fs ⟨p, hp, _⟩ => (nob A0 ng0 p hp).elim⟩
    rintro _ ⟨_, S2, srt2, hm2, _, rfl⟩
    have e2 : S2 = A := srt_ext srt2 srt fun p => (hm2 p).trans (hAm p).symm
    subst e2
    refine ⟨sh_tprs _, sh_tprs _, ?_⟩
    rw [eqD_refl60 (sh_tprs _)]
    exact hQ
  walk_at "s"
  have bd0 : ∀ p ∈ A0, (0 ≤ p.1 ∧ p.1 < 64) ∧ (0 ≤ p.2 ∧ p.2 < 64) := fun p hp => by
    obtain ⟨h1, h2, _⟩ := ok0 p hp
    have := mem_nodes.mp h1
    have := mem_nodes.mp h2
    omega
  refine ⟨A0.map fun p => [p.1, p.2], 2, 64, ?_, by rw [List.length_map]; omega, by decide, fun k hk => ?_, fun ls nd hm pw => ?_⟩
  · rw [List.map_map]
    rfl
  · obtain ⟨p, hp, rfl⟩ := List.mem_map.mp hk
    refine ⟨rfl, ?_⟩
    obtain ⟨b1, b2⟩ := bd0 p hp
    intro v hv
    rcases List.mem_cons.mp hv with rfl | hv
    · omega
    · rcases List.mem_cons.mp hv with rfl | hv
      · omega
      · cases hv
  rw [ss_pairs2 bd0 srt hAm nd hm pw]
  refine sIf_by false (fun Q hQ => ?_) (fun z => by cases z) fun _ => ?_
  · walk_at "r"
    refine ⟨_, _, rfl, kit_ii, fun z => (by cases z), fun _ => ⟨_, _, rfl, kit_ib, fun z => (by cases z), fun _ => ?_⟩⟩
    rw [beq_self_eq_true]
    exact hQ
  walk_at "s"
  have shL : D.sh 60 (.lst (A.map prD)) = true := sh_prs 58 A
  refine sIf_by false (fun Q hQ => ?_) (fun z => by cases z) fun _ => ?_
  · walk_at "r"
    refine ⟨_, _, rfl, kit_tt, fun z => (by cases z), fun _ => ⟨shL, shL, ?_⟩⟩
    rw [eqD_refl60 shL]
    exact hQ
  walk_at "s"
  refine ⟨n, rfl, ⟨hn0, hn⟩, ?_⟩
  rintro _ rfl
  have hol : (lawOrd n n.toNat).length ≤ 3125 := Nat.le_trans (lawOrd_len hn _) (Nat.pow_le_pow_right (n := 5) (j := 5) (by decide) (by omega))
  refine lcbF (keptB A) lstD (Nat.le_trans hol (by decide)) (fun o ho => ?_) ?_
  · walk_at "r"
    have hline := lawOrd_line ho
    refine ⟨(A, o), rfl, ⟨by dsimp only; omega, fun p hp => ⟨(hline.2 _).mpr (ok p hp).1, (hline.2 _).mpr (ok p hp).2.1⟩⟩, ?_⟩
    rintro _ rfl
    simp only [Rs.dat]
    exact ⟨fun h => by rw [if_pos h], fun h => by rw [h]; rfl⟩
  have hGl : (topT n A n.toNat []).length ≤ 3125 := by rw [← good_eq ok]; exact Nat.le_trans (List.length_filter_le _ _) hol
  have hGm : ∀ o, o ∈ topT n A n.toNat [] ↔ o ∈ lawOrd n n.toNat ∧ keptB A o = true := fun o => by rw [← good_eq ok, List.mem_filter]
  rw [good_eq ok]
  have hlA : A.length ≤ 500 := by omega
  refine ⟨(n, A), rfl, ⟨hlA, hn0, hn⟩, ?_⟩
  rintro r ⟨o, hro, hr⟩
  dsimp only at hro
  simp only [hr]
  have hrg := ring_good ok srt hro
  refine sIf_by false (fun Q hQ => ?_) (fun z => by cases z) fun _ => ?_
  · walk_at "r"
    have hlen : decide (0 < ((topT n A n.toNat []).length : Int)) = o.isNone := by
      by_cases z : topT n A n.toNat [] = []
      · have z2 : o.isNone = false := by
          cases e : o.isNone with
          | false => rfl
          | true => exact absurd z (hrg.mp e)
        rw [z2, z]
        rfl
      · rw [hrg.mpr z]
        exact decide_eq_true (Int.natCast_pos.mpr (List.length_pos_iff.mpr z))
    simp only [hlen]
    cases o with
    | none =>
      refine ⟨by decide, by decide, fun z => absurd z (by decide), fun _ => ⟨((n, A), none), rfl, ⟨hlA, hn0, hn, ok, srt, hro⟩, ?_⟩⟩
      rintro _ rfl
      exact hQ
    | some q =>
      refine ⟨rfl, rfl, fun z => (by cases z), fun _ => ⟨((n, A), some q), rfl, ⟨hlA, hn0, hn, ok, srt, hro⟩, ?_⟩⟩
      rintro _ rfl
      exact hQ
  walk_at "s"
  refine ⟨(ns, 1), rfl, (by decide : (0 : Int) ≤ 1), ?_⟩
  rintro _ ⟨z1, hz1, rfl⟩
  dsimp only
  refine ⟨(z1, n), rfl, rfl, ⟨hz1, hn0, hn⟩, ?_⟩
  rintro r2 z2 ⟨hz2, L, hL, hr2⟩
  simp only [hr2]
  simp only [lstD]
  refine ⟨by decide, ?_⟩
  refine sIf_asg (lineB n L) (d1 := .lst [.bl (keptB A L)]) rfl (fun Q hQ => ?_) (fun hb Q hQ => ?_) ?_
  · walk_at "r"
    refine ⟨ints59 L, ints_alk L, ⟨by decide, by decide, by omega, by omega⟩, by rw [sort_ints]; exact sh60_ints _, ?_⟩
    rw [sort_ints, eqD_ints]
    exact hQ
  · walk_at "r"
    have hline := lineB_iff.mp hb
    refine ⟨(A, L), rfl, ⟨hlA, fun p hp => ⟨(hline.2 _).mpr (ok p hp).1, (hline.2 _).mpr (ok p hp).2.1⟩⟩, ?_⟩
    rintro _ rfl
    exact ⟨by decide, hQ⟩
  walk_at "s"
  generalize hdue : (if lineB n L = true then D.lst [.bl (keptB A L)] else D.lst [.tup (L.map D.int), .bl false]) = due
  have shd : D.sh 60 due = true := by
    rw [← hdue]
    cases lineB n L with
    | true => rfl
    | false =>
      show (D.sh 59 (.tup (L.map D.int)) && (D.sh 59 (.bl false) && true)) = true
      have e : D.sh 59 (.tup (L.map D.int)) = true := sh_ints 58 L
      rw [e]
      rfl
  have hj : ∀ d : D, ((IsLine n L ∧ d = .lst [.bl (keptB A L)]) ∨ (¬ IsLine n L ∧ d = .lst [.tup (L.map D.int), .bl false])) → d = due := fun d h => by
    rw [← hdue]
    rcases h with ⟨h1, rfl⟩ | ⟨h1, rfl⟩
    · rw [if_pos (lineB_iff.mpr h1)]
    · rw [if_neg fun z => h1 (lineB_iff.mp z)]
  have shG : D.sh 60 (.lst ((topT n A n.toNat []).map lstD)) = true := by
    show (List.map lstD _).all (D.sh 59) = true
    rw [List.all_map, List.all_eq_true]
    intro o _
    exact sh_ints 58 o
  have hL5 : L.length ≤ 500 := by omega
  have hn5 : n ≤ 500 := by omega
  refine sIf_by false (fun Q hQ => ?_) (fun z => by cases z) fun _ => ?_
  · walk_at "r"
    refine ⟨(((n, A), L), false), rfl, ⟨hlA, hn0, hn5, ok, hL5⟩, ?_⟩
    intro r3 h3
    rw [hj _ h3]
    refine ⟨shd, shd, fun z => (by rw [eqD_refl60 shd] at z; cases z), fun _ => ?_⟩
    refine ⟨(((n, A), L), true), rfl, ⟨hlA, hn0, hn5, ok, hL5⟩, ?_⟩
    intro r3 h3
    rw [hj _ h3]
    refine ⟨shd, shd, ?_⟩
    rw [eqD_refl60 shd]
    exact hQ
  walk_at "s"
  refine ⟨n, rfl, ⟨hn0, hn⟩, ?_⟩
  rintro _ rfl
  refine forb (fun pre Γ => ∃ d8 d12 : Option D, Γ = [some (.im (.scr ns)), some (.ml l z), some (.im (.int n)), some (.im (.lst (A0.map prD))), some (.ml l2 (A0.map prD ++ [.tup [.int 0, .int 0]])), some (.im (grD C n A)), some (.im (.lst (A.map prD))), some (.im (.lst ((topT n A n.toNat []).map lstD))), d8.map Slot.im, some (.im (optL o).dat), some (.im (.lst (L.map D.int))), some (.im due), d12.map Slot.im, none, none, none, none]) ⟨none, none, rfl⟩ ?_ ?_
  · rintro pre x post Γ hx ⟨d8, d12, rfl⟩
    have hxm : x ∈ lawOrd n n.toNat := by rw [hx]; exact List.mem_append_right _ (List.mem_cons_self ..)
    have hxl := lawOrd_line hxm
    walk_at "s"
    refine ⟨by cases d8 <;> rfl, ?_⟩
    have hxlen : x.length ≤ 500 := by rw [line_len hxl]; omega
    refine ⟨(((n, A), x), false), rfl, ⟨hlA, hn0, hn5, ok, hxlen⟩, ?_, fun C' fs ⟨nl, _⟩ => nl hxl⟩
    rintro _ ⟨_, rfl⟩
    refine sIf_by false (fun Q hQ => ?_) (fun z => by cases z) fun _ => ?_
    · walk_at "r"
      refine ⟨_, _, rfl, kit_bb, fun z => (by cases z), fun _ => ?_⟩
      rw [inL_lls]
      have e : decide (x ∈ topT n A n.toNat []) = keptB A x := by
        apply Bool.eq_iff_iff.mpr
        rw [decide_eq_true_iff, hGm x]
        exact ⟨fun h => h.2, fun h => ⟨hxm, h⟩⟩
      rw [e]
      refine ⟨sh60_ints x, shG, rfl, rfl, ?_⟩
      have e2 : eqD (.bl (keptB A x)) (.bl (keptB A x)) = true := eqD_refl60 rfl
      show Q (!eqD (.bl (keptB A x)) (.bl (keptB A x)))
      rw [e2]
      exact hQ
    · walk_at "s"
      exact ⟨some (lstD x), some (.bl (keptB A x)), rfl⟩
  · rintro _ ⟨d8, d12, rfl⟩
    walk_at "s"
    refine ⟨(ns, 2), rfl, (by decide : (0 : Int) ≤ 2), ?_⟩
    rintro _ ⟨z3, hz3, rfl⟩
    dsimp only
    intro l3 hl3
    refine ⟨⟨_, _, .inr rfl⟩, drawS hz3 (by omega) (by omega) fun sp z4 hz4 hs0 hs1 => ⟨⟨_, _, .inr rfl⟩, drawS hz4 (by omega) (by omega) fun x z5 hz5 hx0 hx1 => ⟨⟨_, _, .inr rfl⟩, drawS hz5 (by omega) (by omega) fun y z6 hz6 hy0 hy1 => ?_⟩⟩⟩
    simp only [Rs.dat]
    generalize hX : x - 1 = X
    generalize hY : y - 1 = Y
    obtain ⟨k, rfl⟩ : ∃ k : Nat, sp = k := ⟨sp.toNat, by omega⟩
    have hk : k ≤ (A0.map prD).length := by rw [List.length_map]; omega
    rw [cut_take _ _ hk, cut_drop _ _ hk]
    have hM : (A0.map prD).take k ++ [.tup [.int X, .int Y]] ++ (A0.map prD).drop k = (A0.take k ++ [(X, Y)] ++ A0.drop k).map prD := by
      simp [prD]
    have hMm : ∀ p, p ∈ A0.take k ++ [(X, Y)] ++ A0.drop k ↔ p ∈ A0 ∨ p = (X, Y) := fun p => by
      conv => rhs; rw [← List.take_append_drop k A0]
      simp only [List.mem_append, List.mem_singleton]
      constructor
      · rintro ((h | h) | h)
        · exact .inl (.inl h)
        · exact .inr h
        · exact .inl (.inr h)
      · rintro ((h | h) | h)
        · exact .inl (.inl h)
        · exact .inr h
        · exact .inl (.inr h)
    have hMl : (A0.take k ++ [(X, Y)] ++ A0.drop k).length = A0.length + 1 := by
      have := congrArg List.length (List.take_append_drop k A0)
      simp only [List.length_append, List.length_singleton] at this ⊢
      omega
    rw [hM]
    generalize hMe : A0.take k ++ [(X, Y)] ++ A0.drop k = M at hMm hMl hM ⊢
    obtain ⟨df1, df2, df3⟩ := ddA_facts M
    have hS : Srt ((ddA M).mergeSort leP) := sort_srt df1
    have hSm : ∀ p, p ∈ (ddA M).mergeSort leP ↔ p ∈ M := fun p => by rw [(List.mergeSort_perm _ _).mem_iff]; exact df2 p
    generalize (ddA M).mergeSort leP = S at hS hSm
    have s1 : ((A0.map prD).take k).length ≤ 12 := by rw [List.length_take, List.length_map]; omega
    have s2 : ((A0.map prD).drop k).length ≤ 12 := by rw [List.length_drop, List.length_map]; omega
    refine ⟨by decide, by decide, sz (by omega), sz (by rw [List.length_append]; simp only [List.length_singleton]; omega), by decide, by decide, ?_⟩
    refine sIf_asg (!badA n (X, Y)) (d1 := .lst [.tup (S.map prD)]) rfl (fun Q hQ => ?_) (fun hb Q hQ => ?_) ?_
    · walk_at "r"
      unfold badA at hQ
      dsimp only at hQ
      revert hQ
      cases (X == Y) <;> cases decide (1 ≤ X) <;> cases decide (X ≤ n) <;> cases decide (1 ≤ Y) <;> cases decide (Y ≤ n) <;> simp
    · walk_at "r"
      have hb' : badA n (X, Y) = false := by simpa using hb
      have okM : ∀ p ∈ M, p.1 ∈ nodes n ∧ p.2 ∈ nodes n ∧ p.1 ≠ p.2 := fun p hp => by
        rcases (hMm p).mp hp with h | h
        · exact ok0 p h
        · rw [h]; exact badA_ok.mp hb'
      have bdM : ∀ p ∈ M, (0 ≤ p.1 ∧ p.1 < 64) ∧ (0 ≤ p.2 ∧ p.2 < 64) := fun p hp => by
        obtain ⟨h1, h2, _⟩ := okM p hp
        have := mem_nodes.mp h1
        have := mem_nodes.mp h2
        omega
      refine ⟨M.map fun p => [p.1, p.2], 2, 64, ?_, by rw [List.length_map]; omega, by decide, fun k hk => ?_, fun ls nd hm pw => ?_⟩
      · rw [List.map_map]
        rfl
      · obtain ⟨p, hp, rfl⟩ := List.mem_map.mp hk
        refine ⟨rfl, ?_⟩
        obtain ⟨b1, b2⟩ := bdM p hp
        intro v hv
        rcases List.mem_cons.mp hv with rfl | hv
        · omega
        · rcases List.mem_cons.mp hv with rfl | hv
          · omega
          · cases hv
      · rw [ss_pairs2 bdM hS hSm nd hm pw]
        exact ⟨by decide, hQ⟩
    walk_at "s"
    have fin : ∀ d : D, D.sh 60 d = true → D.sh 60 d = true ∧ D.sh 60 d = true ∧ (eqD d d = true → D.sh 60 (D.lst (List.map prD A)) = true ∧ D.sh 60 (D.lst (List.map prD A)) = true ∧ R (Rs.d (D.bl (eqD (D.lst (List.map prD A)) (D.lst (List.map prD A)))))) ∧ (eqD d d = false → R (Rs.d (D.bl false))) := fun d hd => ⟨hd, hd, fun _ => ⟨shL, shL, by rw [eqD_refl60 shL]; exact hR _ rfl⟩, fun z => (by rw [eqD_refl60 hd] at z; cases z)⟩
    refine ⟨(n, M), rfl, by dsimp only; omega, ?_⟩
    rintro r5 (⟨h1, S', hS', hSm', hd⟩ | ⟨p, hp, hd⟩)
    · dsimp only at h1 hSm'
      have hb : badA n (X, Y) = false := h1 _ ((hMm _).mpr (.inr rfl))
      have e : S' = S := srt_ext hS' hS fun p => (hSm' p).trans (hSm p).symm
      rw [hd, hb, e]
      exact fin (.lst [.tup (S.map prD)]) (by
        show (D.sh 59 (.tup (S.map prD)) && true) = true
        have := sh_prs 57 S
        rw [Bool.and_true]
        exact this)
    · dsimp only at hp
      have pb := List.find?_some hp
      have pm := List.mem_of_find?_eq_some hp
      have e : p = (X, Y) := by
        rcases (hMm p).mp pm with h | h
        · rw [ng0 p h] at pb; cases pb
        · exact h
      subst e
      rw [hd, pb]
      exact fin (.lst [prD (X, Y), .bl false]) rfl
end
end Kb
set_option Elab.async false
set_option linter.all false
set_option maxRecDepth 100000
set_option maxHeartbeats 0
namespace Kb
open PySem PySem.Spec PyProof.Rows L2
set_option autoImplicit false
theorem law_start {K : PySem.W.Frag} {H : Hp} {a : Addr} {ns : List Int} {E : XK} (hS : SqL K H a (ns.map V.int)) : spP K S_law [.ref a] H (fun v _ => v = .bl true) E := by
  have e : hid [] H = H := by
    funext x
    exact hid_ni (by simp)
  refine ⟨[], [.im (.scr ns)], .cons ?_ rfl .nil, fun x m => (by cases m), ns, rfl, trivial, ?_⟩
  · show Rep K (hid [] H) (.ref a) (.scr ns)
    rw [e]
    exact .scr hS
  · rintro _ rfl v H' _ ro
    have r : Rep K (hid [] H') v (.bl true) := ro
    cases r
    rfl
def d_is_order : He.DefD := ⟨("is_order", none), "is_order", "is_order", defArgs (top 5), defBody (top 5), defScope (top 5), [], []⟩
def d_broken : He.DefD := ⟨("broken", none), "broken", "broken", defArgs (top 6), defBody (top 6), defScope (top 6), [], []⟩
def d_keeps : He.DefD := ⟨("keeps", none), "keeps", "keeps", defArgs (top 7), defBody (top 7), defScope (top 7), [], []⟩
def d_free_nodes : He.DefD := ⟨("free_nodes", none), "free_nodes", "free_nodes", defArgs (top 8), defBody (top 8), defScope (top 8), [], []⟩
def d_completed : He.DefD := ⟨("completed", none), "completed", "completed", defArgs (top 9), defBody (top 9), defScope (top 9), [], []⟩
def d_first_order : He.DefD := ⟨("first_order", none), "first_order", "first_order", defArgs (top 10), defBody (top 10), defScope (top 10), [], []⟩
def d_Graph___init__ : He.DefD := ⟨("Graph", some "__init__"), "__init__", "Graph.__init__", defArgs (inClass (top 12) 0), defBody (inClass (top 12) 0), defScope (inClass (top 12) 0), [.adr (He.dflAt ("Graph", some "__init__") 0)], []⟩
def d_Graph_followers : He.DefD := ⟨("Graph", some "followers"), "followers", "Graph.followers", defArgs (inClass (top 12) 1), defBody (inClass (top 12) 1), defScope (inClass (top 12) 1), [], []⟩
def d_Graph_steps_to : He.DefD := ⟨("Graph", some "steps_to"), "steps_to", "Graph.steps_to", defArgs (inClass (top 12) 2), defBody (inClass (top 12) 2), defScope (inClass (top 12) 2), [], []⟩
def d_Graph_enters : He.DefD := ⟨("Graph", some "enters"), "enters", "Graph.enters", defArgs (inClass (top 12) 3), defBody (inClass (top 12) 3), defScope (inClass (top 12) 3), [], []⟩
def d_Graph_path : He.DefD := ⟨("Graph", some "path"), "path", "Graph.path", defArgs (inClass (top 12) 4), defBody (inClass (top 12) 4), defScope (inClass (top 12) 4), [], []⟩
def d_Graph_ring : He.DefD := ⟨("Graph", some "ring"), "ring", "Graph.ring", defArgs (inClass (top 12) 5), defBody (inClass (top 12) 5), defScope (inClass (top 12) 5), [], []⟩
def d__law_pot : He.DefD := ⟨("_law_pot", none), "_law_pot", "_law_pot", defArgs (top 14), defBody (top 14), defScope (top 14), [], []⟩
def d__law_draw : He.DefD := ⟨("_law_draw", none), "_law_draw", "_law_draw", defArgs (top 15), defBody (top 15), defScope (top 15), [], []⟩
def d__law_orders : He.DefD := ⟨("_law_orders", none), "_law_orders", "_law_orders", defArgs (top 16), defBody (top 16), defScope (top 16), [], []⟩
def d__law_lined : He.DefD := ⟨("_law_lined", none), "_law_lined", "_law_lined", defArgs (top 17), defBody (top 17), defScope (top 17), [], []⟩
def d__law_arrows : He.DefD := ⟨("_law_arrows", none), "_law_arrows", "_law_arrows", defArgs (top 18), defBody (top 18), defScope (top 18), [], []⟩
def d__law_kept : He.DefD := ⟨("_law_kept", none), "_law_kept", "_law_kept", defArgs (top 19), defBody (top 19), defScope (top 19), [], []⟩
def d__law_ring : He.DefD := ⟨("_law_ring", none), "_law_ring", "_law_ring", defArgs (top 20), defBody (top 20), defScope (top 20), [], []⟩
def d__law_listing : He.DefD := ⟨("_law_listing", none), "_law_listing", "_law_listing", defArgs (top 21), defBody (top 21), defScope (top 21), [], []⟩
def d__law_judged : He.DefD := ⟨("_law_judged", none), "_law_judged", "_law_judged", defArgs (top 22), defBody (top 22), defScope (top 22), [], []⟩
def d__law_with : He.DefD := ⟨("_law_with", none), "_law_with", "_law_with", defArgs (top 23), defBody (top 23), defScope (top 23), [], []⟩
def d__law_found : He.DefD := ⟨("_law_found", none), "_law_found", "_law_found", defArgs (top 24), defBody (top 24), defScope (top 24), [], []⟩
def d_law : He.DefD := ⟨("law", none), "law", "law", defArgs (top 25), defBody (top 25), defScope (top 25), [], []⟩
def e_InvalidOrder : ErrD := ⟨"InvalidOrder", "InvalidOrder.__init__", defArgs (inClass (top 2) 0), defBody (inClass (top 2) 0), defScope (inClass (top 2) 0), ["listing"]⟩
def e_InvalidArrow : ErrD := ⟨"InvalidArrow", "InvalidArrow.__init__", defArgs (inClass (top 3) 0), defBody (inClass (top 3) 0), defScope (inClass (top 3) 0), ["arrow"]⟩
def fnH : List He.DefD := [d_is_order, d_broken, d_keeps, d_free_nodes, d_completed, d_first_order, d_Graph___init__, d_Graph_followers, d_Graph_steps_to, d_Graph_enters, d_Graph_path, d_Graph_ring, d__law_pot, d__law_draw, d__law_orders, d__law_lined, d__law_arrows, d__law_kept, d__law_ring, d__law_listing, d__law_judged, d__law_with, d__law_found, d_law]
def faH : List He.Fa := [.glo "Graph", .glo "InvalidOrder", .glo "InvalidArrow", .glo "is_order", .glo "broken", .glo "keeps", .glo "free_nodes", .glo "completed", .glo "first_order", .glo "_law_pot", .glo "_law_draw", .glo "_law_orders", .glo "_law_lined", .glo "_law_arrows", .glo "_law_kept", .glo "_law_ring", .glo "_law_listing", .glo "_law_judged", .glo "_law_with", .glo "_law_found", .glo "law", .free "abs", .free "all", .free "any", .free "enumerate", .free "bool", .free "int", .free "isinstance", .free "len", .free "list", .free "min", .free "range", .free "set", .free "sorted", .free "tuple", .free "super", .cls "Graph", .noat "Graph" "size", .noat "Graph" "arrows", .meth "Graph" "followers", .meth "Graph" "steps_to", .meth "Graph" "enters", .meth "Graph" "path", .meth "Graph" "ring", .mkr "Graph", .exm "InvalidArrow" "InvalidArrow" true, .exm "InvalidOrder" "InvalidOrder" true]
def erH : List ErrD := [e_InvalidOrder, e_InvalidArrow]
def kiH : List (Str × Str × Bool) := [("InvalidArrow", "InvalidOrder", false), ("InvalidOrder", "InvalidArrow", false)]
def bsH (K : PySem.W.Frag) : Bool := tuE K (He.dflAt ("Graph", some "__init__") 0 K)
abbrev RowH : PySem.W.OpenRow := PySem.W.OpenLaw.row PySem.Challenge.rw_keptbase_k62_rings_or_first_order
abbrev fileH : Str := PySem.Challenge.pw_keptbase_k62_rings_or_first_order.main.file
abbrev hkH : PySem.W.Hook := hookX 5 faH fnH erH kiH fileH bsH
def obH (s : PySem.W.SharedT) : AlE := obX 5 faH fnH erH kiH fileH bsH (HandSHeadRun.getT s)
theorem obH_eq (s : PySem.W.SharedT) : obH s = hkH.obs s.abs := obX_eq (HandSHeadRun.getT_eq s)
theorem runH (w : World) : HandSHeadRun.RunEq RowH (PySem.W.view RowH.prog [25]) hkH obH 3000 ["KeptError", "InvalidOrder", "InvalidArrow", "is_order", "broken", "keeps", "free_nodes", "completed", "first_order", "Graph", "_law_pot", "_law_draw", "_law_orders", "_law_lined", "_law_arrows", "_law_kept", "_law_ring", "_law_listing", "_law_judged", "_law_with", "_law_found"] w := by
  intro os
  kernel_rfl
theorem in_InvalidOrder : ErrIn (PySem.Challenge.rw_keptbase_k62_rings_or_first_order).prog e_InvalidOrder fileH where
  top := by kernel_rfl
  file := by kernel_rfl
  body := ⟨_, _, _, _, _, _, _, _, [("listing", _, _, _, _)], rfl, rfl, rfl⟩
  self := ⟨_, rfl, rfl⟩
  s1 := by rfl
  s2 := by rfl
  s3 := by rfl
  s4 := fun f hf => by
    simp only [e_InvalidOrder, List.mem_cons, List.not_mem_nil, or_false] at hf
    subst hf
    rfl
  s5 := by rfl
  s6 := by decide +kernel
  s7 := by rfl
  s8 := by rfl
  binds := fun _ _ _ _ _ _ _ _ us hl => match us, hl with | [_], _ => rfl
  f1 := by decide +kernel
  f2 := by decide +kernel
  f3 := by decide +kernel
  f4 := by decide +kernel
theorem in_InvalidArrow : ErrIn (PySem.Challenge.rw_keptbase_k62_rings_or_first_order).prog e_InvalidArrow fileH where
  top := by kernel_rfl
  file := by kernel_rfl
  body := ⟨_, _, _, _, _, _, _, _, [("arrow", _, _, _, _)], rfl, rfl, rfl⟩
  self := ⟨_, rfl, rfl⟩
  s1 := by rfl
  s2 := by rfl
  s3 := by rfl
  s4 := fun f hf => by
    simp only [e_InvalidArrow, List.mem_cons, List.not_mem_nil, or_false] at hf
    subst hf
    rfl
  s5 := by rfl
  s6 := by decide +kernel
  s7 := by rfl
  s8 := by rfl
  binds := fun _ _ _ _ _ _ _ _ us hl => match us, hl with | [_], _ => rfl
  f1 := by decide +kernel
  f2 := by decide +kernel
  f3 := by decide +kernel
  f4 := by decide +kernel
theorem factsH {w : World} {K : PySem.W.Frag} {h : Heap} {mg : Str → Option Value} {f : Addr} (X : K.In h) (G : h.Ns mainGlobals mg) (hfa : mg ("law" : Str) = some (.ref f)) (c : SaysX faH fnH erH kiH fileH bsH K) :
    ∃ fd : FuncData, (∀ (s : Shared) (v : Value), BindsTo s fd ⟨[v], []⟩ [("_law_script", v)]) ∧ ∀ base : Heap, K.In base → base.Ns mainGlobals mg → FnOk (PySem.Challenge.rw_keptbase_k62_rings_or_first_order).prog w K mg base CX0 10 f fd ["_law_script"] (spP K S_law) := by
  have T : Tx K mg (He.ga K "Graph") := ⟨He.cls_ok (c.d.fact 36 (f := .cls "Graph") rfl), He.noat_ok (c.d.fact 37 (f := .noat "Graph" "size") rfl), He.noat_ok (c.d.fact 38 (f := .noat "Graph" "arrows") rfl), He.free_ok X G (c.d.fact 21 (f := .free "abs") rfl), He.free_ok X G (c.d.fact 22 (f := .free "all") rfl), He.free_ok X G (c.d.fact 23 (f := .free "any") rfl), He.free_ok X G (c.d.fact 24 (f := .free "enumerate") rfl), He.free_ok X G (c.d.fact 25 (f := .free "bool") rfl), He.free_ok X G (c.d.fact 26 (f := .free "int") rfl), He.free_ok X G (c.d.fact 27 (f := .free "isinstance") rfl), He.free_ok X G (c.d.fact 28 (f := .free "len") rfl), He.free_ok X G (c.d.fact 29 (f := .free "list") rfl), He.free_ok X G (c.d.fact 30 (f := .free "min") rfl), He.free_ok X G (c.d.fact 31 (f := .free "range") rfl), He.free_ok X G (c.d.fact 32 (f := .free "set") rfl), He.free_ok X G (c.d.fact 33 (f := .free "sorted") rfl), He.free_ok X G (c.d.fact 34 (f := .free "tuple") rfl)⟩
  obtain ⟨t_InvalidOrder, r_InvalidOrder, x_InvalidOrder⟩ := ErrD.facts (P := (PySem.Challenge.rw_keptbase_k62_rings_or_first_order).prog) X G (c.d.fact 1 (f := .glo "InvalidOrder") rfl) (c.d.fact 35 (f := .free "super") rfl) in_InvalidOrder (c.erd 0 (d := e_InvalidOrder) rfl)
  obtain ⟨t_InvalidArrow, r_InvalidArrow, x_InvalidArrow⟩ := ErrD.facts (P := (PySem.Challenge.rw_keptbase_k62_rings_or_first_order).prog) X G (c.d.fact 2 (f := .glo "InvalidArrow") rfl) (c.d.fact 35 (f := .free "super") rfl) in_InvalidArrow (c.erd 1 (d := e_InvalidArrow) rfl)
  have T2 : TxE (PySem.Challenge.rw_keptbase_k62_rings_or_first_order).prog K mg (He.ga K "InvalidArrow") (He.ga K "InvalidOrder") (eInit K "InvalidArrow") (eInit K "InvalidOrder") := ⟨t_InvalidArrow, t_InvalidOrder, r_InvalidArrow "arrow" (by decide +kernel), r_InvalidOrder "listing" (by decide +kernel), x_InvalidArrow, x_InvalidOrder, He.exm_ok (c.d.fact 45 (f := .exm "InvalidArrow" "InvalidArrow" true) rfl), He.exm_ok (c.d.fact 46 (f := .exm "InvalidOrder" "InvalidOrder" true) rfl), c.kit 0 (q := ("InvalidArrow", "InvalidOrder", false)) rfl, c.kit 1 (q := ("InvalidOrder", "InvalidArrow", false)) rfl⟩
  obtain ⟨fd_is_order, F_is_order⟩ := c.d.def_ 0 (d := d_is_order) rfl
  obtain ⟨fd_broken, F_broken⟩ := c.d.def_ 1 (d := d_broken) rfl
  obtain ⟨fd_keeps, F_keeps⟩ := c.d.def_ 2 (d := d_keeps) rfl
  obtain ⟨fd_free_nodes, F_free_nodes⟩ := c.d.def_ 3 (d := d_free_nodes) rfl
  obtain ⟨fd_completed, F_completed⟩ := c.d.def_ 4 (d := d_completed) rfl
  obtain ⟨fd_first_order, F_first_order⟩ := c.d.def_ 5 (d := d_first_order) rfl
  obtain ⟨fd_Graph___init__, F_Graph___init__⟩ := c.d.def_ 6 (d := d_Graph___init__) rfl
  obtain ⟨fd_Graph_followers, F_Graph_followers⟩ := c.d.def_ 7 (d := d_Graph_followers) rfl
  obtain ⟨fd_Graph_steps_to, F_Graph_steps_to⟩ := c.d.def_ 8 (d := d_Graph_steps_to) rfl
  obtain ⟨fd_Graph_enters, F_Graph_enters⟩ := c.d.def_ 9 (d := d_Graph_enters) rfl
  obtain ⟨fd_Graph_path, F_Graph_path⟩ := c.d.def_ 10 (d := d_Graph_path) rfl
  obtain ⟨fd_Graph_ring, F_Graph_ring⟩ := c.d.def_ 11 (d := d_Graph_ring) rfl
  obtain ⟨fd__law_pot, F__law_pot⟩ := c.d.def_ 12 (d := d__law_pot) rfl
  obtain ⟨fd__law_draw, F__law_draw⟩ := c.d.def_ 13 (d := d__law_draw) rfl
  obtain ⟨fd__law_orders, F__law_orders⟩ := c.d.def_ 14 (d := d__law_orders) rfl
  obtain ⟨fd__law_lined, F__law_lined⟩ := c.d.def_ 15 (d := d__law_lined) rfl
  obtain ⟨fd__law_arrows, F__law_arrows⟩ := c.d.def_ 16 (d := d__law_arrows) rfl
  obtain ⟨fd__law_kept, F__law_kept⟩ := c.d.def_ 17 (d := d__law_kept) rfl
  obtain ⟨fd__law_ring, F__law_ring⟩ := c.d.def_ 18 (d := d__law_ring) rfl
  obtain ⟨fd__law_listing, F__law_listing⟩ := c.d.def_ 19 (d := d__law_listing) rfl
  obtain ⟨fd__law_judged, F__law_judged⟩ := c.d.def_ 20 (d := d__law_judged) rfl
  obtain ⟨fd__law_with, F__law_with⟩ := c.d.def_ 21 (d := d__law_with) rfl
  obtain ⟨fd__law_found, F__law_found⟩ := c.d.def_ 22 (d := d__law_found) rfl
  obtain ⟨fd_law, F_law⟩ := c.d.def_ 23 (d := d_law) rfl
  have e := hfa.symm.trans (He.glo_ok X G (c.d.fact 20 (f := .glo "law") rfl))
  cases e
  have b := FunD.bindsA (ps := ["_law_script"]) F_law fun _ _ _ _ _ _ us hl => match us, hl with | [_], _ => rfl
  refine ⟨fd_law, fun s v => b s [v] rfl, fun base _ _ => ?_⟩
  obtain ⟨its_Graph_1, b_Graph_1⟩ := FunD.kbindsD (ps := ["self", "size", "arrows"]) F_Graph___init__ 2 [] (fun {α} us its ws => us ++ its) (by simp [d_Graph___init__, He.DefD.dvs]) (fun r1 r2 _ => r1.append r2) fun _ _ _ _ _ _ _ us its ws hl h1 h2 => match us, hl, its, h1, ws, h2 with | [_, _], _, [_], _, [], _ => ⟨_, rfl, rfl⟩
  have D_Graph_1 : DcS (PySem.Challenge.rw_keptbase_k62_rings_or_first_order).prog w K mg base "Graph" (He.ga K "Graph") 3 (S_initS (He.ga K "InvalidArrow")) 1 [] (fun as _ => as ++ [.im (.tup [])]) := ⟨_, _, _, _, _, ok_initS F_Graph___init__ T T2, He.mkr_ok (c.d.fact 44 (f := .mkr "Graph") rfl), He.glo_ok X G (c.d.fact 0 (f := .glo "Graph") rfl), b_Graph_1, arg_dt c.b⟩
  obtain ⟨its_Graph_2, b_Graph_2⟩ := FunD.kbindsD (ps := ["self", "size", "arrows"]) F_Graph___init__ 3 [] (fun {α} us its ws => us) (by simp [d_Graph___init__, He.DefD.dvs]) (fun r1 _ _ => r1) fun _ _ _ _ _ _ _ us its ws hl h1 h2 => match us, hl, its, h1, ws, h2 with | [_, _, _], _, [_], _, [], _ => ⟨_, rfl, rfl⟩
  have D_Graph_2 : DcS (PySem.Challenge.rw_keptbase_k62_rings_or_first_order).prog w K mg base "Graph" (He.ga K "Graph") 3 (S_initS (He.ga K "InvalidArrow")) 2 [] (fun as _ => as) := ⟨_, _, _, _, _, ok_initS F_Graph___init__ T T2, He.mkr_ok (c.d.fact 44 (f := .mkr "Graph") rfl), He.glo_ok X G (c.d.fact 0 (f := .glo "Graph") rfl), b_Graph_2, arg_id⟩
  obtain ⟨its_Graph_1_arrows, b_Graph_1_arrows⟩ := FunD.kbindsD (ps := ["self", "size", "arrows"]) F_Graph___init__ 2 ["arrows"] (fun {α} us its ws => us ++ ws) (by simp [d_Graph___init__, He.DefD.dvs]) (fun r1 _ r3 => r1.append r3) fun _ _ _ _ _ _ _ us its ws hl h1 h2 => match us, hl, its, h1, ws, h2 with | [_, _], _, [_], _, [_], _ => ⟨_, rfl, rfl⟩
  have D_Graph_1_arrows : DcS (PySem.Challenge.rw_keptbase_k62_rings_or_first_order).prog w K mg base "Graph" (He.ga K "Graph") 3 (S_initS (He.ga K "InvalidArrow")) 1 ["arrows"] (fun as bs => as ++ bs) := ⟨_, _, _, _, _, ok_initS F_Graph___init__ T T2, He.mkr_ok (c.d.fact 44 (f := .mkr "Graph") rfl), He.glo_ok X G (c.d.fact 0 (f := .glo "Graph") rfl), b_Graph_1_arrows, arg_kw⟩
  have D_Graph_followers : Dm (PySem.Challenge.rw_keptbase_k62_rings_or_first_order).prog w K mg base (He.ga K "Graph") "followers" 3 (spP K (S_followers (He.ga K "Graph"))) := ⟨_, _, _, ok_followers F_Graph_followers T , He.meth_ok (c.d.fact 39 (f := .meth "Graph" "followers") rfl), (FunD.bindsN F_Graph_followers fun _ _ _ _ _ _ us hl => match us, hl with | [_, _], _ => rfl)⟩
  have D_Graph_enters : Dm (PySem.Challenge.rw_keptbase_k62_rings_or_first_order).prog w K mg base (He.ga K "Graph") "enters" 4 (spP K (S_enters (He.ga K "Graph"))) := ⟨_, _, _, ok_enters F_Graph_enters T D_Graph_followers, He.meth_ok (c.d.fact 41 (f := .meth "Graph" "enters") rfl), (FunD.bindsN F_Graph_enters fun _ _ _ _ _ _ us hl => match us, hl with | [_, _, _], _ => rfl)⟩
  have D_Graph_steps_to : Dm (PySem.Challenge.rw_keptbase_k62_rings_or_first_order).prog w K mg base (He.ga K "Graph") "steps_to" 5 (spP K (S_steps (He.ga K "Graph"))) := ⟨_, _, _, ok_steps F_Graph_steps_to T D_Graph_enters, He.meth_ok (c.d.fact 40 (f := .meth "Graph" "steps_to") rfl), (FunD.bindsN F_Graph_steps_to fun _ _ _ _ _ _ us hl => match us, hl with | [_, _], _ => rfl)⟩
  have D_Graph_path : Dm (PySem.Challenge.rw_keptbase_k62_rings_or_first_order).prog w K mg base (He.ga K "Graph") "path" 6 (spP K (S_path (He.ga K "Graph"))) := ⟨_, _, _, ok_path F_Graph_path T D_Graph_followers D_Graph_steps_to, He.meth_ok (c.d.fact 42 (f := .meth "Graph" "path") rfl), (FunD.bindsN F_Graph_path fun _ _ _ _ _ _ us hl => match us, hl with | [_, _, _], _ => rfl)⟩
  have D_Graph_ring : Dm (PySem.Challenge.rw_keptbase_k62_rings_or_first_order).prog w K mg base (He.ga K "Graph") "ring" 7 (spP K (S_ring (He.ga K "Graph"))) := ⟨_, _, _, ok_ring F_Graph_ring T D_Graph_path, He.meth_ok (c.d.fact 43 (f := .meth "Graph" "ring") rfl), (FunD.bindsN F_Graph_ring fun _ _ _ _ _ _ us hl => match us, hl with | [_], _ => rfl)⟩
  have D_is_order : Df (PySem.Challenge.rw_keptbase_k62_rings_or_first_order).prog w K mg base "is_order" 3 (spP K S_isord) := ⟨_, _, _, ok_isord F_is_order T , He.glo_ok X G (c.d.fact 3 (f := .glo "is_order") rfl), F_is_order.kp, (FunD.bindsN F_is_order fun _ _ _ _ _ _ us hl => match us, hl with | [_, _], _ => rfl)⟩
  have D_broken : DfX (PySem.Challenge.rw_keptbase_k62_rings_or_first_order).prog w K mg base "broken" 4 (spX K (S_broken (He.ga K "Graph") (He.ga K "InvalidOrder"))) := ⟨_, _, _, ok_broken F_broken T T2 D_is_order, He.glo_ok X G (c.d.fact 4 (f := .glo "broken") rfl), F_broken.kp, (FunD.bindsN F_broken fun _ _ _ _ _ _ us hl => match us, hl with | [_, _], _ => rfl)⟩
  have D_keeps : DfX (PySem.Challenge.rw_keptbase_k62_rings_or_first_order).prog w K mg base "keeps" 5 (spX K (S_keeps (He.ga K "Graph") (He.ga K "InvalidOrder"))) := ⟨_, _, _, ok_keeps F_keeps T T2 D_broken, He.glo_ok X G (c.d.fact 5 (f := .glo "keeps") rfl), F_keeps.kp, (FunD.bindsN F_keeps fun _ _ _ _ _ _ us hl => match us, hl with | [_, _], _ => rfl)⟩
  have D_free_nodes : Df (PySem.Challenge.rw_keptbase_k62_rings_or_first_order).prog w K mg base "free_nodes" 3 (spP K (S_free (He.ga K "Graph"))) := ⟨_, _, _, ok_free F_free_nodes T , He.glo_ok X G (c.d.fact 6 (f := .glo "free_nodes") rfl), F_free_nodes.kp, (FunD.bindsN F_free_nodes fun _ _ _ _ _ _ us hl => match us, hl with | [_, _], _ => rfl)⟩
  have D_completed : Df (PySem.Challenge.rw_keptbase_k62_rings_or_first_order).prog w K mg base "completed" 4 (spP K (S_compl (He.ga K "Graph"))) := ⟨_, _, _, ok_compl F_completed T D_free_nodes, He.glo_ok X G (c.d.fact 7 (f := .glo "completed") rfl), F_completed.kp, (FunD.bindsN F_completed fun _ _ _ _ _ _ us hl => match us, hl with | [_, _], _ => rfl)⟩
  have D_first_order : Df (PySem.Challenge.rw_keptbase_k62_rings_or_first_order).prog w K mg base "first_order" 5 (spP K (S_first (He.ga K "Graph"))) := ⟨_, _, _, ok_first F_first_order T D_completed, He.glo_ok X G (c.d.fact 8 (f := .glo "first_order") rfl), F_first_order.kp, (FunD.bindsN F_first_order fun _ _ _ _ _ _ us hl => match us, hl with | [_], _ => rfl)⟩
  have D__law_pot : Df (PySem.Challenge.rw_keptbase_k62_rings_or_first_order).prog w K mg base "_law_pot" 3 (spP K S_pot) := ⟨_, _, _, ok_pot F__law_pot T , He.glo_ok X G (c.d.fact 9 (f := .glo "_law_pot") rfl), F__law_pot.kp, (FunD.bindsN F__law_pot fun _ _ _ _ _ _ us hl => match us, hl with | [_, _], _ => rfl)⟩
  have D__law_draw : DfM (PySem.Challenge.rw_keptbase_k62_rings_or_first_order).prog w K mg base "_law_draw" 3 S_draw := ⟨⟨_, _, _, ok_draw F__law_draw T , He.glo_ok X G (c.d.fact 10 (f := .glo "_law_draw") rfl), F__law_draw.kp, (FunD.bindsN F__law_draw fun _ _ _ _ _ _ us hl => match us, hl with | [_, _], _ => rfl)⟩⟩
  have D__law_orders : Df (PySem.Challenge.rw_keptbase_k62_rings_or_first_order).prog w K mg base "_law_orders" 3 (spP K S_lorders) := ⟨_, _, _, ok_lorders F__law_orders T , He.glo_ok X G (c.d.fact 11 (f := .glo "_law_orders") rfl), F__law_orders.kp, (FunD.bindsN F__law_orders fun _ _ _ _ _ _ us hl => match us, hl with | [_], _ => rfl)⟩
  have D__law_lined : DfM (PySem.Challenge.rw_keptbase_k62_rings_or_first_order).prog w K mg base "_law_lined" 4 S_lined := ⟨⟨_, _, _, ok_lined F__law_lined T D__law_draw, He.glo_ok X G (c.d.fact 12 (f := .glo "_law_lined") rfl), F__law_lined.kp, (FunD.bindsN F__law_lined fun _ _ _ _ _ _ us hl => match us, hl with | [_, _], _ => rfl)⟩⟩
  have D__law_arrows : DfM (PySem.Challenge.rw_keptbase_k62_rings_or_first_order).prog w K mg base "_law_arrows" 5 S_larrows := ⟨⟨_, _, _, ok_larrows F__law_arrows T D__law_draw D__law_lined, He.glo_ok X G (c.d.fact 13 (f := .glo "_law_arrows") rfl), F__law_arrows.kp, (FunD.bindsN F__law_arrows fun _ _ _ _ _ _ us hl => match us, hl with | [_, _], _ => rfl)⟩⟩
  have D__law_kept : Df (PySem.Challenge.rw_keptbase_k62_rings_or_first_order).prog w K mg base "_law_kept" 3 (spP K S_kept) := ⟨_, _, _, ok_kept F__law_kept T , He.glo_ok X G (c.d.fact 14 (f := .glo "_law_kept") rfl), F__law_kept.kp, (FunD.bindsN F__law_kept fun _ _ _ _ _ _ us hl => match us, hl with | [_, _], _ => rfl)⟩
  have D__law_ring : Df (PySem.Challenge.rw_keptbase_k62_rings_or_first_order).prog w K mg base "_law_ring" 3 (spP K S_lring) := ⟨_, _, _, ok_lring F__law_ring T , He.glo_ok X G (c.d.fact 15 (f := .glo "_law_ring") rfl), F__law_ring.kp, (FunD.bindsN F__law_ring fun _ _ _ _ _ _ us hl => match us, hl with | [_, _], _ => rfl)⟩
  have D__law_listing : DfM (PySem.Challenge.rw_keptbase_k62_rings_or_first_order).prog w K mg base "_law_listing" 5 S_listing := ⟨⟨_, _, _, ok_listing F__law_listing T D__law_draw D__law_lined, He.glo_ok X G (c.d.fact 16 (f := .glo "_law_listing") rfl), F__law_listing.kp, (FunD.bindsN F__law_listing fun _ _ _ _ _ _ us hl => match us, hl with | [_, _], _ => rfl)⟩⟩
  have D__law_judged : Df (PySem.Challenge.rw_keptbase_k62_rings_or_first_order).prog w K mg base "_law_judged" 6 (spP K (S_judged (He.ga K "Graph"))) := ⟨_, _, _, ok_judged F__law_judged T T2 D_keeps, He.glo_ok X G (c.d.fact 17 (f := .glo "_law_judged") rfl), F__law_judged.kp, (FunD.bindsN F__law_judged fun _ _ _ _ _ _ us hl => match us, hl with | [_, _], _ => rfl)⟩
  have D__law_with : Df (PySem.Challenge.rw_keptbase_k62_rings_or_first_order).prog w K mg base "_law_with" 5 (spP K (S_with (He.ga K "InvalidArrow"))) := ⟨_, _, _, ok_with F__law_with T T2 D_Graph_2, He.glo_ok X G (c.d.fact 18 (f := .glo "_law_with") rfl), F__law_with.kp, (FunD.bindsN F__law_with fun _ _ _ _ _ _ us hl => match us, hl with | [_, _], _ => rfl)⟩
  have D__law_found : Df (PySem.Challenge.rw_keptbase_k62_rings_or_first_order).prog w K mg base "_law_found" 8 (spP K (S_found (He.ga K "Graph"))) := ⟨_, _, _, ok_found F__law_found T D_first_order D_Graph_ring, He.glo_ok X G (c.d.fact 19 (f := .glo "_law_found") rfl), F__law_found.kp, (FunD.bindsN F__law_found fun _ _ _ _ _ _ us hl => match us, hl with | [_, _, _], _ => rfl)⟩
  exact ok_law F_law T T2 D__law_pot D__law_draw D__law_arrows D_Graph_1 D_Graph_2 D_Graph_1_arrows D__law_orders D__law_kept D__law_ring D__law_found D__law_listing D__law_judged D_keeps D__law_with
end Kb
open PySem PySem.W PySem.Calls PyProof.Rows
theorem PySem.Challenge.cw_keptbase_k62_rings_or_first_order_holds : PySem.Challenge.rw_keptbase_k62_rings_or_first_order.Holds := by
  w_on; o_law
  refine HandSHeadRun.head_any (r := OpenLaw.row PySem.Challenge.rw_keptbase_k62_rings_or_first_order) (q := view (OpenLaw.row PySem.Challenge.rw_keptbase_k62_rings_or_first_order).prog [25]) (H := Kb.hkH) (ob := Kb.obH) (M := 3000) (loose := ["KeptError", "InvalidOrder", "InvalidArrow", "is_order", "broken", "keeps", "free_nodes", "completed", "first_order", "Graph", "_law_pot", "_law_draw", "_law_orders", "_law_lined", "_law_arrows", "_law_kept", "_law_ring", "_law_listing", "_law_judged", "_law_with", "_law_found"]) (d := HandSHeadRun.topDef (OpenLaw.row PySem.Challenge.rw_keptbase_k62_rings_or_first_order).prog 25) (kwd := []) Kb.obH_eq
    (by kernel_rfl) (fun s => by kernel_rfl) Kb.runH (by kernel_rfl) (by kernel_rfl) (by kernel_rfl) (by rfl) (by first | assumption | decide +kernel) (by decide +kernel) ⟨rfl, rfl, rfl, rfl, rfl, by decide +kernel⟩ ?hw ?hc
  case hw => w_witness2
  case hc =>
    refine L2.walk_ofE (l := PySem.Challenge.rw_keptbase_k62_rings_or_first_order) (n := 63) (k := 10) (x := "_law_script") (CX := L2.CX0) rfl (by decide) (by kernel_rfl) ⟨rfl, by decide, by decide⟩ ?F (fun _ _ _ _ z => z)
    intro w mg fa h Y G hmg0
    obtain ⟨K, KX, c⟩ := Y
    have hmg : mg ("law" : PySem.Str) = some (.ref fa) := by
      have e : (HandSHeadRun.topDef (OpenLaw.row PySem.Challenge.rw_keptbase_k62_rings_or_first_order).prog 25).name = ("law" : PySem.Str) := by kernel_rfl
      rw [← e]
      exact hmg0
    obtain ⟨fd, hb, hF⟩ := Kb.factsH (w := w) KX G hmg c
    refine ⟨K, fd, Kb.spP K Kb.S_law, KX, hb, fun H a ns hl _ hS => ?_, hF⟩
    exact Kb.law_start hS

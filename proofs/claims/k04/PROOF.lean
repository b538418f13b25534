import PyProof.Rows.All
import Wide.All
import OpenK.AllK
import Wide.FinOn
import HandS.ForMost
import HandS.WordsExc
import HandS.Defaults
import HandS.Deep
import HandS.IsInst
import HandS.TupAny
import HandS.Slots
import KE.SortData
import KE.DataMinMax
import HandS.TupSets
import HandS.DictComp
import HandS.GenYield
import HandS.GenList
import HandS.Exc
import HandS.ExcOwn
import HandS.ExcSuper
import KE.KSuper
import KE.KExcSuper
import HandS.MakeKw
import HandS.ExcIs
import KE.KExcIs
import KE.GoesEnum
import HandS.Conv
import HandS.Head0
import HandS.Head1
import HandS.Head2
import HandS.HeadEnd
import HandS.HeadHook1
import HandS.HeadHook2
import KE.KStateDown
import HandS.SlotsOwn
import KE.SortKeyed
import HandS.SortKw
import HandS.TupLe
import HandS.SetFor
import HandS.Strs
import HandS.MakeKwOnly
import OpenK.KMeth
import KE.KOpsOwn
import HandS.Small
import HandS.ClsMeth
import HandS.Star
import HandS.Zip
import HandS.OwnEq
import KE.KFmtOwn
import HandS.Text
import HandS.FStr
import HandS.Codes
import HandS.Iter
import KE.KCallOwn
import PySem.Challenge.RW_keptbase_k04_spans_read_back
set_option Elab.async false
set_option linter.all false
set_option maxRecDepth 100000
set_option maxHeartbeats 1000000
/-! Kb0: data D over the abstract heap, environments with owned objects, and HandS's readings lifted to them. -/
namespace Kb
open PySem L2
set_option autoImplicit false

abbrev Frag := PySem.W.Frag
abbrev Ex := L2.Same
theorem Ex.new {H : Hp} {p : Addr} {o : HO} (h : H p = none) : Ex H (upd H p o) := fun a u e => by
  rw [upd_ne (ne_of_none e h)]; exact e

/-- plain data -/
inductive D where
  | non | bl (b : Bool) | int (i : Int) | str (x : Str)
  | lst (xs : List D) | tup (xs : List D)
  | dic (es : List (Key × D)) | dit (es : List (List Key × D))
  | obj (C : Addr) (fs : List (Str × D))
  /-- an instance of a class with slots -/
  | slo (C : Addr) (fs : List (Str × D))
  /-- a caught error at a, of the class C: its own dict at d -/
  | err (a C : Addr) (d : Option Addr) (fs : List (Str × D))
  /-- the script -/
  | scr (ns : List Int)
  | raw (v : V)

/-- what the slots of an instance of C hold -/
def SlF (K : Frag) (C : Addr) (vs : List (Option V)) (fvs : List (Str × V)) : Prop := ∀ q ∈ fvs, ∃ p i, SlX.Slot1 K C q.1 p i ∧ vs[i]? = some (some q.2)
mutual
inductive Rep (K : Frag) (H : Hp) : V → D → Prop
  | non : Rep K H .non .non
  | bl (b : Bool) : Rep K H (.bl b) (.bl b)
  | int (i : Int) : Rep K H (.int i) (.int i)
  | str (x : Str) : Rep K H (.str x) (.str x)
  | lst {a : Addr} {vs : List V} {ds : List D} : H a = some (.lst vs) → Reps K H vs ds → Rep K H (.ref a) (.lst ds)
  | tup {a : Addr} {vs : List V} {ds : List D} : SqT K H a vs → Reps K H vs ds → Rep K H (.ref a) (.tup ds)
  | dic {a : Addr} {kvs : List (Key × V)} {es : List (Key × D)} : H a = some (.dK kvs) → kvs.map (·.1) = es.map (·.1) → Reps K H (kvs.map (·.2)) (es.map (·.2)) → Rep K H (.ref a) (.dic es)
  | dit {a : Addr} {kvs : List (List Key × V)} {es : List (List Key × D)} : H a = some (.dT kvs) → kvs.map (·.1) = es.map (·.1) → Reps K H (kvs.map (·.2)) (es.map (·.2)) → Rep K H (.ref a) (.dit es)
  | obj {a C dx : Addr} {fvs : List (Str × V)} {fs : List (Str × D)} : H a = some (.ins C dx fvs) → fvs.map (·.1) = fs.map (·.1) → Reps K H (fvs.map (·.2)) (fs.map (·.2)) → Rep K H (.ref a) (.obj C fs)
  | slo {a C dx : Addr} {vs : List (Option V)} {fvs : List (Str × V)} {fs : List (Str × D)} : H a = some (SlX.SlO a C dx vs) → H dx = some (.xd []) → SlF K C vs fvs → fvs.map (·.1) = fs.map (·.1) → Reps K H (fvs.map (·.2)) (fs.map (·.2)) → Rep K H (.ref a) (.slo C fs)
  | err {a C d : Addr} {fvs : List (Str × V)} {fs : List (Str × D)} : H d = some (.xd fvs) → fvs.map (·.1) = fs.map (·.1) → Reps K H (fvs.map (·.2)) (fs.map (·.2)) → Rep K H (.ref a) (.err a C (some d) fs)
  | err0 {a C : Addr} : Rep K H (.ref a) (.err a C none [])
  | scr {a : Addr} {ns : List Int} : SqL K H a (ns.map V.int) → Rep K H (.ref a) (.scr ns)
  | raw (v : V) : Rep K H v (.raw v)
inductive Reps (K : Frag) (H : Hp) : List V → List D → Prop
  | nil : Reps K H [] []
  | cons {v : V} {vs : List V} {d : D} {ds : List D} : Rep K H v d → Reps K H vs ds → Reps K H (v :: vs) (d :: ds)
end

theorem Ex.rd {H H' : Hp} {a : Addr} {u : HO} (e : Ex H H') (h : Rd H a u) : Rd H' a u := by
  rcases h with h | ⟨o, h⟩
  · exact Or.inl (e a _ h)
  · exact Or.inr ⟨o, e a _ h⟩
theorem Ex.sl {K : Frag} {H H' : Hp} {a : Addr} {xs : List V} (e : Ex H H') (h : SqL K H a xs) : SqL K H' a xs := by
  rcases h with h | h
  · exact Or.inl (e.rd h)
  · exact Or.inr h
theorem Ex.st {K : Frag} {H H' : Hp} {a : Addr} {xs : List V} (e : Ex H H') (h : SqT K H a xs) : SqT K H' a xs := by
  rcases h with h | h
  · exact Or.inl (e.rd h)
  · exact Or.inr h

mutual
theorem Rep.mono {K : Frag} {H H' : Hp} (e : Ex H H') : ∀ {v : V} {d : D}, Rep K H v d → Rep K H' v d
  | _, _, .non => .non
  | _, _, .bl b => .bl b
  | _, _, .int i => .int i
  | _, _, .str x => .str x
  | _, _, .lst h r => .lst (e _ _ h) (r.mono e)
  | _, _, .scr h => .scr (e.sl h)
  | _, _, .tup h r => .tup (e.st h) (r.mono e)
  | _, _, .dic h k r => .dic (e _ _ h) k (r.mono e)
  | _, _, .dit h k r => .dit (e _ _ h) k (r.mono e)
  | _, _, .obj h k r => .obj (e _ _ h) k (r.mono e)
  | _, _, .slo h x k k2 r => .slo (e _ _ h) (e _ _ x) k k2 (r.mono e)
  | _, _, .err h k r => .err (e _ _ h) k (r.mono e)
  | _, _, .err0 => .err0
  | _, _, .raw v => .raw v
theorem Reps.mono {K : Frag} {H H' : Hp} (e : Ex H H') : ∀ {vs : List V} {ds : List D}, Reps K H vs ds → Reps K H' vs ds
  | _, _, .nil => .nil
  | _, _, .cons h r => .cons (h.mono e) (r.mono e)
end

section
variable {K : Frag} {H H' : Hp}
theorem Reps.length : ∀ {vs : List V} {ds : List D}, Reps K H vs ds → vs.length = ds.length
  | _, _, .nil => rfl
  | _, _, .cons _ r => by simp [r.length]
theorem Reps.get : ∀ {vs : List V} {ds : List D} {i : Nat} {v : V}, Reps K H vs ds → vs[i]? = some v → ∃ d, ds[i]? = some d ∧ Rep K H v d
  | _, _, _, _, .nil, e => by simp at e
  | _, _, 0, _, .cons r _, e => by simp at e; subst e; exact ⟨_, rfl, r⟩
  | _, _, i + 1, v, .cons _ t, e => by
    obtain ⟨u, h1, h2⟩ := Reps.get (i := i) (v := v) t (by simpa using e)
    exact ⟨u, by simpa using h1, h2⟩
theorem Reps.get' : ∀ {vs : List V} {ds : List D} {i : Nat} {d : D}, Reps K H vs ds → ds[i]? = some d → ∃ v, vs[i]? = some v ∧ Rep K H v d
  | _, _, _, _, .nil, e => by simp at e
  | _, _, 0, _, .cons r _, e => by simp at e; subst e; exact ⟨_, rfl, r⟩
  | _, _, i + 1, v, .cons _ t, e => by
    obtain ⟨u, h1, h2⟩ := Reps.get' (i := i) (d := v) t (by simpa using e)
    exact ⟨u, by simpa using h1, h2⟩
theorem Reps.append : ∀ {vs ws : List V} {ds es : List D}, Reps K H vs ds → Reps K H ws es → Reps K H (vs ++ ws) (ds ++ es)
  | _, _, _, _, .nil, s => s
  | _, _, _, _, .cons r t, s => .cons r (t.append s)
theorem Reps.take : ∀ {vs : List V} {ds : List D} (n : Nat), Reps K H vs ds → Reps K H (vs.take n) (ds.take n)
  | _, _, 0, _ => .nil
  | _, _, _ + 1, .nil => .nil
  | _, _, n + 1, .cons r t => .cons r (t.take n)
theorem Reps.drop : ∀ {vs : List V} {ds : List D} (n : Nat), Reps K H vs ds → Reps K H (vs.drop n) (ds.drop n)
  | _, _, 0, r => r
  | _, _, _ + 1, .nil => .nil
  | _, _, n + 1, .cons _ t => t.drop n
theorem Reps.set {v : V} {d : D} (r : Rep K H v d) : ∀ {vs : List V} {ds : List D} (i : Nat), Reps K H vs ds → Reps K H (vs.set i v) (ds.set i d)
  | _, _, _, .nil => .nil
  | _, _, 0, .cons _ t => .cons r t
  | _, _, i + 1, .cons q t => .cons q (t.set r i)
theorem Reps.one {v : V} {d : D} (r : Rep K H v d) : Reps K H [v] [d] := .cons r .nil
end

/-! ### hidden addresses -/
def hid (ms : List Addr) (H : Hp) : Hp := fun a => if a ∈ ms then none else H a
theorem hid_in {ms : List Addr} {H : Hp} {a : Addr} (h : a ∈ ms) : hid ms H a = none := by simp [hid, h]
theorem hid_ni {ms : List Addr} {H : Hp} {a : Addr} (h : a ∉ ms) : hid ms H a = H a := by simp [hid, h]
theorem hid_ex {ms : List Addr} {H : Hp} : Ex (hid ms H) H := fun a o e => by
  by_cases h : a ∈ ms
  · rw [hid_in h] at e; cases e
  · rw [hid_ni h] at e; exact e
theorem hid_sub {ms ns : List Addr} {H : Hp} (h : ∀ a ∈ ns, a ∈ ms) : Ex (hid ms H) (hid ns H) := fun a o e => by
  by_cases h1 : a ∈ ms
  · rw [hid_in h1] at e; cases e
  · rw [hid_ni h1] at e; rw [hid_ni (fun q => h1 (h a q))]; exact e
theorem hid_mono {ms : List Addr} {H H' : Hp} (e : ∀ a o, a ∉ ms → H a = some o → H' a = some o) : Ex (hid ms H) (hid ms H') := fun a o q => by
  by_cases h : a ∈ ms
  · rw [hid_in h] at q; cases q
  · rw [hid_ni h] at q; rw [hid_ni h]; exact e a o h q
theorem hid_ex2 {ms : List Addr} {H H' : Hp} (e : Ex H H') : Ex (hid ms H) (hid ms H') := hid_mono fun a o _ q => e a o q
theorem hid_upd {ms : List Addr} {H : Hp} {a : Addr} {o : HO} (h : a ∈ ms) : hid ms (upd H a o) = hid ms H := by
  funext b
  by_cases hb : b ∈ ms
  · rw [hid_in hb, hid_in hb]
  · rw [hid_ni hb, hid_ni hb, upd_ne (fun q => hb (by rw [q]; exact h))]

/-! ### slots -/
inductive Slot where
  | im (d : D)
  /-- borrowed: may be read here, is kept -/
  | bo (d : D)
  /-- of one's own: a list (pl: the caller's), dicts, an instance (the caller's) -/
  | ml (l : Addr) (ds : List D) | pl (l : Addr) (ds : List D) | md (l : Addr) (es : List (Key × D)) | mt (l : Addr) (es : List (List Key × D)) | mi (l C : Addr) (fs : List (Str × D)) | ms (l C : Addr) (fs : List (Str × D))
abbrev Env := List (Option Slot)
def Slot.ad : Slot → Option Addr
  | .im _ => none
  | .bo _ => none
  | .ml l _ => some l
  | .pl l _ => some l
  | .md l _ => some l
  | .mt l _ => some l
  | .mi l _ _ => some l
  | .ms l _ _ => some l
/-- the caller's -/
def Slot.par : Slot → Bool
  | .pl _ _ => true
  | .mi _ _ _ => true
  | .ms _ _ _ => true
  | _ => false
def Slot.dat : Slot → D
  | .im d => d
  | .bo d => d
  | .ml _ ds => .lst ds
  | .pl _ ds => .lst ds
  | .md _ es => .dic es
  | .mt _ es => .dit es
  | .mi _ C fs => .obj C fs
  | .ms _ C fs => .slo C fs
def adr (Γ : Env) : List Addr := Γ.filterMap fun o => o.bind Slot.ad

/-- readable: the thing itself in H, what it holds in B -/
inductive RepW (K : Frag) (B H : Hp) : V → D → Prop
  | im {v : V} {d : D} : Rep K B v d → RepW K B H v d
  | lst {a : Addr} {vs : List V} {ds : List D} : H a = some (.lst vs) → Reps K B vs ds → RepW K B H (.ref a) (.lst ds)
  | dic {a : Addr} {kvs : List (Key × V)} {es : List (Key × D)} : H a = some (.dK kvs) → kvs.map (·.1) = es.map (·.1) → Reps K B (kvs.map (·.2)) (es.map (·.2)) → RepW K B H (.ref a) (.dic es)
  | dit {a : Addr} {kvs : List (List Key × V)} {es : List (List Key × D)} : H a = some (.dT kvs) → kvs.map (·.1) = es.map (·.1) → Reps K B (kvs.map (·.2)) (es.map (·.2)) → RepW K B H (.ref a) (.dit es)
  | obj {a C dx : Addr} {fvs : List (Str × V)} {fs : List (Str × D)} : H a = some (.ins C dx fvs) → fvs.map (·.1) = fs.map (·.1) → Reps K B (fvs.map (·.2)) (fs.map (·.2)) → RepW K B H (.ref a) (.obj C fs)
  | slo {a C dx : Addr} {vs : List (Option V)} {fvs : List (Str × V)} {fs : List (Str × D)} : H a = some (SlX.SlO a C dx vs) → B dx = some (.xd []) → SlF K C vs fvs → fvs.map (·.1) = fs.map (·.1) → Reps K B (fvs.map (·.2)) (fs.map (·.2)) → RepW K B H (.ref a) (.slo C fs)
theorem RepW.mono {K : Frag} {B H B' H' : Hp} (e : Ex B B') (f : Ex H H') {v : V} {d : D} (h : RepW K B H v d) : RepW K B' H' v d := by
  cases h with
  | im h => exact .im (h.mono e)
  | lst h r => exact .lst (f _ _ h) (r.mono e)
  | dic h k r => exact .dic (f _ _ h) k (r.mono e)
  | dit h k r => exact .dit (f _ _ h) k (r.mono e)
  | obj h k r => exact .obj (f _ _ h) k (r.mono e)
  | slo h x k k2 r => exact .slo (f _ _ h) (e _ _ x) k k2 (r.mono e)
/-- in the whole heap -/
theorem RepW.rep {K : Frag} {B H : Hp} (e : Ex B H) {v : V} {d : D} (h : RepW K B H v d) : Rep K H v d := by
  cases h with
  | im h => exact h.mono e
  | lst h r => exact .lst h (r.mono e)
  | dic h k r => exact .dic h k (r.mono e)
  | dit h k r => exact .dit h k (r.mono e)
  | obj h k r => exact .obj h k (r.mono e)
  | slo h x k k2 r => exact .slo h (e _ _ x) k k2 (r.mono e)
theorem RepW.list {K : Frag} {B H : Hp} (e : Ex B H) {v : V} {ds : List D} (h : RepW K B H v (.lst ds)) : ∃ a vs, v = .ref a ∧ H a = some (.lst vs) ∧ Reps K B vs ds := by
  cases h with
  | im h => cases h with
    | lst h r => exact ⟨_, _, rfl, e _ _ h, r⟩
  | lst h r => exact ⟨_, _, rfl, h, r⟩
theorem RepW.tuple {K : Frag} {B H : Hp} (e : Ex B H) {v : V} {ds : List D} (h : RepW K B H v (.tup ds)) : ∃ a vs, v = .ref a ∧ SqT K H a vs ∧ Reps K B vs ds := by
  cases h with
  | im h => cases h with
    | tup h r => exact ⟨_, _, rfl, e.st h, r⟩
theorem RepW.dict {K : Frag} {B H : Hp} (e : Ex B H) {v : V} {es : List (Key × D)} (h : RepW K B H v (.dic es)) : ∃ a kvs, v = .ref a ∧ H a = some (.dK kvs) ∧ kvs.map (·.1) = es.map (·.1) ∧ Reps K B (kvs.map (·.2)) (es.map (·.2)) := by
  cases h with
  | im h => cases h with
    | dic h k r => exact ⟨_, _, rfl, e _ _ h, k, r⟩
  | dic h k r => exact ⟨_, _, rfl, h, k, r⟩
theorem RepW.dictT {K : Frag} {B H : Hp} (e : Ex B H) {v : V} {es : List (List Key × D)} (h : RepW K B H v (.dit es)) : ∃ a kvs, v = .ref a ∧ H a = some (.dT kvs) ∧ kvs.map (·.1) = es.map (·.1) ∧ Reps K B (kvs.map (·.2)) (es.map (·.2)) := by
  cases h with
  | im h => cases h with
    | dit h k r => exact ⟨_, _, rfl, e _ _ h, k, r⟩
  | dit h k r => exact ⟨_, _, rfl, h, k, r⟩
theorem RepW.inst {K : Frag} {B H : Hp} (e : Ex B H) {v : V} {C : Addr} {fs : List (Str × D)} (h : RepW K B H v (.obj C fs)) : ∃ a dx fvs, v = .ref a ∧ H a = some (.ins C dx fvs) ∧ fvs.map (·.1) = fs.map (·.1) ∧ Reps K B (fvs.map (·.2)) (fs.map (·.2)) := by
  cases h with
  | im h => cases h with
    | obj h k r => exact ⟨_, _, _, rfl, e _ _ h, k, r⟩
  | obj h k r => exact ⟨_, _, _, rfl, h, k, r⟩
theorem RepW.slots {K : Frag} {B H : Hp} (e : Ex B H) {v : V} {C : Addr} {fs : List (Str × D)} (h : RepW K B H v (.slo C fs)) : ∃ a dx vs fvs, v = .ref a ∧ H a = some (SlX.SlO a C dx vs) ∧ B dx = some (.xd []) ∧ SlF K C vs fvs ∧ fvs.map (·.1) = fs.map (·.1) ∧ Reps K B (fvs.map (·.2)) (fs.map (·.2)) := by
  cases h with
  | im h => cases h with
    | slo h x k k2 r => exact ⟨_, _, _, _, rfl, e _ _ h, x, k, k2, r⟩
  | slo h x k k2 r => exact ⟨_, _, _, _, rfl, h, x, k, k2, r⟩

def SlotOk (K : Frag) (B G H : Hp) (v : V) : Slot → Prop
  | .im d => Rep K B v d
  | .bo d => RepW K B G v d
  | .ml l ds => v = .ref l ∧ ∃ vs, H l = some (.lst vs) ∧ Reps K B vs ds
  | .pl l ds => v = .ref l ∧ ∃ vs, H l = some (.lst vs) ∧ Reps K B vs ds
  | .md l es => v = .ref l ∧ ∃ kvs : List (Key × V), H l = some (.dK kvs) ∧ kvs.map (·.1) = es.map (·.1) ∧ Reps K B (kvs.map (·.2)) (es.map (·.2))
  | .mt l es => v = .ref l ∧ ∃ kvs : List (List Key × V), H l = some (.dT kvs) ∧ kvs.map (·.1) = es.map (·.1) ∧ Reps K B (kvs.map (·.2)) (es.map (·.2))
  | .mi l C fs => v = .ref l ∧ ∃ dx fvs, H l = some (.ins C dx fvs) ∧ fvs.map (·.1) = fs.map (·.1) ∧ Reps K B (fvs.map (·.2)) (fs.map (·.2))
  | .ms l C fs => v = .ref l ∧ ∃ dx vs fvs, H l = some (SlX.SlO l C dx vs) ∧ B dx = some (.xd []) ∧ SlF K C vs fvs ∧ fvs.map (·.1) = fs.map (·.1) ∧ Reps K B (fvs.map (·.2)) (fs.map (·.2))
theorem SlotOk.mono {K : Frag} {B G H B' G' H' : Hp} (e : Ex B B') (g : Ex G G') (f : Ex H H') {v : V} {s : Slot} (h : SlotOk K B G H v s) : SlotOk K B' G' H' v s := by
  cases s with
  | im d => exact Rep.mono e h
  | bo d => exact RepW.mono e g h
  | ml l ds => obtain ⟨a, vs, b, c⟩ := h; exact ⟨a, vs, f _ _ b, c.mono e⟩
  | pl l ds => obtain ⟨a, vs, b, c⟩ := h; exact ⟨a, vs, f _ _ b, c.mono e⟩
  | md l es => obtain ⟨a, vs, b, c, r⟩ := h; exact ⟨a, vs, f _ _ b, c, r.mono e⟩
  | mt l es => obtain ⟨a, vs, b, c, r⟩ := h; exact ⟨a, vs, f _ _ b, c, r.mono e⟩
  | mi l C fs => obtain ⟨a, dx, vs, b, c, r⟩ := h; exact ⟨a, dx, vs, f _ _ b, c, r.mono e⟩
  | ms l C fs => obtain ⟨a, dx, vs, fvs, b, x, k, c, r⟩ := h; exact ⟨a, dx, vs, fvs, f _ _ b, e _ _ x, k, c, r.mono e⟩
theorem SlotOk.w {K : Frag} {B G H : Hp} (g : Ex G H) {v : V} {s : Slot} (h : SlotOk K B G H v s) : RepW K B H v s.dat := by
  cases s with
  | im d => exact .im h
  | bo d => exact RepW.mono (Same.refl B) g h
  | ml l ds => obtain ⟨rfl, vs, b, c⟩ := h; exact .lst b c
  | pl l ds => obtain ⟨rfl, vs, b, c⟩ := h; exact .lst b c
  | md l es => obtain ⟨rfl, vs, b, c, r⟩ := h; exact .dic b c r
  | mt l es => obtain ⟨rfl, vs, b, c, r⟩ := h; exact .dit b c r
  | mi l C fs => obtain ⟨rfl, dx, vs, b, c, r⟩ := h; exact .obj b c r
  | ms l C fs => obtain ⟨rfl, dx, vs, fvs, b, x, k, c, r⟩ := h; exact .slo b x k c r
theorem SlotOk.some {K : Frag} {B G H : Hp} {v : V} {s : Slot} (h : SlotOk K B G H v s) {l : Addr} (e : s.ad = some l) : ∃ o, H l = some o := by
  cases s with
  | im d => cases e
  | bo d => cases e
  | ml l ds => cases e; obtain ⟨_, vs, b, _⟩ := h; exact ⟨_, b⟩
  | pl l ds => cases e; obtain ⟨_, vs, b, _⟩ := h; exact ⟨_, b⟩
  | md l es => cases e; obtain ⟨_, vs, b, _⟩ := h; exact ⟨_, b⟩
  | mt l es => cases e; obtain ⟨_, vs, b, _⟩ := h; exact ⟨_, b⟩
  | mi l C fs => cases e; obtain ⟨_, dx, vs, b, _⟩ := h; exact ⟨_, b⟩
  | ms l C fs => cases e; obtain ⟨_, dx, vs, fvs, b, _⟩ := h; exact ⟨_, b⟩

/-- the state: Γ tells what the slots hold. H0: the heap at the def's entry; ps: the objects of the caller that may be changed here; hs: addresses of the caller's that nothing here holds -/
structure SE (K : Frag) (H0 : Hp) (ps hs : List Addr) (Γ : Env) (σ : St) (H : Hp) : Prop where
  len : σ.length = Γ.length
  ok : ∀ (i : Nat) (s : Slot), Γ[i]? = some (some s) → ∃ v, σ[i]? = some (some v) ∧ SlotOk K (hid (hs ++ adr Γ) H) (hid (adr Γ) H) H v s
  nd : (adr Γ).Nodup
  fr : ∀ a o, a ∉ ps → H0 a = some o → H a = some o
  own : ∀ (i : Nat) (s : Slot) (l : Addr), Γ[i]? = some (some s) → s.ad = some l → (s.par = true → l ∈ ps) ∧ (s.par = false → H0 l = none ∧ l ∉ hs)
  psub : ∀ l ∈ ps, l ∈ hs
  hx : ∀ l ∈ hs, H l ≠ none
theorem SE.mono {K : Frag} {H0 : Hp} {ps hs : List Addr} {Γ : Env} {σ : St} {H H' : Hp} (h : SE K H0 ps hs Γ σ H) (e : Ex H H') : SE K H0 ps hs Γ σ H' :=
  ⟨h.len, fun i s q => let ⟨v, a, b⟩ := h.ok i s q; ⟨v, a, b.mono (hid_ex2 e) (hid_ex2 e) e⟩, h.nd, fun a o n q => e _ _ (h.fr a o n q), h.own, h.psub, fun l m q => by
    cases z : H l with
    | none => exact h.hx l m z
    | some o => rw [e l o z] at q; cases q⟩
theorem mem_adr {Γ : Env} {l : Addr} : l ∈ adr Γ ↔ ∃ (i : Nat) (s : Slot), Γ[i]? = some (some s) ∧ s.ad = some l := by
  unfold adr
  constructor
  · intro h
    obtain ⟨o, ho, e⟩ := List.mem_filterMap.mp h
    cases o with
    | none => cases e
    | some s =>
      obtain ⟨i, hi⟩ := List.mem_iff_getElem?.mp ho
      exact ⟨i, s, hi, e⟩
  · rintro ⟨i, s, hi, e⟩
    exact List.mem_filterMap.mpr ⟨some s, List.mem_iff_getElem?.mpr ⟨i, hi⟩, e⟩
theorem SE.there {K : Frag} {H0 : Hp} {ps hs : List Addr} {Γ : Env} {σ : St} {H : Hp} (h : SE K H0 ps hs Γ σ H) {l : Addr} (m : l ∈ adr Γ) : ∃ o, H l = some o := by
  obtain ⟨i, s, hi, e⟩ := mem_adr.mp m
  obtain ⟨v, _, b⟩ := h.ok i s hi
  exact b.some e
theorem SE.fresh {K : Frag} {H0 : Hp} {ps hs : List Addr} {Γ : Env} {σ : St} {H : Hp} (h : SE K H0 ps hs Γ σ H) {p : Addr} (n : H p = none) : p ∉ adr Γ := fun m => by
  obtain ⟨o, e⟩ := h.there m
  rw [n] at e; cases e
end Kb
set_option Elab.async false
set_option linter.all false
set_option maxRecDepth 100000
set_option maxHeartbeats 1000000
/-! Kb1: expressions. -/
namespace Kb
open PySem L2
set_option autoImplicit false

abbrev XT := Env → (D → Prop) → Prop
abbrev FT := Env → (List D → Prop) → Prop
abbrev BT := Env → (Bool → Prop) → Prop

def Bs (ms : List Addr) (H : Hp) : Prop := ∀ a ∈ ms, H a ≠ none
theorem SE.bs {K : Frag} {H0 : Hp} {ps hs : List Addr} {Γ : Env} {σ : St} {H : Hp} (h : SE K H0 ps hs Γ σ H) : Bs (hs ++ adr Γ) H := fun a m q => by
  rcases List.mem_append.mp m with m | m
  · exact h.hx a m q
  · obtain ⟨o, e⟩ := h.there m
    rw [q] at e; cases e
theorem Bs.new {ms : List Addr} {H : Hp} (b : Bs ms H) {p : Addr} (n : H p = none) : p ∉ ms := fun m => b p m n
theorem Bs.mono {ms : List Addr} {H H' : Hp} (b : Bs ms H) (e : Ex H H') : Bs ms H' := fun a m q => by
  cases z : H a with
  | none => exact b a m z
  | some o => rw [e a o z] at q; cases q

inductive RepWs (K : Frag) (B H : Hp) : List V → List D → Prop
  | nil : RepWs K B H [] []
  | cons {v : V} {vs : List V} {d : D} {ds : List D} : RepW K B H v d → RepWs K B H vs ds → RepWs K B H (v :: vs) (d :: ds)
theorem RepWs.mono {K : Frag} {B H B' H' : Hp} (e : Ex B B') (f : Ex H H') : ∀ {vs : List V} {ds : List D}, RepWs K B H vs ds → RepWs K B' H' vs ds
  | _, _, .nil => .nil
  | _, _, .cons a b => .cons (a.mono e f) (b.mono e f)

/-! ### the lifts -/
def Li (K : Frag) (t : XT) : TE := fun σ H Q => ∃ (H0 : Hp) (ps hs : List Addr) (Γ : Env) (P : D → Prop), SE K H0 ps hs Γ σ H ∧ t Γ P ∧ ∀ d v H2, P d → Ex H H2 → Rep K (hid (hs ++ adr Γ) H2) v d → Q v H2
def Lb (K : Frag) (t : XT) : TE := fun σ H Q => ∃ (H0 : Hp) (ps hs : List Addr) (Γ : Env) (P : D → Prop), SE K H0 ps hs Γ σ H ∧ t Γ P ∧ ∀ d v H2, P d → Ex H H2 → RepW K (hid (hs ++ adr Γ) H2) H2 v d → Q v H2
def Lf (K : Frag) (t : FT) : TE := fun σ H Q => ∃ (H0 : Hp) (ps hs : List Addr) (Γ : Env) (P : List D → Prop), SE K H0 ps hs Γ σ H ∧ t Γ P ∧ ∀ ds p vs H2, P ds → H p = none → Ex H H2 → H2 p = some (.lst vs) → Reps K (hid (p :: (hs ++ adr Γ)) H2) vs ds → Q (.ref p) H2
def Lt (K : Frag) (t : BT) : TT := fun σ H Q => ∃ (H0 : Hp) (ps hs : List Addr) (Γ : Env) (P : Bool → Prop), SE K H0 ps hs Γ σ H ∧ t Γ P ∧ ∀ b H2, P b → Ex H H2 → Q b H2
/-- arguments: strictly as data; as readable things -/
def LaS (K : Frag) (t : FT) : TA := fun σ H Q => ∃ (H0 : Hp) (ps hs : List Addr) (Γ : Env) (P : List D → Prop), SE K H0 ps hs Γ σ H ∧ t Γ P ∧ ∀ ds vs H2, P ds → Ex H H2 → Reps K (hid (hs ++ adr Γ) H2) vs ds → Q vs H2
def LaW (K : Frag) (t : FT) : TA := fun σ H Q => ∃ (H0 : Hp) (ps hs : List Addr) (Γ : Env) (P : List D → Prop), SE K H0 ps hs Γ σ H ∧ t Γ P ∧ ∀ ds vs H2, P ds → Ex H H2 → RepWs K (hid (hs ++ adr Γ) H2) H2 vs ds → Q vs H2

section
variable {X : Cx}
theorem pe_imp {e : Expr} {t t' : TE} (h : PE X e t) (hi : ∀ σ H Q, t' σ H Q → t σ H Q) : PE X e t' := ⟨fun pins s σ H Q I q => h.run pins s σ H Q I (hi σ H Q q)⟩
theorem pt_imp {e : Expr} {t t' : TT} (h : PT X e t) (hi : ∀ σ H Q, t' σ H Q → t σ H Q) : PT X e t' := ⟨fun pins s σ H Q I q => h.run pins s σ H Q I (hi σ H Q q)⟩
theorem pw_imp {e : Expr} {t t' : TT} (h : PW X e t) (hi : ∀ σ H Q, t' σ H Q → t σ H Q) : PW X e t' := ⟨fun w pins s σ H Q I q => h.run w pins s σ H Q I (hi σ H Q q)⟩
theorem pa_imp {es : List Expr} {t t' : TA} (h : PA X es t) (hi : ∀ σ H Q, t' σ H Q → t σ H Q) : PA X es t' := ⟨fun p pins s σ H Q I q => h.run p pins s σ H Q I (hi σ H Q q)⟩

/-- data may be read -/
theorem bx {e : Expr} {t : XT} (h : PE X e (Li X.K t)) : PE X e (Lb X.K t) := pe_imp h fun σ H Q ⟨H0, ps, hs, Γ, P, se, ht, k⟩ => ⟨H0, ps, hs, Γ, P, se, ht, fun d v H2 p e r => k d v H2 p e (.im r)⟩
/-- a new list is data -/
def xF (t : FT) : XT := fun Γ P => t Γ fun ds => P (.lst ds)
theorem px_f {e : Expr} {t : FT} (h : PE X e (Lf X.K t)) : PE X e (Li X.K (xF t)) := pe_imp h fun σ H Q ⟨H0, ps, hs, Γ, P, se, ht, k⟩ => ⟨H0, ps, hs, Γ, fun ds => P (.lst ds), se, ht, fun ds p vs H2 q n e h2 r => k _ _ H2 q e (by
  have np : p ∉ hs ++ adr Γ := se.bs.new n
  exact .lst (by rw [hid_ni np]; exact h2) (r.mono (hid_sub fun a m => List.mem_cons_of_mem _ m)))⟩

/-! ### names, constants -/
/-- data that is read the same everywhere -/
def D.fl : D → Bool
  | .non => true
  | .bl _ => true
  | .int _ => true
  | .str _ => true
  | .tup _ => true
  | _ => false
theorem RepW.flat {K : Frag} {B H : Hp} {v : V} {d : D} (h : RepW K B H v d) (f : d.fl = true) : Rep K B v d := by
  cases h with
  | im h => exact h
  | _ => cases f
def xVar (i : Nat) : XT := fun Γ P => match Γ[i]? with
  | some (some (.im d)) => P d
  | some (some (.bo d)) => d.fl = true ∧ P d
  | _ => False
def bVar (i : Nat) : XT := fun Γ P => match Γ[i]? with
  | some (some s) => P s.dat
  | _ => False
def xC (d : D) : XT := fun _ P => P d
theorem px_var (i : Nat) {x : Str} {pos : Pos} (hN : X.N[i]? = some x := by rfl) (hv : Vis X.env.scope x := by first | exact Or.inl rfl | exact Or.inr (Or.inl rfl) | exact Or.inr (Or.inr rfl)) (hd : (x == ("__debug__" : Str)) = false := by decide)
    (hcd : (x == ("__classdict__" : Str)) = false := by decide) : PE X (.Name x pos) (Li X.K (xVar i)) := pe_imp (pe_var hN hv hd hcd) fun σ H Q ⟨H0, ps, hs, Γ, P, se, ht, k⟩ => by
  unfold xVar at ht
  split at ht
  · rename_i d e
    obtain ⟨v, h1, h2⟩ := se.ok i _ e
    exact ⟨v, h1, k d v H ht (Same.refl H) h2⟩
  · rename_i d e
    obtain ⟨v, h1, h2⟩ := se.ok i _ e
    exact ⟨v, h1, k d v H ht.2 (Same.refl H) (RepW.flat h2 ht.1)⟩
  · exact ht.elim
theorem bx_var (i : Nat) {x : Str} {pos : Pos} (hN : X.N[i]? = some x := by rfl) (hv : Vis X.env.scope x := by first | exact Or.inl rfl | exact Or.inr (Or.inl rfl) | exact Or.inr (Or.inr rfl)) (hd : (x == ("__debug__" : Str)) = false := by decide)
    (hcd : (x == ("__classdict__" : Str)) = false := by decide) : PE X (.Name x pos) (Lb X.K (bVar i)) := pe_imp (pe_var hN hv hd hcd) fun σ H Q ⟨H0, ps, hs, Γ, P, se, ht, k⟩ => by
  unfold bVar at ht
  split at ht
  · rename_i s e
    obtain ⟨v, h1, h2⟩ := se.ok i _ e
    exact ⟨v, h1, k s.dat v H ht (Same.refl H) (h2.w hid_ex)⟩
  · exact ht.elim
theorem px_c {e : Expr} {v : V} {d : D} (h : PE X e (tC v)) (r : ∀ K H, Rep K H v d) : PE X e (Li X.K (xC d)) := pe_imp h fun σ H Q ⟨H0, ps, hs, Γ, P, se, ht, k⟩ => k d v H ht (Same.refl H) (r _ _)
theorem px_int {i j pos} : PE X (.Constant (.int i) j pos) (Li X.K (xC (.int i))) := px_c pe_int fun _ _ => .int i
theorem px_bl {b j pos} : PE X (.Constant (.bool b) j pos) (Li X.K (xC (.bl b))) := px_c pe_bl fun _ _ => .bl b
theorem px_non {j pos} : PE X (.Constant .none j pos) (Li X.K (xC .non)) := px_c pe_non fun _ _ => .non
theorem px_str {x j pos} : PE X (.Constant (.str x) j pos) (Li X.K (xC (.str x))) := px_c pe_str fun _ _ => .str x
/-- a class, a def as a value -/
theorem px_glob {x : Str} {v : V} {u : Value} {pos : Pos} (hg : Gl X x) (hm : X.mg x = some u) (r : RelV v u) (hd : (x == ("__debug__" : Str)) = false := by decide) : PE X (.Name x pos) (Li X.K (xC (.raw v))) := px_c (pe_glob hg hm r hd) fun _ _ => .raw v

/-! ### operators by data -/
abbrev F2 := D → D → (D → Prop) → Prop
def x2 (f : F2) (ta tb : XT) : XT := fun Γ P => ta Γ fun d => tb Γ fun e => f d e P
def b2 (f : F2) (ta tb : XT) : BT := fun Γ P => ta Γ fun d => tb Γ fun e => f d e fun z => match z with
  | .bl b => P b
  | _ => False
/-- r does what f says -/
def Does (K : Frag) (r : R2) (f : F2) : Prop := ∀ (ms : List Addr) (H : Hp) (x y : V) (d e : D) (P : D → Prop) (Q : VK), Bs ms H → RepW K (hid ms H) H x d → RepW K (hid ms H) H y e → f d e P →
  (∀ z v H2, P z → Ex H H2 → Rep K (hid ms H2) v z → Q v H2) → r x y H Q
theorem bin_of {σ : St} {H : Hp} {Q : VK} {r : R2} {f : F2} {ta tb : XT} (hd : Does X.K r f) (h : Li X.K (x2 f ta tb) σ H Q) : tOp r (Lb X.K ta) (Lb X.K tb) σ H Q := by
  obtain ⟨H0, ps, hs, Γ, P, se, ht, k⟩ := h
  refine ⟨H0, ps, hs, Γ, _, se, ht, fun d x H1 h1 e1 r1 => ?_⟩
  refine ⟨H0, ps, hs, Γ, _, se.mono e1, h1, fun e y H2 h2 e2 r2 => ?_⟩
  exact hd _ H2 x y d e P Q ((se.mono e1).mono e2).bs (r1.mono (hid_ex2 e2) e2) r2 h2 fun z v H3 hz e3 r3 => k z v H3 hz ((e1.trans e2).trans e3) r3
theorem px_bin {op : Operator} {a b : Expr} {pos : Pos} {r : R2} {f : F2} {ta tb : XT} (ho : OpR X (binaryOp op) r) (hd : Does X.K r f) (ha : PE X a (Lb X.K ta)) (hb : PE X b (Lb X.K tb)) : PE X (.BinOp a op b pos) (Li X.K (x2 f ta tb)) :=
  pe_imp (pe_op ho ha hb) fun _ _ _ h => bin_of hd h
theorem px_cmp {op : CmpOp} {a b : Expr} {pos : Pos} {r : R2} {f : F2} {ta tb : XT} (ho : OpR X (compareOp op) r) (hd : Does X.K r f) (ha : PE X a (Lb X.K ta)) (hb : PE X b (Lb X.K tb)) (hm : behindInMarks op b = false := by first | exact nomark _ | rfl) : PE X (.Compare a [op] [b] pos) (Li X.K (x2 f ta tb)) :=
  pe_imp (pe_cmpR ho ha hb hm) fun _ _ _ h => bin_of hd h
theorem tx_cmp {op : CmpOp} {a b : Expr} {pos : Pos} {r : R2} {f : F2} {ta tb : XT} (ho : OpR X (compareOp op) r) (hd : Does X.K r f) (ha : PE X a (Lb X.K ta)) (hb : PE X b (Lb X.K tb)) (hm : behindInMarks op b = false := by first | exact nomark _ | rfl) : PT X (.Compare a [op] [b] pos) (Lt X.K (b2 f ta tb)) :=
  pt_imp (pt_cmpR ho ha hb hm) fun σ H Q ⟨H0, ps, hs, Γ, P, se, ht, k⟩ => bin_of hd ⟨H0, ps, hs, Γ, _, se, ht, fun d v H2 p e r => by
    cases d with
    | bl c =>
      cases r
      exact ⟨c, rfl, k c H2 p e⟩
    | _ => exact p.elim⟩

def fAdd : F2 := fun d e P => match d, e with
  | .int i, .int j => P (.int (i + j))
  | .str x, .str y => x.length + y.length ≤ sizeLine ∧ P (.str (x ++ y))
  | .lst xs, .lst ys => xs.length + ys.length ≤ sizeLine ∧ P (.lst (xs ++ ys))
  | .tup xs, .tup ys => xs.length + ys.length ≤ sizeLine ∧ P (.tup (xs ++ ys))
  | _, _ => False
theorem RepW.intv {K : Frag} {B H : Hp} {v : V} {i : Int} (h : RepW K B H v (.int i)) : v = .int i := by
  cases h with
  | im h => cases h; rfl
theorem RepW.strv {K : Frag} {B H : Hp} {v : V} {i : Str} (h : RepW K B H v (.str i)) : v = .str i := by
  cases h with
  | im h => cases h; rfl
theorem RepW.blv {K : Frag} {B H : Hp} {v : V} {i : Bool} (h : RepW K B H v (.bl i)) : v = .bl i := by
  cases h with
  | im h => cases h; rfl
/-- a new tuple of parts that stand in B -/
theorem rep_newT {K : Frag} {ms : List Addr} {H : Hp} {p : Addr} {vs : List V} {ds : List D} (b : Bs ms H) (n : H p = none) (r : Reps K (hid ms H) vs ds) : Rep K (hid ms (upd H p (.tup vs))) (.ref p) (.tup ds) :=
  .tup (Or.inl (Or.inl (by rw [hid_ni (b.new n), upd_same]))) (r.mono (hid_ex2 (Ex.new n)))
theorem rep_newL {K : Frag} {ms : List Addr} {H : Hp} {p : Addr} {vs : List V} {ds : List D} (b : Bs ms H) (n : H p = none) (r : Reps K (hid ms H) vs ds) : Rep K (hid ms (upd H p (.lst vs))) (.ref p) (.lst ds) :=
  .lst (by rw [hid_ni (b.new n), upd_same]) (r.mono (hid_ex2 (Ex.new n)))
def rAddD (K : Frag) : R2 := fun x y H Q => (rI0 fun i j => .int (i + j)) x y H Q ∨ ((∃ i j, x = .str i ∧ y = .str j ∧ i.length + j.length ≤ sizeLine ∧ Q (.str (i ++ j)) H) ∨ (rCat x y H Q ∨ rCatA K x y H Q))
theorem op_addD : OpR X (binaryOp .Add) (rAddD X.K) := op_add.or (op_add_str.or (op_cat.or op_catA))
theorem does_add {K : Frag} : Does K (rAddD K) fAdd := fun ms H x y d e P Q b rx ry h k => by
  have em : Ex (hid ms H) H := hid_ex
  unfold fAdd at h
  split at h
  · cases rx.intv; cases ry.intv
    exact .inl ⟨_, _, rfl, rfl, k _ _ H h (Same.refl H) (.int _)⟩
  · cases rx.strv; cases ry.strv
    exact .inr (.inl ⟨_, _, rfl, rfl, h.1, k _ _ H h.2 (Same.refl H) (.str _)⟩)
  · obtain ⟨a, vs, rfl, h1, r1⟩ := rx.list em
    obtain ⟨c, ws, rfl, h2, r2⟩ := ry.list em
    refine .inr (.inr (.inl ⟨a, c, vs, ws, rfl, rfl, h1, h2, by rw [r1.length, r2.length]; exact h.1, fun p n => k _ _ _ h.2 (Ex.new n) (rep_newL b n (r1.append r2))⟩))
  · obtain ⟨a, vs, rfl, h1, r1⟩ := rx.tuple em
    obtain ⟨c, ws, rfl, h2, r2⟩ := ry.tuple em
    refine .inr (.inr (.inr ⟨a, c, vs, ws, rfl, rfl, h1, h2, by rw [r1.length, r2.length]; exact h.1, fun z => ?_, fun z1 z2 => ?_, fun z1 z2 p n => k _ _ _ h.2 (Ex.new n) (rep_newT b n (r1.append r2))⟩))
    · subst z
      cases r1
      cases ry with
      | im q => exact k _ _ H h.2 (Same.refl H) q
    · subst z2
      cases r2
      cases rx with
      | im q =>
        refine k _ _ H h.2 (Same.refl H) ?_
        rw [List.append_nil]
        exact q
  · exact h.elim
/-- ints -/
def fI (C : Int → Int → Prop) (g : Int → Int → Int) : F2 := fun d e P => match d, e with
  | .int i, .int j => C i j ∧ P (.int (g i j))
  | _, _ => False
def fI0 (g : Int → Int → Int) : F2 := fun d e P => match d, e with
  | .int i, .int j => P (.int (g i j))
  | _, _ => False
def fB0 (g : Int → Int → Bool) : F2 := fun d e P => match d, e with
  | .int i, .int j => P (.bl (g i j))
  | _, _ => False
theorem does_I {K : Frag} {C : Int → Int → Prop} {g : Int → Int → Int} : Does K (rI C fun i j => .int (g i j)) (fI C g) := fun ms H x y d e P Q b rx ry h k => by
  unfold fI at h
  split at h
  · cases rx.intv; cases ry.intv
    exact ⟨_, _, rfl, rfl, h.1, k _ _ H h.2 (Same.refl H) (.int _)⟩
  · exact h.elim
theorem does_I0 {K : Frag} {g : Int → Int → Int} : Does K (rI0 fun i j => .int (g i j)) (fI0 g) := fun ms H x y d e P Q b rx ry h k => by
  unfold fI0 at h
  split at h
  · cases rx.intv; cases ry.intv
    exact ⟨_, _, rfl, rfl, k _ _ H h (Same.refl H) (.int _)⟩
  · exact h.elim
theorem does_B0 {K : Frag} {g : Int → Int → Bool} : Does K (rI0 fun i j => .bl (g i j)) (fB0 g) := fun ms H x y d e P Q b rx ry h k => by
  unfold fB0 at h
  split at h
  · cases rx.intv; cases ry.intv
    exact ⟨_, _, rfl, rfl, k _ _ H h (Same.refl H) (.bl _)⟩
  · exact h.elim
section
variable {a b : Expr} {pos : Pos} {ta tb : XT}
theorem px_add (ha : PE X a (Lb X.K ta)) (hb : PE X b (Lb X.K tb)) : PE X (.BinOp a .Add b pos) (Li X.K (x2 fAdd ta tb)) := px_bin op_addD does_add ha hb
theorem px_sub (ha : PE X a (Lb X.K ta)) (hb : PE X b (Lb X.K tb)) : PE X (.BinOp a .Sub b pos) (Li X.K (x2 (fI0 fun i j => i - j) ta tb)) := px_bin op_sub does_I0 ha hb
theorem px_mul (ha : PE X a (Lb X.K ta)) (hb : PE X b (Lb X.K tb)) : PE X (.BinOp a .Mult b pos) (Li X.K (x2 (fI CMul fun i j => i * j) ta tb)) := px_bin op_mul does_I ha hb
theorem px_mod (ha : PE X a (Lb X.K ta)) (hb : PE X b (Lb X.K tb)) : PE X (.BinOp a .Mod b pos) (Li X.K (x2 (fI (fun _ j => 0 < j) fun i j => i % j) ta tb)) := px_bin op_mod does_I ha hb
theorem px_fdiv (ha : PE X a (Lb X.K ta)) (hb : PE X b (Lb X.K tb)) : PE X (.BinOp a .FloorDiv b pos) (Li X.K (x2 (fI CDiv fun i j => i / j) ta tb)) := px_bin op_fdiv does_I ha hb
theorem px_pow (ha : PE X a (Lb X.K ta)) (hb : PE X b (Lb X.K tb)) : PE X (.BinOp a .Pow b pos) (Li X.K (x2 (fI CPow fun i j => i ^ j.toNat) ta tb)) := px_bin op_pow does_I ha hb
theorem px_lt (ha : PE X a (Lb X.K ta)) (hb : PE X b (Lb X.K tb)) : PE X (.Compare a [.Lt] [b] pos) (Li X.K (x2 (fB0 fun i j => decide (i < j)) ta tb)) := px_cmp op_lt does_B0 ha hb
theorem px_le (ha : PE X a (Lb X.K ta)) (hb : PE X b (Lb X.K tb)) : PE X (.Compare a [.LtE] [b] pos) (Li X.K (x2 (fB0 fun i j => decide (i ≤ j)) ta tb)) := px_cmp op_le does_B0 ha hb
theorem px_gt (ha : PE X a (Lb X.K ta)) (hb : PE X b (Lb X.K tb)) : PE X (.Compare a [.Gt] [b] pos) (Li X.K (x2 (fB0 fun i j => decide (j < i)) ta tb)) := px_cmp op_gt does_B0 ha hb
theorem px_ge (ha : PE X a (Lb X.K ta)) (hb : PE X b (Lb X.K tb)) : PE X (.Compare a [.GtE] [b] pos) (Li X.K (x2 (fB0 fun i j => decide (j ≤ i)) ta tb)) := px_cmp op_ge does_B0 ha hb
theorem tx_lt (ha : PE X a (Lb X.K ta)) (hb : PE X b (Lb X.K tb)) : PT X (.Compare a [.Lt] [b] pos) (Lt X.K (b2 (fB0 fun i j => decide (i < j)) ta tb)) := tx_cmp op_lt does_B0 ha hb
theorem tx_le (ha : PE X a (Lb X.K ta)) (hb : PE X b (Lb X.K tb)) : PT X (.Compare a [.LtE] [b] pos) (Lt X.K (b2 (fB0 fun i j => decide (i ≤ j)) ta tb)) := tx_cmp op_le does_B0 ha hb
theorem tx_gt (ha : PE X a (Lb X.K ta)) (hb : PE X b (Lb X.K tb)) : PT X (.Compare a [.Gt] [b] pos) (Lt X.K (b2 (fB0 fun i j => decide (j < i)) ta tb)) := tx_cmp op_gt does_B0 ha hb
theorem tx_ge (ha : PE X a (Lb X.K ta)) (hb : PE X b (Lb X.K tb)) : PT X (.Compare a [.GtE] [b] pos) (Lt X.K (b2 (fB0 fun i j => decide (j ≤ i)) ta tb)) := tx_cmp op_ge does_B0 ha hb
end
end
end Kb
set_option Elab.async false
set_option linter.all false
set_option maxRecDepth 100000
set_option maxHeartbeats 1000000
/-! Kb2: equality, tests, attributes, subscripts, displays, calls of built-ins. -/
namespace Kb
open PySem L2
set_option autoImplicit false

/-! ### data as the model's data -/
mutual
def D.py : D → PyData
  | .non => .none
  | .bl b => .bool b
  | .int i => .int i
  | .str x => .str x
  | .lst xs => .list (D.pys xs)
  | .tup xs => .tuple (D.pys xs)
  | _ => .none
def D.pys : List D → List PyData
  | [] => []
  | d :: ds => d.py :: D.pys ds
end
theorem pys_map : ∀ ds : List D, D.pys ds = ds.map D.py
  | [] => rfl
  | d :: ds => by rw [D.pys, pys_map ds]; rfl
/-- plain data of depth at most n -/
def D.sh : Nat → D → Bool
  | _, .non => true
  | _, .bl _ => true
  | _, .int _ => true
  | _, .str x => PyData.strOk x
  | n + 1, .lst xs => xs.all (D.sh n)
  | n + 1, .tup xs => xs.all (D.sh n)
  | _, _ => false
def eqD (d e : D) : Bool := PyData.eqv d.py e.py
theorem sh_lay : ∀ (n : Nat) (d : D), d.sh n = true → d.py.canLay0 = true ∧ d.py.depth ≤ n := by
  intro n
  induction n with
  | zero => intro d h; cases d <;> simp_all [D.sh, D.py, PyData.canLay0, PyData.depth]
  | succ n ih =>
    have all : ∀ xs : List D, xs.all (D.sh n) = true → PyData.canLayAll0 (D.pys xs) = true ∧ PyData.depthAll (D.pys xs) ≤ n := by
      intro xs
      induction xs with
      | nil => intro _; simp [D.pys, PyData.canLayAll0, PyData.depthAll]
      | cons x xs ih2 =>
        intro h
        have h' : D.sh n x = true ∧ xs.all (D.sh n) = true := by simpa using h
        obtain ⟨a, b⟩ := ih x h'.1
        obtain ⟨c, d⟩ := ih2 h'.2
        simp only [D.pys, PyData.canLayAll0, PyData.depthAll, a, c, Bool.and_self, true_and]
        omega
    intro d h
    cases d with
    | lst xs =>
      obtain ⟨a, b⟩ := all xs h
      simp only [D.py, PyData.canLay0, PyData.depth, a, true_and]
      omega
    | tup xs =>
      obtain ⟨a, b⟩ := all xs h
      simp only [D.py, PyData.canLay0, PyData.depth, a, true_and]
      omega
    | _ => simp_all [D.sh, D.py, PyData.canLay0, PyData.depth]
theorem sh_shaped {n : Nat} {d : D} (h : d.sh n = true) (hn : n ≤ 64 := by decide) : SeqAt.shaped d.py = true := by
  obtain ⟨a, b⟩ := sh_lay n d h
  unfold SeqAt.shaped
  rw [a, Bool.true_and]
  exact decide_eq_true (Nat.le_trans b hn)
theorem rep_dp {K : Frag} {H : Hp} : ∀ (n : Nat) (d : D) (v : V), d.sh n = true → Rep K H v d → Dp K H v d.py := by
  intro n
  induction n with
  | zero =>
    intro d v h r
    cases r <;> first | exact .non | exact .bl _ | exact .int _ | exact .str _ | (simp [D.sh] at h)
  | succ n ih =>
    have all : ∀ (ds : List D) (vs : List V), ds.all (D.sh n) = true → Reps K H vs ds → DpAll K H vs (D.pys ds) := by
      intro ds
      induction ds with
      | nil => intro vs _ r; cases r; exact .nil
      | cons d ds ih2 =>
        intro vs h r
        have h' : D.sh n d = true ∧ ds.all (D.sh n) = true := by simpa using h
        cases r with
        | cons a b => exact .cons (ih _ _ h'.1 a) (ih2 _ h'.2 b)
    intro d v h r
    cases r with
    | non => exact .non
    | bl b => exact .bl _
    | int i => exact .int _
    | str x => exact .str _
    | lst a b => exact .lst (SqL.of a) (all _ _ h b)
    | tup a b => exact .tup a (all _ _ h b)
    | _ => simp [D.sh] at h

section
variable {X : Cx}
abbrev hi60 : Nat := 60
def fEq : F2 := fun d e P => d.sh 60 = true ∧ e.sh 60 = true ∧ P (.bl (eqD d e))
def fNe : F2 := fun d e P => d.sh 60 = true ∧ e.sh 60 = true ∧ P (.bl (!eqD d e))
theorem does_eq {K : Frag} : Does K (rEqD K) fEq := fun ms H x y d e P Q b rx ry h k =>
  ⟨d.py, e.py, rep_dp 60 d x h.1 (rx.rep hid_ex), rep_dp 60 e y h.2.1 (ry.rep hid_ex), sh_shaped h.1, sh_shaped h.2.1, k _ _ H h.2.2 (Same.refl H) (.bl _)⟩
theorem does_ne {K : Frag} : Does K (rNeD K) fNe := fun ms H x y d e P Q b rx ry h k =>
  ⟨d.py, e.py, rep_dp 60 d x h.1 (rx.rep hid_ex), rep_dp 60 e y h.2.1 (ry.rep hid_ex), sh_shaped h.1, sh_shaped h.2.1, k _ _ H h.2.2 (Same.refl H) (.bl _)⟩
def inL (d : D) (ys : List D) : Bool := ys.any fun z => eqD z d
def fIn (neg : Bool) : F2 := fun d e P => match e with
  | .lst ys => d.sh 60 = true ∧ (D.lst ys).sh 60 = true ∧ P (.bl (if neg then !inL d ys else inL d ys))
  | _ => False
theorem pys_any (d : D) (ys : List D) : ((D.pys ys).any fun z => PyData.eqv z d.py) = inL d ys := by
  rw [pys_map, List.any_map]; rfl
theorem does_in {K : Frag} : Does K (rInD K) (fIn false) := fun ms H x y d e P Q b rx ry h k => by
  unfold fIn at h
  split at h
  · rename_i ys
    refine ⟨d.py, D.pys ys, rep_dp 60 d x h.1 (rx.rep hid_ex), rep_dp 60 (.lst ys) y h.2.1 (ry.rep hid_ex), sh_shaped h.1, sh_shaped h.2.1, ?_⟩
    rw [pys_any]
    exact k _ _ H h.2.2 (Same.refl H) (.bl _)
  · exact h.elim
theorem does_nin {K : Frag} : Does K (rNotInD K) (fIn true) := fun ms H x y d e P Q b rx ry h k => by
  unfold fIn at h
  split at h
  · rename_i ys
    refine ⟨d.py, D.pys ys, rep_dp 60 d x h.1 (rx.rep hid_ex), rep_dp 60 (.lst ys) y h.2.1 (ry.rep hid_ex), sh_shaped h.1, sh_shaped h.2.1, ?_⟩
    rw [pys_any]
    exact k _ _ H h.2.2 (Same.refl H) (.bl _)
  · exact h.elim
def D.isN : D → Bool
  | .non => true
  | .raw v => decide (v = .non)
  | _ => false
theorem rep_isN {K : Frag} {B H : Hp} {v : V} {d : D} (r : RepW K B H v d) : decide (v = .non) = d.isN := by
  cases r with
  | im r => cases r <;> simp [D.isN]
  | _ => simp [D.isN]
def fIs : F2 := fun d e P => match e with
  | .non => P (.bl d.isN)
  | _ => False
def fIsNot : F2 := fun d e P => match e with
  | .non => P (.bl (!d.isN))
  | _ => False
theorem RepW.nonv {K : Frag} {B H : Hp} {v : V} (h : RepW K B H v .non) : v = .non := by
  cases h with
  | im h => cases h; rfl
theorem does_is {K : Frag} : Does K (fun x y H Q => y = .non ∧ Q (.bl (decide (x = .non))) H) fIs := fun ms H x y d e P Q b rx ry h k => by
  unfold fIs at h
  split at h
  · refine ⟨ry.nonv, ?_⟩
    rw [rep_isN rx]
    exact k _ _ H h (Same.refl H) (.bl _)
  · exact h.elim
theorem does_isnot {K : Frag} : Does K (fun x y H Q => y = .non ∧ Q (.bl (!decide (x = .non))) H) fIsNot := fun ms H x y d e P Q b rx ry h k => by
  unfold fIsNot at h
  split at h
  · refine ⟨ry.nonv, ?_⟩
    rw [rep_isN rx]
    exact k _ _ H h (Same.refl H) (.bl _)
  · exact h.elim
section
variable {a b : Expr} {pos : Pos} {ta tb : XT}
theorem px_eq {k : Nat} (hr : Room k X.A) (ha : PE X a (Lb X.K ta)) (hb : PE X b (Lb X.K tb)) : PE X (.Compare a [.Eq] [b] pos) (Li X.K (x2 fEq ta tb)) := px_cmp (op_eqD hr.units) does_eq ha hb
theorem px_ne {k : Nat} (hr : Room k X.A) (ha : PE X a (Lb X.K ta)) (hb : PE X b (Lb X.K tb)) : PE X (.Compare a [.NotEq] [b] pos) (Li X.K (x2 fNe ta tb)) := px_cmp (op_neD hr.units) does_ne ha hb
theorem tx_eq {k : Nat} (hr : Room k X.A) (ha : PE X a (Lb X.K ta)) (hb : PE X b (Lb X.K tb)) : PT X (.Compare a [.Eq] [b] pos) (Lt X.K (b2 fEq ta tb)) := tx_cmp (op_eqD hr.units) does_eq ha hb
theorem tx_ne {k : Nat} (hr : Room k X.A) (ha : PE X a (Lb X.K ta)) (hb : PE X b (Lb X.K tb)) : PT X (.Compare a [.NotEq] [b] pos) (Lt X.K (b2 fNe ta tb)) := tx_cmp (op_neD hr.units) does_ne ha hb
theorem hu65 {k : Nat} {A : Around} (hr : Room (k + 1) A) : A.units + 65 < cLine := by have := hr.un; omega
theorem px_in {k : Nat} (hr : Room (k + 1) X.A) (ha : PE X a (Lb X.K ta)) (hb : PE X b (Lb X.K tb)) (hm : behindInMarks .In b = false := by rfl) : PE X (.Compare a [.In] [b] pos) (Li X.K (x2 (fIn false) ta tb)) := px_cmp (op_inD (hu65 hr)) does_in ha hb hm
theorem px_nin {k : Nat} (hr : Room (k + 1) X.A) (ha : PE X a (Lb X.K ta)) (hb : PE X b (Lb X.K tb)) (hm : behindInMarks .NotIn b = false := by rfl) : PE X (.Compare a [.NotIn] [b] pos) (Li X.K (x2 (fIn true) ta tb)) := px_cmp (op_notInD (hu65 hr)) does_nin ha hb hm
theorem tx_in {k : Nat} (hr : Room (k + 1) X.A) (ha : PE X a (Lb X.K ta)) (hb : PE X b (Lb X.K tb)) (hm : behindInMarks .In b = false := by rfl) : PT X (.Compare a [.In] [b] pos) (Lt X.K (b2 (fIn false) ta tb)) := tx_cmp (op_inD (hu65 hr)) does_in ha hb hm
theorem tx_nin {k : Nat} (hr : Room (k + 1) X.A) (ha : PE X a (Lb X.K ta)) (hb : PE X b (Lb X.K tb)) (hm : behindInMarks .NotIn b = false := by rfl) : PT X (.Compare a [.NotIn] [b] pos) (Lt X.K (b2 (fIn true) ta tb)) := tx_cmp (op_notInD (hu65 hr)) does_nin ha hb hm
theorem px_is (ha : PE X a (Lb X.K ta)) (hb : PE X b (Lb X.K tb)) : PE X (.Compare a [.Is] [b] pos) (Li X.K (x2 fIs ta tb)) := px_cmp op_isN does_is ha hb
theorem px_isnot (ha : PE X a (Lb X.K ta)) (hb : PE X b (Lb X.K tb)) : PE X (.Compare a [.IsNot] [b] pos) (Li X.K (x2 fIsNot ta tb)) := px_cmp op_notN does_isnot ha hb
theorem tx_is (ha : PE X a (Lb X.K ta)) (hb : PE X b (Lb X.K tb)) : PT X (.Compare a [.Is] [b] pos) (Lt X.K (b2 fIs ta tb)) := tx_cmp op_isN does_is ha hb
theorem tx_isnot (ha : PE X a (Lb X.K ta)) (hb : PE X b (Lb X.K tb)) : PT X (.Compare a [.IsNot] [b] pos) (Lt X.K (b2 fIsNot ta tb)) := tx_cmp op_notN does_isnot ha hb
end

/-! ### unary minus -/
def xNeg (t : XT) : XT := fun Γ P => t Γ fun d => match d with
  | .int i => P (.int (-i))
  | _ => False
theorem px_neg {a : Expr} {pos : Pos} {t : XT} (ha : PE X a (Lb X.K t)) : PE X (.UnaryOp .USub a pos) (Li X.K (xNeg t)) := pe_imp (pe_un un_neg ha) fun σ H Q ⟨H0, ps, hs, Γ, P, se, ht, k⟩ => ⟨H0, ps, hs, Γ, _, se, ht, fun d v H2 p e r => by
  cases d with
  | int i => cases r.intv; exact ⟨i, rfl, k _ _ H2 p e (.int _)⟩
  | _ => exact p.elim⟩

/-! ### tests -/
def bTru (t : XT) : BT := fun Γ P => t Γ fun d => match d with
  | .non => P false
  | .bl b => P b
  | .int i => P (i != 0)
  | .str y => y.length ≤ sizeLine ∧ P ((y.length : Int) != 0)
  | .lst xs => P (!xs.isEmpty)
  | .tup xs => P (!xs.isEmpty)
  | .dic es => P (!es.isEmpty)
  | _ => False
theorem reps_empty {K : Frag} {B : Hp} {vs : List V} {ds : List D} (r : Reps K B vs ds) : (!ds.isEmpty) = !vs.isEmpty := by cases r <;> rfl
theorem keys_empty {κ : Type} {kvs : List (κ × V)} {es : List (κ × D)} (h : kvs.map (·.1) = es.map (·.1)) : (!es.isEmpty) = !kvs.isEmpty := by
  cases kvs <;> cases es <;> simp_all
/-- truth of any value -/
theorem tx_tru {a : Expr} {t : XT} (ha : PE X a (Lb X.K t)) (he : ∀ whole, isTrue a X.env whole = (do let v ← whole; standAt a.pos; holding [v] (truthy v)) := by intro _; rfl) : PT X a (Lt X.K (bTru t)) :=
  pt_imp (pt_truth ha he) fun σ H Q ⟨H0, ps, hs, Γ, P, se, ht, k⟩ => ⟨H0, ps, hs, Γ, _, se, ht, fun d v H2 p e r => by
    have em : Ex (hid (hs ++ adr Γ) H2) H2 := hid_ex
    cases d with
    | non => cases r.nonv; exact ⟨false, rfl, k _ H2 p e⟩
    | bl b => cases r.blv; exact ⟨b, rfl, k _ H2 p e⟩
    | int i => cases r.intv; exact ⟨_, rfl, k _ H2 p e⟩
    | str i => cases r.strv; exact ⟨_, ⟨p.1, rfl⟩, k _ H2 p.2 e⟩
    | lst xs => obtain ⟨a, vs, rfl, h, q⟩ := r.list em; exact ⟨_, .inl ⟨vs, SqL.of h, reps_empty q⟩, k _ H2 p e⟩
    | tup xs => obtain ⟨a, vs, rfl, h, q⟩ := r.tuple em; exact ⟨_, .inr (.inl ⟨vs, h, reps_empty q⟩), k _ H2 p e⟩
    | dic xs => obtain ⟨a, vs, rfl, h, q, _⟩ := r.dict em; exact ⟨_, .inr (.inr ⟨vs, h, keys_empty q⟩), k _ H2 p e⟩
    | _ => exact p.elim⟩
def bNot (t : BT) : BT := fun Γ P => t Γ fun b => P (!b)
theorem tx_not {a : Expr} {pos : Pos} {t : BT} (ha : PT X a (Lt X.K t)) : PT X (.UnaryOp .Not a pos) (Lt X.K (bNot t)) := pt_imp (pt_not ha) fun σ H Q ⟨H0, ps, hs, Γ, P, se, ht, k⟩ => ⟨H0, ps, hs, Γ, _, se, ht, fun b H2 p e => k _ H2 p e⟩
def bAnd (t u : BT) : BT := fun Γ P => t Γ fun b => (b = true → u Γ P) ∧ (b = false → P false)
def bOr (t u : BT) : BT := fun Γ P => t Γ fun b => (b = true → P true) ∧ (b = false → u Γ P)
theorem tw_and1 {a : Expr} {pos : Pos} {t : BT} (ha : PT X a (Lt X.K t)) : PW X (.BoolOp .And [a] pos) (Lt X.K t) := pw_and1 ha
theorem tw_or1 {a : Expr} {pos : Pos} {t : BT} (ha : PT X a (Lt X.K t)) : PW X (.BoolOp .Or [a] pos) (Lt X.K t) := pw_or1 ha
theorem tw_and {a b : Expr} {rest : List Expr} {pos : Pos} {t u : BT} (ha : PT X a (Lt X.K t)) (hb : PW X (.BoolOp .And (b :: rest) pos) (Lt X.K u)) : PW X (.BoolOp .And (a :: b :: rest) pos) (Lt X.K (bAnd t u)) :=
  pw_imp (pw_and ha hb) fun σ H Q ⟨H0, ps, hs, Γ, P, se, ht, k⟩ => ⟨H0, ps, hs, Γ, _, se, ht, fun b H2 p e => by
    cases b with
    | true => exact iteT ⟨H0, ps, hs, Γ, P, se.mono e, p.1 rfl, fun b H3 q e3 => k b H3 q (e.trans e3)⟩
    | false => exact iteF (k _ H2 (p.2 rfl) e)⟩
theorem tw_or {a b : Expr} {rest : List Expr} {pos : Pos} {t u : BT} (ha : PT X a (Lt X.K t)) (hb : PW X (.BoolOp .Or (b :: rest) pos) (Lt X.K u)) : PW X (.BoolOp .Or (a :: b :: rest) pos) (Lt X.K (bOr t u)) :=
  pw_imp (pw_or ha hb) fun σ H Q ⟨H0, ps, hs, Γ, P, se, ht, k⟩ => ⟨H0, ps, hs, Γ, _, se, ht, fun b H2 p e => by
    cases b with
    | true => exact iteT (k _ H2 (p.1 rfl) e)
    | false => exact iteF ⟨H0, ps, hs, Γ, P, se.mono e, p.2 rfl, fun b H3 q e3 => k b H3 q (e.trans e3)⟩⟩
theorem tx_w {e : Expr} {t : BT} (h : PW X e (Lt X.K t)) : PT X e (Lt X.K t) := h.pt
/-! ### values of and, or, not; conditional expressions -/
def xAnd (ta tb : XT) : XT := fun Γ P => ta Γ fun d => match d with
  | .bl b => (b = true → tb Γ P) ∧ (b = false → P (.bl false))
  | _ => False
def xOr (ta tb : XT) : XT := fun Γ P => ta Γ fun d => match d with
  | .bl b => (b = true → P (.bl true)) ∧ (b = false → tb Γ P)
  | _ => False
def xNot (ta : XT) : XT := fun Γ P => ta Γ fun d => match d with
  | .bl b => P (.bl (!b))
  | _ => False
theorem px_one {op : BoolOp} {a : Expr} {pos : Pos} {t : XT} (ha : PE X a (Li X.K t)) : PE X (.BoolOp op [a] pos) (Li X.K t) := pe_one ha
theorem px_and {a b : Expr} {rest : List Expr} {pos : Pos} {ta tb : XT} (ha : PE X a (Lb X.K ta)) (hb : PE X (.BoolOp .And (b :: rest) pos) (Li X.K tb)) : PE X (.BoolOp .And (a :: b :: rest) pos) (Li X.K (xAnd ta tb)) :=
  pe_imp (pe_and ha hb) fun σ H Q ⟨H0, ps, hs, Γ, P, se, ht, k⟩ => ⟨H0, ps, hs, Γ, _, se, ht, fun d v H2 p e r => by
    cases d with
    | bl b =>
      cases r.blv
      refine ⟨b, rfl, ?_⟩
      cases b with
      | true => exact iteT ⟨H0, ps, hs, Γ, P, se.mono e, p.1 rfl, fun d v H3 q e3 r3 => k d v H3 q (e.trans e3) r3⟩
      | false => exact iteF (k _ _ H2 (p.2 rfl) e (.bl _))
    | _ => exact p.elim⟩
theorem px_or {a b : Expr} {rest : List Expr} {pos : Pos} {ta tb : XT} (ha : PE X a (Lb X.K ta)) (hb : PE X (.BoolOp .Or (b :: rest) pos) (Li X.K tb)) : PE X (.BoolOp .Or (a :: b :: rest) pos) (Li X.K (xOr ta tb)) :=
  pe_imp (pe_or ha hb) fun σ H Q ⟨H0, ps, hs, Γ, P, se, ht, k⟩ => ⟨H0, ps, hs, Γ, _, se, ht, fun d v H2 p e r => by
    cases d with
    | bl b =>
      cases r.blv
      refine ⟨b, rfl, ?_⟩
      cases b with
      | true => exact iteT (k _ _ H2 (p.1 rfl) e (.bl _))
      | false => exact iteF ⟨H0, ps, hs, Γ, P, se.mono e, p.2 rfl, fun d v H3 q e3 r3 => k d v H3 q (e.trans e3) r3⟩
    | _ => exact p.elim⟩
theorem px_not {a : Expr} {pos : Pos} {t : XT} (ha : PE X a (Lb X.K t)) : PE X (.UnaryOp .Not a pos) (Li X.K (xNot t)) := pe_imp (pe_not ha) fun σ H Q ⟨H0, ps, hs, Γ, P, se, ht, k⟩ => ⟨H0, ps, hs, Γ, _, se, ht, fun d v H2 p e r => by
  cases d with
  | bl b => cases r.blv; exact ⟨b, rfl, k _ _ H2 p e (.bl _)⟩
  | _ => exact p.elim⟩
def xIfE (c : BT) (ta tb : XT) : XT := fun Γ P => c Γ fun b => (b = true → ta Γ P) ∧ (b = false → tb Γ P)
theorem px_ifE {c a b : Expr} {pos : Pos} {t : BT} {ta tb : XT} (hc : PT X c (Lt X.K t)) (ha : PE X a (Li X.K ta)) (hb : PE X b (Li X.K tb)) : PE X (.IfExp c a b pos) (Li X.K (xIfE t ta tb)) :=
  pe_imp (pe_ifExp hc ha hb) fun σ H Q ⟨H0, ps, hs, Γ, P, se, ht, k⟩ => ⟨H0, ps, hs, Γ, _, se, ht, fun b H2 p e => by
    cases b with
    | true => exact iteT ⟨H0, ps, hs, Γ, P, se.mono e, p.1 rfl, fun d v H3 q e3 r3 => k d v H3 q (e.trans e3) r3⟩
    | false => exact iteF ⟨H0, ps, hs, Γ, P, se.mono e, p.2 rfl, fun d v H3 q e3 r3 => k d v H3 q (e.trans e3) r3⟩⟩

/-! ### attributes -/
theorem look_rep {K : Frag} {B : Hp} : ∀ {fvs : List (Str × V)} {fs : List (Str × D)} {f : Str} {d : D}, fvs.map (·.1) = fs.map (·.1) → Reps K B (fvs.map (·.2)) (fs.map (·.2)) → fs.lookup f = some d → ∃ v, fvs.lookup f = some v ∧ Rep K B v d
  | [], [], _, _, _, _, h => by simp at h
  | (x, v) :: r, (y, e) :: q, f, d, hk, hr, h => by
    simp only [List.map_cons, List.cons.injEq] at hk
    obtain ⟨rfl, hk⟩ := hk
    cases hr with
    | cons h1 h2 =>
      rw [List.lookup_cons] at h ⊢
      cases z : (f == x) with
      | true => rw [z] at h; cases h; exact ⟨v, rfl, h1⟩
      | false => rw [z] at h; exact look_rep hk h2 h
  | [], _ :: _, _, _, hk, _, _ => by simp at hk
  | _ :: _, [], _, _, hk, _, _ => by simp at hk
def xFld (C : Addr) (f : Str) (t : XT) : XT := fun Γ P => t Γ fun d => match d with
  | .obj C' fs => C' = C ∧ (match fs.lookup f with
    | some z => P z
    | none => False)
  | _ => False
theorem px_fld {e : Expr} {f : Str} {pos : Pos} {t : XT} {C : Addr} (c : Cls X.K C) (n : NoAttr X.K C f) (he : PE X e (Lb X.K t)) (hb : attributeBase e f X.env (eval e X.env) = eval e X.env := by rfl) : PE X (.Attribute e f pos) (Li X.K (xFld C f t)) :=
  pe_imp (pe_fld he hb) fun σ H Q ⟨H0, ps, hs, Γ, P, se, ht, k⟩ => ⟨H0, ps, hs, Γ, _, se, ht, fun d v H2 p e r => by
    cases d with
    | obj C' fs =>
      obtain ⟨rfl, p⟩ := p
      obtain ⟨a, dx, fvs, rfl, h, hk, hr⟩ := r.inst hid_ex
      cases z : fs.lookup f with
      | none => rw [z] at p; exact p.elim
      | some d =>
        rw [z] at p
        obtain ⟨v, h1, h2⟩ := look_rep hk hr z
        exact ⟨a, C', dx, fvs, v, rfl, h, c, n, h1, k d v H2 p e h2⟩
    | _ => exact p.elim⟩

/-! ### subscripts, slices -/
theorem ixN_lt {n : Nat} {i : Int} {j : Nat} (h : ixN n i = some j) : j < n := (ixN_seq h).2.1
theorem atI_rep {K : Frag} {B : Hp} {vs : List V} {ds : List D} {i : Int} {d : D} (r : Reps K B vs ds) (h : atI ds i = some d) : ∃ v, atI vs i = some v ∧ Rep K B v d := by
  unfold atI at h ⊢
  rw [r.length]
  cases e : ixN ds.length i with
  | none => rw [e] at h; cases h
  | some j =>
    rw [e] at h
    exact r.get' h
def fIx : F2 := fun d e P => match d, e with
  | .lst xs, .int i => (match atI xs i with
    | some z => P z
    | none => False)
  | .tup xs, .int i => (match atI xs i with
    | some z => P z
    | none => False)
  | .scr xs, .int i => (match atI xs i with
    | some z => P (.int z)
    | none => False)
  | _, _ => False
theorem atI_map {α β : Type} (g : α → β) (xs : List α) (i : Int) : atI (xs.map g) i = (atI xs i).map g := by
  unfold atI
  rw [List.length_map]
  cases ixN xs.length i <;> simp
theorem does_ix {K : Frag} : Does K (rIx K) fIx := fun ms H x y d e P Q b rx ry h k => by
  have em : Ex (hid ms H) H := hid_ex
  unfold fIx at h
  split at h
  · rename_i xs i
    cases ry.intv
    obtain ⟨a, vs, rfl, h1, r1⟩ := rx.list em
    cases z : atI xs i with
    | none => rw [z] at h; exact h.elim
    | some d =>
      rw [z] at h
      obtain ⟨v, q1, q2⟩ := atI_rep r1 z
      exact .inl ⟨a, vs, i, v, rfl, rfl, SqL.of h1, q1, k _ _ H h (Same.refl H) q2⟩
  · rename_i xs i
    cases ry.intv
    obtain ⟨a, vs, rfl, h1, r1⟩ := rx.tuple em
    cases z : atI xs i with
    | none => rw [z] at h; exact h.elim
    | some d =>
      rw [z] at h
      obtain ⟨v, q1, q2⟩ := atI_rep r1 z
      exact .inr (.inl ⟨a, vs, i, v, rfl, rfl, h1, q1, k _ _ H h (Same.refl H) q2⟩)
  · rename_i xs i
    cases ry.intv
    cases rx with
    | im rx =>
      cases rx with
      | scr h1 =>
        cases z : atI xs i with
        | none => rw [z] at h; exact h.elim
        | some d =>
          rw [z] at h
          exact .inl ⟨_, _, i, .int d, rfl, rfl, em.sl h1, by rw [atI_map, z]; rfl, k _ _ H h (Same.refl H) (.int _)⟩
  · exact h.elim
theorem px_ix {a b : Expr} {pos : Pos} {ta tb : XT} (ha : PE X a (Lb X.K ta)) (hb : PE X b (Lb X.K tb)) (hs : PlainIx b := by exact fun _ _ => rfl) : PE X (.Subscript a b pos) (Li X.K (x2 fIx ta tb)) :=
  pe_imp (pe_ix ix_seq ha hb hs) fun _ _ _ h => bin_of does_ix h
def cutD (xs : List D) (lo hi : Option Int) : List D := (xs.drop (HT.sIx xs.length 0 lo)).take (HT.sIx xs.length xs.length hi - HT.sIx xs.length 0 lo)
theorem cut_rep {K : Frag} {B : Hp} {vs : List V} {ds : List D} (r : Reps K B vs ds) (lo hi : Option Int) : Reps K B (cutV vs lo hi) (cutD ds lo hi) := by
  unfold cutV cutD
  rw [r.length]
  exact (r.drop _).take _
abbrev OT := Env → (Option Int → Prop) → Prop
def Lo (K : Frag) (t : OT) : TO := fun σ H Q => ∃ (H0 : Hp) (ps hs : List Addr) (Γ : Env) (P : Option Int → Prop), SE K H0 ps hs Γ σ H ∧ t Γ P ∧ ∀ o H2, P o → Ex H H2 → Q o H2
def oNo : OT := fun _ P => P none
def oSo (t : XT) : OT := fun Γ P => t Γ fun d => match d with
  | .int i => P (some i)
  | _ => False
theorem po_imp {e : Option Expr} {t t' : TO} (h : PO X e t) (hi : ∀ σ H Q, t' σ H Q → t σ H Q) : PO X e t' := ⟨fun pins s σ H Q I q => h.run pins s σ H Q I (hi σ H Q q)⟩
theorem ox_no : PO X none (Lo X.K oNo) := po_imp po_none fun σ H Q ⟨H0, ps, hs, Γ, P, se, ht, k⟩ => k none H ht (Same.refl H)
theorem ox_so {e : Expr} {t : XT} (he : PE X e (Lb X.K t)) : PO X (some e) (Lo X.K (oSo t)) := po_imp (po_some he) fun σ H Q ⟨H0, ps, hs, Γ, P, se, ht, k⟩ => ⟨H0, ps, hs, Γ, _, se, ht, fun d v H2 p e r => by
  cases d with
  | int i => cases r.intv; exact ⟨i, rfl, k _ H2 p e⟩
  | _ => exact p.elim⟩
def fSl (t : XT) (tl th : OT) : FT := fun Γ P => t Γ fun d => match d with
  | .lst xs => tl Γ fun lo => th Γ fun hi => P (cutD xs lo hi)
  | _ => False
theorem reps_new {K : Frag} {ms : List Addr} {H : Hp} {p : Addr} {o : HO} {vs : List V} {ds : List D} (n : H p = none) (r : Reps K (hid ms H) vs ds) : Reps K (hid (p :: ms) (upd H p o)) vs ds := by
  rw [hid_upd (List.mem_cons_self)]
  refine r.mono fun a u e => ?_
  have ha : a ∉ ms := fun m => by rw [hid_in m] at e; cases e
  rw [hid_ni ha] at e
  rw [hid_ni (fun m => (List.mem_cons.mp m).elim (ne_of_none e n) ha)]
  exact e
theorem fx_sl {e : Expr} {lo hi : Option Expr} {p2 pos : Pos} {t : XT} {tl th : OT} (he : PE X e (Lb X.K t)) (hl : PO X lo (Lo X.K tl)) (hh : PO X hi (Lo X.K th)) : PE X (.Subscript e (.Slice lo hi none p2) pos) (Lf X.K (fSl t tl th)) :=
  pe_imp (pe_slice sl_list he hl hh) fun σ H Q ⟨H0, ps, hs, Γ, P, se, ht, k⟩ => ⟨H0, ps, hs, Γ, _, se, ht, fun d v H2 p e r => by
    cases d with
    | lst xs =>
      refine ⟨H0, ps, hs, Γ, _, se.mono e, p, fun lo H3 q3 e3 => ⟨H0, ps, hs, Γ, _, (se.mono e).mono e3, q3, fun hi H4 q4 e4 => ?_⟩⟩
      obtain ⟨a, vs, rfl, h, rr⟩ := r.list hid_ex
      have em : Ex H2 H4 := e3.trans e4
      refine ⟨a, vs, rfl, SqL.of (em _ _ h), fun q n => ?_⟩
      have rr2 : Reps X.K (hid (hs ++ adr Γ) H4) vs xs := rr.mono (hid_ex2 em)
      exact k _ q _ _ q4 (by
        cases z : H q with
        | none => rfl
        | some o => rw [em _ _ (e _ _ z)] at n; cases n) ((e.trans em).trans (Ex.new n)) upd_same (reps_new n (cut_rep rr2 lo hi))
    | _ => exact p.elim⟩

/-! ### arguments, displays -/
def aNil : FT := fun _ P => P []
def aCons (t : XT) (u : FT) : FT := fun Γ P => t Γ fun d => u Γ fun ds => P (d :: ds)
theorem as_nil : PA X [] (LaS X.K aNil) := pa_imp pa_nil fun σ H Q ⟨H0, ps, hs, Γ, P, se, ht, k⟩ => k [] [] H ht (Same.refl H) .nil
theorem aw_nil : PA X [] (LaW X.K aNil) := pa_imp pa_nil fun σ H Q ⟨H0, ps, hs, Γ, P, se, ht, k⟩ => k [] [] H ht (Same.refl H) .nil
theorem as_cons {e : Expr} {es : List Expr} {t : XT} {u : FT} (he : PE X e (Li X.K t)) (hs : PA X es (LaS X.K u)) (hx : starEach (e :: es) X.env = (false, eval e X.env) :: starEach es X.env := by rfl) : PA X (e :: es) (LaS X.K (aCons t u)) :=
  pa_imp (pa_cons he hs hx) fun σ H Q ⟨H0, ps, hs, Γ, P, se, ht, k⟩ => ⟨H0, ps, hs, Γ, _, se, ht, fun d v H2 p e r => ⟨H0, ps, hs, Γ, _, se.mono e, p, fun ds vs H3 q e3 r3 => k _ _ H3 q (e.trans e3) (.cons (r.mono (hid_ex2 e3)) r3)⟩⟩
theorem aw_cons {e : Expr} {es : List Expr} {t : XT} {u : FT} (he : PE X e (Lb X.K t)) (hs : PA X es (LaW X.K u)) (hx : starEach (e :: es) X.env = (false, eval e X.env) :: starEach es X.env := by rfl) : PA X (e :: es) (LaW X.K (aCons t u)) :=
  pa_imp (pa_cons he hs hx) fun σ H Q ⟨H0, ps, hs, Γ, P, se, ht, k⟩ => ⟨H0, ps, hs, Γ, _, se, ht, fun d v H2 p e r => ⟨H0, ps, hs, Γ, _, se.mono e, p, fun ds vs H3 q e3 r3 => k _ _ H3 q (e.trans e3) (.cons (r.mono (hid_ex2 e3) e3) r3)⟩⟩
def xTup (t : FT) : XT := fun Γ P => t Γ fun ds => ds.length ≤ sizeLine ∧ P (.tup ds)
theorem px_tup {es : List Expr} {x1 : Nat} {pos : Pos} {t : FT} (h : PA X es (LaS X.K t)) : PE X (.Tuple es x1 pos) (Li X.K (xTup t)) := pe_imp (pe_tup h) fun σ H Q ⟨H0, ps, hs, Γ, P, se, ht, k⟩ => ⟨H0, ps, hs, Γ, _, se, ht, fun ds vs H2 p e r =>
  ⟨by rw [r.length]; exact p.1, fun q n => k _ _ _ p.2 (e.trans (Ex.new n)) (rep_newT (se.mono e).bs n r)⟩⟩
def fLst (t : FT) : FT := fun Γ P => t Γ fun ds => ds.length ≤ sizeLine ∧ P ds
theorem fresh_of {H H2 : Hp} {q : Addr} (e : Ex H H2) (n : H2 q = none) : H q = none := by
  cases z : H q with
  | none => rfl
  | some o => rw [e _ _ z] at n; cases n
theorem fx_lst {es : List Expr} {pos : Pos} {t : FT} (h : PA X es (LaS X.K t)) : PE X (.List es pos) (Lf X.K (fLst t)) := pe_imp (pe_lst h) fun σ H Q ⟨H0, ps, hs, Γ, P, se, ht, k⟩ => ⟨H0, ps, hs, Γ, _, se, ht, fun ds vs H2 p e r =>
  ⟨by rw [r.length]; exact p.1, fun q n => k _ q vs _ p.2 (fresh_of e n) (e.trans (Ex.new n)) upd_same (reps_new n r)⟩⟩
/-- xs + ys as a new list -/
def fCat (ta tb : XT) : FT := fun Γ P => ta Γ fun d => tb Γ fun e => match d, e with
  | .lst xs, .lst ys => xs.length + ys.length ≤ sizeLine ∧ P (xs ++ ys)
  | _, _ => False
theorem fx_cat {a b : Expr} {pos : Pos} {ta tb : XT} (ha : PE X a (Lb X.K ta)) (hb : PE X b (Lb X.K tb)) : PE X (.BinOp a .Add b pos) (Lf X.K (fCat ta tb)) :=
  pe_imp (pe_op op_cat ha hb) fun σ H Q ⟨H0, ps, hs, Γ, P, se, ht, k⟩ => ⟨H0, ps, hs, Γ, _, se, ht, fun d x H1 h1 e1 r1 => ⟨H0, ps, hs, Γ, _, se.mono e1, h1, fun e y H2 h2 e2 r2 => by
    split at h2
    · obtain ⟨a, vs, rfl, g1, q1⟩ := r1.list hid_ex
      obtain ⟨c, ws, rfl, g2, q2⟩ := r2.list hid_ex
      exact ⟨a, c, vs, ws, rfl, rfl, e2 _ _ g1, g2, by rw [q1.length, q2.length]; exact h2.1, fun p n => k _ p _ _ h2.2 (fresh_of (e1.trans e2) n) ((e1.trans e2).trans (Ex.new n)) upd_same (reps_new n ((q1.mono (hid_ex2 e2)).append q2))⟩
    · exact h2.elim⟩⟩
end
end Kb
set_option Elab.async false
set_option linter.all false
set_option maxRecDepth 100000
set_option maxHeartbeats 1000000
/-! Kb3: calls of built-ins. -/
namespace Kb
open PySem L2
set_option autoImplicit false

abbrev F1 := List D → (D → Prop) → Prop
abbrev FL := List D → (List D → Prop) → Prop
def DoesC (K : Frag) (r : List V → Hp → VK → Prop) (f : F1) : Prop := ∀ (ms : List Addr) (H : Hp) (xs : List V) (ds : List D) (P : D → Prop) (Q : VK), Bs ms H → RepWs K (hid ms H) H xs ds → f ds P →
  (∀ z v H2, P z → Ex H H2 → Rep K (hid ms H2) v z → Q v H2) → r xs H Q
def DoesF (K : Frag) (r : List V → Hp → VK → Prop) (f : FL) : Prop := ∀ (ms : List Addr) (H : Hp) (xs : List V) (ds : List D) (P : List D → Prop) (Q : VK), Bs ms H → RepWs K (hid ms H) H xs ds → f ds P →
  (∀ zs p vs H2, P zs → H p = none → Ex H H2 → H2 p = some (.lst vs) → Reps K (hid (p :: ms) H2) vs zs → Q (.ref p) H2) → r xs H Q
def xCall (f : F1) (t : FT) : XT := fun Γ P => t Γ fun ds => f ds P
def fCall (f : FL) (t : FT) : FT := fun Γ P => t Γ fun ds => f ds P
section
variable {X : Cx}
theorem cb_of {σ : St} {H : Hp} {Q : VK} {r : List V → Hp → VK → Prop} {f : F1} {t : FT} (hd : DoesC X.K r f) (h : Li X.K (xCall f t) σ H Q) : tCB r (LaW X.K t) σ H Q := by
  obtain ⟨H0, ps, hs, Γ, P, se, ht, k⟩ := h
  exact ⟨H0, ps, hs, Γ, _, se, ht, fun ds vs H2 p e rr => hd _ H2 vs ds P Q (se.mono e).bs rr p fun z v H3 hz e3 r3 => k z v H3 hz (e.trans e3) r3⟩
theorem cf_of {σ : St} {H : Hp} {Q : VK} {r : List V → Hp → VK → Prop} {f : FL} {t : FT} (hd : DoesF X.K r f) (h : Lf X.K (fCall f t) σ H Q) : tCB r (LaW X.K t) σ H Q := by
  obtain ⟨H0, ps, hs, Γ, P, se, ht, k⟩ := h
  exact ⟨H0, ps, hs, Γ, _, se, ht, fun ds vs H2 p e rr => hd _ H2 vs ds P Q (se.mono e).bs rr p fun z q v H3 hz n e3 h3 r3 => k z q v H3 hz (fresh_of e n) (e.trans e3) h3 r3⟩
section
variable {x : Str} {id T : String} {e : Expr} {es : List Expr} {p pos : Pos} {r : List V → Hp → VK → Prop} {t : FT}
theorem px_callB {f : F1} (hc : CallR X (.builtin id) r) (hd : DoesC X.K r f) (hg : Gl X x) (hm : X.mg x = none) (hv : bootBuiltins x = some (.builtin id)) (ha : PA X (e :: es) (LaW X.K t)) (hn : x ≠ "__name__" := by decide) (hdb : (x == ("__debug__" : Str)) = false := by decide)
    (he : starEach (e :: es) X.env = (false, eval e X.env) :: starEach es X.env := by rfl) (hpl : (backTo pos (starEach es X.env)).any (·.1) = false := by rfl) : PE X (.Call (.Name x p) (e :: es) [] pos) (Li X.K (xCall f t)) :=
  pe_imp (pe_callB hc hg hm hv ha hn hdb he hpl) fun _ _ _ h => cb_of hd h
theorem px_callTy {f : F1} (hc : CallR X (.type T) r) (hd : DoesC X.K r f) (hg : Gl X x) (hm : X.mg x = none) (hv : bootBuiltins x = some (.type T)) (ha : PA X (e :: es) (LaW X.K t)) (hn : x ≠ "__name__" := by decide) (hdb : (x == ("__debug__" : Str)) = false := by decide)
    (he : starEach (e :: es) X.env = (false, eval e X.env) :: starEach es X.env := by rfl) (hpl : (backTo pos (starEach es X.env)).any (·.1) = false := by rfl) : PE X (.Call (.Name x p) (e :: es) [] pos) (Li X.K (xCall f t)) :=
  pe_imp (pe_callTy hc hg hm hv ha hn hdb he hpl) fun _ _ _ h => cb_of hd h
theorem fx_callB {f : FL} (hc : CallR X (.builtin id) r) (hd : DoesF X.K r f) (hg : Gl X x) (hm : X.mg x = none) (hv : bootBuiltins x = some (.builtin id)) (ha : PA X (e :: es) (LaW X.K t)) (hn : x ≠ "__name__" := by decide) (hdb : (x == ("__debug__" : Str)) = false := by decide)
    (he : starEach (e :: es) X.env = (false, eval e X.env) :: starEach es X.env := by rfl) (hpl : (backTo pos (starEach es X.env)).any (·.1) = false := by rfl) : PE X (.Call (.Name x p) (e :: es) [] pos) (Lf X.K (fCall f t)) :=
  pe_imp (pe_callB hc hg hm hv ha hn hdb he hpl) fun _ _ _ h => cf_of hd h
theorem fx_callTy {f : FL} (hc : CallR X (.type T) r) (hd : DoesF X.K r f) (hg : Gl X x) (hm : X.mg x = none) (hv : bootBuiltins x = some (.type T)) (ha : PA X (e :: es) (LaW X.K t)) (hn : x ≠ "__name__" := by decide) (hdb : (x == ("__debug__" : Str)) = false := by decide)
    (he : starEach (e :: es) X.env = (false, eval e X.env) :: starEach es X.env := by rfl) (hpl : (backTo pos (starEach es X.env)).any (·.1) = false := by rfl) : PE X (.Call (.Name x p) (e :: es) [] pos) (Lf X.K (fCall f t)) :=
  pe_imp (pe_callTy hc hg hm hv ha hn hdb he hpl) fun _ _ _ h => cf_of hd h
end

/-! ### len -/
def fLen : F1 := fun ds P => match ds with
  | [.lst xs] => P (.int xs.length)
  | [.tup xs] => P (.int xs.length)
  | [.scr xs] => P (.int xs.length)
  | [.str x] => x.length ≤ sizeLine ∧ P (.int x.length)
  | _ => False
theorem RepWs.one {K : Frag} {B H : Hp} {xs : List V} {d : D} (h : RepWs K B H xs [d]) : ∃ v, xs = [v] ∧ RepW K B H v d := by
  cases h with
  | cons a b => cases b; exact ⟨_, rfl, a⟩
theorem RepWs.two {K : Frag} {B H : Hp} {xs : List V} {d e : D} (h : RepWs K B H xs [d, e]) : ∃ v w, xs = [v, w] ∧ RepW K B H v d ∧ RepW K B H w e := by
  cases h with
  | cons a b => obtain ⟨w, rfl, c⟩ := b.one; exact ⟨_, _, rfl, a, c⟩
theorem does_len {K : Frag} : DoesC K (fun xs H Q => ∃ x n, xs = [x] ∧ LenV K x H n ∧ Q (.int n) H) fLen := fun ms H xs ds P Q b rr h k => by
  have em : Ex (hid ms H) H := hid_ex
  unfold fLen at h
  split at h
  · obtain ⟨v, rfl, r⟩ := rr.one
    obtain ⟨a, vs, rfl, h1, r1⟩ := r.list em
    exact ⟨_, _, rfl, .inl ⟨vs, SqL.of h1, rfl⟩, by rw [r1.length]; exact k _ _ H h (Same.refl H) (.int _)⟩
  · obtain ⟨v, rfl, r⟩ := rr.one
    obtain ⟨a, vs, rfl, h1, r1⟩ := r.tuple em
    exact ⟨_, _, rfl, .inr ⟨vs, h1, rfl⟩, by rw [r1.length]; exact k _ _ H h (Same.refl H) (.int _)⟩
  · obtain ⟨v, rfl, r⟩ := rr.one
    cases r with
    | im r =>
      cases r with
      | scr h1 => exact ⟨_, _, rfl, .inl ⟨_, em.sl h1, rfl⟩, by rw [List.length_map]; exact k _ _ H h (Same.refl H) (.int _)⟩
  · obtain ⟨v, rfl, r⟩ := rr.one
    cases r.strv
    exact ⟨_, _, rfl, ⟨h.1, rfl⟩, k _ _ H h.2 (Same.refl H) (.int _)⟩
  · exact h.elim
theorem px_len {e : Expr} {p pos : Pos} {t : XT} (hg : Gl X "len") (hm : X.mg "len" = none) (h : PE X e (Lb X.K t)) (he : starEach [e] X.env = (false, eval e X.env) :: starEach [] X.env := by rfl) (hpl : (backTo pos (starEach [] X.env)).any (·.1) = false := by rfl) :
    PE X (.Call (.Name "len" p) [e] [] pos) (Li X.K (xCall fLen (aCons t aNil))) := px_callB call_len does_len hg hm PySem.boot_len (aw_cons h aw_nil he) (by decide) (by decide) he hpl
/-! ### abs, int, list, tuple, any, all -/
def fAbs : F1 := fun ds P => match ds with
  | [.int i] => P (.int (if i < 0 then -i else i))
  | _ => False
theorem does_abs {K : Frag} : DoesC K (fun xs H Q => ∃ i, xs = [.int i] ∧ Q (.int (if i < 0 then -i else i)) H) fAbs := fun ms H xs ds P Q b rr h k => by
  unfold fAbs at h
  split at h
  · obtain ⟨v, rfl, r⟩ := rr.one
    cases r.intv
    exact ⟨_, rfl, k _ _ H h (Same.refl H) (.int _)⟩
  · exact h.elim
def fInt : F1 := fun ds P => match ds with
  | [.int i] => P (.int i)
  | [.bl b] => P (.int (if b then 1 else 0))
  | _ => False
theorem does_int {K : Frag} : DoesC K (fun xs H Q => (∃ i, xs = [.int i] ∧ Q (.int i) H) ∨ ∃ k, xs = [.bl k] ∧ Q (.int (if k then 1 else 0)) H) fInt := fun ms H xs ds P Q b rr h k => by
  unfold fInt at h
  split at h
  · obtain ⟨v, rfl, r⟩ := rr.one
    cases r.intv
    exact .inl ⟨_, rfl, k _ _ H h (Same.refl H) (.int _)⟩
  · obtain ⟨v, rfl, r⟩ := rr.one
    cases r.blv
    exact .inr ⟨_, rfl, k _ _ H h (Same.refl H) (.int _)⟩
  · exact h.elim
def fList : FL := fun ds P => match ds with
  | [.lst xs] => P xs
  | [.tup xs] => P xs
  | _ => False
theorem does_list {K : Frag} : DoesF K (fun xs H Q => ∃ p ys, xs = [.ref p] ∧ (SqL K H p ys ∨ SqT K H p ys) ∧ ∀ l, H l = none → Q (.ref l) (upd H l (.lst ys))) fList := fun ms H xs ds P Q b rr h k => by
  have em : Ex (hid ms H) H := hid_ex
  unfold fList at h
  split at h
  · obtain ⟨v, rfl, r⟩ := rr.one
    obtain ⟨a, vs, rfl, h1, r1⟩ := r.list em
    exact ⟨a, vs, rfl, .inl (SqL.of h1), fun l n => k _ l vs _ h n (Ex.new n) upd_same (reps_new n r1)⟩
  · obtain ⟨v, rfl, r⟩ := rr.one
    obtain ⟨a, vs, rfl, h1, r1⟩ := r.tuple em
    exact ⟨a, vs, rfl, .inr h1, fun l n => k _ l vs _ h n (Ex.new n) upd_same (reps_new n r1)⟩
  · exact h.elim
def fTuple : F1 := fun ds P => match ds with
  | [.lst xs] => P (.tup xs)
  | [.tup xs] => P (.tup xs)
  | _ => False
theorem does_tuple {K : Frag} : DoesC K (fun xs H Q => ∃ p ys, xs = [.ref p] ∧ ((SqL K H p ys ∧ ∀ l, H l = none → Q (.ref l) (upd H l (.tup ys))) ∨ (SqT K H p ys ∧ Q (.ref p) H))) fTuple := fun ms H xs ds P Q b rr h k => by
  have em : Ex (hid ms H) H := hid_ex
  unfold fTuple at h
  split at h
  · obtain ⟨v, rfl, r⟩ := rr.one
    obtain ⟨a, vs, rfl, h1, r1⟩ := r.list em
    exact ⟨a, vs, rfl, .inl ⟨SqL.of h1, fun l n => k _ _ _ h (Ex.new n) (rep_newT b n r1)⟩⟩
  · obtain ⟨v, rfl, r⟩ := rr.one
    obtain ⟨a, vs, rfl, h1, r1⟩ := r.tuple em
    cases r with
    | im r => exact ⟨a, vs, rfl, .inr ⟨h1, k _ _ H h (Same.refl H) r⟩⟩
  · exact h.elim
theorem reps_bl {K : Frag} {B : Hp} : ∀ {bs : List Bool} {vs : List V}, Reps K B vs (bs.map D.bl) → vs = bs.map V.bl
  | [], _, .nil => rfl
  | b :: bs, _, .cons h r => by cases h; rw [reps_bl r]; rfl
theorem reps_int {K : Frag} {B : Hp} : ∀ {bs : List Int} {vs : List V}, Reps K B vs (bs.map D.int) → vs = bs.map V.int
  | [], _, .nil => rfl
  | b :: bs, _, .cons h r => by cases h; rw [reps_int r]; rfl
theorem int_reps {K : Frag} {B : Hp} : ∀ (bs : List Int), Reps K B (bs.map V.int) (bs.map D.int)
  | [] => .nil
  | b :: bs => .cons (.int b) (int_reps bs)
def fAny (any : Bool) : F1 := fun ds P => ∃ bs : List Bool, ds = [.lst (bs.map D.bl)] ∧ P (.bl (if any then bs.any id else bs.all id))
theorem does_any {K : Frag} : DoesC K (rAny K) (fAny true) := fun ms H xs ds P Q b rr h k => by
  obtain ⟨bs, rfl, h⟩ := h
  obtain ⟨v, rfl, r⟩ := rr.one
  obtain ⟨a, vs, rfl, h1, r1⟩ := r.list hid_ex
  have e := reps_bl r1
  subst e
  exact ⟨a, bs, rfl, SqL.of h1, k _ _ H h (Same.refl H) (.bl _)⟩
theorem does_all {K : Frag} : DoesC K (rAll K) (fAny false) := fun ms H xs ds P Q b rr h k => by
  obtain ⟨bs, rfl, h⟩ := h
  obtain ⟨v, rfl, r⟩ := rr.one
  obtain ⟨a, vs, rfl, h1, r1⟩ := r.list hid_ex
  have e := reps_bl r1
  subst e
  exact ⟨a, bs, rfl, SqL.of h1, k _ _ H h (Same.refl H) (.bl _)⟩
section
variable {e : Expr} {p pos : Pos} {t : XT}
theorem px_abs (hg : Gl X "abs") (hm : X.mg "abs" = none) (h : PE X e (Lb X.K t)) (he : starEach [e] X.env = (false, eval e X.env) :: starEach [] X.env := by rfl) (hpl : (backTo pos (starEach [] X.env)).any (·.1) = false := by rfl) :
    PE X (.Call (.Name "abs" p) [e] [] pos) (Li X.K (xCall fAbs (aCons t aNil))) := px_callB call_abs does_abs hg hm (by decide +kernel) (aw_cons h aw_nil he) (by decide) (by decide) he hpl
theorem px_toint (hg : Gl X "int") (hm : X.mg "int" = none) (h : PE X e (Lb X.K t)) (he : starEach [e] X.env = (false, eval e X.env) :: starEach [] X.env := by rfl) (hpl : (backTo pos (starEach [] X.env)).any (·.1) = false := by rfl) :
    PE X (.Call (.Name "int" p) [e] [] pos) (Li X.K (xCall fInt (aCons t aNil))) := px_callTy call_int1 does_int hg hm (by decide +kernel) (aw_cons h aw_nil he) (by decide) (by decide) he hpl
theorem fx_list (hg : Gl X "list") (hm : X.mg "list" = none) (h : PE X e (Lb X.K t)) (he : starEach [e] X.env = (false, eval e X.env) :: starEach [] X.env := by rfl) (hpl : (backTo pos (starEach [] X.env)).any (·.1) = false := by rfl) :
    PE X (.Call (.Name "list" p) [e] [] pos) (Lf X.K (fCall fList (aCons t aNil))) := fx_callTy call_list_of does_list hg hm (by decide +kernel) (aw_cons h aw_nil he) (by decide) (by decide) he hpl
theorem px_tuple (hg : Gl X "tuple") (hm : X.mg "tuple" = none) (h : PE X e (Lb X.K t)) (he : starEach [e] X.env = (false, eval e X.env) :: starEach [] X.env := by rfl) (hpl : (backTo pos (starEach [] X.env)).any (·.1) = false := by rfl) :
    PE X (.Call (.Name "tuple" p) [e] [] pos) (Li X.K (xCall fTuple (aCons t aNil))) := px_callTy call_tuple_of does_tuple hg hm (by decide +kernel) (aw_cons h aw_nil he) (by decide) (by decide) he hpl
theorem px_any (hc : X.calm = true) (hg : Gl X "any") (hm : X.mg "any" = none) (h : PE X e (Lb X.K t)) (he : starEach [e] X.env = (false, eval e X.env) :: starEach [] X.env := by rfl) (hpl : (backTo pos (starEach [] X.env)).any (·.1) = false := by rfl) :
    PE X (.Call (.Name "any" p) [e] [] pos) (Li X.K (xCall (fAny true) (aCons t aNil))) := px_callB (cr_any hc) does_any hg hm (by decide +kernel) (aw_cons h aw_nil he) (by decide) (by decide) he hpl
theorem px_all (hc : X.calm = true) (hg : Gl X "all") (hm : X.mg "all" = none) (h : PE X e (Lb X.K t)) (he : starEach [e] X.env = (false, eval e X.env) :: starEach [] X.env := by rfl) (hpl : (backTo pos (starEach [] X.env)).any (·.1) = false := by rfl) :
    PE X (.Call (.Name "all" p) [e] [] pos) (Li X.K (xCall (fAny false) (aCons t aNil))) := px_callB (cr_all hc) does_all hg hm (by decide +kernel) (aw_cons h aw_nil he) (by decide) (by decide) he hpl
end

/-! ### isinstance -/
def D.ty : D → Option String
  | .non => some "NoneType"
  | .bl _ => some "bool"
  | .int _ => some "int"
  | .str _ => some "str"
  | .lst _ => some "list"
  | .tup _ => some "tuple"
  | .dic _ => some "dict"
  | .dit _ => some "dict"
  | _ => none
def fIsi : F1 := fun ds P => match ds with
  | [d, .raw (.ty n)] => ∃ m b, d.ty = some m ∧ kitB m n = some b ∧ P (.bl b)
  | _ => False
theorem rep_ty {K : Frag} {B H : Hp} (em : Ex B H) {v : V} {d : D} {m : String} (r : RepW K B H v d) (h : d.ty = some m) : TyX K H v (.type m) := by
  cases d with
  | non => cases h; cases r.nonv; exact .base .non
  | bl b => cases h; cases r.blv; exact .base (.bl _)
  | int b => cases h; cases r.intv; exact .base (.int _)
  | str b => cases h; cases r.strv; exact .base (.str _)
  | lst xs => cases h; obtain ⟨a, vs, rfl, h1, _⟩ := r.list em; exact .base (.lst h1)
  | tup xs =>
    cases h
    obtain ⟨a, vs, rfl, h1, _⟩ := r.tuple em
    rcases h1 with (h1 | ⟨o, h1⟩) | ⟨o, its, n, hk, hc, _⟩
    · exact .base (.tup h1)
    · exact .fTuple h1
    · exact .kTuple hk hc
  | dic xs => cases h; obtain ⟨a, vs, rfl, h1, _⟩ := r.dict em; exact .base (.dK h1)
  | dit xs => cases h; obtain ⟨a, vs, rfl, h1, _⟩ := r.dictT em; exact .base (.dT h1)
  | _ => cases h
theorem does_isi {K : Frag} : DoesC K (rIsi K) fIsi := fun ms H xs ds P Q b rr h k => by
  unfold fIsi at h
  split at h
  · obtain ⟨m, c, h1, h2, h3⟩ := h
    obtain ⟨v, w, rfl, r1, r2⟩ := rr.two
    cases r2 with
    | im r2 =>
      cases r2
      exact ⟨v, _, _, _, c, rfl, .ty _, rep_ty hid_ex r1 h1, kit_ty h2, k _ _ H h3 (Same.refl H) (.bl _)⟩
  · exact h.elim
theorem px_isi {e c : Expr} {p pos : Pos} {t u : XT} (hg : Gl X "isinstance") (hm : X.mg "isinstance" = none) (h : PE X e (Lb X.K t)) (hc : PE X c (Lb X.K u)) (he : starEach [e, c] X.env = (false, eval e X.env) :: starEach [c] X.env := by rfl)
    (he2 : starEach [c] X.env = (false, eval c X.env) :: starEach [] X.env := by rfl) (hpl : (backTo pos (starEach [c] X.env)).any (·.1) = false := by rfl) :
    PE X (.Call (.Name "isinstance" p) [e, c] [] pos) (Li X.K (xCall fIsi (aCons t (aCons u aNil)))) := px_callB call_isi does_isi hg hm (by decide +kernel) (aw_cons h (aw_cons hc aw_nil he2) he) (by decide) (by decide) he hpl
theorem px_ty {x : Str} {n : String} {pos : Pos} (hg : Gl X x) (hm : X.mg x = none) (hv : bootBuiltins x = some (.type n)) (hn : x ≠ "__name__" := by decide) (hd : (x == ("__debug__" : Str)) = false := by decide) : PE X (.Name x pos) (Li X.K (xC (.raw (.ty n)))) :=
  px_c (pe_bltn (v := .ty n) hg hm hv rfl hn hd) fun _ _ => .raw _
theorem kit_ll : kitB "list" "list" = some true := by decide +kernel
theorem kit_nl : kitB "NoneType" "list" = some false := by decide +kernel
theorem kit_ii : kitB "int" "int" = some true := by decide +kernel
theorem kit_ib : kitB "int" "bool" = some false := by decide +kernel
theorem kit_bb : kitB "bool" "bool" = some true := by decide +kernel
theorem kit_bi : kitB "bool" "int" = some true := by decide +kernel
theorem kit_ni : kitB "NoneType" "int" = some false := by decide +kernel
theorem kit_si : kitB "str" "int" = some false := by decide +kernel
theorem kit_tt : kitB "tuple" "tuple" = some true := by decide +kernel
theorem kit_lt : kitB "list" "tuple" = some false := by decide +kernel
theorem kit_li : kitB "list" "int" = some false := by decide +kernel

/-! ### sorted, min of data -/
def alkD (ds : List D) : Prop := PySem.W.AllAlike (ds.map D.py) ∧ PySem.W.Sortable (ds.map D.py)
def leD : D → D → Bool := PySem.W.dataLe false D.py
def rSrtD (K : Frag) : List V → Hp → VK → Prop := fun xs H Q => ∃ (a : Addr) (bs : List (V × D)), xs = [.ref a] ∧ SqL K H a (bs.map (·.1)) ∧ (∀ p ∈ bs, Rep K H p.1 p.2 ∧ p.2.sh 60 = true) ∧ alkD (bs.map (·.2)) ∧
  ∀ p, H p = none → Q (.ref p) (upd H p (.lst ((bs.mergeSort fun p q => leD p.2 q.2).map (·.1))))
theorem each_of {α β : Type} {R : α → β → Prop} {S : β → Prop} {f : β → V} {g : V → α → Prop} (h : ∀ b u, S b → g (f b) u → R u b) : ∀ {bs : List β} {us : List α}, (∀ b ∈ bs, S b) → Paired g (bs.map f) us → PySem.W.EachIs R us bs
  | [], _, _, .nil => .nil
  | b :: bs, _, hs, .cons r t => .cons (h b _ (hs b List.mem_cons_self) r) (each_of h (fun c m => hs c (List.mem_cons_of_mem _ m)) t)
theorem paired_of {α β : Type} {R : α → β → Prop} {f : β → V} {g : V → α → Prop} (h : ∀ b u, R u b → g (f b) u) : ∀ {bs : List β} {us : List α}, PySem.W.EachIs R us bs → Paired g (bs.map f) us
  | _, _, .nil => .nil
  | _, _, .cons r t => .cons (h _ _ r) (paired_of h t)
theorem cr_srtD (hu : X.A.units + 64 < cLine) : CallR X (.builtin "sorted") (rSrtD X.K) := by
  intro pins s σ H vs us Q I r h
  obtain ⟨a, bs, rfl, hs, hb, ha, q⟩ := h
  obtain ⟨its, rv, hl, hz⟩ := I.list hs
  rw [Vals.ref1 r]
  have e1 : PySem.W.EachIs (fun (u : Value) (b : V × D) => RelV b.1 u) its bs := each_of (S := fun _ => True) (f := fun b : V × D => b.1) (g := RelV) (fun b u _ z => z) (fun _ _ => trivial) rv
  have e2 : PySem.W.EachIs (fun (u : Value) (b : V × D) => ∃ as, Reads s.heap u b.2.py as) its bs := each_of (S := fun b : V × D => Rep X.K H b.1 b.2 ∧ b.2.sh 60 = true) (f := fun b : V × D => b.1) (g := RelV) (fun b u z ru => Dp.reads I _ _ _ (rep_dp 60 _ _ z.2 z.1) ru) hb rv
  have hn : bs.length ≤ sizeLine := by simpa using hz
  have hal : PySem.W.AllAlike (bs.map fun b => b.2.py) := by
    have z := ha.1
    rw [List.map_map] at z
    exact z
  have hsb : PySem.W.Sortable (bs.map fun b => b.2.py) := by
    have z := ha.2
    rw [List.map_map] at z
    exact z
  refine PySem.W.sorted_data (enc := fun b : V × D => b.2.py) hl.isList e1 e2 hal hsb hn (fun b m => ?_) fun out ho he => ?_
  · have z := (sh_lay 60 b.2 (hb b m).2).2
    omega
  · obtain ⟨ep, he'⟩ := PyProof.Rows.sortedAll_at s.heap its out.toArray
    have rv2 := paired_of (f := fun b : V × D => b.1) (g := RelV) (fun b u z => z) he
    have hlen : ((bs.mergeSort fun p q => leD p.2 q.2).map (·.1)).length ≤ sizeLine := by rw [List.length_map, List.length_mergeSort]; exact hn
    exact ⟨.ref _, upd H (s.heap.objs.size + 1) (.lst ((bs.mergeSort fun p q => leD p.2 q.2).map (·.1))), I.laid (t' := s.toks) (fun _ _ => PyProof.Rows.sortedAll_old) (Nat.le_succ _) ⟨hlen, out, ep, rv2, he'⟩, rfl, q _ (I.hok.fresh (Nat.le_succ _))⟩
def fSrt : FL := fun ds P => match ds with
  | [.lst xs] => xs.all (D.sh 59) = true ∧ alkD xs ∧ P (xs.mergeSort leD)
  | [.tup xs] => False
  | _ => False
theorem reps_zip {K : Frag} {B : Hp} : ∀ {vs : List V} {ds : List D}, Reps K B vs ds → (vs.zip ds).map (·.1) = vs ∧ (vs.zip ds).map (·.2) = ds ∧ ∀ p ∈ vs.zip ds, Rep K B p.1 p.2
  | _, _, .nil => ⟨rfl, rfl, fun _ m => by simp at m⟩
  | _, _, .cons h r => by
    obtain ⟨a, b, c⟩ := reps_zip r
    refine ⟨by simp [a], by simp [b], fun p m => ?_⟩
    simp only [List.zip_cons_cons, List.mem_cons] at m
    rcases m with rfl | m
    · exact h
    · exact c p m
theorem reps_of {K : Frag} {B : Hp} : ∀ (bs : List (V × D)), (∀ p ∈ bs, Rep K B p.1 p.2) → Reps K B (bs.map (·.1)) (bs.map (·.2))
  | [], _ => .nil
  | b :: bs, h => .cons (h b List.mem_cons_self) (reps_of bs fun p m => h p (List.mem_cons_of_mem _ m))
theorem sh_mono : ∀ {n m : Nat} {d : D}, n ≤ m → d.sh n = true → d.sh m = true := by
  intro n
  induction n with
  | zero => intro m d h z; cases m <;> cases d <;> simp_all [D.sh]
  | succ n ih =>
    intro m d h z
    cases m with
    | zero => omega
    | succ m =>
      have hh : n ≤ m := by omega
      cases d with
      | lst xs =>
        simp only [D.sh, List.all_eq_true] at z ⊢
        exact fun x hx => ih hh (z x hx)
      | tup xs =>
        simp only [D.sh, List.all_eq_true] at z ⊢
        exact fun x hx => ih hh (z x hx)
      | _ => simp_all [D.sh]
theorem does_srt {K : Frag} : DoesF K (rSrtD K) fSrt := fun ms H xs ds P Q b rr h k => by
  have em : Ex (hid ms H) H := hid_ex
  unfold fSrt at h
  split at h
  · rename_i ys
    obtain ⟨v, rfl, r⟩ := rr.one
    obtain ⟨a, vs, rfl, h1, r1⟩ := r.list em
    obtain ⟨z1, z2, z3⟩ := reps_zip r1
    have hsh : ∀ d ∈ ys, d.sh 60 = true := fun d m => sh_mono (by decide : 59 ≤ 60) (List.all_eq_true.mp h.1 d m)
    refine ⟨a, vs.zip ys, rfl, by rw [z1]; exact SqL.of h1, fun p m => ⟨(z3 p m).mono em, hsh _ (by rw [← z2]; exact List.mem_map_of_mem m)⟩, by rw [z2]; exact h.2.1, fun p n => ?_⟩
    have e2 : ((vs.zip ys).mergeSort fun p q => leD p.2 q.2).map (·.2) = ys.mergeSort leD := by
      rw [PySem.W.sort_maps (s := leD) (fun p : V × D => p.2) (fun _ _ _ _ => rfl), z2]
    have e3 := reps_of (K := K) (B := hid ms H) ((vs.zip ys).mergeSort fun p q => leD p.2 q.2) fun p m => z3 p ((List.mergeSort_perm _ _).mem_iff.mp m)
    rw [e2] at e3
    exact k _ p _ _ h.2.2 n (Ex.new n) upd_same (reps_new n e3)
  · exact h.elim
  · exact h.elim
theorem fx_sorted {k : Nat} {e : Expr} {p pos : Pos} {t : XT} (hr : Room k X.A) (hg : Gl X "sorted") (hm : X.mg "sorted" = none) (h : PE X e (Lb X.K t)) (he : starEach [e] X.env = (false, eval e X.env) :: starEach [] X.env := by rfl) (hpl : (backTo pos (starEach [] X.env)).any (·.1) = false := by rfl) :
    PE X (.Call (.Name "sorted" p) [e] [] pos) (Lf X.K (fCall fSrt (aCons t aNil))) := fx_callB (cr_srtD hr.units) does_srt hg hm (by decide +kernel) (aw_cons h aw_nil he) (by decide) (by decide) he hpl
end
end Kb
set_option Elab.async false
set_option linter.all false
set_option maxRecDepth 100000
set_option maxHeartbeats 1000000
/-! Kb4: stores into slots, targets, what is walked, comprehensions. -/
namespace Kb
open PySem L2
set_option autoImplicit false

/-! ### slots stored -/
theorem adr_nil : adr [] = [] := rfl
theorem adr_cons (o : Option Slot) (Γ : Env) : adr (o :: Γ) = (match o.bind Slot.ad with
  | some a => a :: adr Γ
  | none => adr Γ) := by
  unfold adr
  cases h : o.bind Slot.ad with
  | none => simp [List.filterMap_cons, h]
  | some a => simp [List.filterMap_cons, h]
theorem mem_adr_cons {o : Option Slot} {Γ : Env} {a : Addr} : a ∈ adr (o :: Γ) ↔ o.bind Slot.ad = some a ∨ a ∈ adr Γ := by
  rw [adr_cons]
  cases h : o.bind Slot.ad with
  | none => simp
  | some b =>
    simp only [List.mem_cons, Option.some.injEq]
    constructor
    · rintro (rfl | h) <;> simp_all
    · rintro (rfl | h) <;> simp_all
theorem adr_set_sub {Γ : Env} : ∀ {i : Nat} {o : Option Slot} {a : Addr}, a ∈ adr (Γ.set i o) → a ∈ adr Γ ∨ o.bind Slot.ad = some a := by
  induction Γ with
  | nil => intro i o a h; simp [adr] at h
  | cons p Γ ih =>
    intro i o a h
    cases i with
    | zero =>
      rw [List.set_cons_zero, mem_adr_cons] at h
      rcases h with h | h
      · exact .inr h
      · exact .inl (mem_adr_cons.mpr (.inr h))
    | succ i =>
      rw [List.set_cons_succ, mem_adr_cons] at h
      rcases h with h | h
      · exact .inl (mem_adr_cons.mpr (.inl h))
      · rcases ih h with h | h
        · exact .inl (mem_adr_cons.mpr (.inr h))
        · exact .inr h
theorem adr_set_nodup {Γ : Env} (nd : (adr Γ).Nodup) : ∀ {i : Nat} {o : Option Slot}, (∀ a, o.bind Slot.ad = some a → a ∉ adr Γ) → (adr (Γ.set i o)).Nodup := by
  induction Γ with
  | nil => intro i o h; simp [adr]
  | cons p Γ ih =>
    intro i o h
    have nd' : (adr Γ).Nodup := by
      rw [adr_cons] at nd
      split at nd
      · exact (List.nodup_cons.mp nd).2
      · exact nd
    have h' : ∀ a, o.bind Slot.ad = some a → a ∉ adr Γ := fun a e m => h a e (mem_adr_cons.mpr (.inr m))
    cases i with
    | zero =>
      rw [List.set_cons_zero, adr_cons]
      split
      · rename_i a e
        exact List.nodup_cons.mpr ⟨h' a e, nd'⟩
      · exact nd'
    | succ i =>
      rw [List.set_cons_succ, adr_cons]
      split
      · rename_i a e
        refine List.nodup_cons.mpr ⟨fun m => ?_, ih nd' h'⟩
        rcases adr_set_sub m with m | m
        · rw [adr_cons, e] at nd
          exact (List.nodup_cons.mp nd).1 m
        · exact h a m (mem_adr_cons.mpr (.inl e))
      · exact ih nd' h'
theorem adr_ne {Γ : Env} (nd : (adr Γ).Nodup) : ∀ (i j : Nat) {s s2 : Slot} {a b : Addr}, i ≠ j → Γ[i]? = some (some s) → s.ad = some a → Γ[j]? = some (some s2) → s2.ad = some b → a ≠ b := by
  induction Γ with
  | nil => intro i j s s2 a b _ h; simp at h
  | cons p Γ ih =>
    intro i j s s2 a b hij hi ha hj hb z
    subst z
    rw [adr_cons] at nd
    cases i with
    | zero =>
      simp at hi
      subst hi
      cases j with
      | zero => exact hij rfl
      | succ j =>
        have e : (some s).bind Slot.ad = some a := ha
        rw [e] at nd
        exact (List.nodup_cons.mp nd).1 (mem_adr.mpr ⟨j, s2, by simpa using hj, hb⟩)
    | succ i =>
      cases j with
      | zero =>
        simp at hj
        subst hj
        have e : (some s2).bind Slot.ad = some a := hb
        rw [e] at nd
        exact (List.nodup_cons.mp nd).1 (mem_adr.mpr ⟨i, s, by simpa using hi, ha⟩)
      | succ j =>
        have nd' : (adr Γ).Nodup := by
          split at nd
          · exact (List.nodup_cons.mp nd).2
          · exact nd
        exact ih nd' i j (fun z => hij (by omega)) (by simpa using hi) ha (by simpa using hj) hb rfl
theorem own_set {Γ : Env} {ps : List Addr} {Z : Addr → Prop} (h : ∀ (i : Nat) (s : Slot) (l : Addr), Γ[i]? = some (some s) → s.ad = some l → (s.par = true → l ∈ ps) ∧ (s.par = false → Z l)) {i : Nat} {o : Option Slot}
    (ho : ∀ l, o.bind Slot.ad = some l → ((o.map Slot.par) = some true → l ∈ ps) ∧ ((o.map Slot.par) = some false → Z l)) : ∀ (j : Nat) (s : Slot) (l : Addr), (Γ.set i o)[j]? = some (some s) → s.ad = some l → (s.par = true → l ∈ ps) ∧ (s.par = false → Z l) := fun j s l e a => by
  by_cases hj : i = j
  · subst hj
    have hl : i < Γ.length := by
      have := (List.getElem?_eq_some_iff.mp e).1
      rwa [List.length_set] at this
    rw [List.getElem?_set_self hl] at e
    cases e
    obtain ⟨h1, h2⟩ := ho l a
    exact ⟨fun z => h1 (by rw [Option.map_some, z]), fun z => h2 (by rw [Option.map_some, z])⟩
  · rw [List.getElem?_set_ne hj] at e
    exact h j s l e a
section
variable {K : Frag} {H0 : Hp} {ps hs : List Addr} {Γ : Env} {σ : St} {H H2 : Hp}
theorem app_sub {as bs cs : List Addr} (h : ∀ a ∈ bs, a ∈ cs) : ∀ a ∈ as ++ bs, a ∈ as ++ cs := fun a m => (List.mem_append.mp m).elim (fun z => List.mem_append_left _ z) fun z => List.mem_append_right _ (h a z)
/-- data into a slot -/
theorem SE.set_im (se : SE K H0 ps hs Γ σ H) {v : V} {d : D} (r : Rep K (hid (hs ++ adr Γ) H) v d) (i : Nat) : SE K H0 ps hs (Γ.set i (some (.im d))) (σ.set i (some v)) H := by
  have sub : ∀ a ∈ adr (Γ.set i (some (.im d))), a ∈ adr Γ := fun a m => (adr_set_sub m).elim id fun z => by cases z
  have em : Ex (hid (hs ++ adr Γ) H) (hid (hs ++ adr (Γ.set i (some (.im d)))) H) := hid_sub (app_sub sub)
  refine ⟨by rw [List.length_set, List.length_set]; exact se.len, fun j s e => ?_, adr_set_nodup se.nd fun a z => (by cases z), se.fr, own_set (Z := fun l => H0 l = none ∧ l ∉ hs) se.own fun l z => (by cases z), se.psub, se.hx⟩
  by_cases hj : i = j
  · subst hj
    have hl : i < Γ.length := by
      have := (List.getElem?_eq_some_iff.mp e).1
      rwa [List.length_set] at this
    rw [List.getElem?_set_self hl] at e
    cases e
    refine ⟨v, ?_, r.mono em⟩
    rw [List.getElem?_set_self (by rw [se.len]; exact hl)]
  · rw [List.getElem?_set_ne hj] at e
    obtain ⟨u, h1, h2⟩ := se.ok j s e
    exact ⟨u, by rw [List.getElem?_set_ne hj]; exact h1, h2.mono em (hid_sub sub) (Same.refl H)⟩
theorem hid_fresh {ms : List Addr} {p : Addr} (n : H p = none) (e : Ex H H2) : Ex (hid ms H) (hid (p :: ms) H2) := fun a o q => by
  have ha : a ∉ ms := fun m => by rw [hid_in m] at q; cases q
  rw [hid_ni ha] at q
  rw [hid_ni (fun m => (List.mem_cons.mp m).elim (ne_of_none q n) ha)]
  exact e _ _ q
/-- a new object of one's own into a slot -/
theorem SE.set_own (se : SE K H0 ps hs Γ σ H) {l : Addr} (n : H l = none) (e : Ex H H2) {v : V} {s : Slot} (ha : s.ad = some l) (hpar : s.par = false) (ok : SlotOk K (hid (l :: (hs ++ adr Γ)) H2) (hid (l :: adr Γ) H2) H2 v s) (i : Nat) : SE K H0 ps hs (Γ.set i (some s)) (σ.set i (some v)) H2 := by
  have nl : l ∉ adr Γ := se.fresh n
  have sub : ∀ a ∈ adr (Γ.set i (some s)), a ∈ l :: adr Γ := fun a m => (adr_set_sub m).elim (fun z => List.mem_cons_of_mem _ z) fun z => by
    have q : some l = some a := ha.symm.trans z
    cases q
    exact List.mem_cons_self
  have sub2 : ∀ a ∈ hs ++ adr (Γ.set i (some s)), a ∈ l :: (hs ++ adr Γ) := fun a m => by
    rcases List.mem_append.mp m with m | m
    · exact List.mem_cons_of_mem _ (List.mem_append_left _ m)
    · rcases List.mem_cons.mp (sub a m) with rfl | m
      · exact List.mem_cons_self
      · exact List.mem_cons_of_mem _ (List.mem_append_right _ m)
  have em : Ex (hid (l :: (hs ++ adr Γ)) H2) (hid (hs ++ adr (Γ.set i (some s))) H2) := hid_sub sub2
  refine ⟨by rw [List.length_set, List.length_set]; exact se.len, fun j s' q => ?_, adr_set_nodup se.nd fun a z => ?_, fun a o h q => e _ _ (se.fr a o h q), own_set (Z := fun l => H0 l = none ∧ l ∉ hs) se.own ?_, se.psub, (se.mono e).hx⟩
  · by_cases hj : i = j
    · subst hj
      have hl : i < Γ.length := by
        have := (List.getElem?_eq_some_iff.mp q).1
        rwa [List.length_set] at this
      rw [List.getElem?_set_self hl] at q
      cases q
      refine ⟨v, ?_, ok.mono em (hid_sub sub) (Same.refl H2)⟩
      rw [List.getElem?_set_self (by rw [se.len]; exact hl)]
    · rw [List.getElem?_set_ne hj] at q
      obtain ⟨u, h1, h2⟩ := se.ok j s' q
      refine ⟨u, by rw [List.getElem?_set_ne hj]; exact h1, ?_⟩
      exact h2.mono ((hid_fresh n e).trans em) ((hid_fresh n e).trans (hid_sub sub)) e
  · have q : some l = some a := ha.symm.trans z
    cases q
    exact nl
  · intro l' z
    refine ⟨fun q => (by rw [Option.map_some, hpar] at q; cases q), fun _ => ?_⟩
    have q : some l = some l' := ha.symm.trans z
    cases q
    refine ⟨?_, fun m => se.hx l m n⟩
    cases z : H0 l with
    | none => rfl
    | some o =>
      by_cases hp : l ∈ ps
      · exact absurd n (se.hx l (se.psub l hp))
      · rw [se.fr l o hp z] at n; cases n
/-- a slot's object of one's own changed -/
theorem SE.write (se : SE K H0 ps hs Γ σ H) {i : Nat} {s s' : Slot} {l : Addr} (hi : Γ[i]? = some (some s)) (ha : s.ad = some l) (ha' : s'.ad = some l) (hpp : s'.par = s.par) {o : HO}
    (ok : SlotOk K (hid (hs ++ adr Γ) H) (hid (adr Γ) H) (upd H l o) (.ref l) s') : SE K H0 ps hs (Γ.set i (some s')) σ (upd H l o) ∧ adr (Γ.set i (some s')) = adr Γ := by
  have eq : adr (Γ.set i (some s')) = adr Γ := by
    clear se ok
    induction Γ generalizing i with
    | nil => simp at hi
    | cons p Γ ih =>
      cases i with
      | zero =>
        simp at hi
        subst hi
        rw [List.set_cons_zero, adr_cons, adr_cons]
        show (match s'.ad with
          | some a => a :: adr Γ
          | none => adr Γ) = (match s.ad with
          | some a => a :: adr Γ
          | none => adr Γ)
        rw [ha, ha']
      | succ i => rw [List.set_cons_succ, adr_cons, adr_cons, ih (by simpa using hi)]
  have hm : l ∈ adr Γ := mem_adr.mpr ⟨i, s, hi, ha⟩
  have hB : hid (hs ++ adr Γ) (upd H l o) = hid (hs ++ adr Γ) H := hid_upd (List.mem_append_right _ hm)
  have hG : hid (adr Γ) (upd H l o) = hid (adr Γ) H := hid_upd hm
  refine ⟨⟨by rw [List.length_set]; exact se.len, fun j s2 q => ?_, by rw [eq]; exact se.nd, fun a u h q => ?_, own_set (Z := fun l => H0 l = none ∧ l ∉ hs) se.own ?_, se.psub, fun a m q => ?_⟩, eq⟩
  · rw [eq, hB, hG]
    by_cases hj : i = j
    · subst hj
      have hlt : i < Γ.length := (List.getElem?_eq_some_iff.mp hi).1
      rw [List.getElem?_set_self hlt] at q
      cases q
      obtain ⟨u, h1, h2⟩ := se.ok i s hi
      have hv : u = .ref l := by
        cases s with
        | im d => cases ha
        | bo d => cases ha
        | ml _ _ => cases ha; exact h2.1
        | pl _ _ => cases ha; exact h2.1
        | md _ _ => cases ha; exact h2.1
        | mt _ _ => cases ha; exact h2.1
        | mi _ _ _ => cases ha; exact h2.1
        | ms _ _ _ => cases ha; exact h2.1
      subst hv
      exact ⟨_, h1, ok⟩
    · rw [List.getElem?_set_ne hj] at q
      obtain ⟨u, h1, h2⟩ := se.ok j s2 q
      refine ⟨u, h1, ?_⟩
      have nd : ∀ l2, s2.ad = some l2 → l2 ≠ l := fun l2 h3 z => by
        exact adr_ne se.nd i j hj hi ha q h3 z.symm
      cases s2 with
      | im d => exact h2
      | bo d => exact h2
      | ml l2 ds => obtain ⟨a, vs, b, c⟩ := h2; exact ⟨a, vs, by rw [upd_ne (nd l2 rfl)]; exact b, c⟩
      | pl l2 ds => obtain ⟨a, vs, b, c⟩ := h2; exact ⟨a, vs, by rw [upd_ne (nd l2 rfl)]; exact b, c⟩
      | md l2 es => obtain ⟨a, vs, b, c⟩ := h2; exact ⟨a, vs, by rw [upd_ne (nd l2 rfl)]; exact b, c⟩
      | mt l2 es => obtain ⟨a, vs, b, c⟩ := h2; exact ⟨a, vs, by rw [upd_ne (nd l2 rfl)]; exact b, c⟩
      | mi l2 C fs => obtain ⟨a, dx, vs, b, c⟩ := h2; exact ⟨a, dx, vs, by rw [upd_ne (nd l2 rfl)]; exact b, c⟩
      | ms l2 C fs => obtain ⟨a, dx, vs, fvs, b, c⟩ := h2; exact ⟨a, dx, vs, fvs, by rw [upd_ne (nd l2 rfl)]; exact b, c⟩
  · have na : a ≠ l := fun z => by
      subst z
      cases hp : s.par with
      | true => exact h ((se.own i s a hi ha).1 hp)
      | false => rw [((se.own i s a hi ha).2 hp).1] at q; cases q
    rw [upd_ne na]
    exact se.fr a u h q
  · intro l' z
    have q : some l = some l' := ha'.symm.trans z
    cases q
    obtain ⟨h1, h2⟩ := se.own i s l hi ha
    refine ⟨fun z => h1 ?_, fun z => h2 ?_⟩
    · rw [Option.map_some, hpp] at z; exact Option.some.inj z
    · rw [Option.map_some, hpp] at z; exact Option.some.inj z
  · by_cases z : a = l
    · subst z; rw [upd_same] at q; cases q
    · rw [upd_ne z] at q; exact se.hx a m q
end
end Kb
set_option Elab.async false
set_option linter.all false
set_option maxRecDepth 100000
set_option maxHeartbeats 1000000
/-! Kb5: targets, what is walked, comprehensions. -/
namespace Kb
open PySem L2
set_option autoImplicit false

abbrev GT := D → Env → (Env → Prop) → Prop
abbrev GTs := List D → Env → (Env → Prop) → Prop
def free (Γ : Env) (i : Nat) : Bool := match Γ[i]? with
  | some (some s) => s.ad.isNone
  | _ => true
def gN (i : Nat) : GT := fun d Γ Q => free Γ i = true ∧ Q (Γ.set i (some (.im d)))
def gsN : GTs := fun ds Γ Q => match ds with
  | [] => Q Γ
  | _ => False
def gsC (g : GT) (u : GTs) : GTs := fun ds Γ Q => match ds with
  | d :: r => g d Γ fun Γ2 => u r Γ2 Q
  | _ => False
def gTu (n : Nat) (u : GTs) : GT := fun d Γ Q => match d with
  | .tup ds => ds.length = n ∧ u ds Γ Q
  | _ => False
def Lg (K : Frag) (own : List Nat) (g : GT) : TG := fun v σ H Q => ∃ (H0 : Hp) (ps hs : List Addr) (Γ : Env) (d : D) (P : Env → Prop), SE K H0 ps hs Γ σ H ∧ Rep K (hid (hs ++ adr Γ) H) v d ∧ g d Γ P ∧
  ∀ Γ2 σ2, P Γ2 → adr Γ2 = adr Γ → SE K H0 ps hs Γ2 σ2 H → σ2.length = σ.length → (∀ j, j ∉ own → σ2[j]? = σ[j]?) → Q σ2 H
def Lgs (K : Frag) (own : List Nat) (g : GTs) : TGs := fun vs σ H Q => ∃ (H0 : Hp) (ps hs : List Addr) (Γ : Env) (ds : List D) (P : Env → Prop), SE K H0 ps hs Γ σ H ∧ Reps K (hid (hs ++ adr Γ) H) vs ds ∧ g ds Γ P ∧
  ∀ Γ2 σ2, P Γ2 → adr Γ2 = adr Γ → SE K H0 ps hs Γ2 σ2 H → σ2.length = σ.length → (∀ j, j ∉ own → σ2[j]? = σ[j]?) → Q σ2 H
theorem adr_free {Γ : Env} : ∀ {i : Nat} {d : D}, free Γ i = true → adr (Γ.set i (some (.im d))) = adr Γ := by
  induction Γ with
  | nil => intro i d _; rfl
  | cons p Γ ih =>
    intro i d h
    cases i with
    | zero =>
      rw [List.set_cons_zero, adr_cons, adr_cons]
      cases p with
      | none => rfl
      | some s =>
        have z : s.ad.isNone = true := h
        show adr Γ = (match s.ad with
          | some a => a :: adr Γ
          | none => adr Γ)
        cases e : s.ad with
        | none => rfl
        | some a => rw [e] at z; cases z
    | succ i =>
      rw [List.set_cons_succ, adr_cons, adr_cons, ih (by simpa [free] using h)]
section
variable {X : Cx}
theorem pg_imp {tg : Expr} {t t' : TG} (h : PG X tg t) (hi : ∀ v σ H Q, t' v σ H Q → t v σ H Q) : PG X tg t' := ⟨fun pins s σ H v u Q I r q => h.run pins s σ H v u Q I r (hi v σ H Q q)⟩
theorem pgs_imp {tg : List Expr} {t t' : TGs} (h : PGs X tg t) (hi : ∀ v σ H Q, t' v σ H Q → t v σ H Q) : PGs X tg t' := ⟨fun pins s σ H v u Q I r q => h.run pins s σ H v u Q I r (hi v σ H Q q)⟩
theorem gx_name {i : Nat} {x : Str} {pos : Pos} (hN : X.N.Nodup) (hi : X.N[i]? = some x := by rfl) (hx : Loc X.env.scope x := by first | exact Or.inl rfl | exact Or.inr rfl) (hf : X.fn x = true ∨ X.env.scope.names.lookup x = some .local := by first | exact .inl rfl | exact .inr rfl | assumption) :
    PG X (.Name x pos) (Lg X.K [i] (gN i)) := pg_imp (pg_name hN hi hx hf) fun v σ H Q ⟨H0, ps, hs, Γ, d, P, se, r, hg, k⟩ => by
  refine k _ _ hg.2 (adr_free hg.1) (se.set_im r i) (by rw [List.length_set]) fun j hj => ?_
  rw [List.getElem?_set_ne]
  intro z
  exact hj (by rw [z]; exact List.mem_singleton.mpr rfl)
theorem gx_nil : PGs X [] (Lgs X.K [] gsN) := pgs_imp pgs_nil fun vs σ H Q ⟨H0, ps, hs, Γ, ds, P, se, r, hg, k⟩ => by
  cases ds with
  | nil => cases r; exact ⟨rfl, k Γ σ hg rfl se rfl fun _ _ => rfl⟩
  | cons d ds => exact hg.elim
theorem gx_cons {e : Expr} {es : List Expr} {g : GT} {u : GTs} {o1 o2 : List Nat} (h1 : PG X e (Lg X.K o1 g)) (h2 : PGs X es (Lgs X.K o2 u)) (hs : (assignEach (e :: es) X.env).map (·.2) = assign e X.env :: (assignEach es X.env).map (·.2) := by rfl) :
    PGs X (e :: es) (Lgs X.K (o1 ++ o2) (gsC g u)) := pgs_imp (pgs_cons h1 h2 hs) fun vs σ H Q ⟨H0, ps, hs, Γ, ds, P, se, r, hg, k⟩ => by
  cases ds with
  | nil => exact hg.elim
  | cons d ds =>
    cases r with
    | cons ra rb =>
      refine ⟨_, _, rfl, H0, ps, hs, Γ, d, _, se, ra, hg, fun Γ2 σ2 p a2 se2 l2 ag2 => ?_⟩
      refine ⟨H0, ps, hs, Γ2, ds, _, se2, by rw [a2]; exact rb, p, fun Γ3 σ3 p3 a3 se3 l3 ag3 => k Γ3 σ3 p3 (a3.trans a2) se3 (l3.trans l2) fun j hj => ?_⟩
      rw [ag3 j fun z => hj (List.mem_append_right _ z), ag2 j fun z => hj (List.mem_append_left _ z)]
theorem gx_tup {es : List Expr} {k0 : Nat} {u : GTs} {o : List Nat} {n : Nat} {pos : Pos} (hc : X.calm = true) (h : PGs X es (Lgs X.K o u)) (hn : (assignEach es X.env).length = n := by rfl) (hst : (assignEach es X.env).findIdx? (·.1) = none := by rfl) :
    PG X (.Tuple es k0 pos) (Lg X.K o (gTu n u)) := pg_imp (pg_tup hc h hn hst) fun v σ H Q ⟨H0, ps, hs, Γ, d, P, se, r, hg, k⟩ => by
  cases d with
  | tup ds =>
    cases r with
    | tup a b => exact ⟨_, _, rfl, hid_ex.st a, by rw [b.length]; exact hg.1, H0, ps, hs, Γ, ds, P, se, b, hg.2, k⟩
  | _ => exact hg.elim
end

/-! ### what is walked -/
structure Walks (K : Frag) (S : Hp → Prop) (B : Hp) (J : It) (ds : List D) : Prop where
  go : ∀ i H, S H → i < ds.length → J.go i H
  yl : ∀ i H x H', S H → i < ds.length → J.yld i H x H' → Ex H H' ∧ ∃ d, ds[i]? = some d ∧ ∀ ms, Bs ms H → Ex B (hid ms H) → Rep K (hid ms H') x d
  st : ∀ i H, S H → ds.length = i → J.stop i H
theorem Walks.imp {K : Frag} {S S' : Hp → Prop} {B : Hp} {J : It} {ds : List D} (w : Walks K S B J ds) (h : ∀ H, S' H → S H) : Walks K S' B J ds := ⟨fun i H s => w.go i H (h H s), fun i H x H' s => w.yl i H x H' (h H s), fun i H s => w.st i H (h H s)⟩
def LI (K : Frag) (t : FT) : TI := fun σ H R => ∃ (H0 : Hp) (ps hs : List Addr) (Γ : Env) (P : List D → Prop), SE K H0 ps hs Γ σ H ∧ t Γ P ∧ ∀ ds J H2, P ds → Ex H H2 → Walks K (fun H' => Ex (hid (hs ++ adr Γ) H2) H') (hid (hs ++ adr Γ) H2) J ds → R J H2
def LB (K : Frag) (t : FT) : TI := fun σ H R => ∃ (H0 : Hp) (ps hs : List Addr) (Γ : Env) (P : List D → Prop), SE K H0 ps hs Γ σ H ∧ t Γ P ∧ ∀ ds J H2, P ds → Ex H H2 → Walks K (fun H' => Ex H2 H') (hid (hs ++ adr Γ) H2) J ds → R J H2
theorem walk_list {K : Frag} {S : Hp → Prop} {B : Hp} {a : Addr} {vs : List V} {ds : List D} (hS : ∀ H, S H → SqL K H a vs) (r : Reps K B vs ds) : Walks K S B (Itl K a) ds where
  go := fun i H s h => ⟨vs, vs[i]'(by rw [r.length]; exact h), hS H s, List.getElem?_eq_getElem _⟩
  yl := fun i H x H' s h ⟨e, y⟩ => (by
    subst e
    obtain ⟨d, h1, h2⟩ := r.get (y vs (hS _ s))
    exact ⟨Same.refl _, d, h1, fun ms _ e => h2.mono e⟩)
  st := fun i H s h => ⟨vs, hS H s, Nat.le_of_eq (by rw [r.length]; exact h)⟩
theorem walk_tup {K : Frag} {S : Hp → Prop} {B : Hp} {a : Addr} {vs : List V} {ds : List D} (hS : ∀ H, S H → SqT K H a vs) (r : Reps K B vs ds) : Walks K S B (Itt K a) ds where
  go := fun i H s h => ⟨vs, vs[i]'(by rw [r.length]; exact h), hS H s, List.getElem?_eq_getElem _⟩
  yl := fun i H x H' s h ⟨e, y⟩ => (by
    subst e
    obtain ⟨d, h1, h2⟩ := r.get (y vs (hS _ s))
    exact ⟨Same.refl _, d, h1, fun ms _ e => h2.mono e⟩)
  st := fun i H s h => ⟨vs, hS H s, Nat.le_of_eq (by rw [r.length]; exact h)⟩
def rngD (lo c : Int) (n : Nat) : List D := (List.range n).map fun k => .int (lo + (k : Nat) * c)
theorem walk_rng {K : Frag} {S : Hp → Prop} {B : Hp} {lo : Int} {n : Nat} : Walks K S B (Itr lo n) (rngD lo 1 n) where
  go := fun i H s h => by
    have z : i < n := by simpa [rngD] using h
    exact z
  yl := fun i H x H' s h ⟨e, y⟩ => ⟨by rw [e]; exact Same.refl _, .int (lo + i), by
    have hi : i < n := by simpa [rngD] using h
    simp [rngD, hi], fun ms _ _ => by rw [y]; exact .int _⟩
  st := fun i H s h => by
    have z : n = i := by simpa [rngD] using h
    exact Nat.le_of_eq z
theorem walk_rngC {K : Frag} {S : Hp → Prop} {B : Hp} {lo c : Int} {n : Nat} : Walks K S B (Itc lo c n) (rngD lo c n) where
  go := fun i H s h => by
    have z : i < n := by simpa [rngD] using h
    exact z
  yl := fun i H x H' s h ⟨e, y⟩ => ⟨by rw [e]; exact Same.refl _, .int (lo + (i : Nat) * c), by
    have hi : i < n := by simpa [rngD] using h
    simp [rngD, hi], fun ms _ _ => by rw [y]; exact .int _⟩
  st := fun i H s h => by
    have z : n = i := by simpa [rngD] using h
    exact Nat.le_of_eq z
def iL (t : XT) : FT := fun Γ P => t Γ fun d => match d with
  | .lst xs => P xs
  | _ => False
def iT (t : XT) : FT := fun Γ P => t Γ fun d => match d with
  | .tup xs => P xs
  | _ => False
def iR1 (t : FT) : FT := fun Γ P => t Γ fun ds => match ds with
  | [.int j] => -(2 ^ 62) ≤ j ∧ j < 2 ^ 62 ∧ P (rngD 0 1 j.toNat)
  | _ => False
def iR2 (t : FT) : FT := fun Γ P => t Γ fun ds => match ds with
  | [.int i, .int j] => (-(2 ^ 62) ≤ i ∧ i < 2 ^ 62 ∧ -(2 ^ 62) ≤ j ∧ j < 2 ^ 62) ∧ P (rngD i 1 (j - i).toNat)
  | _ => False
def iR3 (t : FT) : FT := fun Γ P => t Γ fun ds => match ds with
  | [.int i, .int j, .int c] => ∃ n, RgC i j c n ∧ P (rngD i c n)
  | _ => False
section
variable {X : Cx} {tg e : Expr}
theorem pi_imp {t t' : TI} (h : PI X tg e t) (hi : ∀ σ H R, t' σ H R → t σ H R) : PI X tg e t' := ⟨fun pins s σ H R I q => h.run pins s σ H R I (hi σ H R q)⟩
theorem il_list {t : XT} (h : PE X e (Li X.K t)) : PI X tg e (LI X.K (iL t)) := pi_imp (pi_list h) fun σ H R ⟨H0, ps, hs, Γ, P, se, ht, k⟩ => ⟨H0, ps, hs, Γ, _, se, ht, fun d v H2 p e r => by
  cases d with
  | lst xs =>
    cases r with
    | lst a b => exact ⟨_, rfl, ⟨_, SqL.of (hid_ex _ _ a)⟩, k _ _ H2 p e (walk_list (fun H' s => SqL.of (s _ _ a)) b)⟩
  | _ => exact p.elim⟩
theorem il_tup {t : XT} (h : PE X e (Li X.K t)) : PI X tg e (LI X.K (iT t)) := pi_imp (pi_tup h) fun σ H R ⟨H0, ps, hs, Γ, P, se, ht, k⟩ => ⟨H0, ps, hs, Γ, _, se, ht, fun d v H2 p e r => by
  cases d with
  | tup xs =>
    cases r with
    | tup a b => exact ⟨_, rfl, ⟨_, hid_ex.st a⟩, k _ _ H2 p e (walk_tup (fun H' s => s.st a) b)⟩
  | _ => exact p.elim⟩
theorem ib_list {t : XT} (h : PE X e (Lb X.K t)) : PI X tg e (LB X.K (iL t)) := pi_imp (pi_list h) fun σ H R ⟨H0, ps, hs, Γ, P, se, ht, k⟩ => ⟨H0, ps, hs, Γ, _, se, ht, fun d v H2 p e r => by
  cases d with
  | lst xs =>
    obtain ⟨a, vs, rfl, h1, r1⟩ := r.list hid_ex
    exact ⟨_, rfl, ⟨_, SqL.of h1⟩, k _ _ H2 p e (walk_list (fun H' s => SqL.of (s _ _ h1)) r1)⟩
  | _ => exact p.elim⟩
theorem ib {t : FT} (h : PI X tg e (LI X.K t)) : PI X tg e (LB X.K t) := pi_imp h fun σ H R ⟨H0, ps, hs, Γ, P, se, ht, k⟩ => ⟨H0, ps, hs, Γ, _, se, ht, fun ds J H2 p e w => k ds J H2 p e (w.imp fun H' s => fun a o q => s a o (hid_ex a o q))⟩
theorem RepWs.ints {K : Frag} {B H : Hp} : ∀ {vs : List V} {ds : List D}, RepWs K B H vs ds → ∀ {ns : List Int}, ds = ns.map D.int → vs = ns.map V.int
  | _, _, .nil, [], _ => rfl
  | _, _, .nil, _ :: _, h => by cases h
  | _, _, .cons a b, [], h => by cases h
  | _, _, .cons a b, n :: ns, h => by
    simp only [List.map_cons, List.cons.injEq] at h
    obtain ⟨rfl, h⟩ := h
    cases a.intv
    rw [b.ints h]
    rfl
theorem il_r1 {a : Expr} {t : FT} {p pos : Pos} (hg : Gl X "range") (hm : X.mg "range" = none) (ha : PA X [a] (LaW X.K t)) (hs : starEach [a] X.env = [(false, eval a X.env)] := by rfl) : PI X tg (.Call (.Name "range" p) [a] [] pos) (LI X.K (iR1 t)) :=
  pi_imp (pi_range1 hg hm ha hs) fun σ H R ⟨H0, ps, hs, Γ, P, se, ht, k⟩ => ⟨H0, ps, hs, Γ, _, se, ht, fun ds vs H2 p e r => by
    split at p
    · exact ⟨_, r.ints (ns := [_]) rfl, p.1, p.2.1, k _ _ H2 p.2.2 e walk_rng⟩
    · exact p.elim⟩
theorem il_r2 {a b : Expr} {t : FT} {p pos : Pos} (hg : Gl X "range") (hm : X.mg "range" = none) (ha : PA X [a, b] (LaW X.K t)) (hs : starEach [a, b] X.env = [(false, eval a X.env), (false, eval b X.env)] := by rfl) (hs2 : starEach [b] X.env = [(false, eval b X.env)] := by rfl) :
    PI X tg (.Call (.Name "range" p) [a, b] [] pos) (LI X.K (iR2 t)) :=
  pi_imp (pi_range2 hg hm ha hs hs2) fun σ H R ⟨H0, ps, hs, Γ, P, se, ht, k⟩ => ⟨H0, ps, hs, Γ, _, se, ht, fun ds vs H2 p e r => by
    split at p
    · exact ⟨_, _, r.ints (ns := [_, _]) rfl, p.1, k _ _ H2 p.2 e walk_rng⟩
    · exact p.elim⟩
theorem il_r3 {a b c : Expr} {t : FT} {p pos : Pos} (hg : Gl X "range") (hm : X.mg "range" = none) (ha : PA X [a, b, c] (LaW X.K t)) (hs : starEach [a, b, c] X.env = (false, eval a X.env) :: starEach [b, c] X.env := by rfl) (hpl : (backTo pos (starEach [b, c] X.env)).any (·.1) = false := by rfl) :
    PI X tg (.Call (.Name "range" p) [a, b, c] [] pos) (LI X.K (iR3 t)) :=
  pi_imp (pi_range3 hg hm ha hs hpl) fun σ H R ⟨H0, ps, hs, Γ, P, se, ht, k⟩ => ⟨H0, ps, hs, Γ, _, se, ht, fun ds vs H2 p e r => by
    split at p
    · obtain ⟨n, h1, h2⟩ := p
      exact ⟨_, _, _, n, r.ints (ns := [_, _, _]) rfl, h1, k _ _ H2 h2 e walk_rngC⟩
    · exact p.elim⟩
end

/-! ### comprehensions -/
def wipeE (Γ : Env) : List Nat → Env
  | [] => Γ
  | v :: vs => (wipeE Γ vs).set v none
theorem SE.set_none {K : Frag} {H0 : Hp} {ps hs : List Addr} {Γ : Env} {σ : St} {H : Hp} (se : SE K H0 ps hs Γ σ H) (i : Nat) : SE K H0 ps hs (Γ.set i none) (σ.set i none) H := by
  have sub : ∀ a ∈ adr (Γ.set i none), a ∈ adr Γ := fun a m => (adr_set_sub m).elim id fun z => by cases z
  refine ⟨by rw [List.length_set, List.length_set]; exact se.len, fun j s e => ?_, adr_set_nodup se.nd fun a z => (by cases z), se.fr, own_set (Z := fun l => H0 l = none ∧ l ∉ hs) se.own fun l z => (by cases z), se.psub, se.hx⟩
  by_cases hj : i = j
  · subst hj
    have hl : i < Γ.length := by
      have := (List.getElem?_eq_some_iff.mp e).1
      rwa [List.length_set] at this
    rw [List.getElem?_set_self hl] at e
    cases e
  · rw [List.getElem?_set_ne hj] at e
    obtain ⟨u, h1, h2⟩ := se.ok j s e
    exact ⟨u, by rw [List.getElem?_set_ne hj]; exact h1, h2.mono (hid_sub (app_sub sub)) (hid_sub sub) (Same.refl H)⟩
theorem SE.wipe {K : Frag} {H0 : Hp} {ps hs : List Addr} {Γ : Env} {σ : St} {H : Hp} (se : SE K H0 ps hs Γ σ H) : ∀ vs : List Nat, SE K H0 ps hs (wipeE Γ vs) (wipe σ vs) H
  | [] => se
  | v :: vs => (se.wipe vs).set_none v
theorem wipe_get (σ : St) : ∀ (vs : List Nat) (j : Nat), (wipe σ vs)[j]? = if j ∈ vs then (σ[j]?).map (fun _ => none) else σ[j]?
  | [], j => by simp [wipe]
  | v :: vs, j => by
    unfold wipe
    by_cases h : v = j
    · subst h
      simp only [List.mem_cons, true_or, if_true]
      by_cases hl : v < σ.length
      · rw [List.getElem?_set_self (by rw [wipe_length]; exact hl), List.getElem?_eq_getElem hl]
        rfl
      · rw [List.getElem?_eq_none (by rw [List.length_set, wipe_length]; omega), List.getElem?_eq_none (by omega)]
        rfl
    · rw [List.getElem?_set_ne h, wipe_get σ vs j]
      have : j ∈ v :: vs ↔ j ∈ vs := by simp [Ne.symm h]
      simp only [this]
theorem wipe_eq {σ τ : St} {vs own : List Nat} (hl : τ.length = (wipe σ vs).length) (hag : ∀ j, j ∉ own → τ[j]? = (wipe σ vs)[j]?) (hsub : ∀ j ∈ own, j ∈ vs) : wipe τ vs = wipe σ vs := by
  have hl' : τ.length = σ.length := by rw [hl, wipe_length]
  apply List.ext_getElem?
  intro j
  rw [wipe_get, wipe_get]
  by_cases h : j ∈ vs
  · simp only [h, if_true]
    by_cases hj : j < σ.length
    · rw [List.getElem?_eq_getElem (by omega : j < τ.length), List.getElem?_eq_getElem hj]; rfl
    · rw [List.getElem?_eq_none (by omega), List.getElem?_eq_none (by omega)]
  · simp only [h, if_false]
    rw [hag j (fun z => h (hsub j z)), wipe_get]
    simp only [h, if_false]
theorem SE.hide {K : Frag} {H0 : Hp} {ps hs : List Addr} {Γ : Env} {σ : St} {H H' : Hp} (se : SE K H0 ps hs Γ σ H) {p : Addr} (n : H p = none) (e : Ex H H') (hp : H' p ≠ none) : SE K H0 ps (p :: hs) Γ σ H' := by
  have s2 := se.mono e
  refine ⟨se.len, fun i s q => ?_, se.nd, s2.fr, fun i s l q a => ⟨(se.own i s l q a).1, fun z => ⟨((se.own i s l q a).2 z).1, fun m => (List.mem_cons.mp m).elim (fun y => se.fresh n (by rw [← y]; exact mem_adr.mpr ⟨i, s, q, a⟩)) ((se.own i s l q a).2 z).2⟩⟩, fun l m => List.mem_cons_of_mem _ (se.psub l m), fun l m => ?_⟩
  · obtain ⟨v, h1, h2⟩ := se.ok i s q
    exact ⟨v, h1, h2.mono (hid_fresh n e) (hid_ex2 e) e⟩
  · rcases List.mem_cons.mp m with rfl | m
    · exact hp
    · exact s2.hx l m
/-- a comprehension's block over the items ds -/
def LcB (Γ : Env) (g : GT) (tt : BT) (te : XT) (vs : List Nat) (ds : List D) (P : List D → Prop) : Prop := ds.length ≤ sizeLine ∧ adr (wipeE Γ vs) = adr Γ ∧
  ∃ zs : List (Option D), zs.length = ds.length ∧ (∀ (i : Nat) (d : D) (o : Option D), ds[i]? = some d → zs[i]? = some o → g d (wipeE Γ vs) fun Γ2 => tt Γ2 fun b => (b = true → te Γ2 fun z => o = some z) ∧ (b = false → o = none)) ∧ P (zs.filterMap id)
def fLc (ti : FT) (g : GT) (tt : BT) (te : XT) (vs : List Nat) : FT := fun Γ P => ti Γ fun ds => LcB Γ g tt te vs ds P
theorem lcb {α : Type} {Γ : Env} {g : GT} {tt : BT} {te : XT} {vs : List Nat} {P : List D → Prop} {xs : List α} {enc : α → D} (o : α → Option D) (hl : xs.length ≤ sizeLine)
    (hb : ∀ x ∈ xs, g (enc x) (wipeE Γ vs) fun Γ2 => tt Γ2 fun b => (b = true → te Γ2 fun z => o x = some z) ∧ (b = false → o x = none)) (hP : P (xs.filterMap o)) (ha : adr (wipeE Γ vs) = adr Γ := by rfl) : LcB Γ g tt te vs (xs.map enc) P := by
  refine ⟨by rw [List.length_map]; exact hl, ha, xs.map o, by rw [List.length_map, List.length_map], fun i d z h1 h2 => ?_, ?_⟩
  · rw [List.getElem?_map] at h1 h2
    cases e : xs[i]? with
    | none => rw [e] at h1; cases h1
    | some x =>
      rw [e] at h1 h2
      cases h1
      cases h2
      exact hb x (List.mem_iff_getElem?.mpr ⟨i, e⟩)
  · rw [List.filterMap_map]
    exact hP
def bYes : BT := fun _ P => P true
section
variable {X : Cx}
theorem pts_imp {ifs : List Expr} {t t' : TT} (h : PTs X ifs t) (hi : ∀ σ H Q, t' σ H Q → t σ H Q) : PTs X ifs t' := ⟨fun pins s σ H Q I q => h.run pins s σ H Q I (hi σ H Q q)⟩
theorem tts_nil : PTs X [] (Lt X.K bYes) := pts_imp pts_nil fun σ H Q ⟨H0, ps, hs, Γ, P, se, ht, k⟩ => k true H ht (Same.refl H)
theorem tts_one {c : Expr} {t : BT} (h : PT X c (Lt X.K t)) : PTs X [c] (Lt X.K t) := pts_one h
theorem bs_cons {p : Addr} {ms : List Addr} {H : Hp} (h : H p ≠ none) (b : Bs ms H) : Bs (p :: ms) H := fun a m => by
  rcases List.mem_cons.mp m with rfl | m
  · exact h
  · exact b a m
theorem lc_li {vs : List Nat} {ti : FT} {g : GT} {tt : BT} {te : XT} {gown : List Nat} (hsub : ∀ j ∈ gown, j ∈ vs) {K : Frag} (σ : St) (H : Hp) (Q : VK) (h : Lf K (fLc ti g tt te vs) σ H Q) : tLc (LB K ti) (Lg K gown g) (Lt K tt) (Li K te) vs σ H Q := by
  obtain ⟨H0, ps, hs, Γ, P, se, hti, k⟩ := h
  refine ⟨H0, ps, hs, Γ, _, se, hti, fun ds J H1 hp e1 w => fun Dl nD => ?_⟩
  obtain ⟨hlen, hadr, zs, hzl, hf, hP⟩ := hp
  have se1 := se.mono e1
  have nH : H Dl = none := fresh_of e1 nD
  refine ⟨fun i m H' => m = ds.length - i ∧ i ≤ ds.length ∧ Ex H1 H' ∧ ∃ acc, H' Dl = some (.lst acc) ∧ acc.length ≤ i ∧ Reps K (hid (Dl :: (hs ++ adr Γ)) H') acc ((zs.take i).filterMap id),
    ⟨ds.length, by simp, Nat.zero_le _, Ex.new nD, [], upd_same, Nat.le_refl _, .nil⟩, ?_⟩
  rintro i m H' ⟨rfl, hil, eH, acc, hD, hacc, racc⟩
  by_cases hlt : i < ds.length
  · refine .inr ⟨w.go i H' eH hlt, fun H'' => Ex H1 H'' ∧ ∃ acc, H'' Dl = some (.lst acc) ∧ acc.length ≤ i + 1 ∧ Reps K (hid (Dl :: (hs ++ adr Γ)) H'') acc ((zs.take (i + 1)).filterMap id), ?_, ?_⟩
    · rintro H'' ⟨e2, acc', a, b, c⟩
      exact ⟨ds.length - (i + 1), by omega, rfl, hlt, e2, acc', a, b, c⟩
    · intro x H'' hy
      obtain ⟨e9, d, hd, rx⟩ := w.yl i H' x H'' eH hlt hy
      replace rx := rx (Dl :: (hs ++ adr Γ)) (bs_cons (by rw [hD]; intro z; cases z) (se1.bs.mono eH)) (hid_fresh nD eH)
      replace eH := eH.trans e9
      replace hD := e9 _ _ hD
      replace racc := racc.mono (hid_ex2 e9)
      have hzi : i < zs.length := by omega
      obtain ⟨oz, hoz⟩ : ∃ oz, zs[i]? = some oz := ⟨_, List.getElem?_eq_getElem hzi⟩
      have seI : SE K H0 ps (Dl :: hs) (wipeE Γ vs) (wipe σ vs) H'' := (se1.hide nD eH (by rw [hD]; intro z; cases z)).wipe _
      have htk : zs.take (i + 1) = zs.take i ++ [oz] := by
        rw [List.take_add_one, hoz]; rfl
      refine ⟨H0, ps, Dl :: hs, wipeE Γ vs, d, _, seI, ?_, hf i d oz hd hoz, fun Γ2 σ2 p2 a2 se2 l2 ag2 => ?_⟩
      · rw [hadr]
        exact rx
      · refine ⟨wipe_eq l2 ag2 hsub, H0, ps, Dl :: hs, Γ2, _, se2, p2, fun b H3 hb e3 => ?_⟩
        have hD3 : H3 Dl = some (.lst acc) := e3 _ _ hD
        cases b with
        | true =>
          refine iteT ⟨H0, ps, Dl :: hs, Γ2, _, se2.mono e3, hb.1 rfl, fun z y H4 hz e4 r4 => ?_⟩
          have hD4 : H4 Dl = some (.lst acc) := e4 _ _ hD3
          rw [a2, hadr] at r4
          refine ⟨acc, hD4, by omega, ?_, acc ++ [y], upd_same, by simp; omega, ?_⟩
          · intro a o q
            rw [upd_ne (ne_of_none q nD)]
            exact e4 _ _ (e3 _ _ (eH _ _ q))
          · rw [hid_upd List.mem_cons_self, htk, List.filterMap_append]
            have ez : [oz].filterMap id = [z] := by simp [hz]
            rw [ez]
            exact (racc.mono (hid_ex2 (e3.trans e4))).append (.one r4)
        | false =>
          refine iteF ⟨fun a o q => e3 _ _ (eH _ _ q), acc, hD3, by omega, ?_⟩
          rw [htk, List.filterMap_append]
          have ez : [oz].filterMap id = [] := by simp [hb.2 rfl]
          rw [ez, List.append_nil]
          exact racc.mono (hid_ex2 e3)
  · have e : i = ds.length := by omega
    subst e
    refine .inl ⟨w.st _ H' eH rfl, ?_⟩
    rw [← hzl, List.take_length] at racc
    exact k _ Dl acc H' hP nH (e1.trans eH) hD racc
theorem fx_lc {elt tg iter : Expr} {ifs : List Expr} {scope : Scope} {own : List (Str × Nat)} {pos : Pos} {ti : FT} {g : GT} {tt : BT} {te : XT} {gown : List Nat} (hc : X.calm = true) (hN : X.N.Nodup) (hi : PI X tg iter (LB X.K ti)) (ok : BlkOk X.N X.env.scope scope own)
    (hg : ∀ (s : Shared) (H : Hp) (C : Addr) (cl : List (Str × Addr)) (fp : List Addr), PG (X.blk s H scope (compEnvC scope cl C X.env) fp) tg (Lg X.K gown g)) (ht : ∀ (s : Shared) (H : Hp) (C : Addr) (cl : List (Str × Addr)) (fp : List Addr), PTs (X.blk s H scope (compEnvC scope cl C X.env) fp) ifs (Lt X.K tt))
    (he : ∀ (s : Shared) (H : Hp) (C : Addr) (cl : List (Str × Addr)) (fp : List Addr), PE (X.blk s H scope (compEnvC scope cl C X.env) fp) elt (Li X.K te)) (hsub : ∀ j ∈ gown, j ∈ own.map (·.2) := by decide) (hs : ∀ x, foldedSetIterable iter X.env x = pure x := by intro _; rfl) :
    PE X (.ListComp elt [⟨tg, iter, ifs, 0⟩] scope pos) (Lf X.K (fLc ti g tt te (own.map (·.2)))) :=
  pe_imp (pe_lc hc hN hi ok hg ht he hs) (lc_li hsub)
end
end Kb
set_option Elab.async false
set_option linter.all false
set_option maxRecDepth 100000
set_option maxHeartbeats 1000000
/-! Kb6: statements. -/
namespace Kb
open PySem L2
set_option autoImplicit false

/-- what is handed back: data; a new list, dicts -/
inductive Rs where
  | d (d : D) | fl (ds : List D) | fd (es : List (Key × D)) | ft (es : List (List Key × D))
def ResOk (K : Frag) (H0 : Hp) (hs : List Addr) (H : Hp) (v : V) : Rs → Prop
  | .d d => Rep K (hid hs H) v d
  | .fl ds => ∃ p vs, v = .ref p ∧ H0 p = none ∧ H p = some (.lst vs) ∧ Reps K (hid (p :: hs) H) vs ds
  | .fd es => ∃ (p : Addr) (kvs : List (Key × V)), v = .ref p ∧ H0 p = none ∧ H p = some (.dK kvs) ∧ kvs.map (·.1) = es.map (·.1) ∧ Reps K (hid (p :: hs) H) (kvs.map (·.2)) (es.map (·.2))
  | .ft es => ∃ (p : Addr) (kvs : List (List Key × V)), v = .ref p ∧ H0 p = none ∧ H p = some (.dT kvs) ∧ kvs.map (·.1) = es.map (·.1) ∧ Reps K (hid (p :: hs) H) (kvs.map (·.2)) (es.map (·.2))
structure En where
  nx : Env → Prop
  rt : Rs → Env → Prop
  bk : Env → Prop := fun _ => False
  ct : Env → Prop := fun _ => False
  /-- an error of an own class leaves: its class, its fields -/
  ex : Addr → List (Str × D) → Env → Prop := fun _ _ _ => False
abbrev ST := En → Env → Prop
/-- nothing is raised -/
abbrev W0 : WX := fun _ _ _ _ => False
def Kp (hs : List Addr) (Γ : Env) (H : Hp) (Γ' : Env) (H' : Hp) : Prop := Ex (hid (adr Γ) H) (hid (adr Γ') H')
theorem Kp.x {hs : List Addr} {Γ Γ' : Env} {H H' : Hp} (k : Kp hs Γ H Γ' H') : Ex (hid (hs ++ adr Γ) H) (hid (hs ++ adr Γ') H') := fun a o q => by
  have h1 : a ∉ hs ++ adr Γ := fun m => by rw [hid_in m] at q; cases q
  rw [hid_ni h1] at q
  have h2 := k a o (by rw [hid_ni (fun m => h1 (List.mem_append_right _ m))]; exact q)
  have h3 : a ∉ adr Γ' := fun m => by rw [hid_in m] at h2; cases h2
  rw [hid_ni h3] at h2
  rw [hid_ni (fun m => (List.mem_append.mp m).elim (fun z => h1 (List.mem_append_left _ z)) h3)]
  exact h2
theorem Kp.refl {hs : List Addr} {Γ : Env} {H : Hp} : Kp hs Γ H Γ H := Same.refl _
theorem Kp.trans {hs : List Addr} {Γ Γ1 Γ2 : Env} {H H1 H2 : Hp} (a : Kp hs Γ H Γ1 H1) (b : Kp hs Γ1 H1 Γ2 H2) : Kp hs Γ H Γ2 H2 := Same.trans a b
theorem Kp.ex {hs : List Addr} {Γ : Env} {H H' : Hp} (e : Ex H H') : Kp hs Γ H Γ H' := hid_ex2 e
/-- the error's own dict -/
def ExD (K : Frag) (ms : List Addr) (H : Hp) (d : Option Addr) (fs : List (Str × D)) : Prop := match d with
  | none => fs = []
  | some d => d ∉ ms ∧ ∃ fvs : List (Str × V), H d = some (.xd fvs) ∧ fvs.map (·.1) = fs.map (·.1) ∧ Reps K (hid ms H) (fvs.map (·.2)) (fs.map (·.2))
structure Rel (W : WX) (K : Frag) (H0 : Hp) (ps hs : List Addr) (Γ : Env) (H : Hp) (E : En) (D : Ends) : Prop where
  nx : ∀ Γ' σ' H', E.nx Γ' → SE K H0 ps hs Γ' σ' H' → Kp hs Γ H Γ' H' → D.nx σ' H'
  rt : ∀ r Γ' σ' v H', E.rt r Γ' → SE K H0 ps hs Γ' σ' H' → ResOk K H0 hs H' v r → D.rt v H'
  bk : ∀ Γ' σ' H', E.bk Γ' → SE K H0 ps hs Γ' σ' H' → Kp hs Γ H Γ' H' → D.bk σ' H'
  ct : ∀ Γ' σ' H', E.ct Γ' → SE K H0 ps hs Γ' σ' H' → Kp hs Γ H Γ' H' → D.ct σ' H'
  ex : ∀ C fs Γ' σ' H' d, E.ex C fs Γ' → SE K H0 ps hs Γ' σ' H' → Kp hs Γ H Γ' H' → ExD K (hs ++ adr Γ') H' d fs → W (.ref C) d σ' H'
def Ls (K : Frag) (W : WX) (t : ST) : TS := fun D σ H => ∃ (H0 : Hp) (ps hs : List Addr) (Γ : Env) (E : En), SE K H0 ps hs Γ σ H ∧ t E Γ ∧ Rel W K H0 ps hs Γ H E D
theorem Rel.from {W : WX} {K : Frag} {H0 : Hp} {ps hs : List Addr} {Γ Γ1 : Env} {H H1 : Hp} {E : En} {D : Ends} (r : Rel W K H0 ps hs Γ H E D) (k : Kp hs Γ H Γ1 H1) : Rel W K H0 ps hs Γ1 H1 E D :=
  ⟨fun Γ' σ' H' a b c => r.nx Γ' σ' H' a b (k.trans c), r.rt, fun Γ' σ' H' a b c => r.bk Γ' σ' H' a b (k.trans c), fun Γ' σ' H' a b c => r.ct Γ' σ' H' a b (k.trans c), fun C fs Γ' σ' H' d a b c x => r.ex C fs Γ' σ' H' d a b (k.trans c) x⟩

section
variable {X : Cx} {W : WX}
theorem ps_imp {st : Stmt} {t t' : TS} (h : PS X st t) (hi : ∀ D σ H, t' D σ H → t D σ H) : PS X st t' := ⟨fun pins s σ H D I q => h.run pins s σ H D I (hi D σ H q)⟩
theorem pss_imp {st : List Stmt} {t t' : TS} (h : PSs X st t) (hi : ∀ D σ H, t' D σ H → t D σ H) : PSs X st t' := ⟨fun pins s σ H D I q => h.run pins s σ H D I (hi D σ H q)⟩
def sNext : ST := fun E Γ => E.nx Γ
def sSeq (t u : ST) : ST := fun E Γ => t { E with nx := u E } Γ
theorem ss_nil : PSs X [] (Ls X.K W sNext) := pss_imp pss_nil fun D σ H ⟨H0, ps, hs, Γ, E, se, ht, r⟩ => r.nx Γ σ H ht se Kp.refl
theorem ss_one {st : Stmt} {t : ST} (h : PS X st (Ls X.K W t)) : PSs X [st] (Ls X.K W t) := pss_one h
theorem ss_cons {st : Stmt} {rest : List Stmt} {t u : ST} (h1 : PS X st (Ls X.K W t)) (h2 : PSs X rest (Ls X.K W u)) : PSs X (st :: rest) (Ls X.K W (sSeq t u)) := pss_imp (pss_cons h1 h2) fun D σ H ⟨H0, ps, hs, Γ, E, se, ht, r⟩ =>
  ⟨H0, ps, hs, Γ, { E with nx := u E }, se, ht, ⟨fun Γ' σ' H' a b c => ⟨H0, ps, hs, Γ', E, b, a, r.from c⟩, r.rt, r.bk, r.ct, r.ex⟩⟩
theorem ss_never {st : List Stmt} : PSs X st (Ls X.K W fun _ _ => False) := pss_imp pss_never fun D σ H ⟨H0, ps, hs, Γ, E, se, ht, r⟩ => ht.elim
theorem s_never {st : Stmt} : PS X st (Ls X.K W fun _ _ => False) := ps_imp ps_never fun D σ H ⟨H0, ps, hs, Γ, E, se, ht, r⟩ => ht.elim
theorem s_pass {pos : Pos} : PS X (.Pass pos) (Ls X.K W sNext) := ps_imp ps_pass fun D σ H ⟨H0, ps, hs, Γ, E, se, ht, r⟩ => r.nx Γ σ H ht se Kp.refl
def sBreak : ST := fun E Γ => E.bk Γ
def sCont : ST := fun E Γ => E.ct Γ
theorem s_break {pos : Pos} : PS X (.Break pos) (Ls X.K W sBreak) := ps_imp ps_break fun D σ H ⟨H0, ps, hs, Γ, E, se, ht, r⟩ => r.bk Γ σ H ht se Kp.refl
theorem s_cont {pos : Pos} : PS X (.Continue pos) (Ls X.K W sCont) := ps_imp ps_continue fun D σ H ⟨H0, ps, hs, Γ, E, se, ht, r⟩ => r.ct Γ σ H ht se Kp.refl
/-! ### return -/
theorem rep_out {K : Frag} {hs : List Addr} {Γ : Env} {H : Hp} {v : V} {d : D} (r : Rep K (hid (hs ++ adr Γ) H) v d) : Rep K (hid hs H) v d := r.mono (hid_sub fun a m => List.mem_append_left _ m)
def sRet (t : XT) : ST := fun E Γ => t Γ fun d => E.rt (.d d) Γ
theorem s_ret {e : Expr} {pos : Pos} {t : XT} (h : PE X e (Li X.K t)) : PS X (.Return (some e) pos) (Ls X.K W (sRet t)) := ps_imp (ps_ret h) fun D σ H ⟨H0, ps, hs, Γ, E, se, ht, r⟩ =>
  ⟨H0, ps, hs, Γ, _, se, ht, fun d v H2 p e rr => r.rt (.d d) Γ σ v H2 p (se.mono e) (rep_out rr)⟩
theorem s_retN {pos : Pos} : PS X (.Return none pos) (Ls X.K W (sRet (xC .non))) := ps_imp ps_retN fun D σ H ⟨H0, ps, hs, Γ, E, se, ht, r⟩ => r.rt (.d .non) Γ σ _ H ht se .non
theorem SE.h0 {K : Frag} {H0 : Hp} {ps hs : List Addr} {Γ : Env} {σ : St} {H : Hp} (se : SE K H0 ps hs Γ σ H) {p : Addr} (n : H p = none) : H0 p = none := by
  cases z : H0 p with
  | none => rfl
  | some o =>
    by_cases hp : p ∈ ps
    · exact absurd n (se.hx p (se.psub p hp))
    · rw [se.fr p o hp z] at n; cases n
def sRetF (t : FT) : ST := fun E Γ => t Γ fun ds => E.rt (.fl ds) Γ
theorem s_retF {e : Expr} {pos : Pos} {t : FT} (h : PE X e (Lf X.K t)) : PS X (.Return (some e) pos) (Ls X.K W (sRetF t)) := ps_imp (ps_ret h) fun D σ H ⟨H0, ps, hs, Γ, E, se, ht, r⟩ =>
  ⟨H0, ps, hs, Γ, _, se, ht, fun ds q vs H2 p n e h2 rr => r.rt (.fl ds) Γ σ _ H2 p (se.mono e) ⟨q, vs, rfl, se.h0 n, h2, rr.mono (hid_sub fun a m => (List.mem_cons.mp m).elim (fun z => by rw [z]; exact List.mem_cons_self) fun z => List.mem_cons_of_mem _ (List.mem_append_left _ z))⟩⟩
/-- return of a list, dict of one's own -/
def sRetO (i : Nat) : ST := fun E Γ => match Γ[i]? with
  | some (some (.ml _ ds)) => E.rt (.fl ds) Γ
  | some (some (.md _ es)) => E.rt (.fd es) Γ
  | some (some (.mt _ es)) => E.rt (.ft es) Γ
  | _ => False
theorem s_retO (i : Nat) {x : Str} {pos pos' : Pos} (hN : X.N[i]? = some x := by rfl) (hv : Vis X.env.scope x := by first | exact Or.inl rfl | exact Or.inr (Or.inl rfl) | exact Or.inr (Or.inr rfl)) (hd : (x == ("__debug__" : Str)) = false := by decide)
    (hcd : (x == ("__classdict__" : Str)) = false := by decide) : PS X (.Return (some (.Name x pos')) pos) (Ls X.K W (sRetO i)) := ps_imp (ps_ret (pe_var hN hv hd hcd)) fun D σ H ⟨H0, ps, hs, Γ, E, se, ht, r⟩ => by
  unfold sRetO at ht
  have sub : ∀ l, l ∈ adr Γ → ∀ a ∈ l :: hs, a ∈ hs ++ adr Γ := fun l hl a m => (List.mem_cons.mp m).elim (fun z => by rw [z]; exact List.mem_append_right _ hl) fun z => List.mem_append_left _ z
  split at ht
  · rename_i l ds e
    obtain ⟨v, h1, rfl, vs, h2, h3⟩ := se.ok i _ e
    exact ⟨_, h1, r.rt (.fl ds) Γ σ _ H ht se ⟨l, vs, rfl, ((se.own i _ l e rfl).2 rfl).1, h2, h3.mono (hid_sub (sub l (mem_adr.mpr ⟨i, _, e, rfl⟩)))⟩⟩
  · rename_i l es e
    obtain ⟨v, h1, rfl, vs, h2, h3, h4⟩ := se.ok i _ e
    exact ⟨_, h1, r.rt (.fd es) Γ σ _ H ht se ⟨l, vs, rfl, ((se.own i _ l e rfl).2 rfl).1, h2, h3, h4.mono (hid_sub (sub l (mem_adr.mpr ⟨i, _, e, rfl⟩)))⟩⟩
  · rename_i l es e
    obtain ⟨v, h1, rfl, vs, h2, h3, h4⟩ := se.ok i _ e
    exact ⟨_, h1, r.rt (.ft es) Γ σ _ H ht se ⟨l, vs, rfl, ((se.own i _ l e rfl).2 rfl).1, h2, h3, h4.mono (hid_sub (sub l (mem_adr.mpr ⟨i, _, e, rfl⟩)))⟩⟩
  · exact ht.elim
/-! ### assignment -/
theorem kp_set_im {hs : List Addr} {Γ : Env} {H H2 : Hp} {i : Nat} {d : D} (e : Ex H H2) : Kp hs Γ H (Γ.set i (some (.im d))) H2 :=
  (hid_ex2 e).trans (hid_sub fun a m => (adr_set_sub m).elim id fun z => by cases z)
theorem kp_set_own {hs : List Addr} {Γ : Env} {H H2 : Hp} {i : Nat} {s : Slot} {l : Addr} (n : H l = none) (e : Ex H H2) (ha : s.ad = some l) : Kp hs Γ H (Γ.set i (some s)) H2 :=
  (hid_fresh n e).trans (hid_sub fun a m => by
    rcases adr_set_sub m with m | m
    · exact List.mem_cons_of_mem _ m
    · have q : some l = some a := ha.symm.trans m
      cases q
      exact List.mem_cons_self)
def sAsg (i : Nat) (t : XT) : ST := fun E Γ => t Γ fun d => E.nx (Γ.set i (some (.im d)))
theorem asg_li {W : WX} {K : Frag} {i : Nat} {t : XT} (D : Ends) (σ : St) (H : Hp) (h : Ls K W (sAsg i t) D σ H) : tAsg (Li K t) (gName i) D σ H := by
  obtain ⟨H0, ps, hs, Γ, E, se, ht, r⟩ := h
  exact ⟨H0, ps, hs, Γ, _, se, ht, fun d v H2 p e rr => r.nx _ _ H2 p ((se.mono e).set_im rr i) (kp_set_im e)⟩
theorem s_asg {i : Nat} {x : Str} {e : Expr} {t : XT} {pos pos' : Pos} (hN : X.N.Nodup) (he : PE X e (Li X.K t)) (hi : X.N[i]? = some x := by rfl) (hx : Loc X.env.scope x := by first | exact Or.inl rfl | exact Or.inr rfl) (hs : swapsWith e (some (.Name x pos')) pos.line X.env = pure false := by rfl) (hf : X.fn x = true ∨ X.env.scope.names.lookup x = some .local := by first | exact .inl rfl | exact .inr rfl | assumption) :
    PS X (.Assign [.Name x pos'] e pos) (Ls X.K W (sAsg i t)) := ps_imp (ps_set hN hi hx he hs hf) asg_li
def sAsgF (i : Nat) (t : FT) : ST := fun E Γ => t Γ fun ds => ∀ l, l ∉ adr Γ → E.nx (Γ.set i (some (.ml l ds)))
theorem slot_ml {K : Frag} {hs : List Addr} {Γ : Env} {H2 : Hp} {q : Addr} {vs : List V} {ds : List D} (h2 : H2 q = some (.lst vs)) (rr : Reps K (hid (q :: (hs ++ adr Γ)) H2) vs ds) : SlotOk K (hid (q :: (hs ++ adr Γ)) H2) (hid (q :: adr Γ) H2) H2 (.ref q) (.ml q ds) := ⟨rfl, vs, h2, rr⟩
theorem asgF_li {W : WX} {K : Frag} {i : Nat} {t : FT} (D : Ends) (σ : St) (H : Hp) (h : Ls K W (sAsgF i t) D σ H) : tAsg (Lf K t) (gName i) D σ H := by
  obtain ⟨H0, ps, hs, Γ, E, se, ht, r⟩ := h
  exact ⟨H0, ps, hs, Γ, _, se, ht, fun ds q vs H2 p n e h2 rr => r.nx _ _ H2 (p q (se.fresh n)) (se.set_own n e rfl rfl (slot_ml h2 rr) i) (kp_set_own n e rfl)⟩
theorem s_asgF {i : Nat} {x : Str} {e : Expr} {t : FT} {pos pos' : Pos} (hN : X.N.Nodup) (he : PE X e (Lf X.K t)) (hi : X.N[i]? = some x := by rfl) (hx : Loc X.env.scope x := by first | exact Or.inl rfl | exact Or.inr rfl) (hs : swapsWith e (some (.Name x pos')) pos.line X.env = pure false := by rfl) (hf : X.fn x = true ∨ X.env.scope.names.lookup x = some .local := by first | exact .inl rfl | exact .inr rfl | assumption) :
    PS X (.Assign [.Name x pos'] e pos) (Ls X.K W (sAsgF i t)) := ps_imp (ps_set hN hi hx he hs hf) asgF_li
/-- x = [..] by a comprehension on one line: data, or a list of one's own -/
theorem lf_li {K : Frag} {t : FT} (σ : St) (H : Hp) (Q : VK) (h : Li K (xF t) σ H Q) : Lf K t σ H Q := by
  obtain ⟨H0, ps, hs, Γ, P, se, ht, k⟩ := h
  exact ⟨H0, ps, hs, Γ, fun ds => P (.lst ds), se, ht, fun ds p vs H2 q n e h2 r => k _ _ H2 q e (by
    have np : p ∉ hs ++ adr Γ := se.bs.new n
    exact .lst (by rw [hid_ni np]; exact h2) (r.mono (hid_sub fun a m => List.mem_cons_of_mem _ m)))⟩
section
variable {i : Nat} {y : Str} {py : Pos} {elt tg iter : Expr} {ifs : List Expr} {scope : Scope} {own : List (Str × Nat)} {pos spos : Pos} {ti : FT} {g : GT} {tt : BT} {te : XT} {gown : List Nat}
theorem s_lcF (hc : X.calm = true) (hN : X.N.Nodup) (hy : X.N[i]? = some y) (hyl : X.env.scope.names.lookup y = some .local)
    (hsw : swapsWith (.ListComp elt [⟨tg, iter, ifs, 0⟩] scope pos) (some (.Name y py)) spos.line X.env = pure true) (hi : PI X tg iter (LB X.K ti)) (ok : BlkOk X.N X.env.scope scope own)
    (hg : ∀ (s : Shared) (H : Hp) (C : Addr) (cl : List (Str × Addr)) (fp : List Addr), PG (X.blk s H scope (compEnvC scope cl C X.env) fp) tg (Lg X.K gown g)) (ht : ∀ (s : Shared) (H : Hp) (C : Addr) (cl : List (Str × Addr)) (fp : List Addr), PTs (X.blk s H scope (compEnvC scope cl C X.env) fp) ifs (Lt X.K tt))
    (he : ∀ (s : Shared) (H : Hp) (C : Addr) (cl : List (Str × Addr)) (fp : List Addr), PE (X.blk s H scope (compEnvC scope cl C X.env) fp) elt (Li X.K te)) (hsub : ∀ j ∈ gown, j ∈ own.map (·.2) := by decide) (hs : ∀ x, foldedSetIterable iter X.env x = pure x := by intro _; rfl) :
    PS X (.Assign [.Name y py] (.ListComp elt [⟨tg, iter, ifs, 0⟩] scope pos) spos) (Ls X.K W (sAsgF i (fLc ti g tt te (own.map (·.2))))) :=
  ps_imp (ps_setLc hc hN hy hyl hsw hi ok hg ht he hs) fun D σ H h => lc_li hsub σ H _ (asgF_li D σ H h)
theorem s_lc (hc : X.calm = true) (hN : X.N.Nodup) (hy : X.N[i]? = some y) (hyl : X.env.scope.names.lookup y = some .local)
    (hsw : swapsWith (.ListComp elt [⟨tg, iter, ifs, 0⟩] scope pos) (some (.Name y py)) spos.line X.env = pure true) (hi : PI X tg iter (LB X.K ti)) (ok : BlkOk X.N X.env.scope scope own)
    (hg : ∀ (s : Shared) (H : Hp) (C : Addr) (cl : List (Str × Addr)) (fp : List Addr), PG (X.blk s H scope (compEnvC scope cl C X.env) fp) tg (Lg X.K gown g)) (ht : ∀ (s : Shared) (H : Hp) (C : Addr) (cl : List (Str × Addr)) (fp : List Addr), PTs (X.blk s H scope (compEnvC scope cl C X.env) fp) ifs (Lt X.K tt))
    (he : ∀ (s : Shared) (H : Hp) (C : Addr) (cl : List (Str × Addr)) (fp : List Addr), PE (X.blk s H scope (compEnvC scope cl C X.env) fp) elt (Li X.K te)) (hsub : ∀ j ∈ gown, j ∈ own.map (·.2) := by decide) (hs : ∀ x, foldedSetIterable iter X.env x = pure x := by intro _; rfl) :
    PS X (.Assign [.Name y py] (.ListComp elt [⟨tg, iter, ifs, 0⟩] scope pos) spos) (Ls X.K W (sAsg i (xF (fLc ti g tt te (own.map (·.2)))))) :=
  ps_imp (ps_setLc hc hN hy hyl hsw hi ok hg ht he hs) fun D σ H h => lc_li hsub σ H _ (lf_li σ H _ (asg_li D σ H h))
end
/-- a, b = e -/
def sUnp (g : GT) (t : XT) : ST := fun E Γ => t Γ fun d => g d Γ E.nx
theorem s_unp {tg e : Expr} {t : XT} {g : GT} {own : List Nat} {pos : Pos} (he : PE X e (Li X.K t)) (hg : PG X tg (Lg X.K own g)) (hs : swapsWithSole [tg] e pos.line X.env = pure false := by rfl) (hw : swappedStores [tg] e X.env = pure none := by rfl)
    (h1 : (assignEach [tg] X.env).map (·.2) = [assign tg X.env] := by rfl) : PS X (.Assign [tg] e pos) (Ls X.K W (sUnp g t)) := ps_imp (ps_asg he hg hs hw h1) fun D σ H ⟨H0, ps, hs, Γ, E, se, ht, r⟩ =>
  ⟨H0, ps, hs, Γ, _, se, ht, fun d v H2 p e rr => ⟨H0, ps, hs, Γ, d, _, se.mono e, rr, p, fun Γ2 σ2 p2 a2 se2 _ _ => r.nx Γ2 σ2 H2 p2 se2 (by
    have z : Kp hs Γ H Γ H2 := Kp.ex e
    unfold Kp at z ⊢
    rw [a2]
    exact z)⟩⟩
/-- x += e -/
def sAug (i : Nat) (f : Int → Int → Int) (t : XT) : ST := fun E Γ => match Γ[i]? with
  | some (some (.im (.int a))) => t Γ fun d => (match d with
    | .int b => E.nx (Γ.set i (some (.im (.int (f a b)))))
    | _ => False)
  | _ => False
theorem s_aug {i : Nat} {x : Str} {op : Operator} {e : Expr} {t : XT} {f : Int → Int → Int} {pos pos' : Pos} (hN : X.N.Nodup) (he : PE X e (Lb X.K t)) (hip : PIp X op (ipI f)) (hi : X.N[i]? = some x := by rfl) (hx : Loc X.env.scope x := by first | exact Or.inl rfl | exact Or.inr rfl)
    (hf : X.fn x = true ∨ X.env.scope.names.lookup x = some .local := by first | exact .inl rfl | exact .inr rfl | assumption) : PS X (.AugAssign (.Name x pos') op e pos) (Ls X.K W (sAug i f t)) := ps_imp (ps_aug hN hi hx he hip hf) fun D σ H ⟨H0, ps, hs, Γ, E, se, ht, r⟩ => by
  unfold sAug at ht
  split at ht
  · rename_i a ea
    obtain ⟨v, h1, h2⟩ := se.ok i _ ea
    cases h2
    refine ⟨_, h1, H0, ps, hs, Γ, _, se, ht, fun d v H2 p e rr => ?_⟩
    cases d with
    | int b => cases rr.intv; exact ⟨a, b, rfl, rfl, r.nx _ _ H2 p ((se.mono e).set_im (.int _) i) (kp_set_im e)⟩
    | _ => exact p.elim
  · exact ht.elim
/-- an expression alone -/
def sDrop (t : XT) : ST := fun E Γ => t Γ fun _ => E.nx Γ
theorem s_drop {e : Expr} {t : XT} {pos : Pos} (he : PE X e (Lb X.K t)) (hs : swapsWith e none pos.line X.env = pure false := by rfl) : PS X (.Expr e pos) (Ls X.K W (sDrop t)) := ps_imp (ps_expr he hs) fun D σ H ⟨H0, ps, hs, Γ, E, se, ht, r⟩ =>
  ⟨H0, ps, hs, Γ, _, se, ht, fun d v H2 p e rr => r.nx Γ σ H2 p (se.mono e) (Kp.ex e)⟩
/-! ### if, for, while -/
def sIf (c : BT) (t u : ST) : ST := fun E Γ => c Γ fun b => (b = true → t E Γ) ∧ (b = false → u E Γ)
theorem s_if {c : Expr} {a b : List Stmt} {pos : Pos} {tc : BT} {t u : ST} (hc : PT X c (Lt X.K tc)) (ha : PSs X a (Ls X.K W t)) (hb : PSs X b (Ls X.K W u)) : PS X (.If c a b pos) (Ls X.K W (sIf tc t u)) := ps_imp (ps_if hc ha hb) fun D σ H ⟨H0, ps, hs, Γ, E, se, ht, r⟩ =>
  ⟨H0, ps, hs, Γ, _, se, ht, fun b H2 p e => by
    cases b with
    | true => exact iteT ⟨H0, ps, hs, Γ, E, se.mono e, p.1 rfl, r.from (Kp.ex e)⟩
    | false => exact iteF ⟨H0, ps, hs, Γ, E, se.mono e, p.2 rfl, r.from (Kp.ex e)⟩⟩
def ForB (g : GT) (tb : ST) (E : En) (Γ : Env) (ds : List D) : Prop := ∃ I : Nat → Env → Prop, I 0 Γ ∧ (∀ (i : Nat) (d : D) (Γ' : Env), ds[i]? = some d → I i Γ' → g d Γ' fun Γ2 => tb { nx := I (i + 1), rt := E.rt, ct := I (i + 1), bk := E.nx, ex := E.ex } Γ2) ∧ ∀ Γ', I ds.length Γ' → E.nx Γ'
def sFor (ti : FT) (g : GT) (tb : ST) : ST := fun E Γ => ti Γ fun ds => ForB g tb E Γ ds
/-- by an invariant over the items taken -/
theorem forb {α : Type} {g : GT} {tb : ST} {E : En} {Γ : Env} {xs : List α} {enc : α → D} (I : List α → Env → Prop) (h0 : I [] Γ) (hs : ∀ pre x post Γ', xs = pre ++ x :: post → I pre Γ' → g (enc x) Γ' fun Γ2 => tb { nx := I (pre ++ [x]), rt := E.rt, ct := I (pre ++ [x]), bk := E.nx, ex := E.ex } Γ2)
    (hd : ∀ Γ', I xs Γ' → E.nx Γ') : ForB g tb E Γ (xs.map enc) := by
  refine ⟨fun i Γ' => I (xs.take i) Γ', h0, fun i d Γ' e h => ?_, fun Γ' h => hd Γ' (by rw [List.length_map, List.take_length] at h; exact h)⟩
  rw [List.getElem?_map] at e
  cases z : xs[i]? with
  | none => rw [z] at e; cases e
  | some x =>
    rw [z] at e
    cases e
    have hi : i < xs.length := (List.getElem?_eq_some_iff.mp z).1
    have hx : xs[i] = x := (List.getElem?_eq_some_iff.mp z).2
    have ht : xs.take (i + 1) = xs.take i ++ [x] := by rw [List.take_add_one, z]; rfl
    show g (enc x) Γ' fun Γ2 => tb { nx := I (xs.take (i + 1)), rt := E.rt, ct := I (xs.take (i + 1)), bk := E.nx, ex := E.ex } Γ2
    rw [ht]
    refine hs (xs.take i) x (xs.drop (i + 1)) Γ' ?_ h
    have := List.take_append_drop i xs
    rw [List.drop_eq_getElem_cons hi, hx] at this
    exact this.symm
theorem s_for {tg iter : Expr} {body : List Stmt} {ti : FT} {g : GT} {tb : ST} {gown : List Nat} {pos : Pos} (hp : PassesOwn (model X.prog X.w) X.A X.env X.xe) (hc : X.calm = true) (hi : PI X tg iter (LI X.K ti)) (hg : PG X tg (Lg X.K gown g)) (hb : PSs X body (Ls X.K W tb))
    (hs : ∀ x, foldedSetIterable iter X.env x = pure x := by intro _; rfl) : PS X (.For tg iter body [] pos) (Ls X.K W (sFor ti g tb)) := ps_imp (ps_for hp hc hi hg hb hs) fun D σ H ⟨H0, ps, hs, Γ, E, se, ht, r⟩ => by
  refine ⟨H0, ps, hs, Γ, _, se, ht, fun ds J H1 hp e1 w => ?_⟩
  obtain ⟨I, i0, turn, done⟩ := hp
  have k1 : Kp hs Γ H Γ H1 := Kp.ex e1
  have S : ∀ Γ' H', Kp hs Γ H1 Γ' H' → Ex (hid (hs ++ adr Γ) H1) H' := fun Γ' H' k a o q => hid_ex _ _ (k.x a o q)
  refine ⟨fun i m σ' H' => m = ds.length - i ∧ i ≤ ds.length ∧ ∃ Γ', SE X.K H0 ps hs Γ' σ' H' ∧ Kp hs Γ H1 Γ' H' ∧ I i Γ', ⟨ds.length, by simp, Nat.zero_le _, Γ, se.mono e1, Kp.refl, i0⟩, ?_⟩
  rintro i m σ' H' ⟨rfl, hil, Γ', se', kp, hI⟩
  by_cases hlt : i < ds.length
  · refine .inr ⟨w.go i H' (S _ _ kp) hlt, fun σ'' H'' => ∃ Γ'', SE X.K H0 ps hs Γ'' σ'' H'' ∧ Kp hs Γ H1 Γ'' H'' ∧ I (i + 1) Γ'', ?_, fun x H'' hy => ?_⟩
    · rintro σ'' H'' ⟨Γ'', a, b, c⟩
      exact ⟨ds.length - (i + 1), by omega, rfl, hlt, Γ'', a, b, c⟩
    · obtain ⟨e9, d, hd, rx⟩ := w.yl i H' x H'' (S _ _ kp) hlt hy
      replace rx := rx (hs ++ adr Γ') se'.bs kp.x
      replace kp := kp.trans (Kp.ex e9)
      replace se' := se'.mono e9
      refine ⟨H0, ps, hs, Γ', d, _, se', rx, turn i d Γ' hd hI, fun Γ2 σ2 p2 a2 se2 _ _ => ?_⟩
      have kp2 : Kp hs Γ H1 Γ2 H'' := by
        unfold Kp at kp ⊢
        rw [a2]
        exact kp
      exact ⟨H0, ps, hs, Γ2, _, se2, p2, ⟨fun Γ3 σ3 H3 a b c => ⟨Γ3, b, kp2.trans c, a⟩, r.rt, fun Γ3 σ3 H3 a b c => r.nx Γ3 σ3 H3 a b ((k1.trans kp2).trans c), fun Γ3 σ3 H3 a b c => ⟨Γ3, b, kp2.trans c, a⟩, fun C fs Γ3 σ3 H3 d a b c x => r.ex C fs Γ3 σ3 H3 d a b ((k1.trans kp2).trans c) x⟩⟩
  · have e : i = ds.length := by omega
    subst e
    exact .inl ⟨w.st _ H' (S _ _ kp) rfl, r.nx Γ' σ' H' (done Γ' hI) se' (k1.trans kp)⟩
def sWhile (c : BT) (tb : ST) : ST := fun E Γ => ∃ I : Nat → Env → Prop, (∃ m, I m Γ) ∧ ∀ m Γ', I m Γ' → c Γ' fun b => (b = true → tb { nx := fun Γ2 => ∃ m', m' < m ∧ I m' Γ2, rt := E.rt, ct := fun Γ2 => ∃ m', m' < m ∧ I m' Γ2, bk := E.nx, ex := E.ex } Γ') ∧ (b = false → E.nx Γ')
theorem s_while {c : Expr} {body : List Stmt} {tc : BT} {tb : ST} {pos : Pos} (hp : PassesOwn (model X.prog X.w) X.A X.env X.xe) (hc : PT X c (Lt X.K tc)) (hb : PSs X body (Ls X.K W tb)) : PS X (.While c body [] pos) (Ls X.K W (sWhile tc tb)) := ps_imp (ps_while hp hc hb) fun D σ H ⟨H0, ps, hs, Γ, E, se, ht, r⟩ => by
  obtain ⟨I, ⟨m0, i0⟩, turn⟩ := ht
  refine ⟨fun m σ' H' => ∃ Γ', SE X.K H0 ps hs Γ' σ' H' ∧ Kp hs Γ H Γ' H' ∧ I m Γ', ⟨m0, Γ, se, Kp.refl, i0⟩, ?_⟩
  rintro m σ' H' ⟨Γ', se', kp, hI⟩
  refine ⟨H0, ps, hs, Γ', _, se', turn m Γ' hI, fun b H2 p e => ?_⟩
  have kp2 : Kp hs Γ H Γ' H2 := kp.trans (Kp.ex e)
  cases b with
  | true =>
    refine iteT ⟨fun σ'' H'' => ∃ m', m' < m ∧ ∃ Γ'', SE X.K H0 ps hs Γ'' σ'' H'' ∧ Kp hs Γ H Γ'' H'' ∧ I m' Γ'', fun σ'' H'' ⟨m', h1, h2⟩ => ⟨m', h1, h2⟩, ?_⟩
    exact ⟨H0, ps, hs, Γ', _, se'.mono e, p.1 rfl, ⟨fun Γ3 σ3 H3 ⟨m', h1, h2⟩ b c => ⟨m', h1, Γ3, b, kp2.trans c, h2⟩, r.rt, fun Γ3 σ3 H3 a b c => r.nx Γ3 σ3 H3 a b (kp2.trans c), fun Γ3 σ3 H3 ⟨m', h1, h2⟩ b c => ⟨m', h1, Γ3, b, kp2.trans c, h2⟩, fun C fs Γ3 σ3 H3 d a b c x => r.ex C fs Γ3 σ3 H3 d a b (kp2.trans c) x⟩⟩
  | false => exact iteF (r.nx Γ' σ' H2 (p.2 rfl) (se'.mono e) kp2)
end
end Kb
set_option Elab.async false
set_option linter.all false
set_option maxRecDepth 100000
set_option maxHeartbeats 1000000
/-! Kb7: defs, their calls; what changes lists. -/
namespace Kb
open PySem L2
set_option autoImplicit false

def Rs.dat : Rs → D
  | .d z => z
  | .fl ds => .lst ds
  | .fd es => .dic es
  | .ft es => .dit es
theorem res_dat {K : Frag} {H0 : Hp} {hs : List Addr} {H : Hp} {v : V} {r : Rs} (b : ∀ p, H0 p = none → p ∉ hs) (h : ResOk K H0 hs H v r) : Rep K (hid hs H) v r.dat := by
  have sub : ∀ p : Addr, ∀ a ∈ hs, a ∈ p :: hs := fun p a m => List.mem_cons_of_mem _ m
  cases r with
  | d d => exact h
  | fl ds => obtain ⟨p, vs, rfl, n, h1, h2⟩ := h; exact .lst (by rw [hid_ni (b p n)]; exact h1) (h2.mono (hid_sub (sub p)))
  | fd es => obtain ⟨p, vs, rfl, n, h1, h2, h3⟩ := h; exact .dic (by rw [hid_ni (b p n)]; exact h1) h2 (h3.mono (hid_sub (sub p)))
  | ft es => obtain ⟨p, vs, rfl, n, h1, h2, h3⟩ := h; exact .dit (by rw [hid_ni (b p n)]; exact h1) h2 (h3.mono (hid_sub (sub p)))

/-! ### arguments as slots -/
abbrev AT := Env → (List Slot → Prop) → Prop
/-- an argument list for a def: im, bo alone -/
structure Args (K : Frag) (hs : List Addr) (H : Hp) (vs : List V) (as : List Slot) : Prop where
  len : vs.length = as.length
  ok : ∀ (i : Nat) (s : Slot), as[i]? = some s → ∃ v, vs[i]? = some v ∧ SlotOk K (hid hs H) H H v s ∧ s.ad = none
def LaX (K : Frag) (t : AT) : TA := fun σ H Q => ∃ (H0 : Hp) (ps hs : List Addr) (Γ : Env) (P : List Slot → Prop), SE K H0 ps hs Γ σ H ∧ t Γ P ∧ ∀ as vs H2, P as → Ex H H2 → Args K (hs ++ adr Γ) H2 vs as → Q vs H2
def axNil : AT := fun _ P => P []
def axI (t : XT) (u : AT) : AT := fun Γ P => t Γ fun d => u Γ fun as => P (.im d :: as)
def axB (t : XT) (u : AT) : AT := fun Γ P => t Γ fun d => u Γ fun as => P (.bo d :: as)
theorem Args.nil {K : Frag} {hs : List Addr} {H : Hp} : Args K hs H [] [] := ⟨rfl, fun i s e => by simp at e⟩
theorem Args.cons {K : Frag} {hs : List Addr} {H : Hp} {v : V} {s : Slot} {vs : List V} {as : List Slot} (h : SlotOk K (hid hs H) H H v s) (n : s.ad = none) (r : Args K hs H vs as) : Args K hs H (v :: vs) (s :: as) :=
  ⟨by simp [r.len], fun i s' e => by
    cases i with
    | zero => simp at e; subst e; exact ⟨v, rfl, h, n⟩
    | succ i => simpa using r.ok i s' (by simpa using e)⟩
section
variable {X : Cx} {W : WX}
theorem ax_nil : PA X [] (LaX X.K axNil) := pa_imp pa_nil fun σ H Q ⟨H0, ps, hs, Γ, P, se, ht, k⟩ => k [] [] H ht (Same.refl H) .nil
theorem ax_i {e : Expr} {es : List Expr} {t : XT} {u : AT} (he : PE X e (Li X.K t)) (hs : PA X es (LaX X.K u)) (hx : starEach (e :: es) X.env = (false, eval e X.env) :: starEach es X.env := by rfl) : PA X (e :: es) (LaX X.K (axI t u)) :=
  pa_imp (pa_cons he hs hx) fun σ H Q ⟨H0, ps, hs, Γ, P, se, ht, k⟩ => ⟨H0, ps, hs, Γ, _, se, ht, fun d v H2 p e r => ⟨H0, ps, hs, Γ, _, se.mono e, p, fun as vs H3 q e3 r3 => k _ _ H3 q (e.trans e3) (.cons (s := .im d) (r.mono (hid_ex2 e3)) rfl r3)⟩⟩
theorem ax_b {e : Expr} {es : List Expr} {t : XT} {u : AT} (he : PE X e (Lb X.K t)) (hs : PA X es (LaX X.K u)) (hx : starEach (e :: es) X.env = (false, eval e X.env) :: starEach es X.env := by rfl) : PA X (e :: es) (LaX X.K (axB t u)) :=
  pa_imp (pa_cons he hs hx) fun σ H Q ⟨H0, ps, hs, Γ, P, se, ht, k⟩ => ⟨H0, ps, hs, Γ, _, se, ht, fun d v H2 p e r => ⟨H0, ps, hs, Γ, _, se.mono e, p, fun as vs H3 q e3 r3 => k _ _ H3 q (e.trans e3) (.cons (s := .bo d) (r.mono (hid_ex2 e3) e3) rfl r3)⟩⟩
end

/-! ### a def that changes nothing -/
/-- a promise: for each x of α: with these arguments, under pre, something of post comes back -/
structure SP where
  S : List Slot → (Rs → Prop) → Prop
  mon : ∀ as (R R' : Rs → Prop), (∀ r, R r → R' r) → S as R → S as R'
def spc {α : Type} (args : α → List Slot) (pre : α → Prop) (post : α → Rs → Prop) : SP := ⟨fun as R => ∃ x, as = args x ∧ pre x ∧ ∀ r, post x r → R r, fun as R R' h ⟨x, a, b, c⟩ => ⟨x, a, b, fun r q => h r (c r q)⟩⟩
def spP (K : Frag) (S : SP) : Sp := fun vs H Q _ => ∃ hs as, Args K hs H vs as ∧ Bs hs H ∧ S.S as fun r => ∀ v H', Ex H H' → ResOk K H hs H' v r → Q v H'
def env0 (as : List Slot) (n : Nat) : Env := as.map some ++ List.replicate (n - as.length) none
theorem adr_none : ∀ {as : List Slot}, (∀ s ∈ as, s.ad = none) → ∀ n, adr (env0 as n) = []
  | as, h, n => by
    unfold env0 adr
    rw [List.filterMap_append]
    have a : (as.map some).filterMap (fun o => o.bind Slot.ad) = [] := by
      rw [List.filterMap_eq_nil_iff]
      intro o m
      obtain ⟨s, hs, rfl⟩ := List.mem_map.mp m
      exact h s hs
    have b : (List.replicate (n - as.length) (none : Option Slot)).filterMap (fun o => o.bind Slot.ad) = [] := by
      rw [List.filterMap_eq_nil_iff]
      intro o m
      rw [(List.mem_replicate.mp m).2]
      rfl
    rw [a, b]
    rfl
theorem Args.se {K : Frag} {hs : List Addr} {H : Hp} {vs : List V} {as : List Slot} {N : List Str} (h : Args K hs H vs as) (b : Bs hs H) : SE K H [] hs (env0 as N.length) (L2.start N vs) H := by
  have hn : adr (env0 as N.length) = [] := adr_none (fun s m => by
    obtain ⟨i, hi⟩ := List.mem_iff_getElem?.mp m
    exact (h.ok i s hi).choose_spec.2.2) _
  have hh : hid [] H = H := by funext a; simp [hid]
  refine ⟨by simp [env0, L2.start, h.len], fun i s e => ?_, by rw [hn]; exact List.nodup_nil, fun a o _ q => q, fun i s l e a => ?_, fun l m => (by cases m), b⟩
  · have hi : i < as.length := by
      by_cases z : i < as.length
      · exact z
      · exfalso
        unfold env0 at e
        rw [List.getElem?_append_right (by simp; omega)] at e
        have := List.mem_iff_getElem?.mpr ⟨_, e⟩
        have q := (List.mem_replicate.mp this).2
        cases q
    have e2 : as[i]? = some s := by
      unfold env0 at e
      rw [List.getElem?_append_left (by simpa using hi), List.getElem?_map] at e
      cases z : as[i]? with
      | none => rw [z] at e; cases e
      | some s' => rw [z] at e; simp at e; rw [e]
    obtain ⟨v, h1, h2, _⟩ := h.ok i s e2
    refine ⟨v, ?_, ?_⟩
    · unfold L2.start
      rw [List.getElem?_append_left (by simp [h.len]; exact hi), List.getElem?_map, h1]
      rfl
    · rw [hn, List.append_nil, hh]
      exact h2
  · have m : l ∈ adr (env0 as N.length) := mem_adr.mpr ⟨i, s, e, a⟩
    rw [hn] at m
    cases m
theorem Bs.fresh {hs : List Addr} {H : Hp} (b : Bs hs H) : ∀ p, H p = none → p ∉ hs := fun p n m => b p m n
section
variable {P : Program} {w : World} {K : Frag} {mg : Str → Option Value} {base : Heap}
/-- THE RULE for a def that changes nothing of its caller's -/
theorem fn_pure {x qual : Str} {params : Arguments} {body : List Stmt} {scope : Scope} {dvs : List V} {kws : List (Str × V)} {f : Addr} {fd : FuncData} {N ps : List Str} {k : Nat} {S : SP} (F : FunD K x qual params body scope dvs kws f fd) (Sc : FnScope N ps scope)
    (hlen : ∀ as R, S.S as R → as.length = ps.length)
    (hb : ∀ (cdv : Value) (A : Around) (outer : List PySem.Env) (s : Shared) (H : Hp) (E : XK), Room k (A.deeper (PyProof.Rows.envOfC qual scope s.heap.objs.size f cdv)) →
      ∃ t, PSs (cxOf CX0 P w K mg base N qual scope f cdv A outer s H E).nox body (Ls K W0 t) ∧ ∀ as R, S.S as R → t { nx := fun _ => R (.d .non), rt := fun r _ => R r } (env0 as N.length)) : FnOk P w K mg base CX0 (k + 1) f fd ps (spP K S) := by
  refine F.ok Sc (fun vs H Q E h => ?_) fun cdv A outer s H vs Q E hr h => ?_
  · obtain ⟨hs, as, a, _, z⟩ := h
    rw [a.len]
    exact hlen as _ z
  · obtain ⟨hs, as, a, bb, z⟩ := h
    obtain ⟨t, h1, h2⟩ := hb cdv A outer s H E hr
    refine ⟨Ls K W0 t, h1.nox, H, [], hs, _, _, a.se bb, h2 as _ z, ⟨fun Γ' σ' H' q se _ => q .non H' (fun a o e => se.fr a o (by simp) e) .non, fun r Γ' σ' v H' q se ro => q v H' (fun a o e => se.fr a o (by simp) e) ro, fun _ _ _ q => q.elim, fun _ _ _ q => q.elim, fun _ _ _ _ _ _ q => q.elim⟩⟩
/-- the same for a promise by arguments; G: the slots at the entry -/
theorem fn_spc {x qual : Str} {params : Arguments} {body : List Stmt} {scope : Scope} {dvs : List V} {kws : List (Str × V)} {f : Addr} {fd : FuncData} {N ps : List Str} {k : Nat} {α : Type} {args : α → List Slot} {pre : α → Prop} {post : α → Rs → Prop}
    (F : FunD K x qual params body scope dvs kws f fd) (Sc : FnScope N ps scope) (G : α → Env)
    (hb : ∀ (cdv : Value) (A : Around) (outer : List PySem.Env) (s : Shared) (H : Hp) (E : XK), Room k (A.deeper (PyProof.Rows.envOfC qual scope s.heap.objs.size f cdv)) →
      ∃ t, PSs (cxOf CX0 P w K mg base N qual scope f cdv A outer s H E).nox body (Ls K W0 t) ∧ ∀ x (R : Rs → Prop), pre x → (∀ r, post x r → R r) → t { nx := fun _ => R (.d .non), rt := fun r _ => R r } (G x))
    (hG : ∀ x, env0 (args x) N.length = G x := by intro _; rfl) (hlen : ∀ x, (args x).length = ps.length := by intro _; rfl) : FnOk P w K mg base CX0 (k + 1) f fd ps (spP K (spc args pre post)) := by
  refine fn_pure F Sc (fun as R ⟨x, h, _⟩ => by rw [h]; exact hlen x) fun cdv A outer s H E hr => ?_
  obtain ⟨t, h1, h2⟩ := hb cdv A outer s H E hr
  exact ⟨t, h1, fun as R ⟨x, h, hp, hR⟩ => by rw [h, hG]; exact h2 x R hp hR⟩
/-- a def of the module, by its name -/
structure Df (P : Program) (w : World) (K : Frag) (mg : Str → Option Value) (base : Heap) (x : Str) (k : Nat) (sp : Sp) : Prop where
  ex : ∃ (f : Addr) (fd : FuncData) (ps : List Str), FnOk P w K mg base CX0 k f fd ps sp ∧ mg x = some (.ref f) ∧ PySem.W.keepIn K (.ref f) = true ∧ Binds K fd ps []
/-- a method of the class at C -/
structure Dm (P : Program) (w : World) (K : Frag) (mg : Str → Option Value) (base : Heap) (C : Addr) (m : Str) (k : Nat) (sp : Sp) : Prop where
  ex : ∃ (f : Addr) (fd : FuncData) (ps : List Str), FnOk P w K mg base CX0 k f fd ps sp ∧ Meth K C m f ∧ Binds K fd ps []
end
def xCl (S : SP) (t : AT) : XT := fun Γ P => t Γ fun as => S.S as fun r => P r.dat
def fCl (S : SP) (t : AT) : FT := fun Γ P => t Γ fun as => S.S as fun r => match r with
  | .fl ds => P ds
  | _ => False
section
variable {X : Cx} {W : WX}
theorem call_li {S : SP} {t : AT} {E : XK} (σ : St) (H : Hp) (Q : VK) (h : Li X.K (xCl S t) σ H Q) : tCall (spP X.K S) [] E (LaX X.K t) σ H Q := by
  obtain ⟨H0, ps, hs, Γ, P, se, ht, k⟩ := h
  refine ⟨H0, ps, hs, Γ, _, se, ht, fun as vs H2 p e ar => ?_⟩
  show spP X.K S (vs ++ []) H2 Q E
  rw [List.append_nil]
  exact ⟨hs ++ adr Γ, as, ar, (se.mono e).bs, S.mon _ _ _ (fun r hr v H' e3 ro => k _ v H' hr (e.trans e3) (res_dat (se.mono e).bs.fresh ro)) p⟩
theorem call_lf {S : SP} {t : AT} {E : XK} (σ : St) (H : Hp) (Q : VK) (h : Lf X.K (fCl S t) σ H Q) : tCall (spP X.K S) [] E (LaX X.K t) σ H Q := by
  obtain ⟨H0, ps, hs, Γ, P, se, ht, k⟩ := h
  refine ⟨H0, ps, hs, Γ, _, se, ht, fun as vs H2 p e ar => ?_⟩
  show spP X.K S (vs ++ []) H2 Q E
  rw [List.append_nil]
  exact ⟨hs ++ adr Γ, as, ar, (se.mono e).bs, S.mon _ _ _ (fun r hr v H' e3 ro => by
    cases r with
    | fl ds => obtain ⟨q, vs, rfl, n, h1, h2⟩ := ro; exact k ds q vs H' hr (fresh_of e n) (e.trans e3) h1 h2
    | _ => exact hr.elim) p⟩
section
variable {x : Str} {k : Nat} {S : SP} {e : Expr} {es : List Expr} {p pos : Pos} {t : AT}
theorem px_call (F : Df X.prog X.w X.K X.mg X.base x k (spP X.K S)) (hr : Room k X.A) (ha : PA X (e :: es) (LaX X.K t)) (hg : Gl X x := by rfl) (hd : (x == ("__debug__" : Str)) = false := by decide)
    (he : starEach (e :: es) X.env = (false, eval e X.env) :: starEach es X.env := by rfl) (hpl : (backTo pos (starEach es X.env)).any (·.1) = false := by rfl) : PE X (.Call (.Name x p) (e :: es) [] pos) (Li X.K (xCl S t)) := by
  obtain ⟨f, fd, ps, h1, h2, h3, h4⟩ := F.ex
  exact pe_imp (pe_call h1 hr hg h2 h3 h4 .nil pass0 ha hd he hpl) call_li
theorem fx_call (F : Df X.prog X.w X.K X.mg X.base x k (spP X.K S)) (hr : Room k X.A) (ha : PA X (e :: es) (LaX X.K t)) (hg : Gl X x := by rfl) (hd : (x == ("__debug__" : Str)) = false := by decide)
    (he : starEach (e :: es) X.env = (false, eval e X.env) :: starEach es X.env := by rfl) (hpl : (backTo pos (starEach es X.env)).any (·.1) = false := by rfl) : PE X (.Call (.Name x p) (e :: es) [] pos) (Lf X.K (fCl S t)) := by
  obtain ⟨f, fd, ps, h1, h2, h3, h4⟩ := F.ex
  exact pe_imp (pe_call h1 hr hg h2 h3 h4 .nil pass0 ha hd he hpl) call_lf
end
/-! ### methods: the receiver is data, the class's instance -/
def xMe (C : Addr) (m : Str) (S : SP) (to : XT) (t : AT) : XT := fun Γ P => to Γ fun d => match d with
  | .obj C' fs => C' = C ∧ fs.lookup m = none ∧ t Γ fun as => S.S (.im d :: as) fun r => P r.dat
  | _ => False
def fMe (C : Addr) (m : Str) (S : SP) (to : XT) (t : AT) : FT := fun Γ P => to Γ fun d => match d with
  | .obj C' fs => C' = C ∧ fs.lookup m = none ∧ t Γ fun as => S.S (.im d :: as) fun r => match r with
    | .fl ds => P ds
    | _ => False
  | _ => False
theorem look_none : ∀ {fvs : List (Str × V)} {fs : List (Str × D)} {f : Str}, fvs.map (·.1) = fs.map (·.1) → fs.lookup f = none → fvs.lookup f = none
  | [], [], _, _, h => rfl
  | (x, v) :: r, (y, e) :: q, f, hk, h => by
    simp only [List.map_cons, List.cons.injEq] at hk
    obtain ⟨rfl, hk⟩ := hk
    rw [List.lookup_cons] at h ⊢
    cases z : (f == x) with
    | true => rw [z] at h; cases h
    | false => rw [z] at h; exact look_none hk h
  | [], _ :: _, _, hk, _ => by simp at hk
  | _ :: _, [], _, hk, _ => by simp at hk
section
variable {m : Str} {k : Nat} {S : SP} {o e : Expr} {es : List Expr} {apos pos : Pos} {t : AT} {to : XT} {C : Addr}
theorem meth_li {E : XK} (σ : St) (H : Hp) (Q : VK) (h : Li X.K (xMe C m S to t) σ H Q) : tMeth C m (spP X.K S) [] E (Li X.K to) (LaX X.K t) σ H Q := by
  obtain ⟨H0, ps, hs, Γ, P, se, ht, k⟩ := h
  refine ⟨H0, ps, hs, Γ, _, se, ht, fun d v H1 p e1 r => ?_⟩
  cases d with
  | obj C' fs =>
    obtain ⟨rfl, p1, p⟩ := p
    obtain ⟨a, dx, fvs, rfl, h1, h2, h3⟩ := (RepW.im r).inst hid_ex
    refine ⟨a, dx, fvs, rfl, h1, look_none h2 p1, H0, ps, hs, Γ, _, se.mono e1, p, fun as vs H2 q e2 ar => ?_⟩
    show spP X.K S (V.ref a :: (vs ++ [])) H2 Q E
    rw [List.append_nil]
    exact ⟨hs ++ adr Γ, _, .cons (s := .im (.obj C' fs)) (r.mono (hid_ex2 e2)) rfl ar, ((se.mono e1).mono e2).bs, S.mon _ _ _ (fun r hr v H' e3 ro => k _ v H' hr ((e1.trans e2).trans e3) (res_dat ((se.mono e1).mono e2).bs.fresh ro)) q⟩
  | _ => exact p.elim
theorem meth_lf {E : XK} (σ : St) (H : Hp) (Q : VK) (h : Lf X.K (fMe C m S to t) σ H Q) : tMeth C m (spP X.K S) [] E (Li X.K to) (LaX X.K t) σ H Q := by
  obtain ⟨H0, ps, hs, Γ, P, se, ht, k⟩ := h
  refine ⟨H0, ps, hs, Γ, _, se, ht, fun d v H1 p e1 r => ?_⟩
  cases d with
  | obj C' fs =>
    obtain ⟨rfl, p1, p⟩ := p
    obtain ⟨a, dx, fvs, rfl, h1, h2, h3⟩ := (RepW.im r).inst hid_ex
    refine ⟨a, dx, fvs, rfl, h1, look_none h2 p1, H0, ps, hs, Γ, _, se.mono e1, p, fun as vs H2 q e2 ar => ?_⟩
    show spP X.K S (V.ref a :: (vs ++ [])) H2 Q E
    rw [List.append_nil]
    exact ⟨hs ++ adr Γ, _, .cons (s := .im (.obj C' fs)) (r.mono (hid_ex2 e2)) rfl ar, ((se.mono e1).mono e2).bs, S.mon _ _ _ (fun r hr v H' e3 ro => by
      cases r with
      | fl ds => obtain ⟨q, vs, rfl, n, h1, h2⟩ := ro; exact k ds q vs H' hr (fresh_of (e1.trans e2) n) ((e1.trans e2).trans e3) h1 h2
      | _ => exact hr.elim) q⟩
  | _ => exact p.elim
theorem px_meth {pl : Sem Bool} (c : Cls X.K C) (F : Dm X.prog X.w X.K X.mg X.base C m k (spP X.K S)) (hr : Room k X.A) (ho : PE X o (Li X.K to)) (ha : PA X (e :: es) (LaX X.K t))
    (hst : starEach (e :: es) X.env = (false, eval e X.env) :: starEach es X.env := by rfl) (hpl : (backTo pos (starEach es X.env)).any (·.1) = false := by rfl)
    (ht : eval (.Call (.Attribute o m apos) (e :: es) [] pos) X.env = (do
      let ov ← eval o X.env
      standAt apos.atName
      let (f, first) ← holding [ov] (getMethod ov m pl)
      callWith pos f first (backTo pos (starEach (e :: es) X.env)) (backToKw pos (keywordEach [] X.env))) := by rfl) : PE X (.Call (.Attribute o m apos) (e :: es) [] pos) (Li X.K (xMe C m S to t)) := by
  obtain ⟨f, fd, ps, h1, h2, h3⟩ := F.ex
  exact pe_imp (pe_meth ho c h2 h1 hr h3 .nil pass0 ha hst hpl ht) meth_li
theorem fx_meth {pl : Sem Bool} (c : Cls X.K C) (F : Dm X.prog X.w X.K X.mg X.base C m k (spP X.K S)) (hr : Room k X.A) (ho : PE X o (Li X.K to)) (ha : PA X (e :: es) (LaX X.K t))
    (hst : starEach (e :: es) X.env = (false, eval e X.env) :: starEach es X.env := by rfl) (hpl : (backTo pos (starEach es X.env)).any (·.1) = false := by rfl)
    (ht : eval (.Call (.Attribute o m apos) (e :: es) [] pos) X.env = (do
      let ov ← eval o X.env
      standAt apos.atName
      let (f, first) ← holding [ov] (getMethod ov m pl)
      callWith pos f first (backTo pos (starEach (e :: es) X.env)) (backToKw pos (keywordEach [] X.env))) := by rfl) : PE X (.Call (.Attribute o m apos) (e :: es) [] pos) (Lf X.K (fMe C m S to t)) := by
  obtain ⟨f, fd, ps, h1, h2, h3⟩ := F.ex
  exact pe_imp (pe_meth ho c h2 h1 hr h3 .nil pass0 ha hst hpl ht) meth_lf
end
end
end Kb
set_option Elab.async false
set_option linter.all false
set_option maxRecDepth 100000
set_option maxHeartbeats 1000000
/-! Kb8: lists changed; defs that change a list of their caller's (first argument). -/
namespace Kb
open PySem L2
set_option autoImplicit false

theorem fm_if {α β : Type} (p : α → Bool) (g : α → β) (xs : List α) : xs.filterMap (fun x => if p x then some (g x) else none) = (xs.filter p).map g := by
  induction xs with
  | nil => rfl
  | cons x xs ih => cases h : p x <;> simp [h, ih]
theorem lcbF {α : Type} {Γ : Env} {g : GT} {tt : BT} {te : XT} {vs : List Nat} {P : List D → Prop} {xs : List α} {enc : α → D} (p : α → Bool) (h : α → D) (hl : xs.length ≤ sizeLine)
    (hb : ∀ x ∈ xs, g (enc x) (wipeE Γ vs) fun Γ2 => tt Γ2 fun b => (b = true → te Γ2 fun z => (if p x then some (h x) else none) = some z) ∧ (b = false → (if p x then some (h x) else none) = none)) (hP : P ((xs.filter p).map h)) (ha : adr (wipeE Γ vs) = adr Γ := by rfl) : LcB Γ g tt te vs (xs.map enc) P :=
  lcb (fun x => if p x then some (h x) else none) hl hb (by rw [fm_if]; exact hP) ha
theorem lcbM {α : Type} {Γ : Env} {g : GT} {tt : BT} {te : XT} {vs : List Nat} {P : List D → Prop} {xs : List α} {enc : α → D} (h : α → D) (hl : xs.length ≤ sizeLine)
    (hb : ∀ x ∈ xs, g (enc x) (wipeE Γ vs) fun Γ2 => tt Γ2 fun b => (b = true → te Γ2 fun z => some (h x) = some z) ∧ (b = false → some (h x) = none)) (hP : P (xs.map h)) (ha : adr (wipeE Γ vs) = adr Γ := by rfl) : LcB Γ g tt te vs (xs.map enc) P :=
  lcb (fun x => some (h x)) hl hb (by rw [List.filterMap_eq_map']; exact hP) ha

section
variable {X : Cx} {W : WX}
/-! ### xs.append(e), xs a list of one's own -/
def sApp (i : Nat) (t : XT) : ST := fun E Γ => match Γ[i]? with
  | some (some (.ml l ds)) => t Γ fun d => ds.length < sizeLine ∧ E.nx (Γ.set i (some (.ml l (ds ++ [d]))))
  | _ => False
theorem kp_write {hs : List Addr} {Γ Γ' : Env} {H : Hp} {l : Addr} {o : HO} (hl : l ∈ adr Γ) (ha : adr Γ' = adr Γ) : Kp hs Γ H Γ' (upd H l o) := by
  unfold Kp
  rw [ha, hid_upd hl]
  exact Same.refl _
theorem s_app (i : Nat) {x : Str} {e : Expr} {t : XT} {npos apos cpos pos : Pos} (he : PE X e (Li X.K t)) (hN : X.N[i]? = some x := by rfl) (hv : Vis X.env.scope x := by first | exact Or.inl rfl | exact Or.inr (Or.inl rfl) | exact Or.inr (Or.inr rfl)) (hd : (x == ("__debug__" : Str)) = false := by decide) (hcd : (x == ("__classdict__" : Str)) = false := by decide)
    (hbase : attributeBase (.Name x npos) "append" X.env (eval (.Name x npos) X.env) = eval (.Name x npos) X.env := by rfl)
    (hfew : ((backTo cpos (starEach [e] X.env)).all (fun x => !x.1) && (backToKw cpos (keywordEach [] X.env)).all (fun x => x.1.isSome)
      && decide ([e].length + ([] : List Keyword).length + (if ([] : List Keyword).isEmpty then 0 else 1) < 30)) = true := by rfl)
    (hline : (apos.endLine == cpos.line) = true := by rfl) (hs : starEach [e] X.env = (false, eval e X.env) :: starEach [] X.env := by rfl) (hplain : (backTo cpos (starEach [] X.env)).any (·.1) = false := by rfl)
    (hsw : swapsWith (.Call (.Attribute (.Name x npos) "append" apos) [e] [] cpos) none pos.line X.env = pure false := by rfl) :
    PS X (.Expr (.Call (.Attribute (.Name x npos) "append" apos) [e] [] cpos) pos) (Ls X.K W (sApp i t)) :=
  ps_imp (ps_expr (pe_bm PySem.F.plainAttrs_list PySem.F.slot_list_append PySem.F.type_list_append mt_append (pe_var hN hv hd hcd) (pa_cons he pa_nil hs) hbase hfew hline hs hplain) hsw) fun D σ H ⟨H0, ps, hs, Γ, E, se, ht, r⟩ => by
    unfold sApp at ht
    split at ht
    · rename_i l ds e
      obtain ⟨v, h1, rfl, vs, h2, h3⟩ := se.ok i _ e
      refine ⟨_, h1, .inl ⟨rfl, _, SqL.of h2⟩, H0, ps, hs, Γ, _, se, ht, fun d y H2 p e2 rr => ?_⟩
      have h2' := e2 _ _ h2
      have hl : l ∈ adr Γ := mem_adr.mpr ⟨i, _, e, rfl⟩
      obtain ⟨se', ha⟩ := (se.mono e2).write (s' := .ml l (ds ++ [d])) (o := .lst (vs ++ [y])) e rfl rfl rfl ⟨rfl, _, upd_same, (h3.mono (hid_ex2 e2)).append (.one rr)⟩
      exact ⟨l, vs, y, rfl, rfl, h2', by rw [h3.length]; exact p.1, r.nx _ σ _ p.2 se' ((Kp.ex e2).trans (kp_write hl ha))⟩
    · exact ht.elim
/-! ### xs[k] = e, xs a list of one's own or of the caller's -/
def sSetI (i : Nat) (te tk : XT) : ST := fun E Γ => te Γ fun d => match Γ[i]? with
  | some (some (.ml l ds)) => tk Γ fun z => (match z with
    | .int k => ∃ j, ixN ds.length k = some j ∧ E.nx (Γ.set i (some (.ml l (ds.set j d))))
    | _ => False)
  | some (some (.pl l ds)) => tk Γ fun z => (match z with
    | .int k => ∃ j, ixN ds.length k = some j ∧ E.nx (Γ.set i (some (.pl l (ds.set j d))))
    | _ => False)
  | _ => False
theorem s_setI (i : Nat) {x : Str} {e k : Expr} {te tk : XT} {npos pos' pos : Pos} (he : PE X e (Li X.K te)) (hk : PE X k (Lb X.K tk)) (hN : X.N[i]? = some x := by rfl) (hv : Vis X.env.scope x := by first | exact Or.inl rfl | exact Or.inr (Or.inl rfl) | exact Or.inr (Or.inr rfl)) (hd : (x == ("__debug__" : Str)) = false := by decide) (hcd : (x == ("__classdict__" : Str)) = false := by decide)
    (ha : ∀ v, assign (.Subscript (.Name x npos) k pos') X.env v = (do
      let ov ← holding [v] (eval (.Name x npos) X.env)
      let iv ← holding [v, ov] (eval k X.env)
      standAt pos'
      holding [v, ov, iv] (setItem ov iv v)
      release [v, ov, iv] []) := by intro _; rfl) (hs : swapsWithSole [.Subscript (.Name x npos) k pos'] e pos.line X.env = pure false := by rfl) (hw : swappedStores [.Subscript (.Name x npos) k pos'] e X.env = pure none := by rfl)
    (h1 : (assignEach [.Subscript (.Name x npos) k pos'] X.env).map (·.2) = [assign (.Subscript (.Name x npos) k pos') X.env] := by rfl) :
    PS X (.Assign [.Subscript (.Name x npos) k pos'] e pos) (Ls X.K W (sSetI i te tk)) :=
  ps_imp (ps_asg he (pg_sub (pe_var hN hv hd hcd) hk set_list ha) hs hw h1) fun D σ H ⟨H0, ps, hs, Γ, E, se, ht, r⟩ => by
    refine ⟨H0, ps, hs, Γ, _, se, ht, fun d y H2 p e2 rr => ?_⟩
    have se2 := se.mono e2
    split at p
    · rename_i l ds e
      obtain ⟨v, h1, rfl, vs, h2, h3⟩ := se2.ok i _ e
      refine ⟨_, h1, H0, ps, hs, Γ, _, se2, p, fun z u H3 q e3 r3 => ?_⟩
      cases z with
      | int k =>
        obtain ⟨j, hj, q⟩ := q
        cases r3.intv
        have hl : l ∈ adr Γ := mem_adr.mpr ⟨i, _, e, rfl⟩
        obtain ⟨se', ha⟩ := (se2.mono e3).write (s' := .ml l (ds.set j d)) (o := .lst (vs.set j y)) e rfl rfl rfl ⟨rfl, _, upd_same, (h3.mono (hid_ex2 e3)).set (rr.mono (hid_ex2 e3)) j⟩
        exact ⟨l, vs, k, j, rfl, rfl, e3 _ _ h2, by rw [h3.length]; exact hj, r.nx _ σ _ q se' ((Kp.ex (e2.trans e3)).trans (kp_write hl ha))⟩
      | _ => exact q.elim
    · rename_i l ds e
      obtain ⟨v, h1, rfl, vs, h2, h3⟩ := se2.ok i _ e
      refine ⟨_, h1, H0, ps, hs, Γ, _, se2, p, fun z u H3 q e3 r3 => ?_⟩
      cases z with
      | int k =>
        obtain ⟨j, hj, q⟩ := q
        cases r3.intv
        have hl : l ∈ adr Γ := mem_adr.mpr ⟨i, _, e, rfl⟩
        obtain ⟨se', ha⟩ := (se2.mono e3).write (s' := .pl l (ds.set j d)) (o := .lst (vs.set j y)) e rfl rfl rfl ⟨rfl, _, upd_same, (h3.mono (hid_ex2 e3)).set (rr.mono (hid_ex2 e3)) j⟩
        exact ⟨l, vs, k, j, rfl, rfl, e3 _ _ h2, by rw [h3.length]; exact hj, r.nx _ σ _ q se' ((Kp.ex (e2.trans e3)).trans (kp_write hl ha))⟩
      | _ => exact q.elim
    · exact p.elim
end

/-! ### a def that changes the list that is its first argument -/
structure SM where
  S : List D → List D → (Rs → List D → Prop) → Prop
  mon : ∀ ds as (R R' : Rs → List D → Prop), (∀ r z, R r z → R' r z) → S ds as R → S ds as R'
def spcM {α : Type} (fst : α → List D) (args : α → List D) (pre : α → Prop) (post : α → Rs → List D → Prop) : SM :=
  ⟨fun ds as R => ∃ x, ds = fst x ∧ as = args x ∧ pre x ∧ ∀ r z, post x r z → R r z, fun ds as R R' h ⟨x, a, b, c, d⟩ => ⟨x, a, b, c, fun r z q => h r z (d r z q)⟩⟩
def spM (K : Frag) (S : SM) : Sp := fun vs H Q _ => ∃ hs l ds us as, vs = .ref l :: us ∧ Reps K (hid hs H) us as ∧ Bs hs H ∧ l ∈ hs ∧ (∃ ws, H l = some (.lst ws) ∧ Reps K (hid hs H) ws ds) ∧
  S.S ds as fun r z => ∀ v H', (∀ a o, a ≠ l → H a = some o → H' a = some o) → (∃ ws, H' l = some (.lst ws) ∧ Reps K (hid hs H') ws z) → ResOk K H hs H' v r → Q v H'
def envD (as : List D) (n : Nat) : Env := as.map (fun d => some (.im d)) ++ List.replicate (n - as.length) none
theorem adr_envD (as : List D) (n : Nat) : adr (envD as n) = [] := by
  unfold envD adr
  rw [List.filterMap_append]
  have a : (as.map fun d => some (Slot.im d)).filterMap (fun o => o.bind Slot.ad) = [] := by
    rw [List.filterMap_eq_nil_iff]
    intro o m
    obtain ⟨s, hs, rfl⟩ := List.mem_map.mp m
    rfl
  have b : (List.replicate (n - as.length) (none : Option Slot)).filterMap (fun o => o.bind Slot.ad) = [] := by
    rw [List.filterMap_eq_nil_iff]
    intro o m
    rw [(List.mem_replicate.mp m).2]
    rfl
  rw [a, b]
  rfl
section
variable {P : Program} {w : World} {K : Frag} {mg : Str → Option Value} {base : Heap}
theorem fn_pot {x qual : Str} {params : Arguments} {body : List Stmt} {scope : Scope} {dvs : List V} {kws : List (Str × V)} {f : Addr} {fd : FuncData} {N ps : List Str} {k : Nat} {α : Type} {fst : α → List D} {args : α → List D} {pre : α → Prop} {post : α → Rs → List D → Prop} {n0 : Str}
    (F : FunD K x qual params body scope dvs kws f fd) (Sc : FnScope (n0 :: N) (n0 :: ps) scope) (G : Addr → α → Env)
    (hb : ∀ (cdv : Value) (A : Around) (outer : List PySem.Env) (s : Shared) (H : Hp) (E : XK), Room k (A.deeper (PyProof.Rows.envOfC qual scope s.heap.objs.size f cdv)) →
      ∃ t, PSs (cxOf CX0 P w K mg base (n0 :: N) qual scope f cdv A outer s H E).nox body (Ls K W0 t) ∧ ∀ l x (R : Rs → List D → Prop), pre x → (∀ r z, post x r z → R r z) → t { nx := fun Γ => ∃ z, Γ[0]? = some (some (.pl l z)) ∧ R (.d .non) z, rt := fun r Γ => ∃ z, Γ[0]? = some (some (.pl l z)) ∧ R r z } (G l x))
    (hG : ∀ l x, some (.pl l (fst x)) :: envD (args x) N.length = G l x := by intro _ _; rfl) (hlen : ∀ x, (args x).length = ps.length := by intro _; rfl) : FnOk P w K mg base CX0 (k + 1) f fd (n0 :: ps) (spM K (spcM fst args pre post)) := by
  refine F.ok Sc (fun vs H Q E h => ?_) fun cdv A outer s H vs Q E hr h => ?_
  · obtain ⟨hs, l, ds, us, as, rfl, a, _, _, _, x, _, rfl, _⟩ := h
    simp [a.length, hlen x]
  · obtain ⟨hs, l, ds, us, as, rfl, a, bb, hl, ⟨ws, hw, rw_⟩, x, rfl, rfl, hp, hR⟩ := h
    obtain ⟨t, h1, h2⟩ := hb cdv A outer s H E hr
    have hadr : adr (some (.pl l (fst x)) :: envD (args x) N.length) = [l] := by rw [adr_cons, adr_envD]; rfl
    have hB : ∀ H', hid (hs ++ [l]) H' = hid hs H' := fun H' => by
      funext b
      by_cases hb : b ∈ hs
      · rw [hid_in hb, hid_in (List.mem_append_left _ hb)]
      · rw [hid_ni hb, hid_ni (fun m => (List.mem_append.mp m).elim hb fun z => hb (by rw [List.mem_singleton.mp z]; exact hl))]
    have hst : L2.start (n0 :: N) (.ref l :: us) = some (.ref l) :: (us.map some ++ List.replicate (N.length - us.length) none) := by
      unfold L2.start
      simp
    have se : SE K H [l] hs (G l x) (L2.start (n0 :: N) (.ref l :: us)) H := by
      rw [← hG, hst]
      refine ⟨by simp [envD, a.length], fun i s e => ?_, by rw [hadr]; simp, fun b o _ q => q, fun i s b e z => ?_, fun b m => (by rw [List.mem_singleton.mp m]; exact hl), bb⟩
      · rw [hadr, hB]
        cases i with
        | zero =>
          simp at e
          subst e
          exact ⟨_, rfl, rfl, ws, hw, rw_⟩
        | succ i =>
          have e' : (envD (args x) N.length)[i]? = some (some s) := by simpa using e
          have hi : i < (args x).length := by
            by_cases z : i < (args x).length
            · exact z
            · exfalso
              unfold envD at e'
              rw [List.getElem?_append_right (by simp; omega)] at e'
              have q := (List.mem_replicate.mp (List.mem_iff_getElem?.mpr ⟨_, e'⟩)).2
              cases q
          obtain ⟨d, hd⟩ : ∃ d, (args x)[i]? = some d := ⟨_, List.getElem?_eq_getElem hi⟩
          have es : s = .im d := by
            unfold envD at e'
            rw [List.getElem?_append_left (by simpa using hi), List.getElem?_map, hd] at e'
            simp at e'
            exact e'.symm
          subst es
          obtain ⟨v, g1, g2⟩ := a.get' hd
          refine ⟨v, ?_, g2⟩
          have hi2 : i < us.length := by rw [a.length]; exact hi
          simp only [List.getElem?_cons_succ]
          rw [List.getElem?_append_left (by simpa using hi2), List.getElem?_map, g1]
          rfl
      · cases i with
        | zero =>
          simp at e
          subst e
          cases z
          exact ⟨fun _ => List.mem_singleton.mpr rfl, fun q => (by cases q)⟩
        | succ i =>
          have m : b ∈ adr (envD (args x) N.length) := mem_adr.mpr ⟨i, s, by simpa using e, z⟩
          rw [adr_envD] at m
          cases m
    have fin : ∀ (Γ' : Env) (σ' : St) (H' : Hp) (z : List D), Γ'[0]? = some (some (.pl l z)) → SE K H [l] hs Γ' σ' H' → (∀ a o, a ≠ l → H a = some o → H' a = some o) ∧ ∃ ws, H' l = some (.lst ws) ∧ Reps K (hid hs H') ws z := fun Γ' σ' H' z hz se' => by
      obtain ⟨v, _, _, ws, g2, g3⟩ := se'.ok 0 _ hz
      exact ⟨fun a o h q => se'.fr a o (fun m => h (List.mem_singleton.mp m)) q, ws, g2, g3.mono (hid_sub fun a m => List.mem_append_left _ m)⟩
    refine ⟨Ls K W0 t, h1.nox, H, [l], hs, _, _, se, h2 l x _ hp hR, ⟨fun Γ' σ' H' q se' _ => ?_, fun r Γ' σ' v H' q se' ro => ?_, fun _ _ _ q => q.elim, fun _ _ _ q => q.elim, fun _ _ _ _ _ _ q => q.elim⟩⟩
    · obtain ⟨z, hz, q⟩ := q
      obtain ⟨g1, g2⟩ := fin Γ' σ' H' z hz se'
      exact q .non H' g1 g2 .non
    · obtain ⟨z, hz, q⟩ := q
      obtain ⟨g1, g2⟩ := fin Γ' σ' H' z hz se'
      exact q v H' g1 g2 ro
end
/-! ### expressions that change lists -/
abbrev IT := Env → (D → Env → Prop) → Prop
abbrev MT := Env → (List D → Env → Prop) → Prop
abbrev BMT := Env → (Bool → Env → Prop) → Prop
def Km (hs : List Addr) (Γ : Env) (H : Hp) (Γ2 : Env) (H2 : Hp) : Prop := adr Γ2 = adr Γ ∧ ∀ a o, a ∉ adr Γ → H a = some o → H2 a = some o
theorem Km.x {hs : List Addr} {Γ Γ2 : Env} {H H2 : Hp} (k : Km hs Γ H Γ2 H2) : Ex (hid (hs ++ adr Γ) H) (hid (hs ++ adr Γ) H2) := hid_mono fun a o n q => k.2 a o (fun m => n (List.mem_append_right _ m)) q
theorem Km.kp {hs : List Addr} {Γ Γ2 : Env} {H H2 : Hp} (k : Km hs Γ H Γ2 H2) : Kp hs Γ H Γ2 H2 := by
  unfold Kp
  rw [k.1]
  exact hid_mono fun a o n q => k.2 a o n q
theorem Km.trans {hs : List Addr} {Γ Γ1 Γ2 : Env} {H H1 H2 : Hp} (a : Km hs Γ H Γ1 H1) (b : Km hs Γ1 H1 Γ2 H2) : Km hs Γ H Γ2 H2 :=
  ⟨b.1.trans a.1, fun c o n q => b.2 c o (by rw [a.1]; exact n) (a.2 c o n q)⟩
theorem Km.ex {hs : List Addr} {Γ : Env} {H H2 : Hp} (e : Ex H H2) : Km hs Γ H Γ H2 := ⟨rfl, fun a o _ q => e a o q⟩
def Lm (K : Frag) (t : IT) : TE := fun σ H Q => ∃ (H0 : Hp) (ps hs : List Addr) (Γ : Env) (P : D → Env → Prop), SE K H0 ps hs Γ σ H ∧ t Γ P ∧ ∀ d Γ2 v H2, P d Γ2 → SE K H0 ps hs Γ2 σ H2 → Km hs Γ H Γ2 H2 → Rep K (hid (hs ++ adr Γ) H2) v d → Q v H2
def LmT (K : Frag) (t : BMT) : TT := fun σ H Q => ∃ (H0 : Hp) (ps hs : List Addr) (Γ : Env) (P : Bool → Env → Prop), SE K H0 ps hs Γ σ H ∧ t Γ P ∧ ∀ b Γ2 H2, P b Γ2 → SE K H0 ps hs Γ2 σ H2 → Km hs Γ H Γ2 H2 → Q b H2
def LmA (K : Frag) (t : MT) : TA := fun σ H Q => ∃ (H0 : Hp) (ps hs : List Addr) (Γ : Env) (P : List D → Env → Prop), SE K H0 ps hs Γ σ H ∧ t Γ P ∧ ∀ ds Γ2 vs H2, P ds Γ2 → SE K H0 ps hs Γ2 σ H2 → Km hs Γ H Γ2 H2 → Reps K (hid (hs ++ adr Γ) H2) vs ds → Q vs H2
section
variable {X : Cx} {W : WX}
def mP (t : XT) : IT := fun Γ P => t Γ fun d => P d Γ
theorem mx {e : Expr} {t : XT} (h : PE X e (Li X.K t)) : PE X e (Lm X.K (mP t)) := pe_imp h fun σ H Q ⟨H0, ps, hs, Γ, P, se, ht, k⟩ => ⟨H0, ps, hs, Γ, _, se, ht, fun d v H2 p e r => k d Γ v H2 p (se.mono e) (Km.ex e) r⟩
def m2 (f : F2) (ta tb : IT) : IT := fun Γ P => ta Γ fun d Γ1 => tb Γ1 fun e Γ2 => f d e fun z => P z Γ2
def bm2 (f : F2) (ta tb : IT) : BMT := fun Γ P => ta Γ fun d Γ1 => tb Γ1 fun e Γ2 => f d e fun z => match z with
  | .bl b => P b Γ2
  | _ => False
theorem mbin_of {σ : St} {H : Hp} {Q : VK} {r : R2} {f : F2} {ta tb : IT} (hd : Does X.K r f) (h : Lm X.K (m2 f ta tb) σ H Q) : tOp r (Lm X.K ta) (Lm X.K tb) σ H Q := by
  obtain ⟨H0, ps, hs, Γ, P, se, ht, k⟩ := h
  refine ⟨H0, ps, hs, Γ, _, se, ht, fun d Γ1 x H1 h1 se1 k1 r1 => ?_⟩
  refine ⟨H0, ps, hs, Γ1, _, se1, h1, fun e Γ2 y H2 h2 se2 k2 r2 => ?_⟩
  have bs2 := se2.bs
  rw [k2.1, k1.1] at bs2
  rw [k1.1] at r2
  have z2 := k2.x
  rw [k1.1] at z2
  exact hd _ H2 x y d e _ Q bs2 (.im (r1.mono z2)) (.im r2) h2 fun z v H3 hz e3 r3 => k z Γ2 v H3 hz (se2.mono e3) ((k1.trans k2).trans (Km.ex e3)) r3
theorem mx_bin {op : Operator} {a b : Expr} {pos : Pos} {r : R2} {f : F2} {ta tb : IT} (ho : OpR X (binaryOp op) r) (hd : Does X.K r f) (ha : PE X a (Lm X.K ta)) (hb : PE X b (Lm X.K tb)) : PE X (.BinOp a op b pos) (Lm X.K (m2 f ta tb)) :=
  pe_imp (pe_op ho ha hb) fun _ _ _ h => mbin_of hd h
theorem mx_cmp {op : CmpOp} {a b : Expr} {pos : Pos} {r : R2} {f : F2} {ta tb : IT} (ho : OpR X (compareOp op) r) (hd : Does X.K r f) (ha : PE X a (Lm X.K ta)) (hb : PE X b (Lm X.K tb)) (hm : behindInMarks op b = false := by first | exact nomark _ | rfl) : PE X (.Compare a [op] [b] pos) (Lm X.K (m2 f ta tb)) :=
  pe_imp (pe_cmpR ho ha hb hm) fun _ _ _ h => mbin_of hd h
theorem tm_cmp {op : CmpOp} {a b : Expr} {pos : Pos} {r : R2} {f : F2} {ta tb : IT} (ho : OpR X (compareOp op) r) (hd : Does X.K r f) (ha : PE X a (Lm X.K ta)) (hb : PE X b (Lm X.K tb)) (hm : behindInMarks op b = false := by first | exact nomark _ | rfl) : PT X (.Compare a [op] [b] pos) (LmT X.K (bm2 f ta tb)) :=
  pt_imp (pt_cmpR ho ha hb hm) fun σ H Q ⟨H0, ps, hs, Γ, P, se, ht, k⟩ => mbin_of hd ⟨H0, ps, hs, Γ, (fun z Γ2 => match z with
    | .bl b => P b Γ2
    | _ => False), se, ht, fun d Γ2 v H2 p se2 k2 r => by
    cases d with
    | bl c =>
      cases r
      exact ⟨c, rfl, k c Γ2 H2 p se2 k2⟩
    | _ => exact p.elim⟩
theorem mx_ix {a b : Expr} {pos : Pos} {ta tb : IT} (ha : PE X a (Lm X.K ta)) (hb : PE X b (Lm X.K tb)) (hs : PlainIx b := by exact fun _ _ => rfl) : PE X (.Subscript a b pos) (Lm X.K (m2 fIx ta tb)) :=
  pe_imp (pe_ix ix_seq ha hb hs) fun _ _ _ h => mbin_of does_ix h
def amNil : MT := fun Γ P => P [] Γ
def amCons (t : IT) (u : MT) : MT := fun Γ P => t Γ fun d Γ1 => u Γ1 fun ds Γ2 => P (d :: ds) Γ2
theorem am_nil : PA X [] (LmA X.K amNil) := pa_imp pa_nil fun σ H Q ⟨H0, ps, hs, Γ, P, se, ht, k⟩ => k [] Γ [] H ht se (Km.ex (Same.refl H)) .nil
theorem am_cons {e : Expr} {es : List Expr} {t : IT} {u : MT} (he : PE X e (Lm X.K t)) (hs : PA X es (LmA X.K u)) (hx : starEach (e :: es) X.env = (false, eval e X.env) :: starEach es X.env := by rfl) : PA X (e :: es) (LmA X.K (amCons t u)) :=
  pa_imp (pa_cons he hs hx) fun σ H Q ⟨H0, ps, hs, Γ, P, se, ht, k⟩ => ⟨H0, ps, hs, Γ, _, se, ht, fun d Γ1 v H1 p se1 k1 r => ⟨H0, ps, hs, Γ1, _, se1, p, fun ds Γ2 vs H2 q se2 k2 r2 => by
    have z2 := k2.x
    rw [k1.1] at z2 r2
    exact k _ Γ2 _ H2 q se2 (k1.trans k2) (.cons (r.mono z2) r2)⟩⟩
def mTup (t : MT) : IT := fun Γ P => t Γ fun ds Γ2 => ds.length ≤ sizeLine ∧ P (.tup ds) Γ2
theorem mx_tup {es : List Expr} {x1 : Nat} {pos : Pos} {t : MT} (h : PA X es (LmA X.K t)) : PE X (.Tuple es x1 pos) (Lm X.K (mTup t)) := pe_imp (pe_tup h) fun σ H Q ⟨H0, ps, hs, Γ, P, se, ht, k⟩ => ⟨H0, ps, hs, Γ, _, se, ht, fun ds Γ2 vs H2 p se2 k2 r => by
  have bs2 := se2.bs
  rw [k2.1] at bs2
  exact ⟨by rw [r.length]; exact p.1, fun q n => k _ Γ2 _ _ p.2 (se2.mono (Ex.new n)) (k2.trans (Km.ex (Ex.new n))) (rep_newT bs2 n r)⟩⟩
def mLst (t : MT) : IT := fun Γ P => t Γ fun ds Γ2 => ds.length ≤ sizeLine ∧ P (.lst ds) Γ2
theorem mx_lst {es : List Expr} {pos : Pos} {t : MT} (h : PA X es (LmA X.K t)) : PE X (.List es pos) (Lm X.K (mLst t)) := pe_imp (pe_lst h) fun σ H Q ⟨H0, ps, hs, Γ, P, se, ht, k⟩ => ⟨H0, ps, hs, Γ, _, se, ht, fun ds Γ2 vs H2 p se2 k2 r => by
  have bs2 := se2.bs
  rw [k2.1] at bs2
  exact ⟨by rw [r.length]; exact p.1, fun q n => k _ Γ2 _ _ p.2 (se2.mono (Ex.new n)) (k2.trans (Km.ex (Ex.new n))) (rep_newL bs2 n r)⟩⟩
/-! ### the call of such a def -/
def mCl (i : Nat) (S : SM) (t : MT) : IT := fun Γ P => (∃ l z, Γ[i]? = some (some (.pl l z)) ∨ Γ[i]? = some (some (.ml l z))) ∧ t Γ fun as Γ1 => match Γ1[i]? with
  | some (some (.pl l ds)) => S.S ds as fun r z => P r.dat (Γ1.set i (some (.pl l z)))
  | some (some (.ml l ds)) => S.S ds as fun r z => P r.dat (Γ1.set i (some (.ml l z)))
  | _ => False
end
end Kb
set_option Elab.async false
set_option linter.all false
set_option maxRecDepth 100000
set_option maxHeartbeats 1000000
/-! Kb9: calls of defs that change a list; statements with such expressions. -/
namespace Kb
open PySem L2
set_option autoImplicit false

theorem SE.step {K : Frag} {H0 : Hp} {ps hs : List Addr} {Γ : Env} {σ : St} {H H' : Hp} (se : SE K H0 ps hs Γ σ H) {i : Nat} {s s' : Slot} {l : Addr} (hi : Γ[i]? = some (some s)) (ha : s.ad = some l) (ha' : s'.ad = some l) (hpp : s'.par = s.par)
    (fr : ∀ a o, a ≠ l → H a = some o → H' a = some o) {o : HO} (hl : H' l = some o) (ok : SlotOk K (hid (hs ++ adr Γ) H') (hid (adr Γ) H') H' (.ref l) s') : SE K H0 ps hs (Γ.set i (some s')) σ H' ∧ adr (Γ.set i (some s')) = adr Γ ∧ Ex (hid (hs ++ adr Γ) H) (hid (hs ++ adr Γ) H') := by
  have hm : l ∈ adr Γ := mem_adr.mpr ⟨i, s, hi, ha⟩
  let H1 : Hp := fun a => if a = l then H l else H' a
  have e1 : Ex H H1 := fun a u q => by
    show (if a = l then H l else H' a) = some u
    by_cases z : a = l
    · rw [if_pos z, ← z]; exact q
    · rw [if_neg z]; exact fr a u z q
  have e2 : upd H1 l o = H' := by
    funext a
    unfold upd
    by_cases z : a = l
    · rw [if_pos z, z, hl]
    · rw [if_neg z]
      show (if a = l then H l else H' a) = H' a
      rw [if_neg z]
  have b1 : hid (hs ++ adr Γ) H1 = hid (hs ++ adr Γ) H' := by rw [← e2, hid_upd (List.mem_append_right _ hm)]
  have b2 : hid (adr Γ) H1 = hid (adr Γ) H' := by rw [← e2, hid_upd hm]
  obtain ⟨g1, g2⟩ := (se.mono e1).write (s' := s') (o := o) hi ha ha' hpp (by rw [b1, b2, e2]; exact ok)
  rw [e2] at g1
  refine ⟨g1, g2, ?_⟩
  rw [← b1]
  exact hid_ex2 e1
structure DfM (P : Program) (w : World) (K : Frag) (mg : Str → Option Value) (base : Heap) (x : Str) (k : Nat) (S : SM) : Prop where
  ex : Df P w K mg base x k (spM K S)
section
variable {X : Cx} {W : WX}
theorem mcall_li {i : Nat} {S : SM} {t : MT} {E : XK} (σ : St) (H : Hp) (Q : VK) (h : Lm X.K (mCl i S t) σ H Q) : tCall (spM X.K S) [] E (tCons (tVar i) (LmA X.K t)) σ H Q := by
  obtain ⟨H0, ps, hs, Γ, P, se, ⟨⟨l, z0, hl⟩, ht⟩, k⟩ := h
  have hv : σ[i]? = some (some (.ref l)) ∧ l ∈ adr Γ := by
    rcases hl with e | e
    · obtain ⟨v, h1, rfl, _⟩ := se.ok i _ e
      exact ⟨h1, mem_adr.mpr ⟨i, _, e, rfl⟩⟩
    · obtain ⟨v, h1, rfl, _⟩ := se.ok i _ e
      exact ⟨h1, mem_adr.mpr ⟨i, _, e, rfl⟩⟩
  refine ⟨_, hv.1, H0, ps, hs, Γ, _, se, ht, fun as Γ1 us H1 p se1 k1 r1 => ?_⟩
  show spM X.K S ((.ref l :: us) ++ []) H1 Q E
  rw [List.append_nil]
  have bs1 := se1.bs
  rw [k1.1] at bs1
  split at p
  · rename_i l1 ds e
    obtain ⟨v, h1, rfl, ws, h2, h3⟩ := se1.ok i _ e
    have el : l1 = l := by rw [hv.1] at h1; injection h1 with h1; injection h1 with h1; injection h1 with h1; exact h1.symm
    subst el
    rw [k1.1] at h3
    refine ⟨hs ++ adr Γ, l1, ds, us, as, rfl, r1, bs1, List.mem_append_right _ hv.2, ⟨ws, h2, h3⟩, S.mon _ _ _ _ (fun r z hr v H' fr ⟨ws', g1, g2⟩ ro => ?_) p⟩
    obtain ⟨se2, a2, x2⟩ := se1.step (s' := .pl l1 z) e rfl rfl rfl fr g1 ⟨rfl, ws', g1, by rw [k1.1]; exact g2⟩
    exact k _ _ v H' hr se2 (k1.trans ⟨a2, fun a o n q => fr a o (fun z => n (by rw [z]; exact mem_adr.mpr ⟨i, _, e, rfl⟩)) q⟩) (res_dat bs1.fresh ro)
  · rename_i l1 ds e
    obtain ⟨v, h1, rfl, ws, h2, h3⟩ := se1.ok i _ e
    have el : l1 = l := by rw [hv.1] at h1; injection h1 with h1; injection h1 with h1; injection h1 with h1; exact h1.symm
    subst el
    rw [k1.1] at h3
    refine ⟨hs ++ adr Γ, l1, ds, us, as, rfl, r1, bs1, List.mem_append_right _ hv.2, ⟨ws, h2, h3⟩, S.mon _ _ _ _ (fun r z hr v H' fr ⟨ws', g1, g2⟩ ro => ?_) p⟩
    obtain ⟨se2, a2, x2⟩ := se1.step (s' := .ml l1 z) e rfl rfl rfl fr g1 ⟨rfl, ws', g1, by rw [k1.1]; exact g2⟩
    exact k _ _ v H' hr se2 (k1.trans ⟨a2, fun a o n q => fr a o (fun z => n (by rw [z]; exact mem_adr.mpr ⟨i, _, e, rfl⟩)) q⟩) (res_dat bs1.fresh ro)
  · exact p.elim
theorem mx_call {i : Nat} {x y : Str} {k : Nat} {S : SM} {es : List Expr} {p p2 pos : Pos} {t : MT} (F : DfM X.prog X.w X.K X.mg X.base x k S) (hr : Room k X.A) (ha : PA X es (LmA X.K t)) (hN : X.N[i]? = some y := by rfl) (hv : Vis X.env.scope y := by first | exact Or.inl rfl | exact Or.inr (Or.inl rfl) | exact Or.inr (Or.inr rfl))
    (hd : (y == ("__debug__" : Str)) = false := by decide) (hcd : (y == ("__classdict__" : Str)) = false := by decide) (hg : Gl X x := by rfl) (hd2 : (x == ("__debug__" : Str)) = false := by decide)
    (he : starEach (.Name y p2 :: es) X.env = (false, eval (.Name y p2) X.env) :: starEach es X.env := by rfl) (hpl : (backTo pos (starEach es X.env)).any (·.1) = false := by rfl) : PE X (.Call (.Name x p) (.Name y p2 :: es) [] pos) (Lm X.K (mCl i S t)) := by
  obtain ⟨f, fd, ps, h1, h2, h3, h4⟩ := F.ex.ex
  exact pe_imp (pe_call h1 hr hg h2 h3 h4 .nil pass0 (pa_cons (pe_var hN hv hd hcd) ha he) hd2 he hpl) mcall_li
/-! ### statements -/
def sAsgM (i : Nat) (t : IT) : ST := fun E Γ => t Γ fun d Γ2 => E.nx (Γ2.set i (some (.im d)))
theorem s_asgM {i : Nat} {x : Str} {e : Expr} {t : IT} {pos pos' : Pos} (hN : X.N.Nodup) (he : PE X e (Lm X.K t)) (hi : X.N[i]? = some x := by rfl) (hx : Loc X.env.scope x := by first | exact Or.inl rfl | exact Or.inr rfl) (hs : swapsWith e (some (.Name x pos')) pos.line X.env = pure false := by rfl) (hf : X.fn x = true ∨ X.env.scope.names.lookup x = some .local := by first | exact .inl rfl | exact .inr rfl | assumption) :
    PS X (.Assign [.Name x pos'] e pos) (Ls X.K W (sAsgM i t)) := ps_imp (ps_set hN hi hx he hs hf) fun D σ H ⟨H0, ps, hs, Γ, E, se, ht, r⟩ =>
  ⟨H0, ps, hs, Γ, _, se, ht, fun d Γ2 v H2 p se2 k2 rr => r.nx _ _ H2 p (se2.set_im (by rw [k2.1]; exact rr) i) (k2.kp.trans (kp_set_im (Same.refl H2)))⟩
def sRetM (t : IT) : ST := fun E Γ => t Γ fun d Γ2 => E.rt (.d d) Γ2
theorem s_retM {e : Expr} {pos : Pos} {t : IT} (h : PE X e (Lm X.K t)) : PS X (.Return (some e) pos) (Ls X.K W (sRetM t)) := ps_imp (ps_ret h) fun D σ H ⟨H0, ps, hs, Γ, E, se, ht, r⟩ =>
  ⟨H0, ps, hs, Γ, _, se, ht, fun d Γ2 v H2 p se2 k2 rr => r.rt (.d d) Γ2 σ v H2 p se2 (rep_out rr)⟩
def sIfM (c : BMT) (t u : ST) : ST := fun E Γ => c Γ fun b Γ2 => (b = true → t E Γ2) ∧ (b = false → u E Γ2)
theorem s_ifM {c : Expr} {a b : List Stmt} {pos : Pos} {tc : BMT} {t u : ST} (hc : PT X c (LmT X.K tc)) (ha : PSs X a (Ls X.K W t)) (hb : PSs X b (Ls X.K W u)) : PS X (.If c a b pos) (Ls X.K W (sIfM tc t u)) := ps_imp (ps_if hc ha hb) fun D σ H ⟨H0, ps, hs, Γ, E, se, ht, r⟩ =>
  ⟨H0, ps, hs, Γ, _, se, ht, fun b Γ2 H2 p se2 k2 => by
    cases b with
    | true => exact iteT ⟨H0, ps, hs, Γ2, E, se2, p.1 rfl, r.from k2.kp⟩
    | false => exact iteF ⟨H0, ps, hs, Γ2, E, se2, p.2 rfl, r.from k2.kp⟩⟩
def sDropM (t : IT) : ST := fun E Γ => t Γ fun _ Γ2 => E.nx Γ2
theorem s_dropM {e : Expr} {t : IT} {pos : Pos} (he : PE X e (Lm X.K t)) (hs : swapsWith e none pos.line X.env = pure false := by rfl) : PS X (.Expr e pos) (Ls X.K W (sDropM t)) := ps_imp (ps_expr he hs) fun D σ H ⟨H0, ps, hs, Γ, E, se, ht, r⟩ =>
  ⟨H0, ps, hs, Γ, _, se, ht, fun d Γ2 v H2 p se2 k2 rr => r.nx Γ2 σ H2 p se2 k2.kp⟩
/-! ### for over a range whose end changes lists -/
def LIM (K : Frag) (t : MT) : TI := fun σ H R => ∃ (H0 : Hp) (ps hs : List Addr) (Γ : Env) (P : List D → Env → Prop), SE K H0 ps hs Γ σ H ∧ t Γ P ∧ ∀ ds Γ2 J H2, P ds Γ2 → SE K H0 ps hs Γ2 σ H2 → Km hs Γ H Γ2 H2 → Walks K (fun _ => True) (hid (hs ++ adr Γ) H2) J ds → R J H2
def iR1M (t : MT) : MT := fun Γ P => t Γ fun ds Γ2 => match ds with
  | [.int j] => -(2 ^ 62) ≤ j ∧ j < 2 ^ 62 ∧ P (rngD 0 1 j.toNat) Γ2
  | _ => False
theorem reps_ints {K : Frag} {B : Hp} : ∀ {vs : List V} {ds : List D}, Reps K B vs ds → ∀ {ns : List Int}, ds = ns.map D.int → vs = ns.map V.int
  | _, _, .nil, [], _ => rfl
  | _, _, .nil, _ :: _, h => by cases h
  | _, _, .cons a b, [], h => by cases h
  | _, _, .cons a b, n :: ns, h => by
    simp only [List.map_cons, List.cons.injEq] at h
    obtain ⟨rfl, h⟩ := h
    cases a
    rw [reps_ints b h]
    rfl
theorem ilm_r1 {tg a : Expr} {t : MT} {p pos : Pos} (hg : Gl X "range") (hm : X.mg "range" = none) (ha : PA X [a] (LmA X.K t)) (hs : starEach [a] X.env = [(false, eval a X.env)] := by rfl) : PI X tg (.Call (.Name "range" p) [a] [] pos) (LIM X.K (iR1M t)) :=
  pi_imp (pi_range1 hg hm ha hs) fun σ H R ⟨H0, ps, hs, Γ, P, se, ht, k⟩ => ⟨H0, ps, hs, Γ, _, se, ht, fun ds Γ2 vs H2 p se2 k2 r => by
    split at p
    · exact ⟨_, reps_ints r (ns := [_]) rfl, p.1, p.2.1, k _ Γ2 _ H2 p.2.2 se2 k2 walk_rng⟩
    · exact p.elim⟩
def sForM (ti : MT) (g : GT) (tb : ST) : ST := fun E Γ => ti Γ fun ds Γ2 => ForB g tb E Γ2 ds
theorem s_forM {tg iter : Expr} {body : List Stmt} {ti : MT} {g : GT} {tb : ST} {gown : List Nat} {pos : Pos} (hp : PassesOwn (model X.prog X.w) X.A X.env X.xe) (hc : X.calm = true) (hi : PI X tg iter (LIM X.K ti)) (hg : PG X tg (Lg X.K gown g)) (hb : PSs X body (Ls X.K W tb))
    (hs : ∀ x, foldedSetIterable iter X.env x = pure x := by intro _; rfl) : PS X (.For tg iter body [] pos) (Ls X.K W (sForM ti g tb)) := ps_imp (ps_for hp hc hi hg hb hs) fun D σ H ⟨H0, ps, hs, Γ, E, se, ht, r⟩ => by
  refine ⟨H0, ps, hs, Γ, _, se, ht, fun ds Γ1 J H1 hp se1 k1 w => ?_⟩
  obtain ⟨I, i0, turn, done⟩ := hp
  refine ⟨fun i m σ' H' => m = ds.length - i ∧ i ≤ ds.length ∧ ∃ Γ', SE X.K H0 ps hs Γ' σ' H' ∧ Kp hs Γ1 H1 Γ' H' ∧ I i Γ', ⟨ds.length, by simp, Nat.zero_le _, Γ1, se1, Kp.refl, i0⟩, ?_⟩
  rintro i m σ' H' ⟨rfl, hil, Γ', se', kp, hI⟩
  by_cases hlt : i < ds.length
  · refine .inr ⟨w.go i H' trivial hlt, fun σ'' H'' => ∃ Γ'', SE X.K H0 ps hs Γ'' σ'' H'' ∧ Kp hs Γ1 H1 Γ'' H'' ∧ I (i + 1) Γ'', ?_, fun x H'' hy => ?_⟩
    · rintro σ'' H'' ⟨Γ'', a, b, c⟩
      exact ⟨ds.length - (i + 1), by omega, rfl, hlt, Γ'', a, b, c⟩
    · obtain ⟨e9, d, hd, rx⟩ := w.yl i H' x H'' trivial hlt hy
      replace rx := rx (hs ++ adr Γ') se'.bs (by rw [← k1.1]; exact kp.x)
      replace kp := kp.trans (Kp.ex e9)
      replace se' := se'.mono e9
      refine ⟨H0, ps, hs, Γ', d, _, se', rx, turn i d Γ' hd hI, fun Γ2 σ2 p2 a2 se2 _ _ => ?_⟩
      have kp2 : Kp hs Γ1 H1 Γ2 H'' := by
        unfold Kp at kp ⊢
        rw [a2]
        exact kp
      exact ⟨H0, ps, hs, Γ2, _, se2, p2, ⟨fun Γ3 σ3 H3 a b c => ⟨Γ3, b, kp2.trans c, a⟩, r.rt, fun Γ3 σ3 H3 a b c => r.nx Γ3 σ3 H3 a b ((k1.kp.trans kp2).trans c), fun Γ3 σ3 H3 a b c => ⟨Γ3, b, kp2.trans c, a⟩, fun C fs Γ3 σ3 H3 d a b c x => r.ex C fs Γ3 σ3 H3 d a b ((k1.kp.trans kp2).trans c) x⟩⟩
  · have e : i = ds.length := by omega
    subst e
    exact .inl ⟨w.st _ H' trivial rfl, r.nx Γ' σ' H' (done Γ' hI) se' (k1.kp.trans kp)⟩
end
end Kb
set_option Elab.async false
set_option linter.all false
set_option maxRecDepth 100000
set_option maxHeartbeats 1000000
/-! Kb10: dicts. -/
namespace Kb
open PySem L2
set_option autoImplicit false

section
variable {κ β : Type} [DecidableEq κ]
def valG (kvs : List (κ × β)) (k : κ) : Option β := (kvs.find? fun kv => decide (kv.1 = k)).map (·.2)
def putG (kvs : List (κ × β)) (k : κ) (v : β) : List (κ × β) :=
  if (kvs.any fun kv => decide (kv.1 = k)) = true then kvs.map (fun kv => if kv.1 = k then (kv.1, v) else kv) else kvs ++ [(k, v)]
def putAll (kvs : List (κ × β)) (more : List (κ × β)) : List (κ × β) := more.foldl (fun acc kv => putG acc kv.1 kv.2) kvs
theorem valG_cons (p : κ × β) (r : List (κ × β)) (k : κ) : valG (p :: r) k = if p.1 = k then some p.2 else valG r k := by
  unfold valG
  by_cases h : p.1 = k <;> simp [List.find?_cons, h]
theorem val_rep {K : Frag} {B : Hp} : ∀ {kvs : List (κ × V)} {es : List (κ × D)} (k : κ), kvs.map (·.1) = es.map (·.1) → Reps K B (kvs.map (·.2)) (es.map (·.2)) → (valG es k = none ∧ valV kvs k = none) ∨ ∃ d v, valG es k = some d ∧ valV kvs k = some v ∧ Rep K B v d
  | [], [], k, _, _ => .inl ⟨rfl, rfl⟩
  | [], _ :: _, _, h, _ => by simp at h
  | _ :: _, [], _, h, _ => by simp at h
  | (x, v) :: r, (y, d) :: q, k, h, hr => by
    simp only [List.map_cons, List.cons.injEq] at h
    obtain ⟨rfl, h⟩ := h
    cases hr with
    | cons h1 h2 =>
      rw [valG_cons]
      by_cases z : x = k
      · exact .inr ⟨d, v, by simp [z], valV_pos z, h1⟩
      · rw [valV_neg z, if_neg z]
        exact val_rep k h h2
theorem put_rep {K : Frag} {B : Hp} {kvs : List (κ × V)} {es : List (κ × D)} (k : κ) {v : V} {d : D} (h : kvs.map (·.1) = es.map (·.1)) (hr : Reps K B (kvs.map (·.2)) (es.map (·.2))) (r : Rep K B v d) :
    (putK kvs k v).map (·.1) = (putG es k d).map (·.1) ∧ Reps K B ((putK kvs k v).map (·.2)) ((putG es k d).map (·.2)) := by
  have ha : (kvs.any fun kv => decide (kv.1 = k)) = (es.any fun kv => decide (kv.1 = k)) := by
    have e : ∀ {γ : Type} (l : List (κ × γ)), (l.any fun kv => decide (kv.1 = k)) = (l.map (·.1)).any fun x => decide (x = k) := fun l => by rw [List.any_map]; rfl
    rw [e, e, h]
  unfold putK putG
  rw [ha]
  split
  · rename_i hany
    clear ha hany
    constructor
    · have e : ∀ {γ : Type} (u : γ) (l : List (κ × γ)), (l.map (fun kv => if kv.1 = k then (kv.1, u) else kv)).map (·.1) = l.map (·.1) := fun u l => by
        rw [List.map_map]
        apply List.map_congr_left
        intro p _
        show (if p.1 = k then (p.1, u) else p).1 = p.1
        split <;> rfl
      rw [e, e, h]
    · rw [List.map_map, List.map_map]
      induction kvs generalizing es with
      | nil => cases es with
        | nil => exact .nil
        | cons _ _ => simp at h
      | cons p kvs ih => cases es with
        | nil => simp at h
        | cons q es =>
          simp only [List.map_cons, List.cons.injEq] at h
          cases hr with
          | cons h1 h2 =>
            refine .cons ?_ (ih h.2 h2)
            show Rep K B (if p.1 = k then (p.1, v) else p).2 (if q.1 = k then (q.1, d) else q).2
            rw [h.1]
            split
            · exact r
            · exact h1
  · rw [List.map_append, List.map_append, List.map_append, List.map_append, h]
    exact ⟨rfl, hr.append (.one r)⟩
theorem putG_len (es : List (κ × β)) (k : κ) (d : β) : (putG es k d).length ≤ es.length + 1 := by
  unfold putG
  split <;> simp
end
def keyD : D → Option Key
  | .int i => some (.inl i)
  | .str x => some (.inr x)
  | _ => none
theorem key_rep {K : Frag} {B H : Hp} {v : V} {d : D} {k : Key} (r : RepW K B H v d) (h : keyD d = some k) : v = kV k := by
  cases d with
  | int i => cases h; exact r.intv
  | str x => cases h; exact r.strv
  | _ => cases h
def keysD : List D → Option (List Key)
  | [] => some []
  | d :: ds => match keyD d, keysD ds with
    | some k, some ks => some (k :: ks)
    | _, _ => none
theorem keys_rep {K : Frag} {B : Hp} : ∀ {vs : List V} {ds : List D} {ks : List Key}, Reps K B vs ds → keysD ds = some ks → vs = ks.map kV
  | _, _, _, .nil, h => by cases h; rfl
  | _, _, _, .cons (d := d) (ds := ds) a b, h => by
    unfold keysD at h
    cases e1 : keyD d with
    | none => rw [e1] at h; cases h
    | some k =>
      cases e2 : keysD ds with
      | none => rw [e1, e2] at h; cases h
      | some ks =>
        rw [e1, e2] at h
        cases h
        rw [key_rep (RepW.im (H := B) a) e1, keys_rep b e2]
        rfl

section
variable {X : Cx} {W : WX}
/-! ### d[k], k in d -/
def xDGet (td tk : XT) : XT := fun Γ P => td Γ fun d => tk Γ fun kd => match d with
  | .dic es => (match keyD kd with
    | some k => (match valG es k with
      | some z => P z
      | none => False)
    | none => False)
  | _ => False
theorem px_dget {k : Nat} {o i : Expr} {pos : Pos} {td tk : XT} (hr : Room k X.A) (ho : PE X o (Lb X.K td)) (hi : PE X i (Lb X.K tk)) (hs : NoSl i := by exact fun _ _ => rfl) : PE X (.Subscript o i pos) (Li X.K (xDGet td tk)) :=
  pe_imp (pe_dget (hu_of hr) ho hi hs) fun σ H Q ⟨H0, ps, hs, Γ, P, se, ht, k⟩ => ⟨H0, ps, hs, Γ, _, se, ht, fun d x H1 p1 e1 r1 => ⟨H0, ps, hs, Γ, _, se.mono e1, p1, fun kd y H2 p2 e2 r2 => by
    split at p2
    · rename_i es
      obtain ⟨a, kvs, rfl, h1, h2, h3⟩ := r1.dict hid_ex
      cases ek : keyD kd with
      | none => rw [ek] at p2; exact p2.elim
      | some key =>
        rw [ek] at p2
        cases key_rep r2 ek
        rcases val_rep key h2 h3 with ⟨z1, _⟩ | ⟨z, v, z1, z2, z3⟩
        · dsimp only at p2; rw [z1] at p2; exact p2.elim
        · dsimp only at p2
          rw [z1] at p2
          have g := DGet.k (k := key) (e2 _ _ h1)
          rw [z2] at g
          exact ⟨a, v, rfl, g, k z v H2 p2 (e1.trans e2) (z3.mono (hid_ex2 e2))⟩
    · exact p2.elim⟩⟩
def fDIn (neg : Bool) : F2 := fun kd d P => match d with
  | .dic es => (match keyD kd with
    | some k => P (.bl (if neg then !(valG es k).isSome else (valG es k).isSome))
    | none => False)
  | _ => False
theorem din_of {σ : St} {H : Hp} {Q : VK} {ty td : XT} (h : Li X.K (x2 (fDIn false) ty td) σ H Q) : tDIn (Lb X.K ty) (Lb X.K td) σ H Q := by
  obtain ⟨H0, ps, hs, Γ, P, se, ht, k⟩ := h
  refine ⟨H0, ps, hs, Γ, _, se, ht, fun kd y H1 p1 e1 r1 => ⟨H0, ps, hs, Γ, _, se.mono e1, p1, fun d x H2 p2 e2 r2 => ?_⟩⟩
  unfold fDIn at p2
  split at p2
  · rename_i es
    obtain ⟨a, kvs, rfl, h1, h2, h3⟩ := r2.dict hid_ex
    cases ek : keyD kd with
    | none => rw [ek] at p2; exact p2.elim
    | some key =>
      rw [ek] at p2
      cases key_rep r1 ek
      refine ⟨a, _, rfl, DGet.k (k := key) h1, ?_⟩
      have e : (valV kvs key).isSome = (valG es key).isSome := by
        rcases val_rep key h2 h3 with ⟨z1, z2⟩ | ⟨z, v, z1, z2, _⟩ <;> rw [z1, z2] <;> rfl
      rw [e]
      exact k _ _ H2 p2 (e1.trans e2) (.bl _)
  · exact p2.elim
theorem dnin_of {σ : St} {H : Hp} {Q : VK} {ty td : XT} (h : Li X.K (x2 (fDIn true) ty td) σ H Q) : tDNotIn (Lb X.K ty) (Lb X.K td) σ H Q := by
  obtain ⟨H0, ps, hs, Γ, P, se, ht, k⟩ := h
  refine ⟨H0, ps, hs, Γ, _, se, ht, fun kd y H1 p1 e1 r1 => ⟨H0, ps, hs, Γ, _, se.mono e1, p1, fun d x H2 p2 e2 r2 => ?_⟩⟩
  unfold fDIn at p2
  split at p2
  · rename_i es
    obtain ⟨a, kvs, rfl, h1, h2, h3⟩ := r2.dict hid_ex
    cases ek : keyD kd with
    | none => rw [ek] at p2; exact p2.elim
    | some key =>
      rw [ek] at p2
      cases key_rep r1 ek
      refine ⟨a, _, rfl, DGet.k (k := key) h1, ?_⟩
      have e : (valV kvs key).isSome = (valG es key).isSome := by
        rcases val_rep key h2 h3 with ⟨z1, z2⟩ | ⟨z, v, z1, z2, _⟩ <;> rw [z1, z2] <;> rfl
      rw [e]
      exact k _ _ H2 p2 (e1.trans e2) (.bl _)
  · exact p2.elim
section
variable {a b : Expr} {pos : Pos} {ta tb : XT} {k : Nat}
theorem li_of_lt {f : F2} {ta tb : XT} (σ : St) (H : Hp) (Q : Bool → Hp → Prop) (h : Lt X.K (b2 f ta tb) σ H Q) : Li X.K (x2 f ta tb) σ H fun x H1 => ∃ c, x = .bl c ∧ Q c H1 := by
  obtain ⟨H0, ps, hs, Γ, P, se, ht, k⟩ := h
  exact ⟨H0, ps, hs, Γ, _, se, ht, fun d v H2 p e r => by
    cases d with
    | bl c =>
      cases r
      exact ⟨c, rfl, k c H2 p e⟩
    | _ => exact p.elim⟩
theorem px_din (hr : Room k X.A) (ha : PE X a (Lb X.K ta)) (hb : PE X b (Lb X.K tb)) (hm : behindInMarks .In b = false := by rfl) : PE X (.Compare a [.In] [b] pos) (Li X.K (x2 (fDIn false) ta tb)) := pe_imp (pe_cmp (pc_din (hu_of hr) ha hb) hm) fun _ _ _ h => din_of h
theorem px_dnin (hr : Room k X.A) (ha : PE X a (Lb X.K ta)) (hb : PE X b (Lb X.K tb)) (hm : behindInMarks .NotIn b = false := by rfl) : PE X (.Compare a [.NotIn] [b] pos) (Li X.K (x2 (fDIn true) ta tb)) := pe_imp (pe_cmp (pc_dnotin (hu_of hr) ha hb) hm) fun _ _ _ h => dnin_of h
theorem tx_din (hr : Room k X.A) (ha : PE X a (Lb X.K ta)) (hb : PE X b (Lb X.K tb)) (hm : behindInMarks .In b = false := by rfl) : PT X (.Compare a [.In] [b] pos) (Lt X.K (b2 (fDIn false) ta tb)) := pt_imp (pt_cmp (pc_din (hu_of hr) ha hb) hm) fun σ H Q h => din_of (li_of_lt σ H Q h)
theorem tx_dnin (hr : Room k X.A) (ha : PE X a (Lb X.K ta)) (hb : PE X b (Lb X.K tb)) (hm : behindInMarks .NotIn b = false := by rfl) : PT X (.Compare a [.NotIn] [b] pos) (Lt X.K (b2 (fDIn true) ta tb)) := pt_imp (pt_cmp (pc_dnotin (hu_of hr) ha hb) hm) fun σ H Q h => dnin_of (li_of_lt σ H Q h)
end
/-! ### d[a, b] of a dict by tuples (the key displayed) -/
def xDGetT (td : XT) (tk : FT) : XT := fun Γ P => td Γ fun d => tk Γ fun kds => kds.length ≤ sizeLine ∧ match d with
  | .dit es => (match keysD kds with
    | some k => (match valG es k with
      | some z => P z
      | none => False)
    | none => False)
  | _ => False
theorem px_dgetT {k : Nat} {o : Expr} {es : List Expr} {x1 : Nat} {pos p2 : Pos} {td : XT} {tk : FT} (hr : Room k X.A) (ho : PE X o (Lb X.K td)) (hi : PA X es (LaS X.K tk)) (hs : NoSl (.Tuple es x1 p2) := by exact fun _ _ => rfl) : PE X (.Subscript o (.Tuple es x1 p2) pos) (Li X.K (xDGetT td tk)) :=
  pe_imp (pe_dget (hu_of hr) ho (pe_tup hi) hs) fun σ H Q ⟨H0, ps, hs, Γ, P, se, ht, k⟩ => ⟨H0, ps, hs, Γ, _, se, ht, fun d x H1 p1 e1 r1 => ⟨H0, ps, hs, Γ, _, se.mono e1, p1, fun kds ys H2 p2 e2 r2 => ⟨by rw [r2.length]; exact p2.1, fun q n => by
    have p2 := p2.2
    split at p2
    · rename_i es
      obtain ⟨a, kvs, rfl, h1, h2, h3⟩ := r1.dictT hid_ex
      cases ek : keysD kds with
      | none => rw [ek] at p2; exact p2.elim
      | some key =>
        rw [ek] at p2
        cases keys_rep r2 ek
        have em : Ex H1 (upd H2 q (.tup (key.map kV))) := e2.trans (Ex.new n)
        rcases val_rep key h2 h3 with ⟨z1, _⟩ | ⟨z, v, z1, z2, z3⟩
        · dsimp only at p2; rw [z1] at p2; exact p2.elim
        · dsimp only at p2
          rw [z1] at p2
          have g := DGet.t (k := key) (b := q) (em _ _ h1) upd_same
          rw [z2] at g
          exact ⟨a, v, rfl, g, k z v _ p2 (e1.trans em) (z3.mono (hid_ex2 em))⟩
    · exact p2.elim⟩⟩⟩
/-! ### d[k] = v, d of one's own -/
def sDPu (i : Nat) (te tk : XT) : ST := fun E Γ => te Γ fun d => match Γ[i]? with
  | some (some (.md l es)) => tk Γ fun kd => es.length < sizeLine ∧ (match keyD kd with
    | some k => E.nx (Γ.set i (some (.md l (putG es k d))))
    | none => False)
  | _ => False
theorem keys_len {κ : Type} {kvs : List (κ × V)} {es : List (κ × D)} (h : kvs.map (·.1) = es.map (·.1)) : kvs.length = es.length := by
  have := congrArg List.length h
  simpa using this
theorem s_dpu (i : Nat) {k : Nat} {x : Str} {e kx : Expr} {te tk : XT} {npos pos' pos : Pos} (hr : Room k X.A) (he : PE X e (Li X.K te)) (hk : PE X kx (Lb X.K tk)) (hN : X.N[i]? = some x := by rfl) (hv : Vis X.env.scope x := by first | exact Or.inl rfl | exact Or.inr (Or.inl rfl) | exact Or.inr (Or.inr rfl)) (hd : (x == ("__debug__" : Str)) = false := by decide) (hcd : (x == ("__classdict__" : Str)) = false := by decide)
    (hs : swapsWith e (some (.Subscript (.Name x npos) kx pos')) pos.line X.env = pure false := by rfl) : PS X (.Assign [.Subscript (.Name x npos) kx pos'] e pos) (Ls X.K W (sDPu i te tk)) :=
  ps_imp (ps_dput (hu_of hr) (pe_var hN hv hd hcd) hk he hs) fun D σ H ⟨H0, ps, hs, Γ, E, se, ht, r⟩ => by
    refine ⟨H0, ps, hs, Γ, _, se, ht, fun d y H2 p e2 rr => ?_⟩
    have se2 := se.mono e2
    split at p
    · rename_i l es e
      obtain ⟨v, h1, rfl, kvs, h2, h3, h4⟩ := se2.ok i _ e
      refine ⟨_, h1, H0, ps, hs, Γ, _, se2, p, fun kd u H3 q e3 r3 => ?_⟩
      obtain ⟨q0, q⟩ := q
      cases ek : keyD kd with
      | none => rw [ek] at q; exact q.elim
      | some key =>
        rw [ek] at q
        cases key_rep r3 ek
        have hl : l ∈ adr Γ := mem_adr.mpr ⟨i, _, e, rfl⟩
        obtain ⟨pr1, pr2⟩ := put_rep key h3 (h4.mono (hid_ex2 e3)) (rr.mono (hid_ex2 e3))
        obtain ⟨se', ha⟩ := (se2.mono e3).write (s' := .md l (putG es key d)) (o := .dK (putK kvs key y)) e rfl rfl rfl ⟨rfl, _, upd_same, pr1, pr2⟩
        exact ⟨l, _, rfl, DPut.k (e3 _ _ h2) (by rw [keys_len h3]; exact q0), r.nx _ σ _ q se' ((Kp.ex (e2.trans e3)).trans (kp_write hl ha))⟩
    · exact p.elim
def sDPuT (i : Nat) (te : XT) (tk : FT) : ST := fun E Γ => te Γ fun d => match Γ[i]? with
  | some (some (.mt l es)) => tk Γ fun kds => kds.length ≤ sizeLine ∧ es.length < sizeLine ∧ (match keysD kds with
    | some k => E.nx (Γ.set i (some (.mt l (putG es k d))))
    | none => False)
  | _ => False
theorem s_dpuT (i : Nat) {k : Nat} {x : Str} {e : Expr} {kxs : List Expr} {x1 : Nat} {te : XT} {tk : FT} {npos pos' pos p2 : Pos} (hr : Room k X.A) (he : PE X e (Li X.K te)) (hk : PA X kxs (LaS X.K tk)) (hN : X.N[i]? = some x := by rfl) (hv : Vis X.env.scope x := by first | exact Or.inl rfl | exact Or.inr (Or.inl rfl) | exact Or.inr (Or.inr rfl)) (hd : (x == ("__debug__" : Str)) = false := by decide) (hcd : (x == ("__classdict__" : Str)) = false := by decide)
    (hs : swapsWith e (some (.Subscript (.Name x npos) (.Tuple kxs x1 p2) pos')) pos.line X.env = pure false := by rfl) : PS X (.Assign [.Subscript (.Name x npos) (.Tuple kxs x1 p2) pos'] e pos) (Ls X.K W (sDPuT i te tk)) :=
  ps_imp (ps_dput (hu_of hr) (pe_var hN hv hd hcd) (pe_tup hk) he hs) fun D σ H ⟨H0, ps, hs, Γ, E, se, ht, r⟩ => by
    refine ⟨H0, ps, hs, Γ, _, se, ht, fun d y H2 p e2 rr => ?_⟩
    have se2 := se.mono e2
    split at p
    · rename_i l es e
      obtain ⟨v, h1, rfl, kvs, h2, h3, h4⟩ := se2.ok i _ e
      refine ⟨_, h1, H0, ps, hs, Γ, _, se2, p, fun kds us H3 q e3 r3 => ⟨by rw [r3.length]; exact q.1, fun t n => ?_⟩⟩
      obtain ⟨_, q0, q⟩ := q
      cases ek : keysD kds with
      | none => rw [ek] at q; exact q.elim
      | some key =>
        rw [ek] at q
        cases keys_rep r3 ek
        have e4 : Ex H2 (upd H3 t (.tup (key.map kV))) := e3.trans (Ex.new n)
        have hl : l ∈ adr Γ := mem_adr.mpr ⟨i, _, e, rfl⟩
        obtain ⟨pr1, pr2⟩ := put_rep key h3 (h4.mono (hid_ex2 e4)) (rr.mono (hid_ex2 e4))
        obtain ⟨se', ha⟩ := (se2.mono e4).write (s' := .mt l (putG es key d)) (o := .dT (putK kvs key y)) e rfl rfl rfl ⟨rfl, _, upd_same, pr1, pr2⟩
        exact ⟨l, _, rfl, DPut.t (e4 _ _ h2) upd_same (by rw [keys_len h3]; exact q0), r.nx _ σ _ q se' ((Kp.ex (e2.trans e4)).trans (kp_write hl ha))⟩
    · exact p.elim
/-! ### d = {}, d = {k: v} -/
def sDNew (i : Nat) : ST := fun E Γ => ∀ l, l ∉ adr Γ → E.nx (Γ.set i (some (.md l [])))
def sDNewT (i : Nat) : ST := fun E Γ => ∀ l, l ∉ adr Γ → E.nx (Γ.set i (some (.mt l [])))
section
variable {i : Nat} {x : Str} {pos pos' p2 : Pos}
theorem s_dnew (hN : X.N.Nodup) (hi : X.N[i]? = some x := by rfl) (hx : Loc X.env.scope x := by first | exact Or.inl rfl | exact Or.inr rfl) (hs : swapsWith (.Dict [] [] p2) (some (.Name x pos')) pos.line X.env = pure false := by rfl) (hf : X.fn x = true ∨ X.env.scope.names.lookup x = some .local := by first | exact .inl rfl | exact .inr rfl | assumption) :
    PS X (.Assign [.Name x pos'] (.Dict [] [] p2) pos) (Ls X.K W (sDNew i)) := ps_imp (ps_set hN hi hx pe_dnewK hs hf) fun D σ H ⟨H0, ps, hs, Γ, E, se, ht, r⟩ => fun l n =>
  r.nx _ _ _ (ht l (se.fresh n)) (se.set_own n (Ex.new n) (s := .md l []) rfl rfl ⟨rfl, [], upd_same, rfl, .nil⟩ i) (kp_set_own n (Ex.new n) rfl)
theorem s_dnewT (hN : X.N.Nodup) (hi : X.N[i]? = some x := by rfl) (hx : Loc X.env.scope x := by first | exact Or.inl rfl | exact Or.inr rfl) (hs : swapsWith (.Dict [] [] p2) (some (.Name x pos')) pos.line X.env = pure false := by rfl) (hf : X.fn x = true ∨ X.env.scope.names.lookup x = some .local := by first | exact .inl rfl | exact .inr rfl | assumption) :
    PS X (.Assign [.Name x pos'] (.Dict [] [] p2) pos) (Ls X.K W (sDNewT i)) := ps_imp (ps_set hN hi hx pe_dnewT hs hf) fun D σ H ⟨H0, ps, hs, Γ, E, se, ht, r⟩ => fun l n =>
  r.nx _ _ _ (ht l (se.fresh n)) (se.set_own n (Ex.new n) (s := .mt l []) rfl rfl ⟨rfl, [], upd_same, rfl, .nil⟩ i) (kp_set_own n (Ex.new n) rfl)
def sDOne (i : Nat) (tk tv : XT) : ST := fun E Γ => tk Γ fun kd => tv Γ fun d => match keyD kd with
  | some k => ∀ l, l ∉ adr Γ → E.nx (Γ.set i (some (.md l [(k, d)])))
  | none => False
theorem s_done {k v : Expr} {tk tv : XT} (hN : X.N.Nodup) (hk : PE X k (Lb X.K tk)) (hv : PE X v (Li X.K tv)) (hi : X.N[i]? = some x := by rfl) (hx : Loc X.env.scope x := by first | exact Or.inl rfl | exact Or.inr rfl) (hs : swapsWith (.Dict [some k] [v] p2) (some (.Name x pos')) pos.line X.env = pure false := by rfl) (hf : X.fn x = true ∨ X.env.scope.names.lookup x = some .local := by first | exact .inl rfl | exact .inr rfl | assumption) :
    PS X (.Assign [.Name x pos'] (.Dict [some k] [v] p2) pos) (Ls X.K W (sDOne i tk tv)) := ps_imp (ps_set hN hi hx (pe_disp (pps_cons hk hv pps_nil) rfl rfl (by intro z; cases z) (Nat.le_of_ble_eq_true rfl)) hs hf) fun D σ H ⟨H0, ps, hs, Γ, E, se, ht, r⟩ => fun l n => by
  have e0 : Ex H (upd H l (.dK [])) := Ex.new n
  have se0 : SE X.K H0 ps (l :: hs) Γ σ (upd H l (.dK [])) := se.hide n e0 (by rw [upd_same]; intro z; cases z)
  have hpl : ∀ p ∈ ps, p ∈ l :: hs := fun p m => List.mem_cons_of_mem _ (se.psub p m)
  refine ⟨H0, ps, l :: hs, Γ, _, se0, ht, fun kd y H1 p1 e1 r1 => ⟨H0, ps, l :: hs, Γ, _, se0.mono e1, p1, fun d z H2 p2 e2 r2 => ?_⟩⟩
  cases ek : keyD kd with
  | none => rw [ek] at p2; exact p2.elim
  | some key =>
    rw [ek] at p2
    cases key_rep r1 ek
    have hl2 : H2 l = some (.dK []) := e2 _ _ (e1 _ _ upd_same)
    refine ⟨hl2, [(key, z)], rfl, Nat.le_of_ble_eq_true rfl, ?_⟩
    have em : Ex H (upd H2 l (.dK [(key, z)])) := fun a o q => by
      rw [upd_ne (ne_of_none q n)]
      exact e2 _ _ (e1 _ _ (e0 _ _ q))
    refine r.nx _ _ _ (p2 l (se.fresh n)) (se.set_own n em (s := .md l [(key, d)]) rfl rfl ⟨rfl, [(key, z)], upd_same, rfl, .one ?_⟩ i) (kp_set_own n em rfl)
    rw [hid_upd List.mem_cons_self]
    exact r2
end
/-! ### dict comprehensions -/
def DcB (Γ : Env) (g : GT) (tt : BT) (tk tv : XT) (vs : List Nat) (ds : List D) (P : D → Prop) : Prop := ds.length ≤ sizeLine ∧ adr (wipeE Γ vs) = adr Γ ∧
  ∃ zs : List (Option (Key × D)), zs.length = ds.length ∧ (∀ (i : Nat) (d : D) (o : Option (Key × D)), ds[i]? = some d → zs[i]? = some o → g d (wipeE Γ vs) fun Γ2 => tt Γ2 fun b => (b = true → tk Γ2 fun kd => tv Γ2 fun z => ∃ k, keyD kd = some k ∧ o = some (k, z)) ∧ (b = false → o = none)) ∧ P (.dic (putAll [] (zs.filterMap id)))
def xDc (ti : FT) (g : GT) (tt : BT) (tk tv : XT) (vs : List Nat) : XT := fun Γ P => ti Γ fun ds => DcB Γ g tt tk tv vs ds P
theorem dcb {α : Type} {Γ : Env} {g : GT} {tt : BT} {tk tv : XT} {vs : List Nat} {P : D → Prop} {xs : List α} {enc : α → D} (o : α → Option (Key × D)) (hl : xs.length ≤ sizeLine)
    (hb : ∀ x ∈ xs, g (enc x) (wipeE Γ vs) fun Γ2 => tt Γ2 fun b => (b = true → tk Γ2 fun kd => tv Γ2 fun z => ∃ k, keyD kd = some k ∧ o x = some (k, z)) ∧ (b = false → o x = none)) (hP : P (.dic (putAll [] (xs.filterMap o)))) (ha : adr (wipeE Γ vs) = adr Γ := by rfl) : DcB Γ g tt tk tv vs (xs.map enc) P := by
  refine ⟨by rw [List.length_map]; exact hl, ha, xs.map o, by rw [List.length_map, List.length_map], fun i d z h1 h2 => ?_, ?_⟩
  · rw [List.getElem?_map] at h1 h2
    cases e : xs[i]? with
    | none => rw [e] at h1; cases h1
    | some x =>
      rw [e] at h1 h2
      cases h1
      cases h2
      exact hb x (List.mem_iff_getElem?.mpr ⟨i, e⟩)
  · rw [List.filterMap_map]
    exact hP
theorem dc_li {vs : List Nat} {ti : FT} {g : GT} {tt : BT} {tk tv : XT} {gown : List Nat} (hsub : ∀ j ∈ gown, j ∈ vs) {K : Frag} (σ : St) (H : Hp) (Q : VK) (h : Li K (xDc ti g tt tk tv vs) σ H Q) : tDc (LB K ti) (Lg K gown g) (Lt K tt) (Li K tk) (Li K tv) vs σ H Q := by
  obtain ⟨H0, ps, hs, Γ, P, se, hti, k⟩ := h
  refine ⟨H0, ps, hs, Γ, _, se, hti, fun ds J H1 hp e1 w => fun Dl nD => ?_⟩
  obtain ⟨hlen, hadr, zs, hzl, hf, hP⟩ := hp
  have se1 := se.mono e1
  have nH : H Dl = none := fresh_of e1 nD
  have nb : Dl ∉ hs ++ adr Γ := se1.bs.new nD
  refine ⟨fun i m H' => m = ds.length - i ∧ i ≤ ds.length ∧ Ex H1 H' ∧ ∃ acc es, H' Dl = some (.dK acc) ∧ es.length ≤ i ∧ es = putAll [] ((zs.take i).filterMap id) ∧ acc.map (·.1) = es.map (·.1) ∧ Reps K (hid (Dl :: (hs ++ adr Γ)) H') (acc.map (·.2)) (es.map (·.2)),
    ⟨ds.length, by simp, Nat.zero_le _, Ex.new nD, [], [], upd_same, Nat.le_refl _, rfl, rfl, .nil⟩, ?_⟩
  rintro i m H' ⟨rfl, hil, eH, acc, es, hD, hacc, hes, hk1, racc⟩
  by_cases hlt : i < ds.length
  · refine .inr ⟨w.go i H' eH hlt, fun H'' => Ex H1 H'' ∧ ∃ acc es, H'' Dl = some (.dK acc) ∧ es.length ≤ i + 1 ∧ es = putAll [] ((zs.take (i + 1)).filterMap id) ∧ acc.map (·.1) = es.map (·.1) ∧ Reps K (hid (Dl :: (hs ++ adr Γ)) H'') (acc.map (·.2)) (es.map (·.2)), ?_, ?_⟩
    · rintro H'' ⟨e2, acc', es', a, b, c, d, e⟩
      exact ⟨ds.length - (i + 1), by omega, rfl, hlt, e2, acc', es', a, b, c, d, e⟩
    · intro x H'' hy
      obtain ⟨e9, d, hd, rx⟩ := w.yl i H' x H'' eH hlt hy
      replace rx := rx (Dl :: (hs ++ adr Γ)) (bs_cons (by rw [hD]; intro z; cases z) (se1.bs.mono eH)) (hid_fresh nD eH)
      replace eH := eH.trans e9
      replace hD := e9 _ _ hD
      replace racc := racc.mono (hid_ex2 e9)
      have hzi : i < zs.length := by omega
      obtain ⟨oz, hoz⟩ : ∃ oz, zs[i]? = some oz := ⟨_, List.getElem?_eq_getElem hzi⟩
      have seI : SE K H0 ps (Dl :: hs) (wipeE Γ vs) (wipe σ vs) H'' := (se1.hide nD eH (by rw [hD]; intro z; cases z)).wipe _
      have htk : zs.take (i + 1) = zs.take i ++ [oz] := by
        rw [List.take_add_one, hoz]; rfl
      refine ⟨H0, ps, Dl :: hs, wipeE Γ vs, d, _, seI, ?_, hf i d oz hd hoz, fun Γ2 σ2 p2 a2 se2 l2 ag2 => ?_⟩
      · rw [hadr]
        exact rx
      · refine ⟨wipe_eq l2 ag2 hsub, H0, ps, Dl :: hs, Γ2, _, se2, p2, fun b H3 hb e3 => ?_⟩
        have hD3 : H3 Dl = some (.dK acc) := e3 _ _ hD
        cases b with
        | true =>
          refine iteT ⟨H0, ps, Dl :: hs, Γ2, _, se2.mono e3, hb.1 rfl, fun kd y H4 hz e4 r4 => ⟨H0, ps, Dl :: hs, Γ2, _, (se2.mono e3).mono e4, hz, fun dz u H5 ho e5 r5 => ?_⟩⟩
          obtain ⟨key, ek, rfl⟩ := ho
          have hD5 : H5 Dl = some (.dK acc) := e5 _ _ (e4 _ _ hD3)
          rw [a2, hadr] at r5
          cases key_rep (RepW.im (H := H4) r4) ek
          obtain ⟨pr1, pr2⟩ := put_rep key hk1 (racc.mono (hid_ex2 ((e3.trans e4).trans e5))) r5
          refine ⟨acc, key, rfl, hD5, by rw [keys_len hk1]; omega, ?_, _, putG es key dz, upd_same, ?_, ?_, pr1, ?_⟩
          · intro a o q
            rw [upd_ne (ne_of_none q nD)]
            exact e5 _ _ (e4 _ _ (e3 _ _ (eH _ _ q)))
          · have := putG_len es key dz
            omega
          · rw [htk, List.filterMap_append]
            have ez : [some (key, dz)].filterMap id = [(key, dz)] := by simp
            rw [ez]
            unfold putAll
            rw [List.foldl_append]
            show _ = putG (putAll [] ((zs.take i).filterMap id)) key dz
            rw [← hes]
          · rw [hid_upd List.mem_cons_self]
            exact pr2
        | false =>
          refine iteF ⟨fun a o q => e3 _ _ (eH _ _ q), acc, es, hD3, by omega, ?_, hk1, racc.mono (hid_ex2 e3)⟩
          rw [htk, List.filterMap_append]
          have ez : [oz].filterMap id = [] := by simp [hb.2 rfl]
          rw [ez, List.append_nil]
          exact hes
  · have e : i = ds.length := by omega
    subst e
    refine .inl ⟨w.st _ H' eH rfl, ?_⟩
    rw [← hzl, List.take_length] at hes
    rw [← hes] at hP
    exact k _ _ H' hP (e1.trans eH) (.dic (by rw [hid_ni nb]; exact hD) hk1 (racc.mono (hid_sub fun a m => List.mem_cons_of_mem _ m)))
theorem px_dc {kx vx tg iter : Expr} {ifs : List Expr} {scope : Scope} {own : List (Str × Nat)} {pos : Pos} {ti : FT} {g : GT} {tt : BT} {tk tv : XT} {gown : List Nat} (hc : X.calm = true) (hN : X.N.Nodup) (hi : PI X tg iter (LB X.K ti)) (ok : BlkOk X.N X.env.scope scope own)
    (hg : ∀ (s : Shared) (H : Hp) (C : Addr) (cl : List (Str × Addr)) (fp : List Addr), PG (X.blk s H scope (compEnvC scope cl C X.env) fp) tg (Lg X.K gown g)) (ht : ∀ (s : Shared) (H : Hp) (C : Addr) (cl : List (Str × Addr)) (fp : List Addr), PTs (X.blk s H scope (compEnvC scope cl C X.env) fp) ifs (Lt X.K tt))
    (hk : ∀ (s : Shared) (H : Hp) (C : Addr) (cl : List (Str × Addr)) (fp : List Addr), PE (X.blk s H scope (compEnvC scope cl C X.env) fp) kx (Li X.K tk))
    (he : ∀ (s : Shared) (H : Hp) (C : Addr) (cl : List (Str × Addr)) (fp : List Addr), PE (X.blk s H scope (compEnvC scope cl C X.env) fp) vx (Li X.K tv)) (hsub : ∀ j ∈ gown, j ∈ own.map (·.2) := by decide) (hs : ∀ x, foldedSetIterable iter X.env x = pure x := by intro _; rfl) :
    PE X (.DictComp kx vx [⟨tg, iter, ifs, 0⟩] scope pos) (Li X.K (xDc ti g tt tk tv (own.map (·.2)))) :=
  pe_imp (pe_dc hc hN hi ok hg ht hk he hs) (dc_li hsub)
end
end Kb
set_option Elab.async false
set_option linter.all false
set_option maxRecDepth 100000
set_option maxHeartbeats 1000000
/-! Kb11: instances made, chains, min, index, sorted(set(..)). -/
namespace Kb
open PySem L2
set_option autoImplicit false

/-! ### __init__: the instance is the caller's; its fields come one after another -/
structure SI where
  S : List D → (List (Str × D) → Prop) → Prop
  mon : ∀ as (R R' : List (Str × D) → Prop), (∀ r, R r → R' r) → S as R → S as R'
def spcI {α : Type} (args : α → List D) (pre : α → Prop) (post : α → List (Str × D)) : SI :=
  ⟨fun as R => ∃ x, as = args x ∧ pre x ∧ R (post x), fun as R R' h ⟨x, b, c, d⟩ => ⟨x, b, c, h _ d⟩⟩
def spI (K : Frag) (C : Addr) (S : SI) : Sp := fun vs H Q _ => ∃ hs l dx us as, vs = .ref l :: us ∧ Reps K (hid hs H) us as ∧ Bs hs H ∧ l ∈ hs ∧ H l = some (.ins C dx []) ∧
  S.S as fun fs => ∀ H', (∀ a o, a ≠ l → H a = some o → H' a = some o) → (∃ dx' fvs, H' l = some (.ins C dx' fvs) ∧ fvs.map (·.1) = fs.map (·.1) ∧ Reps K (hid hs H') (fvs.map (·.2)) (fs.map (·.2))) → Q .non H'
/-- a state whose first slot is an object of the caller's -/
theorem se_first {K : Frag} {hs : List Addr} {H : Hp} {l : Addr} {us : List V} {as : List D} {s0 : Slot} {n : Nat} (a : Reps K (hid hs H) us as) (bb : Bs hs H) (hl : l ∈ hs) (h0 : s0.ad = some l) (hp : s0.par = true)
    (ok : SlotOk K (hid hs H) (hid [l] H) H (.ref l) s0) : SE K H [l] hs (some s0 :: envD as n) (some (.ref l) :: (us.map some ++ List.replicate (n - us.length) none)) H := by
  have hadr : adr (some s0 :: envD as n) = [l] := by
    rw [adr_cons, adr_envD]
    show (match s0.ad with
      | some a => [a]
      | none => []) = [l]
    rw [h0]
  have hB : hid (hs ++ [l]) H = hid hs H := by
    funext b
    by_cases hb : b ∈ hs
    · rw [hid_in hb, hid_in (List.mem_append_left _ hb)]
    · rw [hid_ni hb, hid_ni (fun m => (List.mem_append.mp m).elim hb fun z => hb (by rw [List.mem_singleton.mp z]; exact hl))]
  refine ⟨by simp [envD, a.length], fun i s e => ?_, by rw [hadr]; simp, fun b o _ q => q, fun i s b e z => ?_, fun b m => (by rw [List.mem_singleton.mp m]; exact hl), bb⟩
  · rw [hadr, hB]
    cases i with
    | zero =>
      simp at e
      subst e
      exact ⟨_, rfl, ok⟩
    | succ i =>
      have e' : (envD as n)[i]? = some (some s) := by simpa using e
      have hi : i < as.length := by
        by_cases z : i < as.length
        · exact z
        · exfalso
          unfold envD at e'
          rw [List.getElem?_append_right (by simp; omega)] at e'
          have q := (List.mem_replicate.mp (List.mem_iff_getElem?.mpr ⟨_, e'⟩)).2
          cases q
      obtain ⟨d, hd⟩ : ∃ d, as[i]? = some d := ⟨_, List.getElem?_eq_getElem hi⟩
      have es : s = .im d := by
        unfold envD at e'
        rw [List.getElem?_append_left (by simpa using hi), List.getElem?_map, hd] at e'
        simp at e'
        exact e'.symm
      subst es
      obtain ⟨v, g1, g2⟩ := a.get' hd
      refine ⟨v, ?_, g2⟩
      have hi2 : i < us.length := by rw [a.length]; exact hi
      simp only [List.getElem?_cons_succ]
      rw [List.getElem?_append_left (by simpa using hi2), List.getElem?_map, g1]
      rfl
  · cases i with
    | zero =>
      simp at e
      subst e
      have q : some l = some b := h0.symm.trans z
      cases q
      exact ⟨fun _ => List.mem_singleton.mpr rfl, fun q => (by rw [hp] at q; cases q)⟩
    | succ i =>
      have m : b ∈ adr (envD as n) := mem_adr.mpr ⟨i, s, by simpa using e, z⟩
      rw [adr_envD] at m
      cases m
theorem putF_new : ∀ {fs : List (Str × V)} {f : Str} {v : V}, f ∉ fs.map (·.1) → putF f v fs = fs ++ [(f, v)]
  | [], _, _, _ => rfl
  | (g, x) :: r, f, v, h => by
    have h1 : ¬ g = f := fun z => h (by rw [z]; exact List.mem_cons_self)
    show (if g = f then (g, v) :: r else (g, x) :: putF f v r) = _
    rw [if_neg h1, putF_new (fun m => h (List.mem_cons_of_mem _ m))]
    rfl
section
variable {X : Cx} {W : WX}
/-- self.f = e -/
def sFldI (i : Nat) (C : Addr) (f : Str) (t : XT) : ST := fun E Γ => t Γ fun d => match Γ[i]? with
  | some (some (.mi l C' fs)) => C' = C ∧ f ∉ fs.map (·.1) ∧ fs.length < 1000 ∧ E.nx (Γ.set i (some (.mi l C' (fs ++ [(f, d)]))))
  | _ => False
theorem s_fld (i : Nat) {x f : Str} {e : Expr} {t : XT} {C : Addr} {npos pos' pos : Pos} (c : Cls X.K C) (n : NoAttr X.K C f) (he : PE X e (Li X.K t)) (hN : X.N[i]? = some x := by rfl) (hv : Vis X.env.scope x := by first | exact Or.inl rfl | exact Or.inr (Or.inl rfl) | exact Or.inr (Or.inr rfl)) (hd : (x == ("__debug__" : Str)) = false := by decide) (hcd : (x == ("__classdict__" : Str)) = false := by decide)
    (hs : swapsWith e (some (.Attribute (.Name x npos) f pos')) pos.line X.env = pure false := by rfl) : PS X (.Assign [.Attribute (.Name x npos) f pos'] e pos) (Ls X.K W (sFldI i C f t)) :=
  ps_imp (ps_fld (pe_var hN hv hd hcd) he hs) fun D σ H ⟨H0, ps, hs, Γ, E, se, ht, r⟩ => by
    refine ⟨H0, ps, hs, Γ, _, se, ht, fun d y H2 p e2 rr => ?_⟩
    have se2 := se.mono e2
    split at p
    · rename_i l C' fs e
      obtain ⟨rfl, p1, p2, p3⟩ := p
      obtain ⟨v, h1, rfl, dx, fvs, h2, h3, h4⟩ := se2.ok i _ e
      have hl : l ∈ adr Γ := mem_adr.mpr ⟨i, _, e, rfl⟩
      have p1' : f ∉ fvs.map (·.1) := by rw [h3]; exact p1
      obtain ⟨se', ha⟩ := se2.write (s' := .mi l C' (fs ++ [(f, d)])) (o := .ins C' dx (fvs ++ [(f, y)])) e rfl rfl rfl ⟨rfl, dx, _, upd_same, by simp [h3], by
        rw [List.map_append, List.map_append]
        exact h4.append (.one rr)⟩
      refine ⟨_, h1, l, C', dx, fvs, rfl, h2, c, n, by rw [keys_len h3]; exact p2, ?_⟩
      rw [putF_new p1']
      exact r.nx _ σ _ p3 se' ((Kp.ex e2).trans (kp_write hl ha))
    · exact p.elim
end
section
variable {P : Program} {w : World} {K : Frag} {mg : Str → Option Value} {base : Heap}
theorem fn_init {x qual : Str} {params : Arguments} {body : List Stmt} {scope : Scope} {dvs : List V} {kws : List (Str × V)} {f : Addr} {fd : FuncData} {N ps : List Str} {k : Nat} {α : Type} {args : α → List D} {pre : α → Prop} {post : α → List (Str × D)} {n0 : Str} {C : Addr}
    (F : FunD K x qual params body scope dvs kws f fd) (Sc : FnScope (n0 :: N) (n0 :: ps) scope) (G : Addr → α → Env)
    (hb : ∀ (cdv : Value) (A : Around) (outer : List PySem.Env) (s : Shared) (H : Hp) (E : XK), Room k (A.deeper (PyProof.Rows.envOfC qual scope s.heap.objs.size f cdv)) →
      ∃ t, PSs (cxOf CX0 P w K mg base (n0 :: N) qual scope f cdv A outer s H E).nox body (Ls K W0 t) ∧ ∀ l x, pre x → t { nx := fun Γ => Γ[0]? = some (some (.mi l C (post x))), rt := fun _ _ => False } (G l x))
    (hG : ∀ l x, some (.mi l C []) :: envD (args x) N.length = G l x := by intro _ _; rfl) (hlen : ∀ x, (args x).length = ps.length := by intro _; rfl) : FnOk P w K mg base CX0 (k + 1) f fd (n0 :: ps) (spI K C (spcI args pre post)) := by
  refine F.ok Sc (fun vs H Q E h => ?_) fun cdv A outer s H vs Q E hr h => ?_
  · obtain ⟨hs, l, dx, us, as, rfl, a, _, _, _, x, rfl, _⟩ := h
    simp [a.length, hlen x]
  · obtain ⟨hs, l, dx, us, as, rfl, a, bb, hl, hw, x, rfl, hp, hR⟩ := h
    obtain ⟨t, h1, h2⟩ := hb cdv A outer s H E hr
    have hst : L2.start (n0 :: N) (.ref l :: us) = some (.ref l) :: (us.map some ++ List.replicate (N.length - us.length) none) := by
      unfold L2.start
      simp
    have se : SE K H [l] hs (G l x) (L2.start (n0 :: N) (.ref l :: us)) H := by
      rw [← hG, hst]
      exact se_first a bb hl rfl rfl ⟨rfl, dx, [], hw, rfl, .nil⟩
    refine ⟨Ls K W0 t, h1.nox, H, [l], hs, _, _, se, h2 l x hp, ⟨fun Γ' σ' H' hz se' _ => ?_, fun r Γ' σ' v H' q => q.elim, fun _ _ _ q => q.elim, fun _ _ _ q => q.elim, fun _ _ _ _ _ _ q => q.elim⟩⟩
    obtain ⟨v, _, _, dx', ws, g2, g3, g4⟩ := se'.ok 0 _ hz
    exact hR H' (fun a o h q => se'.fr a o (fun m => h (List.mem_singleton.mp m)) q) ⟨dx', ws, g2, g3, g4.mono (hid_sub fun a m => List.mem_append_left _ m)⟩
/-- a class and its __init__ -/
structure Dc (P : Program) (w : World) (K : Frag) (mg : Str → Option Value) (base : Heap) (x : Str) (C : Addr) (k : Nat) (S : SI) : Prop where
  ex : ∃ (f : Addr) (fd : FuncData) (ps : List Str), FnOk P w K mg base CX0 k f fd ps (spI K C S) ∧ Mk K C f ∧ mg x = some (.ref C) ∧ Binds K fd ps []
end
def xMk (C : Addr) (S : SI) (t : FT) : XT := fun Γ P => t Γ fun ds => S.S ds fun fs => P (.obj C fs)
section
variable {X : Cx} {W : WX}
theorem make_li {C : Addr} {S : SI} {t : FT} {E : XK} (σ : St) (H : Hp) (Q : VK) (h : Li X.K (xMk C S t) σ H Q) : tMake C (spI X.K C S) [] E (LaS X.K t) σ H Q := by
  obtain ⟨H0, ps, hs, Γ, P, se, ht, k⟩ := h
  refine ⟨H0, ps, hs, Γ, _, se, ht, fun ds us H1 p e1 r => fun x dx nx nd ne => ?_⟩
  show spI X.K C S (.ref x :: (us ++ [])) (upd (upd H1 dx (.own x)) x (.ins C dx [])) _ E
  rw [List.append_nil]
  have se1 := se.mono e1
  have eN : Ex H1 (upd (upd H1 dx (.own x)) x (.ins C dx [])) := fun a o q => by
    rw [upd_ne (ne_of_none q nx), upd_ne (ne_of_none q nd)]; exact q
  have nms : x ∉ hs ++ adr Γ := se1.bs.new nx
  have ndm : dx ∉ hs ++ adr Γ := se1.bs.new nd
  have eH : Ex (hid (hs ++ adr Γ) H1) (hid (x :: (hs ++ adr Γ)) (upd (upd H1 dx (.own x)) x (.ins C dx []))) := hid_fresh nx eN
  refine ⟨x :: (hs ++ adr Γ), x, dx, us, ds, rfl, r.mono eH, fun a m => ?_, List.mem_cons_self, upd_same, S.mon _ _ _ (fun fs hf H' fr ⟨dx', fvs, g1, g2, g3⟩ => ⟨rfl, ?_⟩) p⟩
  · rcases List.mem_cons.mp m with rfl | m
    · rw [upd_same]; intro z; cases z
    · exact (se1.bs.mono eN) a m
  · have e2 : Ex H1 H' := fun a o q => fr a o (ne_of_none q nx) (eN a o q)
    exact k _ _ H' hf (e1.trans e2) (.obj (by rw [hid_ni nms]; exact g1) g2 (g3.mono (hid_sub fun a m => List.mem_cons_of_mem _ m)))
theorem px_make {x : Str} {C : Addr} {k : Nat} {S : SI} {e : Expr} {es : List Expr} {p pos : Pos} {t : FT} (F : Dc X.prog X.w X.K X.mg X.base x C k S) (hr : Room (k + 1) X.A) (ha : PA X (e :: es) (LaS X.K t)) (hg : Gl X x := by rfl) (hdb : (x == ("__debug__" : Str)) = false := by decide)
    (he : starEach (e :: es) X.env = (false, eval e X.env) :: starEach es X.env := by rfl) (hpl : (backTo pos (starEach es X.env)).any (·.1) = false := by rfl) : PE X (.Call (.Name x p) (e :: es) [] pos) (Li X.K (xMk C S t)) := by
  obtain ⟨f, fd, ps, h1, h2, h3, h4⟩ := F.ex
  exact pe_imp (pe_make h2 h1 hr hg h3 h4 .nil pass0 ha hdb he hpl) make_li

/-! ### a < b < c -/
def bCh (f f' : F2) (ta tb tc : XT) : BT := fun Γ P => ta Γ fun d => tb Γ fun e => f d e fun z => match z with
  | .bl b => (b = true → tc Γ fun c => f' e c fun z' => match z' with
    | .bl b' => P b'
    | _ => False) ∧ (b = false → P false)
  | _ => False
theorem tx_chain {op op' : CmpOp} {a b c : Expr} {pos : Pos} {r r' : R2} {f f' : F2} {ta tb tc : XT} (ho : OpR X (compareOp op) r) (hd : Does X.K r f) (ho' : OpR X (compareOp op') r') (hd' : Does X.K r' f') (ha : PE X a (Lb X.K ta)) (hb : PE X b (Lb X.K tb)) (hc : PE X c (Lb X.K tc))
    (hm : lastMarks [op, op'] [b, c] = false := by with_unfolding_all rfl) : PT X (.Compare a [op, op'] [b, c] pos) (Lt X.K (bCh f f' ta tb tc)) :=
  pt_imp (pt_chain ho ho' ha hb hc hm) fun σ H Q ⟨H0, ps, hs, Γ, P, se, ht, k⟩ => by
    refine ⟨H0, ps, hs, Γ, _, se, ht, fun d x H1 p1 e1 r1 => ⟨H0, ps, hs, Γ, _, se.mono e1, p1, fun e y H2 p2 e2 r2 => ?_⟩⟩
    have se2 := (se.mono e1).mono e2
    refine hd _ H2 x y d e _ _ se2.bs (r1.mono (hid_ex2 e2) e2) r2 p2 fun z v H3 p3 e3 r3 => ?_
    cases z with
    | bl bb =>
      cases r3
      refine ⟨bb, rfl, ?_⟩
      have se3 := se2.mono e3
      cases bb with
      | true =>
        refine iteT ⟨H0, ps, hs, Γ, _, se3, p3.1 rfl, fun c u H4 p4 e4 r4 => ?_⟩
        refine hd' _ H4 y u e c _ _ (se3.mono e4).bs (r2.mono (hid_ex2 (e3.trans e4)) (e3.trans e4)) r4 p4 fun z' v' H5 p5 e5 r5 => ?_
        cases z' with
        | bl b' =>
          cases r5
          exact ⟨b', rfl, k b' H5 p5 ((((e1.trans e2).trans e3).trans e4).trans e5)⟩
        | _ => exact p5.elim
      | false => exact iteF ⟨false, rfl, k false H3 (p3.2 rfl) ((e1.trans e2).trans e3)⟩
    | _ => exact p3.elim
/-! ### xs.index(x) -/
def xIdx (to tx : XT) : XT := fun Γ P => to Γ fun d => match d with
  | .lst ys => tx Γ fun x => x.sh 60 = true ∧ (D.lst ys).sh 60 = true ∧ ∃ j, ys.findIdx? (fun z => eqD z x) = some j ∧ P (.int (j : Nat))
  | _ => False
theorem px_index {k : Nat} {o e : Expr} {to tx : XT} {apos cpos : Pos} (hr : Room (k + 1) X.A) (ho : PE X o (Lb X.K to)) (he : PE X e (Lb X.K tx))
    (hbase : attributeBase o "index" X.env (eval o X.env) = eval o X.env := by rfl)
    (hfew : ((backTo cpos (starEach [e] X.env)).all (fun x => !x.1) && (backToKw cpos (keywordEach [] X.env)).all (fun x => x.1.isSome)
      && decide ([e].length + ([] : List Keyword).length + (if ([] : List Keyword).isEmpty then 0 else 1) < 30)) = true := by rfl)
    (hline : (apos.endLine == cpos.line) = true := by rfl) (hs : starEach [e] X.env = (false, eval e X.env) :: starEach [] X.env := by rfl) (hplain : (backTo cpos (starEach [] X.env)).any (·.1) = false := by rfl) :
    PE X (.Call (.Attribute o "index" apos) [e] [] cpos) (Li X.K (xIdx to tx)) :=
  pe_imp (pe_bm PySem.F.plainAttrs_list PySem.F.slot_list_index PySem.F.type_list_index (mt_indexD (hu65 hr)) ho (pa_cons he pa_nil hs) hbase hfew hline hs hplain) fun σ H Q ⟨H0, ps, hs, Γ, P, se, ht, k⟩ => by
    refine ⟨H0, ps, hs, Γ, _, se, ht, fun d v H1 p1 e1 r1 => ?_⟩
    cases d with
    | lst ys =>
      obtain ⟨a, vs, rfl, h1, h2⟩ := r1.list hid_ex
      refine ⟨.inl ⟨rfl, _, SqL.of h1⟩, H0, ps, hs, Γ, _, se.mono e1, p1, fun x u H2 p2 e2 r2 => ?_⟩
      obtain ⟨s1, s2, j, hj, p⟩ := p2
      have rl : Rep X.K H2 (.ref a) (.lst ys) := (r1.rep hid_ex).mono e2
      have dl : Dp X.K H2 (.ref a) (.list (D.pys ys)) := rep_dp 60 (.lst ys) _ s2 rl
      rw [List.findIdx?_eq_some_iff_getElem] at hj
      obtain ⟨hjl, hj1, hj2⟩ := hj
      have gp : ∀ (m : Nat) (hm : m < ys.length), (D.pys ys)[m]? = some ys[m].py := fun m hm => by
        rw [pys_map, List.getElem?_map, List.getElem?_eq_getElem hm]; rfl
      refine ⟨a, u, x.py, D.pys ys, j, ys[j].py, rfl, rfl, dl, rep_dp 60 x u s1 (r2.rep hid_ex), sh_shaped (d := .lst ys) s2, sh_shaped s1, gp j hjl, hj1, fun m z' hm hz' => ?_, k _ _ H2 p (e1.trans e2) (.int _)⟩
      have hml : m < ys.length := by omega
      rw [gp m hml] at hz'
      cases hz'
      have := hj2 m hm
      simpa [eqD] using this
    | _ => exact p1.elim
/-! ### min of a list of data -/
def minP (x : D) (xs : List D) : PyData := PySem.W.minD x.py (xs.map D.py)
def rMinD (K : Frag) : List V → Hp → VK → Prop := fun xs H Q => ∃ (a : Addr) (vs : List V) (x : D) (ds : List D), xs = [.ref a] ∧ SqL K H a vs ∧ Reps K H vs (x :: ds) ∧ (x :: ds).all (D.sh 59) = true ∧ PySem.W.AlikeAll ((x :: ds).map D.py) ∧
  ∀ (i : Nat) v d, vs[i]? = some v → (x :: ds)[i]? = some d → d.py = minP x ds → Q v H
theorem minD_mem (x : PyData) (xs : List PyData) : PySem.W.minD x xs ∈ x :: xs := by
  unfold PySem.W.minD
  induction xs generalizing x with
  | nil => exact List.mem_cons_self
  | cons y ys ih =>
    rw [List.foldl_cons]
    have h := ih (if PySem.W.dataLt y x then y else x)
    rcases List.mem_cons.mp h with h | h
    · rw [h]
      split
      · exact List.mem_cons_of_mem _ List.mem_cons_self
      · exact List.mem_cons_self
    · exact List.mem_cons_of_mem _ (List.mem_cons_of_mem _ h)
theorem cr_minD (hc : X.calm = true) (hu : X.A.units + 64 < cLine) : CallR X (.builtin "min") (rMinD X.K) := by
  intro pins s σ H vs us Q I r h
  obtain ⟨a, ws, x, ds, rfl, hs, hr, hsh, ha, q⟩ := h
  obtain ⟨its, rv, hl, hz⟩ := I.list hs
  rw [Vals.ref1 r]
  have hall : ∀ d ∈ x :: ds, d.sh 59 = true := List.all_eq_true.mp hsh
  have dall : DpAll X.K H ws (D.pys (x :: ds)) := by
    have go : ∀ (vs : List V) (es : List D), (∀ d ∈ es, d.sh 59 = true) → Reps X.K H vs es → DpAll X.K H vs (D.pys es) := by
      intro vs es
      induction es generalizing vs with
      | nil => intro _ r; cases r; exact .nil
      | cons e es ih =>
        intro h r
        cases r with
        | cons r1 r2 => exact .cons (rep_dp 59 e _ (h e List.mem_cons_self) r1) (ih _ (fun d m => h d (List.mem_cons_of_mem _ m)) r2)
    exact go _ _ hall hr
  obtain ⟨as, hra⟩ := Dp.readsAll I _ _ its dall rv
  have hdep : PyData.depthAll (D.pys (x :: ds)) ≤ 59 := by
    have go : ∀ es : List D, (∀ d ∈ es, d.sh 59 = true) → PyData.depthAll (D.pys es) ≤ 59 := by
      intro es
      induction es with
      | nil => intro _; simp [D.pys, PyData.depthAll]
      | cons e es ih =>
        intro h
        have h1 := (sh_lay 59 e (h e List.mem_cons_self)).2
        have h2 := ih fun d m => h d (List.mem_cons_of_mem _ m)
        simp only [D.pys, PyData.depthAll]
        omega
    exact go _ hall
  have eqs : D.pys (x :: ds) = x.py :: ds.map D.py := by rw [D.pys, pys_map]
  rw [eqs] at hra hdep
  refine PySem.W.min_list_data (I.ok.hd hc) hl.isList (by simpa using hra) (by simpa using ha) (by omega) fun i v h' tk bs hv hb hk => ?_
  have hv' : its[i]? = some v := by simpa using hv
  have hi : i < its.length := (List.getElem?_eq_some_iff.mp hv').1
  have hlen := rv.length
  obtain ⟨w, hw⟩ : ∃ w, ws[i]? = some w := ⟨_, List.getElem?_eq_getElem (by omega)⟩
  obtain ⟨u, hu1, hu2⟩ := Vals.get rv hw
  rw [hv'] at hu1
  cases hu1
  obtain ⟨d, hd, rd⟩ := hr.get hw
  have hdm : d ∈ x :: ds := List.mem_iff_getElem?.mpr ⟨i, hd⟩
  obtain ⟨cs, rc⟩ := Dp.reads I _ _ _ (rep_dp 59 d w (hall d hdm) rd) hu2
  have rc' : Reads h' v d.py cs := PyProof.Rows.Reads.keeps hk rc
  have hmin : minP x ds ∈ x.py :: ds.map D.py := minD_mem _ _
  have hcl : ∀ p ∈ x.py :: ds.map D.py, p.canLay0 = true := fun p m => by
    rw [← List.map_cons] at m
    obtain ⟨e, he, rfl⟩ := List.mem_map.mp m
    exact (sh_lay 59 e (hall e he)).1
  have e : d.py = minP x ds := (SeqAt.readOf_eq (sh_lay 59 d (hall d hdm)).1 rc').symm.trans (SeqAt.readOf_eq (hcl _ hmin) hb)
  exact ⟨w, H, I.kept hk, hu2, q i w d hw hd e⟩
def fMin : F1 := fun ds P => match ds with
  | [.lst (x :: xs)] => (x :: xs).all (D.sh 59) = true ∧ PySem.W.AlikeAll ((x :: xs).map D.py) ∧ ∀ d ∈ x :: xs, d.py = minP x xs → P d
  | _ => False
theorem does_min {K : Frag} : DoesC K (rMinD K) fMin := fun ms H xs ds P Q b rr h k => by
  unfold fMin at h
  split at h
  · rename_i x ys
    obtain ⟨v, rfl, r⟩ := rr.one
    obtain ⟨a, vs, rfl, h1, r1⟩ := r.list hid_ex
    refine ⟨a, vs, x, ys, rfl, SqL.of h1, r1.mono hid_ex, h.1, h.2.1, fun i v d hv hd he => ?_⟩
    obtain ⟨d', hd', rd⟩ := r1.get hv
    rw [hd] at hd'
    cases hd'
    exact k d v H (h.2.2 d (List.mem_iff_getElem?.mpr ⟨i, hd⟩) he) (Same.refl H) rd
  · exact h.elim
theorem px_min {k : Nat} {e : Expr} {p pos : Pos} {t : XT} (hr : Room k X.A) (hc : X.calm = true) (hg : Gl X "min") (hm : X.mg "min" = none) (h : PE X e (Lb X.K t)) (he : starEach [e] X.env = (false, eval e X.env) :: starEach [] X.env := by rfl) (hpl : (backTo pos (starEach [] X.env)).any (·.1) = false := by rfl) :
    PE X (.Call (.Name "min" p) [e] [] pos) (Li X.K (xCall fMin (aCons t aNil))) := px_callB (cr_minD hc hr.units) does_min hg hm (by decide +kernel) (aw_cons h aw_nil he) (by decide) (by decide) he hpl
/-! ### sorted(set(xs)), xs a list of tuples of ints -/
def tupD (k : List Int) : D := .tup (k.map D.int)
theorem reps_tups {K : Frag} {B : Hp} : ∀ {vs : List V} {ks : List (List Int)}, Reps K B vs (ks.map tupD) → ∃ ps : List (Addr × List Int), vs = ps.map (fun p => V.ref p.1) ∧ ps.map (·.2) = ks ∧ ∀ p ∈ ps, SqT K B p.1 (p.2.map V.int)
  | _, [], .nil => ⟨[], rfl, rfl, fun p m => by cases m⟩
  | _, k :: ks, .cons a b => by
    obtain ⟨ps, h1, h2, h3⟩ := reps_tups b
    cases a with
    | tup a1 a2 =>
      rename_i ad vs'
      have e := reps_int a2
      subst e
      refine ⟨(ad, k) :: ps, by rw [h1]; rfl, by rw [List.map_cons, h2], fun p m => ?_⟩
      rcases List.mem_cons.mp m with rfl | m
      · exact a1
      · exact h3 p m
theorem tups_reps {K : Frag} {B : Hp} : ∀ (ps : List (Addr × List Int)), (∀ p ∈ ps, SqT K B p.1 (p.2.map V.int)) → Reps K B (ps.map fun p => V.ref p.1) ((ps.map (·.2)).map tupD)
  | [], _ => .nil
  | p :: ps, h => .cons (.tup (h p List.mem_cons_self) (int_reps _)) (tups_reps ps fun q m => h q (List.mem_cons_of_mem _ m))
def fSS (t : XT) : FT := fun Γ P => t Γ fun d => match d with
  | .lst ys => ∃ (ks : List (List Int)) (dd : Nat) (B : Int), ys = ks.map tupD ∧ ks.length < 64 ∧ 1 ≤ dd ∧ (∀ k ∈ ks, k.length = dd ∧ TS.Bd B k) ∧
      ∀ ls : List (List Int), ls.Nodup → (∀ k, k ∈ ls ↔ k ∈ ks) → ls.Pairwise (fun q r => TS.code B q ≤ TS.code B r) → P (ls.map tupD)
  | _ => False
theorem fx_ss {k : Nat} {e : Expr} {p p2 q pos : Pos} {t : XT} (hr : Room k X.A) (hc : X.calm = true) (hg : Gl X "sorted") (hm : X.mg "sorted" = none) (hg2 : Gl X "set") (hm2 : X.mg "set" = none) (h : PE X e (Lb X.K t)) (he : starEach [e] X.env = (false, eval e X.env) :: starEach [] X.env := by rfl) (hpl0 : (backTo q (starEach [] X.env)).any (·.1) = false := by rfl)
    (he2 : starEach [.Call (.Name "set" p2) [e] [] q] X.env = (false, eval (.Call (.Name "set" p2) [e] [] q) X.env) :: starEach [] X.env := by rfl) (hpl : (backTo pos (starEach [] X.env)).any (·.1) = false := by rfl) :
    PE X (.Call (.Name "sorted" p) [.Call (.Name "set" p2) [e] [] q] [] pos) (Lf X.K (fSS t)) :=
  pe_imp (pe_callB (cr_sortedT hc) hg hm (by decide +kernel) (pa_cons (pe_callTy (cr_setOfT hc hr.units) hg2 hm2 (by decide +kernel) (pa_cons h pa_nil he) (by decide) (by decide) he hpl0) pa_nil he2) (by decide) (by decide) he2 hpl) fun σ H Q ⟨H0, ps, hs, Γ, P, se, ht, k⟩ => by
    refine ⟨H0, ps, hs, Γ, _, se, ht, fun d v H1 p1 e1 r1 => ?_⟩
    cases d with
    | lst ys =>
      obtain ⟨ks, dd, B, rfl, h64, hdd, hB, hP⟩ := p1
      obtain ⟨a, vs, rfl, h1, h2⟩ := r1.list hid_ex
      obtain ⟨qs, rfl, rfl, q3⟩ := reps_tups h2
      have se1 := se.mono e1
      refine ⟨a, qs, rfl, SqL.of h1, fun p m => hid_ex.st (q3 p m), by simpa using h64, fun sa L ns hL1 hL2 => ?_⟩
      have e2 : Ex H1 (upd H1 sa (SetTO X.prog X.w sa L)) := Ex.new ns
      refine ⟨sa, L, dd, B, rfl, upd_same, fun p m => e2.st (hid_ex.st (q3 p (hL1 p m))), hdd, fun p m => hB _ (List.mem_map_of_mem (hL1 p m)), fun L' pp hperm hnd hl64 hpw np => ?_⟩
      have em : Ex H1 (upd (upd H1 sa (SetTO X.prog X.w sa L)) pp (.lst (L'.map fun q => V.ref q.1))) := e2.trans (Ex.new np)
      have hmem : ∀ p ∈ L', p ∈ qs := fun p m => hL1 p (hperm.mem_iff.mp m)
      refine k _ pp _ _ (hP (L'.map (·.2)) hnd (fun k => ⟨fun m => ?_, fun m => ?_⟩) ?_) (fresh_of (e1.trans e2) np) (e1.trans em) upd_same ?_
      · obtain ⟨p, hp, rfl⟩ := List.mem_map.mp m
        exact List.mem_map_of_mem (hmem p hp)
      · obtain ⟨p, hp, rfl⟩ := List.mem_map.mp m
        obtain ⟨p', hp', e⟩ := List.mem_map.mp (hL2 p hp)
        rw [← e]
        exact List.mem_map_of_mem (hperm.mem_iff.mpr hp')
      · exact List.pairwise_map.mpr hpw
      · refine reps_new np ?_
        have z := tups_reps (K := X.K) (B := hid (hs ++ adr Γ) H1) L' fun p m => q3 p (hmem p m)
        exact z.mono (hid_ex2 e2)
    | _ => exact p1.elim
end
end Kb
set_option Elab.async false
set_option linter.all false
set_option maxRecDepth 100000
set_option maxHeartbeats 1000000
/-! Kb12: generator defs, list(g). -/
namespace Kb
open PySem L2
set_option autoImplicit false

structure GEn where
  nx : List D → Env → Prop
  rt : List D → Prop
  bk : List D → Env → Prop := fun _ _ => False
  ct : List D → Env → Prop := fun _ _ => False
abbrev GST := GEn → List D → Env → Prop
structure RelG (K : Frag) (H0 : Hp) (ps hs : List Addr) (E : GEn) (D : GEnds) : Prop where
  nx : ∀ yd Γ ys σ H, E.nx yd Γ → SE K H0 ps hs Γ σ H → Reps K (hid (hs ++ adr Γ) H) ys yd → D.nx ys σ H
  rt : ∀ yd Γ ys σ H, E.rt yd → SE K H0 ps hs Γ σ H → Reps K (hid (hs ++ adr Γ) H) ys yd → D.rt ys .non H
  bk : ∀ yd Γ ys σ H, E.bk yd Γ → SE K H0 ps hs Γ σ H → Reps K (hid (hs ++ adr Γ) H) ys yd → D.bk ys σ H
  ct : ∀ yd Γ ys σ H, E.ct yd Γ → SE K H0 ps hs Γ σ H → Reps K (hid (hs ++ adr Γ) H) ys yd → D.ct ys σ H
def LsG (K : Frag) (t : GST) : TGn := fun D ys σ H => ∃ (H0 : Hp) (ps hs : List Addr) (Γ : Env) (E : GEn) (yd : List _root_.Kb.D), SE K H0 ps hs Γ σ H ∧ Reps K (hid (hs ++ adr Γ) H) ys yd ∧ t E yd Γ ∧ RelG K H0 ps hs E D
section
variable {X : Cx} {W : WX}
theorem gs_imp {st : Stmt} {t t' : TGn} (h : GS X st t) (hi : ∀ D ys σ H, t' D ys σ H → t D ys σ H) : GS X st t' :=
  ⟨fun A S ip R n ys s₀ c fs K J gd lv s σ H D a b c d e => h.run A S ip R n ys s₀ _ fs K J gd lv s σ H D a b c d (hi _ _ _ _ e)⟩
theorem gss_imp {st : List Stmt} {t t' : TGn} (h : GSs X st t) (hi : ∀ D ys σ H, t' D ys σ H → t D ys σ H) : GSs X st t' :=
  ⟨fun A S ip R n ys s₀ c fs K J gd lv s σ H D a b c d e => h.run A S ip R n ys s₀ _ fs K J gd lv s σ H D a b c d (hi _ _ _ _ e)⟩
def gPlain (t : ST) : GST := fun E yd Γ => t { nx := E.nx yd, rt := fun _ _ => False, bk := E.bk yd, ct := E.ct yd } Γ
theorem g_plain {st : Stmt} {t : ST} (h : PS X st (Ls X.K W0 t)) : GS X st (LsG X.K (gPlain t)) := gs_imp (gs_ps h) fun D ys σ H ⟨H0, ps, hs, Γ, E, yd, se, ry, ht, r⟩ =>
  ⟨H0, ps, hs, Γ, _, se, ht, ⟨fun Γ' σ' H' a b c => r.nx yd Γ' ys σ' H' a b (ry.mono c.x), fun rr Γ' σ' v H' a b c => a.elim, fun Γ' σ' H' a b c => r.bk yd Γ' ys σ' H' a b (ry.mono c.x), fun Γ' σ' H' a b c => r.ct yd Γ' ys σ' H' a b (ry.mono c.x), fun _ _ _ _ _ _ q => q.elim⟩⟩
def gNil : GST := fun E yd Γ => E.nx yd Γ
def gThen (t u : GST) : GST := fun E yd Γ => t { E with nx := fun yd' Γ' => u E yd' Γ' } yd Γ
theorem g_nil : GSs X [] (LsG X.K gNil) := gss_imp gss_nil fun D ys σ H ⟨H0, ps, hs, Γ, E, yd, se, ry, ht, r⟩ => r.nx yd Γ ys σ H ht se ry
theorem g_cons {st : Stmt} {rest : List Stmt} {t u : GST} (h1 : GS X st (LsG X.K t)) (h2 : GSs X rest (LsG X.K u)) : GSs X (st :: rest) (LsG X.K (gThen t u)) := gss_imp (gss_cons h1 h2) fun D ys σ H ⟨H0, ps, hs, Γ, E, yd, se, ry, ht, r⟩ =>
  ⟨H0, ps, hs, Γ, { E with nx := fun yd' Γ' => u E yd' Γ' }, yd, se, ry, ht, ⟨fun yd' Γ' ys' σ' H' a b c => ⟨H0, ps, hs, Γ', E, yd', b, c, a, r⟩, r.rt, r.bk, r.ct⟩⟩
def gYield (t : XT) : GST := fun E yd Γ => yd.length < sizeLine ∧ t Γ fun d => E.nx (yd ++ [d]) Γ
theorem g_yield {e : Expr} {yp pos : Pos} {t : XT} (he : PE X e (Li X.K t)) (hco : X.env.scope.isCoroutine = false := by rfl) (hi : interactive X.env = false := by rfl) : GS X (.Expr (.Yield (some e) yp) pos) (LsG X.K (gYield t)) :=
  gs_imp (gs_yield he hco hi) fun D ys σ H ⟨H0, ps, hs, Γ, E, yd, se, ry, ht, r⟩ => ⟨by rw [ry.length]; exact ht.1, H0, ps, hs, Γ, _, se, ht.2, fun d v H2 p e rr => r.nx _ Γ _ σ H2 p (se.mono e) ((ry.mono (hid_ex2 e)).append (.one rr))⟩
def gWhile (c : BT) (tb : GST) : GST := fun E yd Γ => ∃ I : Nat → List D → Env → Prop, (∃ m, I m yd Γ) ∧ ∀ m yd' Γ', I m yd' Γ' → c Γ' fun b => (b = true → tb { nx := fun y2 Γ2 => ∃ m', m' < m ∧ I m' y2 Γ2, rt := E.rt, ct := fun y2 Γ2 => ∃ m', m' < m ∧ I m' y2 Γ2, bk := E.nx } yd' Γ') ∧ (b = false → E.nx yd' Γ')
theorem g_while {test : Expr} {body : List Stmt} {pos : Pos} {tc : BT} {tb : GST} (hp : PassesOwn (model X.prog X.w) X.A X.env X.xe) (hc : PT X test (Lt X.K tc)) (hb : GSs X body (LsG X.K tb)) : GS X (.While test body [] pos) (LsG X.K (gWhile tc tb)) :=
  gs_imp (gs_while hp hc hb) fun D ys σ H ⟨H0, ps, hs, Γ, E, yd, se, ry, ht, r⟩ => by
    obtain ⟨I, ⟨m0, i0⟩, turn⟩ := ht
    refine ⟨fun m ys' σ' H' => ∃ yd' Γ', SE X.K H0 ps hs Γ' σ' H' ∧ Reps X.K (hid (hs ++ adr Γ') H') ys' yd' ∧ I m yd' Γ', ⟨m0, yd, Γ, se, ry, i0⟩, ?_⟩
    rintro m ys' σ' H' ⟨yd', Γ', se', ry', hI⟩
    refine ⟨H0, ps, hs, Γ', _, se', turn m yd' Γ' hI, fun b H2 p e => ?_⟩
    cases b with
    | true =>
      refine iteT ⟨fun ys'' σ'' H'' => ∃ m', m' < m ∧ ∃ yd'' Γ'', SE X.K H0 ps hs Γ'' σ'' H'' ∧ Reps X.K (hid (hs ++ adr Γ'') H'') ys'' yd'' ∧ I m' yd'' Γ'', fun ys'' σ'' H'' ⟨m', h1, h2⟩ => ⟨m', h1, h2⟩, ?_⟩
      exact ⟨H0, ps, hs, Γ', _, yd', se'.mono e, ry'.mono (hid_ex2 e), p.1 rfl, ⟨fun y2 Γ3 ys3 σ3 H3 ⟨m', h1, h2⟩ b c => ⟨m', h1, y2, Γ3, b, c, h2⟩, r.rt, r.nx, fun y2 Γ3 ys3 σ3 H3 ⟨m', h1, h2⟩ b c => ⟨m', h1, y2, Γ3, b, c, h2⟩⟩⟩
    | false => exact iteF (r.nx yd' Γ' ys' σ' H2 (p.2 rfl) (se'.mono e) (ry'.mono (hid_ex2 e)))
end
/-! ### a generator def's promise -/
structure SG where
  S : List Slot → (List D → Prop) → Prop
  mon : ∀ as (R R' : List D → Prop), (∀ r, R r → R' r) → S as R → S as R'
def spcG {α : Type} (args : α → List Slot) (pre : α → Prop) (post : α → List D) : SG := ⟨fun as R => ∃ x, as = args x ∧ pre x ∧ R (post x), fun as R R' h ⟨x, a, b, c⟩ => ⟨x, a, b, h _ c⟩⟩
def spG (K : Frag) (S : SG) : SpG := fun vs H Q E => ∃ hs as, Args K hs H vs as ∧ Bs hs H ∧ S.S as fun yd => ∀ out H', Ex H H' → Reps K (hid hs H') out yd → Q out H'
section
variable {P : Program} {w : World} {K : Frag} {mg : Str → Option Value} {base : Heap}
theorem fn_gen {x qual : Str} {params : Arguments} {body : List Stmt} {scope : Scope} {dvs : List V} {kws : List (Str × V)} {f : Addr} {fd : FuncData} {N ps : List Str} {k : Nat} {α : Type} {args : α → List Slot} {pre : α → Prop} {post : α → List D}
    (F : FunD K x qual params body scope dvs kws f fd) (Sc : GScope N ps scope) (G : α → Env)
    (hb : ∀ (cdv : Value) (A : Around) (outer : List PySem.Env) (s : Shared) (H : Hp) (E : XK) (pn : List (Addr × Obj)), Room k (A.deeper (PyProof.Rows.envOfC qual scope s.heap.objs.size f cdv)) →
      ∃ t, GSs (gcxOf P w K mg base N qual scope f cdv A outer s H E pn) body (LsG K t) ∧ ∀ x, pre x → t { nx := fun yd _ => yd = post x, rt := fun _ => False } [] (G x))
    (hG : ∀ x, env0 (args x) N.length = G x := by intro _; rfl) (hlen : ∀ x, (args x).length = ps.length := by intro _; rfl) : GFn P w K mg base (k + 1) f fd ps (spG K (spcG args pre post)) := by
  obtain ⟨oc, od, dV, kV, doc, pm, an, cdv, ct, osl, rfl, lk, hcd, _, _⟩ := F.ex
  refine gfn_of lk hcd Sc (fun vs H Q E h => ?_) fun A outer s H vs Q E pn hr h => ?_
  · obtain ⟨hs, as, a, _, x, rfl, _⟩ := h
    rw [a.len]
    exact hlen x
  · obtain ⟨hs, as, a, bb, x, rfl, hp, hR⟩ := h
    obtain ⟨t, h1, h2⟩ := hb cdv A outer s H E pn hr
    refine ⟨LsG K t, h1, H, [], hs, _, _, [], by rw [← hG]; exact a.se bb, .nil, h2 x hp, ⟨fun yd Γ ys σ H' q se ry => ?_, fun yd Γ ys σ H' q => q.elim, fun _ _ _ _ _ q => q.elim, fun _ _ _ _ _ q => q.elim⟩⟩
    subst q
    exact hR ys H' (fun a o e => se.fr a o (by simp) e) (ry.mono (hid_sub fun a m => List.mem_append_left _ m))
structure Dg (P : Program) (w : World) (K : Frag) (mg : Str → Option Value) (base : Heap) (x : Str) (k : Nat) (S : SG) : Prop where
  ex : ∃ (f : Addr) (fd : FuncData) (ps : List Str), GFn P w K mg base k f fd ps (spG K S) ∧ mg x = some (.ref f) ∧ PySem.W.keepIn K (.ref f) = true ∧ Binds K fd ps []
end
section
variable {X : Cx} {W : WX}
theorem passE0 : Passes (CX X.prog X.w) X E0 := fun pins σ H s e s' I c => by
  obtain ⟨a, B, H', cls, d, _, _, _, _, _, _, _, hW⟩ := c
  exact hW.elim
def fGen (S : SG) (t : AT) : FT := fun Γ P => t Γ fun as => S.S as P
/-- list(f(e, ..)) -/
theorem fx_listG {x : Str} {k : Nat} {S : SG} {e : Expr} {es : List Expr} {p p2 pos pos' : Pos} {t : AT} (F : Dg X.prog X.w X.K X.mg X.base x k S) (hr : Room (k + 3) X.A) (hg : Gl X "list") (hm : X.mg "list" = none) (ha : PA X (e :: es) (LaX X.K t)) (hg2 : Gl X x := by rfl) (hdb : (x == ("__debug__" : Str)) = false := by decide)
    (he : starEach (e :: es) X.env = (false, eval e X.env) :: starEach es X.env := by rfl) (hpl : (backTo pos' (starEach es X.env)).any (·.1) = false := by rfl)
    (he2 : starEach [.Call (.Name x p) (e :: es) [] pos'] X.env = (false, eval (.Call (.Name x p) (e :: es) [] pos') X.env) :: starEach [] X.env := by rfl) : PE X (.Call (.Name "list" p2) [.Call (.Name x p) (e :: es) [] pos'] [] pos) (Lf X.K (fGen S t)) := by
  obtain ⟨f, fd, ps, h1, h2, h3, h4⟩ := F.ex
  refine pe_imp (pe_listG (E := E0) (pgen_call h1 (hr.mono (by omega)) hg2 h2 h3 h4 .nil ha hdb he hpl) passE0 (fun _ _ _ z => z.elim) hr hg hm (by decide +kernel) (by decide) (by decide) he2) fun σ H Q ⟨H0, ps, hs, Γ, P, se, ht, k⟩ => ?_
  refine ⟨H0, ps, hs, Γ, _, se, ht, fun as vs H2 p e ar => ?_⟩
  show spG X.K S (vs ++ []) H2 _ E0
  rw [List.append_nil]
  refine ⟨hs ++ adr Γ, as, ar, (se.mono e).bs, S.mon _ _ _ (fun yd hy out H3 e3 ro q n => ?_) p⟩
  exact k yd q out _ hy (fresh_of (e.trans e3) n) ((e.trans e3).trans (Ex.new n)) upd_same (reps_new n ro)
end
end Kb
set_option Elab.async false
set_option linter.all false
set_option maxRecDepth 100000
set_option maxHeartbeats 1000000
namespace Kb
open PySem L2
set_option autoImplicit false
/-! ### x = f(..) whose answer is data or a list of one's own -/
abbrev RT := Env → (Rs → Prop) → Prop
def Lr (K : Frag) (t : RT) : TE := fun σ H Q => ∃ (H0 : Hp) (ps hs : List Addr) (Γ : Env) (P : Rs → Prop), SE K H0 ps hs Γ σ H ∧ t Γ P ∧ ∀ r v H2, P r → Ex H H2 → ResOk K H (hs ++ adr Γ) H2 v r → Q v H2
def rCl (S : SP) (t : AT) : RT := fun Γ P => t Γ fun as => S.S as P
def rMe (C : Addr) (m : Str) (S : SP) (to : XT) (t : AT) : RT := fun Γ P => to Γ fun d => match d with
  | .obj C' fs => C' = C ∧ fs.lookup m = none ∧ t Γ fun as => S.S (.im d :: as) P
  | _ => False
theorem res_back {K : Frag} {H H1 H' : Hp} {hs : List Addr} {v : V} {r : Rs} (e : Ex H H1) (ro : ResOk K H1 hs H' v r) : ResOk K H hs H' v r := by
  cases r with
  | d d => exact ro
  | fl ds => obtain ⟨p, vs, a, n, b⟩ := ro; exact ⟨p, vs, a, fresh_of e n, b⟩
  | fd es => obtain ⟨p, vs, a, n, b⟩ := ro; exact ⟨p, vs, a, fresh_of e n, b⟩
  | ft es => obtain ⟨p, vs, a, n, b⟩ := ro; exact ⟨p, vs, a, fresh_of e n, b⟩
section
variable {X : Cx} {W : WX}
theorem call_lr {S : SP} {t : AT} {E : XK} (σ : St) (H : Hp) (Q : VK) (h : Lr X.K (rCl S t) σ H Q) : tCall (spP X.K S) [] E (LaX X.K t) σ H Q := by
  obtain ⟨H0, ps, hs, Γ, P, se, ht, k⟩ := h
  refine ⟨H0, ps, hs, Γ, _, se, ht, fun as vs H2 p e ar => ?_⟩
  show spP X.K S (vs ++ []) H2 Q E
  rw [List.append_nil]
  exact ⟨hs ++ adr Γ, as, ar, (se.mono e).bs, S.mon _ _ _ (fun r hr v H' e3 ro => k r v H' hr (e.trans e3) (res_back e ro)) p⟩
theorem meth_lr {m : Str} {S : SP} {t : AT} {to : XT} {C : Addr} {E : XK} (σ : St) (H : Hp) (Q : VK) (h : Lr X.K (rMe C m S to t) σ H Q) : tMeth C m (spP X.K S) [] E (Li X.K to) (LaX X.K t) σ H Q := by
  obtain ⟨H0, ps, hs, Γ, P, se, ht, k⟩ := h
  refine ⟨H0, ps, hs, Γ, _, se, ht, fun d v H1 p e1 r => ?_⟩
  cases d with
  | obj C' fs =>
    obtain ⟨rfl, p1, p⟩ := p
    obtain ⟨a, dx, fvs, rfl, h1, h2, h3⟩ := (RepW.im r).inst hid_ex
    refine ⟨a, dx, fvs, rfl, h1, look_none h2 p1, H0, ps, hs, Γ, _, se.mono e1, p, fun as vs H2 q e2 ar => ?_⟩
    show spP X.K S (V.ref a :: (vs ++ [])) H2 Q E
    rw [List.append_nil]
    exact ⟨hs ++ adr Γ, _, .cons (s := .im (.obj C' fs)) (r.mono (hid_ex2 e2)) rfl ar, ((se.mono e1).mono e2).bs, S.mon _ _ _ (fun r hr v H' e3 ro => k r v H' hr ((e1.trans e2).trans e3) (res_back (e1.trans e2) ro)) q⟩
  | _ => exact p.elim
theorem rx_call {x : Str} {k : Nat} {S : SP} {e : Expr} {es : List Expr} {p pos : Pos} {t : AT} (F : Df X.prog X.w X.K X.mg X.base x k (spP X.K S)) (hr : Room k X.A) (ha : PA X (e :: es) (LaX X.K t)) (hg : Gl X x := by rfl) (hd : (x == ("__debug__" : Str)) = false := by decide)
    (he : starEach (e :: es) X.env = (false, eval e X.env) :: starEach es X.env := by rfl) (hpl : (backTo pos (starEach es X.env)).any (·.1) = false := by rfl) : PE X (.Call (.Name x p) (e :: es) [] pos) (Lr X.K (rCl S t)) := by
  obtain ⟨f, fd, ps, h1, h2, h3, h4⟩ := F.ex
  exact pe_imp (pe_call h1 hr hg h2 h3 h4 .nil pass0 ha hd he hpl) call_lr
theorem rx_meth {m : Str} {k : Nat} {S : SP} {o e : Expr} {es : List Expr} {apos pos : Pos} {t : AT} {to : XT} {C : Addr} {pl : Sem Bool} (c : Cls X.K C) (F : Dm X.prog X.w X.K X.mg X.base C m k (spP X.K S)) (hr : Room k X.A) (ho : PE X o (Li X.K to)) (ha : PA X (e :: es) (LaX X.K t))
    (hst : starEach (e :: es) X.env = (false, eval e X.env) :: starEach es X.env := by rfl) (hpl : (backTo pos (starEach es X.env)).any (·.1) = false := by rfl)
    (ht : eval (.Call (.Attribute o m apos) (e :: es) [] pos) X.env = (do
      let ov ← eval o X.env
      standAt apos.atName
      let (f, first) ← holding [ov] (getMethod ov m pl)
      callWith pos f first (backTo pos (starEach (e :: es) X.env)) (backToKw pos (keywordEach [] X.env))) := by rfl) : PE X (.Call (.Attribute o m apos) (e :: es) [] pos) (Lr X.K (rMe C m S to t)) := by
  obtain ⟨f, fd, ps, h1, h2, h3⟩ := F.ex
  exact pe_imp (pe_meth ho c h2 h1 hr h3 .nil pass0 ha hst hpl ht) meth_lr
def sAsgR (i : Nat) (t : RT) : ST := fun E Γ => t Γ fun r => match r with
  | .d d => E.nx (Γ.set i (some (.im d)))
  | .fl ds => ∀ l, l ∉ adr Γ → E.nx (Γ.set i (some (.ml l ds)))
  | _ => False
theorem asgR_li {W : WX} {K : Frag} {i : Nat} {t : RT} (D : Ends) (σ : St) (H : Hp) (h : Ls K W (sAsgR i t) D σ H) : tAsg (Lr K t) (gName i) D σ H := by
  obtain ⟨H0, ps, hs, Γ, E, se, ht, r⟩ := h
  refine ⟨H0, ps, hs, Γ, _, se, ht, fun rs v H2 p e ro => ?_⟩
  cases rs with
  | d d => exact r.nx _ _ H2 p ((se.mono e).set_im ro i) (kp_set_im e)
  | fl ds =>
    obtain ⟨q, vs, rfl, n, h2, rr⟩ := ro
    exact r.nx _ _ H2 (p q (se.fresh n)) (se.set_own n e rfl rfl (slot_ml h2 rr) i) (kp_set_own n e rfl)
  | _ => exact p.elim
theorem s_asgR {i : Nat} {x : Str} {e : Expr} {t : RT} {pos pos' : Pos} (hN : X.N.Nodup) (he : PE X e (Lr X.K t)) (hi : X.N[i]? = some x := by rfl) (hx : Loc X.env.scope x := by first | exact Or.inl rfl | exact Or.inr rfl) (hs : swapsWith e (some (.Name x pos')) pos.line X.env = pure false := by rfl) (hf : X.fn x = true ∨ X.env.scope.names.lookup x = some .local := by first | exact .inl rfl | exact .inr rfl | assumption) :
    PS X (.Assign [.Name x pos'] e pos) (Ls X.K W (sAsgR i t)) := ps_imp (ps_set hN hi hx he hs hf) asgR_li
/-! ### sorted(set(e)), e calls the pot -/
def mSS (t : IT) : IT := fun Γ P => t Γ fun d Γ2 => match d with
  | .lst ys => ∃ (ks : List (List Int)) (dd : Nat) (B : Int), ys = ks.map tupD ∧ ks.length < 64 ∧ 1 ≤ dd ∧ (∀ k ∈ ks, k.length = dd ∧ TS.Bd B k) ∧
      ∀ ls : List (List Int), ls.Nodup → (∀ k, k ∈ ls ↔ k ∈ ks) → ls.Pairwise (fun q r => TS.code B q ≤ TS.code B r) → P (.lst (ls.map tupD)) Γ2
  | _ => False
theorem mx_ss {k : Nat} {e : Expr} {p p2 q pos : Pos} {t : IT} (hr : Room k X.A) (hc : X.calm = true) (hg : Gl X "sorted") (hm : X.mg "sorted" = none) (hg2 : Gl X "set") (hm2 : X.mg "set" = none) (h : PE X e (Lm X.K t)) (he : starEach [e] X.env = (false, eval e X.env) :: starEach [] X.env := by rfl) (hpl0 : (backTo q (starEach [] X.env)).any (·.1) = false := by rfl)
    (he2 : starEach [.Call (.Name "set" p2) [e] [] q] X.env = (false, eval (.Call (.Name "set" p2) [e] [] q) X.env) :: starEach [] X.env := by rfl) (hpl : (backTo pos (starEach [] X.env)).any (·.1) = false := by rfl) :
    PE X (.Call (.Name "sorted" p) [.Call (.Name "set" p2) [e] [] q] [] pos) (Lm X.K (mSS t)) :=
  pe_imp (pe_callB (cr_sortedT hc) hg hm (by decide +kernel) (pa_cons (pe_callTy (cr_setOfT hc hr.units) hg2 hm2 (by decide +kernel) (pa_cons h pa_nil he) (by decide) (by decide) he hpl0) pa_nil he2) (by decide) (by decide) he2 hpl) fun σ H Q ⟨H0, ps, hs, Γ, P, se, ht, k⟩ => by
    refine ⟨H0, ps, hs, Γ, _, se, ht, fun d Γ2 v H1 p1 se1 km r1 => ?_⟩
    cases d with
    | lst ys =>
      obtain ⟨ks, dd, B, rfl, h64, hdd, hB, hP⟩ := p1
      obtain ⟨a, vs, rfl, h1, h2⟩ := (RepW.im r1).list hid_ex
      obtain ⟨qs, rfl, rfl, q3⟩ := reps_tups h2
      refine ⟨a, qs, rfl, SqL.of h1, fun p m => hid_ex.st (q3 p m), by simpa using h64, fun sa L ns hL1 hL2 => ?_⟩
      have e2 : Ex H1 (upd H1 sa (SetTO X.prog X.w sa L)) := Ex.new ns
      refine ⟨sa, L, dd, B, rfl, upd_same, fun p m => e2.st (hid_ex.st (q3 p (hL1 p m))), hdd, fun p m => hB _ (List.mem_map_of_mem (hL1 p m)), fun L' pp hperm hnd hl64 hpw np => ?_⟩
      have em : Ex H1 (upd (upd H1 sa (SetTO X.prog X.w sa L)) pp (.lst (L'.map fun q => V.ref q.1))) := e2.trans (Ex.new np)
      have hmem : ∀ p ∈ L', p ∈ qs := fun p m => hL1 p (hperm.mem_iff.mp m)
      have npp : pp ∉ hs ++ adr Γ := by
        have := (se1.mono e2).bs.new np
        rw [km.1] at this
        exact this
      refine k _ Γ2 (.ref pp) _ (hP (L'.map (·.2)) hnd (fun k => ⟨fun m => ?_, fun m => ?_⟩) ?_) (se1.mono em) (km.trans (Km.ex em)) ?_
      · obtain ⟨p, hp, rfl⟩ := List.mem_map.mp m
        exact List.mem_map_of_mem (hmem p hp)
      · obtain ⟨p, hp, rfl⟩ := List.mem_map.mp m
        obtain ⟨p', hp', e⟩ := List.mem_map.mp (hL2 p hp)
        rw [← e]
        exact List.mem_map_of_mem (hperm.mem_iff.mpr hp')
      · exact List.pairwise_map.mpr hpw
      · refine .lst (by rw [hid_ni npp]; exact upd_same) ?_
        have z := tups_reps (K := X.K) (B := hid (hs ++ adr Γ) H1) L' fun p m => q3 p (hmem p m)
        exact z.mono (hid_ex2 em)
    | _ => exact p1.elim
end
end Kb
set_option Elab.async false
set_option linter.all false
set_option maxRecDepth 100000
set_option maxHeartbeats 1000000
/-! Kb14: defs that may raise an error of an own class. -/
namespace Kb
open PySem L2
set_option autoImplicit false
abbrev EF := Addr → List (Str × D) → Prop
structure SPX where
  S : List Slot → (Rs → Prop) → EF → Prop
  mon : ∀ as (R R' : Rs → Prop) (F F' : EF), (∀ r, R r → R' r) → (∀ C fs, F C fs → F' C fs) → S as R F → S as R' F'
def spcX {α : Type} (args : α → List Slot) (pre : α → Prop) (post : α → Rs → Prop) (exc : α → EF) : SPX :=
  ⟨fun as R F => ∃ x, as = args x ∧ pre x ∧ (∀ r, post x r → R r) ∧ ∀ C fs, exc x C fs → F C fs, fun as R R' F F' h1 h2 ⟨x, a, b, c, d⟩ => ⟨x, a, b, fun r q => h1 r (c r q), fun C fs q => h2 C fs (d C fs q)⟩⟩
def spX (K : Frag) (S : SPX) : Sp := fun vs H Q E => ∃ hs as, Args K hs H vs as ∧ Bs hs H ∧ S.S as (fun r => ∀ v H', Ex H H' → ResOk K H hs H' v r → Q v H') fun C fs => ∀ d H', Ex H H' → ExD K hs H' d fs → E (.ref C) d H'
theorem ExD.sub {K : Frag} {ms ns : List Addr} {H : Hp} {d : Option Addr} {fs : List (Str × D)} (hm : ∀ a ∈ ns, a ∈ ms) (h : ExD K ms H d fs) : ExD K ns H d fs := by
  cases d with
  | none => exact h
  | some d =>
    obtain ⟨n, fvs, a, b, c⟩ := h
    exact ⟨fun m => n (hm _ m), fvs, a, b, c.mono (hid_sub hm)⟩
theorem ExD.out {K : Frag} {hs : List Addr} {Γ : Env} {H : Hp} {d : Option Addr} {fs : List (Str × D)} (h : ExD K (hs ++ adr Γ) H d fs) : ExD K hs H d fs := h.sub fun a m => List.mem_append_left _ m
/-! ### expressions that may change lists and may raise -/
abbrev EZ := Addr → List (Str × D) → Env → Prop
abbrev ZT := Env → (D → Env → Prop) → EZ → Prop
abbrev ZB := Env → (Bool → Env → Prop) → EZ → Prop
abbrev ZR := Env → (Rs → Env → Prop) → EZ → Prop
abbrev ZA := Env → (List D → Env → Prop) → EZ → Prop
def ExZ (K : Frag) (W : WX) (H0 : Hp) (ps hs : List Addr) (Γ : Env) (σ : St) (H : Hp) (F : EZ) : Prop := ∀ C fs Γ2 H2 d, F C fs Γ2 → SE K H0 ps hs Γ2 σ H2 → Km hs Γ H Γ2 H2 → ExD K (hs ++ adr Γ) H2 d fs → W (.ref C) d σ H2
theorem ExZ.from {K : Frag} {W : WX} {H0 : Hp} {ps hs : List Addr} {Γ Γ1 : Env} {σ : St} {H H1 : Hp} {F : EZ} (h : ExZ K W H0 ps hs Γ σ H F) (k : Km hs Γ H Γ1 H1) : ExZ K W H0 ps hs Γ1 σ H1 F := fun C fs Γ2 H2 d a b c x =>
  h C fs Γ2 H2 d a b (k.trans c) (by rw [k.1] at x; exact x)
def Lz (K : Frag) (W : WX) (t : ZT) : TE := fun σ H Q => ∃ (H0 : Hp) (ps hs : List Addr) (Γ : Env) (P : D → Env → Prop) (F : EZ), SE K H0 ps hs Γ σ H ∧ t Γ P F ∧ (∀ d Γ2 v H2, P d Γ2 → SE K H0 ps hs Γ2 σ H2 → Km hs Γ H Γ2 H2 → Rep K (hid (hs ++ adr Γ) H2) v d → Q v H2) ∧ ExZ K W H0 ps hs Γ σ H F
def LzT (K : Frag) (W : WX) (t : ZB) : TT := fun σ H Q => ∃ (H0 : Hp) (ps hs : List Addr) (Γ : Env) (P : Bool → Env → Prop) (F : EZ), SE K H0 ps hs Γ σ H ∧ t Γ P F ∧ (∀ b Γ2 H2, P b Γ2 → SE K H0 ps hs Γ2 σ H2 → Km hs Γ H Γ2 H2 → Q b H2) ∧ ExZ K W H0 ps hs Γ σ H F
def LzR (K : Frag) (W : WX) (t : ZR) : TE := fun σ H Q => ∃ (H0 : Hp) (ps hs : List Addr) (Γ : Env) (P : Rs → Env → Prop) (F : EZ), SE K H0 ps hs Γ σ H ∧ t Γ P F ∧ (∀ r Γ2 v H2, P r Γ2 → SE K H0 ps hs Γ2 σ H2 → Km hs Γ H Γ2 H2 → ResOk K H (hs ++ adr Γ) H2 v r → Q v H2) ∧ ExZ K W H0 ps hs Γ σ H F
def LzA (K : Frag) (W : WX) (t : ZA) : TA := fun σ H Q => ∃ (H0 : Hp) (ps hs : List Addr) (Γ : Env) (P : List D → Env → Prop) (F : EZ), SE K H0 ps hs Γ σ H ∧ t Γ P F ∧ (∀ ds Γ2 vs H2, P ds Γ2 → SE K H0 ps hs Γ2 σ H2 → Km hs Γ H Γ2 H2 → Reps K (hid (hs ++ adr Γ) H2) vs ds → Q vs H2) ∧ ExZ K W H0 ps hs Γ σ H F
section
variable {X : Cx} {W : WX}
def zP (t : XT) : ZT := fun Γ P _ => t Γ fun d => P d Γ
theorem zx {e : Expr} {t : XT} (h : PE X e (Li X.K t)) : PE X e (Lz X.K W (zP t)) := pe_imp h fun σ H Q ⟨H0, ps, hs, Γ, P, F, se, ht, k, _⟩ => ⟨H0, ps, hs, Γ, _, se, ht, fun d v H2 p e r => k d Γ v H2 p (se.mono e) (Km.ex e) r⟩
def zM (t : IT) : ZT := fun Γ P _ => t Γ P
theorem zx_m {e : Expr} {t : IT} (h : PE X e (Lm X.K t)) : PE X e (Lz X.K W (zM t)) := pe_imp h fun σ H Q ⟨H0, ps, hs, Γ, P, F, se, ht, k, _⟩ => ⟨H0, ps, hs, Γ, P, se, ht, k⟩
def zTP (t : BT) : ZB := fun Γ P _ => t Γ fun b => P b Γ
theorem tz {e : Expr} {t : BT} (h : PT X e (Lt X.K t)) : PT X e (LzT X.K W (zTP t)) := pt_imp h fun σ H Q ⟨H0, ps, hs, Γ, P, F, se, ht, k, _⟩ => ⟨H0, ps, hs, Γ, _, se, ht, fun b H2 p e => k b Γ H2 p (se.mono e) (Km.ex e)⟩
theorem res_datM {K : Frag} {H0 : Hp} {ps hs : List Addr} {Γ : Env} {σ : St} {H H2 : Hp} {v : V} {r : Rs} (se : SE K H0 ps hs Γ σ H) (ro : ResOk K H (hs ++ adr Γ) H2 v r) : Rep K (hid (hs ++ adr Γ) H2) v r.dat := res_dat se.bs.fresh ro
def zD (t : ZR) : ZT := fun Γ P F => t Γ (fun r => P r.dat) F
theorem zx_r {e : Expr} {t : ZR} (h : PE X e (LzR X.K W t)) : PE X e (Lz X.K W (zD t)) := pe_imp h fun σ H Q ⟨H0, ps, hs, Γ, P, F, se, ht, k, x⟩ => ⟨H0, ps, hs, Γ, _, F, se, ht, fun r Γ2 v H2 p se2 k2 ro => k _ Γ2 v H2 p se2 k2 (res_datM se ro), x⟩
/-! ### operators -/
def z2 (f : F2) (ta tb : ZT) : ZT := fun Γ P F => ta Γ (fun d Γ1 => tb Γ1 (fun e Γ2 => f d e fun z => P z Γ2) F) F
def bz2 (f : F2) (ta tb : ZT) : ZB := fun Γ P F => ta Γ (fun d Γ1 => tb Γ1 (fun e Γ2 => f d e fun z => match z with
  | .bl b => P b Γ2
  | _ => False) F) F
theorem zbin_of {σ : St} {H : Hp} {Q : VK} {r : R2} {f : F2} {ta tb : ZT} (hd : Does X.K r f) (h : Lz X.K W (z2 f ta tb) σ H Q) : tOp r (Lz X.K W ta) (Lz X.K W tb) σ H Q := by
  obtain ⟨H0, ps, hs, Γ, P, F, se, ht, k, xz⟩ := h
  refine ⟨H0, ps, hs, Γ, _, F, se, ht, fun d Γ1 x H1 h1 se1 k1 r1 => ?_, xz⟩
  refine ⟨H0, ps, hs, Γ1, _, F, se1, h1, fun e Γ2 y H2 h2 se2 k2 r2 => ?_, xz.from k1⟩
  have bs2 := se2.bs
  rw [k2.1, k1.1] at bs2
  rw [k1.1] at r2
  have z2 := k2.x
  rw [k1.1] at z2
  exact hd _ H2 x y d e _ Q bs2 (.im (r1.mono z2)) (.im r2) h2 fun z v H3 hz e3 r3 => k z Γ2 v H3 hz (se2.mono e3) ((k1.trans k2).trans (Km.ex e3)) r3
theorem z_bin {op : Operator} {a b : Expr} {pos : Pos} {r : R2} {f : F2} {ta tb : ZT} (ho : OpR X (binaryOp op) r) (hd : Does X.K r f) (ha : PE X a (Lz X.K W ta)) (hb : PE X b (Lz X.K W tb)) : PE X (.BinOp a op b pos) (Lz X.K W (z2 f ta tb)) :=
  pe_imp (pe_op ho ha hb) fun _ _ _ h => zbin_of hd h
theorem z_cmp {op : CmpOp} {a b : Expr} {pos : Pos} {r : R2} {f : F2} {ta tb : ZT} (ho : OpR X (compareOp op) r) (hd : Does X.K r f) (ha : PE X a (Lz X.K W ta)) (hb : PE X b (Lz X.K W tb)) (hm : behindInMarks op b = false := by first | exact nomark _ | rfl) : PE X (.Compare a [op] [b] pos) (Lz X.K W (z2 f ta tb)) :=
  pe_imp (pe_cmpR ho ha hb hm) fun _ _ _ h => zbin_of hd h
theorem tz_cmp {op : CmpOp} {a b : Expr} {pos : Pos} {r : R2} {f : F2} {ta tb : ZT} (ho : OpR X (compareOp op) r) (hd : Does X.K r f) (ha : PE X a (Lz X.K W ta)) (hb : PE X b (Lz X.K W tb)) (hm : behindInMarks op b = false := by first | exact nomark _ | rfl) : PT X (.Compare a [op] [b] pos) (LzT X.K W (bz2 f ta tb)) :=
  pt_imp (pt_cmpR ho ha hb hm) fun σ H Q ⟨H0, ps, hs, Γ, P, F, se, ht, k, xz⟩ => zbin_of hd ⟨H0, ps, hs, Γ, (fun z Γ2 => match z with
    | .bl b => P b Γ2
    | _ => False), F, se, ht, fun d Γ2 v H2 p se2 k2 r => (by
    cases d with
    | bl c =>
      cases r
      exact ⟨c, rfl, k c Γ2 H2 p se2 k2⟩
    | _ => exact p.elim), xz⟩
theorem z_ix {a b : Expr} {pos : Pos} {ta tb : ZT} (ha : PE X a (Lz X.K W ta)) (hb : PE X b (Lz X.K W tb)) (hs : PlainIx b := by exact fun _ _ => rfl) : PE X (.Subscript a b pos) (Lz X.K W (z2 fIx ta tb)) :=
  pe_imp (pe_ix ix_seq ha hb hs) fun _ _ _ h => zbin_of does_ix h
/-! ### tests -/
def zTru (t : ZT) : ZB := fun Γ P F => t Γ (fun d Γ2 => match d with
  | .non => P false Γ2
  | .bl b => P b Γ2
  | .int i => P (i != 0) Γ2
  | .lst xs => P (!xs.isEmpty) Γ2
  | .tup xs => P (!xs.isEmpty) Γ2
  | _ => False) F
theorem tz_tru {a : Expr} {t : ZT} (ha : PE X a (Lz X.K W t)) (he : ∀ whole, isTrue a X.env whole = (do let v ← whole; standAt a.pos; holding [v] (truthy v)) := by intro _; rfl) : PT X a (LzT X.K W (zTru t)) :=
  pt_imp (pt_truth ha he) fun σ H Q ⟨H0, ps, hs, Γ, P, F, se, ht, k, xz⟩ => ⟨H0, ps, hs, Γ, _, F, se, ht, fun d Γ2 v H2 p se2 k2 r => (by
    have em : Ex (hid (hs ++ adr Γ) H2) H2 := hid_ex
    have rw_ := RepW.im (H := H2) r
    cases d with
    | non => cases r; exact ⟨false, rfl, k _ Γ2 H2 p se2 k2⟩
    | bl b => cases r; exact ⟨b, rfl, k _ Γ2 H2 p se2 k2⟩
    | int i => cases r; exact ⟨_, rfl, k _ Γ2 H2 p se2 k2⟩
    | lst xs => obtain ⟨a, vs, rfl, h, q⟩ := rw_.list em; exact ⟨_, .inl ⟨vs, SqL.of h, reps_empty q⟩, k _ Γ2 H2 p se2 k2⟩
    | tup xs => obtain ⟨a, vs, rfl, h, q⟩ := rw_.tuple em; exact ⟨_, .inr (.inl ⟨vs, h, reps_empty q⟩), k _ Γ2 H2 p se2 k2⟩
    | _ => exact p.elim), xz⟩
def zNot (t : ZB) : ZB := fun Γ P F => t Γ (fun b => P (!b)) F
theorem tz_not {a : Expr} {pos : Pos} {t : ZB} (ha : PT X a (LzT X.K W t)) : PT X (.UnaryOp .Not a pos) (LzT X.K W (zNot t)) := pt_imp (pt_not ha) fun σ H Q ⟨H0, ps, hs, Γ, P, F, se, ht, k, xz⟩ => ⟨H0, ps, hs, Γ, _, F, se, ht, fun b Γ2 H2 p se2 k2 => k _ Γ2 H2 p se2 k2, xz⟩
def zAnd (t u : ZB) : ZB := fun Γ P F => t Γ (fun b Γ2 => (b = true → u Γ2 P F) ∧ (b = false → P false Γ2)) F
def zOr (t u : ZB) : ZB := fun Γ P F => t Γ (fun b Γ2 => (b = true → P true Γ2) ∧ (b = false → u Γ2 P F)) F
theorem tzw_and1 {a : Expr} {pos : Pos} {t : ZB} (ha : PT X a (LzT X.K W t)) : PW X (.BoolOp .And [a] pos) (LzT X.K W t) := pw_and1 ha
theorem tzw_or1 {a : Expr} {pos : Pos} {t : ZB} (ha : PT X a (LzT X.K W t)) : PW X (.BoolOp .Or [a] pos) (LzT X.K W t) := pw_or1 ha
theorem tzw_and {a b : Expr} {rest : List Expr} {pos : Pos} {t u : ZB} (ha : PT X a (LzT X.K W t)) (hb : PW X (.BoolOp .And (b :: rest) pos) (LzT X.K W u)) : PW X (.BoolOp .And (a :: b :: rest) pos) (LzT X.K W (zAnd t u)) :=
  pw_imp (pw_and ha hb) fun σ H Q ⟨H0, ps, hs, Γ, P, F, se, ht, k, xz⟩ => ⟨H0, ps, hs, Γ, _, F, se, ht, fun b Γ2 H2 p se2 k2 => (by
    cases b with
    | true => exact iteT ⟨H0, ps, hs, Γ2, P, F, se2, p.1 rfl, fun b Γ3 H3 q se3 k3 => k b Γ3 H3 q se3 (k2.trans k3), xz.from k2⟩
    | false => exact iteF (k _ Γ2 H2 (p.2 rfl) se2 k2)), xz⟩
theorem tzw_or {a b : Expr} {rest : List Expr} {pos : Pos} {t u : ZB} (ha : PT X a (LzT X.K W t)) (hb : PW X (.BoolOp .Or (b :: rest) pos) (LzT X.K W u)) : PW X (.BoolOp .Or (a :: b :: rest) pos) (LzT X.K W (zOr t u)) :=
  pw_imp (pw_or ha hb) fun σ H Q ⟨H0, ps, hs, Γ, P, F, se, ht, k, xz⟩ => ⟨H0, ps, hs, Γ, _, F, se, ht, fun b Γ2 H2 p se2 k2 => (by
    cases b with
    | true => exact iteT (k _ Γ2 H2 (p.1 rfl) se2 k2)
    | false => exact iteF ⟨H0, ps, hs, Γ2, P, F, se2, p.2 rfl, fun b Γ3 H3 q se3 k3 => k b Γ3 H3 q se3 (k2.trans k3), xz.from k2⟩), xz⟩
theorem tz_w {e : Expr} {t : ZB} (h : PW X e (LzT X.K W t)) : PT X e (LzT X.K W t) := h.pt
/-! ### arguments, displays -/
def zNil : ZA := fun Γ P _ => P [] Γ
def zCons (t : ZT) (u : ZA) : ZA := fun Γ P F => t Γ (fun d Γ1 => u Γ1 (fun ds Γ2 => P (d :: ds) Γ2) F) F
theorem az_nil : PA X [] (LzA X.K W zNil) := pa_imp pa_nil fun σ H Q ⟨H0, ps, hs, Γ, P, F, se, ht, k, x⟩ => k [] Γ [] H ht se (Km.ex (Same.refl H)) .nil
theorem az_cons {e : Expr} {es : List Expr} {t : ZT} {u : ZA} (he : PE X e (Lz X.K W t)) (hs : PA X es (LzA X.K W u)) (hx : starEach (e :: es) X.env = (false, eval e X.env) :: starEach es X.env := by rfl) : PA X (e :: es) (LzA X.K W (zCons t u)) :=
  pa_imp (pa_cons he hs hx) fun σ H Q ⟨H0, ps, hs, Γ, P, F, se, ht, k, xz⟩ => ⟨H0, ps, hs, Γ, _, F, se, ht, fun d Γ1 v H1 p se1 k1 r => ⟨H0, ps, hs, Γ1, _, F, se1, p, fun ds Γ2 vs H2 q se2 k2 r2 => (by
    have z2 := k2.x
    rw [k1.1] at z2 r2
    exact k _ Γ2 _ H2 q se2 (k1.trans k2) (.cons (r.mono z2) r2)), xz.from k1⟩, xz⟩
def zTup (t : ZA) : ZT := fun Γ P F => t Γ (fun ds Γ2 => ds.length ≤ sizeLine ∧ P (.tup ds) Γ2) F
theorem z_tup {es : List Expr} {x1 : Nat} {pos : Pos} {t : ZA} (h : PA X es (LzA X.K W t)) : PE X (.Tuple es x1 pos) (Lz X.K W (zTup t)) := pe_imp (pe_tup h) fun σ H Q ⟨H0, ps, hs, Γ, P, F, se, ht, k, xz⟩ => ⟨H0, ps, hs, Γ, _, F, se, ht, fun ds Γ2 vs H2 p se2 k2 r => (by
  have bs2 := se2.bs
  rw [k2.1] at bs2
  exact ⟨by rw [r.length]; exact p.1, fun q n => k _ Γ2 _ _ p.2 (se2.mono (Ex.new n)) (k2.trans (Km.ex (Ex.new n))) (rep_newT bs2 n r)⟩), xz⟩
def zLst (t : ZA) : ZT := fun Γ P F => t Γ (fun ds Γ2 => ds.length ≤ sizeLine ∧ P (.lst ds) Γ2) F
theorem z_lst {es : List Expr} {pos : Pos} {t : ZA} (h : PA X es (LzA X.K W t)) : PE X (.List es pos) (Lz X.K W (zLst t)) := pe_imp (pe_lst h) fun σ H Q ⟨H0, ps, hs, Γ, P, F, se, ht, k, xz⟩ => ⟨H0, ps, hs, Γ, _, F, se, ht, fun ds Γ2 vs H2 p se2 k2 r => (by
  have bs2 := se2.bs
  rw [k2.1] at bs2
  exact ⟨by rw [r.length]; exact p.1, fun q n => k _ Γ2 _ _ p.2 (se2.mono (Ex.new n)) (k2.trans (Km.ex (Ex.new n))) (rep_newL bs2 n r)⟩), xz⟩
/-! ### calls -/
theorem reps_args {K : Frag} {hs : List Addr} {H : Hp} : ∀ {vs : List V} {ds : List D}, Reps K (hid hs H) vs ds → Args K hs H vs (ds.map Slot.im)
  | _, _, .nil => .nil
  | _, _, .cons r t => .cons (s := .im _) r rfl (reps_args t)
theorem res_backM {K : Frag} {hs : List Addr} {Γ Γ2 : Env} {H H2 H' : Hp} {v : V} {r : Rs} (bs2 : Bs (hs ++ adr Γ) H2) (k2 : Km hs Γ H Γ2 H2) (ro : ResOk K H2 (hs ++ adr Γ) H' v r) : ResOk K H (hs ++ adr Γ) H' v r := by
  have nn : ∀ p, H2 p = none → H p = none := fun p n => by
    cases z : H p with
    | none => rfl
    | some o =>
      by_cases hp : p ∈ hs ++ adr Γ
      · exact absurd n (bs2 p hp)
      · have q := k2.x p o (by rw [hid_ni hp]; exact z)
        rw [hid_ni hp, n] at q
        cases q
  cases r with
  | d d => exact ro
  | fl ds => obtain ⟨p, vs, h1, h2, h3⟩ := ro; exact ⟨p, vs, h1, nn p h2, h3⟩
  | fd es => obtain ⟨p, vs, h1, h2, h3⟩ := ro; exact ⟨p, vs, h1, nn p h2, h3⟩
  | ft es => obtain ⟨p, vs, h1, h2, h3⟩ := ro; exact ⟨p, vs, h1, nn p h2, h3⟩
def zCl (S : SP) (t : ZA) : ZR := fun Γ P F => t Γ (fun ds Γ2 => S.S (ds.map Slot.im) fun r => P r Γ2) F
theorem zcall_li {S : SP} {t : ZA} {E : XK} (σ : St) (H : Hp) (Q : VK) (h : LzR X.K W (zCl S t) σ H Q) : tCall (spP X.K S) [] E (LzA X.K W t) σ H Q := by
  obtain ⟨H0, ps, hs, Γ, P, F, se, ht, k, xz⟩ := h
  refine ⟨H0, ps, hs, Γ, _, F, se, ht, fun ds Γ2 vs H2 p se2 k2 r2 => ?_, xz⟩
  show spP X.K S (vs ++ []) H2 Q E
  rw [List.append_nil]
  have bs2 := se2.bs
  rw [k2.1] at bs2
  exact ⟨hs ++ adr Γ, _, reps_args r2, bs2, S.mon _ _ _ (fun r hr v H' e3 ro => k r Γ2 v H' hr (se2.mono e3) (k2.trans (Km.ex e3)) (res_backM bs2 k2 ro)) p⟩
theorem z_call {x : Str} {k : Nat} {S : SP} {e : Expr} {es : List Expr} {p pos : Pos} {t : ZA} (F : Df X.prog X.w X.K X.mg X.base x k (spP X.K S)) (hr : Room k X.A) (ha : PA X (e :: es) (LzA X.K W t)) (hg : Gl X x := by rfl) (hd : (x == ("__debug__" : Str)) = false := by decide)
    (he : starEach (e :: es) X.env = (false, eval e X.env) :: starEach es X.env := by rfl) (hpl : (backTo pos (starEach es X.env)).any (·.1) = false := by rfl) : PE X (.Call (.Name x p) (e :: es) [] pos) (LzR X.K W (zCl S t)) := by
  obtain ⟨f, fd, ps, h1, h2, h3, h4⟩ := F.ex
  exact pe_imp (pe_call h1 hr hg h2 h3 h4 .nil pass0 ha hd he hpl) zcall_li
/-- a def that may raise; pure arguments -/
def zClX (S : SPX) (t : AT) : ZR := fun Γ P F => t Γ fun as => S.S as (fun r => P r Γ) fun C fs => F C fs Γ
structure DfX (P : Program) (w : World) (K : Frag) (mg : Str → Option Value) (base : Heap) (x : Str) (k : Nat) (sp : Sp) : Prop where
  ex : ∃ (f : Addr) (fd : FuncData) (ps : List Str), FnOk P w K mg base (L2.CX P w) k f fd ps sp ∧ mg x = some (.ref f) ∧ PySem.W.keepIn K (.ref f) = true ∧ Binds K fd ps []
theorem zcallX_li {S : SPX} {t : AT} (σ : St) (H : Hp) (Q : VK) (h : LzR X.K W (zClX S t) σ H Q) : tCallS (spX X.K S) (WE W) (LaX X.K t) σ H Q := by
  obtain ⟨H0, ps, hs, Γ, P, F, se, ht, k, xz⟩ := h
  refine ⟨H0, ps, hs, Γ, _, se, ht, fun as vs H2 p e ar => ?_⟩
  exact ⟨hs ++ adr Γ, as, ar, (se.mono e).bs, S.mon _ _ _ _ _ (fun r hr v H' e3 ro => k r Γ v H' hr (se.mono (e.trans e3)) (Km.ex (e.trans e3)) (res_back e ro)) (fun C fs q d H' e3 xd => xz C fs Γ H' d q (se.mono (e.trans e3)) (Km.ex (e.trans e3)) xd) p⟩
theorem z_callX {x : Str} {k : Nat} {S : SPX} {e : Expr} {es : List Expr} {p pos : Pos} {t : AT} (tk : Takes X W) (F : DfX X.prog X.w X.K X.mg X.base x k (spX X.K S)) (hr : Room k X.A) (ha : PA X (e :: es) (LaX X.K t)) (hg : Gl X x := by rfl) (hd : (x == ("__debug__" : Str)) = false := by decide)
    (he : starEach (e :: es) X.env = (false, eval e X.env) :: starEach es X.env := by rfl) (hpl : (backTo pos (starEach es X.env)).any (·.1) = false := by rfl) : PE X (.Call (.Name x p) (e :: es) [] pos) (LzR X.K W (zClX S t)) := by
  obtain ⟨f, fd, ps, h1, h2, h3, h4⟩ := F.ex
  exact pe_imp (pe_callS h1 hr hg h2 h3 h4 (fun σ => passAt tk σ) ha hd he hpl) zcallX_li
/-! ### statements -/
def sAsgZ (i : Nat) (t : ZT) : ST := fun E Γ => t Γ (fun d Γ2 => E.nx (Γ2.set i (some (.im d)))) E.ex
theorem ex_of_rel {H0 : Hp} {ps hs : List Addr} {Γ : Env} {σ : St} {H : Hp} {E : En} {D : Ends} {K : Frag} (r : Rel W K H0 ps hs Γ H E D) : ExZ K W H0 ps hs Γ σ H E.ex := fun C fs Γ2 H2 d a b c x => r.ex C fs Γ2 σ H2 d a b c.kp (by rw [c.1]; exact x)
theorem asgZ_li {K : Frag} {i : Nat} {t : ZT} (D : Ends) (σ : St) (H : Hp) (h : Ls K W (sAsgZ i t) D σ H) : tAsg (Lz K W t) (gName i) D σ H := by
  obtain ⟨H0, ps, hs, Γ, E, se, ht, r⟩ := h
  exact ⟨H0, ps, hs, Γ, _, _, se, ht, fun d Γ2 v H2 p se2 k2 ro => r.nx _ _ H2 p (se2.set_im (by rw [k2.1]; exact ro) i) (k2.kp.trans (kp_set_im (Same.refl H2))), ex_of_rel r⟩
theorem s_asgZ {i : Nat} {x : Str} {e : Expr} {t : ZT} {pos pos' : Pos} (hN : X.N.Nodup) (he : PE X e (Lz X.K W t)) (hi : X.N[i]? = some x := by rfl) (hx : Loc X.env.scope x := by first | exact Or.inl rfl | exact Or.inr rfl) (hs : swapsWith e (some (.Name x pos')) pos.line X.env = pure false := by rfl) (hf : X.fn x = true ∨ X.env.scope.names.lookup x = some .local := by first | exact .inl rfl | exact .inr rfl | assumption) :
    PS X (.Assign [.Name x pos'] e pos) (Ls X.K W (sAsgZ i t)) := ps_imp (ps_set hN hi hx he hs hf) asgZ_li
def sRetZ (t : ZT) : ST := fun E Γ => t Γ (fun d Γ2 => E.rt (.d d) Γ2) E.ex
theorem s_retZ {e : Expr} {pos : Pos} {t : ZT} (h : PE X e (Lz X.K W t)) : PS X (.Return (some e) pos) (Ls X.K W (sRetZ t)) := ps_imp (ps_ret h) fun D σ H ⟨H0, ps, hs, Γ, E, se, ht, r⟩ =>
  ⟨H0, ps, hs, Γ, _, _, se, ht, fun d Γ2 v H2 p se2 k2 rr => r.rt (.d d) Γ2 σ v H2 p se2 (rep_out rr), ex_of_rel r⟩
def sIfZ (c : ZB) (t u : ST) : ST := fun E Γ => c Γ (fun b Γ2 => (b = true → t E Γ2) ∧ (b = false → u E Γ2)) E.ex
theorem s_ifZ {c : Expr} {a b : List Stmt} {pos : Pos} {tc : ZB} {t u : ST} (hc : PT X c (LzT X.K W tc)) (ha : PSs X a (Ls X.K W t)) (hb : PSs X b (Ls X.K W u)) : PS X (.If c a b pos) (Ls X.K W (sIfZ tc t u)) := ps_imp (ps_if hc ha hb) fun D σ H ⟨H0, ps, hs, Γ, E, se, ht, r⟩ =>
  ⟨H0, ps, hs, Γ, _, _, se, ht, fun b Γ2 H2 p se2 k2 => (by
    cases b with
    | true => exact iteT ⟨H0, ps, hs, Γ2, E, se2, p.1 rfl, r.from k2.kp⟩
    | false => exact iteF ⟨H0, ps, hs, Γ2, E, se2, p.2 rfl, r.from k2.kp⟩), ex_of_rel r⟩
def sDropZ (t : ZT) : ST := fun E Γ => t Γ (fun _ Γ2 => E.nx Γ2) E.ex
theorem s_dropZ {e : Expr} {t : ZT} {pos : Pos} (he : PE X e (Lz X.K W t)) (hs : swapsWith e none pos.line X.env = pure false := by rfl) : PS X (.Expr e pos) (Ls X.K W (sDropZ t)) := ps_imp (ps_expr he hs) fun D σ H ⟨H0, ps, hs, Γ, E, se, ht, r⟩ =>
  ⟨H0, ps, hs, Γ, _, _, se, ht, fun d Γ2 v H2 p se2 k2 rr => r.nx Γ2 σ H2 p se2 k2.kp, ex_of_rel r⟩
end
section
variable {P : Program} {w : World} {K : Frag} {mg : Str → Option Value} {base : Heap}
/-- a def that may raise, by its body -/
theorem fn_spcX {x qual : Str} {params : Arguments} {body : List Stmt} {scope : Scope} {dvs : List V} {kws : List (Str × V)} {f : Addr} {fd : FuncData} {N ps : List Str} {k : Nat} {α : Type} {args : α → List Slot} {pre : α → Prop} {post : α → Rs → Prop} {exc : α → EF}
    (F : FunD K x qual params body scope dvs kws f fd) (Sc : FnScope N ps scope) (G : α → Env)
    (hb : ∀ (cdv : Value) (A : Around) (outer : List PySem.Env) (s : Shared) (H : Hp) (E : XK), Room k (A.deeper (PyProof.Rows.envOfC qual scope s.heap.objs.size f cdv)) →
      ∃ t, PSs (cxOf (L2.CX P w) P w K mg base N qual scope f cdv A outer s H E) body (Ls K (fun cls d _ H => E cls d H) t) ∧ ∀ x (R : Rs → Prop) (F : EF), pre x → (∀ r, post x r → R r) → (∀ C fs, exc x C fs → F C fs) → t { nx := fun _ => R (.d .non), rt := fun r _ => R r, ex := fun C fs _ => F C fs } (G x))
    (hG : ∀ x, env0 (args x) N.length = G x := by intro _; rfl) (hlen : ∀ x, (args x).length = ps.length := by intro _; rfl) : FnOk P w K mg base (L2.CX P w) (k + 1) f fd ps (spX K (spcX args pre post exc)) := by
  refine F.ok Sc (fun vs H Q E h => ?_) fun cdv A outer s H vs Q E hr h => ?_
  · obtain ⟨hs, as, a, _, x, rfl, _⟩ := h
    rw [a.len]
    exact hlen x
  · obtain ⟨hs, as, a, bb, x, rfl, hp, hR, hX⟩ := h
    obtain ⟨t, h1, h2⟩ := hb cdv A outer s H E hr
    have z := h2 x _ _ hp hR hX
    rw [← hG x] at z
    exact ⟨Ls K _ t, h1, H, [], hs, _, _, a.se bb, z, ⟨fun Γ' σ' H' q se _ => q .non H' (fun a o e => se.fr a o (by simp) e) .non, fun r Γ' σ' v H' q se ro => q v H' (fun a o e => se.fr a o (by simp) e) ro, fun _ _ _ q => q.elim, fun _ _ _ q => q.elim, fun C fs Γ' σ' H' d q se _ xd => q d H' (fun a o e => se.fr a o (by simp) e) xd.out⟩⟩
/-! ### an __init__ that may raise -/
structure SIX where
  S : List D → (List (Str × D) → Prop) → EF → Prop
  mon : ∀ as (R R' : List (Str × D) → Prop) (F F' : EF), (∀ r, R r → R' r) → (∀ C fs, F C fs → F' C fs) → S as R F → S as R' F'
def spcIX {α : Type} (args : α → List D) (pre : α → Prop) (post : α → List (Str × D) → Prop) (exc : α → EF) : SIX :=
  ⟨fun as R F => ∃ x, as = args x ∧ pre x ∧ (∀ r, post x r → R r) ∧ ∀ C fs, exc x C fs → F C fs, fun as R R' F F' h1 h2 ⟨x, a, b, c, d⟩ => ⟨x, a, b, fun r q => h1 r (c r q), fun C fs q => h2 C fs (d C fs q)⟩⟩
def spIX (K : Frag) (C : Addr) (S : SIX) : Sp := fun vs H Q E => ∃ hs l dx us as, vs = .ref l :: us ∧ Reps K (hid hs H) us as ∧ Bs hs H ∧ l ∈ hs ∧ H l = some (.ins C dx []) ∧
  S.S as (fun fs => ∀ H', (∀ a o, a ≠ l → H a = some o → H' a = some o) → (∃ dx' fvs, H' l = some (.ins C dx' fvs) ∧ fvs.map (·.1) = fs.map (·.1) ∧ Reps K (hid hs H') (fvs.map (·.2)) (fs.map (·.2))) → Q .non H')
    fun C' fs => ∀ d H', (∀ a o, a ≠ l → H a = some o → H' a = some o) → ExD K hs H' d fs → E (.ref C') d H'
theorem fn_initX {x qual : Str} {params : Arguments} {body : List Stmt} {scope : Scope} {dvs : List V} {kws : List (Str × V)} {f : Addr} {fd : FuncData} {N ps : List Str} {k : Nat} {α : Type} {args : α → List D} {pre : α → Prop} {post : α → List (Str × D) → Prop} {exc : α → EF} {n0 : Str} {C : Addr}
    (F : FunD K x qual params body scope dvs kws f fd) (Sc : FnScope (n0 :: N) (n0 :: ps) scope) (G : Addr → α → Env)
    (hb : ∀ (cdv : Value) (A : Around) (outer : List PySem.Env) (s : Shared) (H : Hp) (E : XK), Room k (A.deeper (PyProof.Rows.envOfC qual scope s.heap.objs.size f cdv)) →
      ∃ t, PSs (cxOf (L2.CX P w) P w K mg base (n0 :: N) qual scope f cdv A outer s H E) body (Ls K (fun cls d _ H => E cls d H) t) ∧ ∀ l x (R : List (Str × D) → Prop) (F : EF), pre x → (∀ r, post x r → R r) → (∀ C fs, exc x C fs → F C fs) → t { nx := fun Γ => ∃ fs, Γ[0]? = some (some (.mi l C fs)) ∧ R fs, rt := fun _ _ => False, ex := fun C fs _ => F C fs } (G l x))
    (hG : ∀ l x, some (.mi l C []) :: envD (args x) N.length = G l x := by intro _ _; rfl) (hlen : ∀ x, (args x).length = ps.length := by intro _; rfl) : FnOk P w K mg base (L2.CX P w) (k + 1) f fd (n0 :: ps) (spIX K C (spcIX args pre post exc)) := by
  refine F.ok Sc (fun vs H Q E h => ?_) fun cdv A outer s H vs Q E hr h => ?_
  · obtain ⟨hs, l, dx, us, as, rfl, a, _, _, _, x, rfl, _⟩ := h
    simp [a.length, hlen x]
  · obtain ⟨hs, l, dx, us, as, rfl, a, bb, hl, hw, x, rfl, hp, hR, hX⟩ := h
    obtain ⟨t, h1, h2⟩ := hb cdv A outer s H E hr
    have hst : L2.start (n0 :: N) (.ref l :: us) = some (.ref l) :: (us.map some ++ List.replicate (N.length - us.length) none) := by
      unfold L2.start
      simp
    have se : SE K H [l] hs (G l x) (L2.start (n0 :: N) (.ref l :: us)) H := by
      rw [← hG, hst]
      exact se_first a bb hl rfl rfl ⟨rfl, dx, [], hw, rfl, .nil⟩
    refine ⟨Ls K _ t, h1, H, [l], hs, _, _, se, h2 l x _ _ hp hR hX, ⟨fun Γ' σ' H' ⟨fs, hz, q⟩ se' _ => ?_, fun r Γ' σ' v H' q => q.elim, fun _ _ _ q => q.elim, fun _ _ _ q => q.elim, fun C' fs Γ' σ' H' d q se' _ xd => q d H' (fun a o h q => se'.fr a o (fun m => h (List.mem_singleton.mp m)) q) xd.out⟩⟩
    obtain ⟨v, _, _, dx', ws, g2, g3, g4⟩ := se'.ok 0 _ hz
    exact q H' (fun a o h q => se'.fr a o (fun m => h (List.mem_singleton.mp m)) q) ⟨dx', ws, g2, g3, g4.mono (hid_sub fun a m => List.mem_append_left _ m)⟩
structure DcX (P : Program) (w : World) (K : Frag) (mg : Str → Option Value) (base : Heap) (x : Str) (C : Addr) (k : Nat) (S : SIX) (dvs : List V) : Prop where
  ex : ∃ (f : Addr) (fd : FuncData) (ps : List Str) (ds : List Value), FnOk P w K mg base (L2.CX P w) k f fd ps (spIX K C S) ∧ Mk K C f ∧ mg x = some (.ref C) ∧ Binds K fd ps ds ∧ Vals dvs ds
end
/-! ### C(..), its __init__ may raise -/
section
variable {X : Cx} {W : WX} {CX : CXT} {k : Nat} {f C : Addr} {fd : FuncData} {ps : List Str} {sp : Sp} {dvs : List V} {ds : List Value}
def tMakeY (C : Addr) (sp : Sp) (dvs : List V) (E : St → XK) (t : TA) : TE := fun σ H Q => t σ H fun vs H1 => ∀ x dx, H1 x = none → H1 dx = none → dx ≠ x → sp (.ref x :: (vs ++ dvs)) (upd (upd H1 dx (.own x)) x (.ins C dx [])) (fun v H2 => v = .non ∧ Q (.ref x) H2) (E σ)
theorem run_makeY {E : St → XK} {pins : List (Addr × Obj)} {σ : St} {H : Hp} {s : Shared} {Q : VK} {us : List Value} {vs : List V} (mk : Mk X.K C f) (fo : FnOk X.prog X.w X.K X.mg X.base CX k f fd ps sp) (room : Room (k + 1) X.A) (hb : Binds X.K fd ps ds) (hv : Vals dvs ds) (pas : PassesAt CX X σ (E σ)) (I : Inv X pins σ H s) (r : Vals vs us)
    (h : ∀ x dx, H x = none → H dx = none → dx ≠ x → sp (.ref x :: (vs ++ dvs)) (upd (upd H dx (.own x)) x (.ins C dx [])) (fun v H2 => v = .non ∧ Q (.ref x) H2) (E σ)) : wpAny (model X.prog X.w) X.A (call (.ref C) us) (EP X pins σ Q) X.xe s := by
  have q0 := h (s.heap.objs.size + 1) s.heap.objs.size (I.hok.fresh (Nat.le_succ _)) (I.hok.fresh (Nat.le_refl _)) (Nat.ne_of_lt (Nat.lt_succ_self _))
  have J := Inv.made (C := C) I
  have rr : Vals (V.ref (s.heap.objs.size + 1) :: (vs ++ dvs)) (Value.ref (s.heap.objs.size + 1) :: (us ++ ds)) := .cons rfl (r.append hv)
  have len : (Value.ref (s.heap.objs.size + 1) :: us ++ ds).length = ps.length := (rr.length.symm).trans (fo.len _ _ _ _ q0)
  have go := fo.run _ X.stack _ _ ⟨Value.ref (s.heap.objs.size + 1) :: us, []⟩ (Value.ref (s.heap.objs.size + 1) :: (us ++ ds)) _ _ (E σ) (room.make C us []) (J.env0.make C us []) (hb _ (Value.ref (s.heap.objs.size + 1) :: us) J.kIn len) rr q0
  refine wpAny_call (make_map (f := f) I.kIn mk.makes mk.init (beq_iff_eq.mp mk.fn) (codeAny_mono go fun res s' ans => ?_))
  match res, ans with
  | .error e, ans => exact pas pins _ _ e s' J ans
  | .ok (.ret u), ans =>
    obtain ⟨v, H', I3, rv, ev, q3⟩ := J.after ans
    cases ev
    exact ⟨rv, V.ref (s.heap.objs.size + 1), H', I3, rfl, q3⟩
  | .ok .next, ans => exact ans.elim
  | .ok .brk, ans => exact ans.elim
  | .ok .cont, ans => exact ans.elim
theorem pe_makeY {E : St → XK} {x : Str} {e : Expr} {es : List Expr} {p pos : Pos} {t : TA} (mk : Mk X.K C f) (fo : FnOk X.prog X.w X.K X.mg X.base CX k f fd ps sp) (room : Room (k + 1) X.A) (hg : Gl X x) (hm : X.mg x = some (.ref C)) (hb : Binds X.K fd ps ds) (hv : Vals dvs ds) (pas : ∀ σ, PassesAt CX X σ (E σ)) (ha : PA X (e :: es) t)
    (hdb : (x == ("__debug__" : Str)) = false := by decide) (he : starEach (e :: es) X.env = (false, eval e X.env) :: starEach es X.env := by rfl) (hpl : (backTo pos (starEach es X.env)).any (·.1) = false := by rfl) : PE X (.Call (.Name x p) (e :: es) [] pos) (tMakeY C sp dvs E t) :=
  ⟨fun pins s σ H Q I h => wpAny_Call_Name_kw (ld_glob I hg hm (PySem.W.callWith_K (h₀ := X.base) I.ok.mod.kin mk.kp (thn (ha.run pos pins s σ H _ I h) fun us s1 ⟨vs, H1, I1, r, q⟩ => ⟨I1.kIn, run_makeY mk fo room hb hv (pas σ) I1 r q⟩) he hpl) hdb)⟩
def zMk (C : Addr) (S : SIX) (t : FT) (dds : List D) : ZT := fun Γ P F => t Γ fun ds => S.S (ds ++ dds) (fun fs => P (.obj C fs) Γ) fun C' fs => F C' fs Γ
theorem zmake_li {S : SIX} {t : FT} {dds : List D} (hdv : ∀ H, Reps X.K H dvs dds) (σ : St) (H : Hp) (Q : VK) (h : Lz X.K W (zMk C S t dds) σ H Q) : tMakeY C (spIX X.K C S) dvs (WE W) (LaS X.K t) σ H Q := by
  obtain ⟨H0, ps, hs, Γ, P, F, se, ht, k, xw⟩ := h
  refine ⟨H0, ps, hs, Γ, _, se, ht, fun ds us H1 p e1 r => fun x dx nx nd ne => ?_⟩
  have se1 := se.mono e1
  have eN : Ex H1 (upd (upd H1 dx (.own x)) x (.ins C dx [])) := fun a o q => by
    rw [upd_ne (ne_of_none q nx), upd_ne (ne_of_none q nd)]; exact q
  have nms : x ∉ hs ++ adr Γ := se1.bs.new nx
  have eH : Ex (hid (hs ++ adr Γ) H1) (hid (x :: (hs ++ adr Γ)) (upd (upd H1 dx (.own x)) x (.ins C dx []))) := hid_fresh nx eN
  refine ⟨x :: (hs ++ adr Γ), x, dx, us ++ dvs, ds ++ dds, rfl, (r.mono eH).append (hdv _), fun a m => ?_, List.mem_cons_self, upd_same, S.mon _ _ _ _ _ (fun fs hf H' fr ⟨dx', fvs, g1, g2, g3⟩ => ⟨rfl, ?_⟩) (fun C' fs hf d H' fr xd => ?_) p⟩
  · rcases List.mem_cons.mp m with rfl | m
    · rw [upd_same]; intro z; cases z
    · exact (se1.bs.mono eN) a m
  · have e2 : Ex H1 H' := fun a o q => fr a o (ne_of_none q nx) (eN a o q)
    exact k _ Γ _ H' hf (se.mono (e1.trans e2)) (Km.ex (e1.trans e2)) (.obj (by rw [hid_ni nms]; exact g1) g2 (g3.mono (hid_sub fun a m => List.mem_cons_of_mem _ m)))
  · have e2 : Ex H1 H' := fun a o q => fr a o (ne_of_none q nx) (eN a o q)
    exact xw C' fs Γ H' d hf (se.mono (e1.trans e2)) (Km.ex (e1.trans e2)) (xd.sub fun a m => List.mem_cons_of_mem _ m)
theorem z_make {x : Str} {S : SIX} {e : Expr} {es : List Expr} {p pos : Pos} {t : FT} {dds : List D} (tk : Takes X W) (F : DcX X.prog X.w X.K X.mg X.base x C k S dvs) (hdv : ∀ H, Reps X.K H dvs dds) (hr : Room (k + 1) X.A) (ha : PA X (e :: es) (LaS X.K t)) (hg : Gl X x := by rfl) (hdb : (x == ("__debug__" : Str)) = false := by decide)
    (he : starEach (e :: es) X.env = (false, eval e X.env) :: starEach es X.env := by rfl) (hpl : (backTo pos (starEach es X.env)).any (·.1) = false := by rfl) : PE X (.Call (.Name x p) (e :: es) [] pos) (Lz X.K W (zMk C S t dds)) := by
  obtain ⟨f, fd, ps, ds, h1, h2, h3, h4, h5⟩ := F.ex
  exact pe_imp (pe_makeY h2 h1 hr hg h3 h4 h5 (fun σ => passAt tk σ) ha hdb he hpl) (zmake_li hdv)
end
end Kb
set_option Elab.async false
set_option linter.all false
set_option maxRecDepth 100000
set_option maxHeartbeats 1000000
/-! Kb15: lists and fields of what may raise; try .. except X as n; n.f. -/
namespace Kb
open PySem L2
set_option autoImplicit false
section
variable {X : Cx} {W : WX}
/-! ### try .. except X as n -/
def sTry (K : Frag) (c : Value) (i : Nat) (tb : ST) (ts : Addr → Value → Option Addr → ST) : ST := fun E Γ => tb { nx := E.nx, rt := E.rt, bk := E.bk, ct := E.ct, ex := fun C fs Γ' => ∃ b, PySem.W.exmOne K (.ref C) c = some b ∧
  (b = true → ∀ a d, ts a (.ref C) d { nx := fun Γ2 => E.nx (Γ2.set i none), rt := E.rt, bk := fun Γ2 => E.bk (Γ2.set i none), ct := fun Γ2 => E.ct (Γ2.set i none), ex := E.ex } (Γ'.set i (some (.im (.err a C d fs))))) ∧ (b = false → E.ex C fs Γ') } Γ
theorem kp_set_none {hs : List Addr} {Γ Γ' : Env} {H H' : Hp} {i : Nat} (k : Kp hs Γ H Γ' H') : Kp hs Γ H (Γ'.set i none) H' := k.trans (hid_sub fun a m => (adr_set_sub m).elim id fun z => by cases z)
theorem s_try_as {x n : Str} {c : Value} {i : Nat} {body suite : List Stmt} {b0 : Stmt} {np pos pos' : Pos} {tb : ST} {ts : Addr → Value → Option Addr → ST} (hs : X.stack = X.env :: X.outer) (hf : X.env.frame = some X.env.locals) (hN : X.N.Nodup) (hi : X.N[i]? = some n) (hln : X.env.kindOf n = some .local) (hc : Names X x c) (tk : Takes X W)
    (hb : ∀ (W : WX) (pn : List (Addr × Obj)) (xe : Value → Shared → Prop), Takes (X.tr pn xe) W → PassesOwn (model X.prog X.w) X.A X.env xe → PSs (X.tr pn xe) body (Ls X.K W tb))
    (hsu : ∀ (a : Addr) (oe : Obj) (cls : Value) (d : Option Addr) (pn : List (Addr × Obj)), Zc cls d oe → (∃ vs, oe.data = .fields vs) → PSs (X.suite a ((a, oe) :: pn)) (b0 :: suite) (Ls X.K W (ts a cls d))) :
    PS X (.Try body [.ExceptHandler (some (.Name x np)) (some n) (b0 :: suite) pos'] [] [] pos) (Ls X.K W (sTry X.K c i tb ts)) :=
  ps_imp (ps_try_as (i := i) (tb := fun W => Ls X.K W tb) (ts := fun a cls d => Ls X.K W (ts a cls d)) hs hf hN hi hln hc tk hb hsu) fun D σ H ⟨H0, ps, hs, Γ, E, se, ht, r⟩ => by
    refine ⟨H0, ps, hs, Γ, _, se, ht, ⟨r.nx, r.rt, r.bk, r.ct, fun C fs Γ' σ' H' d ⟨b, hb1, hb2, hb3⟩ se' kp xd => ⟨b, hb1, fun hb a na => ?_, fun hb => r.ex C fs Γ' σ' H' d (hb3 hb) se' kp xd⟩⟩⟩
    have rep : Rep X.K (hid (hs ++ adr Γ') H') (.ref a) (.err a C d fs) := by
      cases d with
      | none =>
        have e : fs = [] := xd
        subst e
        exact .err0
      | some d =>
        obtain ⟨nd, fvs, g1, g2, g3⟩ := xd
        exact .err (by rw [hid_ni nd]; exact g1) g2 g3
    have kp1 : Kp hs Γ H (Γ'.set i (some (.im (.err a C d fs)))) H' := kp.trans (kp_set_im (Same.refl H'))
    exact ⟨H0, ps, hs, _, _, se'.set_im rep i, hb2 hb a d, ⟨fun Γ2 σ2 H2 q se2 k2 => r.nx _ _ H2 q (se2.set_none i) (kp_set_none (kp1.trans k2)), r.rt, fun Γ2 σ2 H2 q se2 k2 => r.bk _ _ H2 q (se2.set_none i) (kp_set_none (kp1.trans k2)), fun Γ2 σ2 H2 q se2 k2 => r.ct _ _ H2 q (se2.set_none i) (kp_set_none (kp1.trans k2)), fun C2 fs2 Γ2 σ2 H2 d2 q se2 k2 x2 => r.ex C2 fs2 Γ2 σ2 H2 d2 q se2 (kp1.trans k2) x2⟩⟩
end
end Kb
set_option Elab.async false
set_option linter.all false
set_option maxRecDepth 100000
set_option maxHeartbeats 1000000
/-! Kb16: error classes of one's own. -/
namespace Kb
open PySem L2
set_option autoImplicit false
/-- what is read off the class of a caught error -/
structure ErrR (K : Frag) (C : Addr) (f : Str) : Prop where
  ga : PySem.W.findIn K (.ref C) "__getattribute__" = some (some (.builtin "BaseException.__getattribute__"))
  gg : PySem.W.findIn K (.ref C) "__getattr__" = some none
  no : PySem.W.findIn K (.ref C) f = some none
  sub : PySem.W.subIn K (.ref C) (.type "BaseException") = some true
  hd : PySem.W.hasDictIn K C = true
section
variable {X : Cx}
/-- the field f of the error that the suite holds at a -/
def tEFld (C a : Addr) (cls : Value) (d : Option Addr) (f : Str) (te : TE) : TE := fun σ H Q => te σ H fun x H1 => x = .ref a ∧ cls = .ref C ∧ ∃ (dd : Addr) (fvs : List (Str × V)) (v : V), d = some dd ∧ H1 dd = some (.xd fvs) ∧ fvs.lookup f = some v ∧ Q v H1
theorem pe_efld {C a : Addr} {oe : Obj} {cls : Value} {d : Option Addr} {pn : List (Addr × Obj)} {e : Expr} {te : TE} {pos : Pos} {f : Str} (T : ErrR X.K C f) (hz : Zc cls d oe) (hf : ∃ vs, oe.data = .fields vs) (he : PE (X.suite a ((a, oe) :: pn)) e te) (hb : attributeBase e f X.env (eval e X.env) = eval e X.env := by rfl) :
    PE (X.suite a ((a, oe) :: pn)) (.Attribute e f pos) (tEFld C a cls d f te) := ⟨fun pins s σ H Q I h => attr_of hb (thn (he.run pins s σ H _ I h) fun u s1 ⟨x, H1, I1, rx, ex, ec, dd, fvs, v, ed, ea, lk, q⟩ => by
    cases ex
    cases ec
    cases ed
    obtain rfl : u = Value.ref a := rx
    have pinned := (I1.pin (a, oe) (List.mem_append_left _ List.mem_cons_self)).1
    obtain ⟨vs, hd⟩ := hf
    obtain ⟨mA, hns, hr⟩ := (show ObjOk X.prog X.w H1 s1.heap dd (.xd fvs) from I1.hok dd _ ea)
    obtain ⟨od, ho, hl⟩ := lookIn_ns hns
    obtain ⟨u2, hu, ru⟩ := RelO.some_of (v := v) (o := mA f) (by rw [← lk]; exact hr f)
    have J : PySem.W.InstAt s1.heap a oe C (some od) := ⟨pinned, hz.1, by unfold PySem.W.notCls; rw [hd] <;> rfl, by rw [hz.2]; exact ho⟩
    exact HandSPX.exc_get I1.kIn J T.ga T.gg T.sub (PySem.W.findObj_own T.hd T.no rfl (by rw [hl, hu])) (handed_of ru) ⟨v, H1, I1.tok _, ru, q⟩)⟩
def xEFld (C a : Addr) (cls : Value) (d : Option Addr) (f : Str) (t : XT) : XT := fun Γ P => t Γ fun z => match z with
  | .err a' C' d' fs => a' = a ∧ C' = C ∧ cls = .ref C ∧ d = d' ∧ (match fs.lookup f with
    | some z => P z
    | none => False)
  | _ => False
theorem look_some {K : Frag} {B : Hp} : ∀ {fvs : List (Str × V)} {fs : List (Str × D)} {f : Str} {d : D}, fvs.map (·.1) = fs.map (·.1) → Reps K B (fvs.map (·.2)) (fs.map (·.2)) → fs.lookup f = some d → ∃ v, fvs.lookup f = some v ∧ Rep K B v d
  | [], [], _, _, _, _, h => by cases h
  | (x, v) :: r, (y, e) :: q, f, d, hk, hr, h => by
    simp only [List.map_cons, List.cons.injEq] at hk
    obtain ⟨rfl, hk⟩ := hk
    cases hr with
    | cons h1 h2 =>
      rw [List.lookup_cons] at h ⊢
      cases z : (f == x) with
      | true =>
        rw [z] at h
        cases h
        exact ⟨v, rfl, h1⟩
      | false =>
        rw [z] at h
        exact look_some hk h2 h
  | [], _ :: _, _, _, hk, _, _ => by simp at hk
  | _ :: _, [], _, _, hk, _, _ => by simp at hk
theorem px_efld {C a : Addr} {oe : Obj} {cls : Value} {d : Option Addr} {pn : List (Addr × Obj)} {e : Expr} {t : XT} {pos : Pos} {f : Str} (T : ErrR X.K C f) (hz : Zc cls d oe) (hf : ∃ vs, oe.data = .fields vs) (he : PE (X.suite a ((a, oe) :: pn)) e (Li X.K t)) (hb : attributeBase e f X.env (eval e X.env) = eval e X.env := by rfl) :
    PE (X.suite a ((a, oe) :: pn)) (.Attribute e f pos) (Li X.K (xEFld C a cls d f t)) := pe_imp (pe_efld T hz hf he hb) fun σ H Q ⟨H0, ps, hs, Γ, P, se, ht, k⟩ => ⟨H0, ps, hs, Γ, _, se, ht, fun z v H2 p e r => by
    cases z with
    | err a' C' d' fs =>
      obtain ⟨rfl, rfl, rfl, rfl, p⟩ := p
      cases r with
      | err0 => exact p.elim
      | err g1 g2 g3 =>
        cases z2 : fs.lookup f with
        | none => rw [z2] at p; exact p.elim
        | some w =>
          rw [z2] at p
          obtain ⟨v, lv, rv⟩ := look_some g2 g3 z2
          exact ⟨rfl, rfl, _, _, v, rfl, hid_ex _ _ g1, lv, k w v H2 p e rv⟩
    | _ => exact p.elim⟩
end
end Kb
set_option Elab.async false
set_option linter.all false
set_option maxRecDepth 100000
set_option maxHeartbeats 1000000
/-! Kb17: errors of one's own, made and raised: class X(..): def __init__(self, f, ..): super().__init__("..."); self.f = f; .. -/
namespace Kb
open PySem PySem.W PySem.Calls PyProof.Rows PySem.HandSPX
set_option autoImplicit false
abbrev EQ := Str × Pos × Pos × Pos × Pos
def eStore (q : EQ) : Stmt := .Assign [.Attribute (.Name "self" q.2.1) q.1 q.2.2.1] (.Name q.1 q.2.2.2.1) q.2.2.2.2
/-- what the written part says of the class at C and of its __init__, at fI; fl: its fields -/
structure ErrTxt (P : Program) (K : PySem.W.Frag) (mg : Str → Option Value) (x : Str) (C fI : Addr) (fl : List Str) : Prop where
  gC : mg x = some (.ref C)
  sC : mg "super" = none
  cls : ∃ nm q N bs bm sn sub ab col dd k0 k1 k2 k3 k5, K.lookup C = some (excClassObj nm q C N bs bm true sn sub ab col dd k0 k1 k2 k3 k5 "ValueError.__new__") ∧ refsVE bm = true
  sa : findIn K (.ref C) "__setattr__" = some (some (.builtin "object.__setattr__"))
  no : ∀ f ∈ fl, findIn K (.ref C) f = some none
  iC : findIn K (.ref C) "__init__" = some (some (.ref fI))
  tC : typeIn K (.ref fI) = some (.type "function")
  kC : keepIn K (.ref C) = true
  exC : subIn K (.ref C) (.type "BaseException") = some true
  veC : subIn K (.ref C) (.type "ValueError") = some true
  tyC : typeIn K (.ref C) = some (.type "type")
  sup : ks_superIn K C C "__init__" = some (some (.builtin "ValueError.__init__"))
  mro : mroIn K C (.ref C) = some true
  tp : nsIn K cStatics "thirdparty.any" = some none
  top : (P.main.scope.names.lookup ("super" : Str)).isSome = false
  fn : ∃ (oc : Value) (od : Option Addr) (qual : Str) (params : Arguments) (scope : Scope) (dV kV doc pm : Value) (an : Option Addr) (cda : Addr) (ct : Value) (cc : Addr) (osl : Array (Option Value)) (ar : Arg) (ccl : Value) (cdd : Option Addr) (vs : Array Value) (ccs : Array (Option Value)) (file : Str) (tf : Tok)
      (cl : Value) (cld : Option Addr) (csl : Array (Option Value)) (p0 p1 p2 p3 p4 p5 : Pos) (msg : Str) (j : Nat) (qs : List EQ),
    K.lookup fI = some ⟨oc, od, .func (ksFn "__init__" qual params (.Expr (.Call (.Attribute (.Call (.Name "super" p0) [] [] p1) "__init__" p2) [.Constant (.str msg) j p3] [] p4) p5 :: qs.map eStore) scope dV kV doc pm an (.ref cda) ct cc), osl⟩ ∧
    codeIn K (.ref cda) qual = true ∧ (p2.endLine == p4.line) = true ∧ qs.map (·.1) = fl ∧ (params.posonlyargs ++ params.args).head? = some ar ∧ ar.arg = "self" ∧
    K.lookup cda = some ⟨ccl, cdd, .fields vs, ccs⟩ ∧ vs[2]? = some (.str file tf) ∧ ((P.main.file : Str) == file) = true ∧ K.lookup cc = some ⟨cl, cld, .cell (some (.ref C)), csl⟩ ∧
    scope.names.lookup ("super" : Str) = some .globalImplicit ∧ scope.names.lookup ("__class__" : Str) = some .free ∧ scope.names.lookup ("self" : Str) = some .local ∧ (∀ f ∈ fl, scope.names.lookup f = some .local) ∧ scope.kind = .function ∧
    (∀ x ∈ scope.names, x.2 ≠ .cell) ∧ scope.isCoroutine = false ∧ scope.isGenerator = false ∧
    (∀ (s : Shared) (u : Value) (us : List Value), us.length = fl.length → BindsTo s (ksFn "__init__" qual params (.Expr (.Call (.Attribute (.Call (.Name "super" p0) [] [] p1) "__init__" p2) [.Constant (.str msg) j p3] [] p4) p5 :: qs.map eStore) scope dV kV doc pm an (.ref cda) ct cc) ⟨u :: us, []⟩ (("self", u) :: fl.zip us)) ∧
    ("self" : Str) ∉ fl ∧ fl.Nodup ∧ (∀ f ∈ fl, (f == ("__debug__" : Str)) = false) ∧ fl.length ≤ 10
section
variable {prog : Program} {w : World} {A : Around} {E : Value → Shared → Prop} {R : Result → Shared → Prop}
/-- a store into the own dict that stands already -/
theorem excD_osa {hp : Heap} {g : Array GenState} {d : Drawn} {t : Nat} {os : OsState} {K : PySem.W.Frag} {name : Str} {tk : Tok} {v : Value} {x C dx : Addr} {fv : Array Value} {cd : ClassData} {m0 : Str → Option Value} {nl : List Str}
    (X : K.In hp) (hx : hp.get? x = some { cls := .ref C, dict := some dx, data := .fields fv }) (hns : hp.Ns1 dx m0) (hw : Within m0 nl) (hz : nl.length ≤ 1000) (hcd : clsIn K C = some cd) (hm : refsVE cd.mro = true) (hh : cd.hasDict = true) (ha : findIn K (.ref C) name = some none)
    (hq : ∀ h' tk', (∀ b o, b ≠ dx → hp.get? b = some o → h'.get? b = some o) → h'.Ns1 dx (fun y => if y = name then some v else m0 y) → R (.ok (.ret .none)) ⟨h', g, d, tk', os⟩) :
    codeAny (model prog w) A (.call (.builtin "object.__setattr__") ⟨[.ref x, .str name tk, v], []⟩) R ⟨hp, g, d, t, os⟩ := by
  obtain ⟨oD, esD, epD, hoD, hdD, _⟩ := hns.count hw
  have I : InstAt hp x { cls := .ref C, dict := some dx, data := .fields fv } C (some oD) := ⟨hx, rfl, rfl, hoD⟩
  have SF := F.store_object
  have ne := refsVE_ne hm
  have hob : cd.mro.contains (.type "object") = true := (refsVE_contains "object" _ hm).trans (by decide +kernel)
  have sub : Looks (model prog w) hp (isInstance (.ref x) (.type "object")) true := I.type.andThen (looks_mroIn X (by unfold mroIn; rw [hcd, Option.bind_some, if_neg (by rw [ne]; decide), hob]))
  refine codeAny_call_builtin SF.slot.plain SF.entry (@check_slot (model prog w) _ _ ⟨hp, g, d, t, os⟩ "object.__setattr__" "object" "__setattr__" (.ref x) [.str name tk, v] [] _ SF.kind SF.split sub (SF.args (.ref x) (.str name tk) v) ?_)
  have hmr : Looks (model prog w) hp (mroOf (.ref C)) cd.mro := (looks_clsIn X hcd).andThen .now
  have L3 : Looks (model prog w) hp (Builtin.ObjectAttr.storeTaker? none) none := .now
  have hcls : Looks (model prog w) hp (classData C) cd := looks_clsIn X hcd
  rw [osa_eq, refuse_eq]
  refine wpAny_bind (wpAny_bind (I.type.at (wpAny_bind (hmr.at ?_))))
  rw [refsVE_pass _ _ hm]
  refine wpAny_pure (wpAny_bind (I.type.at (wpAny_bind ((looks_findIn X ha).at (wpAny_bind (L3.at ?_))))))
  show wpAny _ _ (Builtin.ObjectAttr.storeInOwnDict (.ref x) (.ref C) (.str name tk) name v false) _ _ _
  obtain ⟨nm, bs, mro, ns, qn, hd, sn, sb, ab, col, del⟩ := cd
  dsimp only at hh
  subst hh
  unfold Builtin.ObjectAttr.storeInOwnDict Builtin.ObjectAttr.ownDictForStores
  repeat (first | with_reducible refine ESX.store_in_old hns hw hz ?_ | with_reducible refine wpAny_loadPart_at hx ?_ | with_reducible refine hcls.at ?_ | wp_step)
  intro h' tk' hn' hs
  exact hq h' tk' (fun b o hb ho => (hs.2 b hb).trans ho) hn'
/-- ValueError.__init__, bound to e, called -/
theorem call_vw {h : Heap} {g : Array GenState} {d : Drawn} {t : Nat} {os : OsState} {nm q : Str} {C N : Addr} {bs bm : List Value} {hdct : Bool} {sn : List Str} {sub : List Value} {ab : Bool} {col : Option Bool} {dd : Option Addr} {k0 k1 k2 k3 k5 : Option Value}
    {u e t0 : Addr} {rest : List Value} {Q : Value → Shared → Prop}
    (hC : h.get? C = some (excClassObj nm q C N bs bm hdct sn sub ab col dd k0 k1 k2 k3 k5 "ValueError.__new__")) (he : h.get? e = some (excO C t0)) (hu : h.get? u = some (kxs_mw "ValueError.__init__" e)) (hrest : rest.length ≤ sizeLine)
    (hq : ∀ h' t1, (∀ b o, b ≠ e → h.get? b = some o → h'.get? b = some o) → h'.get? e = some (excO C t1) → Q .none ⟨h', g, d, t, os⟩) :
    wpAny (model prog w) A (call (.ref u) rest) Q E ⟨h, g, d, t, os⟩ := by
  refine wpAny_call (codeAny_of_tree ?_)
  show wpAny _ A.in1 (callAny (.ref u) ⟨rest, []⟩) _ _ _
  simp only [callAny]
  refine wpAny_bind (wpAny_load hu ?_)
  simp only [kxs_mw, show (Value.type "method-wrapper" == Value.type "method" || Value.type "method-wrapper" == Value.type "builtin_function_or_method" || Value.type "method-wrapper" == Value.type "method-wrapper") = true by decide, if_true]
  refine KFB.if_so (by decide) ?_
  refine wpAny_bind (check_bound_init F.excBase_ValueError.toExcCallFacts hC he rfl ?_)
  refine wpAny_bind (wpAny_pure (wpAny_pure ?_))
  refine ⟨plainId_quiet F.excBase_ValueError.init.plain _, codeAny_builtin F.excBase_ValueError.initEntry ?_⟩
  exact exc_init_tree (cls := .ref C) (t0 := t0) (dv := none) (c2 := .none) (c3 := .none) (b4 := .bool false) he hrest fun h' a b _ => hq h' _ a b
end
theorem lk_mem {α β : Type} [BEq α] [LawfulBEq α] : ∀ {l : List (α × β)} {k : α} {v : β}, (l.map (·.1)).Nodup → (k, v) ∈ l → l.lookup k = some v
  | [], _, _, _, h => by cases h
  | (a, b) :: l, k, v, nd, h => by
    rw [List.lookup_cons]
    rcases List.mem_cons.mp h with e | hl
    · cases e
      rw [beq_self_eq_true]
    · have n := (List.nodup_cons.mp nd).1
      have ne : (k == a) = false := by
        cases z : (k == a) with
        | false => rfl
        | true =>
          have e := eq_of_beq z
          subst e
          exact absurd (show k ∈ l.map (·.1) from List.mem_map.mpr ⟨(k, v), hl, rfl⟩) n
      rw [ne]
      exact lk_mem (List.nodup_cons.mp nd).2 hl
theorem lk_in {α β : Type} [BEq α] [LawfulBEq α] : ∀ {l : List (α × β)} {k : α}, l.lookup k ≠ none → k ∈ l.map (·.1)
  | [], _, h => absurd rfl h
  | (a, b) :: l, k, h => by
    rw [List.lookup_cons] at h
    cases z : (k == a) with
    | true => simp [eq_of_beq z]
    | false =>
      rw [z] at h
      exact List.mem_cons_of_mem _ (lk_in h)
theorem zip_fst {α β : Type} : ∀ {as : List α} {bs : List β}, bs.length = as.length → (as.zip bs).map (·.1) = as
  | [], [], _ => rfl
  | [], _ :: _, h => by cases h
  | _ :: _, [], h => by cases h
  | a :: as, b :: bs, h => by simp [zip_fst (as := as) (bs := bs) (by simpa using h)]
theorem zip_snd {α β : Type} : ∀ {as : List α} {bs : List β}, bs.length = as.length → (as.zip bs).map (·.2) = bs
  | [], [], _ => rfl
  | [], _ :: _, h => by cases h
  | _ :: _, [], h => by cases h
  | a :: as, b :: bs, h => by simp [zip_snd (as := as) (bs := bs) (by simpa using h)]
/-- the error at x, some of its fields stored -/
structure ErrSt (h h' : Heap) (x C : Addr) (od : Option Addr) (kvs : List (Str × Value)) : Prop where
  keep : ∀ b o, b ≠ x → h.get? b = some o → h'.get? b = some o
  obj : ∃ t1, h'.get? x = some { cls := .ref C, dict := od, data := .fields #[.ref t1, .none, .none, .none, .bool false, .none] }
  dic : match od with
    | none => kvs = []
    | some dx => h.objs.size ≤ dx ∧ dx ≠ x ∧ kvs ≠ [] ∧ h'.Ns1 dx fun y => kvs.reverse.lookup y
section
variable {prog : Program} {w : World} {A : Around} {E : Value → Shared → Prop} {R : Result → Shared → Prop}
theorem ns_keep {h h' : Heap} {L : Addr} {m : Str → Option Value} {z : Addr} (hn : h.Ns L m) (k : ∀ b o, b ≠ z → h.get? b = some o → h'.get? b = some o) (hz : L ≠ z) : h'.Ns L m := by
  obtain ⟨o, es, ep, ho, r⟩ := hn
  exact ⟨o, es, ep, k _ _ hz ho, r⟩
theorem kin_keep {K : PySem.W.Frag} {h h' : Heap} {z : Addr} (X : K.In h) (hz : K.lookup z = none) (k : ∀ b o, b ≠ z → h.get? b = some o → h'.get? b = some o) : K.In h' := fun a o e =>
  k a o (fun q => by rw [q, hz] at e; cases e) (X a o e)
theorem err_stores {K : PySem.W.Frag} {C x L : Addr} {h : Heap} {m : Str → Option Value} {env : PySem.Env} {cd : ClassData} (hcd : clsIn K C = some cd) (hm : refsVE cd.mro = true) (hh : cd.hasDict = true) (hsa : findIn K (.ref C) "__setattr__" = some (some (.builtin "object.__setattr__")))
    (hnx : K.lookup x = none) (hbig : ∀ b, h.objs.size ≤ b → K.lookup b = none) (hL : env.locals = L) (hLs : h.objs.size ≤ L) (hLx : L ≠ x) (hk : env.scope.kind = .function) (hself : m "self" = some (.ref x)) (hsl : env.kindOf "self" = some .local)
    {g : Array GenState} {d : Drawn} {os : OsState} {Q : Flow → Shared → Prop} : ∀ (qs : List EQ) (vs : List Value) (kvs : List (Str × Value)) (od : Option Addr) (hp : Heap) (tk : Nat), vs.length = qs.length → ErrSt h hp x C od kvs → kvs.length + qs.length ≤ 10 → (∀ dx, od = some dx → dx ≠ L) → hp.Ns L m → K.In hp →
      (∀ p ∈ (qs.map (·.1)).zip vs, m p.1 = some p.2) → (∀ q ∈ qs, env.kindOf q.1 = some .local ∧ (q.1 == ("__debug__" : Str)) = false ∧ findIn K (.ref C) q.1 = some none) →
      (∀ h' tk' od', ErrSt h h' x C od' (kvs ++ (qs.map (·.1)).zip vs) → Q .next ⟨h', g, d, tk', os⟩) → wpAny (model prog w) A (execs (qs.map eStore) env) Q E ⟨hp, g, d, tk, os⟩
  | [], [], kvs, od, hp, tk, _, st, _, _, _, _, _, _, hq => by
    refine wpAny_execs_nil (hq hp tk od ?_)
    simpa using st
  | [], _ :: _, _, _, _, _, hl, _, _, _, _, _, _, _, _ => by cases hl
  | _ :: _, [], _, _, _, _, hl, _, _, _, _, _, _, _, _ => by cases hl
  | q :: qs, v :: vs, kvs, od, hp, tk, hl, st, hc, hdl, hn, X, hv, hf, hq => by
    obtain ⟨f1, f2, f3⟩ := hf q List.mem_cons_self
    have hvq : m q.1 = some v := hv (q.1, v) (by simp)
    have ml : ∀ kvs' : List (Str × Value), (fun y => if y = q.1 then some v else kvs'.reverse.lookup y) = fun y => (kvs' ++ [(q.1, v)]).reverse.lookup y := fun kvs' => by
      funext y
      rw [List.reverse_append]
      show _ = List.lookup y ((q.1, v) :: kvs'.reverse)
      rw [List.lookup_cons]
      by_cases e : y = q.1
      · subst e; simp
      · have e2 : (y == q.1) = false := by simpa using e
        rw [if_neg e, e2]
    have next : ∀ h' tk' od', ErrSt h h' x C od' (kvs ++ [(q.1, v)]) → (∀ dx, od' = some dx → dx ≠ L) → h'.Ns L m → K.In h' → wpAny (model prog w) A (execs (qs.map eStore) env) Q E ⟨h', g, d, tk', os⟩ := fun h' tk' od' st' hd' hn' X' =>
      err_stores hcd hm hh hsa hnx hbig hL hLs hLx hk hself hsl qs vs (kvs ++ [(q.1, v)]) od' h' tk' (by simpa using hl) st' (by simp at hc ⊢; omega) hd' hn' X' (fun p hp => hv p (by simp [hp])) (fun q' hq' => hf q' (List.mem_cons_of_mem _ hq'))
        fun h'' tk'' od'' st'' => hq h'' tk'' od'' (by simpa using st'')
    obtain ⟨t1, ho⟩ := st.obj
    show wpAny _ _ (execs (eStore q :: qs.map eStore) env) _ _ _
    refine wpAny_execs_cons (plainObj_wpAny_Assign_Attribute (wpAny_Name (wpAny_loadName_local hk f1 (by rw [hL]; exact hn) hvq (wpAny_Name (wpAny_loadName_local hk hsl (by rw [hL]; exact hn) hself ?_))) f2))
    cases od with
    | none =>
      refine set_plain X (ox := excO C t1) (od := none) ⟨ho, rfl, rfl, trivial⟩ hsa ?_
      refine exc_osa X ho hcd hm hh f3 (fun h₃ tk₃ dx k₃ dn dne hx₃ hn₃ => ?_)
      have e : kvs = [] := st.dic
      subst e
      have hne : dx ≠ L := fun z => by
        have := hn.lt
        rw [← z] at this
        exact absurd this (Nat.not_lt.mpr dn)
      refine next h₃ tk₃ (some dx) ⟨fun b o hb e => k₃ b o hb (st.keep b o hb e), ⟨t1, hx₃⟩, ?_, dne, by simp, ?_⟩ (fun _ z => by cases z; exact hne) (ns_keep hn k₃ hLx) (kin_keep X hnx k₃)
      · refine Nat.le_trans ?_ dn
        exact Nat.le_trans hLs (Nat.le_of_lt hn.lt)
      · have z := ml []
        rw [← z]
        exact hn₃
    | some dx =>
      obtain ⟨d1, d2, _, d3⟩ := st.dic
      obtain ⟨oD, esD, epD, hoD, hdD, hkD⟩ := d3
      refine set_plain X (ox := { cls := .ref C, dict := some dx, data := .fields #[.ref t1, .none, .none, .none, .bool false, .none] }) (od := some oD) ⟨ho, rfl, rfl, hoD⟩ hsa ?_
      refine excD_osa (nl := kvs.map (·.1)) X ho ⟨oD, esD, epD, hoD, hdD, hkD⟩ ?_ (by simp at hc ⊢; omega) hcd hm hh f3 (fun h₃ tk₃ k₃ hn₃ => ?_)
      · intro y hy
        have z := lk_in hy
        rw [List.map_reverse, List.mem_reverse] at z
        exact z
      refine next h₃ tk₃ (some dx) ⟨fun b o hb e => k₃ b o ?_ (st.keep b o hb e), ⟨t1, k₃ _ _ (Ne.symm d2) ho⟩, d1, d2, by simp, ?_⟩ hdl (ns_keep hn k₃ (Ne.symm (hdl dx rfl))) (kin_keep X (hbig dx d1) k₃)
      · intro z
        have := Heap.lt_size e
        rw [z] at this
        exact absurd this (Nat.not_lt.mpr d1)
      · rw [← ml kvs]
        exact hn₃
theorem super_call {env : PySem.Env} {p0 p1 p2 p3 p4 : Pos} {msg : Str} {j : Nat} (hline : (p2.endLine == p4.line) = true) : eval (.Call (.Attribute (.Call (.Name "super" p0) [] [] p1) "__init__" p2) [.Constant (.str msg) j p3] [] p4) env = (do
      let ov ← attributeBase (.Call (.Name "super" p0) [] [] p1) "__init__" env (eval (.Call (.Name "super" p0) [] [] p1) env)
      standAt p2.atName
      let (f, first) ← holding [ov] (getMethod ov "__init__" (do return (← importBound (.Call (.Name "super" p0) [] [] p1) env).getD true))
      callWith p4 f first (backTo p4 (starEach [.Constant (.str msg) j p3] env)) []) := by
  have hpos : methodCallPos true (.Call (.Name "super" p0) [] [] p1) env p2 p4 = pure p4 := by
    unfold methodCallPos
    rw [hline]
    rfl
  show (attributeBase (.Call (.Name "super" p0) [] [] p1) "__init__" env (eval (.Call (.Name "super" p0) [] [] p1) env) >>= fun ov => standAt p2.atName >>= fun _ => methodCall (.Call (.Name "super" p0) [] [] p1) "__init__" p2 p4 env ov 1 (backTo p4 (starEach [.Constant (.str msg) j p3] env)) []) = _
  congr 1
  funext ov
  congr 1
  funext _
  show (holding [ov] (getMethod ov "__init__" (do return (← importBound (.Call (.Name "super" p0) [] [] p1) env).getD true)) >>= fun x => methodCallPos true (.Call (.Name "super" p0) [] [] p1) env p2 p4 >>= fun callPos => callWith callPos x.1 x.2 (backTo p4 (starEach [.Constant (.str msg) j p3] env)) []) = _
  rw [hpos]
  rfl
theorem kin_big {K : PySem.W.Frag} {h : Heap} (X : K.In h) : ∀ b, h.objs.size ≤ b → K.lookup b = none := fun b hb => by
  cases e : K.lookup b with
  | none => rfl
  | some o => exact absurd (Heap.lt_size (X _ _ e)) (Nat.not_lt.mpr hb)
theorem err_init {s : Shared} {K : PySem.W.Frag} {mg : Str → Option Value} {ex : Str} {C fI : Addr} {fl : List Str} (T : ErrTxt prog K mg ex C fI fl) {x t0 : Addr} {us : List Value} (X : K.In s.heap) (hlim : s.heap.NoLimit) (G : s.heap.Ns mainGlobals mg) (B : ∃ mb, s.heap.Ns builtinsNs mb ∧ ∀ y : Str, y ≠ "__name__" → mb y = bootBuiltins y)
    (hx : s.heap.get? x = some (excO C t0)) (hnx : K.lookup x = none) (hroom : A.depth < recursionLimit) (hl : us.length = fl.length) (hq : ∀ h' tk od, ErrSt s.heap h' x C od (fl.zip us) → R (.ok (.ret .none)) { s with heap := h', toks := tk }) :
    codeAny (model prog w) A (.call (.ref fI) ⟨.ref x :: us, []⟩) R s := by
  obtain ⟨oc, od, qual, params, scope, dV, kV, doc, pm, an, cda, ct, cc, osl, ar, ccl, cdd, vs, ccs, file, tf, cl, cld, csl, p0, p1, p2, p3, p4, p5, msg, j, qs, ho, hcd, hline, hqs, har, harn, hcda, hvs, hfile, hcc, hks, hkc, hksl, hkf, hkind, hcell, hco, hgen, hbind, hsn, hnd, hdb, hlen⟩ := T.fn
  obtain ⟨nm, q, N, bs, bm, sn, sub, ab, col, dd, k0, k1, k2, k3, k5, hC, hbm⟩ := T.cls
  have hcl : clsIn K C = some { name := nm, bases := bs, mro := .ref C :: bm, ns := N, qualname := q, hasDict := true, slotNames := sn, subclasses := sub, abstract := ab, collection := col, hasDel := false } := by unfold clsIn; rw [hC] <;> rfl
  obtain ⟨hp, g, d, tk, os⟩ := s
  obtain ⟨sk, snm, sgn, sco, smo⟩ := scope
  dsimp only at hks hkc hksl hkf hkind hcell hco hgen
  subst hkind hco hgen
  have hkind : (Scope.mk ScopeKind.function snm false false smo).kind = .function := rfl
  have hzl : (fl.zip us).map (·.1) = fl := zip_fst hl
  have hbl : ∀ y ∈ (("self" : Str), Value.ref x) :: fl.zip us, snm.lookup y.1 = some .local := fun y hy => by
    rcases List.mem_cons.mp hy with rfl | hy
    · exact hksl
    · exact hkf y.1 (by rw [← hzl]; exact List.mem_map_of_mem hy)
  refine ks_codeAny_call_defAt (fd := ksFn "__init__" qual params _ _ dV kV doc pm an (.ref cda) ct cc) (binds := ("self", .ref x) :: fl.zip us) hroom (X _ _ ho) rfl hlim (codeRec_of X hcd) rfl (hbind _ _ _ hl) hcell hbl (fun h₁ hns hk₁ => ?_) rfl rfl rfl
  have X₁ : K.In h₁ := X.keeps hk₁
  have hx₁ := hk₁ _ _ hx
  have hxL : hp.objs.size ≠ x := Nat.ne_of_gt (Heap.lt_size hx)
  have ndb : (((("self" : Str), Value.ref x) :: fl.zip us).reverse.map (·.1)).Nodup := by
    rw [List.map_reverse]
    refine List.pairwise_reverse.mpr ((List.Pairwise.imp (fun h => Ne.symm h)) ?_)
    rw [List.map_cons, hzl]
    exact List.nodup_cons.mpr ⟨hsn, hnd⟩
  have mself : ((("self" : Str), Value.ref x) :: fl.zip us).reverse.lookup ("self" : Str) = some (Value.ref x) := lk_mem ndb (by simp)
  -- super()
  refine ks_wpAt_execs_cons (ks_wpAt_Expr_any (ks_wpAt_MethodCall ?_ (super_call hline)))
  obtain ⟨mb, hmb, hmb2⟩ := B
  have hI : InstAt h₁ x (excO C t0) C none := ⟨hx₁, rfl, rfl, trivial⟩
  have hDo : ∃ oD, h₁.get? C = some oD ∧ oD.data = .cls { name := nm, bases := bs, mro := .ref C :: bm, ns := N, qualname := q, hasDict := true, slotNames := sn, subclasses := sub, abstract := ab, collection := col, hasDel := false } := ⟨_, X₁ _ _ hC, rfl⟩
  obtain ⟨oD, hD1, hD2⟩ := hDo
  refine ks_wpAt_super_base (env := ksEnv qual (Scope.mk ScopeKind.function snm false false smo) hp.objs.size fI (.ref cda) cc) hks hkc (by decide) rfl (X₁ _ _ ho) rfl har rfl (X₁ _ _ hcda) rfl hvs hfile T.top ?_
  refine ks_loadName_global hkind hks (loadGlobal_builtin (env := ksEnv qual (Scope.mk ScopeKind.function snm false false smo) hp.objs.size fI (.ref cda) cc) (G.keeps hk₁) T.sC (hmb.keeps hk₁) ((hmb2 _ (by decide)).trans (show bootBuiltins "super" = some (.type "super") by decide +kernel)) ⟨rfl, ?_⟩)
  refine wpAny_loadName_free hkind hkc rfl ⟨_, X₁ _ _ hcc, rfl⟩ ?_
  rw [harn]
  refine wpAny_loadName_local hkind hksl hns mself ?_
  refine ks_wpAny_isType_cls hD1 hD2 ⟨rfl, ?_⟩
  refine ks_wpAny_call_super hD1 hD2 hx₁ rfl (fun c e => by cases e) (looks_mroIn X₁ T.mro) (fun h₂ e₂ k₂ => ?_)
  -- .__init__
  have X₂ : K.In h₂ := X₁.keeps k₂
  have hsup := T.sup
  unfold ks_superIn at hsup
  rw [hcl] at hsup
  refine kxs_getMethod kxs_ValueError e₂ (looks_opaque X₂ T.tp) (l₀ := .ref C :: bm) ?_ rfl X₂ hsup ?_ ?_ (by decide) ?_
  · exact fun A Q E s k q => wpAny_bind ((looks_clsIn X₂ hcl) A _ E s k (wpAny_pure q))
  · exact (show InstAt h₂ x (excO C t0) C none from ⟨k₂ _ _ hx₁, rfl, rfl, trivial⟩).type.andThen (looks_subIn X₂ T.veC)
  · exact ks_ne X₁ hI hcl
  have k₃ : ∀ b o, h₂.get? b = some o → (h₂.push (kxs_mw "ValueError.__init__" x)).get? b = some o := fun b o e => Heap.get?_push_of_some _ e
  -- (msg)
  refine kxs_callWith (i := "ValueError.__init__") (x := x) rfl (evalArgs_plain (spliced_cons (Constant_str (k := j) (pos := p3) (spliced_nil ⟨?_, ?_⟩))))
  · exact Heap.get?_push_at rfl rfl
  refine call_vw (k₃ _ _ (X₂ _ _ hC)) (k₃ _ _ (k₂ _ _ hx₁)) (Heap.get?_push_at rfl rfl) (show [_].length ≤ sizeLine by rw [sizeLine_eq]; exact (by decide : 1 ≤ 16777216)) fun h₄ t₁ k₄ hx₄ => ?_
  have kk : ∀ b o, b ≠ x → h₁.get? b = some o → h₄.get? b = some o := fun b o hb e => k₄ b o hb (k₃ _ _ (k₂ _ _ e))
  refine wpAt_of_wpAny (err_stores (h := hp) (L := hp.objs.size) (env := ksEnv qual (Scope.mk ScopeKind.function snm false false smo) hp.objs.size fI (.ref cda) cc) (m := fun y => ((("self" : Str), Value.ref x) :: fl.zip us).reverse.lookup y) hcl (show refsVE (.ref C :: bm) = true from hbm) rfl T.sa hnx (kin_big X) rfl (Nat.le_refl _) hxL hkind mself hksl qs us [] none h₄ _ (by rw [hl, ← hqs, List.length_map]) ⟨fun b o hb e => kk b o hb (hk₁ _ _ e), ⟨t₁, hx₄⟩, rfl⟩ ?_ (fun _ z => by cases z) (ns_keep hns kk hxL) (kin_keep X₁ hnx kk) ?_ ?_ fun h' tk' od' st => ?_)
  · have : qs.length = fl.length := by rw [← hqs, List.length_map]
    simp; omega
  · intro p hp'
    rw [hqs] at hp'
    exact lk_mem ndb (by simp [hp'])
  · intro q' hq'
    have hm : q'.1 ∈ fl := by rw [← hqs]; exact List.mem_map_of_mem hq'
    exact ⟨hkf _ hm, hdb _ hm, T.no _ hm⟩
  · rw [hqs, List.nil_append] at st
    exact hq h' tk' od' st
/-- a made error -/
structure ErrMd (h h' : Heap) (e C : Addr) (od : Option Addr) (kvs : List (Str × Value)) : Prop where
  keep : ∀ b o, h.get? b = some o → h'.get? b = some o
  new : h.objs.size ≤ e
  obj : ∃ oe vs, h'.get? e = some oe ∧ oe.cls = .ref C ∧ oe.dict = od ∧ oe.data = .fields vs ∧ vs[1]? = some .none
  dic : match od with
    | none => kvs = []
    | some dx => h.objs.size ≤ dx ∧ dx ≠ e ∧ kvs ≠ [] ∧ h'.Ns1 dx fun y => kvs.reverse.lookup y
theorem err_made {s : Shared} {K : PySem.W.Frag} {mg : Str → Option Value} {ex : Str} {C fI : Addr} {fl : List Str} (T : ErrTxt prog K mg ex C fI fl) {us : List Value} (X : K.In s.heap) (hlim : s.heap.NoLimit) (G : s.heap.Ns mainGlobals mg) (B : ∃ mb, s.heap.Ns builtinsNs mb ∧ ∀ y : Str, y ≠ "__name__" → mb y = bootBuiltins y)
    (hroom : A.depth + 1 < recursionLimit) (hl : us.length = fl.length) (hq : ∀ h' tk e od, ErrMd s.heap h' e C od (fl.zip us) → R (.ok (.ret (.ref e))) { s with heap := h', toks := tk }) :
    codeAny (model prog w) A (.call (.ref C) ⟨us, []⟩) R s := by
  obtain ⟨nm, q, N, bs, bm, sn, sub, ab, col, dd, k0, k1, k2, k3, k5, hC, hbm⟩ := T.cls
  have hlen : fl.length ≤ 10 := by
    obtain ⟨oc, od, qual, params, scope, dV, kV, doc, pm, an, cda, ct, cc, osl, ar, ccl, cdd, vs, ccs, file, tf, cl, cld, csl, p0, p1, p2, p3, p4, p5, msg, j, qs, ho, hcd, hline, hqs, har, harn, hcda, hvs, hfile, hcc, hks, hkc, hksl, hkf, hkind, hcell, hco, hgen, hbind, hsn, hnd, hdb, hlen⟩ := T.fn
    exact hlen
  obtain ⟨hp, g, dr, tk, os⟩ := s
  have k : ∀ b o, hp.get? b = some o → ((hp.push (kdv_tup us)).push (excO C hp.objs.size)).get? b = some o := fun b o e => Heap.get?_push_of_some _ (Heap.get?_push_of_some _ e)
  have hget : ((hp.push (kdv_tup us)).push (excO C hp.objs.size)).get? (hp.objs.size + 1) = some (excO C hp.objs.size) := by heap_get
  have hnx : K.lookup (hp.objs.size + 1) = none := kin_big X _ (Nat.le_succ _)
  obtain ⟨mb, hmb, hmb2⟩ := B
  refine call_own F.excBase_ValueError (fun X => refsVE_contains X bm hbm) (X _ _ hC) (looks_findIn X T.iC) (fun self => bind_fn X self T.tC) (by rw [hl, sizeLine_eq]; omega) ?_
  refine err_init (s := ⟨(hp.push (kdv_tup us)).push (excO C hp.objs.size), g, dr, tk, os⟩) T (X.keeps k) (hlim.keeps k) (G.keeps k) ⟨mb, hmb.keeps k, hmb2⟩ hget hnx ?_ hl fun h' tk' od st => ?_
  · show A.depth + 1 < recursionLimit
    exact hroom
  · obtain ⟨t1, ho⟩ := st.obj
    have old : ∀ b o, hp.get? b = some o → h'.get? b = some o := fun b o e => st.keep b o (Nat.ne_of_lt (Nat.lt_succ_of_lt (Heap.lt_size e))) (k b o e)
    refine ⟨rfl, hq h' tk' (hp.objs.size + 1) od ⟨old, Nat.le_succ _, ⟨_, _, ho, rfl, rfl, rfl, rfl⟩, ?_⟩⟩
    have z := st.dic
    cases od with
    | none => exact z
    | some dx =>
      obtain ⟨z1, z2, z3⟩ := z
      have z4 : hp.objs.size + 1 + 1 ≤ dx := by
        first
          | (simpa only [Heap.size_push] using z1)
          | exact z1
          | (have q := z1; rw [Heap.size_push, Heap.size_push] at q; exact q)
      exact ⟨Nat.le_trans (Nat.le_trans (Nat.le_succ _) (Nat.le_succ _)) z4, z2, z3⟩
end
end Kb
namespace Kb
open PySem L2
set_option autoImplicit false
theorem relO_lk : ∀ {fl : List Str} {vs : List V} {us : List Value}, Vals vs us → vs.length = fl.length → fl.Nodup → ∀ f : Str, RelO (List.lookup f (fl.zip vs)) ((fl.zip us).reverse.lookup f) := by
  intro fl vs us r hl nd f
  have hu : us.length = fl.length := by rw [← r.length]; exact hl
  have e : (fl.zip us).reverse.lookup f = (fl.zip us).lookup f := by
    have nd1 : ((fl.zip us).map (·.1)).Nodup := by rw [zip_fst hu]; exact nd
    have nd2 : ((fl.zip us).reverse.map (·.1)).Nodup := by
      rw [List.map_reverse]
      exact List.pairwise_reverse.mpr (List.Pairwise.imp (fun h => Ne.symm h) nd1)
    cases z : (fl.zip us).lookup f with
    | some v =>
      have m : (f, v) ∈ fl.zip us := by
        clear nd1 nd2
        generalize fl.zip us = l at z
        induction l with
        | nil => cases z
        | cons p l ih =>
          rw [List.lookup_cons] at z
          cases q : (f == p.1) with
          | true => rw [q] at z; cases z; rw [eq_of_beq q]; exact List.mem_cons_self
          | false => rw [q] at z; exact List.mem_cons_of_mem _ (ih z)
      exact lk_mem nd2 (by simp [m])
    | none =>
      cases z2 : (fl.zip us).reverse.lookup f with
      | none => rfl
      | some v =>
        exfalso
        have m := lk_in (l := (fl.zip us).reverse) (k := f) (by rw [z2]; intro h; cases h)
        rw [List.map_reverse, List.mem_reverse] at m
        obtain ⟨⟨a, b⟩, hm, rfl⟩ := List.mem_map.mp m
        rw [lk_mem nd1 hm] at z
        cases z
  rw [e]
  clear e nd
  induction fl generalizing vs us with
  | nil => exact trivial
  | cons a fl ih =>
    cases r with
    | nil => cases hl
    | cons r1 r2 =>
      rename_i v u vs us
      show RelO (List.lookup f ((a, v) :: fl.zip vs)) (List.lookup f ((a, u) :: fl.zip us))
      rw [List.lookup_cons, List.lookup_cons]
      cases q : (f == a) with
      | true => exact r1
      | false => exact ih r2 (by simpa using hl) (by simpa using hu)
section
variable {X : Cx} {W : WX} {C fI : Addr} {ex : Str} {fl : List Str}
/-- X(e, ..) -/
def tMkE (C : Addr) (fl : List Str) (ta : TA) : St → Hp → XK → Prop := fun σ H Q => ta σ H fun vs H1 => vs.length = fl.length ∧ (fl = [] → Q (.ref C) none H1) ∧ (fl ≠ [] → ∀ d, H1 d = none → Q (.ref C) (some d) (upd H1 d (.xd (fl.zip vs))))
theorem mk_run {pins : List (Addr × Obj)} {σ : St} {H1 : Hp} {s1 : Shared} {Q : XK} {us : List Value} {vs : List V} {k : Nat} (T : ErrTxt X.prog X.K X.mg ex C fI fl) (hr : Room k X.A) (I1 : Inv X pins σ H1 s1) (r1 : Vals vs us) (hl : vs.length = fl.length) (q0 : fl = [] → Q (.ref C) none H1) (q1 : fl ≠ [] → ∀ d, H1 d = none → Q (.ref C) (some d) (upd H1 d (.xd (fl.zip vs)))) :
    wpAny (model X.prog X.w) X.A (call (.ref C) us) (MkP X pins σ Q) X.xe s1 := by
  have hlim := I1.nolimit
  have hu : us.length = fl.length := by rw [← r1.length]; exact hl
  obtain ⟨mb, h1, h2⟩ := I1.mod.blt
  have G := I1.mod.glob.keeps I1.bk
  have Bk := h1.keeps I1.bk
  have nd : fl.Nodup := by
    obtain ⟨oc, od, qual, params, scope, dV, kV, doc, pm, an, cda, ct, cc, osl, ar, ccl, cdd, vs, ccs, file, tf, cl, cld, csl, p0, p1, p2, p3, p4, p5, msg, j, qs, ho, hcd, hline, hqs, har, harn, hcda, hvs, hfile, hcc, hks, hkc, hksl, hkf, hkind, hcell, hco, hgen, hbind, hsn, hnd, hdb, hlen⟩ := T.fn
    exact hnd
  obtain ⟨hp, g, dr, tk, os⟩ := s1
  refine wpAny_call (err_made T I1.kIn hlim G ⟨mb, Bk, h2⟩ (by have := hr.dp; omega) hu fun h' tk' e d M => ?_)
  show MkP X pins σ Q (.ref e) ⟨h', g, dr, tk', os⟩
  obtain ⟨oe, fv, hoe, hc, hd, hdat, h1'⟩ := M.obj
  obtain ⟨G', g1, g2⟩ := restrict h' fun b => decide (b ≠ e)
  have gk : ∀ b, b ≠ e → G'.get? b = h'.get? b := fun b hb => g1 b (decide_eq_true hb)
  have ge : G'.get? e = none := g2 e (by simp)
  have old : ∀ b o, hp.get? b = some o → G'.get? b = some o := fun b o q => (gk b (Nat.ne_of_lt (Nat.lt_of_lt_of_le (Heap.lt_size q) M.new))).trans (M.keep b o q)
  have back : ∀ b o, G'.get? b = some o → h'.get? b = some o := fun b o q => by
    by_cases hb : b = e
    · rw [hb, ge] at q; cases q
    · exact (gk b hb).symm.trans q
  have hdic := M.dic
  cases d with
  | none =>
    have e0 : fl.zip us = [] := hdic
    have efl : fl = [] := by
      cases fl with
      | nil => rfl
      | cons a fl =>
        cases us with
        | nil => cases hu
        | cons u us => cases e0
    have J : Inv X pins σ H1 ⟨G', g, dr, tk', os⟩ := I1.kept (t' := tk') old
    exact ⟨e, oe, fv, ⟨G', g, dr, tk', os⟩, H1, .ref C, none, rfl, J, back, ge, hoe, ⟨hc, hd⟩, hdat, h1', I1.hok.fresh M.new, rfl, I1.bare, raises_own T.exC T.tyC, q0 efl⟩
  | some d =>
    obtain ⟨dbig, dne, hne, hns⟩ := hdic
    have ob : ObjOk X.prog X.w (upd H1 d (.xd (fl.zip vs))) G' d (.xd (fl.zip vs)) :=
      ⟨_, hns.at (fun o q => (gk d dne).trans q), fun f => relO_lk r1 hl nd f⟩
    have J : Inv X pins σ (upd H1 d (.xd (fl.zip vs))) ⟨G', g, dr, tk', os⟩ := I1.laid (t' := tk') old dbig ob
    have efl : fl ≠ [] := fun z => hne (by rw [z]; rfl)
    refine ⟨e, oe, fv, ⟨G', g, dr, tk', os⟩, _, .ref C, some d, rfl, J, back, ge, hoe, ⟨hc, hd⟩, hdat, h1', ?_, rfl, I1.bare, raises_own T.exC T.tyC, q1 efl d (I1.hok.fresh dbig)⟩
    rw [upd_ne (Ne.symm dne)]
    exact I1.hok.fresh M.new
theorem pmk_e {e : Expr} {es : List Expr} {ta : TA} {p pos : Pos} {k : Nat} (T : ErrTxt X.prog X.K X.mg ex C fI fl) (hr : Room k X.A) (ha : PA X (e :: es) ta) (hg : Gl X ex := by rfl) (hdb : (ex == ("__debug__" : Str)) = false := by decide)
    (he : starEach (e :: es) X.env = (false, eval e X.env) :: starEach es X.env := by rfl) (hpl : (backTo pos (starEach es X.env)).any (·.1) = false := by rfl) :
    PMk X (.Call (.Name ex p) (e :: es) [] pos) (tMkE C fl ta) := by
  intro pins s σ H Q I h
  refine wpAny_Call_Name_kw (ld_glob I hg T.gC ?_ hdb)
  refine PySem.W.callWith_K (h₀ := X.base) I.ok.mod.kin T.kC (thn (ha.run pos pins s σ H _ I h) fun us s1 hh => ?_) he hpl
  obtain ⟨vs, H1, I1, r1, hl, q0, q1⟩ := hh
  exact ⟨I1.kIn, mk_run T hr I1 r1 hl q0 q1⟩
/-- X() -/
theorem pmk_e0 {p pos : Pos} {k : Nat} (T : ErrTxt X.prog X.K X.mg ex C fI []) (hr : Room k X.A) (hg : Gl X ex := by rfl) (hdb : (ex == ("__debug__" : Str)) = false := by decide) : PMk X (.Call (.Name ex p) [] [] pos) (fun σ H Q => Q (.ref C) none H) := by
  intro pins s σ H Q I h
  exact wpAny_Call_Name_kw (ld_glob I hg T.gC (PySem.W.callWith_K0 I.kIn T.kC (mk_run (us := []) T hr I .nil rfl (fun _ => h) fun z => (z rfl).elim)) hdb)
end
end Kb
set_option Elab.async false
set_option linter.all false
set_option maxRecDepth 100000
set_option maxHeartbeats 1000000
/-! Kb18: raise; isinstance of a caught error; constructors with borrowed and keyword arguments. -/
namespace Kb
open PySem L2
set_option autoImplicit false
/-! ### raise X(e, ..) -/
def sRaise (C : Addr) (fl : List Str) (t : FT) : ST := fun E Γ => t Γ fun ds => ds.length = fl.length ∧ E.ex C (fl.zip ds) Γ
theorem zip_keys {α β γ : Type} {fl : List α} {vs : List β} {ds : List γ} (h1 : vs.length = fl.length) (h2 : ds.length = fl.length) : (fl.zip vs).map (·.1) = (fl.zip ds).map (·.1) := by rw [zip_fst h1, zip_fst h2]
theorem s_raise {X : Cx} {W : WX} {ex : Str} {C fI : Addr} {fl : List Str} {e : Expr} {es : List Expr} {t : FT} {p pos pos2 : Pos} {k : Nat} (hc : X.calm = true) (tk : Takes X W) (T : ErrTxt X.prog X.K X.mg ex C fI fl) (hr : Room k X.A) (ha : PA X (e :: es) (LaS X.K t)) (hg : Gl X ex := by rfl) (hdb : (ex == ("__debug__" : Str)) = false := by decide)
    (he : starEach (e :: es) X.env = (false, eval e X.env) :: starEach es X.env := by rfl) (hpl : (backTo pos (starEach es X.env)).any (·.1) = false := by rfl) : PS X (.Raise (some (.Call (.Name ex p) (e :: es) [] pos)) none pos2) (Ls X.K W (sRaise C fl t)) :=
  ps_imp (ps_raise hc tk (pmk_e T hr ha hg hdb he hpl)) fun D σ H ⟨H0, ps, hs, Γ, E, se, ht, r⟩ => ⟨H0, ps, hs, Γ, _, se, ht, fun ds vs H2 p e rr => by
    have hv : vs.length = fl.length := by rw [rr.length]; exact p.1
    refine ⟨hv, fun z => r.ex C _ Γ σ H2 none p.2 (se.mono e) (Kp.ex e) (by subst z; rfl), fun _ d n => ?_⟩
    have e2 := e.trans (Ex.new (o := .xd (fl.zip vs)) n)
    refine r.ex C _ Γ σ _ (some d) p.2 (se.mono e2) (Kp.ex e2) ⟨(se.mono e).bs.new n, _, upd_same, zip_keys hv p.1, ?_⟩
    rw [zip_snd hv, zip_snd p.1]
    exact rr.mono (hid_ex2 (Ex.new n))⟩
/-! ### isinstance of the error that a suite holds -/
theorem kitx_e {K : Frag} {x D : Addr} {ox : Obj} (C : ExcC K D) : PySem.W.KitX K (.ref x) (.ref D) (fun h => ∃ od, PySem.W.InstAt h x ox D od) where
  ty := fun _ _ _ ⟨_, I⟩ => I.type
  it := fun _ _ X _ => by
    obtain ⟨cd, hcd, _⟩ := PySem.W.any_some C.hd
    unfold PySem.W.clsIn at hcd
    split at hcd
    · rename_i c1 d1 cd1 sl1 ho
      exact fun A1 Q1 E1 s1 k1 q1 => (by unfold isType loadHead; exact wpAny_bind (wpAny_loadPart (k1 _ _ (X _ _ ho)) (wpAny_pure q1)))
    · cases hcd
  ne := fun h tp dd its n sl X htp => by
    obtain ⟨cd, hcd, _⟩ := PySem.W.any_some C.hd
    refine Bool.eq_false_iff.mpr fun z => ?_
    obtain rfl : D = tp := Value.ref.inj (beq_iff_eq.mp z)
    unfold PySem.W.clsIn at hcd
    split at hcd
    · rename_i c1 d1 cd1 sl1 ho
      cases (X _ _ ho).symm.trans htp
    · cases hcd
  ca := fun X ⟨_, I⟩ k => PySem.W.kx_classE X I C.hg C.hk C.hs (PySem.W.findObj_dataE (by obtain ⟨cd, hcd, _⟩ := PySem.W.any_some C.hd; rw [hcd]; rfl) C.ha C.hn C.ht) C.hm k
def cvV : V → Option Value
  | .ref a => some (.ref a)
  | .ty n => some (.type n)
  | _ => none
def rIsX (K : Frag) (D a : Addr) (d : Option Addr) : List V → Hp → VK → Prop := fun xs H Q => ∃ (c : V) (cv : Value) (b : Bool), xs = [.ref a, c] ∧ cvV c = some cv ∧ (∀ dd, d = some dd → ∃ fvs, H dd = some (.xd fvs)) ∧ PySem.W.kitOne K (.ref D) cv = some b ∧ Q (.bl b) H
theorem cr_isX {X : Cx} {a D : Addr} {d : Option Addr} {oe : Obj} {pn : List (Addr × Obj)} (C : ExcC X.K D) (hz : Zc (.ref D) d oe) (hf : ∃ vs, oe.data = .fields vs) : CallR (X.suite a ((a, oe) :: pn)) (.builtin "isinstance") (rIsX X.K D a d) := by
  intro pins s σ H xs us Q I r h
  obtain ⟨c, cv, b, rfl, hcv, hdd, e, q⟩ := h
  cases r with
  | cons rx rr =>
    cases rr with
    | cons rt rr =>
      cases rr
      cases rx
      have ec : ∀ u, RelV c u → u = cv := fun u ru => by
        cases c <;> first | (cases hcv; exact ru) | cases hcv
      obtain rfl := ec _ rt
      obtain ⟨hget, _⟩ := I.pin (a, oe) (List.mem_append.mpr (.inl List.mem_cons_self))
      obtain ⟨vs, hv⟩ := hf
      have J : ∃ od, PySem.W.InstAt s.heap a oe D od := by
        have nc : PySem.W.notCls oe = true := by unfold PySem.W.notCls; rw [hv] <;> rfl
        cases d with
        | none => exact ⟨none, hget, hz.1, nc, by rw [hz.2]; trivial⟩
        | some dd =>
          obtain ⟨fvs, hx⟩ := hdd dd rfl
          obtain ⟨mA, hns, _⟩ := (show ObjOk X.prog X.w H s.heap dd (.xd fvs) from I.hok dd _ hx)
          obtain ⟨od, ho, _⟩ := lookIn_ns hns
          exact ⟨some od, hget, hz.1, nc, by rw [hz.2]; exact ho⟩
      exact PySem.W.kia_one (kitx_e C) I.kIn J e (fun z => nomatch z) fun tk => ⟨.bl b, H, I.kept (t' := tk) fun _ _ z => z, rfl, q⟩
def fIsX (K : Frag) (D0 a : Addr) (cls : Value) (d : Option Addr) : F1 := fun ds P => match ds with
  | [.err a' C' d' fs, .raw c] => a' = a ∧ C' = D0 ∧ cls = .ref D0 ∧ d' = d ∧ ∃ cv b, cvV c = some cv ∧ PySem.W.kitOne K (.ref D0) cv = some b ∧ P (.bl b)
  | _ => False
theorem does_isX {K : Frag} {D0 a : Addr} {cls : Value} {d : Option Addr} : DoesC K (rIsX K D0 a d) (fIsX K D0 a cls d) := fun ms H xs ds P Q b rr h k => by
  unfold fIsX at h
  split at h
  · obtain ⟨rfl, rfl, _, rfl, cv, c, h1, h2, h3⟩ := h
    obtain ⟨v, w, rfl, r1, r2⟩ := rr.two
    cases r2 with
    | im r2 =>
      cases r2
      cases r1 with
      | im r1 =>
        cases r1 with
        | err g1 _ _ => exact ⟨_, cv, c, rfl, h1, fun dd z => (by cases z; exact ⟨_, hid_ex _ _ g1⟩), h2, k _ _ H h3 (Same.refl H) (.bl _)⟩
        | err0 => exact ⟨_, cv, c, rfl, h1, fun dd z => (by cases z), h2, k _ _ H h3 (Same.refl H) (.bl _)⟩
  · exact h.elim
/-- in a suite: isinstance(error, c) -/
theorem px_isX {X : Cx} {a D0 : Addr} {cls : Value} {d : Option Addr} {oe : Obj} {pn : List (Addr × Obj)} {e c : Expr} {p pos : Pos} {t u : XT} (C : cls = .ref D0 → ExcC X.K D0) (hz : Zc cls d oe) (hf : ∃ vs, oe.data = .fields vs) (hg : Gl (X.suite a ((a, oe) :: pn)) "isinstance") (hm : X.mg "isinstance" = none) (h : PE (X.suite a ((a, oe) :: pn)) e (Lb X.K t)) (hc : PE (X.suite a ((a, oe) :: pn)) c (Lb X.K u)) (he : starEach [e, c] X.env = (false, eval e X.env) :: starEach [c] X.env := by rfl)
    (he2 : starEach [c] X.env = (false, eval c X.env) :: starEach [] X.env := by rfl) (hpl : (backTo pos (starEach [c] X.env)).any (·.1) = false := by rfl) :
    PE (X.suite a ((a, oe) :: pn)) (.Call (.Name "isinstance" p) [e, c] [] pos) (Li X.K (xCall (fIsX X.K D0 a cls d) (aCons t (aCons u aNil)))) := by
  by_cases q : cls = .ref D0
  · subst q
    exact px_callB (X := X.suite a ((a, oe) :: pn)) (cr_isX (C rfl) hz hf) does_isX hg hm (by decide +kernel) (aw_cons (X := X.suite a ((a, oe) :: pn)) h (aw_cons (X := X.suite a ((a, oe) :: pn)) hc aw_nil he2) he) (by decide) (by decide) he hpl
  · refine pe_imp (X := X.suite a ((a, oe) :: pn)) (pe_callB (X := X.suite a ((a, oe) :: pn)) call_isi hg hm (by decide +kernel) (aw_cons (X := X.suite a ((a, oe) :: pn)) h (aw_cons (X := X.suite a ((a, oe) :: pn)) hc aw_nil he2) he) (by decide) (by decide) he hpl) fun σ H Q ⟨H0, ps, hs, Γ, P, se, ht, k⟩ => ?_
    refine ⟨H0, ps, hs, Γ, _, se, ht, fun ds vs H2 p e r => ?_⟩
    exfalso
    unfold fIsX at p
    split at p
    · exact q p.2.2.1
    · exact p
/-! ### constructors -/
structure ArgsG (K : Frag) (B G H : Hp) (vs : List V) (as : List Slot) : Prop where
  len : vs.length = as.length
  ok : ∀ (i : Nat) (s : Slot), as[i]? = some s → ∃ v, vs[i]? = some v ∧ SlotOk K B G H v s ∧ s.ad = none
theorem ArgsG.nil {K : Frag} {B G H : Hp} : ArgsG K B G H [] [] := ⟨rfl, fun i s e => by simp at e⟩
theorem ArgsG.cons {K : Frag} {B G H : Hp} {v : V} {s : Slot} {vs : List V} {as : List Slot} (h : SlotOk K B G H v s) (n : s.ad = none) (r : ArgsG K B G H vs as) : ArgsG K B G H (v :: vs) (s :: as) :=
  ⟨by simp [r.len], fun i s' e => by
    cases i with
    | zero => simp at e; subst e; exact ⟨v, rfl, h, n⟩
    | succ i => simpa using r.ok i s' (by simpa using e)⟩
theorem ArgsG.append {K : Frag} {B G H : Hp} {vs ws : List V} {as bs : List Slot} (a : ArgsG K B G H vs as) (b : ArgsG K B G H ws bs) : ArgsG K B G H (vs ++ ws) (as ++ bs) := by
  refine ⟨by simp [a.len, b.len], fun i s e => ?_⟩
  by_cases h : i < as.length
  · rw [List.getElem?_append_left h] at e
    rw [List.getElem?_append_left (by rw [a.len]; exact h)]
    exact a.ok i s e
  · rw [List.getElem?_append_right (by omega)] at e
    rw [List.getElem?_append_right (by rw [a.len]; omega), a.len]
    exact b.ok _ s e
theorem ArgsG.mono {K : Frag} {B G H B' G' H' : Hp} {vs : List V} {as : List Slot} (a : ArgsG K B G H vs as) (e1 : Ex B B') (e2 : Ex G G') (e3 : Ex H H') : ArgsG K B' G' H' vs as :=
  ⟨a.len, fun i s q => let ⟨v, h1, h2, h3⟩ := a.ok i s q; ⟨v, h1, h2.mono e1 e2 e3, h3⟩⟩
structure SIS where
  S : List Slot → (List (Str × D) → Prop) → EF → Prop
  mon : ∀ as (R R' : List (Str × D) → Prop) (F F' : EF), (∀ r, R r → R' r) → (∀ C fs, F C fs → F' C fs) → S as R F → S as R' F'
def spcIS {α : Type} (args : α → List Slot) (pre : α → Prop) (post : α → List (Str × D) → Prop) (exc : α → EF) : SIS :=
  ⟨fun as R F => ∃ x, as = args x ∧ pre x ∧ (∀ r, post x r → R r) ∧ ∀ C fs, exc x C fs → F C fs, fun as R R' F F' h1 h2 ⟨x, a, b, c, d⟩ => ⟨x, a, b, fun r q => h1 r (c r q), fun C fs q => h2 C fs (d C fs q)⟩⟩
def spIS (K : Frag) (C : Addr) (S : SIS) : Sp := fun vs H Q E => ∃ hs l dx us as, vs = .ref l :: us ∧ ArgsG K (hid hs H) (hid [l] H) H us as ∧ Bs hs H ∧ l ∈ hs ∧ H l = some (.ins C dx []) ∧
  S.S as (fun fs => ∀ H', (∀ a o, a ≠ l → H a = some o → H' a = some o) → (∃ dx' fvs, H' l = some (.ins C dx' fvs) ∧ fvs.map (·.1) = fs.map (·.1) ∧ Reps K (hid hs H') (fvs.map (·.2)) (fs.map (·.2))) → Q .non H')
    fun C' fs => ∀ d H', (∀ a o, a ≠ l → H a = some o → H' a = some o) → ExD K hs H' d fs → E (.ref C') d H'
theorem se_firstS {K : Frag} {hs : List Addr} {H : Hp} {l : Addr} {us : List V} {as : List Slot} {s0 : Slot} {n : Nat} (a : ArgsG K (hid hs H) (hid [l] H) H us as) (bb : Bs hs H) (hl : l ∈ hs) (h0 : s0.ad = some l) (hp : s0.par = true)
    (ok : SlotOk K (hid hs H) (hid [l] H) H (.ref l) s0) : SE K H [l] hs (some s0 :: env0 as n) (some (.ref l) :: (us.map some ++ List.replicate (n - us.length) none)) H := by
  have hn : adr (env0 as n) = [] := adr_none (fun s m => by
    obtain ⟨i, hi⟩ := List.mem_iff_getElem?.mp m
    exact (a.ok i s hi).choose_spec.2.2) _
  have hadr : adr (some s0 :: env0 as n) = [l] := by
    rw [adr_cons, hn]
    show (match s0.ad with
      | some a => [a]
      | none => []) = [l]
    rw [h0]
  have hB : hid (hs ++ [l]) H = hid hs H := by
    funext b
    by_cases hb : b ∈ hs
    · rw [hid_in hb, hid_in (List.mem_append_left _ hb)]
    · rw [hid_ni hb, hid_ni (fun m => (List.mem_append.mp m).elim hb fun z => hb (by rw [List.mem_singleton.mp z]; exact hl))]
  refine ⟨by simp [env0, a.len], fun i s e => ?_, by rw [hadr]; simp, fun b o _ q => q, fun i s b e z => ?_, fun b m => (by rw [List.mem_singleton.mp m]; exact hl), bb⟩
  · rw [hadr, hB]
    cases i with
    | zero =>
      simp at e
      subst e
      exact ⟨_, rfl, ok⟩
    | succ i =>
      have e' : (env0 as n)[i]? = some (some s) := by simpa using e
      have hi : i < as.length := by
        by_cases z : i < as.length
        · exact z
        · exfalso
          unfold env0 at e'
          rw [List.getElem?_append_right (by simp; omega)] at e'
          have q := (List.mem_replicate.mp (List.mem_iff_getElem?.mpr ⟨_, e'⟩)).2
          cases q
      have e2 : as[i]? = some s := by
        unfold env0 at e'
        rw [List.getElem?_append_left (by simpa using hi), List.getElem?_map] at e'
        cases z : as[i]? with
        | none => rw [z] at e'; cases e'
        | some s' => rw [z] at e'; simp at e'; rw [e']
      obtain ⟨v, h1, h2, _⟩ := a.ok i s e2
      refine ⟨v, ?_, h2⟩
      have hi2 : i < us.length := by rw [a.len]; exact hi
      simp only [List.getElem?_cons_succ]
      rw [List.getElem?_append_left (by simpa using hi2), List.getElem?_map, h1]
      rfl
  · cases i with
    | zero =>
      simp at e
      subst e
      have q : some l = some b := h0.symm.trans z
      cases q
      exact ⟨fun _ => List.mem_singleton.mpr rfl, fun q => (by rw [hp] at q; cases q)⟩
    | succ i =>
      have m : b ∈ adr (env0 as n) := mem_adr.mpr ⟨i, s, by simpa using e, z⟩
      rw [hn] at m
      cases m
section
variable {P : Program} {w : World} {K : Frag} {mg : Str → Option Value} {base : Heap}
theorem fn_initS {x qual : Str} {params : Arguments} {body : List Stmt} {scope : Scope} {dvs : List V} {kws : List (Str × V)} {f : Addr} {fd : FuncData} {N ps : List Str} {k : Nat} {α : Type} {args : α → List Slot} {pre : α → Prop} {post : α → List (Str × D) → Prop} {exc : α → EF} {n0 : Str} {C : Addr}
    (F : FunD K x qual params body scope dvs kws f fd) (Sc : FnScope (n0 :: N) (n0 :: ps) scope) (G : Addr → α → Env)
    (hb : ∀ (cdv : Value) (A : Around) (outer : List PySem.Env) (s : Shared) (H : Hp) (E : XK), Room k (A.deeper (PyProof.Rows.envOfC qual scope s.heap.objs.size f cdv)) →
      ∃ t, PSs (cxOf (L2.CX P w) P w K mg base (n0 :: N) qual scope f cdv A outer s H E) body (Ls K (fun cls d _ H => E cls d H) t) ∧ ∀ l x (R : List (Str × D) → Prop) (F : EF), pre x → (∀ r, post x r → R r) → (∀ C fs, exc x C fs → F C fs) → t { nx := fun Γ => ∃ fs, Γ[0]? = some (some (.mi l C fs)) ∧ R fs, rt := fun _ _ => False, ex := fun C fs _ => F C fs } (G l x))
    (hG : ∀ l x, some (.mi l C []) :: env0 (args x) N.length = G l x := by intro _ _; rfl) (hlen : ∀ x, (args x).length = ps.length := by intro _; rfl) : FnOk P w K mg base (L2.CX P w) (k + 1) f fd (n0 :: ps) (spIS K C (spcIS args pre post exc)) := by
  refine F.ok Sc (fun vs H Q E h => ?_) fun cdv A outer s H vs Q E hr h => ?_
  · obtain ⟨hs, l, dx, us, as, rfl, a, _, _, _, x, rfl, _⟩ := h
    simp [a.len, hlen x]
  · obtain ⟨hs, l, dx, us, as, rfl, a, bb, hl, hw, x, rfl, hp, hR, hX⟩ := h
    obtain ⟨t, h1, h2⟩ := hb cdv A outer s H E hr
    have hst : L2.start (n0 :: N) (.ref l :: us) = some (.ref l) :: (us.map some ++ List.replicate (N.length - us.length) none) := by
      unfold L2.start
      simp
    have se : SE K H [l] hs (G l x) (L2.start (n0 :: N) (.ref l :: us)) H := by
      rw [← hG, hst]
      exact se_firstS a bb hl rfl rfl ⟨rfl, dx, [], hw, rfl, .nil⟩
    refine ⟨Ls K _ t, h1, H, [l], hs, _, _, se, h2 l x _ _ hp hR hX, ⟨fun Γ' σ' H' ⟨fs, hz, q⟩ se' _ => ?_, fun r Γ' σ' v H' q => q.elim, fun _ _ _ q => q.elim, fun _ _ _ q => q.elim, fun C' fs Γ' σ' H' d q se' _ xd => q d H' (fun a o h q => se'.fr a o (fun m => h (List.mem_singleton.mp m)) q) xd.out⟩⟩
    obtain ⟨v, _, _, dx', ws, g2, g3, g4⟩ := se'.ok 0 _ hz
    exact q H' (fun a o h q => se'.fr a o (fun m => h (List.mem_singleton.mp m)) q) ⟨dx', ws, g2, g3, g4.mono (hid_sub fun a m => List.mem_append_left _ m)⟩
/-- how written arguments come to the parameters, as slots -/
def ArgRel (K : Frag) (n m : Nat) (gV : List V → List V → List V) (gS : List Slot → List Slot → List Slot) : Prop := ∀ (B G H : Hp) (v0 : V) (vs zs : List V) (as bs : List Slot), vs.length = n → zs.length = m → ArgsG K B G H vs as → ArgsG K B G H zs bs → ∃ us, gV (v0 :: vs) zs = v0 :: us ∧ ArgsG K B G H us (gS as bs)
/-- a class called with n arguments and the keywords ks -/
structure DcS (P : Program) (w : World) (K : Frag) (mg : Str → Option Value) (base : Heap) (x : Str) (C : Addr) (k : Nat) (S : SIS) (n : Nat) (ks : List Str) (gS : List Slot → List Slot → List Slot) : Prop where
  ex : ∃ (f : Addr) (fd : FuncData) (ps : List Str) (g : List Value → List Value → List Value) (gV : List V → List V → List V), FnOk P w K mg base (L2.CX P w) k f fd ps (spIS K C S) ∧ Mk K C f ∧ mg x = some (.ref C) ∧ KBn K fd ps (n + 1) ks g gV ∧ ArgRel K n ks.length gV gS
end
section
variable {X : Cx} {W : WX} {CX : CXT} {k n : Nat} {f C : Addr} {fd : FuncData} {ps ks : List Str} {sp : Sp} {g : List Value → List Value → List Value} {gV : List V → List V → List V}
def tMakeS (C : Addr) (n m : Nat) (sp : Sp) (gV : List V → List V → List V) (E : St → XK) (t tk : TA) : TE := fun σ H Q => t σ H fun vs H1 => tk σ H1 fun zs H2 => vs.length = n ∧ zs.length = m ∧
  ∀ x dx, H2 x = none → H2 dx = none → dx ≠ x → sp (gV (.ref x :: vs) zs) (upd (upd H2 dx (.own x)) x (.ins C dx [])) (fun v H3 => v = .non ∧ Q (.ref x) H3) (E σ)
theorem run_makeS {E : St → XK} {pins : List (Addr × Obj)} {σ : St} {H : Hp} {s : Shared} {Q : VK} {us ws : List Value} {vs zs : List V} (mk : Mk X.K C f) (fo : FnOk X.prog X.w X.K X.mg X.base CX k f fd ps sp) (room : Room (k + 1) X.A) (hb : KBn X.K fd ps (n + 1) ks g gV)
    (pas : PassesAt CX X σ (E σ)) (I : Inv X pins σ H s) (r : Vals vs us) (rz : Vals zs ws) (l1 : vs.length = n) (l2 : zs.length = ks.length)
    (h : ∀ x dx, H x = none → H dx = none → dx ≠ x → sp (gV (.ref x :: vs) zs) (upd (upd H dx (.own x)) x (.ins C dx [])) (fun v H2 => v = .non ∧ Q (.ref x) H2) (E σ)) :
    wpAny (model X.prog X.w) X.A (call (.ref C) us (ks.zip ws)) (EP X pins σ Q) X.xe s := by
  have q0 := h (s.heap.objs.size + 1) s.heap.objs.size (I.hok.fresh (Nat.le_succ _)) (I.hok.fresh (Nat.le_refl _)) (Nat.ne_of_lt (Nat.lt_succ_self _))
  have J := Inv.made (C := C) I
  have ra : Vals (V.ref (s.heap.objs.size + 1) :: vs) (Value.ref (s.heap.objs.size + 1) :: us) := .cons rfl r
  have len1 : (Value.ref (s.heap.objs.size + 1) :: us).length = n + 1 := (ra.length.symm).trans (congrArg Nat.succ l1)
  have len2 : ws.length = ks.length := (rz.length.symm).trans l2
  have go := fo.run _ X.stack _ _ ⟨Value.ref (s.heap.objs.size + 1) :: us, ks.zip ws⟩ (g (Value.ref (s.heap.objs.size + 1) :: us) ws) _ _ (E σ) (room.make C us (ks.zip ws)) (J.env0.make C us (ks.zip ws)) (hb.to _ (Value.ref (s.heap.objs.size + 1) :: us) ws J.kIn len1 len2) (hb.rel ra rz) q0
  refine wpAny_call (make_map (f := f) I.kIn mk.makes mk.init (beq_iff_eq.mp mk.fn) (codeAny_mono go fun res s' ans => ?_))
  match res, ans with
  | .error e, ans => exact pas pins _ _ e s' J ans
  | .ok (.ret u), ans =>
    obtain ⟨v, H', I3, rv, ev, q3⟩ := J.after ans
    cases ev
    exact ⟨rv, ⟨V.ref (s.heap.objs.size + 1), H', I3, rfl, q3⟩⟩
  | .ok .next, ans => exact False.elim ans
  | .ok .brk, ans => exact False.elim ans
  | .ok .cont, ans => exact False.elim ans
theorem pe_makeS {x : Str} {p pos : Pos} {e : Expr} {es : List Expr} {kws : List Keyword} {t tk : TA} {E : St → XK} (mk : Mk X.K C f) (fo : FnOk X.prog X.w X.K X.mg X.base CX k f fd ps sp) (room : Room (k + 1) X.A) (hg : Gl X x) (hm : X.mg x = some (.ref C)) (hb : KBn X.K fd ps (n + 1) ks g gV) (pas : ∀ σ, PassesAt CX X σ (E σ))
    (ha : PA X (e :: es) t) (hkw : PK X kws tk) (hall : (backToKw pos (keywordEach kws X.env)).all (·.1.isSome) = true) (hks : (backToKw pos (keywordEach kws X.env)).filterMap (·.1) = ks)
    (hdb : (x == ("__debug__" : Str)) = false) (he : starEach (e :: es) X.env = (false, eval e X.env) :: starEach es X.env)
    (hpl : ((backTo pos (starEach (e :: es) X.env)).any (·.1) || (backToKw pos (keywordEach kws X.env)).any (·.1.isNone)) = false) :
    PE X (.Call (.Name x p) (e :: es) kws pos) (tMakeS C n ks.length sp gV E t tk) := ⟨fun pins s σ H Q I h =>
  wpAny_Call_Name_kw (ld_glob I hg hm (PySem.W.callWith_KW (h₀ := X.base) I.ok.mod.kin mk.kp hall (thn (ha.run pos pins s σ H _ I h) fun us s1 ⟨vs, H1, I1, r, q⟩ =>
    thn (hkw.run pos pins s1 σ H1 _ I1 q) fun ws s2 ⟨zs, H2, I2, rz, l1, l2, q2⟩ => ⟨I2.kIn, by rw [hks]; exact run_makeS mk fo room hb (pas σ) I2 r rz l1 l2 q2⟩) hpl he) hdb)⟩
theorem pk_imp {kws : List Keyword} {t t' : TA} (h : PK X kws t) (hi : ∀ σ H Q, t' σ H Q → t σ H Q) : PK X kws t' := ⟨fun p pins s σ H Q I q => h.run p pins s σ H Q I (hi σ H Q q)⟩
theorem kx_nil : PK X [] (LaX X.K axNil) := pk_imp pk_nil fun σ H Q ⟨H0, ps, hs, Γ, P, se, ht, k⟩ => k [] [] H ht (Same.refl H) .nil
theorem kx_i {e : Expr} {nm : Option Str} {kpos : Pos} {kws : List Keyword} {t : XT} {u : AT} (he : PE X e (Li X.K t)) (hs : PK X kws (LaX X.K u)) : PK X (⟨nm, e, kpos⟩ :: kws) (LaX X.K (axI t u)) :=
  pk_imp (pk_cons he hs) fun σ H Q ⟨H0, ps, hs, Γ, P, se, ht, k⟩ => ⟨H0, ps, hs, Γ, _, se, ht, fun d v H2 p e r => ⟨H0, ps, hs, Γ, _, se.mono e, p, fun as vs H3 q e3 r3 => k _ _ H3 q (e.trans e3) (.cons (s := .im d) (r.mono (hid_ex2 e3)) rfl r3)⟩⟩
theorem kx_b {e : Expr} {nm : Option Str} {kpos : Pos} {kws : List Keyword} {t : XT} {u : AT} (he : PE X e (Lb X.K t)) (hs : PK X kws (LaX X.K u)) : PK X (⟨nm, e, kpos⟩ :: kws) (LaX X.K (axB t u)) :=
  pk_imp (pk_cons he hs) fun σ H Q ⟨H0, ps, hs, Γ, P, se, ht, k⟩ => ⟨H0, ps, hs, Γ, _, se, ht, fun d v H2 p e r => ⟨H0, ps, hs, Γ, _, se.mono e, p, fun as vs H3 q e3 r3 => k _ _ H3 q (e.trans e3) (.cons (s := .bo d) (r.mono (hid_ex2 e3) e3) rfl r3)⟩⟩
def zMkS (C : Addr) (S : SIS) (n m : Nat) (gS : List Slot → List Slot → List Slot) (t tk : AT) : ZT := fun Γ P F => t Γ fun as => tk Γ fun bs => as.length = n ∧ bs.length = m ∧ S.S (gS as bs) (fun fs => P (.obj C fs) Γ) fun C' fs => F C' fs Γ
theorem zmakeS_li {S : SIS} {m : Nat} {gS : List Slot → List Slot → List Slot} {t tk : AT} (ar : ArgRel X.K n m gV gS) (σ : St) (H : Hp) (Q : VK) (h : Lz X.K W (zMkS C S n m gS t tk) σ H Q) : tMakeS C n m (spIS X.K C S) gV (WE W) (LaX X.K t) (LaX X.K tk) σ H Q := by
  obtain ⟨H0, ps, hs, Γ, P, F, se, ht, k, xw⟩ := h
  refine ⟨H0, ps, hs, Γ, _, se, ht, fun as vs H1 p e1 r1 => ?_⟩
  refine ⟨H0, ps, hs, Γ, _, se.mono e1, p, fun bs zs H2 p2 e2 r2 => ?_⟩
  obtain ⟨la, lb, p⟩ := p2
  refine ⟨r1.len.trans la, r2.len.trans lb, fun x dx nx nd ne => ?_⟩
  have se2 := (se.mono e1).mono e2
  have eN : Ex H2 (upd (upd H2 dx (.own x)) x (.ins C dx [])) := fun a o q => by
    rw [upd_ne (ne_of_none q nx), upd_ne (ne_of_none q nd)]; exact q
  have nms : x ∉ hs ++ adr Γ := se2.bs.new nx
  have eH : Ex (hid (hs ++ adr Γ) H2) (hid (x :: (hs ++ adr Γ)) (upd (upd H2 dx (.own x)) x (.ins C dx []))) := hid_fresh nx eN
  have eG : Ex H2 (hid [x] (upd (upd H2 dx (.own x)) x (.ins C dx []))) := fun a o q => (hid_fresh (ms := []) nx eN) a o (by rw [hid_ni (by simp)]; exact q)
  have g1 : ArgsG X.K (hid (x :: (hs ++ adr Γ)) (upd (upd H2 dx (.own x)) x (.ins C dx []))) (hid [x] (upd (upd H2 dx (.own x)) x (.ins C dx []))) (upd (upd H2 dx (.own x)) x (.ins C dx [])) vs as :=
    (ArgsG.mk (K := X.K) (B := hid (hs ++ adr Γ) H1) (G := H1) (H := H1) r1.len r1.ok).mono ((hid_ex2 e2).trans eH) (e2.trans eG) (e2.trans eN)
  have g2 : ArgsG X.K (hid (x :: (hs ++ adr Γ)) (upd (upd H2 dx (.own x)) x (.ins C dx []))) (hid [x] (upd (upd H2 dx (.own x)) x (.ins C dx []))) (upd (upd H2 dx (.own x)) x (.ins C dx [])) zs bs :=
    (ArgsG.mk (K := X.K) (B := hid (hs ++ adr Γ) H2) (G := H2) (H := H2) r2.len r2.ok).mono eH eG eN
  obtain ⟨us, hu, g3⟩ := ar _ _ _ (.ref x) vs zs as bs (r1.len.trans la) (r2.len.trans lb) g1 g2
  refine ⟨x :: (hs ++ adr Γ), x, dx, us, gS as bs, hu, g3, fun a m => ?_, List.mem_cons_self, upd_same, S.mon _ _ _ _ _ (fun fs hf H' fr ⟨dx', fvs, g1, g2, g3⟩ => ⟨rfl, ?_⟩) (fun C' fs hf d H' fr xd => ?_) p⟩
  · rcases List.mem_cons.mp m with rfl | m
    · rw [upd_same]; intro z; cases z
    · exact (se2.bs.mono eN) a m
  · have e3 : Ex H2 H' := fun a o q => fr a o (ne_of_none q nx) (eN a o q)
    have e4 := (e1.trans e2).trans e3
    exact k _ Γ _ H' hf (se.mono e4) (Km.ex e4) (.obj (by rw [hid_ni nms]; exact g1) g2 (g3.mono (hid_sub fun a m => List.mem_cons_of_mem _ m)))
  · have e3 : Ex H2 H' := fun a o q => fr a o (ne_of_none q nx) (eN a o q)
    have e4 := (e1.trans e2).trans e3
    exact xw C' fs Γ H' d hf (se.mono e4) (Km.ex e4) (xd.sub fun a m => List.mem_cons_of_mem _ m)
theorem z_makeS {x : Str} {S : SIS} {gS : List Slot → List Slot → List Slot} {e : Expr} {es : List Expr} {kws : List Keyword} {p pos : Pos} {t tk : AT} (tks : Takes X W) (F : DcS X.prog X.w X.K X.mg X.base x C k S n ks gS) (hr : Room (k + 1) X.A) (ha : PA X (e :: es) (LaX X.K t)) (hkw : PK X kws (LaX X.K tk)) (hg : Gl X x := by rfl)
    (hall : (backToKw pos (keywordEach kws X.env)).all (·.1.isSome) = true := by rfl) (hks : (backToKw pos (keywordEach kws X.env)).filterMap (·.1) = ks := by rfl) (hdb : (x == ("__debug__" : Str)) = false := by decide)
    (he : starEach (e :: es) X.env = (false, eval e X.env) :: starEach es X.env := by rfl) (hpl : ((backTo pos (starEach (e :: es) X.env)).any (·.1) || (backToKw pos (keywordEach kws X.env)).any (·.1.isNone)) = false := by rfl) : PE X (.Call (.Name x p) (e :: es) kws pos) (Lz X.K W (zMkS C S n ks.length gS t tk)) := by
  obtain ⟨f, fd, ps, g, gV, h1, h2, h3, h4, h5⟩ := F.ex
  exact pe_imp (pe_makeS h2 h1 hr hg h3 h4 (fun σ => passAt tks σ) ha hkw hall hks hdb he hpl) (zmakeS_li h5)
end
end Kb
set_option Elab.async false
set_option linter.all false
set_option maxRecDepth 100000
set_option maxHeartbeats 1000000
/-! Kb19: comprehensions whose elements change lists; fields of what may raise. -/
namespace Kb
open PySem L2
set_option autoImplicit false
/-! ### what is walked, its maker may change lists -/
def LIZ (K : Frag) (t : MT) : TI := fun σ H R => ∃ (H0 : Hp) (ps hs : List Addr) (Γ : Env) (P : List D → Env → Prop), SE K H0 ps hs Γ σ H ∧ t Γ P ∧ ∀ ds Γ2 J H2, P ds Γ2 → SE K H0 ps hs Γ2 σ H2 → Km hs Γ H Γ2 H2 → Walks K (fun H' => Ex (hid (hs ++ adr Γ) H2) H') (hid (hs ++ adr Γ) H2) J ds → R J H2
def iP (t : FT) : MT := fun Γ P => t Γ fun ds => P ds Γ
section
variable {X : Cx} {tg e : Expr}
theorem iz {t : FT} (h : PI X tg e (LI X.K t)) : PI X tg e (LIZ X.K (iP t)) := pi_imp h fun σ H R ⟨H0, ps, hs, Γ, P, se, ht, k⟩ => ⟨H0, ps, hs, Γ, _, se, ht, fun ds J H2 p e w => k ds Γ J H2 p (se.mono e) (Km.ex e) w⟩
theorem iz_m {t : MT} (h : PI X tg e (LIM X.K t)) : PI X tg e (LIZ X.K t) := pi_imp h fun σ H R ⟨H0, ps, hs, Γ, P, se, ht, k⟩ => ⟨H0, ps, hs, Γ, _, se, ht, fun ds Γ2 J H2 p se2 k2 w => k ds Γ2 J H2 p se2 k2 (w.imp fun _ _ => trivial)⟩
end
/-! ### new lists -/
def LmF (K : Frag) (t : MT) : TE := fun σ H Q => ∃ (H0 : Hp) (ps hs : List Addr) (Γ : Env) (P : List D → Env → Prop), SE K H0 ps hs Γ σ H ∧ t Γ P ∧ ∀ ds Γ2 p vs H2, P ds Γ2 → H p = none → SE K H0 ps (p :: hs) Γ2 σ H2 → Km hs Γ H Γ2 H2 → H2 p = some (.lst vs) → Reps K (hid (p :: (hs ++ adr Γ)) H2) vs ds → Q (.ref p) H2
theorem SE.unhide {K : Frag} {H0 : Hp} {ps hs : List Addr} {Γ : Env} {σ : St} {H : Hp} {p : Addr} (h : SE K H0 ps (p :: hs) Γ σ H) (hp : ∀ l ∈ ps, l ∈ hs) : SE K H0 ps hs Γ σ H :=
  ⟨h.len, fun i s q => let ⟨v, a, b⟩ := h.ok i s q; ⟨v, a, b.mono (hid_sub fun a m => List.mem_cons_of_mem _ m) (Same.refl _) (Same.refl _)⟩, h.nd, h.fr, (fun i s l q a => ⟨(h.own i s l q a).1, fun z => ⟨((h.own i s l q a).2 z).1, fun m => ((h.own i s l q a).2 z).2 (List.mem_cons_of_mem _ m)⟩⟩), hp, fun l m => h.hx l (List.mem_cons_of_mem _ m)⟩
def mF (t : MT) : IT := fun Γ P => t Γ fun ds Γ2 => P (.lst ds) Γ2
section
variable {X : Cx} {W : WX}
theorem mx_f {e : Expr} {t : MT} (h : PE X e (LmF X.K t)) : PE X e (Lm X.K (mF t)) := pe_imp h fun σ H Q ⟨H0, ps, hs, Γ, P, se, ht, k⟩ => ⟨H0, ps, hs, Γ, _, se, ht, fun ds Γ2 p vs H2 q n se2 k2 h2 r => k _ Γ2 _ H2 q (se2.unhide se.psub) k2 (by
  have np : p ∉ hs ++ adr Γ := se.bs.new n
  exact .lst (by rw [hid_ni np]; exact h2) (r.mono (hid_sub fun a m => List.mem_cons_of_mem _ m)))⟩
def sRetMF (t : MT) : ST := fun E Γ => t Γ fun ds Γ2 => E.rt (.fl ds) Γ2
theorem s_retMF {e : Expr} {pos : Pos} {t : MT} (h : PE X e (LmF X.K t)) : PS X (.Return (some e) pos) (Ls X.K W (sRetMF t)) := ps_imp (ps_ret h) fun D σ H ⟨H0, ps, hs, Γ, E, se, ht, r⟩ =>
  ⟨H0, ps, hs, Γ, _, se, ht, fun ds Γ2 p vs H2 q n se2 k2 h2 rr => r.rt (.fl ds) Γ2 σ _ H2 q (se2.unhide se.psub) ⟨p, vs, rfl, se.h0 n, h2, rr.mono (hid_sub fun a m => (List.mem_cons.mp m).elim (fun z => by rw [z]; exact List.mem_cons_self) fun z => List.mem_cons_of_mem _ (List.mem_append_left _ z))⟩⟩
end
/-! ### the comprehension -/
def backE (Γ Γw : Env) : List Nat → Env
  | [] => Γw
  | v :: vs => (backE Γ Γw vs).set v (Γ[v]?.join)
/-- slots that hold data, or nothing -/
def freeI (Γ : Env) (vs : List Nat) : Bool := vs.all fun v => match Γ[v]? with
  | some (some (.im _)) => true
  | some none => true
  | _ => false
/-- nothing borrowed -/
def nobo (Γ : Env) : Bool := Γ.all fun o => match o with
  | some (.bo _) => false
  | _ => true
def okW (vs : List Nat) (Γ : Env) : Bool := nobo Γ && freeI Γ vs
def LcZ (Γ : Env) (g : GT) (tt : BT) (te : IT) (vs : List Nat) (ds : List D) (P : List D → Env → Prop) : Prop := ds.length ≤ sizeLine ∧ okW vs Γ = true ∧
  ∃ I : Nat → List D → Env → Prop, I 0 [] (wipeE Γ vs) ∧ (∀ (i : Nat) (d : D) (acc : List D) (Γw : Env), ds[i]? = some d → acc.length ≤ i → I i acc Γw → g d Γw fun Γ2 => tt Γ2 fun b => (b = true → te Γ2 fun z Γ3 => okW vs Γ3 = true ∧ I (i + 1) (acc ++ [z]) (wipeE Γ3 vs)) ∧ (b = false → okW vs Γ2 = true ∧ I (i + 1) acc (wipeE Γ2 vs))) ∧
    ∀ acc Γw, I ds.length acc Γw → P acc (backE Γ Γw vs)
def mLc (ti : MT) (g : GT) (tt : BT) (te : IT) (vs : List Nat) : MT := fun Γ P => ti Γ fun ds Γ1 => LcZ Γ1 g tt te vs ds P
theorem adr_set_free {Γ : Env} : ∀ {i : Nat} {o : Option Slot}, free Γ i = true → o.bind Slot.ad = none → adr (Γ.set i o) = adr Γ := by
  induction Γ with
  | nil => intro i o _ _; rfl
  | cons p Γ ih =>
    intro i o h ho
    cases i with
    | zero =>
      rw [List.set_cons_zero, adr_cons, adr_cons, ho]
      cases p with
      | none => rfl
      | some s =>
        have z : s.ad.isNone = true := h
        show adr Γ = (match s.ad with
          | some a => a :: adr Γ
          | none => adr Γ)
        cases e : s.ad with
        | none => rfl
        | some a => rw [e] at z; cases z
    | succ i => rw [List.set_cons_succ, adr_cons, adr_cons, ih (by simpa [free] using h) ho]
theorem freeI_free {Γ : Env} {vs : List Nat} (h : freeI Γ vs = true) {v : Nat} (hv : v ∈ vs) : free Γ v = true := by
  have z := List.all_eq_true.mp h v hv
  unfold free
  split at z <;> simp_all [Slot.ad]
theorem free_set {Γ : Env} {i v : Nat} {o : Option Slot} (h : free Γ v = true) (ho : o.bind Slot.ad = none) : free (Γ.set i o) v = true := by
  unfold free at h ⊢
  by_cases e : i = v
  · subst e
    by_cases hl : i < Γ.length
    · rw [List.getElem?_set_self hl]
      cases o with
      | none => rfl
      | some s =>
        have : s.ad = none := ho
        simp [this]
    · rw [List.getElem?_eq_none (by rw [List.length_set]; omega)]
  · rw [List.getElem?_set_ne e]
    exact h
theorem wipe_free {Γ : Env} : ∀ {vs : List Nat}, (∀ v ∈ vs, free Γ v = true) → adr (wipeE Γ vs) = adr Γ ∧ ∀ v, free Γ v = true → free (wipeE Γ vs) v = true
  | [], _ => ⟨rfl, fun _ h => h⟩
  | v :: vs, h => by
    obtain ⟨a, b⟩ := wipe_free (Γ := Γ) (vs := vs) fun u hu => h u (List.mem_cons_of_mem _ hu)
    have fv : free (wipeE Γ vs) v = true := b v (h v List.mem_cons_self)
    exact ⟨(adr_set_free fv rfl).trans a, fun u hu => free_set (b u hu) rfl⟩
theorem wipeE_len (Γ : Env) : ∀ vs : List Nat, (wipeE Γ vs).length = Γ.length
  | [] => rfl
  | v :: vs => by rw [wipeE, List.length_set, wipeE_len Γ vs]
theorem backE_len (Γ Γw : Env) : ∀ vs : List Nat, (backE Γ Γw vs).length = Γw.length
  | [] => rfl
  | v :: vs => by rw [backE, List.length_set, backE_len Γ Γw vs]
theorem wipeE_get (Γ : Env) : ∀ (vs : List Nat) (j : Nat), j ∈ vs → j < Γ.length → (wipeE Γ vs)[j]? = some none
  | v :: vs, j, h, hl => by
    unfold wipeE
    by_cases e : v = j
    · subst e
      rw [List.getElem?_set_self (by rw [wipeE_len]; exact hl)]
    · rw [List.getElem?_set_ne e]
      exact wipeE_get Γ vs j ((List.mem_cons.mp h).resolve_left fun z => e z.symm) hl
theorem backE_get (Γ Γw : Env) : ∀ (vs : List Nat) (j : Nat), (backE Γ Γw vs)[j]? = if j ∈ vs ∧ j < Γw.length then some (Γ[j]?.join) else Γw[j]?
  | [], j => by simp [backE]
  | v :: vs, j => by
    unfold backE
    by_cases e : v = j
    · subst e
      by_cases hl : v < Γw.length
      · rw [List.getElem?_set_self (by rw [backE_len]; exact hl), if_pos ⟨List.mem_cons_self, hl⟩]
      · rw [List.getElem?_eq_none (by rw [List.length_set, backE_len]; omega), if_neg (fun z => hl z.2), List.getElem?_eq_none (by omega)]
    · rw [List.getElem?_set_ne e, backE_get Γ Γw vs j]
      have : j ∈ v :: vs ↔ j ∈ vs := by simp [Ne.symm e]
      simp only [this]
theorem back_free {Γ Γw : Env} : ∀ {vs : List Nat}, freeI Γ vs = true → (∀ v ∈ vs, free Γw v = true) → adr (backE Γ Γw vs) = adr Γw ∧ ∀ v, free Γw v = true → free (backE Γ Γw vs) v = true
  | [], _, _ => ⟨rfl, fun _ h => h⟩
  | v :: vs, h, hw => by
    have h1 : freeI Γ vs = true := by
      unfold freeI at h ⊢
      rw [List.all_cons, Bool.and_eq_true] at h
      exact h.2
    obtain ⟨a, b⟩ := back_free (Γ := Γ) (Γw := Γw) (vs := vs) h1 fun u hu => hw u (List.mem_cons_of_mem _ hu)
    have fv : free (backE Γ Γw vs) v = true := b v (hw v List.mem_cons_self)
    have ho : (Γ[v]?.join).bind Slot.ad = none := by
      have z := List.all_eq_true.mp h v List.mem_cons_self
      split at z <;> simp_all [Slot.ad]
    exact ⟨(adr_set_free fv ho).trans a, fun u hu => free_set (b u hu) ho⟩
/-- back to the slots ahead of the comprehension -/
theorem SE.back {K : Frag} {H0 : Hp} {ps hs hs' : List Addr} {Γ Γw : Env} {σ : St} {H H' : Hp} {vs : List Nat} (se : SE K H0 ps hs Γ σ H) (fr : freeI Γ vs = true) (hw : ∀ v ∈ vs, free Γw v = true) (sw : SE K H0 ps hs' Γw (L2.wipe σ vs) H')
    (hB : Ex (hid (hs ++ adr Γ) H) (hid (hs' ++ adr Γw) H')) (hlen : Γw.length = Γ.length) : SE K H0 ps hs' (backE Γ Γw vs) σ H' := by
  obtain ⟨ha, _⟩ := back_free fr hw
  refine ⟨by rw [backE_len, hlen]; exact se.len, fun i s q => ?_, by rw [ha]; exact sw.nd, sw.fr, fun i s l q hl => ?_, sw.psub, sw.hx⟩
  · rw [ha]
    rw [backE_get] at q
    by_cases hi : i ∈ vs ∧ i < Γw.length
    · rw [if_pos hi] at q
      have z := List.all_eq_true.mp fr i hi.1
      split at z
      · rename_i d e
        rw [e] at q
        cases q
        obtain ⟨v, h1, h2⟩ := se.ok i _ e
        exact ⟨v, h1, Rep.mono hB h2⟩
      · rename_i e
        rw [e] at q
        cases q
      · cases z
    · rw [if_neg hi] at q
      obtain ⟨v, h1, h2⟩ := sw.ok i s q
      rw [wipe_get] at h1
      by_cases hv : i ∈ vs
      · have hl : i < Γw.length := (List.getElem?_eq_some_iff.mp q).1
        exact absurd ⟨hv, hl⟩ hi
      · rw [if_neg hv] at h1
        exact ⟨v, h1, h2⟩
  · rw [backE_get] at q
    by_cases hi : i ∈ vs ∧ i < Γw.length
    · rw [if_pos hi] at q
      have z := List.all_eq_true.mp fr i hi.1
      split at z
      · rename_i d e
        rw [e] at q
        cases q
        cases hl
      · rename_i e
        rw [e] at q
        cases q
      · cases z
    · rw [if_neg hi] at q
      exact sw.own i s l q hl
theorem Km.none {hs : List Addr} {Γ Γ2 : Env} {H H2 : Hp} (k : Km hs Γ H Γ2 H2) (bs2 : Bs (adr Γ) H2) {p : Addr} (n : H2 p = none) : H p = none := by
  cases z : H p with
  | none => rfl
  | some o =>
    by_cases hp : p ∈ adr Γ
    · exact absurd n (bs2 p hp)
    · rw [k.2 p o hp z] at n; cases n
theorem Bs.right {as bs : List Addr} {H : Hp} (b : Bs (as ++ bs) H) : Bs bs H := fun a m => b a (List.mem_append_right _ m)
theorem hid_one {ms : List Addr} {H H2 : Hp} {p : Addr} (n : H p = none) (e : Ex (hid ms H) (hid ms H2)) : Ex (hid ms H) (hid (p :: ms) H2) := fun a o q => by
  have h1 := e a o q
  have ha : a ∉ ms := fun m => by rw [hid_in m] at q; cases q
  rw [hid_ni ha] at q h1
  rw [hid_ni (fun m => (List.mem_cons.mp m).elim (ne_of_none q n) ha)]
  exact h1
theorem nobo_wipe {Γ : Env} (h : nobo Γ = true) (vs : List Nat) {i : Nat} {d : D} : (wipeE Γ vs)[i]? ≠ some (some (.bo d)) := by
  induction vs with
  | nil =>
    intro e
    have z := List.all_eq_true.mp h _ (List.mem_iff_getElem?.mpr ⟨i, e⟩)
    cases z
  | cons v vs ih =>
    intro e
    unfold wipeE at e
    by_cases hv : v = i
    · subst hv
      have hl : v < (wipeE Γ vs).length := by
        have := (List.getElem?_eq_some_iff.mp e).1
        rwa [List.length_set] at this
      rw [List.getElem?_set_self hl] at e
      cases e
    · rw [List.getElem?_set_ne hv] at e
      exact ih e
/-- a hidden object is written; nothing is borrowed -/
theorem SE.updHid {K : Frag} {H0 : Hp} {ps hs : List Addr} {Γ : Env} {σ : St} {H : Hp} (se : SE K H0 ps hs Γ σ H) {l : Addr} {o : HO} (hl : l ∈ hs) (hn : l ∉ adr Γ) (h0 : H0 l = none) (nb : ∀ (i : Nat) (d : D), Γ[i]? ≠ some (some (Slot.bo d))) : SE K H0 ps hs Γ σ (upd H l o) := by
  refine ⟨se.len, fun i s q => ?_, se.nd, fun a u h q => ?_, se.own, se.psub, fun a m q => ?_⟩
  · obtain ⟨v, h1, h2⟩ := se.ok i s q
    refine ⟨v, h1, ?_⟩
    rw [hid_upd (List.mem_append_left _ hl)]
    have nd : ∀ l2, s.ad = some l2 → l2 ≠ l := fun l2 h3 z => hn (by rw [← z]; exact mem_adr.mpr ⟨i, s, q, h3⟩)
    cases s with
    | im d => exact h2
    | bo d => exact absurd q (nb i d)
    | ml l2 ds => obtain ⟨a, vs, b, c⟩ := h2; exact ⟨a, vs, by rw [upd_ne (nd l2 rfl)]; exact b, c⟩
    | pl l2 ds => obtain ⟨a, vs, b, c⟩ := h2; exact ⟨a, vs, by rw [upd_ne (nd l2 rfl)]; exact b, c⟩
    | md l2 es => obtain ⟨a, vs, b, c⟩ := h2; exact ⟨a, vs, by rw [upd_ne (nd l2 rfl)]; exact b, c⟩
    | mt l2 es => obtain ⟨a, vs, b, c⟩ := h2; exact ⟨a, vs, by rw [upd_ne (nd l2 rfl)]; exact b, c⟩
    | mi l2 C fs => obtain ⟨a, dx, vs, b, c⟩ := h2; exact ⟨a, dx, vs, by rw [upd_ne (nd l2 rfl)]; exact b, c⟩
    | ms l2 C fs => obtain ⟨a, dx, vs, fvs, b, c⟩ := h2; exact ⟨a, dx, vs, fvs, by rw [upd_ne (nd l2 rfl)]; exact b, c⟩
  · rw [upd_ne (fun z => by rw [z, h0] at q; cases q)]
    exact se.fr a u h q
  · by_cases z : a = l
    · subst z; rw [upd_same] at q; cases q
    · rw [upd_ne z] at q; exact se.hx a m q
section
variable {X : Cx}
theorem free_wipe (Γ : Env) (vs : List Nat) : ∀ v ∈ vs, free (wipeE Γ vs) v = true := fun v hv => by
  unfold free
  by_cases hl : v < Γ.length
  · rw [wipeE_get Γ vs v hv hl]
  · rw [List.getElem?_eq_none (by rw [wipeE_len]; omega)]
theorem lcz_li {vs : List Nat} {ti : MT} {g : GT} {tt : BT} {te : IT} {gown : List Nat} (hsub : ∀ j ∈ gown, j ∈ vs) {K : Frag} (σ : St) (H : Hp) (Q : VK) (h : LmF K (mLc ti g tt te vs) σ H Q) : tLc (LIZ K ti) (Lg K gown g) (Lt K tt) (Lm K te) vs σ H Q := by
  obtain ⟨H0, ps, hs, Γ, P, se, hti, k⟩ := h
  refine ⟨H0, ps, hs, Γ, _, se, hti, fun ds Γ1 J H1 hp se1 k1 w => fun Dl nD => ?_⟩
  obtain ⟨hlen, hok, I, i0, turn, done⟩ := hp
  obtain ⟨hnb, hfr⟩ := Bool.and_eq_true_iff.mp hok
  have bs1 := se1.bs
  have nH : H Dl = none := k1.none (by rw [← k1.1]; exact bs1.right) nD
  have hw0 := (wipe_free (Γ := Γ1) (vs := vs) fun v hv => freeI_free hfr hv).1
  have nms : Dl ∉ hs ++ adr Γ1 := bs1.new nD
  refine ⟨fun i m H' => m = ds.length - i ∧ i ≤ ds.length ∧ (∀ a o, a ∉ adr Γ1 → H1 a = some o → H' a = some o) ∧ ∃ acc accD Γw, H' Dl = some (.lst acc) ∧ accD.length ≤ i ∧ Reps K (hid (Dl :: (hs ++ adr Γ1)) H') acc accD ∧ SE K H0 ps (Dl :: hs) Γw (L2.wipe σ vs) H' ∧ adr Γw = adr Γ1 ∧ (∀ v ∈ vs, free Γw v = true) ∧ Γw.length = Γ1.length ∧ I i accD Γw,
    ⟨ds.length, by simp, Nat.zero_le _, fun a o _ q => Ex.new nD a o q, [], [], wipeE Γ1 vs, upd_same, Nat.le_refl _, .nil, (se1.hide nD (Ex.new nD) (by rw [upd_same]; intro z; cases z)).wipe _, hw0, free_wipe Γ1 vs, wipeE_len _ _, i0⟩, ?_⟩
  rintro i m H' ⟨rfl, hil, eH, acc, accD, Γw, hD, hacc, racc, sw, haw, hfw, hlw, hI⟩
  have eB : Ex (hid (hs ++ adr Γ1) H1) (hid (hs ++ adr Γ1) H') := hid_mono fun a o n q => eH a o (fun z => n (List.mem_append_right _ z)) q
  have hS : Ex (hid (hs ++ adr Γ) H1) H' := by rw [← k1.1]; exact eB.trans hid_ex
  by_cases hlt : i < ds.length
  · refine .inr ⟨w.go i H' hS hlt, fun H'' => (∀ a o, a ∉ adr Γ1 → H1 a = some o → H'' a = some o) ∧ ∃ acc accD Γw, H'' Dl = some (.lst acc) ∧ accD.length ≤ i + 1 ∧ Reps K (hid (Dl :: (hs ++ adr Γ1)) H'') acc accD ∧ SE K H0 ps (Dl :: hs) Γw (L2.wipe σ vs) H'' ∧ adr Γw = adr Γ1 ∧ (∀ v ∈ vs, free Γw v = true) ∧ Γw.length = Γ1.length ∧ I (i + 1) accD Γw, ?_, ?_⟩
    · rintro H'' ⟨e2, z⟩
      exact ⟨ds.length - (i + 1), by omega, rfl, hlt, e2, z⟩
    · intro x H'' hy
      obtain ⟨e9, d, hd, rx⟩ := w.yl i H' x H'' hS hlt hy
      replace rx := rx (Dl :: (hs ++ adr Γ1)) (bs_cons (by rw [hD]; intro z; cases z) (fun a m => sw.bs a (by rw [haw]; exact List.mem_cons_of_mem _ m))) (by rw [← k1.1]; exact hid_one nD eB)
      replace eH := fun a o n q => e9 _ _ (eH a o n q)
      replace hD := e9 _ _ hD
      replace racc := racc.mono (hid_ex2 e9)
      replace sw := sw.mono e9
      refine ⟨H0, ps, Dl :: hs, Γw, d, _, sw, ?_, turn i d accD Γw hd hacc hI, fun Γ2 σ2 p2 a2 se2 l2 ag2 => ?_⟩
      · rw [haw]
        exact rx
      · have wq : L2.wipe σ2 vs = L2.wipe σ vs := wipe_eq l2 ag2 hsub
        have len2 : Γ2.length = Γ1.length := by rw [← se2.len, l2, wipe_length, ← hlw, ← sw.len, wipe_length]
        refine ⟨wq, H0, ps, Dl :: hs, Γ2, _, se2, p2, fun b H3 hb e3 => ?_⟩
        have hD3 : H3 Dl = some (.lst acc) := e3 _ _ hD
        cases b with
        | true =>
          refine iteT ⟨H0, ps, Dl :: hs, Γ2, _, se2.mono e3, hb.1 rfl, fun z Γ3 y H4 hz se4 k4 r4 => ?_⟩
          have nd2 : Dl ∉ adr Γ2 := fun m => nms (List.mem_append_right _ (by rw [a2, haw] at m; exact m))
          have hD4 : H4 Dl = some (.lst acc) := k4.2 _ _ nd2 hD3
          have ea3 : adr Γ3 = adr Γ1 := k4.1.trans (a2.trans haw)
          rw [a2, haw] at r4
          have x4 := k4.x
          rw [a2, haw] at x4
          have len3 : Γ3.length = Γ1.length := by rw [← se4.len, l2, wipe_length, ← hlw, ← sw.len, wipe_length]
          refine ⟨acc, hD4, ?_, ?_, acc ++ [y], accD ++ [z], wipeE Γ3 vs, upd_same, by simp; omega, ?_, ?_, ?_, free_wipe Γ3 vs, by rw [wipeE_len, len3], hz.2⟩
          · rw [racc.length]; omega
          · intro a o hn q
            rw [upd_ne (ne_of_none q nD)]
            exact k4.2 _ _ (by rw [a2, haw]; exact hn) (e3 _ _ (eH _ _ hn q))
          · rw [hid_upd List.mem_cons_self]
            exact (racc.mono ((hid_ex2 e3).trans x4)).append (.one r4)
          · have s5 := se4.wipe vs
            rw [wq] at s5
            refine s5.updHid List.mem_cons_self ?_ (se.h0 nH) fun j d => nobo_wipe (Bool.and_eq_true_iff.mp hz.1).1 vs
            rw [(wipe_free fun v hv => freeI_free (Bool.and_eq_true_iff.mp hz.1).2 hv).1, ea3]
            exact fun m => nms (List.mem_append_right _ m)
          · rw [(wipe_free fun v hv => freeI_free (Bool.and_eq_true_iff.mp hz.1).2 hv).1, ea3]
        | false =>
          refine iteF ⟨fun a o hn q => e3 _ _ (eH _ _ hn q), acc, accD, wipeE Γ2 vs, hD3, by omega, racc.mono (hid_ex2 e3), ?_, ?_, free_wipe Γ2 vs, by rw [wipeE_len, len2], (hb.2 rfl).2⟩
          · have s5 := (se2.mono e3).wipe vs
            rw [wq] at s5
            exact s5
          · rw [(wipe_free fun v hv => freeI_free (Bool.and_eq_true_iff.mp (hb.2 rfl).1).2 hv).1, a2, haw]
  · have e : i = ds.length := by omega
    subst e
    refine .inl ⟨w.st _ H' hS rfl, ?_⟩
    have sb := se1.back (hs' := Dl :: hs) hfr hfw sw (by rw [haw]; exact hid_one nD eB) hlw
    have ab := (back_free (Γ := Γ1) (Γw := Γw) hfr hfw).1
    refine k accD _ Dl acc H' (done accD Γw hI) nH sb (k1.trans ⟨ab.trans haw, eH⟩) hD ?_
    rw [← k1.1]
    exact racc
theorem fm_lc {elt tg iter : Expr} {ifs : List Expr} {scope : Scope} {own : List (Str × Nat)} {pos : Pos} {ti : MT} {g : GT} {tt : BT} {te : IT} {gown : List Nat} (hc : X.calm = true) (hN : X.N.Nodup) (hi : PI X tg iter (LIZ X.K ti)) (ok : BlkOk X.N X.env.scope scope own)
    (hg : ∀ (s : Shared) (H : Hp) (C : Addr) (cl : List (Str × Addr)) (fp : List Addr), PG (X.blk s H scope (compEnvC scope cl C X.env) fp) tg (Lg X.K gown g)) (ht : ∀ (s : Shared) (H : Hp) (C : Addr) (cl : List (Str × Addr)) (fp : List Addr), PTs (X.blk s H scope (compEnvC scope cl C X.env) fp) ifs (Lt X.K tt))
    (he : ∀ (s : Shared) (H : Hp) (C : Addr) (cl : List (Str × Addr)) (fp : List Addr), PE (X.blk s H scope (compEnvC scope cl C X.env) fp) elt (Lm X.K te)) (hsub : ∀ j ∈ gown, j ∈ own.map (·.2) := by decide) (hs : ∀ x, foldedSetIterable iter X.env x = pure x := by intro _; rfl) :
    PE X (.ListComp elt [⟨tg, iter, ifs, 0⟩] scope pos) (LmF X.K (mLc ti g tt te (own.map (·.2)))) := pe_imp (pe_lc hc hN hi ok hg ht he hs) (lcz_li hsub)
/-! ### fields -/
def zFld (C : Addr) (f : Str) (t : ZT) : ZT := fun Γ P F => t Γ (fun d Γ2 => match d with
  | .obj C' fs => C' = C ∧ (match fs.lookup f with
    | some z => P z Γ2
    | none => False)
  | _ => False) F
theorem z_fld {W : WX} {e : Expr} {f : Str} {pos : Pos} {t : ZT} {C : Addr} (c : Cls X.K C) (n : NoAttr X.K C f) (he : PE X e (Lz X.K W t)) (hb : attributeBase e f X.env (eval e X.env) = eval e X.env := by rfl) : PE X (.Attribute e f pos) (Lz X.K W (zFld C f t)) :=
  pe_imp (pe_fld he hb) fun σ H Q ⟨H0, ps, hs, Γ, P, F, se, ht, k, x⟩ => ⟨H0, ps, hs, Γ, _, F, se, ht, fun d Γ2 v H2 p se2 k2 r => (by
    cases d with
    | obj C' fs =>
      obtain ⟨rfl, p⟩ := p
      obtain ⟨a, dx, fvs, rfl, h, hk, hr⟩ := (RepW.im (H := H2) r).inst hid_ex
      cases z : fs.lookup f with
      | none => rw [z] at p; exact p.elim
      | some d =>
        rw [z] at p
        obtain ⟨v, lv, rv⟩ := look_some hk hr z
        exact ⟨a, C', dx, fvs, v, rfl, h, c, n, lv, k d Γ2 v H2 p se2 k2 rv⟩
    | _ => exact p.elim), x⟩
end
end Kb
set_option Elab.async false
set_option linter.all false
set_option maxRecDepth 100000
set_option maxHeartbeats 1000000
/-! Kb20: walks of borrowed lists and tuples, enumerate, sorted of tuples. -/
namespace PySem
set_option autoImplicit false
theorem kb_meets_enum {v : Value} {o : Obj} {H : Heap → Prop} (B : Begins v o H) :
    Meets (Builtin.«enumerate.__new__» ⟨[.type "enumerate", v], []⟩) (fun _ R s => H s.heap ∧
      R (.ok (.ret (.ref (s.heap.push o).objs.size))) { s with heap := (s.heap.push o).push { cls := .type "enumerate", data := .fields #[.none, .bool false, .ref s.heap.objs.size, rawInt 0, .none, .none] } }) :=
  .of_wp fun prog w A R s ⟨h1, h⟩ => by
    obtain ⟨hp, g, d, tk, os⟩ := s
    have hsub := sub_enumerate
    have bi : ∀ {A' : Around} {E : Value → Shared → Prop} {Q : Value → Shared → Prop}, Q (.ref hp.objs.size) ⟨hp.push o, g, d, tk, os⟩ → wpAny (model prog w) A' (pyIter v) Q E ⟨hp, g, d, tk, os⟩ := fun q => B.iter prog w _ _ ⟨hp, g, d, tk, os⟩ _ h1 q
    wp_walk using bi
    refine wpAny_stack_any fun st => wpAny_pure ?_
    split
    · rename_i c _ _ _ _ _
      cases (c == Value.type "enumerate") <;> (wp_walk using bi; exact ⟨_, rfl, h⟩)
    · (wp_walk using bi; exact ⟨_, rfl, h⟩)
theorem kb_call_enum {prog : Program} {w : World} {A : Around} {E : Value → Shared → Prop} {s : Shared} {v : Value} {o : Obj} {H : Heap → Prop} {Q : Value → Shared → Prop} (B : Begins v o H) (h1 : H s.heap)
    (h : ∀ h', IsEnum h' (s.heap.objs.size + 1) s.heap.objs.size 0 .none → h'.get? s.heap.objs.size = some o → (∀ b o, s.heap.get? b = some o → h'.get? b = some o) → Q (.ref (s.heap.objs.size + 1)) { s with heap := h' }) :
    wpAny (model prog w) A (call (.type "enumerate") [v]) Q E s := by
  refine callType_new F.called_enumerate (by decide) (F.typeCall_enumerate_1 _) (F.newCall_enumerate_1 _) (fun obj => F.args_object_init_2 obj _) F.entry_enumerate_new (kb_meets_enum B) ⟨h1, ?_⟩
  have hz : (s.heap.push o).objs.size = s.heap.objs.size + 1 := Heap.size_push ..
  show _ ∧ _
  rw [hz]
  have he : IsEnum ((s.heap.push o).push { cls := .type "enumerate", data := .fields #[.none, .bool false, .ref s.heap.objs.size, rawInt 0, .none, .none] }) (s.heap.objs.size + 1) s.heap.objs.size 0 .none := by
    have z := Heap.get?_push_size (s.heap.push o) (o := { cls := .type "enumerate", data := .fields #[.none, .bool false, .ref s.heap.objs.size, rawInt 0, .none, .none] }) rfl
    rwa [hz] at z
  exact ⟨⟨_, he, rfl⟩, h _ he (Heap.get?_push_of_some _ (Heap.get?_push_size _ B.free)) fun b o x => Heap.get?_push_of_some _ (Heap.get?_push_of_some _ x)⟩
end PySem
namespace Kb
open PySem L2
set_option autoImplicit false
/-- the tuple at a, each item in a new pair -/
def IttE (K : Frag) (a : Addr) : It :=
  ⟨fun i H => ∃ (xs : List V) (x : V), SqT K H a xs ∧ xs[i]? = some x, fun i H v H' => ∃ T x, v = .ref T ∧ H T = none ∧ H' = upd H T (.tup [.int (i : Nat), x]) ∧ ∀ xs, SqT K H a xs → xs[i]? = some x, fun i H => ∃ xs : List V, SqT K H a xs ∧ xs.length = i⟩
theorem turn_enumT {P : Program} {w : World} {K : Frag} {elts : List Expr} {kk : Nat} {tpos : Pos} (a e it : Addr) :
    Turn P w K (.Tuple elts kk tpos) (IttE K a) [e, it] e (fun i h => (∃ old, IsEnum h e it ((i : Nat) : Int) old) ∧ h.IsTupleIter it a i ∧ e ≠ it) where
  mem := by simp
  obj := fun i h st b hb => by
    obtain ⟨⟨old, he⟩, ⟨o, ho, hc, hd⟩, _⟩ := st
    rcases (by simpa using hb : b = e ∨ b = it) with rfl | rfl
    · exact ⟨_, he, fun v q => nomatch q⟩
    · exact ⟨o, ho, fun v q => by rw [hd] at q; cases q⟩
  keep := fun i h h' st k => let ⟨⟨old, he⟩, hi, hne⟩ := st; ⟨⟨old, k e (by simp) _ he⟩, hi.at fun o q => k it (by simp) o q, hne⟩
  item := by
    intro X hP hw hK hc i pins s σ H E I hf st hg
    subst hP hw hK
    obtain ⟨⟨old, he⟩, hit, hne⟩ := st
    obtain ⟨xs, x, hq, hx⟩ := hg
    obtain ⟨its, rv, p, hz⟩ := I.tuple hq
    obtain ⟨u, hu, ru⟩ := rv.get hx
    have hel : e < s.heap.objs.size := Heap.lt_size he
    have hil : it < s.heap.objs.size := by obtain ⟨_, q, _⟩ := hit; exact Heap.lt_size q
    have hT : s.heap.IsTuple a its.toArray := p
    have nea : e ≠ a := fun z => by
      subst z
      obtain ⟨o, ho, hcl, _⟩ := p
      rw [he] at ho
      cases ho
      exact absurd (Value.type.inj hcl) (by decide)
    have nia : a ≠ it := fun z => by
      subst z
      obtain ⟨o, ho, hcl, _⟩ := p
      obtain ⟨o', ho', hcl', _⟩ := hit
      rw [ho] at ho'
      cases ho'
      rw [hcl] at hcl'
      exact absurd (Value.type.inj hcl') (by decide)
    refine wpAny_pyNext_enum_itemD (Draws.tuple (A := X.A.in1) (I.ok.hd hc) it a nia its.toArray) he ⟨hit, hT⟩ (i := i) ?_ hne (by simp [hne, nea]) fun y h' tk hy ho hst hTu hsz hk => ?_
    · have z := (List.getElem?_eq_some_iff.mp hu).1
      simpa using z
    have ey : y = u := by
      have z : its.toArray[i]? = some u := by simpa using hu
      rw [z] at hy
      exact (Option.some.inj hy).symm
    subst ey
    refine ⟨_, rfl, wpAny_letOwnedTupleGo_enum (s := { s with heap := h', toks := tk + 1 }) ho fun h'' he' sb => ?_⟩
    have hT2 : h''.get? s.heap.objs.size = some { cls := .type "tuple", data := .seq #[.int i tk, y] } := (sb.2 _ (Nat.ne_of_gt hel)).trans hTu
    have new : ObjOk X.prog X.w (upd H s.heap.objs.size (.tup [.int (i : Nat), x])) h'' s.heap.objs.size (.tup [.int (i : Nat), x]) :=
      ⟨by show 2 ≤ sizeLine; decide, [.int i tk, y], .cons ⟨_, rfl⟩ (.cons ru .nil), ⟨_, hT2, rfl, _, rfl⟩⟩
    have I1 : Inv X pins σ (upd H s.heap.objs.size (.tup [.int (i : Nat), x])) { s with heap := h'', toks := tk + 1 } :=
      I.turnedNew (ch := [e, it]) (fun b ob hb q => (sb.2 b (fun z => hb (by simp [z]))).trans (hk b ob (fun z => hb (by simp [z])) (fun z => hb (by simp [z])) q)) hf (Nat.le_refl _) new
    refine ⟨.ref s.heap.objs.size, _, I1, rfl, ⟨_, x, rfl, I.hok.fresh (Nat.le_refl _), rfl, fun ys hy => by rw [I.tuple_inj hy hq]; exact hx⟩, ⟨⟨y, ?_⟩, hst.1.at fun o q => (sb.2 it (Ne.symm hne)).trans q, hne⟩, fun b hb => ?_⟩
    · rw [show ((i + 1 : Nat) : Int) = (i : Int) + 1 by omega]; exact he'
    · have hb' : b < s.heap.objs.size := by
        rcases (by simpa using hb : b = e ∨ b = it) with rfl | rfl
        · exact hel
        · exact hil
      rw [upd_ne (Nat.ne_of_lt hb')]
      exact (hf b hb).1
  done := by
    intro X hP hw hK hc i pins s σ H E I hf st hg
    subst hP hw hK
    obtain ⟨⟨old, he⟩, hit, hne⟩ := st
    obtain ⟨xs, hq, hx⟩ := hg
    obtain ⟨its, rv, p, hz⟩ := I.tuple hq
    obtain ⟨f0, f1, f2, f3, f4, f5⟩ := hf it (by simp)
    have hl := rv.length
    have hT : s.heap.IsTuple a its.toArray := p
    have nia : a ≠ it := fun z => by
      subst z
      obtain ⟨o, ho, hcl, _⟩ := p
      obtain ⟨o', ho', hcl', _⟩ := hit
      rw [ho] at ho'
      cases ho'
      rw [hcl] at hcl'
      exact absurd (Value.type.inj hcl') (by decide)
    have hi : i = its.toArray.size := by simp; omega
    subst hi
    exact wpAny_pyNext_enum_endD (Draws.tuple (A := X.A.in1) (I.ok.hd hc) it a nia its.toArray) he ⟨hit, hT⟩ fun h' eb => ⟨rfl, I.turned (t' := s.toks) (fun b o hb q => eb b o hb q) f0 f1 f3 f4 f5⟩
  self := fun A i s Q E st h => let ⟨⟨_, he⟩, _⟩ := st; wpAny_pyIter_enum he h
def iEnumT (K : Frag) (ta : TA) : TI := fun σ H R => ta σ H fun vs H1 => ∃ a xs, vs = [.ref a] ∧ SqT K H1 a xs ∧ R (IttE K a) H1
theorem pi_enumT {X : Cx} {e : Expr} {ta : TA} {p pos tpos : Pos} {elts : List Expr} {kk : Nat} (hg : Gl X "enumerate") (hm : X.mg "enumerate" = none) (ha : PA X [e] ta) (hs : starEach [e] X.env = [(false, eval e X.env)] := by rfl) :
    PI X (.Tuple elts kk tpos) (.Call (.Name "enumerate" p) [e] [] pos) (iEnumT X.K ta) := ⟨fun pins s σ H R I h => by
  refine PyProof.Rows.Call_ (ld_blt I hg hm (show bootBuiltins "enumerate" = some (.type "enumerate") by decide +kernel) (PyProof.Rows.callWith_type1 (thn (ha.run pos pins s σ H _ I h) fun us s1 ⟨vs, H1, I1, r1, a, xs, ex, hq, q⟩ => ?_) hs rfl))
  subst ex
  cases r1 with
  | cons r rr =>
    cases rr
    cases r
    obtain ⟨its, rv, p', hz⟩ := I1.tuple hq
    refine kb_call_enum (begins_tuple a its.toArray) p' fun h' he hit hk => wpAny_pyIter_enum he ?_
    have I2 : Inv X pins σ H1 { s1 with heap := h' } := I1.kept (t' := s1.toks) hk
    refine ⟨s1.heap.objs.size + 1, [s1.heap.objs.size + 1, s1.heap.objs.size], _, _, H1, rfl, I2, turn_enumT a (s1.heap.objs.size + 1) s1.heap.objs.size, ⟨⟨.none, he⟩, ⟨_, hit, rfl, rfl⟩, Nat.succ_ne_self _⟩, fun b hb => ?_, q⟩
    have hle : s1.heap.objs.size ≤ b := by
      rcases (by simpa using hb : b = s1.heap.objs.size + 1 ∨ b = s1.heap.objs.size) with rfl | rfl
      · exact Nat.le_add_right _ _
      · exact Nat.le_refl _
    exact I1.fpOk hle (I1.hok.fresh hle)⟩
theorem pi_or {X : Cx} {tg e : Expr} {t t' : TI} (h : PI X tg e t) (h' : PI X tg e t') : PI X tg e (fun σ H R => t σ H R ∨ t' σ H R) := ⟨fun pins s σ H R I q => q.elim (h.run pins s σ H R I) (h'.run pins s σ H R I)⟩
/-! ### borrowed things walked -/
def LIo (K : Frag) (t : FT) : TI := fun σ H R => ∃ (H0 : Hp) (ps hs : List Addr) (Γ : Env) (P : List D → Prop), SE K H0 ps hs Γ σ H ∧ t Γ P ∧ ∀ ds J H2, P ds → Ex H H2 → Walks K (fun H' => Ex (hid (adr Γ) H2) H') (hid (hs ++ adr Γ) H2) J ds → R J H2
def enumD (xs : List D) : List D := xs.zipIdx.map fun p => .tup [.int p.2, p.1]
theorem enumD_get (xs : List D) (i : Nat) : (enumD xs)[i]? = xs[i]?.map fun d => .tup [.int (i : Nat), d] := by
  unfold enumD
  rw [List.getElem?_map, List.getElem?_zipIdx]
  cases xs[i]? <;> simp
theorem enumD_len (xs : List D) : (enumD xs).length = xs.length := by simp [enumD]
/-- items of a list or a tuple that a slot holds (not of one's own) -/
def iSqV (i : Nat) : FT := fun Γ P => match Γ[i]? with
  | some (some (.im (.lst xs))) => P xs
  | some (some (.bo (.lst xs))) => P xs
  | some (some (.im (.tup xs))) => P xs
  | some (some (.bo (.tup xs))) => P xs
  | _ => False
def iEnV (i : Nat) : FT := fun Γ P => iSqV i Γ fun xs => P (enumD xs)
theorem walk_en {K : Frag} {S : Hp → Prop} {B : Hp} {a : Addr} {vs : List V} {ds : List D} (hS : ∀ H, S H → SqL K H a vs) (r : Reps K B vs ds) : Walks K S B (Ite K a) (enumD ds) where
  go := fun i H s h => by
    rw [enumD_len] at h
    exact ⟨vs, vs[i]'(by rw [r.length]; exact h), hS H s, List.getElem?_eq_getElem _⟩
  yl := fun i H x H' s h ⟨T, y, ex, nT, eH, hy⟩ => by
    subst ex eH
    obtain ⟨d, h1, h2⟩ := r.get (hy vs (hS _ s))
    refine ⟨Ex.new nT, .tup [.int (i : Nat), d], by rw [enumD_get, h1]; rfl, fun ms b e => ?_⟩
    exact rep_newT b nT (.cons (.int _) (.one (h2.mono e)))
  st := fun i H s h => ⟨vs, hS H s, Nat.le_of_eq (by rw [enumD_len] at h; rw [r.length]; exact h)⟩
theorem walk_enT {K : Frag} {S : Hp → Prop} {B : Hp} {a : Addr} {vs : List V} {ds : List D} (hS : ∀ H, S H → SqT K H a vs) (r : Reps K B vs ds) : Walks K S B (IttE K a) (enumD ds) where
  go := fun i H s h => by
    rw [enumD_len] at h
    exact ⟨vs, vs[i]'(by rw [r.length]; exact h), hS H s, List.getElem?_eq_getElem _⟩
  yl := fun i H x H' s h ⟨T, y, ex, nT, eH, hy⟩ => by
    subst ex eH
    obtain ⟨d, h1, h2⟩ := r.get (hy vs (hS _ s))
    refine ⟨Ex.new nT, .tup [.int (i : Nat), d], by rw [enumD_get, h1]; rfl, fun ms b e => ?_⟩
    exact rep_newT b nT (.cons (.int _) (.one (h2.mono e)))
  st := fun i H s h => ⟨vs, hS H s, by rw [enumD_len] at h; rw [r.length]; exact h⟩
section
variable {X : Cx} {W : WX} {tg : Expr}
/-- what the slot holds -/
theorem sq_slot {K : Frag} {H0 : Hp} {ps hs : List Addr} {Γ : Env} {σ : St} {H : Hp} {i : Nat} {P : List D → Prop} (se : SE K H0 ps hs Γ σ H) (h : iSqV i Γ P) : ∃ (a : Addr) (vs : List V) (xs : List D), σ[i]? = some (some (.ref a)) ∧ P xs ∧ Reps K (hid (hs ++ adr Γ) H) vs xs ∧
    ((∀ H', Ex (hid (adr Γ) H) H' → SqL K H' a vs) ∨ ∀ H', Ex (hid (adr Γ) H) H' → SqT K H' a vs) := by
  have up : ∀ H', Ex (hid (adr Γ) H) H' → Ex (hid (hs ++ adr Γ) H) H' := fun H' e => (hid_sub fun a m => List.mem_append_right _ m).trans e
  unfold iSqV at h
  split at h
  · rename_i xs e
    obtain ⟨v, h1, h2⟩ := se.ok i _ e
    cases (show Rep K (hid (hs ++ adr Γ) H) v (.lst xs) from h2) with
    | lst a r => exact ⟨_, _, xs, h1, h, r, .inl fun H' e => SqL.of (up H' e _ _ a)⟩
  · rename_i xs e
    obtain ⟨v, h1, h2⟩ := se.ok i _ e
    cases (show RepW K (hid (hs ++ adr Γ) H) (hid (adr Γ) H) v (.lst xs) from h2) with
    | im h2 => cases h2 with
      | lst a r => exact ⟨_, _, xs, h1, h, r, .inl fun H' e => SqL.of (up H' e _ _ a)⟩
    | lst a r => exact ⟨_, _, xs, h1, h, r, .inl fun H' e => SqL.of (e _ _ a)⟩
  · rename_i xs e
    obtain ⟨v, h1, h2⟩ := se.ok i _ e
    cases (show Rep K (hid (hs ++ adr Γ) H) v (.tup xs) from h2) with
    | tup a r => exact ⟨_, _, xs, h1, h, r, .inr fun H' e => (up H' e).st a⟩
  · rename_i xs e
    obtain ⟨v, h1, h2⟩ := se.ok i _ e
    cases (show RepW K (hid (hs ++ adr Γ) H) (hid (adr Γ) H) v (.tup xs) from h2) with
    | im h2 => cases h2 with
      | tup a r => exact ⟨_, _, xs, h1, h, r, .inr fun H' e => (up H' e).st a⟩
  · exact h.elim
theorem io_var (i : Nat) {x : Str} {pos : Pos} (hN : X.N[i]? = some x := by rfl) (hv : Vis X.env.scope x := by first | exact Or.inl rfl | exact Or.inr (Or.inl rfl) | exact Or.inr (Or.inr rfl)) (hd : (x == ("__debug__" : Str)) = false := by decide)
    (hcd : (x == ("__classdict__" : Str)) = false := by decide) : PI X tg (.Name x pos) (LIo X.K (iSqV i)) :=
  pi_imp (pi_or (pi_list (pe_var hN hv hd hcd)) (pi_tup (pe_var hN hv hd hcd))) fun σ H R ⟨H0, ps, hs, Γ, P, se, ht, k⟩ => by
    obtain ⟨a, vs, xs, h1, hP, r, h | h⟩ := sq_slot se ht
    · exact .inl ⟨_, h1, a, rfl, ⟨_, h H hid_ex⟩, k _ _ H hP (Same.refl H) (walk_list (fun H' s => h H' s) r)⟩
    · exact .inr ⟨_, h1, a, rfl, ⟨_, h H hid_ex⟩, k _ _ H hP (Same.refl H) (walk_tup (fun H' s => h H' s) r)⟩
theorem io_en (i : Nat) {x : Str} {elts : List Expr} {kk : Nat} {tpos p npos pos : Pos} (hg : Gl X "enumerate") (hm : X.mg "enumerate" = none) (hN : X.N[i]? = some x := by rfl) (hv : Vis X.env.scope x := by first | exact Or.inl rfl | exact Or.inr (Or.inl rfl) | exact Or.inr (Or.inr rfl)) (hd : (x == ("__debug__" : Str)) = false := by decide)
    (hcd : (x == ("__classdict__" : Str)) = false := by decide) (hs : starEach [.Name x npos] X.env = [(false, eval (.Name x npos) X.env)] := by rfl) : PI X (.Tuple elts kk tpos) (.Call (.Name "enumerate" p) [.Name x npos] [] pos) (LIo X.K (iEnV i)) :=
  pi_imp (pi_or (pi_enum hg hm (pa_cons (pe_var hN hv hd hcd) pa_nil hs) hs) (pi_enumT hg hm (pa_cons (pe_var hN hv hd hcd) pa_nil hs) hs)) fun σ H R ⟨H0, ps, hs, Γ, P, se, ht, k⟩ => by
    obtain ⟨a, vs, xs, h1, hP, r, h | h⟩ := sq_slot se ht
    · exact .inl ⟨_, h1, a, vs, rfl, h H hid_ex, k _ _ H hP (Same.refl H) (walk_en (fun H' s => h H' s) r)⟩
    · exact .inr ⟨_, h1, a, vs, rfl, h H hid_ex, k _ _ H hP (Same.refl H) (walk_enT (fun H' s => h H' s) r)⟩
theorem ib_o {e : Expr} {t : FT} (h : PI X tg e (LIo X.K t)) : PI X tg e (LB X.K t) := pi_imp h fun σ H R ⟨H0, ps, hs, Γ, P, se, ht, k⟩ => ⟨H0, ps, hs, Γ, P, se, ht, fun ds J H2 p e w => k ds J H2 p e (w.imp fun H' s => fun a o q => s a o (hid_ex a o q))⟩
theorem s_forO {iter : Expr} {body : List Stmt} {ti : FT} {g : GT} {tb : ST} {gown : List Nat} {pos : Pos} (hp : PassesOwn (model X.prog X.w) X.A X.env X.xe) (hc : X.calm = true) (hi : PI X tg iter (LIo X.K ti)) (hg : PG X tg (Lg X.K gown g)) (hb : PSs X body (Ls X.K W tb))
    (hs : ∀ x, foldedSetIterable iter X.env x = pure x := by intro _; rfl) : PS X (.For tg iter body [] pos) (Ls X.K W (sFor ti g tb)) := ps_imp (ps_for hp hc hi hg hb hs) fun D σ H ⟨H0, ps, hs, Γ, E, se, ht, r⟩ => by
  refine ⟨H0, ps, hs, Γ, _, se, ht, fun ds J H1 hp e1 w => ?_⟩
  obtain ⟨I, i0, turn, done⟩ := hp
  have k1 : Kp hs Γ H Γ H1 := Kp.ex e1
  have S : ∀ Γ' H', Kp hs Γ H1 Γ' H' → Ex (hid (adr Γ) H1) H' := fun Γ' H' k a o q => hid_ex _ _ (k a o q)
  refine ⟨fun i m σ' H' => m = ds.length - i ∧ i ≤ ds.length ∧ ∃ Γ', SE X.K H0 ps hs Γ' σ' H' ∧ Kp hs Γ H1 Γ' H' ∧ I i Γ', ⟨ds.length, by simp, Nat.zero_le _, Γ, se.mono e1, Kp.refl, i0⟩, ?_⟩
  rintro i m σ' H' ⟨rfl, hil, Γ', se', kp, hI⟩
  by_cases hlt : i < ds.length
  · refine .inr ⟨w.go i H' (S _ _ kp) hlt, fun σ'' H'' => ∃ Γ'', SE X.K H0 ps hs Γ'' σ'' H'' ∧ Kp hs Γ H1 Γ'' H'' ∧ I (i + 1) Γ'', ?_, fun x H'' hy => ?_⟩
    · rintro σ'' H'' ⟨Γ'', a, b, c⟩
      exact ⟨ds.length - (i + 1), by omega, rfl, hlt, Γ'', a, b, c⟩
    · obtain ⟨e9, d, hd, rx⟩ := w.yl i H' x H'' (S _ _ kp) hlt hy
      replace rx := rx (hs ++ adr Γ') se'.bs kp.x
      replace kp := kp.trans (Kp.ex e9)
      replace se' := se'.mono e9
      refine ⟨H0, ps, hs, Γ', d, _, se', rx, turn i d Γ' hd hI, fun Γ2 σ2 p2 a2 se2 _ _ => ?_⟩
      have kp2 : Kp hs Γ H1 Γ2 H'' := by
        unfold Kp at kp ⊢
        rw [a2]
        exact kp
      exact ⟨H0, ps, hs, Γ2, _, se2, p2, ⟨fun Γ3 σ3 H3 a b c => ⟨Γ3, b, kp2.trans c, a⟩, r.rt, fun Γ3 σ3 H3 a b c => r.nx Γ3 σ3 H3 a b ((k1.trans kp2).trans c), fun Γ3 σ3 H3 a b c => ⟨Γ3, b, kp2.trans c, a⟩, fun C fs Γ3 σ3 H3 d a b c x => r.ex C fs Γ3 σ3 H3 d a b ((k1.trans kp2).trans c) x⟩⟩
  · have e : i = ds.length := by omega
    subst e
    exact .inl ⟨w.st _ H' (S _ _ kp) rfl, r.nx Γ' σ' H' (done Γ' hI) se' (k1.trans kp)⟩
end
/-! ### sorted of a tuple -/
end Kb
namespace PySem
open PySem.W PyProof.Rows
theorem kb_collect_tup {prog : Program} {w : World} {A : Around} {E : Value → Shared → Prop} {s : Shared} {l : Addr} {vs : List Value} {Q : List Value → Shared → Prop} (hl : s.heap.IsTuple l vs.toArray)
    (h : Q vs { s with heap := (s.heap.push (seqObj "list" #[] 0)).update s.heap.objs.size (Obj.mapSeq (· ++ vs.toArray)) }) (hsz : vs.length ≤ sizeLine) : wpAny (model prog w) A (collect (.ref l)) Q E s := by
  obtain ⟨o, ho, hc, n, hd⟩ := hl
  have ho' : (s.heap.push (seqObj "list" #[] 0)).get? l = some o := Heap.get?_push_of_some _ ho
  unfold collect
  refine wpAny_bind (wpAny_runValue (codeAny_builtin entry_proto_collect' ?_))
  show wpAny _ _ (do again (.builtin "list.__iadd__" ⟨[← newList [], .ref l], []⟩)) _ _ s
  refine wpAny_bind (wpAny_newList (wpAny_pure ⟨Code.quiet_builtin _ (by decide +kernel), codeAny_builtin entry_list_iadd' ?_⟩)); show wpAny _ _ (Builtin.List.listExtendWith (.ref s.heap.objs.size) (.ref l) (.ref s.heap.objs.size)) _ _ { s with heap := s.heap.push (seqObj "list" #[] 0) }
  unfold Builtin.List.listExtendWith
  refine wpAny_bind (wpAny_typeOf (T := "tuple") ⟨o, ho', hc⟩ ?_)
  have ht : (Value.type "tuple" == Value.type "tuple") = true := by rfl
  rw [if_pos (by rw [ht]; simp)]
  refine wpAny_bind (listItems_at ho' hd (wpAny_bind (listItems_at (xs := #[]) (n := 0) (Heap.get?_push_size _ rfl) rfl ?_)))
  rw [if_neg (by simp)]
  refine wpAny_bind (listUpdate_at (xs := #[]) (n := 0) (Heap.get?_push_size _ rfl) rfl (wpAny_pure ?_) (Nat.zero_le _) (by show (#[] ++ vs.toArray).size ≤ sizeLine + 1; simp only [Array.size_append, List.size_toArray, List.length_nil]; omega))
  show wpAny (model prog w) A (do
      let o ← load s.heap.objs.size
      match o.data with | .seq xs _ => pure xs.toList | _ => unsupported "internal:collect") Q E { s with heap := (s.heap.push (seqObj "list" #[] 0)).update s.heap.objs.size (Obj.mapSeq (· ++ vs.toArray)) }
  refine wpAny_bind (wpAny_load (get?_update_seq (Heap.get?_push_size _ rfl) _) ?_)
  show wpAny _ _ (pure ((#[] : Array Value) ++ vs.toArray).toList) Q E _
  rw [show ((#[] : Array Value) ++ vs.toArray).toList = vs by simp]
  exact wpAny_pure h
theorem kb_sorted_tup {prog : Program} {w : World} {A : Around} {E : Value → Shared → Prop} {s : Shared} {l : Addr} {vs : List Value} {kw : List (Str × Value)} {Q : Value → Shared → Prop} (hl : s.heap.IsTuple l vs.toArray) (hL : vs.length ≤ sizeLine) (ha1 : argsOk "sorted" ⟨[.ref l], kw⟩) (ha2 : ∀ x, argsOk "list.sort" ⟨[.ref x], kw⟩)
    (body : ∀ E' : Value → Shared → Prop, wpAny (model prog w) A.in1.in1 (Builtin.«list.sort» ⟨[.ref (s.heap.objs.size + 1)], kw⟩) (fun f s' => f = .done (.ret .none) ∧ Q (.ref (s.heap.objs.size + 1)) s') E' { s with heap := copyHeap s.heap vs }) :
    wpAny (model prog w) A (call (.builtin "sorted") [.ref l] kw) Q E s := by
  refine call_function_entry_kw kind_sorted plain_sorted entry_sorted ha1 ?_
  unfold Builtin.«sorted»
  have hsz : ((s.heap.push (seqObj "list" #[] 0)).update s.heap.objs.size (Obj.mapSeq (· ++ vs.toArray))).objs.size = s.heap.objs.size + 1 := by rw [Heap.size_update, size_push']
  refine wpAny_bind (m := checkCount "sorted" 1 1 _) (wpAny_pure (wpAny_bind (kb_collect_tup hl (wpAny_bind (wpAny_newList ?_ hL)) hL)))
  show wpAny _ _ _ _ _ { s with heap := copyHeap s.heap vs }
  rw [hsz]
  refine wpAny_bind (wpAny_holding (wpAny_call_entry_kw slot_list_sort ⟨_, copyHeap_at s.heap vs, rfl⟩ entry_list_sort (wpAny_mono (body _) (fun f s' ⟨e, hq⟩ => ?_) fun _ _ e => e) (ha2 _)))
  subst e
  exact ⟨_, rfl, wpAny_pure ⟨_, rfl, hq⟩⟩
theorem kb_sorted_tup_data {prog : Program} {w : World} {A : Around} {E : Value → Shared → Prop} {s : Shared} {β : Type} {vs : List Value} {bs : List β} {enc : β → PyData} {R : Value → β → Prop} {l : Addr} {Q : Value → Shared → Prop} (hl : s.heap.IsTuple l vs.toArray) (e : EachIs R vs bs) (er : EachIs (fun v b => ∃ as, Reads s.heap v (enc b) as) vs bs) (hal : AllAlike (bs.map enc)) (hk : Sortable (bs.map enc)) (hL : bs.length ≤ sizeLine)
    (hu : ∀ b, b ∈ bs → A.units + 2 + (enc b).depth < cLine) (h : ∀ out, out.length = bs.length → EachIs R out (bs.mergeSort (dataLe false enc)) → Q (.ref (s.heap.objs.size + 1)) { s with heap := sortedAll s.heap vs (List.toArray out) }) : wpAny (model prog w) A (call (.builtin "sorted") [.ref l]) Q E s := by
  have er' : EachIs (fun v b => ∃ as, Reads (sortingHeap (copyHeap s.heap vs) (s.heap.objs.size + 1) vs) v (enc b) as) vs bs := er.mono fun _ _ ⟨as, r⟩ => ⟨as, PyProof.Rows.Reads.keeps (fun _ _ => sorting_copy_old) r⟩
  have hv : vs.length ≤ sizeLine := by rw [e.length]; exact hL
  have S : SortsAt prog w A.in1.in1 { s with heap := sortingHeap (copyHeap s.heap vs) (s.heap.objs.size + 1) vs } _ vs := SortsAt.data (each_map (R := fun v d => ∃ as, Reads (sortingHeap (copyHeap s.heap vs) (s.heap.objs.size + 1) vs) v d as) enc er') hal hk (bound_map hu)
  exact kb_sorted_tup hl hv (args_sorted1 _) (fun _ => args_list_sort _) fun _ => list_sort_vals (s := { s with heap := copyHeap s.heap vs }) (copyHeap_at s.heap vs) S hv ⟨rfl, h _ (by rw [sortVals_length false rfl]; exact e.length) (sortVals_data false e er' hal)⟩
end PySem
namespace Kb
open PySem L2
def rSrtT (K : Frag) : List V → Hp → VK → Prop := fun xs H Q => ∃ (a : Addr) (bs : List (V × D)), xs = [.ref a] ∧ SqT K H a (bs.map (·.1)) ∧ (∀ p ∈ bs, Rep K H p.1 p.2 ∧ p.2.sh 60 = true) ∧ alkD (bs.map (·.2)) ∧
  ∀ p, H p = none → Q (.ref p) (upd H p (.lst ((bs.mergeSort fun p q => leD p.2 q.2).map (·.1))))
theorem cr_srtT {X : Cx} (hu : X.A.units + 64 < cLine) : CallR X (.builtin "sorted") (rSrtT X.K) := by
  intro pins s σ H vs us Q I r h
  obtain ⟨a, bs, rfl, hs, hb, ha, q⟩ := h
  obtain ⟨its, rv, hl, hz⟩ := I.tuple hs
  rw [Vals.ref1 r]
  have e1 : PySem.W.EachIs (fun (u : Value) (b : V × D) => RelV b.1 u) its bs := each_of (S := fun _ => True) (f := fun b : V × D => b.1) (g := RelV) (fun b u _ z => z) (fun _ _ => trivial) rv
  have e2 : PySem.W.EachIs (fun (u : Value) (b : V × D) => ∃ as, Reads s.heap u b.2.py as) its bs := each_of (S := fun b : V × D => Rep X.K H b.1 b.2 ∧ b.2.sh 60 = true) (f := fun b : V × D => b.1) (g := RelV) (fun b u z ru => Dp.reads I _ _ _ (rep_dp 60 _ _ z.2 z.1) ru) hb rv
  have hn : bs.length ≤ sizeLine := by simpa using hz
  have hal : PySem.W.AllAlike (bs.map fun b => b.2.py) := by
    have z := ha.1
    rw [List.map_map] at z
    exact z
  have hsb : PySem.W.Sortable (bs.map fun b => b.2.py) := by
    have z := ha.2
    rw [List.map_map] at z
    exact z
  refine kb_sorted_tup_data (enc := fun b : V × D => b.2.py) hl e1 e2 hal hsb hn (fun b m => ?_) fun out ho he => ?_
  · have z := (sh_lay 60 b.2 (hb b m).2).2
    omega
  · obtain ⟨ep, he'⟩ := PyProof.Rows.sortedAll_at s.heap its out.toArray
    have rv2 := paired_of (f := fun b : V × D => b.1) (g := RelV) (fun b u z => z) he
    have hlen : ((bs.mergeSort fun p q => leD p.2 q.2).map (·.1)).length ≤ sizeLine := by rw [List.length_map, List.length_mergeSort]; exact hn
    exact ⟨.ref _, upd H (s.heap.objs.size + 1) (.lst ((bs.mergeSort fun p q => leD p.2 q.2).map (·.1))), I.laid (t' := s.toks) (fun _ _ => PyProof.Rows.sortedAll_old) (Nat.le_succ _) ⟨hlen, out, ep, rv2, he'⟩, rfl, q _ (I.hok.fresh (Nat.le_succ _))⟩
def fSrtQ : FL := fun ds P => match ds with
  | [.lst xs] => xs.all (D.sh 59) = true ∧ alkD xs ∧ P (xs.mergeSort leD)
  | [.tup xs] => xs.all (D.sh 59) = true ∧ alkD xs ∧ P (xs.mergeSort leD)
  | _ => False
theorem does_srtQ {K : Frag} : DoesF K (fun xs H Q => rSrtD K xs H Q ∨ rSrtT K xs H Q) fSrtQ := fun ms H xs ds P Q b rr h k => by
  have em : Ex (hid ms H) H := hid_ex
  unfold fSrtQ at h
  split at h
  · exact .inl (does_srt ms H xs _ P Q b rr h k)
  · rename_i ys
    obtain ⟨v, rfl, r⟩ := rr.one
    obtain ⟨a, vs, rfl, h1, r1⟩ := r.tuple em
    obtain ⟨z1, z2, z3⟩ := reps_zip r1
    have hsh : ∀ d ∈ ys, d.sh 60 = true := fun d m => sh_mono (by decide : 59 ≤ 60) (List.all_eq_true.mp h.1 d m)
    refine .inr ⟨a, vs.zip ys, rfl, by rw [z1]; exact h1, fun p m => ⟨(z3 p m).mono em, hsh _ (by rw [← z2]; exact List.mem_map_of_mem m)⟩, by rw [z2]; exact h.2.1, fun p n => ?_⟩
    have e2 : ((vs.zip ys).mergeSort fun p q => leD p.2 q.2).map (·.2) = ys.mergeSort leD := by
      rw [PySem.W.sort_maps (s := leD) (fun p : V × D => p.2) (fun _ _ _ _ => rfl), z2]
    have e3 := reps_of (K := K) (B := hid ms H) ((vs.zip ys).mergeSort fun p q => leD p.2 q.2) fun p m => z3 p ((List.mergeSort_perm _ _).mem_iff.mp m)
    rw [e2] at e3
    exact k _ p _ _ h.2.2 n (Ex.new n) upd_same (reps_new n e3)
  · exact h.elim
theorem fx_sortedQ {X : Cx} {k : Nat} {e : Expr} {p pos : Pos} {t : XT} (hr : Room k X.A) (hg : Gl X "sorted") (hm : X.mg "sorted" = none) (h : PE X e (Lb X.K t)) (he : starEach [e] X.env = (false, eval e X.env) :: starEach [] X.env := by rfl) (hpl : (backTo pos (starEach [] X.env)).any (·.1) = false := by rfl) :
    PE X (.Call (.Name "sorted" p) [e] [] pos) (Lf X.K (fCall fSrtQ (aCons t aNil))) := fx_callB ((cr_srtD hr.units).or (cr_srtT hr.units)) does_srtQ hg hm (by decide +kernel) (aw_cons h aw_nil he) (by decide) (by decide) he hpl
end Kb
set_option Elab.async false
set_option linter.all false
set_option maxRecDepth 100000
set_option maxHeartbeats 1000000
/-! Kb21: answers of any kind, methods without arguments, list(range(..)). -/
namespace Kb
open PySem L2
set_option autoImplicit false
section
variable {X : Cx} {W : WX}
def rMe0 (C : Addr) (m : Str) (S : SP) (to : XT) : RT := fun Γ P => to Γ fun d => match d with
  | .obj C' fs => C' = C ∧ fs.lookup m = none ∧ S.S [.im d] P
  | _ => False
theorem meth0_lr {m : Str} {S : SP} {to : XT} {C : Addr} {E : XK} (σ : St) (H : Hp) (Q : VK) (h : Lr X.K (rMe0 C m S to) σ H Q) : tMeth C m (spP X.K S) [] E (Li X.K to) tNil σ H Q := by
  obtain ⟨H0, ps, hs, Γ, P, se, ht, k⟩ := h
  refine ⟨H0, ps, hs, Γ, _, se, ht, fun d v H1 p e1 r => ?_⟩
  cases d with
  | obj C' fs =>
    obtain ⟨rfl, p1, p⟩ := p
    obtain ⟨a, dx, fvs, rfl, h1, h2, h3⟩ := (RepW.im r).inst hid_ex
    refine ⟨a, dx, fvs, rfl, h1, look_none h2 p1, ?_⟩
    show spP X.K S [V.ref a] H1 Q E
    exact ⟨hs ++ adr Γ, _, .cons (s := .im (.obj C' fs)) r rfl .nil, (se.mono e1).bs, S.mon _ _ _ (fun r hr v H' e3 ro => k r v H' hr (e1.trans e3) (res_back e1 ro)) p⟩
  | _ => exact p.elim
theorem rx_meth0 {m : Str} {k : Nat} {S : SP} {o : Expr} {apos pos : Pos} {to : XT} {C : Addr} {pl : Sem Bool} (c : Cls X.K C) (F : Dm X.prog X.w X.K X.mg X.base C m k (spP X.K S)) (hr : Room k X.A) (ho : PE X o (Li X.K to))
    (ht : eval (.Call (.Attribute o m apos) [] [] pos) X.env = (do
      let ov ← eval o X.env
      standAt apos.atName
      let (f, first) ← holding [ov] (getMethod ov m pl)
      callWith pos f first (backTo pos (starEach [] X.env)) (backToKw pos (keywordEach [] X.env))) := by rfl) : PE X (.Call (.Attribute o m apos) [] [] pos) (Lr X.K (rMe0 C m S to)) := by
  obtain ⟨f, fd, ps, h1, h2, h3⟩ := F.ex
  exact pe_imp (pe_meth0 ho c h2 h1 hr h3 .nil pass0 ht) meth0_lr
def xR (t : RT) : XT := fun Γ P => t Γ fun r => P r.dat
theorem px_r {e : Expr} {t : RT} (h : PE X e (Lr X.K t)) : PE X e (Li X.K (xR t)) := pe_imp h fun σ H Q ⟨H0, ps, hs, Γ, P, se, ht, k⟩ => ⟨H0, ps, hs, Γ, _, se, ht, fun r v H2 p e ro => k _ v H2 p e (res_dat se.bs.fresh ro)⟩
def fR (t : RT) : FT := fun Γ P => t Γ fun r => match r with
  | .fl ds => P ds
  | _ => False
theorem fx_r {e : Expr} {t : RT} (h : PE X e (Lr X.K t)) : PE X e (Lf X.K (fR t)) := pe_imp h fun σ H Q ⟨H0, ps, hs, Γ, P, se, ht, k⟩ => ⟨H0, ps, hs, Γ, _, se, ht, fun r v H2 p e ro => by
  cases r with
  | fl ds => obtain ⟨q, vs, rfl, n, h1, h2⟩ := ro; exact k ds q vs H2 p n e h1 h2
  | _ => exact p.elim⟩
/-- return f(..), whatever it hands back -/
def sRetR (t : RT) : ST := fun E Γ => t Γ fun r => E.rt r Γ
theorem res_out {K : Frag} {H0 : Hp} {ps hs : List Addr} {Γ : Env} {σ : St} {H H2 : Hp} {v : V} {r : Rs} (se : SE K H0 ps hs Γ σ H) (ro : ResOk K H (hs ++ adr Γ) H2 v r) : ResOk K H0 hs H2 v r := by
  have sub : ∀ p : Addr, ∀ a ∈ p :: hs, a ∈ p :: (hs ++ adr Γ) := fun p a m => (List.mem_cons.mp m).elim (fun z => by rw [z]; exact List.mem_cons_self) fun z => List.mem_cons_of_mem _ (List.mem_append_left _ z)
  cases r with
  | d d => exact rep_out ro
  | fl ds => obtain ⟨p, vs, h1, h2, h3, h4⟩ := ro; exact ⟨p, vs, h1, se.h0 h2, h3, h4.mono (hid_sub (sub p))⟩
  | fd es => obtain ⟨p, vs, h1, h2, h3, h4, h5⟩ := ro; exact ⟨p, vs, h1, se.h0 h2, h3, h4, h5.mono (hid_sub (sub p))⟩
  | ft es => obtain ⟨p, vs, h1, h2, h3, h4, h5⟩ := ro; exact ⟨p, vs, h1, se.h0 h2, h3, h4, h5.mono (hid_sub (sub p))⟩
theorem s_retR {e : Expr} {pos : Pos} {t : RT} (h : PE X e (Lr X.K t)) : PS X (.Return (some e) pos) (Ls X.K W (sRetR t)) := ps_imp (ps_ret h) fun D σ H ⟨H0, ps, hs, Γ, E, se, ht, r⟩ =>
  ⟨H0, ps, hs, Γ, _, se, ht, fun rr v H2 p e ro => r.rt rr Γ σ v H2 p (se.mono e) (res_out se ro)⟩
/-- return of a slot: data, or a list of one's own -/
def sRetV (i : Nat) : ST := fun E Γ => match Γ[i]? with
  | some (some (.im d)) => E.rt (.d d) Γ
  | some (some (.ml _ ds)) => E.rt (.fl ds) Γ
  | _ => False
theorem s_retV (i : Nat) {x : Str} {pos pos' : Pos} (hN : X.N[i]? = some x := by rfl) (hv : Vis X.env.scope x := by first | exact Or.inl rfl | exact Or.inr (Or.inl rfl) | exact Or.inr (Or.inr rfl)) (hd : (x == ("__debug__" : Str)) = false := by decide)
    (hcd : (x == ("__classdict__" : Str)) = false := by decide) : PS X (.Return (some (.Name x pos')) pos) (Ls X.K W (sRetV i)) := ps_imp (ps_ret (pe_var hN hv hd hcd)) fun D σ H ⟨H0, ps, hs, Γ, E, se, ht, r⟩ => by
  unfold sRetV at ht
  split at ht
  · rename_i d e
    obtain ⟨v, h1, h2⟩ := se.ok i _ e
    exact ⟨_, h1, r.rt (.d d) Γ σ _ H ht se (rep_out h2)⟩
  · rename_i l ds e
    obtain ⟨v, h1, rfl, vs, h2, h3⟩ := se.ok i _ e
    exact ⟨_, h1, r.rt (.fl ds) Γ σ _ H ht se ⟨l, vs, rfl, ((se.own i _ l e rfl).2 rfl).1, h2, h3.mono (hid_sub fun a m => (List.mem_cons.mp m).elim (fun z => by rw [z]; exact List.mem_append_right _ (mem_adr.mpr ⟨i, _, e, rfl⟩)) fun z => List.mem_append_left _ z)⟩⟩
  · exact ht.elim
/-! ### list(range(a, b)) -/
def fLRg (ta tb : XT) : FT := fun Γ P => ta Γ fun d => tb Γ fun e => match d, e with
  | .int i, .int j => RgOk i j ∧ P (rngD i 1 (j - i).toNat)
  | _, _ => False
theorem rg_reps {K : Frag} {B : Hp} (i j : Int) : Reps K B (rgV i j) (rngD i 1 (j - i).toNat) := by
  unfold rgV rngD
  generalize (List.range (j - i).toNat) = l
  induction l with
  | nil => exact .nil
  | cons x l ih =>
    refine .cons ?_ ih
    show Rep K B (.int (i + (x : Nat))) (.int (i + (x : Nat) * 1))
    rw [Int.mul_one]
    exact .int _
theorem fx_listRg {a b : Expr} {p p2 pos pos2 : Pos} {ta tb : XT} (hc : X.calm = true) (hg : Gl X "list") (hm : X.mg "list" = none) (hg2 : Gl X "range") (hm2 : X.mg "range" = none) (ha : PE X a (Lb X.K ta)) (hb : PE X b (Lb X.K tb)) (na : starEach [a, b] X.env = (false, eval a X.env) :: starEach [b] X.env := by rfl)
    (nb : starEach [b] X.env = (false, eval b X.env) :: starEach [] X.env := by rfl) (hp : (backTo pos2 (starEach [b] X.env)).any (·.1) = false := by rfl) (nc : starEach [.Call (.Name "range" p2) [a, b] [] pos2] X.env = (false, eval (.Call (.Name "range" p2) [a, b] [] pos2) X.env) :: starEach [] X.env := by rfl) :
    PE X (.Call (.Name "list" p) [.Call (.Name "range" p2) [a, b] [] pos2] [] pos) (Lf X.K (fLRg ta tb)) := pe_imp (pe_listRg hc hg hm (prg_2 hg2 hm2 ha hb na nb hp) nc) fun σ H Q ⟨H0, ps, hs, Γ, P, se, ht, k⟩ =>
  ⟨H0, ps, hs, Γ, _, se, ht, fun d v H1 p1 e1 r1 => ⟨H0, ps, hs, Γ, _, se.mono e1, p1, fun e w H2 p2 e2 r2 => by
    split at p2
    · rename_i i j
      cases r1.intv
      cases r2.intv
      exact ⟨i, j, rfl, rfl, p2.1, fun q n => k _ q _ _ p2.2 (fresh_of (e1.trans e2) n) ((e1.trans e2).trans (Ex.new n)) upd_same (rg_reps i j)⟩
    · exact p2.elim⟩⟩
end
theorem sIf_by {c : BT} {t u : ST} {E : En} {Γ : Env} (b : Bool) (h : ∀ P : Bool → Prop, P b → c Γ P) (h1 : b = true → t E Γ) (h2 : b = false → u E Γ) : sIf c t u E Γ := h _ ⟨h1, h2⟩
theorem sIfM_by {c : BMT} {t u : ST} {E : En} {Γ : Env} (b : Bool) {Γ2 : Env} (h : ∀ P : Bool → Env → Prop, P b Γ2 → c Γ P) (h1 : b = true → t E Γ2) (h2 : b = false → u E Γ2) : sIfM c t u E Γ := h _ ⟨h1, h2⟩
theorem sIfZ_by {c : ZB} {t u : ST} {E : En} {Γ : Env} (b : Bool) {Γ2 : Env} (h : ∀ P : Bool → Env → Prop, P b Γ2 → c Γ P E.ex) (h1 : b = true → t E Γ2) (h2 : b = false → u E Γ2) : sIfZ c t u E Γ := h _ ⟨h1, h2⟩
theorem sIfZ_by0 {c : ZB} {t u : ST} {E : En} {Γ : Env} (b : Bool) (h : ∀ P : Bool → Env → Prop, P b Γ → c Γ P E.ex) (h1 : b = true → t E Γ) (h2 : b = false → u E Γ) : sIfZ c t u E Γ := h _ ⟨h1, h2⟩
end Kb
set_option Elab.async false
set_option linter.all false
set_option maxRecDepth 100000
set_option maxHeartbeats 1000000
/-! Kb22: a def that changes its first argument, called with a new list. -/
namespace Kb
open PySem L2
set_option autoImplicit false
section
variable {X : Cx} {W : WX}
def xClF (S : SM) (t0 : FT) (t : FT) : XT := fun Γ P => t0 Γ fun ds => t Γ fun as => S.S ds as fun r _ => P r.dat
theorem callF_li {S : SM} {t0 t : FT} {E : XK} (σ : St) (H : Hp) (Q : VK) (h : Li X.K (xClF S t0 t) σ H Q) : tCall (spM X.K S) [] E (tCons (Lf X.K t0) (LaS X.K t)) σ H Q := by
  obtain ⟨H0, ps, hs, Γ, P, se, ht, k⟩ := h
  refine ⟨H0, ps, hs, Γ, _, se, ht, fun ds l ws H1 p n e1 h1 r1 => ?_⟩
  refine ⟨H0, ps, l :: hs, Γ, _, se.hide n e1 (by rw [h1]; exact fun z => nomatch z), p, fun as us H2 q e2 r2 => ?_⟩
  show spM X.K S ((.ref l :: us) ++ []) H2 Q E
  rw [List.append_nil]
  have h2 := e2 _ _ h1
  have bs2 : Bs (l :: (hs ++ adr Γ)) H2 := bs_cons (by rw [h2]; exact fun z => nomatch z) (se.bs.mono (e1.trans e2))
  refine ⟨l :: (hs ++ adr Γ), l, ds, us, as, rfl, r2, bs2, List.mem_cons_self, ⟨ws, h2, r1.mono (hid_ex2 e2)⟩, S.mon _ _ _ _ (fun r z hr v H' fr _ ro => ?_) q⟩
  exact k _ v H' hr (fun a o w => fr a o (ne_of_none w n) ((e1.trans e2) a o w)) ((res_dat bs2.fresh ro).mono (hid_sub fun a m => List.mem_cons_of_mem _ m))
theorem px_callF {x : Str} {k : Nat} {S : SM} {e0 : Expr} {es : List Expr} {p pos : Pos} {t0 t : FT} (F : DfM X.prog X.w X.K X.mg X.base x k S) (hr : Room k X.A) (h0 : PE X e0 (Lf X.K t0)) (ha : PA X es (LaS X.K t)) (hg : Gl X x := by rfl) (hd2 : (x == ("__debug__" : Str)) = false := by decide)
    (he : starEach (e0 :: es) X.env = (false, eval e0 X.env) :: starEach es X.env := by rfl) (hpl : (backTo pos (starEach es X.env)).any (·.1) = false := by rfl) : PE X (.Call (.Name x p) (e0 :: es) [] pos) (Li X.K (xClF S t0 t)) := by
  obtain ⟨f, fd, ps, h1, h2, h3, h4⟩ := F.ex.ex
  exact pe_imp (pe_call h1 hr hg h2 h3 h4 .nil pass0 (pa_cons h0 ha he) hd2 he hpl) callF_li
end
end Kb
set_option Elab.async false
set_option linter.all false
set_option maxRecDepth 100000
set_option maxHeartbeats 1000000
/-! Kb23: what the top leaves of errors of one's own, read off by a hook. -/
namespace Kb
open PySem PySem.Spec PyProof.Rows L2
set_option autoImplicit false
abbrev ErV : Type := Option (Str × Str × Arguments × FuncBody × Scope × Addr × List Str × Addr)
def eInit (K : PySem.W.Frag) (x : Str) : Addr := He.ma K (He.ga K x) "__init__"
def erW (K : PySem.W.Frag) (x : Str) : ErV := match K.lookup (eInit K x) with
  | some ⟨_, _, .func fd, _⟩ => some (fd.name, fd.qualname, fd.params, fd.body, fd.scope, fd.globals, fd.closure.map (·.1), fd.builtins)
  | _ => none
/-- an error's class and its __init__ -/
structure ErrD where
  x : Str
  qual : Str
  params : Arguments
  body : List Stmt
  scope : Scope
  fl : List Str
def ErrD.val (d : ErrD) : ErV := some ("__init__", d.qual, d.params, .stmts d.body, d.scope, mainGlobals, ["__class__"], builtinsNs)
def eClsB (K : PySem.W.Frag) (C : Addr) : Bool := match K.lookup C with
  | some ⟨.type "type", _, .cls cd, sl⟩ => (match cd.mro, sl.toList with
    | .ref c :: bm, [_, _, _, _, some (.builtin n), _] => decide (c = C) && (decide (n = "ValueError.__new__") && (!cd.hasDel && (cd.hasDict && PySem.HandSPX.refsVE bm)))
    | _, _ => false)
  | _ => false
def eCodeB (K : PySem.W.Frag) (file q : Str) (cv : Value) : Bool := PySem.W.codeIn K cv q && (match cv with
  | .ref a => (match K.lookup a with
    | some ⟨_, _, .fields vs, _⟩ => (match (vs[2]? : Option Value) with
      | some (.str y _) => y == file
      | _ => false)
    | _ => false)
  | _ => false)
def eCellB (K : PySem.W.Frag) (C : Addr) (cl : List (Str × Addr)) : Bool := match cl with
  | [(_, a)] => (match K.lookup a with
    | some ⟨_, _, .cell (some (.ref c)), _⟩ => decide (c = C)
    | _ => false)
  | _ => false
def eFnB (K : PySem.W.Frag) (file q : Str) (C : Addr) (f : Addr) : Bool := match K.lookup f with
  | some ⟨_, _, .func fd, _⟩ => eCodeB K file q fd.code && (eCellB K C fd.closure && (match fd.defaults with
    | .none => true
    | _ => false))
  | _ => false
def eAtB (K : PySem.W.Frag) (C fI : Addr) (fl : List Str) : Bool :=
  He.eqO (PySem.W.findIn K (.ref C) "__getattribute__") (some (some (.builtin "BaseException.__getattribute__"))) && (He.eqO (PySem.W.findIn K (.ref C) "__getattr__") (some none) && (He.eqO (PySem.W.findIn K (.ref C) "__setattr__") (some (some (.builtin "object.__setattr__"))) && (fl.all (fun f => He.eqO (PySem.W.findIn K (.ref C) f) (some none)) &&
  (He.eqO (PySem.W.findIn K (.ref C) "__init__") (some (some (.ref fI))) && (He.eqO (PySem.W.findIn K (.ref C) "__class__") (some (some (.builtin "object.__class__"))) &&
  (decide (PySem.W.subIn K (.ref C) (.type "BaseException") = some true) && (decide (PySem.W.subIn K (.ref C) (.type "ValueError") = some true) && (decide (PySem.W.typeIn K (.ref C) = some (.type "type")) && (decide (PySem.W.typeIn K (.ref fI) = some (.type "function")) && (PySem.W.hasDictIn K C && (PySem.W.keepIn K (.ref C) && (He.eqO (PySem.W.nsIn K cStatics "thirdparty.any") (some none) && (He.eqO (PySem.W.ks_superIn K C C "__init__") (some (some (.builtin "ValueError.__init__"))) && (decide (PySem.W.mroIn K C (.ref C) = some true) && (decide (PySem.W.mroIn K C (.type "object") = some true) && (He.eqO (PySem.W.specialIn K (.builtin "object.__class__") "__get__") (some (some (.builtin "getset_descriptor.__get__"))) && (decide (PySem.W.takesIn K (.builtin "object.__class__") = some true))))))))))))))))))
def ErrD.ok (K : PySem.W.Frag) (file : Str) (d : ErrD) : Bool := eClsB K (He.ga K d.x) && (eAtB K (He.ga K d.x) (eInit K d.x) d.fl && eFnB K file d.qual (He.ga K d.x) (eInit K d.x))
def kitB2 (K : PySem.W.Frag) (q : Str × Str × Bool) : Bool := decide (PySem.W.kitOne K (.ref (He.ga K q.1)) (.ref (He.ga K q.2.1)) = some q.2.2)
/-! ### the hook -/
abbrev AlE : Type := He.AlD × Bool × List ErV
def obsX (fa : List He.Fa) (fn : List He.DefD) (er : List ErrD) (ki : List (Str × Str × Bool)) (file : Str) (bs : PySem.W.Frag → Bool) (K : PySem.W.Frag) : AlE := (He.obsD fa fn K, (er.all fun d => d.ok K file) && (ki.all (kitB2 K) && bs K), er.map fun d => erW K d.x)
def valX (fn : List He.DefD) (er : List ErrD) : AlE := (He.valD fn, true, er.map ErrD.val)
structure SaysX (fa : List He.Fa) (fn : List He.DefD) (er : List ErrD) (ki : List (Str × Str × Bool)) (file : Str) (bs : PySem.W.Frag → Bool) (K : PySem.W.Frag) : Prop where
  all : obsX fa fn er ki file bs K = valX fn er
def frX (n : Nat) (g : Addr → Option Obj) : PySem.W.Frag := He.frG g (cStatics :: He.asD g n)
def hookX (n : Nat) (fa : List He.Fa) (fn : List He.DefD) (er : List ErrD) (ki : List (Str × Str × Bool)) (file : Str) (bs : PySem.W.Frag → Bool) : PySem.W.Hook where
  α := AlE
  obs := fun s => obsX fa fn er ki file bs (frX n s.heap.get?)
  val := fun _ => valX fn er
  says := fun _ h => ∃ K : PySem.W.Frag, K.In h ∧ SaysX fa fn er ki file bs K
  of := fun _ _ e => ⟨_, He.frG_in, ⟨e⟩⟩
  keeps := fun _ _ _ ⟨K, hK, c⟩ k => ⟨K, PySem.W.Frag.In.keeps hK k, c⟩
def obX (n : Nat) (fa : List He.Fa) (fn : List He.DefD) (er : List ErrD) (ki : List (Str × Str × Bool)) (file : Str) (bs : PySem.W.Frag → Bool) (g : Addr → Option Obj) : AlE := obsX fa fn er ki file bs (frX n g)
theorem obX_eq {n : Nat} {fa : List He.Fa} {fn : List He.DefD} {er : List ErrD} {ki : List (Str × Str × Bool)} {file : Str} {bs : PySem.W.Frag → Bool} {g : Addr → Option Obj} {s : Shared} (h : ∀ a, g a = s.heap.get? a) : obX n fa fn er ki file bs g = (hookX n fa fn er ki file bs).obs s := by
  rw [show g = s.heap.get? from funext h]
  rfl
section
variable {fa : List He.Fa} {fn : List He.DefD} {ers : List ErrD} {ki : List (Str × Str × Bool)} {file : Str} {bs : PySem.W.Frag → Bool} {K : PySem.W.Frag}
theorem SaysX.d (c : SaysX fa fn ers ki file bs K) : He.SaysD fa fn K := congrArg (fun z : AlE => z.1) c.all
theorem SaysX.kit (c : SaysX fa fn ers ki file bs K) (i : Nat) {q : Str × Str × Bool} (h : ki[i]? = some q) : PySem.W.kitOne K (.ref (He.ga K q.1)) (.ref (He.ga K q.2.1)) = some q.2.2 := by
  have c2 := (He.ba (show ((ers.all fun d => d.ok K file) && (ki.all (kitB2 K) && bs K)) = true from congrArg (fun z : AlE => z.2.1) c.all)).2
  have c2 := (He.ba c2).1
  exact of_decide_eq_true (List.all_eq_true.mp c2 q (List.mem_of_getElem? h))
theorem SaysX.b (c : SaysX fa fn ers ki file bs K) : bs K = true := (He.ba (He.ba (show ((ers.all fun d => d.ok K file) && (ki.all (kitB2 K) && bs K)) = true from congrArg (fun z : AlE => z.2.1) c.all)).2).2
theorem SaysX.erd (c : SaysX fa fn ers ki file bs K) (i : Nat) {d : ErrD} (h : ers[i]? = some d) : d.ok K file = true ∧ erW K d.x = d.val := by
  have c2 := (He.ba (show ((ers.all fun d => d.ok K file) && (ki.all (kitB2 K) && bs K)) = true from congrArg (fun z : AlE => z.2.1) c.all)).1
  have e : ers.map (fun d => erW K d.x) = ers.map ErrD.val := congrArg (fun z : AlE => z.2.2) c.all
  have e2 : (ers.map fun d => erW K d.x)[i]? = (ers.map ErrD.val)[i]? := by rw [e]
  rw [List.getElem?_map, List.getElem?_map, h] at e2
  exact ⟨List.all_eq_true.mp c2 d (List.mem_of_getElem? h), Option.some.inj e2⟩
theorem cls_of {C : Addr} (h : eClsB K C = true) : ∃ nm q N bs bm sn sub ab col dd k0 k1 k2 k3 k5, K.lookup C = some (excClassObj nm q C N bs bm true sn sub ab col dd k0 k1 k2 k3 k5 "ValueError.__new__") ∧ PySem.HandSPX.refsVE bm = true := by
  unfold eClsB at h
  split at h
  · rename_i dd cd sl ho
    split at h
    · rename_i c bm k0 k1 k2 k3 n k5 em es
      obtain ⟨h1, h⟩ := He.ba h
      obtain ⟨h2, h⟩ := He.ba h
      obtain ⟨h3, h⟩ := He.ba h
      obtain ⟨h4, h5⟩ := He.ba h
      obtain ⟨nm, bs, mro, ns, qn, hd, sn, sub, ab, col, del⟩ := cd
      dsimp only at em h3 h4
      obtain rfl := of_decide_eq_true h1
      obtain rfl := of_decide_eq_true h2
      subst em h4
      cases del with
      | true => cases h3
      | false =>
        have e : sl = #[k0, k1, k2, k3, some (.builtin "ValueError.__new__"), k5] := by
          obtain ⟨l⟩ := sl
          exact congrArg Array.mk es
        rw [e] at ho
        exact ⟨nm, qn, ns, bs, bm, sn, sub, ab, col, dd, k0, k1, k2, k3, k5, ho, h5⟩
    · cases h
  · cases h
/-- what is left to show of an error's text -/
structure ErrIn (P : Program) (d : ErrD) (file : Str) : Prop where
  top : (P.main.scope.names.lookup ("super" : Str)).isSome = false
  file : ((P.main.file : Str) == file) = true
  body : ∃ (p0 p1 p2 p3 p4 p5 : Pos) (msg : Str) (j : Nat) (qs : List EQ), d.body = .Expr (.Call (.Attribute (.Call (.Name "super" p0) [] [] p1) "__init__" p2) [.Constant (.str msg) j p3] [] p4) p5 :: qs.map eStore ∧ (p2.endLine == p4.line) = true ∧ qs.map (·.1) = d.fl
  self : ∃ ar, (d.params.posonlyargs ++ d.params.args).head? = some ar ∧ ar.arg = "self"
  s1 : d.scope.names.lookup ("super" : Str) = some .globalImplicit
  s2 : d.scope.names.lookup ("__class__" : Str) = some .free
  s3 : d.scope.names.lookup ("self" : Str) = some .local
  s4 : ∀ f ∈ d.fl, d.scope.names.lookup f = some .local
  s5 : d.scope.kind = .function
  s6 : ∀ x ∈ d.scope.names, x.2 ≠ .cell
  s7 : d.scope.isCoroutine = false
  s8 : d.scope.isGenerator = false
  binds : ∀ (kV doc pm : Value) (an : Option Addr) (cdv ct : Value) (cc : Addr) (u : Value) (us : List Value), us.length = d.fl.length → bindArgs (PySem.W.ksFn "__init__" d.qual d.params d.body d.scope .none kV doc pm an cdv ct cc) ⟨u :: us, []⟩ = pure ((("self" : Str), u) :: d.fl.zip us)
  f1 : ("self" : Str) ∉ d.fl
  f2 : d.fl.Nodup
  f3 : ∀ f ∈ d.fl, (f == ("__debug__" : Str)) = false
  f4 : d.fl.length ≤ 10
theorem ErrD.facts {P : Program} {mg : Str → Option Value} {d : ErrD} {h : Heap} (X : K.In h) (G : h.Ns mainGlobals mg) (g : (He.Fa.glo d.x).ok K = true) (g2 : (He.Fa.free "super").ok K = true) (I : ErrIn P d file) (c : d.ok K file = true ∧ erW K d.x = d.val) :
    ErrTxt P K mg d.x (He.ga K d.x) (eInit K d.x) d.fl ∧ (∀ f ∈ d.fl, ErrR K (He.ga K d.x) f) ∧ ExcC K (He.ga K d.x) := by
  obtain ⟨c, e⟩ := c
  obtain ⟨cc, c⟩ := He.ba c
  obtain ⟨q, cf⟩ := He.ba c
  obtain ⟨a0, q⟩ := He.ba q
  obtain ⟨a1, q⟩ := He.ba q
  obtain ⟨a2, q⟩ := He.ba q
  obtain ⟨a3, q⟩ := He.ba q
  obtain ⟨a4, q⟩ := He.ba q
  obtain ⟨a5, q⟩ := He.ba q
  obtain ⟨a6, q⟩ := He.ba q
  obtain ⟨a7, q⟩ := He.ba q
  obtain ⟨a8, q⟩ := He.ba q
  obtain ⟨a9, q⟩ := He.ba q
  obtain ⟨a10, q⟩ := He.ba q
  obtain ⟨a11, q⟩ := He.ba q
  obtain ⟨a12, q⟩ := He.ba q
  obtain ⟨a13, q⟩ := He.ba q
  obtain ⟨a14, q⟩ := He.ba q
  obtain ⟨a15, q⟩ := He.ba q
  obtain ⟨a16, q⟩ := He.ba q
  have no : ∀ f ∈ d.fl, PySem.W.findIn K (.ref (He.ga K d.x)) f = some none := fun f hf => He.eqO_ok (List.all_eq_true.mp a3 f hf)
  refine ⟨⟨He.glo_ok X G g, He.free_ok X G g2, cls_of cc, He.eqO_ok a2, no, He.eqO_ok a4, of_decide_eq_true a9, a11, of_decide_eq_true a6, of_decide_eq_true a7, of_decide_eq_true a8, He.eqO_ok a13, of_decide_eq_true a14, He.eqO_ok a12, I.top, ?_⟩,
    fun f hf => ⟨He.eqO_ok a0, He.eqO_ok a1, no f hf, of_decide_eq_true a6, a10⟩, ⟨He.eqO_ok a0, He.eqO_ok a1, of_decide_eq_true a6, a10, He.eqO_ok a5, He.eqO_ok a16, of_decide_eq_true q, of_decide_eq_true a15⟩⟩
  obtain ⟨p0, p1, p2, p3, p4, p5, msg, j, qs, hb, hl, hq⟩ := I.body
  obtain ⟨ar, hs1, hs2⟩ := I.self
  unfold eFnB at cf
  unfold erW at e
  cases lk : K.lookup (eInit K d.x) with
  | none =>
    rw [lk] at cf
    cases cf
  | some o =>
    obtain ⟨oc, od, dt, osl⟩ := o
    rw [lk] at cf e
    cases dt with
    | func fd =>
      obtain ⟨n1, n2, n3, n4, n5, n6, n7, n8, n9, n10, n11, n12, n13, n14, n15⟩ := fd
      have e2 : (some (n1, n2, n3, n4, n5, n6, n7.map (·.1), n15) : ErV) = (some ((("__init__" : Str)), d.qual, d.params, .stmts d.body, d.scope, mainGlobals, [("__class__" : Str)], builtinsNs) : ErV) := e
      simp only [Option.some.injEq, Prod.mk.injEq] at e2
      obtain ⟨h1, h2, h3, h4, h5, h6, h7, h8⟩ := e2
      subst h1 h2 h3 h4 h5 h6 h8
      obtain ⟨k1, k⟩ := He.ba cf
      obtain ⟨k2, k3⟩ := He.ba k
      dsimp only at k1 k2 k3
      have hd : n8 = .none := by
        cases n8 <;> first | rfl | cases k3
      subst hd
      unfold eCodeB at k1
      obtain ⟨k4, k5⟩ := He.ba k1
      cases n13 with
      | ref cda =>
        dsimp only at k5
        cases lc : K.lookup cda with
        | none => rw [lc] at k5; cases k5
        | some oo =>
          obtain ⟨ccl, cdd, dd, ccs⟩ := oo
          rw [lc] at k5
          cases dd with
          | fields vs =>
            dsimp only at k5
            cases lv : (vs[2]? : Option Value) with
            | none => rw [lv] at k5; cases k5
            | some vv =>
              rw [lv] at k5
              cases vv with
              | str y tf =>
                unfold eCellB at k2
                split at k2
                · rename_i nm ca
                  have hnm : nm = "__class__" := by
                    have z : [nm] = [("__class__" : Str)] := h7
                    exact List.head_eq_of_cons_eq z
                  subst hnm
                  split at k2
                  · rename_i cl cld c csl hcell
                    obtain rfl := of_decide_eq_true k2
                    have hy : ((P.main.file : Str) == y) = true := by
                      rw [beq_iff_eq.mp k5]
                      exact I.file
                    refine ⟨oc, od, d.qual, d.params, d.scope, .none, n9, n10, n11, n12, cda, n14, ca, osl, ar, ccl, cdd, vs, ccs, y, tf, cl, cld, csl, p0, p1, p2, p3, p4, p5, msg, j, qs, ?_, k4, hl, hq, hs1, hs2, lc, lv, hy, hcell, I.s1, I.s2, I.s3, I.s4, I.s5, I.s6, I.s7, I.s8, fun s u us hus => ?_, I.f1, I.f2, I.f3, I.f4⟩
                    · rw [← hb]
                    · rw [← hb]
                      exact .of_eq (I.binds _ _ _ _ _ _ _ u us hus)
                  · cases k2
                · cases k2
              | _ => cases k5
          | _ => cases k5
      | _ => cases k5
    | _ => cases cf
/-! ### arguments in their places -/
def tuE (K : PySem.W.Frag) (a : Addr) : Bool := match K.lookup a with
  | some ⟨.type c, _, .seq its _, _⟩ => decide (c = "tuple") && decide (its.size = 0)
  | _ => false
theorem tuE_ok {a : Addr} (h : tuE K a = true) (H : Hp) : SqT K H a [] := by
  unfold tuE at h
  split at h
  · rename_i c od its m sl ho
    obtain ⟨h1, h2⟩ := He.ba h
    have z : its.size = 0 := of_decide_eq_true h2
    refine .inr ⟨_, its, m, ho, congrArg Value.type (of_decide_eq_true h1), rfl, by rw [z]; decide, ?_⟩
    have e : its.toList = [] := List.length_eq_zero_iff.mp (by rw [Array.length_toList]; exact z)
    rw [e]
    exact .nil
  · cases h
theorem arg_id {n m : Nat} : ArgRel K n m (fun vs _ => vs) (fun as _ => as) := fun B G H v0 vs zs as bs _ _ a _ => ⟨vs, rfl, a⟩
theorem arg_kw {n m : Nat} : ArgRel K n m (fun vs zs => vs ++ zs) (fun as bs => as ++ bs) := fun B G H v0 vs zs as bs _ _ a b => ⟨vs ++ zs, rfl, a.append b⟩
theorem arg_dt {n m : Nat} {a : Addr} (h : tuE K a = true) : ArgRel K n m (fun vs _ => vs ++ [.ref a]) (fun as _ => as ++ [.im (.tup [])]) := fun B G H v0 vs zs as bs _ _ x _ => ⟨vs ++ [.ref a], rfl, x.append (.cons (v := .ref a) (s := .im (.tup [])) (show Rep K B (.ref a) (.tup []) from .tup (tuE_ok h B) .nil) rfl .nil)⟩
end
end Kb
set_option Elab.async false
set_option linter.all false
set_option maxRecDepth 100000
set_option maxHeartbeats 1000000
/-! Kb24: classes with slots: read, stored, made; their methods. -/
namespace Kb
open PySem L2
open PyProof.Rows hiding St
set_option autoImplicit false
/-- the slots of the class at C -/
structure SlT (K : Frag) (C : Addr) (names : List Str) : Prop where
  cl : SlX.SCls K C
  at_ : ∀ f ∈ names, ∃ p i, SlX.Slot1 K C f p i
  dj : ∀ f ∈ names, ∀ g ∈ names, ∀ p q i, SlX.Slot1 K C f p i → SlX.Slot1 K C g q i → f = g
theorem upd_id {H : Hp} {a : Addr} {o : HO} (h : H a = some o) : upd H a o = H := by
  funext b
  by_cases e : b = a
  · rw [e, upd_same, h]
  · rw [upd_ne e]
theorem slt_in {K : Frag} {B H : Hp} {a C dx : Addr} {vs : List (Option V)} (e : Ex B H) (h : H a = some (SlX.SlO a C dx vs)) (x : B dx = some (.xd [])) : SlX.Slt H a C dx vs := .inr ⟨h, e _ _ x⟩
section
variable {X : Cx} {W : WX}
/-! ### a slot is read -/
def xSl (C : Addr) (f : Str) (t : XT) : XT := fun Γ P => t Γ fun d => match d with
  | .slo C' fs => C' = C ∧ (match fs.lookup f with
    | some z => P z
    | none => False)
  | _ => False
theorem slF_look {K : Frag} {B : Hp} {C : Addr} {vs : List (Option V)} {f : Str} {d : D} : ∀ {fvs : List (Str × V)} {fs : List (Str × D)}, SlF K C vs fvs → fvs.map (·.1) = fs.map (·.1) → Reps K B (fvs.map (·.2)) (fs.map (·.2)) → fs.lookup f = some d → ∃ v p i, SlX.Slot1 K C f p i ∧ vs[i]? = some (some v) ∧ Rep K B v d := fun {fvs fs} hF hk hr hl => by
  obtain ⟨v, h1, h2⟩ := look_rep hk hr hl
  have m : (f, v) ∈ fvs := by
    clear hF hk hr hl h2
    induction fvs with
    | nil => cases h1
    | cons q r ih =>
      obtain ⟨g, u⟩ := q
      rw [List.lookup_cons] at h1
      cases z : (f == g) with
      | true =>
        rw [z] at h1
        cases h1
        rw [beq_iff_eq.mp z]
        exact List.mem_cons_self
      | false =>
        rw [z] at h1
        exact List.mem_cons_of_mem _ (ih h1)
  obtain ⟨p, i, h3, h4⟩ := hF _ m
  exact ⟨v, p, i, h3, h4, h2⟩
theorem px_sl {e : Expr} {f : Str} {pos : Pos} {t : XT} {C : Addr} (c : SlX.SCls X.K C) (he : PE X e (Lb X.K t)) (hb : attributeBase e f X.env (eval e X.env) = eval e X.env := by rfl) : PE X (.Attribute e f pos) (Li X.K (xSl C f t)) :=
  pe_imp (SlX.pe_sl he hb) fun σ H Q ⟨H0, ps, hs, Γ, P, se, ht, k⟩ => ⟨H0, ps, hs, Γ, _, se, ht, fun d v H2 p e r => by
    cases d with
    | slo C' fs =>
      obtain ⟨rfl, p⟩ := p
      obtain ⟨a, dx, vs, fvs, rfl, h, x, hF, hk, hr⟩ := r.slots hid_ex
      cases z : fs.lookup f with
      | none => rw [z] at p; exact p.elim
      | some d =>
        rw [z] at p
        obtain ⟨v, q, i, h1, h2, h3⟩ := slF_look hF hk hr z
        exact ⟨a, C', dx, q, vs, i, v, rfl, slt_in (K := X.K) hid_ex h x, c, h1, h2, k d v H2 p e h3⟩
    | _ => exact p.elim⟩
/-! ### a slot is stored, in __init__ -/
def sSlI (i : Nat) (C : Addr) (names : List Str) (f : Str) (t : XT) : ST := fun E Γ => t Γ fun d => match Γ[i]? with
  | some (some (.ms l C' fs)) => C' = C ∧ f ∈ names ∧ f ∉ fs.map (·.1) ∧ (∀ g ∈ fs.map (·.1), g ∈ names) ∧ E.nx (Γ.set i (some (.ms l C' (fs ++ [(f, d)]))))
  | _ => False
theorem slF_put {K : Frag} {C : Addr} {names : List Str} (T : SlT K C names) {vs : List (Option V)} {fvs : List (Str × V)} {f : Str} {y : V} {p : Addr} {i : Nat} (hf : f ∈ names) (hs : SlX.Slot1 K C f p i) (hn : f ∉ fvs.map (·.1)) (ha : ∀ g ∈ fvs.map (·.1), g ∈ names) (h : SlF K C vs fvs) : SlF K C (SlX.putS i y vs) (fvs ++ [(f, y)]) := fun q hq => by
  rcases List.mem_append.mp hq with hq | hq
  · obtain ⟨p2, j, h1, h2⟩ := h q hq
    have m : q.1 ∈ fvs.map (·.1) := List.mem_map.mpr ⟨q, hq, rfl⟩
    have ne : j ≠ i := fun z => by
      subst z
      exact hn (by rw [← T.dj q.1 (ha _ m) f hf p2 p j h1 hs]; exact m)
    exact ⟨p2, j, h1, (SlX.putS_ne ne).mpr h2⟩
  · rw [List.mem_singleton.mp hq]
    exact ⟨p, i, hs, SlX.putS_get i y vs⟩
theorem s_sl (i : Nat) {x f : Str} {e : Expr} {t : XT} {C : Addr} {names : List Str} {npos pos' pos : Pos} (T : SlT X.K C names) (he : PE X e (Li X.K t)) (hN : X.N[i]? = some x := by rfl) (hv : Vis X.env.scope x := by first | exact Or.inl rfl | exact Or.inr (Or.inl rfl) | exact Or.inr (Or.inr rfl)) (hd : (x == ("__debug__" : Str)) = false := by decide) (hcd : (x == ("__classdict__" : Str)) = false := by decide)
    (hs : swapsWith e (some (.Attribute (.Name x npos) f pos')) pos.line X.env = pure false := by rfl) : PS X (.Assign [.Attribute (.Name x npos) f pos'] e pos) (Ls X.K W (sSlI i C names f t)) :=
  ps_imp (SlX.ps_sl (pe_var hN hv hd hcd) he hs) fun D σ H ⟨H0, ps, hs, Γ, E, se, ht, r⟩ => by
    refine ⟨H0, ps, hs, Γ, _, se, ht, fun d y H2 p e2 rr => ?_⟩
    have se2 := se.mono e2
    split at p
    · rename_i l C' fs e
      obtain ⟨rfl, p0, p1, p2, p3⟩ := p
      obtain ⟨v, h1, rfl, dx, vs, fvs, h2, hx, hF, h3, h4⟩ := se2.ok i _ e
      have hl : l ∈ adr Γ := mem_adr.mpr ⟨i, _, e, rfl⟩
      have p1' : f ∉ fvs.map (·.1) := by rw [h3]; exact p1
      obtain ⟨pa, j, hj⟩ := T.at_ f p0
      have hB : hid (hs ++ adr Γ) (upd H2 l (SlX.SlO l C' dx (SlX.putS j y vs))) = hid (hs ++ adr Γ) H2 := hid_upd (List.mem_append_right _ hl)
      obtain ⟨se', ha⟩ := se2.write (s' := .ms l C' (fs ++ [(f, d)])) (o := SlX.SlO l C' dx (SlX.putS j y vs)) e rfl rfl rfl ⟨rfl, dx, _, fvs ++ [(f, y)], upd_same, hx, slF_put T p0 hj p1' (by rw [h3]; exact p2) hF, by simp [h3], by
        rw [List.map_append, List.map_append]
        exact h4.append (.one rr)⟩
      refine ⟨_, h1, l, C', dx, pa, vs, j, rfl, slt_in (K := X.K) hid_ex h2 hx, T.cl, hj, ?_⟩
      have eS : SlX.slH H2 l C' dx (SlX.putS j y vs) = upd H2 l (SlX.SlO l C' dx (SlX.putS j y vs)) := by
        unfold SlX.slH
        rw [upd_id (hid_ex _ _ hx)]
      rw [eS]
      exact r.nx _ σ _ p3 se' ((Kp.ex e2).trans (kp_write hl ha))
    · exact p.elim
end
/-! ### __init__ of a class with slots, and its call -/
def spIL (K : Frag) (C : Addr) (S : SIS) : Sp := fun vs H Q E => ∃ hs l dx us as, vs = .ref l :: us ∧ ArgsG K (hid hs H) (hid [l] H) H us as ∧ Bs hs H ∧ l ∈ hs ∧ H l = some (SlX.SlO l C dx []) ∧ hid hs H dx = some (.xd []) ∧
  S.S as (fun fs => ∀ H', (∀ a o, a ≠ l → H a = some o → H' a = some o) → (∃ dx' ws fvs, H' l = some (SlX.SlO l C dx' ws) ∧ hid hs H' dx' = some (.xd []) ∧ SlF K C ws fvs ∧ fvs.map (·.1) = fs.map (·.1) ∧ Reps K (hid hs H') (fvs.map (·.2)) (fs.map (·.2))) → Q .non H')
    fun C' fs => ∀ d H', (∀ a o, a ≠ l → H a = some o → H' a = some o) → ExD K hs H' d fs → E (.ref C') d H'
section
variable {P : Program} {w : World} {K : Frag} {mg : Str → Option Value} {base : Heap}
theorem fn_initL {x qual : Str} {params : Arguments} {body : List Stmt} {scope : Scope} {dvs : List V} {kws : List (Str × V)} {f : Addr} {fd : FuncData} {N ps : List Str} {k : Nat} {α : Type} {args : α → List Slot} {pre : α → Prop} {post : α → List (Str × D) → Prop} {exc : α → EF} {n0 : Str} {C : Addr}
    (F : FunD K x qual params body scope dvs kws f fd) (Sc : FnScope (n0 :: N) (n0 :: ps) scope) (G : Addr → α → Env)
    (hb : ∀ (cdv : Value) (A : Around) (outer : List PySem.Env) (s : Shared) (H : Hp) (E : XK), Room k (A.deeper (PyProof.Rows.envOfC qual scope s.heap.objs.size f cdv)) →
      ∃ t, PSs (cxOf (L2.CX P w) P w K mg base (n0 :: N) qual scope f cdv A outer s H E) body (Ls K (fun cls d _ H => E cls d H) t) ∧ ∀ l x (R : List (Str × D) → Prop) (F : EF), pre x → (∀ r, post x r → R r) → (∀ C fs, exc x C fs → F C fs) → t { nx := fun Γ => ∃ fs, Γ[0]? = some (some (.ms l C fs)) ∧ R fs, rt := fun _ _ => False, ex := fun C fs _ => F C fs } (G l x))
    (hG : ∀ l x, some (.ms l C []) :: env0 (args x) N.length = G l x := by intro _ _; rfl) (hlen : ∀ x, (args x).length = ps.length := by intro _; rfl) : FnOk P w K mg base (L2.CX P w) (k + 1) f fd (n0 :: ps) (spIL K C (spcIS args pre post exc)) := by
  refine F.ok Sc (fun vs H Q E h => ?_) fun cdv A outer s H vs Q E hr h => ?_
  · obtain ⟨hs, l, dx, us, as, rfl, a, _, _, _, _, x, rfl, _⟩ := h
    simp [a.len, hlen x]
  · obtain ⟨hs, l, dx, us, as, rfl, a, bb, hl, hw, hdx, x, rfl, hp, hR, hX⟩ := h
    obtain ⟨t, h1, h2⟩ := hb cdv A outer s H E hr
    have hst : L2.start (n0 :: N) (.ref l :: us) = some (.ref l) :: (us.map some ++ List.replicate (N.length - us.length) none) := by
      unfold L2.start
      simp
    have se : SE K H [l] hs (G l x) (L2.start (n0 :: N) (.ref l :: us)) H := by
      rw [← hG, hst]
      exact se_firstS a bb hl rfl rfl ⟨rfl, dx, [], [], hw, hdx, (fun q hq => by cases hq), rfl, .nil⟩
    refine ⟨Ls K _ t, h1, H, [l], hs, _, _, se, h2 l x _ _ hp hR hX, ⟨fun Γ' σ' H' ⟨fs, hz, q⟩ se' _ => ?_, fun r Γ' σ' v H' q => q.elim, fun _ _ _ q => q.elim, fun _ _ _ q => q.elim, fun C' fs Γ' σ' H' d q se' _ xd => q d H' (fun a o h q => se'.fr a o (fun m => h (List.mem_singleton.mp m)) q) xd.out⟩⟩
    obtain ⟨v, _, _, dx', ws, fvs, g2, gx, gF, g3, g4⟩ := se'.ok 0 _ hz
    have sub : Ex (hid (hs ++ adr Γ') H') (hid hs H') := hid_sub fun a m => List.mem_append_left _ m
    exact q H' (fun a o h q => se'.fr a o (fun m => h (List.mem_singleton.mp m)) q) ⟨dx', ws, fvs, g2, sub _ _ gx, gF, g3, g4.mono sub⟩
structure DcL (P : Program) (w : World) (K : Frag) (mg : Str → Option Value) (base : Heap) (x : Str) (C : Addr) (k : Nat) (S : SIS) (n : Nat) (ks : List Str) (gS : List Slot → List Slot → List Slot) : Prop where
  ex : ∃ (f : Addr) (fd : FuncData) (ps : List Str) (g : List Value → List Value → List Value) (gV : List V → List V → List V), FnOk P w K mg base (L2.CX P w) k f fd ps (spIL K C S) ∧ Mk K C f ∧ mg x = some (.ref C) ∧ KBn K fd ps (n + 1) ks g gV ∧ ArgRel K n ks.length gV gS
end
def mkH (H : Hp) (x C dx : Addr) : Hp := upd (upd H dx (.xd [])) x (SlX.SlO x C dx [])
section
variable {X : Cx} {W : WX} {CX : CXT} {k n : Nat} {f C : Addr} {fd : FuncData} {ps ks : List Str} {sp : Sp} {g : List Value → List Value → List Value} {gV : List V → List V → List V}
def tMakeL (C : Addr) (n m : Nat) (sp : Sp) (gV : List V → List V → List V) (E : St → XK) (t tk : TA) : TE := fun σ H Q => t σ H fun vs H1 => tk σ H1 fun zs H2 => vs.length = n ∧ zs.length = m ∧
  ∀ x dx, H2 x = none → H2 dx = none → dx ≠ x → sp (gV (.ref x :: vs) zs) (mkH H2 x C dx) (fun v H3 => v = .non ∧ Q (.ref x) H3) (E σ)
theorem run_makeL {E : St → XK} {pins : List (Addr × Obj)} {σ : St} {H : Hp} {s : Shared} {Q : VK} {us ws : List Value} {vs zs : List V} (mk : Mk X.K C f) (fo : FnOk X.prog X.w X.K X.mg X.base CX k f fd ps sp) (room : Room (k + 1) X.A) (hb : KBn X.K fd ps (n + 1) ks g gV)
    (pas : PassesAt CX X σ (E σ)) (I : Inv X pins σ H s) (r : Vals vs us) (rz : Vals zs ws) (l1 : vs.length = n) (l2 : zs.length = ks.length)
    (h : ∀ x dx, H x = none → H dx = none → dx ≠ x → sp (gV (.ref x :: vs) zs) (mkH H x C dx) (fun v H2 => v = .non ∧ Q (.ref x) H2) (E σ)) :
    wpAny (model X.prog X.w) X.A (call (.ref C) us (ks.zip ws)) (EP X pins σ Q) X.xe s := by
  have ne : s.heap.objs.size ≠ s.heap.objs.size + 1 := Nat.ne_of_lt (Nat.lt_succ_self _)
  have q0 := h (s.heap.objs.size + 1) s.heap.objs.size (I.hok.fresh (Nat.le_succ _)) (I.hok.fresh (Nat.le_refl _)) ne
  have J0 := Inv.made (C := C) I
  obtain ⟨_, O, _, _, _, _⟩ := ins_get J0.hok upd_same
  have J := SlX.inv_slot (vs' := []) (sl' := #[]) (t' := s.toks) J0 (.inl ⟨upd_same, rfl⟩) (fun b o _ _ e => e) (fun m e => e) O.obj (SlX.SlR.nil _)
  have eH : SlX.slH (upd (upd H s.heap.objs.size (.own (s.heap.objs.size + 1))) (s.heap.objs.size + 1) (.ins C s.heap.objs.size [])) (s.heap.objs.size + 1) C s.heap.objs.size [] = mkH H (s.heap.objs.size + 1) C s.heap.objs.size := by
    funext b
    unfold SlX.slH mkH
    by_cases h1 : b = s.heap.objs.size + 1
    · rw [h1, upd_same, upd_same]
    · rw [upd_ne h1, upd_ne h1]
      by_cases h2 : b = s.heap.objs.size
      · rw [h2, upd_same, upd_same]
      · rw [upd_ne h2, upd_ne h2, upd_ne h1, upd_ne h2]
  rw [eH] at J
  have ra : Vals (V.ref (s.heap.objs.size + 1) :: vs) (Value.ref (s.heap.objs.size + 1) :: us) := .cons rfl r
  have len1 : (Value.ref (s.heap.objs.size + 1) :: us).length = n + 1 := (ra.length.symm).trans (congrArg Nat.succ l1)
  have len2 : ws.length = ks.length := (rz.length.symm).trans l2
  have go := fo.run _ X.stack _ _ ⟨Value.ref (s.heap.objs.size + 1) :: us, ks.zip ws⟩ (g (Value.ref (s.heap.objs.size + 1) :: us) ws) _ _ (E σ) (room.make C us (ks.zip ws)) (J.env0.make C us (ks.zip ws)) (hb.to _ (Value.ref (s.heap.objs.size + 1) :: us) ws J.kIn len1 len2) (hb.rel ra rz) q0
  refine wpAny_call (make_map (f := f) I.kIn mk.makes mk.init (beq_iff_eq.mp mk.fn) (codeAny_mono go fun res s' ans => ?_))
  match res, ans with
  | .error e, ans => exact pas pins _ _ e s' J ans
  | .ok (.ret u), ans =>
    obtain ⟨v, H', I3, rv, ev, q3⟩ := J.after ans
    cases ev
    exact ⟨rv, ⟨V.ref (s.heap.objs.size + 1), H', I3, rfl, q3⟩⟩
  | .ok .next, ans => exact False.elim ans
  | .ok .brk, ans => exact False.elim ans
  | .ok .cont, ans => exact False.elim ans
theorem pe_makeL {x : Str} {p pos : Pos} {e : Expr} {es : List Expr} {kws : List Keyword} {t tk : TA} {E : St → XK} (mk : Mk X.K C f) (fo : FnOk X.prog X.w X.K X.mg X.base CX k f fd ps sp) (room : Room (k + 1) X.A) (hg : Gl X x) (hm : X.mg x = some (.ref C)) (hb : KBn X.K fd ps (n + 1) ks g gV) (pas : ∀ σ, PassesAt CX X σ (E σ))
    (ha : PA X (e :: es) t) (hkw : PK X kws tk) (hall : (backToKw pos (keywordEach kws X.env)).all (·.1.isSome) = true) (hks : (backToKw pos (keywordEach kws X.env)).filterMap (·.1) = ks)
    (hdb : (x == ("__debug__" : Str)) = false) (he : starEach (e :: es) X.env = (false, eval e X.env) :: starEach es X.env)
    (hpl : ((backTo pos (starEach (e :: es) X.env)).any (·.1) || (backToKw pos (keywordEach kws X.env)).any (·.1.isNone)) = false) :
    PE X (.Call (.Name x p) (e :: es) kws pos) (tMakeL C n ks.length sp gV E t tk) := ⟨fun pins s σ H Q I h =>
  wpAny_Call_Name_kw (ld_glob I hg hm (PySem.W.callWith_KW (h₀ := X.base) I.ok.mod.kin mk.kp hall (thn (ha.run pos pins s σ H _ I h) fun us s1 ⟨vs, H1, I1, r, q⟩ =>
    thn (hkw.run pos pins s1 σ H1 _ I1 q) fun ws s2 ⟨zs, H2, I2, rz, l1, l2, q2⟩ => ⟨I2.kIn, by rw [hks]; exact run_makeL mk fo room hb (pas σ) I2 r rz l1 l2 q2⟩) hpl he) hdb)⟩
def zMkL (C : Addr) (S : SIS) (n m : Nat) (gS : List Slot → List Slot → List Slot) (t tk : AT) : ZT := fun Γ P F => t Γ fun as => tk Γ fun bs => as.length = n ∧ bs.length = m ∧ S.S (gS as bs) (fun fs => P (.slo C fs) Γ) fun C' fs => F C' fs Γ
theorem mkH_ex {H : Hp} {x dx C : Addr} (nx : H x = none) (nd : H dx = none) : Ex H (mkH H x C dx) := fun a o q => by
  unfold mkH
  rw [upd_ne (ne_of_none q nx), upd_ne (ne_of_none q nd)]; exact q
theorem zmakeL_li {S : SIS} {m : Nat} {gS : List Slot → List Slot → List Slot} {t tk : AT} (ar : ArgRel X.K n m gV gS) (σ : St) (H : Hp) (Q : VK) (h : Lz X.K W (zMkL C S n m gS t tk) σ H Q) : tMakeL C n m (spIL X.K C S) gV (WE W) (LaX X.K t) (LaX X.K tk) σ H Q := by
  obtain ⟨H0, ps, hs, Γ, P, F, se, ht, k, xw⟩ := h
  refine ⟨H0, ps, hs, Γ, _, se, ht, fun as vs H1 p e1 r1 => ?_⟩
  refine ⟨H0, ps, hs, Γ, _, se.mono e1, p, fun bs zs H2 p2 e2 r2 => ?_⟩
  obtain ⟨la, lb, p⟩ := p2
  refine ⟨r1.len.trans la, r2.len.trans lb, fun x dx nx nd ne => ?_⟩
  have se2 := (se.mono e1).mono e2
  have eN : Ex H2 (mkH H2 x C dx) := mkH_ex nx nd
  have nms : x ∉ hs ++ adr Γ := se2.bs.new nx
  have nds : dx ∉ hs ++ adr Γ := se2.bs.new nd
  have eH : Ex (hid (hs ++ adr Γ) H2) (hid (x :: (hs ++ adr Γ)) (mkH H2 x C dx)) := hid_fresh nx eN
  have eG : Ex H2 (hid [x] (mkH H2 x C dx)) := fun a o q => (hid_fresh (ms := []) nx eN) a o (by rw [hid_ni (by simp)]; exact q)
  have g1 : ArgsG X.K (hid (x :: (hs ++ adr Γ)) (mkH H2 x C dx)) (hid [x] (mkH H2 x C dx)) (mkH H2 x C dx) vs as :=
    (ArgsG.mk (K := X.K) (B := hid (hs ++ adr Γ) H1) (G := H1) (H := H1) r1.len r1.ok).mono ((hid_ex2 e2).trans eH) (e2.trans eG) (e2.trans eN)
  have g2 : ArgsG X.K (hid (x :: (hs ++ adr Γ)) (mkH H2 x C dx)) (hid [x] (mkH H2 x C dx)) (mkH H2 x C dx) zs bs :=
    (ArgsG.mk (K := X.K) (B := hid (hs ++ adr Γ) H2) (G := H2) (H := H2) r2.len r2.ok).mono eH eG eN
  obtain ⟨us, hu, g3⟩ := ar _ _ _ (.ref x) vs zs as bs (r1.len.trans la) (r2.len.trans lb) g1 g2
  have hd : mkH H2 x C dx dx = some (.xd []) := by
    unfold mkH
    rw [upd_ne ne, upd_same]
  have hdh : hid (x :: (hs ++ adr Γ)) (mkH H2 x C dx) dx = some (.xd []) := by
    rw [hid_ni (fun m => (List.mem_cons.mp m).elim ne nds)]
    exact hd
  refine ⟨x :: (hs ++ adr Γ), x, dx, us, gS as bs, hu, g3, fun a m => ?_, List.mem_cons_self, upd_same, hdh, S.mon _ _ _ _ _ (fun fs hf H' fr ⟨dx', ws, fvs, g1, gx, gF, g2, g3⟩ => ⟨rfl, ?_⟩) (fun C' fs hf d H' fr xd => ?_) p⟩
  · rcases List.mem_cons.mp m with rfl | m
    · rw [show mkH H2 a C dx a = some (SlX.SlO a C dx []) from upd_same]; intro z; cases z
    · exact (se2.bs.mono eN) a m
  · have e3 : Ex H2 H' := fun a o q => fr a o (ne_of_none q nx) (eN a o q)
    have e4 := (e1.trans e2).trans e3
    have sub : Ex (hid (x :: (hs ++ adr Γ)) H') (hid (hs ++ adr Γ) H') := hid_sub fun a m => List.mem_cons_of_mem _ m
    exact k _ Γ _ H' hf (se.mono e4) (Km.ex e4) (.slo (by rw [hid_ni nms]; exact g1) (sub _ _ gx) gF g2 (g3.mono sub))
  · have e3 : Ex H2 H' := fun a o q => fr a o (ne_of_none q nx) (eN a o q)
    have e4 := (e1.trans e2).trans e3
    exact xw C' fs Γ H' d hf (se.mono e4) (Km.ex e4) (xd.sub fun a m => List.mem_cons_of_mem _ m)
theorem z_makeL {x : Str} {S : SIS} {gS : List Slot → List Slot → List Slot} {e : Expr} {es : List Expr} {kws : List Keyword} {p pos : Pos} {t tk : AT} (tks : Takes X W) (F : DcL X.prog X.w X.K X.mg X.base x C k S n ks gS) (hr : Room (k + 1) X.A) (ha : PA X (e :: es) (LaX X.K t)) (hkw : PK X kws (LaX X.K tk)) (hg : Gl X x := by rfl)
    (hall : (backToKw pos (keywordEach kws X.env)).all (·.1.isSome) = true := by rfl) (hks : (backToKw pos (keywordEach kws X.env)).filterMap (·.1) = ks := by rfl) (hdb : (x == ("__debug__" : Str)) = false := by decide)
    (he : starEach (e :: es) X.env = (false, eval e X.env) :: starEach es X.env := by rfl) (hpl : ((backTo pos (starEach (e :: es) X.env)).any (·.1) || (backToKw pos (keywordEach kws X.env)).any (·.1.isNone)) = false := by rfl) : PE X (.Call (.Name x p) (e :: es) kws pos) (Lz X.K W (zMkL C S n ks.length gS t tk)) := by
  obtain ⟨f, fd, ps, g, gV, h1, h2, h3, h4, h5⟩ := F.ex
  exact pe_imp (pe_makeL h2 h1 hr hg h3 h4 (fun σ => passAt tks σ) ha hkw hall hks hdb he hpl) (zmakeL_li h5)
end
end Kb
set_option Elab.async false
set_option linter.all false
set_option maxRecDepth 100000
set_option maxHeartbeats 1000000
/-! Kb25: classes with slots: methods, isinstance, an own ==. -/
namespace Kb
open PySem L2
open PyProof.Rows hiding St
set_option autoImplicit false
section
variable {X : Cx} {W : WX} {CX : CXT} {k : Nat} {f C : Addr} {fd : FuncData} {ps : List Str} {sp : Sp} {E : St → XK} {m : Str} {pos apos : Pos} {e o : Expr} {es : List Expr} {ta : TE} {t : TA}
def tMethL (C : Addr) (sp : Sp) (E : St → XK) (ta : TE) (t : TA) : TE := fun σ H Q => ta σ H fun x H1 => ∃ a dx vs, x = .ref a ∧ SlX.Slt H1 a C dx vs ∧ t σ H1 fun ws H2 => sp (x :: ws) H2 Q (E σ)
theorem pe_methL {pl : Sem Bool} (he : PE X o ta) (c : SlX.SCls X.K C) (hm : Meth X.K C m f) (F : FnOk X.prog X.w X.K X.mg X.base CX k f fd ps sp) (hr : Room k X.A) (hb : Binds X.K fd ps []) (pas : ∀ σ, PassesAt CX X σ (E σ)) (ha : PA X (e :: es) t)
    (hst : starEach (e :: es) X.env = (false, eval e X.env) :: starEach es X.env) (hpl : (backTo pos (starEach es X.env)).any (·.1) = false)
    (hev : eval (.Call (.Attribute o m apos) (e :: es) [] pos) X.env = (do
      let ov ← eval o X.env
      standAt apos.atName
      let (f, first) ← holding [ov] (getMethod ov m pl)
      callWith pos f first (backTo pos (starEach (e :: es) X.env)) (backToKw pos (keywordEach [] X.env)))) : PE X (.Call (.Attribute o m apos) (e :: es) [] pos) (tMethL C sp E ta t) := by
  refine ⟨fun pins s σ H Q I h => PySem.W.methodCall_KW (pl := pl) (thn (he.run pins s σ H _ I h) fun u s1 ⟨x, H1, I1, rx, a, dx, vs, ex, hsl, q⟩ => ?_) hev⟩
  cases ex
  cases (show u = Value.ref a from rx)
  refine SlX.getmethsl_ok I1 hsl c hm (PySem.W.callWith_K (first := [.ref a]) (h₀ := X.base) I.ok.mod.kin hm.kp (thn (ha.run pos pins s1 σ H1 _ I1 q) fun us s2 ⟨ws, H2, I2, r, q2⟩ => ⟨I2.kIn, ?_⟩) hst hpl)
  exact run_fnS (us := .ref a :: us) (vs := .ref a :: ws) F hr hb (pas σ) I2 (.cons rfl r) q2
theorem pe_methL0 {pl : Sem Bool} (he : PE X o ta) (c : SlX.SCls X.K C) (hm : Meth X.K C m f) (F : FnOk X.prog X.w X.K X.mg X.base CX k f fd ps sp) (hr : Room k X.A) (hb : Binds X.K fd ps []) (pas : ∀ σ, PassesAt CX X σ (E σ))
    (hev : eval (.Call (.Attribute o m apos) [] [] pos) X.env = (do
      let ov ← eval o X.env
      standAt apos.atName
      let (f, first) ← holding [ov] (getMethod ov m pl)
      callWith pos f first (backTo pos (starEach [] X.env)) (backToKw pos (keywordEach [] X.env)))) : PE X (.Call (.Attribute o m apos) [] [] pos) (tMethL C sp E ta tNil) := by
  refine ⟨fun pins s σ H Q I h => PySem.W.methodCall_KW (pl := pl) (thn (he.run pins s σ H _ I h) fun u s1 ⟨x, H1, I1, rx, a, dx, vs, ex, hsl, q⟩ => ?_) hev⟩
  cases ex
  cases (show u = Value.ref a from rx)
  exact SlX.getmethsl_ok I1 hsl c hm (PySem.W.callWith_K0 (first := [.ref a]) I1.kIn hm.kp (run_fnS (us := [.ref a]) (vs := [.ref a]) F hr hb (pas σ) I1 (.cons rfl .nil) q))
end
section
variable {X : Cx} {W : WX} {k : Nat} {C : Addr} {m : Str} {pos apos : Pos} {e o : Expr} {es : List Expr} {S : SP} {to : XT} {t : AT}
/-- o.m(..): what is told -/
def rMeL (C : Addr) (S : SP) (to : XT) (t : AT) : RT := fun Γ P => to Γ fun d => match d with
  | .slo C' fs => C' = C ∧ t Γ fun as => S.S (.im d :: as) P
  | _ => False
theorem methL_lr {E : St → XK} (σ : St) (H : Hp) (Q : VK) (h : Lr X.K (rMeL C S to t) σ H Q) : tMethL C (spP X.K S) E (Li X.K to) (LaX X.K t) σ H Q := by
  obtain ⟨H0, ps, hs, Γ, P, se, ht, k⟩ := h
  refine ⟨H0, ps, hs, Γ, _, se, ht, fun d v H1 p e1 r => ?_⟩
  cases d with
  | slo C' fs =>
    obtain ⟨rfl, p⟩ := p
    obtain ⟨a, dx, vs, fvs, rfl, h1, hx, _⟩ := (RepW.im r).slots hid_ex
    refine ⟨a, dx, vs, rfl, slt_in (K := X.K) hid_ex h1 hx, H0, ps, hs, Γ, _, se.mono e1, p, fun as ws H2 q e2 ar => ?_⟩
    exact ⟨hs ++ adr Γ, _, .cons (s := .im (.slo C' fs)) (r.mono (hid_ex2 e2)) rfl ar, ((se.mono e1).mono e2).bs, S.mon _ _ _ (fun r hr v H' e3 ro => k r v H' hr ((e1.trans e2).trans e3) (res_back (e1.trans e2) ro)) q⟩
  | _ => exact p.elim
theorem rx_methL {pl : Sem Bool} (c : SlX.SCls X.K C) (F : Dm X.prog X.w X.K X.mg X.base C m k (spP X.K S)) (hr : Room k X.A) (ho : PE X o (Li X.K to)) (ha : PA X (e :: es) (LaX X.K t))
    (hst : starEach (e :: es) X.env = (false, eval e X.env) :: starEach es X.env := by rfl) (hpl : (backTo pos (starEach es X.env)).any (·.1) = false := by rfl)
    (ht : eval (.Call (.Attribute o m apos) (e :: es) [] pos) X.env = (do
      let ov ← eval o X.env
      standAt apos.atName
      let (f, first) ← holding [ov] (getMethod ov m pl)
      callWith pos f first (backTo pos (starEach (e :: es) X.env)) (backToKw pos (keywordEach [] X.env))) := by rfl) : PE X (.Call (.Attribute o m apos) (e :: es) [] pos) (Lr X.K (rMeL C S to t)) := by
  obtain ⟨f, fd, ps, h1, h2, h3⟩ := F.ex
  exact pe_imp (pe_methL (E := fun _ _ _ _ => False) ho c h2 h1 hr h3 (fun σ pins H s e s' I z => pass0 pins σ H s e s' I z) ha hst hpl ht) methL_lr
def rMeL0 (C : Addr) (S : SP) (to : XT) : RT := fun Γ P => to Γ fun d => match d with
  | .slo C' fs => C' = C ∧ S.S [.im d] P
  | _ => False
theorem methL0_lr {E : St → XK} (σ : St) (H : Hp) (Q : VK) (h : Lr X.K (rMeL0 C S to) σ H Q) : tMethL C (spP X.K S) E (Li X.K to) tNil σ H Q := by
  obtain ⟨H0, ps, hs, Γ, P, se, ht, k⟩ := h
  refine ⟨H0, ps, hs, Γ, _, se, ht, fun d v H1 p e1 r => ?_⟩
  cases d with
  | slo C' fs =>
    obtain ⟨rfl, p⟩ := p
    obtain ⟨a, dx, vs, fvs, rfl, h1, hx, _⟩ := (RepW.im r).slots hid_ex
    refine ⟨a, dx, vs, rfl, slt_in (K := X.K) hid_ex h1 hx, ?_⟩
    exact ⟨hs ++ adr Γ, _, .cons (s := .im (.slo C' fs)) r rfl .nil, (se.mono e1).bs, S.mon _ _ _ (fun r hr v H' e3 ro => k r v H' hr (e1.trans e3) (res_back e1 ro)) p⟩
  | _ => exact p.elim
theorem rx_methL0 {pl : Sem Bool} (c : SlX.SCls X.K C) (F : Dm X.prog X.w X.K X.mg X.base C m k (spP X.K S)) (hr : Room k X.A) (ho : PE X o (Li X.K to))
    (ht : eval (.Call (.Attribute o m apos) [] [] pos) X.env = (do
      let ov ← eval o X.env
      standAt apos.atName
      let (f, first) ← holding [ov] (getMethod ov m pl)
      callWith pos f first (backTo pos (starEach [] X.env)) (backToKw pos (keywordEach [] X.env))) := by rfl) : PE X (.Call (.Attribute o m apos) [] [] pos) (Lr X.K (rMeL0 C S to)) := by
  obtain ⟨f, fd, ps, h1, h2, h3⟩ := F.ex
  exact pe_imp (pe_methL0 (E := fun _ _ _ _ => False) ho c h2 h1 hr h3 (fun σ pins H s e s' I z => pass0 pins σ H s e s' I z) ht) methL0_lr
/-- a method that may raise -/
structure DmX (P : Program) (w : World) (K : Frag) (mg : Str → Option Value) (base : Heap) (C : Addr) (m : Str) (k : Nat) (sp : Sp) : Prop where
  ex : ∃ (f : Addr) (fd : FuncData) (ps : List Str), FnOk P w K mg base (L2.CX P w) k f fd ps sp ∧ Meth K C m f ∧ Binds K fd ps []
def zMeX0 (C : Addr) (S : SPX) (to : XT) : ZR := fun Γ P F => to Γ fun d => match d with
  | .slo C' fs => C' = C ∧ S.S [.im d] (fun r => P r Γ) fun C fs => F C fs Γ
  | _ => False
theorem methX0_lz {S : SPX} (σ : St) (H : Hp) (Q : VK) (h : LzR X.K W (zMeX0 C S to) σ H Q) : tMethL C (spX X.K S) (WE W) (Li X.K to) tNil σ H Q := by
  obtain ⟨H0, ps, hs, Γ, P, F, se, ht, k, xz⟩ := h
  refine ⟨H0, ps, hs, Γ, _, se, ht, fun d v H1 p e1 r => ?_⟩
  cases d with
  | slo C' fs =>
    obtain ⟨rfl, p⟩ := p
    obtain ⟨a, dx, vs, fvs, rfl, h1, hx, _⟩ := (RepW.im r).slots hid_ex
    refine ⟨a, dx, vs, rfl, slt_in (K := X.K) hid_ex h1 hx, ?_⟩
    exact ⟨hs ++ adr Γ, _, .cons (s := .im (.slo C' fs)) r rfl .nil, (se.mono e1).bs, S.mon _ _ _ _ _ (fun r hr v H' e3 ro => k r Γ v H' hr (se.mono (e1.trans e3)) (Km.ex (e1.trans e3)) (res_back e1 ro)) (fun C fs q d H' e3 xd => xz C fs Γ H' d q (se.mono (e1.trans e3)) (Km.ex (e1.trans e3)) xd) p⟩
  | _ => exact p.elim
theorem z_methX0 {S : SPX} {pl : Sem Bool} (tk : Takes X W) (c : SlX.SCls X.K C) (F : DmX X.prog X.w X.K X.mg X.base C m k (spX X.K S)) (hr : Room k X.A) (ho : PE X o (Li X.K to))
    (ht : eval (.Call (.Attribute o m apos) [] [] pos) X.env = (do
      let ov ← eval o X.env
      standAt apos.atName
      let (f, first) ← holding [ov] (getMethod ov m pl)
      callWith pos f first (backTo pos (starEach [] X.env)) (backToKw pos (keywordEach [] X.env))) := by rfl) : PE X (.Call (.Attribute o m apos) [] [] pos) (LzR X.K W (zMeX0 C S to)) := by
  obtain ⟨f, fd, ps, h1, h2, h3⟩ := F.ex
  exact pe_imp (pe_methL0 ho c h2 h1 hr h3 (fun σ => passAt tk σ) ht) methX0_lz
end
/-! ### isinstance of such an instance -/
def fIsL (K : Frag) (C : Addr) : F1 := fun ds P => match ds with
  | [.slo C' _, .raw (.ref T)] => C' = C ∧ ∃ b, PySem.W.kitOne K (.ref C) (.ref T) = some b ∧ P (.bl b)
  | [.slo C' _, .raw (.ty n)] => C' = C ∧ ∃ b, PySem.W.kitOne K (.ref C) (.type n) = some b ∧ P (.bl b)
  | _ => False
def rIsL (K : Frag) (C : Addr) : List V → Hp → VK → Prop := fun xs H Q => ∃ u, SlX.rIsiSl K u xs H Q
theorem cr_isL {X : Cx} {C : Addr} : CallR X (.builtin "isinstance") (rIsL X.K C) := fun pins s σ H xs us Q I r ⟨u, h⟩ => SlX.call_isiSl u pins s σ H xs us Q I r h
theorem does_isL {K : Frag} {C : Addr} (c : SlX.SCls K C) (ci : SlX.SIsi K C) : DoesC K (rIsL K C) (fIsL K C) := fun ms H xs ds P Q b rr h k => by
  unfold fIsL at h
  split at h
  · obtain ⟨rfl, z, h2, h3⟩ := h
    obtain ⟨v, w, rfl, r1, r2⟩ := rr.two
    obtain ⟨a, dx, vs, fvs, rfl, q1, hx, _⟩ := r1.slots hid_ex
    cases r2 with
    | im r2 =>
      cases r2
      exact ⟨_, a, _, dx, vs, _, z, rfl, rfl, fun w e => e, slt_in (K := K) hid_ex q1 hx, c, ci, h2, k _ _ H h3 (Same.refl H) (.bl _)⟩
  · obtain ⟨rfl, z, h2, h3⟩ := h
    obtain ⟨v, w, rfl, r1, r2⟩ := rr.two
    obtain ⟨a, dx, vs, fvs, rfl, q1, hx, _⟩ := r1.slots hid_ex
    cases r2 with
    | im r2 =>
      cases r2
      exact ⟨_, a, _, dx, vs, _, z, rfl, rfl, fun w e => e, slt_in (K := K) hid_ex q1 hx, c, ci, h2, k _ _ H h3 (Same.refl H) (.bl _)⟩
  · exact h.elim
section
variable {X : Cx}
theorem px_isL {e c : Expr} {p pos : Pos} {t u : XT} {C : Addr} (cl : SlX.SCls X.K C) (ci : SlX.SIsi X.K C) (hg : Gl X "isinstance") (hm : X.mg "isinstance" = none) (h : PE X e (Lb X.K t)) (hc : PE X c (Lb X.K u)) (he : starEach [e, c] X.env = (false, eval e X.env) :: starEach [c] X.env := by rfl)
    (he2 : starEach [c] X.env = (false, eval c X.env) :: starEach [] X.env := by rfl) (hpl : (backTo pos (starEach [c] X.env)).any (·.1) = false := by rfl) :
    PE X (.Call (.Name "isinstance" p) [e, c] [] pos) (Li X.K (xCall (fIsL X.K C) (aCons t (aCons u aNil)))) := px_callB cr_isL (does_isL cl ci) hg hm (by decide +kernel) (aw_cons h (aw_cons hc aw_nil he2) he) (by decide) (by decide) he hpl
/-! ### an own == -/
def fOwn (C : Addr) (S : SP) : F2 := fun d e P => match d, e with
  | .slo C1 f1, .slo C2 f2 => C1 = C ∧ C2 = C ∧ S.S [.bo (.slo C1 f1), .bo (.slo C2 f2)] fun r => P r.dat
  | _, _ => False
theorem does_own {K : Frag} {C : Addr} {S : SP} {E : XK} (nf : PySem.W.notFirst K C (.ref C) = true) : Does K (SlX.rOwn K C (spP K S) E) (fOwn C S) := fun ms H x y d e P Q b rx ry h k => by
  unfold fOwn at h
  split at h
  · obtain ⟨rfl, rfl, h⟩ := h
    obtain ⟨a, dx, vs, fvs, rfl, q1, hx, _⟩ := rx.slots hid_ex
    obtain ⟨a2, dx2, vs2, fvs2, rfl, q2, hx2, _⟩ := ry.slots hid_ex
    refine ⟨a, dx, vs, a2, _, dx2, vs2, rfl, rfl, slt_in (K := K) hid_ex q1 hx, slt_in (K := K) hid_ex q2 hx2, nf, ms, _, .cons (s := .bo _) rx rfl (.cons (s := .bo _) ry rfl .nil), b, S.mon _ _ _ (fun r hr v H' e3 ro => k _ v H' hr e3 (res_dat b.fresh ro)) h⟩
  · exact h.elim
structure DmE (P : Program) (w : World) (K : Frag) (mg : Str → Option Value) (base : Heap) (C : Addr) (k : Nat) (S : SP) : Prop where
  ex : ∃ (f : Addr) (fd : FuncData) (ps : List Str), FnOk P w K mg base CX0 k f fd ps (spP K S) ∧ PySem.W.findIn K (.ref C) "__eq__" = some (some (.ref f)) ∧ PySem.W.isFn K (.ref f) = true ∧ Binds K fd ps [] ∧ PySem.W.notFirst K C (.ref C) = true
theorem op_eqO {C : Addr} {k : Nat} {S : SP} (F : DmE X.prog X.w X.K X.mg X.base C k S) (hr : Room k X.A) : OpR X (compareOp .Eq) (SlX.rOwn X.K C (spP X.K S) fun _ _ _ => False) := by
  obtain ⟨f, fd, ps, h1, h2, h3, h4, _⟩ := F.ex
  have R : FnR X.prog X.w X.K X.mg X.base CX0 k f (spP X.K S) := (FnOk.raw h1 h4 .nil).imp fun vs H Q E z => by rw [List.append_nil]; exact z
  exact SlX.op_own (fun _ _ => rfl) h2 h3 R hr pass0
theorem px_eqO {a b : Expr} {pos : Pos} {ta tb : XT} {C : Addr} {k : Nat} {S : SP} (F : DmE X.prog X.w X.K X.mg X.base C k S) (hr : Room k X.A) (ha : PE X a (Lb X.K ta)) (hb : PE X b (Lb X.K tb)) : PE X (.Compare a [.Eq] [b] pos) (Li X.K (x2 (fOwn C S) ta tb)) := by
  obtain ⟨_, _, _, _, _, _, _, nf⟩ := F.ex
  exact px_cmp (op_eqO F hr) (does_own nf) ha hb
end
end Kb
set_option Elab.async false
set_option linter.all false
set_option maxRecDepth 100000
set_option maxHeartbeats 1000000
/-! Kb26: sorted(xs, key=f), f a def. -/
namespace Kb
open PySem L2
open PyProof.Rows hiding St
set_option autoImplicit false
section
variable {X : Cx} {pins : List (Addr × Obj)} {σ : St} {H : Hp} {s : Shared}
/-- an object laid behind the call's beginning, none of the frame's -/
structure Far (X : Cx) (pins : List (Addr × Obj)) (a : Addr) : Prop where
  s0 : X.s_0.heap.objs.size ≤ a
  loc : a ≠ X.env.locals
  cell : ∀ x c, X.env.cells.lookup x = some c → c ≠ a
  pin : ∀ p ∈ X.pn ++ pins, p.1 ≠ a
  fs : a ∉ X.fs
theorem far_of (I : Inv X pins σ H s) {a : Addr} (h : s.heap.objs.size ≤ a) : Far X pins a := by
  refine ⟨Nat.le_trans I.sz h, Nat.ne_of_gt (Nat.lt_of_lt_of_le I.lt h), fun x c e z => ?_, fun p hp z => ?_, I.nofs h⟩
  · obtain ⟨v, o, ho, _⟩ := I.cell x c e
    exact absurd h (Nat.not_le_of_lt (by rw [← z]; exact Heap.lt_size ho))
  · exact absurd h (Nat.not_le_of_lt (by rw [← z]; exact Heap.lt_size (I.pin p hp).1))
theorem Far.stk (I : Inv X pins σ H s) {a : Addr} (f : Far X pins a) : a ∉ frs X.stack := fun m => (List.mem_cons.mp (I.stkSub a m)).elim f.loc f.fs
/-- the news but two -/
def newsB (g h : Heap) (L a b : Addr) : List (Addr × Obj) := (allNews g h L).filter fun p => decide (p.1 ≠ a) && decide (p.1 ≠ b)
theorem inv_sorted {a b : Addr} {vs : List V} {out : List Value} {c : Nat} {h' : Heap} {t' : Nat} {m : Str → Option Value} (I : Inv X pins σ H s) (ha : H a = none) (hb : H b = none) (fa : Far X pins a) (fb : Far X pins b)
    (F0 : Fr X.base X.env.locals s.heap m) (F : Fr X.base X.env.locals h' m) (N : News X.base X.env.locals h' ((a, seqObj "list" out.toArray c) :: newsB X.base s.heap X.env.locals a b)) (r : Vals vs out) (hz : vs.length ≤ sizeLine) : Inv X pins σ (upd H a (.lst vs)) { s with heap := h', toks := t' } := by
  have k : ∀ d o, d ≠ X.env.locals → d ≠ a → d ≠ b → s.heap.get? d = some o → h'.get? d = some o := fun d o h1 h2 h3 e => by
    cases q : X.base.get? d with
    | some o' =>
      have z := I.bk d o' q
      rw [e] at z
      cases z
      exact F.keep d o q
    | none => exact (N (d, o) (.tail _ (List.mem_filter.mpr ⟨mem_allNews h1 q e, by simp [h2, h3]⟩))).1
  have na : h'.get? a = some (seqObj "list" out.toArray c) := (N _ (.head _)).1
  have nL : ∀ d u, H d = some u → d ≠ X.env.locals ∧ d ≠ a ∧ d ≠ b := fun d u z => ⟨fun e => (by rw [e, I.free] at z; cases z), ne_of_none z ha, ne_of_none z hb⟩
  have other : ∀ d u, H d = some u → upd H a (.lst vs) d = some u := fun d u z => by rw [upd_ne (nL d u z).2.1]; exact z
  have two : ∀ d, d ∉ [a, b] → d ≠ a ∧ d ≠ b := fun d h => ⟨fun z => h (by simp [z]), fun z => h (by simp [z])⟩
  refine I.step (g' := s.gens) (d' := s.drawn) (ch := [a, b]) (fun d hd => ?_) (fun d o h1 _ h3 e z => k d o h1 (two d h3).1 (two d h3).2 e) (fun d o h1 _ h3 e z => ⟨o.slots, k d o h1 (two d h3).1 (two d h3).2 e⟩) (fun d o h3 e z => by rw [upd_ne (two d h3).1]; exact z) (fun d o h3 e => ?_)
    (fun d zs e => other d _ e) (fun d o u e => other d _ e) (fun d ps e => ⟨#[], by rw [other d _ e]; simp⟩) (fun m' hm => ?_) (fun d u e => ?_) I.bare
  · have e : d = a ∨ d = b := by simpa using hd
    rcases e with rfl | rfl
    · exact ⟨.inr fa.s0, fa.loc, fa.cell, fa.pin⟩
    · exact ⟨.inr fb.s0, fb.loc, fb.cell, fb.pin⟩
  · by_cases h1 : d = X.env.locals
    · obtain ⟨o', _, _, e', _⟩ := F.ns
      exact ⟨o', by rw [h1]; exact e'⟩
    · exact ⟨o, k d o h1 (two d h3).1 (two d h3).2 e⟩
  · rw [SlX.ns_only hm F0.ns]
    exact F.ns
  · by_cases h2 : d = a
    · subst h2
      rw [upd_same] at e
      cases e
      exact ⟨hz, out, c, r, na⟩
    · rw [upd_ne h2] at e
      refine (I.hok d u e).stay (fun c' v hc q => ?_) (fun c' z => other c' _ z) fun c' zs z => other c' _ z
      rcases hc with rfl | hc
      · exact k _ v (nL _ _ e).1 (nL _ _ e).2.1 (nL _ _ e).2.2 q
      · exact k _ v (nL _ _ hc).1 (nL _ _ hc).2.1 (nL _ _ hc).2.2 q
/-- one turn of key= -/
theorem key_turn {k : Nat} {f : Addr} {fd : FuncData} {ps : List Str} {S : SP} (F : FnOk X.prog X.w X.K X.mg X.base CX0 k f fd ps (spP X.K S)) (hb : Binds X.K fd ps []) (hr : Room (k + 2) X.A) (I : Inv X pins σ H s) {ms : List Addr} {v : V} {u : Value} {d e : D} (ru : RelV v u)
    (hB : Bs ms H) (hrep : Rep X.K (hid ms H) v d) (hS : S.S [.im d] fun r => r.dat = e) {Q : Value → Shared → Prop} {E : Value → Shared → Prop}
    (q : ∀ z zv s' H', Inv X pins σ H' s' → RelV z zv → Ex H H' → Rep X.K (hid ms H') z e → (∀ b o, Far X pins b → s.heap.get? b = some o → H b = none → s'.heap.get? b = some o ∧ H' b = none) → Q zv s') :
    wpAny (model X.prog X.w) X.A.in1.in1 (call (.ref f) [u]) Q E s := by
  have r1 : Vals [v] [u] := .cons ru .nil
  have sp1 : spP X.K S [v] H (fun z H' => Ex H H' ∧ Rep X.K (hid ms H') z e) (fun _ _ _ => False) := ⟨ms, [.im d], .cons (s := .im d) hrep rfl .nil, hB, S.mon _ _ _ (fun r hr z H' e3 ro => ⟨e3, by
    have w := res_dat hB.fresh ro
    rw [hr] at w
    exact w⟩) hS⟩
  have hlen : ([u] : List Value).length = ps.length := by rw [← r1.length]; exact F.len _ _ _ _ sp1
  have bd := hb s [u] I.kIn (by rw [List.append_nil]; exact hlen)
  rw [List.append_nil] at bd
  refine wpAny_call (codeAny_mono (F.run X.A.in1.in1 X.stack s H ⟨[u], []⟩ [u] [v] _ (fun _ _ _ => False) hr.in1.in1 I.env0.in1.in1 bd r1 sp1) fun res s' hq => ?_)
  match res, hq with
  | .error e, hq => exact (hq : False).elim
  | .ok (.ret zv), hq =>
    obtain ⟨z, H', ho, hg, un, hok, rz, ex, rp⟩ := hq
    obtain ⟨z2, H2, I2, rz2, e1, e2⟩ := I.after (Q := fun a b => a = z ∧ b = H') ⟨z, H', ho, hg, un, hok, rz, rfl, rfl⟩
    subst e1 e2
    exact q z2 zv s' H2 I2 rz ex rp fun b o fb hb hn => ⟨un.keep b o hb hn (fb.stk I) (by simp), un.free b o hb hn (by simp)⟩
  | .ok .next, hq => exact False.elim hq
  | .ok .brk, hq => exact False.elim hq
  | .ok .cont, hq => exact False.elim hq
theorem ex_turn {a : Addr} {o : Obj} {f : Array Value → Array Value} {t' : Nat} (I : Inv X pins σ H s) (fa : Far X pins a) (hn : H a = none) : Inv X pins σ H { s with heap := s.heap.update a (Obj.mapSeq f), toks := t' } :=
  I.turned (fun b o hb e => (Heap.get?_update_other _ _ (Ne.symm hb)).trans e) hn fa.loc (.inr fa.s0) fa.cell fa.pin
theorem run_rest {k : Nat} {f : Addr} {fd : FuncData} {ps : List Str} {S : SP} (F : FnOk X.prog X.w X.K X.mg X.base CX0 k f fd ps (spP X.K S)) (hb : Binds X.K fd ps []) (hr : Room (k + 2) X.A) {ms : List Addr} {bs : List (V × D)} {its : List Value} {kd : D → D} {a kS : Addr} {e1 : Nat} {P : PySem.Fin → Shared → Prop} {E : Value → Shared → Prop}
    (I : Inv X pins σ H s) (fa : Far X pins a) (fk : Far X pins kS) (ne : kS ≠ a) (ha : s.heap.get? a = some (seqObj "list" #[] e1)) (hk : s.heap.get? kS = some (seqObj "list" #[] 0)) (na : H a = none) (nk : H kS = none)
    (rv : Vals (bs.map (·.1)) its) (hz : its.length ≤ sizeLine) (hB : Bs ms H) (hrep : ∀ b ∈ bs, Rep X.K (hid ms H) b.1 b.2) (hkd : ∀ b ∈ bs, (S.S [.im b.2] fun r => r.dat = kd b.2) ∧ (kd b.2).sh 60 = true) (hal : PySem.W.AllAlike (bs.map fun b => (kd b.2).py)) (hsb : PySem.W.Sortable (bs.map fun b => (kd b.2).py))
    (q : ∀ s' H', Inv X pins σ H' s' → Ex H H' → H' a = some (.lst ((bs.mergeSort fun p q => leD (kd p.2) (kd q.2)).map (·.1))) → P (.done (.ret .none)) s') :
    wpAny (model X.prog X.w) X.A.in1.in1 (ksk_rest a (.ref f) false its.toArray e1 (.ref kS)) P E s := by
  have hlen : its.length = bs.length := by
    have z := rv.length
    rw [List.length_map] at z
    exact z.symm
  unfold ksk_rest
  refine wpAny_bind (wpAny_rule ?_)
  rw [List.forIn_toArray]
  refine wpAny_bind (ksk_fold (fun i s' => ∃ (Hi : Hp) (kA : Array Value) (n : Nat) (ks : List V), Inv X pins σ Hi s' ∧ Ex H Hi ∧ Hi a = none ∧ Hi kS = none ∧ s'.heap.get? a = some (seqObj "list" #[] e1) ∧ s'.heap.get? kS = some (seqObj "list" kA n) ∧ Vals ks kA.toList ∧
      Reps X.K (hid ms Hi) ks ((bs.take i).map fun b => kd b.2)) its 0 s ⟨H, #[], 0, [], I, Same.refl H, na, nk, ha, hk, .nil, by rw [List.take_zero]; exact .nil⟩ ?step ?done)
  case step =>
    rintro j u s' hu ⟨Hi, kA, n, ks, Ii, ex, na', nk', ha', hk', rk, rr⟩
    simp only [Nat.zero_add] at rr ⊢
    have hj : j < its.length := (List.getElem?_eq_some_iff.mp hu).1
    have hjb : j < bs.length := by omega
    have hbj : bs[j]? = some bs[j] := List.getElem?_eq_getElem hjb
    have mem : bs[j] ∈ bs := List.getElem_mem hjb
    have ru : RelV bs[j].1 u := by
      have hv : (bs.map (·.1))[j]? = some bs[j].1 := by rw [List.getElem?_map, hbj]; rfl
      obtain ⟨u', h1, h2⟩ := rv.get hv
      rw [hu] at h1
      cases h1
      exact h2
    have hks : kA.size = j := by
      have h1 : ks.length = kA.size := by rw [rk.length]; simp
      have h2 := rr.length
      rw [List.length_map, List.length_take] at h2
      omega
    refine wpAny_bind (wpAny_attempt (key_turn F hb hr Ii ru (hB.mono ex) ((hrep _ mem).mono (hid_ex2 ex)) (hkd _ mem).1 fun z zv s2 H2 I2 rz ex2 rp far => ?_))
    obtain ⟨ha2, na2⟩ := far a _ fa ha' na'
    obtain ⟨hk2, nk2⟩ := far kS _ fk hk' nk'
    try dsimp only
    have hz1 : kA.size ≤ sizeLine := by omega
    refine wpAny_bind (listUpdate_at hk2 rfl ?_ hz1 (Nat.le_trans (Nat.le_of_eq (Array.size_push ..)) (Nat.succ_le_succ hz1)))
    refine wpAny_pure ⟨rfl, H2, kA.push zv, _, ks ++ [z], ex_turn (o := seqObj "list" kA n) (t' := s2.toks) I2 fk nk2, ex.trans ex2, na2, nk2, ?_, get?_update_seq hk2 (·.push zv), ?_, ?_⟩
    · exact (Heap.get?_update_other _ _ ne).trans ha2
    · have e : (kA.push zv).toList = kA.toList ++ [zv] := by simp
      rw [e]
      exact rk.append (.cons rz .nil)
    · have e : (bs.take (j + 1)).map (fun b => kd b.2) = (bs.take j).map (fun b => kd b.2) ++ [kd bs[j].2] := by
        rw [List.take_add_one, hbj, List.map_append]
        rfl
      rw [e]
      exact (rr.mono (hid_ex2 ex2)).append (.one rp)
  case done =>
    rintro s' ⟨Hi, kA, n, ks, Ii, ex, na', nk', ha', hk', rk, rr⟩
    have et : bs.take (0 + its.length) = bs := List.take_of_length_le (by omega)
    rw [et] at rr
    obtain ⟨m, F0⟩ := Ii.fr
    obtain ⟨z1, z2, z3⟩ := reps_zip rr
    have hsh : ∀ p ∈ ks.zip (bs.map fun b => kd b.2), p.2.sh 60 = true := fun p hp => by
      have m2 : p.2 ∈ bs.map fun b => kd b.2 := by rw [← z2]; exact List.mem_map_of_mem hp
      obtain ⟨b, hb1, hb2⟩ := List.mem_map.mp m2
      rw [← hb2]
      exact (hkd b hb1).2
    have e0 : PySem.W.EachIs (fun (u : Value) (c : V × D) => ∃ as, Reads s'.heap u c.2.py as) kA.toList (ks.zip (bs.map fun b => kd b.2)) :=
      each_of (S := fun c : V × D => Rep X.K Hi c.1 c.2 ∧ c.2.sh 60 = true) (f := fun c : V × D => c.1) (g := RelV) (fun c u z ru => Dp.reads Ii _ _ _ (rep_dp 60 _ _ z.2 z.1) ru) (fun c hc => ⟨(z3 c hc).mono hid_ex, hsh c hc⟩) (by rw [z1]; exact rk)
    have e2 : PySem.W.EachIs (fun v d => ∃ as, Reads s'.heap v d as) kA.toList (bs.map fun b => (kd b.2).py) := by
      have z := PySem.W.each_map (R := fun v d => ∃ as, Reads s'.heap v d as) (fun c : V × D => c.2.py) e0
      have w : (ks.zip (bs.map fun b => kd b.2)).map (fun c : V × D => c.2.py) = bs.map fun b => (kd b.2).py := by
        have w2 := congrArg (List.map D.py) z2
        rw [List.map_map, List.map_map] at w2
        exact w2
      rw [w] at z
      exact z
    have hsz : kA.size = its.length := by
      have h1 := e2.length
      rw [Array.length_toList, List.length_map] at h1
      omega
    have hu : ∀ d, d ∈ (bs.map fun b => (kd b.2).py) → X.A.in1.in1.units + d.depth < cLine := fun d hd => by
      obtain ⟨b, hb1, rfl⟩ := List.mem_map.mp hd
      have z := (sh_lay 60 _ (hkd b hb1).2).2
      have := hr.in1.in1.units
      omega
    have hb0 : ∀ c, X.s_0.heap.objs.size ≤ c → X.base.get? c = none := fun c hc => Heap.get?_none_of_le (Nat.le_trans Ii.ok.bsz hc)
    try dsimp only
    refine wpAny_bind (listItems_at hk' rfl ?_)
    refine PySem.W.key_end (e := n) (news := newsB X.base s'.heap X.env.locals a kS) F0 (fun p hp => ?_) ne (fun p hp => ?_) (fun p hp => ?_) (PySem.W.SortsAt.data e2 hal hsb hu) hsz hz fun h' tk c F' N' => ?_
    · rcases List.mem_append.mp hp with hp | hp
      · exact news_all p (List.mem_filter.mp hp).1
      · rcases List.mem_cons.mp hp with rfl | hp
        · exact ⟨hk', fk.loc, hb0 _ fk.s0⟩
        · rw [List.mem_singleton.mp hp]
          exact ⟨ha', fa.loc, hb0 _ fa.s0⟩
    · have z := (List.mem_filter.mp hp).2
      simp only [Bool.and_eq_true, decide_eq_true_eq] at z
      exact z.2
    · have z := (List.mem_filter.mp hp).2
      simp only [Bool.and_eq_true, decide_eq_true_eq] at z
      exact z.1
    · have e1 : PySem.W.EachIs (fun (u : Value) (b : V × D) => RelV b.1 u) its bs := each_of (S := fun _ => True) (f := fun b : V × D => b.1) (g := RelV) (fun b u _ z => z) (fun _ _ => trivial) rv
      have ko := PySem.W.keyedOut_each (rev := false) (fun b : V × D => (kd b.2).py) ⟨s'.heap, kA.toList, hal, rfl, e2⟩ e1
      have rv2 := paired_of (f := fun b : V × D => b.1) (g := RelV) (fun b u z => z) ko
      have J := inv_sorted (t' := tk) Ii na' nk' fa fk F0 F' N' rv2 (by rw [List.length_map, List.length_mergeSort]; omega)
      exact q _ _ J (ex.trans (Ex.new na')) upd_same
theorem run_body {k : Nat} {f : Addr} {fd : FuncData} {ps : List Str} {S : SP} (F : FnOk X.prog X.w X.K X.mg X.base CX0 k f fd ps (spP X.K S)) (hb : Binds X.K fd ps []) (hr : Room (k + 2) X.A) (I : Inv X pins σ H s) {ms : List Addr} {bs : List (V × D)} {its : List Value} {kd : D → D} {Q : VK} {E : Value → Shared → Prop}
    (rv : Vals (bs.map (·.1)) its) (hzi : its.length ≤ sizeLine) (hB : Bs ms H) (hrep : ∀ b ∈ bs, Rep X.K (hid ms H) b.1 b.2) (hkd : ∀ b ∈ bs, (S.S [.im b.2] fun r => r.dat = kd b.2) ∧ (kd b.2).sh 60 = true) (hal : PySem.W.AllAlike (bs.map fun b => (kd b.2).py)) (hsb : PySem.W.Sortable (bs.map fun b => (kd b.2).py))
    (q : ∀ p H', H p = none → Ex H H' → H' p = some (.lst ((bs.mergeSort fun p q => leD (kd p.2) (kd q.2)).map (·.1))) → Q (.ref p) H') :
    wpAny (model X.prog X.w) X.A.in1.in1 (Builtin.«list.sort» ⟨[.ref (s.heap.objs.size + 1)], [(Str.ofString "key", .ref f)]⟩) (fun r s' => r = .done (.ret .none) ∧ EP X pins σ Q (.ref (s.heap.objs.size + 1)) s') E { s with heap := PySem.W.copyHeap s.heap its } := by
  rw [ksk_t1]
  have nD : H (s.heap.objs.size + 1) = none := I.hok.fresh (Nat.le_succ _)
  have fD : Far X pins (s.heap.objs.size + 1) := far_of I (Nat.le_succ _)
  have I1 : Inv X pins σ H { s with heap := PySem.W.copyHeap s.heap its, toks := s.toks } := I.kept fun _ _ => PySem.W.copyHeap_old
  have hoD := PySem.W.copyHeap_at s.heap its
  generalize s.heap.objs.size + 1 = D at nD fD hoD ⊢
  unfold ksk_tree
  refine wpAny_bind (listItems_at hoD rfl ?_)
  refine wpAny_bind (listUpdate_at hoD rfl ?_ (by rw [List.size_toArray]; exact hzi) (Nat.zero_le _))
  have I2 := ex_turn (o := seqObj "list" its.toArray 0) (f := fun _ => (#[] : Array Value)) (t' := s.toks) I1 fD nD
  obtain ⟨e1, ho1⟩ : ∃ e1, ((PySem.W.copyHeap s.heap its).update D (Obj.mapSeq fun _ => (#[] : Array Value))).get? D = some (seqObj "list" #[] e1) := ⟨_, get?_update_seq hoD fun _ => #[]⟩
  refine wpAny_bind (seqEpoch_at ho1 rfl ?_)
  refine wpAny_bind (wpAny_newTuple ?_ (by rw [List.toList_toArray]; exact hzi))
  refine wpAny_bind (wpAny_newList ?_ (Nat.zero_le _))
  refine wpAny_holding ?_
  have I3 := I2.kept (t' := s.toks) (h' := ((PySem.W.copyHeap s.heap its).update D (Obj.mapSeq fun _ => #[])).push { cls := .type "tuple", data := .seq its.toArray.toList.toArray }) fun _ _ e => Heap.get?_push_of_some _ e
  have fK := far_of I3 (Nat.le_refl _)
  have nK := I3.fresh
  have I4 := I3.kept (t' := s.toks) (h' := (((PySem.W.copyHeap s.heap its).update D (Obj.mapSeq fun _ => #[])).push { cls := .type "tuple", data := .seq its.toArray.toList.toArray }).push { cls := .type "list", data := .seq #[] }) fun _ _ e => Heap.get?_push_of_some _ e
  have ltD : D < (((PySem.W.copyHeap s.heap its).update D (Obj.mapSeq fun _ => #[])).push { cls := .type "tuple", data := .seq its.toArray.toList.toArray }).objs.size := Heap.lt_size (Heap.get?_push_of_some _ ho1)
  exact run_rest F hb hr I4 fD fK (Nat.ne_of_gt ltD) (Heap.get?_push_of_some _ (Heap.get?_push_of_some _ ho1)) (Heap.get?_push_size _ rfl) nD nK rv hzi hB hrep hkd hal hsb fun s' H' J ex hp => ⟨rfl, .ref D, H', J, rfl, q D H' nD ex hp⟩
end
def rSrtK (K : Frag) (S : SP) (f : Addr) : List V → List V → Hp → VK → Prop := fun xs zs H Q => ∃ (l : Addr) (ms : List Addr) (bs : List (V × D)) (kd : D → D), xs = [.ref l] ∧ zs = [.ref f] ∧ (SqL K H l (bs.map (·.1)) ∨ SqT K H l (bs.map (·.1))) ∧ Bs ms H ∧ (∀ b ∈ bs, Rep K (hid ms H) b.1 b.2) ∧
  (∀ b ∈ bs, (S.S [.im b.2] fun r => r.dat = kd b.2) ∧ (kd b.2).sh 60 = true) ∧ alkD (bs.map fun b => kd b.2) ∧ ∀ p H', H p = none → Ex H H' → H' p = some (.lst ((bs.mergeSort fun p q => leD (kd p.2) (kd q.2)).map (·.1))) → Q (.ref p) H'
theorem cr_srtK {X : Cx} {k : Nat} {f : Addr} {fd : FuncData} {ps : List Str} {S : SP} (F : FnOk X.prog X.w X.K X.mg X.base CX0 k f fd ps (spP X.K S)) (hb : Binds X.K fd ps []) (hr : Room (k + 2) X.A) : CallRK X (.builtin "sorted") [Str.ofString "key"] (rSrtK X.K S f) := by
  intro pins s σ H xs zs us ws Q I r1 r2 h
  obtain ⟨l, ms, bs, kd, rfl, rfl, hl, hB, hrep, hkd, hak, q⟩ := h
  rw [Vals.ref1 r1, Vals.ref1 r2]
  have hal : PySem.W.AllAlike (bs.map fun b => (kd b.2).py) := by
    have z := hak.1
    rw [List.map_map] at z
    exact z
  have hsb : PySem.W.Sortable (bs.map fun b => (kd b.2).py) := by
    have z := hak.2
    rw [List.map_map] at z
    exact z
  rcases hl with hl | hl
  · obtain ⟨its, rv, hl', hz⟩ := I.list hl
    have hzi : its.length ≤ sizeLine := by rw [← rv.length]; exact hz
    exact PySem.W.sorted_of_sort hl'.isList hzi (ksk_s1 _ _) (fun _ => ksk_l1 _ _) fun E' => run_body F hb hr I rv hzi hB hrep hkd hal hsb q
  · obtain ⟨its, rv, hl', hz⟩ := I.tuple hl
    have hzi : its.length ≤ sizeLine := by rw [← rv.length]; exact hz
    exact kb_sorted_tup hl' hzi (ksk_s1 _ _) (fun _ => ksk_l1 _ _) fun E' => run_body F hb hr I rv hzi hB hrep hkd hal hsb q
/-- sorted(e, key=f) -/
def srtKB (S : SP) (P : List D → Prop) (d : D) : Prop := match d with
  | .lst xs => ∃ kd : D → D, (∀ x ∈ xs, (S.S [.im x] fun r => r.dat = kd x) ∧ (kd x).sh 60 = true) ∧ alkD (xs.map kd) ∧ P (xs.mergeSort fun a b => leD (kd a) (kd b))
  | .tup xs => ∃ kd : D → D, (∀ x ∈ xs, (S.S [.im x] fun r => r.dat = kd x) ∧ (kd x).sh 60 = true) ∧ alkD (xs.map kd) ∧ P (xs.mergeSort fun a b => leD (kd a) (kd b))
  | _ => False
def srtKL (S : SP) (P : List D → Prop) (ds : List D) : Prop := match ds with
  | [d] => srtKB S P d
  | _ => False
def fSortK (S : SP) (t : XT) : FT := fun Γ P => t Γ (srtKB S P)
theorem fx_sortK {X : Cx} {k : Nat} {S : SP} {e : Expr} {x : Str} {p pos kpos npos : Pos} {t : XT} (D0 : Df X.prog X.w X.K X.mg X.base x k (spP X.K S)) (hr : Room (k + 2) X.A) (hg : Gl X "sorted") (hm : X.mg "sorted" = none) (hgx : Gl X x) (h : PE X e (Lb X.K t)) (hdx : (x == ("__debug__" : Str)) = false := by decide)
    (he : starEach [e] X.env = (false, eval e X.env) :: starEach [] X.env := by rfl)
    (he2 : backTo pos (starEach [e] X.env) = (false, eval e X.env) :: backTo pos (starEach [] X.env) := by rfl) (hpl : (backTo pos (starEach [e] X.env)).any (·.1) = false := by rfl)
    (hall : (backToKw pos (keywordEach [⟨some "key", .Name x npos, kpos⟩] X.env)).all (·.1.isSome) = true := by rfl) (hnone : (backToKw pos (keywordEach [⟨some "key", .Name x npos, kpos⟩] X.env)).any (·.1.isNone) = false := by rfl) (hks : (backToKw pos (keywordEach [⟨some "key", .Name x npos, kpos⟩] X.env)).filterMap (·.1) = [Str.ofString "key"] := by rfl) :
    PE X (.Call (.Name "sorted" p) [e] [⟨some "key", .Name x npos, kpos⟩] pos) (Lf X.K (fSortK S t)) := by
  obtain ⟨f, fd, ps, h1, h2, h3, h4⟩ := D0.ex
  refine pe_imp (pe_callBK (cr_srtK h1 h4 hr) hg hm (by decide +kernel) (aw_cons h aw_nil he) (kx_i (px_glob hgx h2 (v := .ref f) rfl hdx) kx_nil) (by decide) (by decide) he2 hpl hall hnone hks) fun σ H Q h => ?_
  obtain ⟨H0, qs, hs, Γ, P, se, ht, k⟩ := h
  refine ⟨H0, qs, hs, Γ, srtKL S P, se, ht, fun ds vs H1 p e1 r1 => ?_⟩
  unfold srtKL at p
  split at p
  case h_2 => exact p.elim
  rename_i d
  refine ⟨H0, qs, hs, Γ, fun as => as = [.im (.raw (.ref f))], se.mono e1, rfl, fun as zs H2 hz e2 ar => ?_⟩
  subst hz
  have ez : zs = [.ref f] := by
    obtain ⟨v, hv, ok, _⟩ := ar.ok 0 _ rfl
    have hl := ar.len
    cases zs with
    | nil => cases hv
    | cons z r =>
      cases r with
      | nil =>
        have e : z = v := Option.some.inj hv
        have ok' : Rep X.K (hid (hs ++ adr Γ) H2) v (.raw (.ref f)) := ok
        cases ok'
        rw [e]
      | cons z2 r2 => simp at hl
  subst ez
  obtain ⟨v, hv, rv⟩ := r1.one
  subst hv
  have se2 := (se.mono e1).mono e2
  have rv2 : RepW X.K (hid (hs ++ adr Γ) H2) H2 v _ := rv.mono (hid_ex2 e2) e2
  have fin : ∀ (a : Addr) (ws : List V) (xs : List D), v = .ref a → (SqL X.K H2 a ws ∨ SqT X.K H2 a ws) → Reps X.K (hid (hs ++ adr Γ) H2) ws xs → (∃ kd : D → D, (∀ x ∈ xs, (S.S [.im x] fun r => r.dat = kd x) ∧ (kd x).sh 60 = true) ∧ alkD (xs.map kd) ∧ P (xs.mergeSort fun a b => leD (kd a) (kd b))) → rSrtK X.K S f [v] [.ref f] H2 Q := by
    rintro a ws xs rfl hq hR ⟨kd, k1, k2, k3⟩
    obtain ⟨z1, z2, z3⟩ := reps_zip hR
    refine ⟨a, hs ++ adr Γ, ws.zip xs, kd, rfl, rfl, by rw [z1]; exact hq, se2.bs, z3, fun b hb => k1 _ (by rw [← z2]; exact List.mem_map_of_mem hb), ?_, fun q H' nq ex hp => ?_⟩
    · have w2 := congrArg (List.map kd) z2
      rw [List.map_map] at w2
      have w3 : (ws.zip xs).map (fun b => kd b.2) = xs.map kd := w2
      rw [w3]
      exact k2
    · have m1 : ((ws.zip xs).mergeSort fun p q => leD (kd p.2) (kd q.2)).map (·.2) = xs.mergeSort fun a b => leD (kd a) (kd b) := by
        rw [PySem.W.sort_maps (s := fun a b => leD (kd a) (kd b)) (fun p : V × D => p.2) (fun _ _ _ _ => rfl), z2]
      have e3 := reps_of (K := X.K) (B := hid (hs ++ adr Γ) H2) ((ws.zip xs).mergeSort fun p q => leD (kd p.2) (kd q.2)) fun p m => z3 p ((List.mergeSort_perm _ _).mem_iff.mp m)
      rw [m1] at e3
      exact k _ q _ H' k3 (fresh_of (e1.trans e2) nq) ((e1.trans e2).trans ex) hp (e3.mono (hid_fresh nq ex))
  cases d with
  | lst xs =>
    obtain ⟨a, ws, e, h5, h6⟩ := rv2.list hid_ex
    exact fin a ws xs e (.inl (SqL.of h5)) h6 p
  | tup xs =>
    obtain ⟨a, ws, e, h5, h6⟩ := rv2.tuple hid_ex
    exact fin a ws xs e (.inr h5) h6 p
  | _ => exact p.elim
end Kb
set_option Elab.async false
set_option linter.all false
set_option maxRecDepth 100000
set_option maxHeartbeats 1000000
/-! Kb27: extend, pop, max, min, sum, tuples of ints compared. -/
namespace Kb
open PySem L2
open PyProof.Rows hiding St
set_option autoImplicit false
section
variable {X : Cx} {W : WX}
/-! ### xs.extend(e), e a new list -/
def sExt (i : Nat) (t : FT) : ST := fun E Γ => match Γ[i]? with
  | some (some (.ml l ds)) => t Γ fun es => ds.length + es.length ≤ sizeLine ∧ E.nx (Γ.set i (some (.ml l (ds ++ es))))
  | _ => False
theorem s_ext (i : Nat) {x : Str} {e : Expr} {t : FT} {npos apos cpos pos : Pos} (he : PE X e (Lf X.K t)) (hN : X.N[i]? = some x := by rfl) (hv : Vis X.env.scope x := by first | exact Or.inl rfl | exact Or.inr (Or.inl rfl) | exact Or.inr (Or.inr rfl)) (hd : (x == ("__debug__" : Str)) = false := by decide) (hcd : (x == ("__classdict__" : Str)) = false := by decide)
    (hbase : attributeBase (.Name x npos) "extend" X.env (eval (.Name x npos) X.env) = eval (.Name x npos) X.env := by rfl)
    (hfew : ((backTo cpos (starEach [e] X.env)).all (fun x => !x.1) && (backToKw cpos (keywordEach [] X.env)).all (fun x => x.1.isSome)
      && decide ([e].length + ([] : List Keyword).length + (if ([] : List Keyword).isEmpty then 0 else 1) < 30)) = true := by rfl)
    (hline : (apos.endLine == cpos.line) = true := by rfl) (hs : starEach [e] X.env = (false, eval e X.env) :: starEach [] X.env := by rfl) (hplain : (backTo cpos (starEach [] X.env)).any (·.1) = false := by rfl)
    (hsw : swapsWith (.Call (.Attribute (.Name x npos) "extend" apos) [e] [] cpos) none pos.line X.env = pure false := by rfl) :
    PS X (.Expr (.Call (.Attribute (.Name x npos) "extend" apos) [e] [] cpos) pos) (Ls X.K W (sExt i t)) :=
  ps_imp (ps_expr (pe_bm PySem.F.plainAttrs_list PySem.F.slot_list_extend PySem.F.type_list_extend mt_extend (pe_var hN hv hd hcd) (pa_cons he pa_nil hs) hbase hfew hline hs hplain) hsw) fun D σ H ⟨H0, ps, hs, Γ, E, se, ht, r⟩ => by
    unfold sExt at ht
    split at ht
    · rename_i l ds e
      obtain ⟨v, h1, rfl, vs, h2, h3⟩ := se.ok i _ e
      refine ⟨_, h1, .inl ⟨rfl, _, SqL.of h2⟩, H0, ps, hs, Γ, _, se, ht, fun es q ws H2 p nq e2 hq rr => ?_⟩
      have h2' := e2 _ _ h2
      have hl : l ∈ adr Γ := mem_adr.mpr ⟨i, _, e, rfl⟩
      obtain ⟨se', ha⟩ := (se.mono e2).write (s' := .ml l (ds ++ es)) (o := .lst (vs ++ ws)) e rfl rfl rfl ⟨rfl, _, upd_same, (h3.mono (hid_ex2 e2)).append (rr.mono (hid_sub fun a m => List.mem_cons_of_mem _ m))⟩
      exact ⟨l, q, vs, ws, rfl, rfl, h2', hq, by rw [h3.length, rr.length]; exact p.1, r.nx _ σ _ p.2 se' ((Kp.ex e2).trans (kp_write hl ha))⟩
    · exact ht.elim
/-! ### xs.pop() -/
def mPop (i : Nat) : IT := fun Γ P => match Γ[i]? with
  | some (some (.ml l ds)) => ∃ pre d, ds = pre ++ [d] ∧ P d (Γ.set i (some (.ml l pre)))
  | _ => False
theorem mx_pop (i : Nat) {x : Str} {npos apos cpos : Pos} (hN : X.N[i]? = some x := by rfl) (hv : Vis X.env.scope x := by first | exact Or.inl rfl | exact Or.inr (Or.inl rfl) | exact Or.inr (Or.inr rfl)) (hd : (x == ("__debug__" : Str)) = false := by decide) (hcd : (x == ("__classdict__" : Str)) = false := by decide)
    (hbase : attributeBase (.Name x npos) "pop" X.env (eval (.Name x npos) X.env) = eval (.Name x npos) X.env := by rfl) (hline : (apos.endLine == cpos.line) = true := by rfl) :
    PE X (.Call (.Attribute (.Name x npos) "pop" apos) [] [] cpos) (Lm X.K (mPop i)) :=
  pe_imp (pe_bm0 PySem.F.plainAttrs_list PySem.F.slot_list_pop PySem.F.type_list_pop mt_pop (pe_var hN hv hd hcd) hbase hline) fun σ H Q ⟨H0, ps, hs, Γ, P, se, ht, k⟩ => by
    unfold mPop at ht
    split at ht
    · rename_i l ds e
      obtain ⟨pre, d, rfl, p⟩ := ht
      obtain ⟨v, h1, rfl, vs, h2, h3⟩ := se.ok i _ e
      have hl : l ∈ adr Γ := mem_adr.mpr ⟨i, _, e, rfl⟩
      have hlen : vs.length = pre.length + 1 := by rw [h3.length]; simp
      obtain ⟨y, hy, ry⟩ := h3.get' (i := pre.length) (d := d) (by simp)
      have hdl : Reps X.K (hid (hs ++ adr Γ) H) vs.dropLast pre := by
        have z := h3.take pre.length
        rw [List.take_left] at z
        rw [List.dropLast_eq_take, hlen]
        exact z
      obtain ⟨se', ha⟩ := se.write (s' := .ml l pre) (o := .lst vs.dropLast) e rfl rfl rfl ⟨rfl, _, upd_same, hdl⟩
      refine ⟨_, h1, .inl ⟨rfl, _, SqL.of h2⟩, l, vs, y, rfl, rfl, h2, by rw [hlen]; exact hy, ?_⟩
      exact k d _ y _ p se' ⟨ha, fun b o n q => by rw [upd_ne (fun z => n (by rw [z]; exact hl))]; exact q⟩ (by rw [hid_upd (List.mem_append_right _ hl)]; exact ry)
    · exact ht.elim
/-- a, b = e, where e changes lists -/
def sUnpM (g : GT) (t : IT) : ST := fun E Γ => t Γ fun d Γ2 => g d Γ2 E.nx
theorem s_unpM {tg e : Expr} {t : IT} {g : GT} {own : List Nat} {pos : Pos} (he : PE X e (Lm X.K t)) (hg : PG X tg (Lg X.K own g)) (hs : swapsWithSole [tg] e pos.line X.env = pure false := by rfl) (hw : swappedStores [tg] e X.env = pure none := by rfl)
    (h1 : (assignEach [tg] X.env).map (·.2) = [assign tg X.env] := by rfl) : PS X (.Assign [tg] e pos) (Ls X.K W (sUnpM g t)) := ps_imp (ps_asg he hg hs hw h1) fun D σ H ⟨H0, ps, hs, Γ, E, se, ht, r⟩ =>
  ⟨H0, ps, hs, Γ, _, se, ht, fun d Γ2 v H2 p se2 k2 rr => ⟨H0, ps, hs, Γ2, d, _, se2, by rw [k2.1]; exact rr, p, fun Γ3 σ3 p3 a3 se3 _ _ => r.nx Γ3 σ3 H2 p3 se3 (by
    have z : Kp hs Γ H Γ2 H2 := k2.kp
    unfold Kp at z ⊢
    rw [a3]
    exact z)⟩⟩
/-! ### max, min of two, sum -/
def fMax2 : F1 := fun ds P => match ds with
  | [.int i, .int j] => P (.int (if j > i then j else i))
  | _ => False
def fMin2 : F1 := fun ds P => match ds with
  | [.int i, .int j] => P (.int (if j < i then j else i))
  | _ => False
theorem does_max2 {K : Frag} : DoesC K (fun xs H Q => ∃ i j, xs = [.int i, .int j] ∧ Q (.int (if j > i then j else i)) H) fMax2 := fun ms H xs ds P Q b rr h k => by
  unfold fMax2 at h
  split at h
  · obtain ⟨v, w, rfl, r1, r2⟩ := rr.two
    cases r1.intv
    cases r2.intv
    exact ⟨_, _, rfl, k _ _ H h (Same.refl H) (.int _)⟩
  · exact h.elim
theorem does_min2 {K : Frag} : DoesC K (fun xs H Q => ∃ i j, xs = [.int i, .int j] ∧ Q (.int (if j < i then j else i)) H) fMin2 := fun ms H xs ds P Q b rr h k => by
  unfold fMin2 at h
  split at h
  · obtain ⟨v, w, rfl, r1, r2⟩ := rr.two
    cases r1.intv
    cases r2.intv
    exact ⟨_, _, rfl, k _ _ H h (Same.refl H) (.int _)⟩
  · exact h.elim
section
variable {a b : Expr} {p pos : Pos} {t u : XT}
theorem px_max2 (hc : X.calm = true) (hg : Gl X "max") (hm : X.mg "max" = none) (ha : PE X a (Lb X.K t)) (hb : PE X b (Lb X.K u)) (he : starEach [a, b] X.env = (false, eval a X.env) :: starEach [b] X.env := by rfl) (he2 : starEach [b] X.env = (false, eval b X.env) :: starEach [] X.env := by rfl) (hpl : (backTo pos (starEach [b] X.env)).any (·.1) = false := by rfl) :
    PE X (.Call (.Name "max" p) [a, b] [] pos) (Li X.K (xCall fMax2 (aCons t (aCons u aNil)))) := px_callB (call_max2 hc) does_max2 hg hm (by decide +kernel) (aw_cons ha (aw_cons hb aw_nil he2) he) (by decide) (by decide) he hpl
theorem px_min2 (hc : X.calm = true) (hg : Gl X "min") (hm : X.mg "min" = none) (ha : PE X a (Lb X.K t)) (hb : PE X b (Lb X.K u)) (he : starEach [a, b] X.env = (false, eval a X.env) :: starEach [b] X.env := by rfl) (he2 : starEach [b] X.env = (false, eval b X.env) :: starEach [] X.env := by rfl) (hpl : (backTo pos (starEach [b] X.env)).any (·.1) = false := by rfl) :
    PE X (.Call (.Name "min" p) [a, b] [] pos) (Li X.K (xCall fMin2 (aCons t (aCons u aNil)))) := px_callB (call_min2 hc) does_min2 hg hm (by decide +kernel) (aw_cons ha (aw_cons hb aw_nil he2) he) (by decide) (by decide) he hpl
end
def fSum : F1 := fun ds P => ∃ ns : List Int, ds = [.lst (ns.map D.int)] ∧ P (.int ns.sum)
theorem does_sum {K : Frag} : DoesC K (rSum K) fSum := fun ms H xs ds P Q b rr h k => by
  obtain ⟨ns, rfl, h⟩ := h
  obtain ⟨v, rfl, r⟩ := rr.one
  obtain ⟨a, vs, rfl, h1, r1⟩ := r.list hid_ex
  have e := reps_int r1
  subst e
  exact ⟨a, ns, rfl, SqL.of h1, k _ _ H h (Same.refl H) (.int _)⟩
theorem px_sum {e : Expr} {p pos : Pos} {t : XT} (hc : X.calm = true) (hg : Gl X "sum") (hm : X.mg "sum" = none) (h : PE X e (Lb X.K t)) (he : starEach [e] X.env = (false, eval e X.env) :: starEach [] X.env := by rfl) (hpl : (backTo pos (starEach [] X.env)).any (·.1) = false := by rfl) :
    PE X (.Call (.Name "sum" p) [e] [] pos) (Li X.K (xCall fSum (aCons t aNil))) := px_callB (cr_sum hc) does_sum hg hm (by decide +kernel) (aw_cons h aw_nil he) (by decide) (by decide) he hpl
/-! ### tuples of ints: < -/
def rLtT (K : Frag) : R2 := fun x y H Q => ∃ (a b : Addr) (i1 i2 j1 j2 : Int), x = .ref a ∧ y = .ref b ∧ SqT K H a [.int i1, .int i2] ∧ SqT K H b [.int j1, .int j2] ∧ Q (.bl (if i1 = j1 then decide (i2 < j2) else decide (i1 < j1))) H
theorem op_ltT (hu : X.A.units < cLine) : OpR X (compareOp .Lt) (rLtT X.K) := by
  intro pins s σ H x y v u Q I rx ry h
  obtain ⟨a, b, i1, i2, j1, j2, rfl, rfl, ha, hb, q⟩ := h
  cases rx
  cases ry
  obtain ⟨its, r1, p1, _⟩ := I.tuple ha
  obtain ⟨its2, r2, p2, _⟩ := I.tuple hb
  obtain ⟨u1, u2, rfl, ⟨t1, rfl⟩, ⟨t2, rfl⟩⟩ := r1.two
  obtain ⟨w1, w2, rfl, ⟨s1, rfl⟩, ⟨s2, rfl⟩⟩ := r2.two
  have eqd : ∀ m n : Int, (m == n) = decide (m = n) := fun m n => by
    by_cases z : m = n
    · rw [decide_eq_true z]; exact beq_iff_eq.mpr z
    · rw [decide_eq_false z]; exact beq_eq_false_iff_ne.mpr z
  have R := Ob.RcOp.tuples_lt (A := X.A) (s := s) (e := fun k => if k = 0 then decide (i1 = j1) else decide (i2 = j2)) (r := fun k => if k = 0 then decide (i1 < j1) else decide (i2 < j2)) p1 p2 hu (fun k h1 h2 => by
    have hk : k = 0 ∨ k = 1 := by simp at h1; omega
    rcases hk with rfl | rfl
    · show SeqAt.EqAt _ _ (.int i1 t1) (.int j1 s1) (decide (i1 = j1))
      rw [← eqd]
      exact SeqAt.EqAt.int_int _ _ _ _
    · show SeqAt.EqAt _ _ (.int i2 t2) (.int j2 s2) (decide (i2 = j2))
      rw [← eqd]
      exact SeqAt.EqAt.int_int _ _ _ _) (fun k h1 h2 _ => by
    have hk : k = 0 ∨ k = 1 := by simp at h1; omega
    rcases hk with rfl | rfl
    · exact Ob.RcOp.lt_int _ _ _ _
    · exact Ob.RcOp.lt_int _ _ _ _)
  have z : wpAny (model X.prog X.w) X.A (compareOp .Lt (.ref a) (.ref b)) (EP X pins σ Q) X.xe s := R X.prog X.w X.xe (EP X pins σ Q) ⟨.bl _, H, I, rfl, by
    have e : Ob.lexAt (fun k => if k = 0 then decide (i1 = j1) else decide (i2 = j2)) (fun k => if k = 0 then decide (i1 < j1) else decide (i2 < j2)) (decide (2 < 2)) 0 2 = (if i1 = j1 then decide (i2 < j2) else decide (i1 < j1)) := by
      rw [Ob.lexAt_succ, Ob.lexAt_succ, Ob.lexAt_zero]
      by_cases z1 : i1 = j1 <;> by_cases z2 : i2 = j2 <;> simp [z1, z2]
    rw [← e] at q
    exact q⟩
  exact z
def fLtT : F2 := fun d e P => match d, e with
  | .tup [.int i1, .int i2], .tup [.int j1, .int j2] => P (.bl (if i1 = j1 then decide (i2 < j2) else decide (i1 < j1)))
  | _, _ => False
theorem does_ltT {K : Frag} : Does K (rLtT K) fLtT := fun ms H x y d e P Q b rx ry h k => by
  unfold fLtT at h
  split at h
  · obtain ⟨a, vs, rfl, h1, r1⟩ := rx.tuple hid_ex
    obtain ⟨a2, vs2, rfl, h2, r2⟩ := ry.tuple hid_ex
    cases r1 with
    | cons x1 r1 => cases r1 with
      | cons x2 r1 => cases r1; cases x1; cases x2; cases r2 with
        | cons y1 r2 => cases r2 with
          | cons y2 r2 => cases r2; cases y1; cases y2; exact ⟨a, a2, _, _, _, _, rfl, rfl, h1, h2, k _ _ H h (Same.refl H) (.bl _)⟩
  · exact h.elim
theorem px_ltT {k : Nat} {a b : Expr} {pos : Pos} {ta tb : XT} (hr : Room k X.A) (ha : PE X a (Lb X.K ta)) (hb : PE X b (Lb X.K tb)) : PE X (.Compare a [.Lt] [b] pos) (Li X.K (x2 fLtT ta tb)) := px_cmp (op_ltT hr.units0) does_ltT ha hb
theorem tx_ltT {k : Nat} {a b : Expr} {pos : Pos} {ta tb : XT} (hr : Room k X.A) (ha : PE X a (Lb X.K ta)) (hb : PE X b (Lb X.K tb)) : PT X (.Compare a [.Lt] [b] pos) (Lt X.K (b2 fLtT ta tb)) := tx_cmp (op_ltT hr.units0) does_ltT ha hb
end
end Kb
set_option Elab.async false
set_option linter.all false
set_option maxRecDepth 100000
set_option maxHeartbeats 4000000
/-! Kb28: sorted(set(xs)) of ints. -/
namespace L2
open PySem PySem.Spec PyProof.Rows
/-- a new set -/
abbrev kbS0 (w : World) : Obj := { cls := .type "set", dict := none, data := .set #[] 0 (.fresh 0 0 (!w.params.followText "set-order")) }
section
variable {P : Program} {w : World} {A : Around} {E : Value → Shared → Prop} {s : Shared}
theorem kb_init {l : Addr} {its : Array Value} (ns : List Int) (hno : A.handled = none) (hl : s.heap.IsList l its) (hi : IntsAre its.toList ns) (hb : ns.length + 1 < scanBound) (hT : Shared.TypeIs { s with heap := s.heap.push (kbS0 w) } (.ref s.heap.objs.size) "set") {Q : PySem.Fin → Shared → Prop} {F' : Value → Shared → Prop}
    (q : ∀ h' tk c, SetR w h' s.heap.objs.size (fun j => decide (j ∈ ns)) c → c ≤ ns.length → (∀ b o, s.heap.get? b = some o → h'.get? b = some o) → Q (.done (.ret .none)) { s with heap := h', toks := tk }) :
    wpAny (model P w) A.in1.in1 (Builtin.«set.__init__» ⟨[.ref s.heap.objs.size, .ref l], []⟩) Q F' { s with heap := s.heap.push (kbS0 w) } := by
  have hsz : its.size = ns.length := (Array.length_toList (xs := its)).symm.trans hi.length
  obtain ⟨⟨c0, d0, x0, sl0⟩, ho, hc, n0, hd⟩ := hl
  dsimp only at hc hd
  subst hc hd
  have ho2 : (s.heap.push (kbS0 w)).get? l = some { cls := .type "list", dict := d0, data := .seq its n0, slots := sl0 } := Heap.get?_push_of_some _ ho
  have hls := F.sub_list_set
  have hlf := F.sub_list_frozenset
  have hdne : (Value.type "list" == Value.type "dict") = false := by decide
  have hL : (s.heap.push (kbS0 w)).IsList l its := ⟨_, ho2, rfl, n0, rfl⟩
  have hS : (s.heap.push (kbS0 w)).get? s.heap.objs.size = some (kbS0 w) := Heap.get?_push_size _ rfl
  unfold Builtin.«set.__init__» noKeywords Builtin.Frozenset.updateFrom
  generalize hPI : pyIter = PI
  wp_walk
  subst hPI
  refine wpAny_pyIter_list hL (wpAny_bind (wpAny_runValue ?_))
  have lt0 : l < s.heap.objs.size := Heap.lt_size ho
  have sz1 : (s.heap.push (kbS0 w)).objs.size = s.heap.objs.size + 1 := Heap.size_push ..
  have ne1 : l ≠ (s.heap.push (kbS0 w)).objs.size := by rw [sz1]; exact Nat.ne_of_lt (Nat.lt_succ_of_lt lt0)
  have nf : s.heap.objs.size ∉ [(s.heap.push (kbS0 w)).objs.size, l] := by
    rw [sz1]
    intro z
    rcases List.mem_cons.mp z with z | z
    · omega
    · rw [List.mem_singleton.mp z] at lt0; exact Nat.lt_irrefl _ lt0
  have vals : ∀ (i : Nat) (v : Value), its[i]? = some v → ∃ k t, ns[i]? = some k ∧ v = .int k t := fun i v hv => by
    have lt : i < ns.length := by rw [← hsz]; exact (Array.getElem?_eq_some_iff.mp hv).1
    obtain ⟨t, e⟩ := PyProof.Rows.IntsAre.int_at hi i v (Array.getElem?_toList.trans hv)
    exact ⟨ns[i], t, List.getElem?_eq_getElem lt, e.trans (by rw [List.getD_eq_getElem?_getD, List.getElem?_eq_getElem lt]; rfl)⟩
  refine set_update_ints (Walks.list (by simp [hno]) _ l ne1 its).toS s.heap.objs.size nf ns hsz hb vals (its.size - 0) 0 _ (Nat.sub_zero _ ▸ rfl) (Nat.zero_le _) ⟨⟨_, Heap.get?_push_size _ rfl, rfl, rfl⟩, hL.push _⟩ ⟨0, Nat.le_refl 0, setR_new_at (Heap.get?_push_of_some _ hS)⟩ fun s' c hm hc hR => ?_
  obtain ⟨h2, g2, d2, t2, o2⟩ := s'
  obtain rfl : g2 = s.gens := hm.gens
  obtain rfl : d2 = s.drawn := hm.drawn
  obtain rfl : o2 = s.os := hm.os
  rw [hsz] at hc
  refine wpAny_pure (wpAny_pure (q h2 t2 c hR hc fun b o e => hm.heap b o (fun z => ?_) (Heap.get?_push_of_some _ (Heap.get?_push_of_some _ e))))
  have ltb : b < s.heap.objs.size := Heap.lt_size e
  rcases List.mem_cons.mp z with z | z
  · rw [z] at ltb; exact Nat.lt_irrefl _ ltb
  · rw [List.mem_singleton.mp z, sz1] at ltb
    exact absurd ltb (Nat.not_lt_of_le (Nat.le_succ _))
theorem kb_set_list {l : Addr} {its : Array Value} (ns : List Int) {Q : Value → Shared → Prop} (hno : A.handled = none) (hl : s.heap.IsList l its) (hi : IntsAre its.toList ns) (hb : ns.length + 1 < scanBound)
    (q : ∀ h' tk c, SetR w h' s.heap.objs.size (fun j => decide (j ∈ ns)) c → c ≤ ns.length → (∀ b o, s.heap.get? b = some o → h'.get? b = some o) → Q (.ref s.heap.objs.size) { s with heap := h', toks := tk }) :
    wpAny (model P w) A (call (.type "set") [.ref l]) Q E s := by
  obtain ⟨c, tl, hmro⟩ := F.called_set.mro
  have hmade := F.called_set.made
  have hsb := F.called_set.sub
  refine wpAny_call (codeAny_of_tree (?_ : wpAny _ _ (callAny (.type "set") _) _ _ _))
  refine wpAny_pure ⟨Code.quiet_builtin _ (by decide +kernel), codeAny_builtin F.entry_type_call (?_)⟩
  rw [Around.under_plain (weight_type_call_type "set" [.ref l] []) (by rfl)]
  have k1 := F.called_set.notType
  have k2 := F.called_set.canCreate
  have k3 := F.typeCall_set_1 (.ref l)
  repeat any_goals first | assumption | wp_step
  refine codeAny_mono (code_set_led1 (.ref l) (E := E) (Q₁ := fun u s₁ => u = .ref s.heap.objs.size ∧ s₁ = { s with heap := s.heap.push (kbS0 w) }) ⟨rfl, rfl⟩) fun r s1 hr => ?_
  match r, hr with
  | .error e, hr => exact hr
  | .ok .next, hr => exact hr.elim
  | .ok .brk, hr => exact hr.elim
  | .ok .cont, hr => exact hr.elim
  | .ok (.ret u), hr =>
    obtain ⟨rfl, rfl⟩ := hr
    have hT : Shared.TypeIs { s with heap := s.heap.push (kbS0 w) } (.ref s.heap.objs.size) "set" := ⟨_, Heap.get?_push_size _ rfl, rfl⟩
    have k4 := F.called_set.init.lookup
    have k5 := F.called_set.init.bind (.ref s.heap.objs.size)
    repeat any_goals first | assumption | wp_step
    refine codeAny_mono (codeAny_call_builtin (R := wants (fun v s2 => v = .none ∧ ∃ h' tk c, s2 = { s with heap := h', toks := tk } ∧ SetR w h' s.heap.objs.size (fun j => decide (j ∈ ns)) c ∧ c ≤ ns.length ∧ ∀ b o, s.heap.get? b = some o → h'.get? b = some o) E) F.called_set.init.plain F.entry_set_init (check_set_init_1 hT ?_)) fun r2 s2 hr2 => ?_
    · exact kb_init ns hno hl hi hb hT fun h' tk c a1 a2 a3 => ⟨rfl, h', tk, c, rfl, a1, a2, a3⟩
    · match r2, hr2 with
      | .error e, hr2 => exact hr2
      | .ok .next, hr2 => exact hr2.elim
      | .ok .brk, hr2 => exact hr2.elim
      | .ok .cont, hr2 => exact hr2.elim
      | .ok (.ret v), hr2 =>
        obtain ⟨rfl, h', tk, c', rfl, a1, a2, a3⟩ := hr2
        repeat any_goals first | assumption | wp_step
        exact q _ _ _ a1 a2 a3
end
end L2
namespace Kb
open PySem L2
open PyProof.Rows hiding St
set_option autoImplicit false
section
variable {X : Cx}
def rSetI (K : Frag) (w : World) : List V → Hp → VK → Prop := fun xs H Q => ∃ (l : Addr) (ns : List Int), xs = [.ref l] ∧ SqL K H l (ns.map V.int) ∧ ns.length < 64 ∧ ∀ a c, H a = none → c ≤ ns.length → Q (.ref a) (upd H a (SetO w a (fun j => decide (j ∈ ns)) c))
theorem cr_setI (hc : X.calm = true) : CallR X (.type "set") (rSetI X.K X.w) := by
  intro pins s σ H xs us Q I r h
  obtain ⟨l, ns, rfl, hl, h64, q⟩ := h
  rw [Vals.ref1 r]
  obtain ⟨its, rv, pl, hz⟩ := I.list hl
  refine kb_set_list ns (I.ok.hd hc) pl.isList (Vals.ints rv) (Nat.lt_of_lt_of_le (Nat.succ_lt_succ h64) (by decide +kernel)) fun h' tk c R hc' kp => ?_
  exact ⟨.ref s.heap.objs.size, upd H s.heap.objs.size (SetO X.w s.heap.objs.size (fun j => decide (j ∈ ns)) c), I.laid (t' := tk) kp (Nat.le_refl _) (setO_new R), rfl, q _ c (I.hok.fresh (Nat.le_refl _)) hc'⟩
/-- sorted(set(e)), e a list of fewer than 64 ints -/
def fSSI (t : XT) : FT := fun Γ P => t Γ fun d => match d with
  | .lst ys => ∃ ns : List Int, ys = ns.map D.int ∧ ns.length < 64 ∧ ∀ ms : List Int, ms.Pairwise (· < ·) → (∀ k, k ∈ ms ↔ k ∈ ns) → P (ms.map D.int)
  | _ => False
theorem fx_ssI {e : Expr} {p p2 q pos : Pos} {t : XT} (hc : X.calm = true) (hg : Gl X "sorted") (hm : X.mg "sorted" = none) (hg2 : Gl X "set") (hm2 : X.mg "set" = none) (h : PE X e (Lb X.K t)) (he : starEach [e] X.env = (false, eval e X.env) :: starEach [] X.env := by rfl) (hpl0 : (backTo q (starEach [] X.env)).any (·.1) = false := by rfl)
    (he2 : starEach [.Call (.Name "set" p2) [e] [] q] X.env = (false, eval (.Call (.Name "set" p2) [e] [] q) X.env) :: starEach [] X.env := by rfl) (hpl : (backTo pos (starEach [] X.env)).any (·.1) = false := by rfl) :
    PE X (.Call (.Name "sorted" p) [.Call (.Name "set" p2) [e] [] q] [] pos) (Lf X.K (fSSI t)) :=
  pe_imp (pe_callB (cr_sortedSet hc) hg hm (by decide +kernel) (pa_cons (pe_callTy (cr_setI hc) hg2 hm2 (by decide +kernel) (pa_cons h pa_nil he) (by decide) (by decide) he hpl0) pa_nil he2) (by decide) (by decide) he2 hpl) fun σ H Q ⟨H0, ps, hs, Γ, P, se, ht, k⟩ => by
    refine ⟨H0, ps, hs, Γ, _, se, ht, fun d v H1 p1 e1 r1 => ?_⟩
    cases d with
    | lst ys =>
      obtain ⟨ns, rfl, h64, hP⟩ := p1
      obtain ⟨a, vs, rfl, h1, h2⟩ := r1.list hid_ex
      have ev := reps_int h2
      subst ev
      refine ⟨a, ns, rfl, SqL.of h1, h64, fun sa c ns' hc' => ?_⟩
      refine ⟨sa, _, c, rfl, upd_same, by omega, fun ms pp hpw hmem hlen np => ?_⟩
      have e2 : Ex H1 (upd H1 sa (SetO X.w sa (fun j => decide (j ∈ ns)) c)) := Ex.new ns'
      have e3 : Ex H1 (upd (upd H1 sa (SetO X.w sa (fun j => decide (j ∈ ns)) c)) pp (.lst (ms.map V.int))) := e2.trans (Ex.new np)
      exact k _ pp _ _ (hP ms hpw fun k => (hmem k).trans decide_eq_true_iff) (fresh_of (e1.trans e2) np) (e1.trans e3) upd_same (int_reps ms)
    | _ => exact p1.elim
end
end Kb
set_option Elab.async false
set_option linter.all false
set_option maxRecDepth 100000
set_option maxHeartbeats 1000000
/-! Kb29: try with more clauses behind the one that takes all; raise X(). -/
namespace L2
open PySem PySem.Spec PyProof.Rows
section
variable {X : Cx} {body suite : List Stmt} {more : List ExceptHandler} {b0 : Stmt} {x n : Str} {np pos pos' : Pos} {tb : WX → TS} {ts : Addr → Value → Option Addr → TS} {i : Nat} {c : Value}
theorem kb_try_first (hs : X.stack = X.env :: X.outer) (hf : X.env.frame = some X.env.locals) (hN : X.N.Nodup) (hi : X.N[i]? = some n) (hln : X.env.kindOf n = some .local) (hc : Names X x c)
    (hb : ∀ (W : WX) (pn : List (Addr × Obj)) (xe : Value → Shared → Prop), Takes (X.tr pn xe) W → PassesOwn (model X.prog X.w) X.A X.env xe → PSs (X.tr pn xe) body (tb W))
    (hsu : ∀ (a : Addr) (oe : Obj) (cls : Value) (d : Option Addr) (pn : List (Addr × Obj)), Zc cls d oe → (∃ vs, oe.data = .fields vs) → PSs (X.suite a ((a, oe) :: pn)) (b0 :: suite) (ts a cls d)) :
    PS X (.Try body (.ExceptHandler (some (.Name x np)) (some n) (b0 :: suite) pos' :: more) [] [] pos) (fun D σ H => tb (wAs X.K c i ts (fun _ _ _ _ => False) D) D σ H) := ⟨fun pins s σ H D I h => by
  have hfr : X.A.frames = some (X.env :: X.outer) := (I.ok.frames).trans (congrArg some hs)
  refine wpAny_Try_except (wpAny_mono ((hb (wAs X.K c i ts (fun _ _ _ _ => False) D) (X.pn ++ pins) (fun e t1 => wpAny (model X.prog X.w) X.A (noteFrame e X.env) (fun _ t2 => wpAny (model X.prog X.w) X.A (setFlight e none) (fun _ t3 =>
    wpAny (model X.prog X.w) X.A (handleBy e X.env (.ExceptHandler (some (.Name x np)) (some n) (b0 :: suite) pos' :: more)) (SP X pins D) X.xe t3) X.xe t2) X.xe t1) (fun u s' xx => ?_) PassesOwn.looking).run [] s σ H D (I.toTry _) h) (fun f s1 e1 => ?_) fun _ _ z => z)
  · obtain ⟨a, B, sI, pins', σ1, H1, cls, d, rfl, J0, nb, up, sky, na, os, ag, b, hb1, yes, no⟩ := xx
    cases b with
    | false => exact (no rfl).elim
    | true =>
      have J : Inv X pins σ1 H1 sI := J0.ofTry I.ok
      refine (?_ : wpAny (model X.prog X.w) X.A (noteFrame (.ref a) X.env) _ _ _)
      refine Sky.land Zc.steady hfr hf (hs ▸ sky) fun h3 fl up3 => ?_
      have J3 : Inv X pins σ1 H1 { s' with heap := h3 } := J.landed nb fl.1 (up.trans up3) os ag
      obtain ⟨oe, vs, he, hz, hd⟩ := fl.there
      have nfr : a ∉ frs (X.env :: X.outer) := fun m => by
        obtain ⟨_, o', e', q⟩ := fl.2.2.1.mem m
        rw [he] at e'
        cases e'
        exact q _ hd
      have nL : a ≠ X.env.locals := fun z => nfr (List.mem_filterMap.mpr ⟨X.env, .head _, hf.trans (congrArg some z.symm)⟩)
      have nF : a ∉ X.fs := fun m => by
        obtain ⟨e, h1, h2⟩ := List.mem_filterMap.mp m
        exact nfr (List.mem_filterMap.mpr ⟨e, .tail _ h1, h2⟩)
      have S3 := J3.suite he hd na nL nF
      refine wpAny_handleBy_cons (codeAny_handlers_test ?_) (fun q => by cases q)
      have LT : PySem.W.Looks (model X.prog X.w) h3 (typeOf (.ref a)) cls := fun A Q E s k q => wpAny_typeOf_ref (k _ _ he) (hz.1 ▸ q)
      have read : ∀ {Q : Value → Shared → Prop} {E : Value → Shared → Prop}, Q c { s' with heap := h3 } → wpAny (model X.prog X.w) (X.A.mark (some (.ref a))) (eval (.Name x np) X.env) Q E { s' with heap := h3 } := fun {Q E} q => by
        rcases hc with ⟨g, g2, m | ⟨m, g3, g4⟩⟩
        · exact ld_glob (X := X.suite a ((a, oe) :: (X.pn ++ pins))) S3 g m q g2
        · exact ld_blt (X := X.suite a ((a, oe) :: (X.pn ++ pins))) S3 g m g3 q g4 g2
      refine read ((PySem.W.exm_one (M := model X.prog X.w) J3.kIn LT hb1).here (codeAny_handlers_suite_as (HandSPX.lands_againZ fl fun h4 fl4 up4 => ?_)))
      have J4 : Inv X pins σ1 H1 { s' with heap := h4 } := J.landed nb fl4.1 ((up.trans up3).trans up4) os ag
      obtain ⟨oe4, vs4, he4, hz4, hd4⟩ := fl4.there
      refine store_ok (X := X.suite a ((a, oe4) :: (X.pn ++ pins))) (v := .ref a) (J4.suite he4 hd4 na nL nF) hN hi (.inl hln) rfl (fun s5 S5 => ?_) (.inr hln)
      refine wpAny_mono ((hsu a oe4 cls d (X.pn ++ pins) hz4 ⟨_, hd4⟩).run [] s5 _ H1 _ S5 (yes rfl a na)) (fun f s6 e6 => ?_) fun _ _ z => False.elim z
      have last : ∀ {σ6 : St} {H6 : Hp} {Q : Shared → Prop}, Inv (X.suite a ((a, oe4) :: (X.pn ++ pins))) [] σ6 H6 s6 → (∀ s7, Inv X pins (σ6.set i none) H6 s7 → Q s7) → wpAny (model X.prog X.w) X.A (do bindName X.env n .none; unbindBehindTheSuite X.env n pos') (fun _ s7 => Q s7) X.xe s6 := fun S6 hq => gone_ok (S6.unsuite I.ok) hN hi hln hq
      match f, e6 with
      | .next, ⟨_, _, S6, q6⟩ => exact last S6 fun s7 J7 => ⟨_, _, J7, q6⟩
      | .brk, ⟨_, _, S6, q6⟩ => exact last S6 fun s7 J7 => ⟨_, _, J7, q6⟩
      | .cont, ⟨_, _, S6, q6⟩ => exact last S6 fun s7 J7 => ⟨_, _, J7, q6⟩
      | .ret u, ⟨_, _, _, S6, r6, q6⟩ => exact last S6 fun s7 J7 => ⟨_, _, _, J7, r6, q6⟩
  · match f, e1 with
    | .next, ⟨σ2, H2, J2, q⟩ => exact wpAny_execs_nil ⟨σ2, H2, J2.ofTry I.ok, q⟩
    | .brk, ⟨σ2, H2, J2, q⟩ => exact ⟨σ2, H2, J2.ofTry I.ok, q⟩
    | .cont, ⟨σ2, H2, J2, q⟩ => exact ⟨σ2, H2, J2.ofTry I.ok, q⟩
    | .ret u, ⟨v, σ2, H2, J2, r, q⟩ => exact ⟨v, σ2, H2, J2.ofTry I.ok, r, q⟩⟩
end
end L2
namespace Kb
open PySem L2
open PyProof.Rows hiding St
set_option autoImplicit false
section
variable {X : Cx} {W : WX}
/-- raise X() -/
def sRaise0 (C : Addr) : ST := fun E Γ => E.ex C [] Γ
theorem s_raise0 {ex : Str} {C fI : Addr} {p pos pos2 : Pos} {k : Nat} (hc : X.calm = true) (tk : Takes X W) (T : ErrTxt X.prog X.K X.mg ex C fI []) (hr : Room k X.A) (hg : Gl X ex := by rfl) (hdb : (ex == ("__debug__" : Str)) = false := by decide) : PS X (.Raise (some (.Call (.Name ex p) [] [] pos)) none pos2) (Ls X.K W (sRaise0 C)) :=
  ps_imp (ps_raise hc tk (pmk_e0 T hr hg hdb)) fun D σ H ⟨H0, ps, hs, Γ, E, se, ht, r⟩ => r.ex C [] Γ σ H none ht se Kp.refl rfl
/-- try .. except X as n, where X takes all that the body raises -/
def sTryF (K : Frag) (c : Value) (i : Nat) (tb : ST) (ts : Addr → Value → Option Addr → ST) : ST := fun E Γ => tb { nx := E.nx, rt := E.rt, bk := E.bk, ct := E.ct, ex := fun C fs Γ' => PySem.W.exmOne K (.ref C) c = some true ∧
  (∀ a d, ts a (.ref C) d { nx := fun Γ2 => E.nx (Γ2.set i none), rt := E.rt, bk := fun Γ2 => E.bk (Γ2.set i none), ct := fun Γ2 => E.ct (Γ2.set i none), ex := E.ex } (Γ'.set i (some (.im (.err a C d fs))))) } Γ
theorem s_try_first {x n : Str} {c : Value} {i : Nat} {body suite : List Stmt} {more : List ExceptHandler} {b0 : Stmt} {np pos pos' : Pos} {tb : ST} {ts : Addr → Value → Option Addr → ST} (hs : X.stack = X.env :: X.outer) (hf : X.env.frame = some X.env.locals) (hN : X.N.Nodup) (hi : X.N[i]? = some n) (hln : X.env.kindOf n = some .local) (hc : Names X x c) (tk : Takes X W)
    (hb : ∀ (W : WX) (pn : List (Addr × Obj)) (xe : Value → Shared → Prop), Takes (X.tr pn xe) W → PassesOwn (model X.prog X.w) X.A X.env xe → PSs (X.tr pn xe) body (Ls X.K W tb))
    (hsu : ∀ (a : Addr) (oe : Obj) (cls : Value) (d : Option Addr) (pn : List (Addr × Obj)), Zc cls d oe → (∃ vs, oe.data = .fields vs) → PSs (X.suite a ((a, oe) :: pn)) (b0 :: suite) (Ls X.K W (ts a cls d))) :
    PS X (.Try body (.ExceptHandler (some (.Name x np)) (some n) (b0 :: suite) pos' :: more) [] [] pos) (Ls X.K W (sTryF X.K c i tb ts)) :=
  ps_imp (kb_try_first (i := i) (tb := fun W => Ls X.K W tb) (ts := fun a cls d => Ls X.K W (ts a cls d)) hs hf hN hi hln hc hb hsu) fun D σ H ⟨H0, ps, hs, Γ, E, se, ht, r⟩ => by
    refine ⟨H0, ps, hs, Γ, _, se, ht, ⟨r.nx, r.rt, r.bk, r.ct, fun C fs Γ' σ' H' d ⟨hb1, hb2⟩ se' kp xd => ⟨true, hb1, fun _ a na => ?_, fun z => by cases z⟩⟩⟩
    have rep : Rep X.K (hid (hs ++ adr Γ') H') (.ref a) (.err a C d fs) := by
      cases d with
      | none =>
        have e : fs = [] := xd
        subst e
        exact .err0
      | some d =>
        obtain ⟨nd, fvs, g1, g2, g3⟩ := xd
        exact .err (by rw [hid_ni nd]; exact g1) g2 g3
    have kp1 : Kp hs Γ H (Γ'.set i (some (.im (.err a C d fs)))) H' := kp.trans (kp_set_im (Same.refl H'))
    exact ⟨H0, ps, hs, _, _, se'.set_im rep i, hb2 a d, ⟨fun Γ2 σ2 H2 q se2 k2 => r.nx _ _ H2 q (se2.set_none i) (kp_set_none (kp1.trans k2)), r.rt, fun Γ2 σ2 H2 q se2 k2 => r.bk _ _ H2 q (se2.set_none i) (kp_set_none (kp1.trans k2)), fun Γ2 σ2 H2 q se2 k2 => r.ct _ _ H2 q (se2.set_none i) (kp_set_none (kp1.trans k2)), fun C2 fs2 Γ2 σ2 H2 d2 q se2 k2 x2 => r.ex C2 fs2 Γ2 σ2 H2 d2 q se2 (kp1.trans k2) x2⟩⟩
end
end Kb
set_option Elab.async false
set_option linter.all false
set_option maxRecDepth 100000
set_option maxHeartbeats 1000000
/-! Kb30: a cut between statements. -/
namespace Kb
open PySem L2
set_option autoImplicit false
/-- first t, up to what the reader names, then u -/
def sCut (t u : ST) : ST := fun E Γ => ∃ J : Env → Prop, t { E with nx := J } Γ ∧ ∀ Γ', J Γ' → u E Γ'
section
variable {X : Cx} {W : WX}
theorem ss_cut {st : Stmt} {rest : List Stmt} {t u : ST} (h1 : PS X st (Ls X.K W t)) (h2 : PSs X rest (Ls X.K W u)) : PSs X (st :: rest) (Ls X.K W (sCut t u)) := pss_imp (pss_cons h1 h2) fun D σ H ⟨H0, ps, hs, Γ, E, se, ⟨J, ht, hj⟩, r⟩ =>
  ⟨H0, ps, hs, Γ, { E with nx := J }, se, ht, ⟨fun Γ' σ' H' a b c => ⟨H0, ps, hs, Γ', E, b, hj _ a, r.from c⟩, r.rt, r.bk, r.ct, r.ex⟩⟩
end
theorem sCut_by {t u : ST} {E : En} {Γ : Env} (J : Env → Prop) (h1 : t { E with nx := J } Γ) (h2 : ∀ Γ', J Γ' → u E Γ') : sCut t u E Γ := ⟨J, h1, h2⟩
end Kb
set_option Elab.async false
set_option linter.all false
set_option maxRecDepth 100000
set_option maxHeartbeats 1000000
/-! Kb31: x = o.m(), which may raise or hand back a new list. -/
namespace Kb
open PySem L2
set_option autoImplicit false
abbrev RX := Env → (Rs → Prop) → EF → Prop
def LrX (K : Frag) (W : WX) (t : RX) : TE := fun σ H Q => ∃ (H0 : Hp) (ps hs : List Addr) (Γ : Env) (P : Rs → Prop) (F : EF), SE K H0 ps hs Γ σ H ∧ t Γ P F ∧ (∀ r v H2, P r → Ex H H2 → ResOk K H (hs ++ adr Γ) H2 v r → Q v H2) ∧ ∀ C fs H2 d, F C fs → Ex H H2 → ExD K (hs ++ adr Γ) H2 d fs → W (.ref C) d σ H2
section
variable {X : Cx} {W : WX} {C : Addr} {to : XT} {m : Str} {k : Nat} {o : Expr} {apos pos : Pos}
def rMeX0 (C : Addr) (S : SPX) (to : XT) : RX := fun Γ P F => to Γ fun d => match d with
  | .slo C' fs => C' = C ∧ S.S [.im d] P F
  | _ => False
theorem methX0_lr {S : SPX} (σ : St) (H : Hp) (Q : VK) (h : LrX X.K W (rMeX0 C S to) σ H Q) : tMethL C (spX X.K S) (WE W) (Li X.K to) tNil σ H Q := by
  obtain ⟨H0, ps, hs, Γ, P, F, se, ht, k, xz⟩ := h
  refine ⟨H0, ps, hs, Γ, _, se, ht, fun d v H1 p e1 r => ?_⟩
  cases d with
  | slo C' fs =>
    obtain ⟨rfl, p⟩ := p
    obtain ⟨a, dx, vs, fvs, rfl, h1, hx, _⟩ := (RepW.im r).slots hid_ex
    refine ⟨a, dx, vs, rfl, slt_in (K := X.K) hid_ex h1 hx, ?_⟩
    exact ⟨hs ++ adr Γ, _, .cons (s := .im (.slo C' fs)) r rfl .nil, (se.mono e1).bs, S.mon _ _ _ _ _ (fun r hr v H' e3 ro => k r v H' hr (e1.trans e3) (res_back e1 ro)) (fun C fs q d H' e3 xd => xz C fs H' d q (e1.trans e3) xd) p⟩
  | _ => exact p.elim
theorem rx_methX0 {S : SPX} {pl : Sem Bool} (tk : Takes X W) (c : SlX.SCls X.K C) (F : DmX X.prog X.w X.K X.mg X.base C m k (spX X.K S)) (hr : Room k X.A) (ho : PE X o (Li X.K to))
    (ht : eval (.Call (.Attribute o m apos) [] [] pos) X.env = (do
      let ov ← eval o X.env
      standAt apos.atName
      let (f, first) ← holding [ov] (getMethod ov m pl)
      callWith pos f first (backTo pos (starEach [] X.env)) (backToKw pos (keywordEach [] X.env))) := by rfl) : PE X (.Call (.Attribute o m apos) [] [] pos) (LrX X.K W (rMeX0 C S to)) := by
  obtain ⟨f, fd, ps, h1, h2, h3⟩ := F.ex
  exact pe_imp (pe_methL0 ho c h2 h1 hr h3 (fun σ => passAt tk σ) ht) methX0_lr
def sAsgX (i : Nat) (t : RX) : ST := fun E Γ => t Γ (fun r => match r with
  | .d d => E.nx (Γ.set i (some (.im d)))
  | .fl ds => ∀ l, l ∉ adr Γ → E.nx (Γ.set i (some (.ml l ds)))
  | _ => False) fun C fs => E.ex C fs Γ
theorem asgX_li {K : Frag} {i : Nat} {t : RX} (D : Ends) (σ : St) (H : Hp) (h : Ls K W (sAsgX i t) D σ H) : tAsg (LrX K W t) (gName i) D σ H := by
  obtain ⟨H0, ps, hs, Γ, E, se, ht, r⟩ := h
  refine ⟨H0, ps, hs, Γ, _, _, se, ht, fun rs v H2 p e ro => ?_, fun C fs H2 d q e x => r.ex C fs Γ σ H2 d q (se.mono e) (Kp.ex e) x⟩
  cases rs with
  | d d => exact r.nx _ _ H2 p ((se.mono e).set_im ro i) (kp_set_im e)
  | fl ds =>
    obtain ⟨q, vs, rfl, n, h2, rr⟩ := ro
    exact r.nx _ _ H2 (p q (se.fresh n)) (se.set_own n e rfl rfl (slot_ml h2 rr) i) (kp_set_own n e rfl)
  | _ => exact p.elim
theorem s_asgX {i : Nat} {x : Str} {e : Expr} {t : RX} {pos pos' : Pos} (hN : X.N.Nodup) (he : PE X e (LrX X.K W t)) (hi : X.N[i]? = some x := by rfl) (hx : Loc X.env.scope x := by first | exact Or.inl rfl | exact Or.inr rfl) (hs : swapsWith e (some (.Name x pos')) pos.line X.env = pure false := by rfl) (hf : X.fn x = true ∨ X.env.scope.names.lookup x = some .local := by first | exact .inl rfl | exact .inr rfl | assumption) :
    PS X (.Assign [.Name x pos'] e pos) (Ls X.K W (sAsgX i t)) := ps_imp (ps_set hN hi hx he hs hf) asgX_li
end
end Kb
set_option Elab.async false
set_option linter.all false
set_option maxRecDepth 100000
set_option maxHeartbeats 1000000
/-! Kb32: an own list that is changed no more is data. -/
namespace Kb
open PySem L2
set_option autoImplicit false
theorem SE.freeze {K : Frag} {H0 : Hp} {ps hs : List Addr} {Γ : Env} {σ : St} {H : Hp} (se : SE K H0 ps hs Γ σ H) {i : Nat} {l : Addr} {ds : List D} (hi : Γ[i]? = some (some (.ml l ds))) : SE K H0 ps hs (Γ.set i (some (.im (.lst ds)))) σ H := by
  have hlt : i < Γ.length := (List.getElem?_eq_some_iff.mp hi).1
  have sub : ∀ a ∈ adr (Γ.set i (some (.im (.lst ds)))), a ∈ adr Γ := fun a m => (adr_set_sub m).elim id fun z => by cases z
  have em : Ex (hid (hs ++ adr Γ) H) (hid (hs ++ adr (Γ.set i (some (.im (.lst ds))))) H) := hid_sub (app_sub sub)
  have nl : l ∉ adr (Γ.set i (some (.im (.lst ds)))) := fun m => by
    obtain ⟨j, s, hj, ha⟩ := mem_adr.mp m
    by_cases hij : i = j
    · subst hij
      rw [List.getElem?_set_self hlt] at hj
      cases hj
      cases ha
    · rw [List.getElem?_set_ne hij] at hj
      exact adr_ne se.nd i j hij hi rfl hj ha rfl
  refine ⟨by rw [List.length_set]; exact se.len, fun j s e => ?_, adr_set_nodup se.nd fun a z => (by cases z), se.fr, own_set (Z := fun l => H0 l = none ∧ l ∉ hs) se.own fun l z => (by cases z), se.psub, se.hx⟩
  by_cases hj : i = j
  · subst hj
    rw [List.getElem?_set_self hlt] at e
    cases e
    obtain ⟨v, h1, rfl, vs, h2, h3⟩ := se.ok i _ hi
    refine ⟨_, h1, .lst (a := l) (vs := vs) ?_ (h3.mono em)⟩
    rw [hid_ni (fun m => (List.mem_append.mp m).elim ((se.own i _ l hi rfl).2 rfl).2 nl)]
    exact h2
  · rw [List.getElem?_set_ne hj] at e
    obtain ⟨u, h1, h2⟩ := se.ok j s e
    exact ⟨u, h1, h2.mono em (hid_sub sub) (Same.refl H)⟩
/-- behind this the list in slot i is data -/
def sFrz (i : Nat) (t : ST) : ST := fun E Γ => match Γ[i]? with
  | some (some (.ml _ ds)) => t E (Γ.set i (some (.im (.lst ds))))
  | _ => False
section
variable {X : Cx} {W : WX}
theorem ss_frz (i : Nat) {rest : List Stmt} {t : ST} (h : PSs X rest (Ls X.K W t)) : PSs X rest (Ls X.K W (sFrz i t)) := pss_imp h fun D σ H ⟨H0, ps, hs, Γ, E, se, ht, r⟩ => by
  unfold sFrz at ht
  split at ht
  · rename_i l ds e
    exact ⟨H0, ps, hs, _, E, se.freeze e, ht, r.from (kp_set_im (Same.refl H))⟩
  · exact ht.elim
end
end Kb
set_option Elab.async false
set_option linter.all false
set_option maxRecDepth 100000
set_option maxHeartbeats 1000000
/-! Kb33: what the top leaves of a class with slots, read off as Bools. -/
namespace Kb
open PySem PySem.Spec L2
set_option autoImplicit false
def slPl (K : PySem.W.Frag) (C : Addr) (f : Str) : Option (Addr × Nat) := match PySem.W.findIn K (.ref C) f with
  | some (some (.ref p)) => (PySem.W.slotIn K p C).map fun i => (p, i)
  | _ => none
def slOneB (K : PySem.W.Frag) (C : Addr) (f : Str) : Bool := match slPl K C f with
  | some (p, i) => He.eqO (PySem.W.specialIn K (.ref p) "__get__") (some (some (.builtin "member_descriptor.__get__"))) && (decide (PySem.W.takesIn K (.ref p) = some true) && (decide (PySem.W.typeIn K (.ref p) = some (.type "member_descriptor")) && decide (i < 1000)))
  | none => false
def slClsB (K : PySem.W.Frag) (C : Addr) (names : List Str) : Bool := PySem.W.plainGet K C Str.empty && (PySem.W.isClsIn K C && (PySem.W.plainOver K C && (He.eqO (PySem.W.findIn K (.ref C) "__setattr__") (some (some (.builtin "object.__setattr__"))) && (names.all (slOneB K C) && decide ((names.map fun f => (slPl K C f).map (·.2)).Nodup)))))
def slIsiB (K : PySem.W.Frag) (C : Addr) : Bool := He.eqO (PySem.W.findIn K (.ref C) "__class__") (some (some (.builtin "object.__class__"))) && (He.eqO (PySem.W.specialIn K (.builtin "object.__class__") "__get__") (some (some (.builtin "getset_descriptor.__get__"))) && (decide (PySem.W.takesIn K (.builtin "object.__class__") = some true) && decide (PySem.W.mroIn K C (.type "object") = some true)))
section
variable {K : PySem.W.Frag} {C : Addr} {names : List Str}
theorem slPl_of {f : Str} {p : Addr} {i : Nat} (h : SlX.Slot1 K C f p i) : slPl K C f = some (p, i) := by
  unfold slPl
  rw [h.at_]
  show (PySem.W.slotIn K p C).map _ = _
  rw [h.ix]
  rfl
theorem slOne_ok {f : Str} (h : slOneB K C f = true) : ∃ p i, SlX.Slot1 K C f p i := by
  unfold slOneB at h
  split at h
  · rename_i p i e
    obtain ⟨h1, h⟩ := He.ba h
    obtain ⟨h2, h⟩ := He.ba h
    obtain ⟨h3, h4⟩ := He.ba h
    unfold slPl at e
    split at e
    · rename_i p' e1
      cases e2 : PySem.W.slotIn K p' C with
      | none => rw [e2] at e; cases e
      | some j =>
        rw [e2] at e
        have z : (p', j) = (p, i) := Option.some.inj e
        cases z
        exact ⟨p, i, e1, He.eqO_ok h1, of_decide_eq_true h2, of_decide_eq_true h3, e2, of_decide_eq_true h4⟩
    · cases e
  · cases h
theorem nodup_map_inj {α β : Type} {F : α → β} : ∀ {l : List α}, (l.map F).Nodup → ∀ x ∈ l, ∀ y ∈ l, F x = F y → x = y
  | [], _, x, hx, _, _, _ => by cases hx
  | a :: l, h, x, hx, y, hy, e => by
    have h1 := List.nodup_cons.mp h
    rcases List.mem_cons.mp hx with rfl | hx'
    · rcases List.mem_cons.mp hy with rfl | hy'
      · rfl
      · exact absurd (by rw [e]; exact List.mem_map.mpr ⟨y, hy', rfl⟩) h1.1
    · rcases List.mem_cons.mp hy with rfl | hy'
      · exact absurd (by rw [← e]; exact List.mem_map.mpr ⟨x, hx', rfl⟩) h1.1
      · exact nodup_map_inj h1.2 x hx' y hy' e
theorem slCls_ok (h : slClsB K C names = true) : SlT K C names := by
  obtain ⟨h1, h⟩ := He.ba h
  obtain ⟨h2, h⟩ := He.ba h
  obtain ⟨h3, h⟩ := He.ba h
  obtain ⟨h4, h⟩ := He.ba h
  obtain ⟨h5, h6⟩ := He.ba h
  refine ⟨⟨h1, h2, h3, He.eqO_ok h4⟩, fun f hf => slOne_ok (List.all_eq_true.mp h5 f hf), fun f hf g hg p q i hp hq => ?_⟩
  refine nodup_map_inj (of_decide_eq_true h6) f hf g hg ?_
  show (slPl K C f).map (·.2) = (slPl K C g).map (·.2)
  rw [slPl_of hp, slPl_of hq]
  rfl
theorem slIsi_ok (h : slIsiB K C = true) : SlX.SIsi K C := by
  obtain ⟨h1, h⟩ := He.ba h
  obtain ⟨h2, h⟩ := He.ba h
  obtain ⟨h3, h4⟩ := He.ba h
  exact ⟨He.eqO_ok h1, He.eqO_ok h2, of_decide_eq_true h3, of_decide_eq_true h4⟩
end
theorem arg_kwm {K : PySem.W.Frag} {n m : Nat} {mv : List V} {ms : List Slot} (h : ∀ B G H, ArgsG K B G H mv ms) : ArgRel K n m (fun vs zs => vs ++ (mv ++ zs)) (fun as bs => as ++ (ms ++ bs)) := fun B G H v0 vs zs as bs _ _ a b => ⟨vs ++ (mv ++ zs), rfl, a.append ((h B G H).append b)⟩
end Kb
set_option Elab.async false
set_option linter.all false
set_option maxRecDepth 100000
set_option maxHeartbeats 1000000
/-! Kb34: operators of one's own (binary ones, in, ~, bool()), == with things of other types. -/
namespace Kb
open PySem PySem.Spec L2
open PyProof.Rows hiding St
set_option autoImplicit false
/-- a special method of the class at C -/
structure DmO (P : Program) (w : World) (K : Frag) (mg : Str → Option Value) (base : Heap) (C : Addr) (m : Str) (k : Nat) (S : SP) : Prop where
  ex : ∃ (f : Addr) (fd : FuncData) (ps : List Str), FnOk P w K mg base CX0 k f fd ps (spP K S) ∧ PySem.W.findIn K (.ref C) m = some (some (.ref f)) ∧ PySem.W.isFn K (.ref f) = true ∧ Binds K fd ps []
section
variable {X : Cx} {C : Addr} {k : Nat} {S : SP} {m : Str}
theorem DmO.fnR (F : DmO X.prog X.w X.K X.mg X.base C m k S) : ∃ f, FnR X.prog X.w X.K X.mg X.base CX0 k f (spP X.K S) ∧ PySem.W.findIn X.K (.ref C) m = some (some (.ref f)) ∧ PySem.W.isFn X.K (.ref f) = true := by
  obtain ⟨f, fd, ps, h1, h2, h3, h4⟩ := F.ex
  exact ⟨f, (FnOk.raw h1 h4 .nil).imp fun vs H Q E z => by rw [List.append_nil]; exact z, h2, h3⟩
/-! ### a op b, both of the class -/
def rBinO (C : Addr) (sp : Sp) (E : XK) : R2 := fun x y H Q => ∃ a dx vs b dy ws, x = .ref a ∧ y = .ref b ∧ SlX.Slt H a C dx vs ∧ SlX.Slt H b C dy ws ∧ sp [x, y] H Q E
theorem op_binO {op : Operator} (F : DmO X.prog X.w X.K X.mg X.base C (PySem.dunder op.info.2) k S) (hc : PySem.W.selfFirst X.K C = true) (hr : Room k X.A) : OpR X (binaryOp op) (rBinO C (spP X.K S) fun _ _ _ => False) := by
  obtain ⟨f, R, hs, hf⟩ := F.fnR
  intro pins s σ H x y v u Q I rx ry h
  obtain ⟨a, dx, vs, b, dy, ws, rfl, rfl, ha, hb, q⟩ := h
  cases (show v = Value.ref a from rx)
  cases (show u = Value.ref b from ry)
  obtain ⟨sl, od, _, J, _⟩ := SlX.slt_inst I ha
  obtain ⟨sl', od', _, J', _⟩ := SlX.slt_inst I hb
  obtain ⟨mm, hF⟩ := I.fr
  refine PySem.W.binop_K hF I.ok.mod.kin J J'.type hc hs hf ?_
  refine wpAny_mono (wpAny_call (run_fnR (us := [.ref a, .ref b]) (vs := [.ref a, .ref b]) R hr pass0 I (.cons rfl (.cons rfl .nil)) q)) (fun w s' z => ?_) fun _ _ x => x
  obtain ⟨z', H', I', rz, qz⟩ := z
  exact SlX.cmpback rz ⟨z', H', I', rz, qz⟩
theorem does_binO {K : Frag} {E : XK} : Does K (rBinO C (spP K S) E) (fOwn C S) := fun ms H x y d e P Q b rx ry h k => by
  unfold fOwn at h
  split at h
  · obtain ⟨rfl, rfl, h⟩ := h
    obtain ⟨a, dx, vs, fvs, rfl, q1, hx, _⟩ := rx.slots hid_ex
    obtain ⟨a2, dx2, vs2, fvs2, rfl, q2, hx2, _⟩ := ry.slots hid_ex
    refine ⟨a, dx, vs, a2, dx2, vs2, rfl, rfl, slt_in (K := K) hid_ex q1 hx, slt_in (K := K) hid_ex q2 hx2, ms, _, .cons (s := .bo _) rx rfl (.cons (s := .bo _) ry rfl .nil), b, S.mon _ _ _ (fun r hr v H' e3 ro => k _ v H' hr e3 (res_dat b.fresh ro)) h⟩
  · exact h.elim
theorem px_binO {op : Operator} {a b : Expr} {pos : Pos} {ta tb : XT} (F : DmO X.prog X.w X.K X.mg X.base C (PySem.dunder op.info.2) k S) (hc : PySem.W.selfFirst X.K C = true) (hr : Room k X.A) (ha : PE X a (Lb X.K ta)) (hb : PE X b (Lb X.K tb)) : PE X (.BinOp a op b pos) (Li X.K (x2 (fOwn C S) ta tb)) :=
  px_bin (op_binO F hc hr) does_binO ha hb
/-! ### ~a, -a -/
def rUnO (C : Addr) (sp : Sp) (E : XK) : V → Hp → VK → Prop := fun x H Q => ∃ a dx vs, x = .ref a ∧ SlX.Slt H a C dx vs ∧ sp [x] H Q E
theorem un_invO (F : DmO X.prog X.w X.K X.mg X.base C "__invert__" k S) (hr : Room k X.A) : UnR X (unaryOp .Invert) (rUnO C (spP X.K S) fun _ _ _ => False) := by
  obtain ⟨f, R, hs, hf⟩ := F.fnR
  intro pins s σ H x v Q I rx h
  obtain ⟨a, dx, vs, rfl, ha, q⟩ := h
  cases (show v = Value.ref a from rx)
  obtain ⟨sl, od, _, J, _⟩ := SlX.slt_inst I ha
  obtain ⟨mm, hF⟩ := I.fr
  exact PySem.W.ksp_inv hF I.ok.mod.kin J hs hf (wpAny_call (run_fnR (us := [.ref a]) (vs := [.ref a]) R hr pass0 I (.cons rfl .nil) q))
theorem un_negO (F : DmO X.prog X.w X.K X.mg X.base C "__neg__" k S) (hr : Room k X.A) : UnR X (unaryOp .USub) (rUnO C (spP X.K S) fun _ _ _ => False) := by
  obtain ⟨f, R, hs, hf⟩ := F.fnR
  intro pins s σ H x v Q I rx h
  obtain ⟨a, dx, vs, rfl, ha, q⟩ := h
  cases (show v = Value.ref a from rx)
  obtain ⟨sl, od, _, J, _⟩ := SlX.slt_inst I ha
  obtain ⟨mm, hF⟩ := I.fr
  exact PySem.W.ksp_neg hF I.ok.mod.kin J hs hf (wpAny_call (run_fnR (us := [.ref a]) (vs := [.ref a]) R hr pass0 I (.cons rfl .nil) q))
def xOwn1 (C : Addr) (S : SP) (t : XT) : XT := fun Γ P => t Γ fun d => match d with
  | .slo C' fs => C' = C ∧ S.S [.bo (.slo C' fs)] fun r => P r.dat
  | _ => False
theorem un_li {t : XT} (σ : St) (H : Hp) (Q : VK) (h : Li X.K (xOwn1 C S t) σ H Q) : tUn (rUnO C (spP X.K S) fun _ _ _ => False) (Lb X.K t) σ H Q := by
  obtain ⟨H0, ps, hs, Γ, P, se, ht, k⟩ := h
  refine ⟨H0, ps, hs, Γ, _, se, ht, fun d v H2 p e r => ?_⟩
  cases d with
  | slo C' fs =>
    obtain ⟨rfl, p⟩ := p
    obtain ⟨a, dx, vs, fvs, rfl, q1, hx, _⟩ := r.slots hid_ex
    exact ⟨a, dx, vs, rfl, slt_in (K := X.K) hid_ex q1 hx, hs ++ adr Γ, _, .cons (s := .bo _) r rfl .nil, (se.mono e).bs, S.mon _ _ _ (fun r hr v H' e3 ro => k _ v H' hr (e.trans e3) (res_dat (se.mono e).bs.fresh ro)) p⟩
  | _ => exact p.elim
theorem px_invO {a : Expr} {pos : Pos} {t : XT} (F : DmO X.prog X.w X.K X.mg X.base C "__invert__" k S) (hr : Room k X.A) (ha : PE X a (Lb X.K t)) : PE X (.UnaryOp .Invert a pos) (Li X.K (xOwn1 C S t)) := pe_imp (pe_un (un_invO F hr) ha) un_li
theorem px_negO {a : Expr} {pos : Pos} {t : XT} (F : DmO X.prog X.w X.K X.mg X.base C "__neg__" k S) (hr : Room k X.A) (ha : PE X a (Lb X.K t)) : PE X (.UnaryOp .USub a pos) (Li X.K (xOwn1 C S t)) := pe_imp (pe_un (un_negO F hr) ha) un_li
/-! ### v in a -/
def rInO (C : Addr) (sp : Sp) (E : XK) (neg : Bool) : R2 := fun x y H Q => ∃ a dx vs, y = .ref a ∧ SlX.Slt H a C dx vs ∧ sp [y, x] H (fun z H' => ∃ b, z = .bl b ∧ Q (.bl (xor neg b)) H') E
theorem op_inO (F : DmO X.prog X.w X.K X.mg X.base C "__contains__" k S) (hr : Room k X.A) : OpR X (compareOp .In) (rInO C (spP X.K S) (fun _ _ _ => False) false) := by
  obtain ⟨f, R, hs, hf⟩ := F.fnR
  intro pins s σ H x y v u Q I rx ry h
  obtain ⟨a, dx, vs, rfl, ha, q⟩ := h
  cases (show u = Value.ref a from ry)
  obtain ⟨sl, od, _, J, _⟩ := SlX.slt_inst I ha
  obtain ⟨mm, hF⟩ := I.fr
  refine PySem.W.in_K hF I.ok.mod.kin J hs hf ?_
  refine wpAny_mono (wpAny_call (run_fnR (us := [.ref a, v]) (vs := [.ref a, x]) R hr pass0 I (.cons rfl (.cons rx .nil)) q)) (fun w s' z => ?_) fun _ _ x => x
  obtain ⟨z', H', I', rz, b, rfl, qz⟩ := z
  cases (show w = Value.bool b from rz)
  exact wpAny_truthy_bool ⟨.bl b, H', I', rfl, by rw [Bool.false_xor] at qz; exact qz⟩
theorem op_ninO (F : DmO X.prog X.w X.K X.mg X.base C "__contains__" k S) (hr : Room k X.A) : OpR X (compareOp .NotIn) (rInO C (spP X.K S) (fun _ _ _ => False) true) := by
  obtain ⟨f, R, hs, hf⟩ := F.fnR
  intro pins s σ H x y v u Q I rx ry h
  obtain ⟨a, dx, vs, rfl, ha, q⟩ := h
  cases (show u = Value.ref a from ry)
  obtain ⟨sl, od, _, J, _⟩ := SlX.slt_inst I ha
  obtain ⟨mm, hF⟩ := I.fr
  refine PySem.W.notIn_K hF I.ok.mod.kin J hs hf ?_
  refine wpAny_mono (wpAny_call (run_fnR (us := [.ref a, v]) (vs := [.ref a, x]) R hr pass0 I (.cons rfl (.cons rx .nil)) q)) (fun w s' z => ?_) fun _ _ x => x
  obtain ⟨z', H', I', rz, b, rfl, qz⟩ := z
  cases (show w = Value.bool b from rz)
  exact wpAny_truthy_bool ⟨.bl (!b), H', I', rfl, by rw [Bool.true_xor] at qz; exact qz⟩
def fInO (C : Addr) (S : SP) (neg : Bool) : F2 := fun d e P => match e with
  | .slo C' fs => C' = C ∧ S.S [.bo (.slo C' fs), .bo d] fun r => ∃ b, r = .d (.bl b) ∧ P (.bl (xor neg b))
  | _ => False
theorem does_inO {K : Frag} {E : XK} {neg : Bool} : Does K (rInO C (spP K S) E neg) (fInO C S neg) := fun ms H x y d e P Q b rx ry h k => by
  unfold fInO at h
  split at h
  · obtain ⟨rfl, h⟩ := h
    obtain ⟨a2, dx2, vs2, fvs2, rfl, q2, hx2, _⟩ := ry.slots hid_ex
    refine ⟨a2, dx2, vs2, rfl, slt_in (K := K) hid_ex q2 hx2, ms, _, .cons (s := .bo _) ry rfl (.cons (s := .bo _) rx rfl .nil), b, S.mon _ _ _ (fun r hr v H' e3 ro => ?_) h⟩
    obtain ⟨z, rfl, hp⟩ := hr
    have ro' : Rep K (hid ms H') v (.bl z) := ro
    cases ro'
    exact ⟨z, rfl, k _ _ H' hp e3 (.bl _)⟩
  · exact h.elim
section
variable {a b : Expr} {pos : Pos} {ta tb : XT}
theorem px_inO (F : DmO X.prog X.w X.K X.mg X.base C "__contains__" k S) (hr : Room k X.A) (ha : PE X a (Lb X.K ta)) (hb : PE X b (Lb X.K tb)) (hm : behindInMarks .In b = false := by rfl) : PE X (.Compare a [.In] [b] pos) (Li X.K (x2 (fInO C S false) ta tb)) := px_cmp (op_inO F hr) does_inO ha hb hm
theorem tx_inO (F : DmO X.prog X.w X.K X.mg X.base C "__contains__" k S) (hr : Room k X.A) (ha : PE X a (Lb X.K ta)) (hb : PE X b (Lb X.K tb)) (hm : behindInMarks .In b = false := by rfl) : PT X (.Compare a [.In] [b] pos) (Lt X.K (b2 (fInO C S false) ta tb)) := tx_cmp (op_inO F hr) does_inO ha hb hm
theorem px_ninO (F : DmO X.prog X.w X.K X.mg X.base C "__contains__" k S) (hr : Room k X.A) (ha : PE X a (Lb X.K ta)) (hb : PE X b (Lb X.K tb)) (hm : behindInMarks .NotIn b = false := by rfl) : PE X (.Compare a [.NotIn] [b] pos) (Li X.K (x2 (fInO C S true) ta tb)) := px_cmp (op_ninO F hr) does_inO ha hb hm
theorem tx_ninO (F : DmO X.prog X.w X.K X.mg X.base C "__contains__" k S) (hr : Room k X.A) (ha : PE X a (Lb X.K ta)) (hb : PE X b (Lb X.K tb)) (hm : behindInMarks .NotIn b = false := by rfl) : PT X (.Compare a [.NotIn] [b] pos) (Lt X.K (b2 (fInO C S true) ta tb)) := tx_cmp (op_ninO F hr) does_inO ha hb hm
end
end
end Kb
set_option Elab.async false
set_option linter.all false
set_option maxRecDepth 100000
set_option maxHeartbeats 1000000
/-! Kb35: bool(e), bool(e) by an own __bool__, an own == with things of other types. -/
namespace Kb
open PySem PySem.Spec L2
open PyProof.Rows hiding St
set_option autoImplicit false
section
variable {prog : Program} {w : World} {A : Around} {E : Value → Shared → Prop} {s : Shared}
theorem bool_of {v : Value} {Q : Value → Shared → Prop} (h : wpAny (model prog w) A.in1.in1 (truthy v) (fun b s₁ => Q (.bool b) s₁) E s) : wpAny (model prog w) A (call (.type "bool") [v]) Q E s := by
  refine callType_codes (T := "bool") (Bi := Builtin.«object.__init__») (Q₁ := fun r s₁ => ∃ b, r = Value.bool b ∧ Q r s₁) PySem.F.called_bool (PySem.F.typeCall_bool_1 _) PySem.F.entry_object_init ?_ ?_
  · refine codeAny_of_tree ?_
    show wpAny _ A.in1.in1 (do checkBuiltinCall "bool.__new__" ⟨[.type "bool", v], []⟩; again (.builtin "bool.__new__" ⟨[.type "bool", v], []⟩)) _ _ s
    refine wpAny_bind (wpAny_of_eq (PySem.F.newCall_bool_1 _) (wpAny_pure ⟨plainId_quiet (by decide +kernel) _, codeAny_builtin PySem.F.entry_bool_new ?_⟩))
    rw [Around.under_plainId (by decide +kernel) _]
    unfold Builtin.«bool.__new__»
    refine wpAny_bind (wpAny_of_eq (a := true) (by first | rfl | kernel_rfl | (unfold isType; rw [isSubtype_type]; kernel_rfl)) ?_)
    refine PySem.W.KFB.if_not rfl ?_
    refine wpAny_bind (wpAny_of_eq (a := true) PySem.F.conv_sub_bool ?_)
    refine PySem.W.KFB.if_not rfl ?_
    refine wpAny_bind (wpAny_of_eq (a := [v]) (by first | rfl | kernel_rfl) ?_)
    dsimp only
    refine wpAny_bind (wpAny_mono h (fun b s₁ hq => ?_) fun _ _ y => y)
    exact wpAny_pure ⟨b, rfl, hq⟩
  · rintro obj s₁ ⟨b, rfl, hq⟩
    exact ⟨PySem.typeIs_bool _ _, PySem.F.args_object_init_2 _ _, object_init_meets PySem.F.called_bool.init.lookup PySem.F.called_bool.made (by decide) prog w A.in1 _ s₁ ⟨PySem.typeIs_bool _ _, rfl, hq⟩⟩
theorem tru_own {M : Model} {K : PySem.W.Frag} {x C f : Addr} {ox : Obj} {od : Option Obj} {Q : Bool → Shared → Prop} (X : K.In s.heap) (I : PySem.W.InstAt s.heap x ox C od) (hs : PySem.W.findIn K (.ref C) "__bool__" = some (some (.ref f))) (hf : PySem.W.isFn K (.ref f) = true)
    (h : wpAny M A (call (.ref f) [.ref x]) (fun r s' => ∃ b, r = .bool b ∧ Q b s') E s) : wpAny M A (truthy (.ref x)) Q E s := by
  unfold truthy
  first
    | (refine wpAny_bind (m := callSpecial? (.ref x) (Str.ofString "__bool__")) (PySem.W.special_fn X I hs (beq_iff_eq.mp hf) (wpAny_mono h (fun r s' hr => ?_) fun _ _ y => y)))
    | (refine wpAny_bind (wpAny_pure ?_); refine wpAny_bind (m := callSpecial? (.ref x) (Str.ofString "__bool__")) (PySem.W.special_fn X I hs (beq_iff_eq.mp hf) (wpAny_mono h (fun r s' hr => ?_) fun _ _ y => y)))
  obtain ⟨b, rfl, hq⟩ := hr
  exact wpAny_pure hq
end
section
variable {X : Cx} {pins : List (Addr × Obj)} {σ : St} {H : Hp} {s : Shared}
theorem tru_at {A : Around} {E : Value → Shared → Prop} {x : V} {v : Value} {k : Bool} {Q : Bool → Shared → Prop} (I : Inv X pins σ H s) (rx : RelV x v) (e : TruV X.K x H k) (q : ∀ s', Inv X pins σ H s' → Q k s') : wpAny (model X.prog X.w) A (truthy v) Q E s := by
  have hl := line63
  have hs : sizeLine = 16777216 := sizeLine_eq
  cases x with
  | non =>
    cases rx
    have e' : k = false := e
    subst e'
    exact truthy_none (q _ I)
  | bl b =>
    cases rx
    have e' : k = b := e
    subst e'
    exact wpAny_truthy_bool (q _ I)
  | int i =>
    obtain ⟨t, rfl⟩ := rx
    have e' : k = (i != 0) := e
    subst e'
    exact PySem.P.truthy_int (q _ I)
  | str y =>
    obtain ⟨t, rfl⟩ := rx
    obtain ⟨hy, e'⟩ : y.length ≤ sizeLine ∧ k = ((y.length : Int) != 0) := e
    subst e'
    exact PySem.P.truthy_str (by omega) (q _ (I.tok _))
  | byt y =>
    obtain ⟨t, rfl⟩ := rx
    obtain ⟨hy, e'⟩ : y.size ≤ sizeLine ∧ k = ((y.size : Int) != 0) := e
    subst e'
    exact PySem.W.truthy_bytes (by omega) (q _ (I.tok _))
  | ref p =>
    cases rx
    have e' : (∃ xs, SqL X.K H p xs ∧ k = !xs.isEmpty) ∨ (∃ xs, SqT X.K H p xs ∧ k = !xs.isEmpty) ∨ ∃ kvs, H p = some (.dK kvs) ∧ k = !kvs.isEmpty := e
    rcases e' with ⟨xs, hx, e'⟩ | ⟨xs, hx, e'⟩ | ⟨kvs, hx, e'⟩
    · subst e'
      obtain ⟨its, r, pl, hz⟩ := I.list hx
      have hlen := r.length
      exact wpAny_truthy_list pl.isList (by simp only [List.size_toArray]; omega) (by rw [isEmpty_of r]; exact q _ (I.tok _))
    · subst e'
      obtain ⟨its, r, pl, hz⟩ := I.tuple hx
      have hlen := r.length
      exact truthy_tuple pl (by simp only [List.size_toArray]; omega) (by rw [isEmpty_of r]; exact q _ (I.tok _))
    · subst e'
      obtain ⟨hz, hS, vs, r, m⟩ : kvs.length ≤ sizeLine ∧ (p == sysModules) = false ∧ ∃ vs, KV kvs vs ∧ s.heap.DictOf (mixKind X.prog X.w) p vs := I.hok p _ hx
      have hlen : kvs.length = vs.length := Paired.length r
      exact wpAny_truthy_dict hS m (by omega) (by rw [isEmpty_kv r]; exact q _ (I.tok _))
  | _ => exact (show False from e).elim
end
/-! ### bool(e) -/
section
variable {X : Cx} {C : Addr} {k : Nat} {S : SP}
def rBool (K : PySem.W.Frag) : List V → Hp → VK → Prop := fun xs H Q => ∃ x k, xs = [x] ∧ TruV K x H k ∧ Q (.bl k) H
theorem call_boolA : CallR X (.type "bool") (rBool X.K) := by
  intro pins s σ H xs us Q I r h
  obtain ⟨x, k, rfl, e, q⟩ := h
  obtain ⟨u, rfl, ru⟩ := r.one
  exact bool_of (tru_at I ru e fun s' I' => ⟨.bl k, H, I', rfl, q⟩)
def fBool : F1 := fun ds P => match ds with
  | [.non] => P (.bl false)
  | [.bl b] => P (.bl b)
  | [.int i] => P (.bl (i != 0))
  | [.lst xs] => P (.bl (!xs.isEmpty))
  | [.tup xs] => P (.bl (!xs.isEmpty))
  | _ => False
theorem isE_reps {K : Frag} {H : Hp} {vs : List V} {ds : List D} (r : Reps K H vs ds) : (!vs.isEmpty) = !ds.isEmpty := by
  cases r <;> rfl
theorem does_bool {K : Frag} : DoesC K (rBool K) fBool := fun ms H xs ds P Q b rr h k => by
  unfold fBool at h
  split at h
  · obtain ⟨v, rfl, r1⟩ := rr.one
    cases r1.nonv
    exact ⟨_, _, rfl, rfl, k _ _ H h (Same.refl H) (.bl _)⟩
  · obtain ⟨v, rfl, r1⟩ := rr.one
    cases r1.blv
    exact ⟨_, _, rfl, rfl, k _ _ H h (Same.refl H) (.bl _)⟩
  · obtain ⟨v, rfl, r1⟩ := rr.one
    cases r1.intv
    exact ⟨_, _, rfl, rfl, k _ _ H h (Same.refl H) (.bl _)⟩
  · obtain ⟨v, rfl, r1⟩ := rr.one
    obtain ⟨a, vs, rfl, h1, h2⟩ := r1.list hid_ex
    exact ⟨_, _, rfl, .inl ⟨vs, .inl (.inl h1), rfl⟩, k _ _ H h (Same.refl H) (by rw [isE_reps h2]; exact .bl _)⟩
  · obtain ⟨v, rfl, r1⟩ := rr.one
    obtain ⟨a, vs, rfl, h1, h2⟩ := r1.tuple hid_ex
    exact ⟨_, _, rfl, .inr (.inl ⟨vs, h1, rfl⟩), k _ _ H h (Same.refl H) (by rw [isE_reps h2]; exact .bl _)⟩
  · exact h.elim
theorem px_bool {e : Expr} {p pos : Pos} {t : XT} (hg : Gl X "bool") (hm : X.mg "bool" = none) (h : PE X e (Lb X.K t)) (he : starEach [e] X.env = (false, eval e X.env) :: starEach [] X.env := by rfl) (hpl : (backTo pos (starEach [] X.env)).any (·.1) = false := by rfl) :
    PE X (.Call (.Name "bool" p) [e] [] pos) (Li X.K (xCall fBool (aCons t aNil))) := px_callTy call_boolA does_bool hg hm (by decide +kernel) (aw_cons h aw_nil he) (by decide) (by decide) he hpl
/-- bool(x) of an instance -/
def rBoolO (C : Addr) (sp : Sp) (E : XK) : List V → Hp → VK → Prop := fun xs H Q => ∃ a dx vs, xs = [V.ref a] ∧ SlX.Slt H a C dx vs ∧ sp [.ref a] H (fun z H' => ∃ b, z = .bl b ∧ Q (.bl b) H') E
theorem call_boolO (F : DmO X.prog X.w X.K X.mg X.base C "__bool__" k S) (hr : Room (k + 2) X.A) : CallR X (.type "bool") (rBoolO C (spP X.K S) fun _ _ _ => False) := by
  obtain ⟨f, R, hs, hf⟩ := F.fnR
  intro pins s σ H xs us Q I r h
  obtain ⟨a, dx, vs, rfl, hsl, q⟩ := h
  obtain ⟨u, rfl, ru⟩ := r.one
  cases (show u = Value.ref a from ru)
  obtain ⟨sl, od, _, J, _⟩ := SlX.slt_inst I hsl
  have hr2 : Room k X.A.in1.in1 := (show Room (k + 1) X.A.in1 from Room.in1 hr).in1
  refine bool_of (tru_own I.kIn J hs hf (wpAny_mono (wpAny_call (SlX.run_at (us := [.ref a]) (ws := [.ref a]) R hr2 I.env0.in1.in1 pass0 I (.cons rfl .nil) q)) (fun w s' z => ?_) fun _ _ x => x))
  obtain ⟨z', H', I', rz, b, rfl, qz⟩ := z
  cases (show w = Value.bool b from rz)
  exact ⟨b, rfl, .bl b, H', I', rfl, qz⟩
def fBoolO (C : Addr) (S : SP) : F1 := fun ds P => match ds with
  | [.slo C' fs] => C' = C ∧ S.S [.bo (.slo C' fs)] fun r => ∃ b, r = .d (.bl b) ∧ P (.bl b)
  | _ => False
theorem does_boolO {K : Frag} {E : XK} : DoesC K (rBoolO C (spP K S) E) (fBoolO C S) := fun ms H xs ds P Q b rr h k => by
  unfold fBoolO at h
  split at h
  · obtain ⟨rfl, h⟩ := h
    obtain ⟨v, rfl, r1⟩ := rr.one
    obtain ⟨a2, dx2, vs2, fvs2, rfl, q2, hx2, _⟩ := r1.slots hid_ex
    refine ⟨a2, dx2, vs2, rfl, slt_in (K := K) hid_ex q2 hx2, ms, _, .cons (s := .bo _) r1 rfl .nil, b, S.mon _ _ _ (fun r hr v H' e3 ro => ?_) h⟩
    obtain ⟨z, rfl, hp⟩ := hr
    have ro' : Rep K (hid ms H') v (.bl z) := ro
    cases ro'
    exact ⟨z, rfl, k _ _ H' hp e3 (.bl _)⟩
  · exact h.elim
theorem px_boolO {e : Expr} {p pos : Pos} {t : XT} (F : DmO X.prog X.w X.K X.mg X.base C "__bool__" k S) (hr : Room (k + 2) X.A) (hg : Gl X "bool") (hm : X.mg "bool" = none) (h : PE X e (Lb X.K t)) (he : starEach [e] X.env = (false, eval e X.env) :: starEach [] X.env := by rfl) (hpl : (backTo pos (starEach [] X.env)).any (·.1) = false := by rfl) :
    PE X (.Call (.Name "bool" p) [e] [] pos) (Li X.K (xCall (fBoolO C S) (aCons t aNil))) := px_callTy (call_boolO F hr) does_boolO hg hm (by decide +kernel) (aw_cons h aw_nil he) (by decide) (by decide) he hpl
/-! ### an own == with a thing of another type -/
def rEqT (K : PySem.W.Frag) (C : Addr) (sp : Sp) (E : XK) : R2 := fun x y H Q => ∃ a dx vs T, x = .ref a ∧ SlX.Slt H a C dx vs ∧ TyX K H y T ∧ PySem.W.notFirst K C T = true ∧ sp [x, y] H Q E
theorem op_eqT (F : DmO X.prog X.w X.K X.mg X.base C "__eq__" k S) (hr : Room k X.A) : OpR X (compareOp .Eq) (rEqT X.K C (spP X.K S) fun _ _ _ => False) := by
  obtain ⟨f, R, hs, hf⟩ := F.fnR
  intro pins s σ H x y v u Q I rx ry h
  obtain ⟨a, dx, vs, T, rfl, ha, hb, hn, q⟩ := h
  cases (show v = Value.ref a from rx)
  obtain ⟨sl, od, _, J, _⟩ := SlX.slt_inst I ha
  obtain ⟨PP, kx, hP, _⟩ := kit_of I ry hb
  obtain ⟨m, hF⟩ := I.fr
  show wpAny _ _ (richCompare .Eq (.ref a) u) _ _ _
  refine PySem.W.cmp_K (op := .Eq) (tb := T) hr.units0 hF I.ok.mod.kin J (kx.ty _ _ I.kIn hP) hn hs hf ?_
  refine wpAny_mono (wpAny_call (run_fnR (us := [.ref a, u]) (vs := [.ref a, y]) R hr pass0 I (.cons rfl (.cons ry .nil)) q)) (fun w s' z => ?_) fun _ _ x => x
  obtain ⟨z', H', I', rz, qz⟩ := z
  exact SlX.cmpback rz ⟨z', H', I', rz, qz⟩
def fOwnT (K : Frag) (C : Addr) (S : SP) : F2 := fun d e P => match d with
  | .slo C1 f1 => C1 = C ∧ ∃ m, e.ty = some m ∧ PySem.W.notFirst K C (.type m) = true ∧ S.S [.bo (.slo C1 f1), .bo e] fun r => P r.dat
  | _ => False
theorem does_eqT {K : Frag} {E : XK} : Does K (rEqT K C (spP K S) E) (fOwnT K C S) := fun ms H x y d e P Q b rx ry h k => by
  unfold fOwnT at h
  split at h
  · obtain ⟨rfl, m, hm, nf, h⟩ := h
    obtain ⟨a, dx, vs, fvs, rfl, q1, hx, _⟩ := rx.slots hid_ex
    exact ⟨a, dx, vs, _, rfl, slt_in (K := K) hid_ex q1 hx, rep_ty hid_ex ry hm, nf, ms, _, .cons (s := .bo _) rx rfl (.cons (s := .bo _) ry rfl .nil), b, S.mon _ _ _ (fun r hr v H' e3 ro => k _ v H' hr e3 (res_dat b.fresh ro)) h⟩
  · exact h.elim
theorem px_eqT {a b : Expr} {pos : Pos} {ta tb : XT} (F : DmO X.prog X.w X.K X.mg X.base C "__eq__" k S) (hr : Room k X.A) (ha : PE X a (Lb X.K ta)) (hb : PE X b (Lb X.K tb)) : PE X (.Compare a [.Eq] [b] pos) (Li X.K (x2 (fOwnT X.K C S) ta tb)) := px_cmp (op_eqT F hr) does_eqT ha hb
theorem tx_eqT {a b : Expr} {pos : Pos} {ta tb : XT} (F : DmO X.prog X.w X.K X.mg X.base C "__eq__" k S) (hr : Room k X.A) (ha : PE X a (Lb X.K ta)) (hb : PE X b (Lb X.K tb)) : PT X (.Compare a [.Eq] [b] pos) (Lt X.K (b2 (fOwnT X.K C S) ta tb)) := tx_cmp (op_eqT F hr) does_eqT ha hb
theorem DmE.o {P : Program} {w : World} {K : Frag} {mg : Str → Option Value} {base : Heap} (F : DmE P w K mg base C k S) : DmO P w K mg base C "__eq__" k S := by
  obtain ⟨f, fd, ps, h1, h2, h3, h4, _⟩ := F.ex
  exact ⟨f, fd, ps, h1, h2, h3, h4⟩
theorem tx_eqO {a b : Expr} {pos : Pos} {ta tb : XT} (F : DmE X.prog X.w X.K X.mg X.base C k S) (hr : Room k X.A) (ha : PE X a (Lb X.K ta)) (hb : PE X b (Lb X.K tb)) : PT X (.Compare a [.Eq] [b] pos) (Lt X.K (b2 (fOwn C S) ta tb)) := by
  obtain ⟨_, _, _, _, _, _, _, nf⟩ := F.ex
  exact tx_cmp (op_eqO F hr) (does_own nf) ha hb
end
end Kb
set_option Elab.async false
set_option linter.all false
set_option maxRecDepth 100000
set_option maxHeartbeats 1000000
/-! Kb36: a class with slots called where nothing is raised; called without arguments. -/
namespace Kb
open PySem L2
open PyProof.Rows hiding St
set_option autoImplicit false
section
variable {X : Cx} {C : Addr} {k n : Nat} {ks : List Str}
def xMkL (C : Addr) (S : SIS) (n m : Nat) (gS : List Slot → List Slot → List Slot) (t tk : AT) : XT := fun Γ P => t Γ fun as => tk Γ fun bs => as.length = n ∧ bs.length = m ∧ S.S (gS as bs) (fun fs => P (.slo C fs)) fun _ _ => False
theorem pmakeL_li {S : SIS} {m : Nat} {gV : List V → List V → List V} {gS : List Slot → List Slot → List Slot} {t tk : AT} (ar : ArgRel X.K n m gV gS) (σ : St) (H : Hp) (Q : VK) (h : Li X.K (xMkL C S n m gS t tk) σ H Q) : tMakeL C n m (spIL X.K C S) gV (WE W0) (LaX X.K t) (LaX X.K tk) σ H Q := by
  obtain ⟨H0, ps, hs, Γ, P, se, ht, k⟩ := h
  refine ⟨H0, ps, hs, Γ, _, se, ht, fun as vs H1 p e1 r1 => ?_⟩
  refine ⟨H0, ps, hs, Γ, _, se.mono e1, p, fun bs zs H2 p2 e2 r2 => ?_⟩
  obtain ⟨la, lb, p⟩ := p2
  refine ⟨r1.len.trans la, r2.len.trans lb, fun x dx nx nd ne => ?_⟩
  have se2 := (se.mono e1).mono e2
  have eN : Ex H2 (mkH H2 x C dx) := mkH_ex nx nd
  have nms : x ∉ hs ++ adr Γ := se2.bs.new nx
  have nds : dx ∉ hs ++ adr Γ := se2.bs.new nd
  have eH : Ex (hid (hs ++ adr Γ) H2) (hid (x :: (hs ++ adr Γ)) (mkH H2 x C dx)) := hid_fresh nx eN
  have eG : Ex H2 (hid [x] (mkH H2 x C dx)) := fun a o q => (hid_fresh (ms := []) nx eN) a o (by rw [hid_ni (by simp)]; exact q)
  have g1 : ArgsG X.K (hid (x :: (hs ++ adr Γ)) (mkH H2 x C dx)) (hid [x] (mkH H2 x C dx)) (mkH H2 x C dx) vs as :=
    (ArgsG.mk (K := X.K) (B := hid (hs ++ adr Γ) H1) (G := H1) (H := H1) r1.len r1.ok).mono ((hid_ex2 e2).trans eH) (e2.trans eG) (e2.trans eN)
  have g2 : ArgsG X.K (hid (x :: (hs ++ adr Γ)) (mkH H2 x C dx)) (hid [x] (mkH H2 x C dx)) (mkH H2 x C dx) zs bs :=
    (ArgsG.mk (K := X.K) (B := hid (hs ++ adr Γ) H2) (G := H2) (H := H2) r2.len r2.ok).mono eH eG eN
  obtain ⟨us, hu, g3⟩ := ar _ _ _ (.ref x) vs zs as bs (r1.len.trans la) (r2.len.trans lb) g1 g2
  have hd : mkH H2 x C dx dx = some (.xd []) := by
    unfold mkH
    rw [upd_ne ne, upd_same]
  have hdh : hid (x :: (hs ++ adr Γ)) (mkH H2 x C dx) dx = some (.xd []) := by
    rw [hid_ni (fun m => (List.mem_cons.mp m).elim ne nds)]
    exact hd
  refine ⟨x :: (hs ++ adr Γ), x, dx, us, gS as bs, hu, g3, fun a m => ?_, List.mem_cons_self, upd_same, hdh, S.mon _ _ _ _ _ (fun fs hf H' fr ⟨dx', ws, fvs, g1, gx, gF, g2, g3⟩ => ⟨rfl, ?_⟩) (fun C' fs hf d H' fr xd => hf.elim) p⟩
  · rcases List.mem_cons.mp m with rfl | m
    · rw [show mkH H2 a C dx a = some (SlX.SlO a C dx []) from upd_same]; intro z; cases z
    · exact (se2.bs.mono eN) a m
  · have e3 : Ex H2 H' := fun a o q => fr a o (ne_of_none q nx) (eN a o q)
    have e4 := (e1.trans e2).trans e3
    have sub : Ex (hid (x :: (hs ++ adr Γ)) H') (hid (hs ++ adr Γ) H') := hid_sub fun a m => List.mem_cons_of_mem _ m
    exact k _ _ H' hf e4 (.slo (by rw [hid_ni nms]; exact g1) (sub _ _ gx) gF g2 (g3.mono sub))
theorem px_makeL {x : Str} {S : SIS} {gS : List Slot → List Slot → List Slot} {e : Expr} {es : List Expr} {kws : List Keyword} {p pos : Pos} {t tk : AT} (F : DcL X.prog X.w X.K X.mg X.base x C k S n ks gS) (hr : Room (k + 1) X.A) (ha : PA X (e :: es) (LaX X.K t)) (hkw : PK X kws (LaX X.K tk)) (hg : Gl X x := by rfl)
    (hall : (backToKw pos (keywordEach kws X.env)).all (·.1.isSome) = true := by rfl) (hks : (backToKw pos (keywordEach kws X.env)).filterMap (·.1) = ks := by rfl) (hdb : (x == ("__debug__" : Str)) = false := by decide)
    (he : starEach (e :: es) X.env = (false, eval e X.env) :: starEach es X.env := by rfl) (hpl : ((backTo pos (starEach (e :: es) X.env)).any (·.1) || (backToKw pos (keywordEach kws X.env)).any (·.1.isNone)) = false := by rfl) : PE X (.Call (.Name x p) (e :: es) kws pos) (Li X.K (xMkL C S n ks.length gS t tk)) := by
  obtain ⟨f, fd, ps, g, gV, h1, h2, h3, h4, h5⟩ := F.ex
  exact pe_imp (pe_makeL h2 h1 hr hg h3 h4 (fun σ => passAt takes0 σ) ha hkw hall hks hdb he hpl) (pmakeL_li h5)
/-- X() -/
theorem pe_makeL0 {CX : CXT} {E : St → XK} {x : Str} {p pos : Pos} {f : Addr} {fd : FuncData} {ps : List Str} {sp : Sp} {g : List Value → List Value → List Value} {gV : List V → List V → List V} (mk : Mk X.K C f) (fo : FnOk X.prog X.w X.K X.mg X.base CX k f fd ps sp) (room : Room (k + 1) X.A) (hg : Gl X x) (hm : X.mg x = some (.ref C)) (hb : KBn X.K fd ps 1 [] g gV) (pas : ∀ σ, PassesAt CX X σ (E σ))
    (hdb : (x == ("__debug__" : Str)) = false) : PE X (.Call (.Name x p) [] [] pos) (tMakeL C 0 0 sp gV E tNil tNil) := by
  refine ⟨fun pins s σ H Q I h => ?_⟩
  refine wpAny_Call_Name_kw (ld_glob I hg hm ?_ hdb)
  exact PySem.W.callWith_K0 I.kIn mk.kp (run_makeL (us := []) (ws := []) (ks := []) mk fo room hb (pas σ) I .nil .nil rfl rfl h.2.2)
theorem nil_la (σ : St) (H : Hp) (Q : List V → Hp → Prop) (h : LaX X.K axNil σ H Q) : tNil σ H Q := by
  obtain ⟨H0, ps, hs, Γ, P, se, ht, k⟩ := h
  exact k [] [] H ht (Same.refl H) .nil
theorem px_makeL0 {x : Str} {S : SIS} {gS : List Slot → List Slot → List Slot} {p pos : Pos} (F : DcL X.prog X.w X.K X.mg X.base x C k S 0 [] gS) (hr : Room (k + 1) X.A) (hg : Gl X x := by rfl) (hdb : (x == ("__debug__" : Str)) = false := by decide) : PE X (.Call (.Name x p) [] [] pos) (Li X.K (xMkL C S 0 0 gS axNil axNil)) := by
  obtain ⟨f, fd, ps, g, gV, h1, h2, h3, h4, h5⟩ := F.ex
  refine pe_imp (pe_makeL0 h2 h1 hr hg h3 h4 (fun σ => passAt takes0 σ) hdb) fun σ H Q h => ?_
  obtain ⟨l1, l2, q⟩ := nil_la σ H _ (let ⟨H0, ps, hs, Γ, P, se, ht, k⟩ := pmakeL_li h5 σ H Q h; ⟨H0, ps, hs, Γ, P, se, ht, fun as vs H2 p e r => nil_la σ H2 _ (k as vs H2 p e r)⟩)
  exact ⟨l1, l2, q⟩
end
end Kb
set_option Elab.async false
set_option linter.all false
set_option maxRecDepth 100000
set_option maxHeartbeats 1000000
/-! Kb37: isinstance(e, C), C a class with slots, e of it or of a type. -/
namespace Kb
open PySem L2
open PyProof.Rows hiding St
set_option autoImplicit false
def fIsM (K : Frag) (C : Addr) : F1 := fun ds P => match ds with
  | [.slo C' _, .raw (.ref T)] => C' = C ∧ ∃ b, PySem.W.kitOne K (.ref C) (.ref T) = some b ∧ P (.bl b)
  | [d, .raw (.ref T)] => ∃ m b, d.ty = some m ∧ PySem.W.kitOne K (.type m) (.ref T) = some b ∧ P (.bl b)
  | _ => False
def rIsM (K : Frag) : List V → Hp → VK → Prop := fun xs H Q => (∃ u, SlX.rIsiSl K u xs H Q) ∨ rIsi K xs H Q
theorem cr_isM {X : Cx} : CallR X (.builtin "isinstance") (rIsM X.K) := fun pins s σ H xs us Q I r h => h.elim (fun ⟨u, h⟩ => SlX.call_isiSl u pins s σ H xs us Q I r h) fun h => call_isi pins s σ H xs us Q I r h
theorem does_isM {K : Frag} {C : Addr} (c : SlX.SCls K C) (ci : SlX.SIsi K C) : DoesC K (rIsM K) (fIsM K C) := fun ms H xs ds P Q b rr h k => by
  unfold fIsM at h
  split at h
  · obtain ⟨rfl, z, h2, h3⟩ := h
    obtain ⟨v, w, rfl, r1, r2⟩ := rr.two
    obtain ⟨a, dx, vs, fvs, rfl, q1, hx, _⟩ := r1.slots hid_ex
    cases r2 with
    | im r2 =>
      cases r2
      exact .inl ⟨_, a, _, dx, vs, _, z, rfl, rfl, fun w e => e, slt_in (K := K) hid_ex q1 hx, c, ci, h2, k _ _ H h3 (Same.refl H) (.bl _)⟩
  · obtain ⟨m, z, h1, h2, h3⟩ := h
    obtain ⟨v, w, rfl, r1, r2⟩ := rr.two
    cases r2 with
    | im r2 =>
      cases r2
      exact .inr ⟨v, _, _, _, z, rfl, .own _, rep_ty hid_ex r1 h1, h2, k _ _ H h3 (Same.refl H) (.bl _)⟩
  · exact h.elim
theorem px_isM {X : Cx} {e c : Expr} {p pos : Pos} {t u : XT} {C : Addr} (cl : SlX.SCls X.K C) (ci : SlX.SIsi X.K C) (hg : Gl X "isinstance") (hm : X.mg "isinstance" = none) (h : PE X e (Lb X.K t)) (hc : PE X c (Lb X.K u)) (he : starEach [e, c] X.env = (false, eval e X.env) :: starEach [c] X.env := by rfl)
    (he2 : starEach [c] X.env = (false, eval c X.env) :: starEach [] X.env := by rfl) (hpl : (backTo pos (starEach [c] X.env)).any (·.1) = false := by rfl) :
    PE X (.Call (.Name "isinstance" p) [e, c] [] pos) (Li X.K (xCall (fIsM X.K C) (aCons t (aCons u aNil)))) := px_callB cr_isM (does_isM cl ci) hg hm (by decide +kernel) (aw_cons h (aw_cons hc aw_nil he2) he) (by decide) (by decide) he hpl
end Kb
set_option Elab.async false
set_option linter.all false
set_option maxRecDepth 100000
set_option maxHeartbeats 1000000
/-! Kb38: arguments in their places (keyword-only defaults). -/
namespace Kb
open PySem L2
set_option autoImplicit false
theorem arg_m1 {K : PySem.W.Frag} {n m : Nat} : ArgRel K n m (fun vs _ => vs ++ [.bl false]) (fun as _ => as ++ [.im (.bl false)]) := fun B G H v0 vs zs as bs _ _ a _ => ⟨vs ++ [.bl false], rfl, a.append (.cons (v := .bl false) (s := .im (.bl false)) (show Rep K B (.bl false) (.bl false) from .bl false) rfl .nil)⟩
theorem arg_z0 {K : PySem.W.Frag} {a : Addr} (h : tuE K a = true) : ArgRel K 0 0 (fun vs _ => vs ++ ([.ref a] ++ [.bl false])) (fun _ _ => [.bo (.tup []), .im (.bl false)]) := fun B G H v0 vs zs as bs hv _ _ _ => ⟨[.ref a, .bl false], by
  have e : vs = [] := List.length_eq_zero_iff.mp hv
  rw [e]
  rfl, .cons (v := .ref a) (s := .bo (.tup [])) (show RepW K B G (.ref a) (.tup []) from .im (.tup (tuE_ok h B) .nil)) rfl (.cons (v := .bl false) (s := .im (.bl false)) (show Rep K B (.bl false) (.bl false) from .bl false) rfl .nil)⟩
end Kb
set_option Elab.async false
set_option linter.all false
set_option maxRecDepth 100000
set_option maxHeartbeats 1000000
/-! Kb39: defs with a star parameter, static methods, `is` of truth values, a def that may raise called where it does not. -/
namespace Kb
open PySem PySem.Spec L2
open PyProof.Rows hiding St
set_option autoImplicit false
/-! ### def f(*v) -/
def spSt (K : Frag) (S : SPX) : Sp := fun vs H Q E => ∃ hs ds, Reps K (hid hs H) vs ds ∧ Bs hs H ∧ ds.length ≤ sizeLine ∧ S.S [.im (.tup ds)] (fun r => ∀ v H', Ex H H' → ResOk K H hs H' v r → Q v H') fun C fs => ∀ d H', Ex H H' → ExD K hs H' d fs → E (.ref C) d H'
section
variable {P : Program} {w : World} {K : Frag} {mg : Str → Option Value} {base : Heap}
theorem spSt_of {S : SPX} {vs : List V} {H : Hp} {Q : VK} {E : XK} (h : spSt K S vs H Q E) : ∃ ws rest, vs = ws ++ rest ∧ ws.length = ([] : List Str).length ∧ rest.length ≤ sizeLine ∧ ∀ p, H p = none → spX K S (ws ++ [V.ref p]) (upd H p (.tup rest)) Q E := by
  obtain ⟨hs, ds, r, b, hl, q⟩ := h
  refine ⟨[], vs, rfl, rfl, by rw [r.length]; exact hl, fun p hp => ?_⟩
  have e : Ex H (upd H p (.tup vs)) := Ex.new hp
  have np : p ∉ hs := fun m => b p m hp
  refine ⟨hs, [.im (.tup ds)], .cons (s := .im (.tup ds)) ?_ rfl .nil, b.mono e, S.mon _ _ _ _ _ (fun r hr v H' e3 ro => hr v H' (e.trans e3) (res_back e ro)) (fun C fs hf d H' e3 xd => hf d H' (e.trans e3) xd) q⟩
  show Rep K (hid hs (upd H p (.tup vs))) (.ref p) (.tup ds)
  exact .tup (.inl (.inl (by rw [hid_ni np]; exact upd_same))) (r.mono (hid_ex2 e))
theorem fn_starX {x qual pv : Str} {params : Arguments} {body : List Stmt} {scope : Scope} {kws : List (Str × V)} {f : Addr} {fd : FuncData} {N : List Str} {k : Nat} {α : Type} {args : α → List Slot} {pre : α → Prop} {post : α → Rs → Prop} {exc : α → EF}
    (F : FunD K x qual params body scope [] kws f fd) (Sc : FnScope N [pv] scope) (G : α → Env)
    (hbind : ∀ (kV doc pm : Value) (an : Option Addr) (cdv ct : Value) (rest : List Value), bindArgs (PySem.W.fnOf x qual params body scope .none kV doc pm an cdv ct) ⟨rest, []⟩ = (newTuple rest >>= fun t => pure [(pv, t)]))
    (hb : ∀ (cdv : Value) (A : Around) (outer : List PySem.Env) (s : Shared) (H : Hp) (E : XK), Room k (A.deeper (PyProof.Rows.envOfC qual scope s.heap.objs.size f cdv)) →
      ∃ t, PSs (cxOf (L2.CX P w) P w K mg base N qual scope f cdv A outer s H E) body (Ls K (fun cls d _ H => E cls d H) t) ∧ ∀ x (R : Rs → Prop) (F : EF), pre x → (∀ r, post x r → R r) → (∀ C fs, exc x C fs → F C fs) → t { nx := fun _ => R (.d .non), rt := fun r _ => R r, ex := fun C fs _ => F C fs } (G x))
    (hG : ∀ x, env0 (args x) N.length = G x := by intro _; rfl) : FnR P w K mg base (L2.CX P w) (k + 1) f (spSt K (spcX args pre post exc)) := by
  obtain ⟨oc, od, dV, kV, doc, pm, an, cdv, ct, osl, rfl, lk, hcd, hD, hK⟩ := F.ex
  have eD : dV = .none := by
    rcases hD with ⟨_, e⟩ | ⟨e, _⟩
    · exact e
    · exact absurd rfl e
  subst eD
  refine (StX.fn_star (ps := []) (pv := pv) (sp := spX K (spcX args pre post exc)) lk hcd Sc StX.cxUp (fun us rest hu => ?_) fun A outer s H vs Q E hr h => ?_).imp fun vs H Q E h => spSt_of h
  · have e : us = [] := List.length_eq_zero_iff.mp hu
    subst e
    exact hbind _ _ _ _ _ _ rest
  · obtain ⟨hs, as, a, bb, x, rfl, hp, hR, hX⟩ := h
    obtain ⟨t, h1, h2⟩ := hb cdv A outer s H E hr
    have z := h2 x _ _ hp hR hX
    rw [← hG x] at z
    exact ⟨Ls K _ t, h1, H, [], hs, _, _, a.se bb, z, ⟨fun Γ' σ' H' q se _ => q .non H' (fun a o e => se.fr a o (by simp) e) .non, fun r Γ' σ' v H' q se ro => q v H' (fun a o e => se.fr a o (by simp) e) ro, fun _ _ _ q => q.elim, fun _ _ _ q => q.elim, fun C fs Γ' σ' H' d q se _ xd => q d H' (fun a o e => se.fr a o (by simp) e) xd.out⟩⟩
end
/-! ### static methods -/
structure CSta (K : PySem.W.Frag) (C : Addr) (m : Str) (g : Addr) : Prop where
  rd : PySem.W.readsIn K C (.type "type") = true
  ga : PySem.W.specialIn K (.ref C) "__getattribute__" = some (some (.builtin "type.__getattribute__"))
  at_ : ∃ p rest, PySem.W.findCls K (.ref C) (.type "type") m = some (.get (.builtin "staticmethod.__get__") (.ref p) .none (.ref C)) ∧ PySem.W.recIn K p "staticmethod" = some (.ref g :: rest)
  kp : PySem.W.keepIn K (.ref g) = true
section
variable {X : Cx} {CX : CXT} {k : Nat} {C g : Addr} {sp : Sp} {E : St → XK} {o e : Expr} {es : List Expr} {m : Str} {pos apos : Pos} {ta : TE} {t : TA} {pl : Sem Bool}
def tSMeth (C : Addr) (sp : Sp) (E : St → XK) (ta : TE) (t : TA) : TE := fun σ H Q => ta σ H fun x H1 => x = .ref C ∧ t σ H1 fun vs H2 => sp vs H2 Q (E σ)
theorem getsm_ok {pins : List (Addr × Obj)} {σ : St} {H : Hp} {s : Shared} {A : Around} {E : Value → Shared → Prop} {Q : Value × List Value → Shared → Prop} (I : Inv X pins σ H s) (c : CSta X.K C m g) (h : ∀ s', Inv X pins σ H s' → Q (.ref g, []) s') : wpAny (model X.prog X.w) A (getMethod (.ref C) m pl) Q E s := by
  obtain ⟨p, rest, h1, h2⟩ := c.at_
  exact PySem.W.method_cls I.kIn c.ga (PySem.W.cls_bind I.kIn c.rd h1 (wpAny_call (PySem.W.sm_get (s := { s with toks := s.toks + 1 }) I.kIn h2 (PySem.W.handed_on rfl (h _ (I.tok _))))))
theorem run_fnRA {pins : List (Addr × Obj)} {σ : St} {H : Hp} {s : Shared} {Q : VK} {us : List Value} {vs : List V} (F : FnR X.prog X.w X.K X.mg X.base CX k g sp) (hr : Room k X.A) (hx : PassesAt CX X σ (E σ)) (I : Inv X pins σ H s) (r : Vals vs us) (h : sp vs H Q (E σ)) :
    wpAny (model X.prog X.w) X.A (call (.ref g) us) (EP X pins σ Q) X.xe s := by
  refine wpAny_call (codeAny_mono (F X.A X.stack s H us vs Q (E σ) hr I.env0 r h) fun r s' hq => ?_)
  cases r with
  | error e => exact hx pins H s e s' I hq
  | ok fl =>
    cases fl with
    | ret u => exact I.after hq
    | next => exact False.elim hq
    | brk => exact False.elim hq
    | cont => exact False.elim hq
theorem pe_smeth (he : PE X o ta) (c : CSta X.K C m g) (F : FnR X.prog X.w X.K X.mg X.base CX k g sp) (hr : Room k X.A) (hx : ∀ σ, PassesAt CX X σ (E σ)) (ha : PA X (e :: es) t)
    (hst : starEach (e :: es) X.env = (false, eval e X.env) :: starEach es X.env) (hpl : (backTo pos (starEach es X.env)).any (·.1) = false)
    (ht : eval (.Call (.Attribute o m apos) (e :: es) [] pos) X.env = (do
      let ov ← eval o X.env
      standAt apos.atName
      let (f, first) ← holding [ov] (getMethod ov m pl)
      callWith pos f first (backTo pos (starEach (e :: es) X.env)) (backToKw pos (keywordEach [] X.env)))) : PE X (.Call (.Attribute o m apos) (e :: es) [] pos) (tSMeth C sp E ta t) := by
  refine ⟨fun pins s σ H Q I h => PySem.W.methodCall_KW (pl := pl) (thn (he.run pins s σ H _ I h) fun u s1 ⟨x, H1, I1, rx, ex, q⟩ => ?_) ht⟩
  subst ex
  obtain rfl : u = Value.ref C := rx
  refine getsm_ok I1 c fun s2 I2 => ?_
  exact PySem.W.callWith_K (first := []) (h₀ := X.base) I.ok.mod.kin c.kp (thn (ha.run pos pins s2 σ H1 _ I2 q) fun us s3 ⟨vs, H2, I3, rv, q2⟩ => ⟨I3.kIn, run_fnRA F hr (hx σ) I3 rv q2⟩) hst hpl
theorem pe_smeth0 (he : PE X o ta) (c : CSta X.K C m g) (F : FnR X.prog X.w X.K X.mg X.base CX k g sp) (hr : Room k X.A) (hx : ∀ σ, PassesAt CX X σ (E σ))
    (ht : eval (.Call (.Attribute o m apos) [] [] pos) X.env = (do
      let ov ← eval o X.env
      standAt apos.atName
      let (f, first) ← holding [ov] (getMethod ov m pl)
      callWith pos f first (backTo pos (starEach [] X.env)) (backToKw pos (keywordEach [] X.env)))) : PE X (.Call (.Attribute o m apos) [] [] pos) (tSMeth C sp E ta tNil) := by
  refine ⟨fun pins s σ H Q I h => PySem.W.methodCall_KW (pl := pl) (thn (he.run pins s σ H _ I h) fun u s1 ⟨x, H1, I1, rx, ex, q⟩ => ?_) ht⟩
  subst ex
  obtain rfl : u = Value.ref C := rx
  refine getsm_ok I1 c fun s2 I2 => ?_
  exact PySem.W.callWith_K0 (first := []) I2.kIn c.kp (run_fnRA (us := []) (vs := []) F hr (hx σ) I2 .nil q)
end
end Kb
set_option Elab.async false
set_option linter.all false
set_option maxRecDepth 100000
set_option maxHeartbeats 1000000
/-! Kb40: readings: static methods (with a star parameter; without arguments), calls that do not raise, `is` of truth values. -/
namespace Kb
open PySem L2
open PyProof.Rows hiding St
set_option autoImplicit false
structure DsX (P : Program) (w : World) (K : Frag) (mg : Str → Option Value) (base : Heap) (x : Str) (C : Addr) (m : Str) (k : Nat) (S : SPX) : Prop where
  ex : ∃ g : Addr, CSta K C m g ∧ FnR P w K mg base (L2.CX P w) k g (spSt K S) ∧ mg x = some (.ref C)
structure Ds0 (P : Program) (w : World) (K : Frag) (mg : Str → Option Value) (base : Heap) (x : Str) (C : Addr) (m : Str) (k : Nat) (S : SP) : Prop where
  ex : ∃ g : Addr, CSta K C m g ∧ FnR P w K mg base CX0 k g (spP K S) ∧ mg x = some (.ref C)
section
variable {X : Cx} {W : WX} {C : Addr} {k : Nat} {x m : Str} {e : Expr} {es : List Expr} {np pos apos : Pos} {pl : Sem Bool}
def zSta (S : SPX) (t : FT) : ZR := fun Γ P F => t Γ fun ds => ds.length ≤ sizeLine ∧ S.S [.im (.tup ds)] (fun r => P r Γ) fun C fs => F C fs Γ
theorem zsta_li {S : SPX} {t : FT} (σ : St) (H : Hp) (Q : VK) (h : LzR X.K W (zSta S t) σ H Q) : tSMeth C (spSt X.K S) (WE W) (tC (.ref C)) (LaS X.K t) σ H Q := by
  obtain ⟨H0, ps, hs, Γ, P, F, se, ht, k, xz⟩ := h
  refine ⟨rfl, H0, ps, hs, Γ, _, se, ht, fun ds vs H2 p e r => ?_⟩
  exact ⟨hs ++ adr Γ, ds, r, (se.mono e).bs, p.1, S.mon _ _ _ _ _ (fun r hr v H' e3 ro => k r Γ v H' hr (se.mono (e.trans e3)) (Km.ex (e.trans e3)) (res_back e ro)) (fun C fs q d H' e3 xd => xz C fs Γ H' d q (se.mono (e.trans e3)) (Km.ex (e.trans e3)) xd) p.2⟩
theorem z_sta {S : SPX} {t : FT} (tk : Takes X W) (F : DsX X.prog X.w X.K X.mg X.base x C m k S) (hr : Room k X.A) (ha : PA X (e :: es) (LaS X.K t)) (hg : Gl X x := by rfl) (hd : (x == ("__debug__" : Str)) = false := by decide)
    (hst : starEach (e :: es) X.env = (false, eval e X.env) :: starEach es X.env := by rfl) (hpl : (backTo pos (starEach es X.env)).any (·.1) = false := by rfl)
    (ht : eval (.Call (.Attribute (.Name x np) m apos) (e :: es) [] pos) X.env = (do
      let ov ← eval (.Name x np) X.env
      standAt apos.atName
      let (f, first) ← holding [ov] (getMethod ov m pl)
      callWith pos f first (backTo pos (starEach (e :: es) X.env)) (backToKw pos (keywordEach [] X.env))) := by rfl) : PE X (.Call (.Attribute (.Name x np) m apos) (e :: es) [] pos) (LzR X.K W (zSta S t)) := by
  obtain ⟨g, c, R, hm⟩ := F.ex
  exact pe_imp (pe_smeth (pe_glob (v := .ref C) hg hm rfl hd) c R hr (fun σ => passAt tk σ) ha hst hpl ht) zsta_li
theorem z_sta0 {S : SPX} (tk : Takes X W) (F : DsX X.prog X.w X.K X.mg X.base x C m k S) (hr : Room k X.A) (hg : Gl X x := by rfl) (hd : (x == ("__debug__" : Str)) = false := by decide)
    (ht : eval (.Call (.Attribute (.Name x np) m apos) [] [] pos) X.env = (do
      let ov ← eval (.Name x np) X.env
      standAt apos.atName
      let (f, first) ← holding [ov] (getMethod ov m pl)
      callWith pos f first (backTo pos (starEach [] X.env)) (backToKw pos (keywordEach [] X.env))) := by rfl) : PE X (.Call (.Attribute (.Name x np) m apos) [] [] pos) (LzR X.K W (zSta S aNil)) := by
  obtain ⟨g, c, R, hm⟩ := F.ex
  refine pe_imp (pe_smeth0 (pe_glob (v := .ref C) hg hm rfl hd) c R hr (fun σ => passAt tk σ) ht) fun σ H Q h => ?_
  obtain ⟨e1, H0, ps, hs, Γ, P, se, ht, k⟩ := zsta_li (C := C) σ H Q h
  exact ⟨e1, k [] [] H ht (Same.refl H) .nil⟩
/-- the same where nothing is raised -/
def rSta (S : SPX) (t : FT) : RT := fun Γ P => t Γ fun ds => ds.length ≤ sizeLine ∧ S.S [.im (.tup ds)] P fun _ _ => False
theorem rsta_li {S : SPX} {t : FT} (σ : St) (H : Hp) (Q : VK) (h : Lr X.K (rSta S t) σ H Q) : tSMeth C (spSt X.K S) (WE W0) (tC (.ref C)) (LaS X.K t) σ H Q := by
  obtain ⟨H0, ps, hs, Γ, P, se, ht, k⟩ := h
  refine ⟨rfl, H0, ps, hs, Γ, _, se, ht, fun ds vs H2 p e r => ?_⟩
  exact ⟨hs ++ adr Γ, ds, r, (se.mono e).bs, p.1, S.mon _ _ _ _ _ (fun r hr v H' e3 ro => k r v H' hr (e.trans e3) (res_back e ro)) (fun C fs q d H' e3 xd => q.elim) p.2⟩
theorem rx_sta {S : SPX} {t : FT} (F : DsX X.prog X.w X.K X.mg X.base x C m k S) (hr : Room k X.A) (ha : PA X (e :: es) (LaS X.K t)) (hg : Gl X x := by rfl) (hd : (x == ("__debug__" : Str)) = false := by decide)
    (hst : starEach (e :: es) X.env = (false, eval e X.env) :: starEach es X.env := by rfl) (hpl : (backTo pos (starEach es X.env)).any (·.1) = false := by rfl)
    (ht : eval (.Call (.Attribute (.Name x np) m apos) (e :: es) [] pos) X.env = (do
      let ov ← eval (.Name x np) X.env
      standAt apos.atName
      let (f, first) ← holding [ov] (getMethod ov m pl)
      callWith pos f first (backTo pos (starEach (e :: es) X.env)) (backToKw pos (keywordEach [] X.env))) := by rfl) : PE X (.Call (.Attribute (.Name x np) m apos) (e :: es) [] pos) (Lr X.K (rSta S t)) := by
  obtain ⟨g, c, R, hm⟩ := F.ex
  exact pe_imp (pe_smeth (pe_glob (v := .ref C) hg hm rfl hd) c R hr (fun σ => passAt takes0 σ) ha hst hpl ht) rsta_li
/-! ### C.m() -/
def rS0 (S : SP) : RT := fun _ P => S.S [] P
theorem rx_sm0 {S : SP} (F : Ds0 X.prog X.w X.K X.mg X.base x C m k S) (hr : Room k X.A) (hg : Gl X x := by rfl) (hd : (x == ("__debug__" : Str)) = false := by decide)
    (ht : eval (.Call (.Attribute (.Name x np) m apos) [] [] pos) X.env = (do
      let ov ← eval (.Name x np) X.env
      standAt apos.atName
      let (f, first) ← holding [ov] (getMethod ov m pl)
      callWith pos f first (backTo pos (starEach [] X.env)) (backToKw pos (keywordEach [] X.env))) := by rfl) : PE X (.Call (.Attribute (.Name x np) m apos) [] [] pos) (Lr X.K (rS0 S)) := by
  obtain ⟨g, c, R, hm⟩ := F.ex
  refine pe_imp (pe_smeth0 (E := fun _ _ _ _ => False) (pe_glob (v := .ref C) hg hm rfl hd) c R hr (fun σ pins H s e s' I z => pass0 pins σ H s e s' I z) ht) fun σ H Q h => ?_
  obtain ⟨H0, ps, hs, Γ, P, se, ht, k⟩ := h
  exact ⟨rfl, hs ++ adr Γ, [], .nil, se.bs, S.mon _ _ _ (fun r hr v H' e3 ro => k r v H' hr e3 ro) ht⟩
/-! ### f(..) of a def that may raise, where it does not -/
def rClX (S : SPX) (t : AT) : RT := fun Γ P => t Γ fun as => S.S as P fun _ _ => False
theorem rx_callX {S : SPX} {p : Pos} {t : AT} (F : DfX X.prog X.w X.K X.mg X.base x k (spX X.K S)) (hr : Room k X.A) (ha : PA X (e :: es) (LaX X.K t)) (hg : Gl X x := by rfl) (hd : (x == ("__debug__" : Str)) = false := by decide)
    (he : starEach (e :: es) X.env = (false, eval e X.env) :: starEach es X.env := by rfl) (hpl : (backTo pos (starEach es X.env)).any (·.1) = false := by rfl) : PE X (.Call (.Name x p) (e :: es) [] pos) (Lr X.K (rClX S t)) := by
  obtain ⟨f, fd, ps, h1, h2, h3, h4⟩ := F.ex
  refine pe_imp (pe_callS (E := WE W0) h1 hr hg h2 h3 h4 (fun σ => passAt takes0 σ) ha hd he hpl) fun σ H Q h => ?_
  obtain ⟨H0, ps, hs, Γ, P, se, ht, k⟩ := h
  refine ⟨H0, ps, hs, Γ, _, se, ht, fun as vs H2 p e ar => ?_⟩
  exact ⟨hs ++ adr Γ, as, ar, (se.mono e).bs, S.mon _ _ _ _ _ (fun r hr v H' e3 ro => k r v H' hr (e.trans e3) (res_back e ro)) (fun C fs q d H' e3 xd => q.elim) p⟩
/-! ### is -/
def fIsB (neg : Bool) : F2 := fun d e P => match d, e with
  | .bl a, .bl b => P (.bl (xor neg (a == b)))
  | _, _ => False
theorem does_isB {K : Frag} : Does K (fun x y H Q => ∃ a b, x = .bl a ∧ y = .bl b ∧ Q (.bl (decide (a = b))) H) (fIsB false) := fun ms H x y d e P Q b rx ry h k => by
  unfold fIsB at h
  split at h
  · rename_i a c
    cases rx.blv
    cases ry.blv
    refine ⟨a, c, rfl, rfl, k _ _ H h (Same.refl H) ?_⟩
    rw [Bool.false_xor, show (a == c) = decide (a = c) by cases a <;> cases c <;> rfl]
    exact .bl _
  · exact h.elim
theorem does_isnotB {K : Frag} : Does K (fun x y H Q => ∃ a b, x = .bl a ∧ y = .bl b ∧ Q (.bl (!decide (a = b))) H) (fIsB true) := fun ms H x y d e P Q b rx ry h k => by
  unfold fIsB at h
  split at h
  · rename_i a c
    cases rx.blv
    cases ry.blv
    refine ⟨a, c, rfl, rfl, k _ _ H h (Same.refl H) ?_⟩
    rw [Bool.true_xor, show (a == c) = decide (a = c) by cases a <;> cases c <;> rfl]
    exact .bl _
  · exact h.elim
variable {a b : Expr} {ta tb : XT}
theorem px_isB (ha : PE X a (Lb X.K ta)) (hb : PE X b (Lb X.K tb)) : PE X (.Compare a [.Is] [b] pos) (Li X.K (x2 (fIsB false) ta tb)) := px_cmp op_is_bl does_isB ha hb
theorem px_isnotB (ha : PE X a (Lb X.K ta)) (hb : PE X b (Lb X.K tb)) : PE X (.Compare a [.IsNot] [b] pos) (Li X.K (x2 (fIsB true) ta tb)) := px_cmp op_isnot_bl does_isnotB ha hb
theorem tx_isB (ha : PE X a (Lb X.K ta)) (hb : PE X b (Lb X.K tb)) : PT X (.Compare a [.Is] [b] pos) (Lt X.K (b2 (fIsB false) ta tb)) := tx_cmp op_is_bl does_isB ha hb
theorem tx_isnotB (ha : PE X a (Lb X.K ta)) (hb : PE X b (Lb X.K tb)) : PT X (.Compare a [.IsNot] [b] pos) (Lt X.K (b2 (fIsB true) ta tb)) := tx_cmp op_isnot_bl does_isnotB ha hb
end
/-! ### what the top leaves of a static method -/
def smAd (K : PySem.W.Frag) (C : Addr) (m : Str) : Addr := match PySem.W.findCls K (.ref C) (.type "type") m with
  | some (.get _ (.ref p) _ _) => (match PySem.W.recIn K p "staticmethod" with
    | some (.ref g :: _) => g
    | _ => 0)
  | _ => 0
def smB (K : PySem.W.Frag) (C : Addr) (m : Str) : Bool := PySem.W.readsIn K C (.type "type") && (He.eqO (PySem.W.specialIn K (.ref C) "__getattribute__") (some (some (.builtin "type.__getattribute__"))) && ((match PySem.W.findCls K (.ref C) (.type "type") m with
  | some (.get (.builtin b) (.ref p) .none (.ref c)) => decide (b = "staticmethod.__get__") && (decide (c = C) && (match PySem.W.recIn K p "staticmethod" with
    | some (.ref g :: _) => PySem.W.keepIn K (.ref g)
    | _ => false))
  | _ => false)))
theorem sm_ok {K : PySem.W.Frag} {C : Addr} {m : Str} (h : smB K C m = true) : CSta K C m (smAd K C m) := by
  obtain ⟨h1, h⟩ := He.ba h
  obtain ⟨h2, h⟩ := He.ba h
  cases e : PySem.W.findCls K (.ref C) (.type "type") m with
  | none => rw [e] at h; cases h
  | some z =>
    rw [e] at h
    cases z with
    | get g a ob tp =>
      cases g with
      | builtin b =>
        cases a with
        | ref p =>
          cases ob with
          | none =>
            cases tp with
            | ref c =>
              obtain ⟨h3, h5⟩ := He.ba (show (decide (b = "staticmethod.__get__") && (decide (c = C) && (match PySem.W.recIn K p "staticmethod" with
                | some (.ref g :: _) => PySem.W.keepIn K (.ref g)
                | _ => false))) = true from h)
              obtain ⟨h4, h6⟩ := He.ba h5
              have eb : b = "staticmethod.__get__" := of_decide_eq_true h3
              have ec : c = C := of_decide_eq_true h4
              cases e2 : PySem.W.recIn K p "staticmethod" with
              | none => rw [e2] at h6; cases h6
              | some l =>
                rw [e2] at h6
                cases l with
                | nil => cases h6
                | cons v rest =>
                  cases v with
                  | ref g =>
                    have es : smAd K C m = g := by
                      unfold smAd
                      rw [e]
                      dsimp only
                      rw [e2]
                    rw [es]
                    refine ⟨h1, He.eqO_ok h2, ⟨p, rest, ?_, e2⟩, h6⟩
                    rw [e, eb, ec]
                  | _ => cases h6
            | _ => cases h
          | _ => cases h
        | _ => cases h
      | _ => cases h
    | _ => cases h
end Kb
set_option Elab.async false
set_option linter.all false
set_option maxRecDepth 100000
set_option maxHeartbeats 1000000
/-! Kb41: the hook with defs that stand at reckoned places (static methods, class methods). -/
namespace Kb
open PySem PySem.Spec PyProof.Rows L2
set_option autoImplicit false
structure WfD where
  adr : PySem.W.Frag → Addr
  name : Str
  qual : Str
  params : Arguments
  body : List Stmt
  scope : Scope
def wfW (K : PySem.W.Frag) (d : WfD) : He.FnW := match K.lookup (d.adr K) with
  | some ⟨_, _, .func fd, _⟩ => some (fd.name, fd.qualname, fd.params, fd.body, fd.scope, fd.globals, fd.closure, fd.builtins)
  | _ => none
def WfD.val (d : WfD) : He.FnW := some (d.name, d.qual, d.params, .stmts d.body, d.scope, mainGlobals, [], builtinsNs)
def WfD.ok (K : PySem.W.Frag) (d : WfD) : Bool := PySem.W.keepIn K (.ref (d.adr K)) && (match K.lookup (d.adr K) with
  | some ⟨_, _, .func fd, _⟩ => PySem.W.codeIn K fd.code d.qual && (He.dflB K fd.defaults [] && He.kwdB K fd.kwdefaults [])
  | _ => false)
theorem WfD.funD {K : PySem.W.Frag} {d : WfD} (e : wfW K d = d.val) (c : d.ok K = true) : ∃ fd, FunD K d.name d.qual d.params d.body d.scope [] [] (d.adr K) fd := by
  obtain ⟨kp, c2⟩ := He.ba c
  unfold wfW at e
  cases q : K.lookup (d.adr K) with
  | none =>
    rw [q] at c2
    cases c2
  | some o =>
    obtain ⟨oc, od, dt, osl⟩ := o
    rw [q] at c2 e
    cases dt with
    | func fd =>
      obtain ⟨n1, n2, n3, n4, n5, n6, n7, n8, n9, n10, n11, n12, n13, n14, n15⟩ := fd
      have e2 : (some (n1, n2, n3, n4, n5, n6, n7, n15) : He.FnW) = some (d.name, d.qual, d.params, .stmts d.body, d.scope, mainGlobals, [], builtinsNs) := e
      simp only [Option.some.injEq, Prod.mk.injEq] at e2
      obtain ⟨h1, h2, h3, h4, h5, h6, h7, h8⟩ := e2
      subst h1 h2 h3 h4 h5 h6 h7 h8
      have c3 : (PySem.W.codeIn K n13 d.qual && (He.dflB K n8 [] && He.kwdB K n9 [])) = true := c2
      obtain ⟨k1, k2⟩ := He.ba c3
      obtain ⟨k3, k4⟩ := He.ba k2
      exact ⟨_, ⟨oc, od, n8, n9, n10, n11, n12, n13, n14, osl, rfl, q, k1, He.dflB_ok k3, He.kwdB_ok k4⟩, kp⟩
    | _ => cases c2
abbrev AlY : Type := AlE × Bool × List He.FnW
def obsY (fa : List He.Fa) (fn : List He.DefD) (er : List ErrD) (ki : List (Str × Str × Bool)) (file : Str) (bs : PySem.W.Frag → Bool) (wf : List WfD) (K : PySem.W.Frag) : AlY := (obsX fa fn er ki file bs K, wf.all (fun d => d.ok K), wf.map (wfW K))
def valY (fn : List He.DefD) (er : List ErrD) (wf : List WfD) : AlY := (valX fn er, true, wf.map WfD.val)
structure SaysY (fa : List He.Fa) (fn : List He.DefD) (er : List ErrD) (ki : List (Str × Str × Bool)) (file : Str) (bs : PySem.W.Frag → Bool) (wf : List WfD) (K : PySem.W.Frag) : Prop where
  all : obsY fa fn er ki file bs wf K = valY fn er wf
def hookY (n : Nat) (fa : List He.Fa) (fn : List He.DefD) (er : List ErrD) (ki : List (Str × Str × Bool)) (file : Str) (bs : PySem.W.Frag → Bool) (wf : List WfD) : PySem.W.Hook where
  α := AlY
  obs := fun s => obsY fa fn er ki file bs wf (frX n s.heap.get?)
  val := fun _ => valY fn er wf
  says := fun _ h => ∃ K : PySem.W.Frag, K.In h ∧ SaysY fa fn er ki file bs wf K
  of := fun _ _ e => ⟨_, He.frG_in, ⟨e⟩⟩
  keeps := fun _ _ _ ⟨K, hK, c⟩ k => ⟨K, PySem.W.Frag.In.keeps hK k, c⟩
def obY (n : Nat) (fa : List He.Fa) (fn : List He.DefD) (er : List ErrD) (ki : List (Str × Str × Bool)) (file : Str) (bs : PySem.W.Frag → Bool) (wf : List WfD) (g : Addr → Option Obj) : AlY := obsY fa fn er ki file bs wf (frX n g)
theorem obY_eq {n : Nat} {fa : List He.Fa} {fn : List He.DefD} {er : List ErrD} {ki : List (Str × Str × Bool)} {file : Str} {bs : PySem.W.Frag → Bool} {wf : List WfD} {g : Addr → Option Obj} {s : Shared} (h : ∀ a, g a = s.heap.get? a) : obY n fa fn er ki file bs wf g = (hookY n fa fn er ki file bs wf).obs s := by
  rw [show g = s.heap.get? from funext h]
  rfl
section
variable {fa : List He.Fa} {fn : List He.DefD} {ers : List ErrD} {ki : List (Str × Str × Bool)} {file : Str} {bs : PySem.W.Frag → Bool} {wf : List WfD} {K : PySem.W.Frag}
theorem SaysY.x (c : SaysY fa fn ers ki file bs wf K) : SaysX fa fn ers ki file bs K := ⟨congrArg (fun z : AlY => z.1) c.all⟩
theorem SaysY.wfd (c : SaysY fa fn ers ki file bs wf K) (i : Nat) {d : WfD} (h : wf[i]? = some d) : ∃ fd, FunD K d.name d.qual d.params d.body d.scope [] [] (d.adr K) fd := by
  have c2 : wf.all (fun d => d.ok K) = true := congrArg (fun z : AlY => z.2.1) c.all
  have e : wf.map (wfW K) = wf.map WfD.val := congrArg (fun z : AlY => z.2.2) c.all
  have e2 : (wf.map (wfW K))[i]? = (wf.map WfD.val)[i]? := by rw [e]
  rw [List.getElem?_map, List.getElem?_map, h] at e2
  exact WfD.funD (Option.some.inj e2) (List.all_eq_true.mp c2 d (List.mem_of_getElem? h))
end
end Kb
set_option Elab.async false
set_option linter.all false
set_option maxRecDepth 100000
set_option maxHeartbeats 1000000
/-! Kb42: d in a tuple. -/
namespace Kb
open PySem L2
open PyProof.Rows hiding St
set_option autoImplicit false
def rInDT (K : PySem.W.Frag) : R2 := fun x y H Q => ∃ d ds, Dp K H x d ∧ Dp K H y (.tuple ds) ∧ SeqAt.shaped d = true ∧ SeqAt.shaped (.tuple ds) = true ∧ Q (.bl (ds.any fun z => PyData.eqv z d)) H
section
variable {X : Cx}
theorem op_inDT (hu : X.A.units + 65 < cLine) : OpR X (compareOp .In) (rInDT X.K) := by
  intro pins s σ H x y v u Q I rx ry h
  obtain ⟨d, ds, hd, he, sd, se, q⟩ := h
  obtain ⟨as, r1⟩ := Dp.reads I d x v hd rx
  obtain ⟨bs, r2⟩ := Dp.reads I (.tuple ds) y u he ry
  exact SeqAt.in_tuple_reads r2 r1 (SeqAt.canLay_of_shaped se) (SeqAt.canLay_of_shaped sd) (room_in_shaped sd hu) ⟨.bl _, H, I, rfl, q⟩
def fInT : F2 := fun d e P => match e with
  | .tup ys => d.sh 60 = true ∧ (D.tup ys).sh 60 = true ∧ P (.bl (inL d ys))
  | _ => False
theorem does_inT {K : Frag} : Does K (rInDT K) fInT := fun ms H x y d e P Q b rx ry h k => by
  unfold fInT at h
  split at h
  · rename_i ys
    refine ⟨d.py, D.pys ys, rep_dp 60 d x h.1 (rx.rep hid_ex), rep_dp 60 (.tup ys) y h.2.1 (ry.rep hid_ex), sh_shaped h.1, sh_shaped h.2.1, ?_⟩
    rw [pys_any]
    exact k _ _ H h.2.2 (Same.refl H) (.bl _)
  · exact h.elim
variable {a b : Expr} {pos : Pos} {ta tb : XT}
theorem px_inT {k : Nat} (hr : Room (k + 1) X.A) (ha : PE X a (Lb X.K ta)) (hb : PE X b (Lb X.K tb)) (hm : behindInMarks .In b = false := by rfl) : PE X (.Compare a [.In] [b] pos) (Li X.K (x2 fInT ta tb)) := px_cmp (op_inDT (hu65 hr)) does_inT ha hb hm
theorem tx_inT {k : Nat} (hr : Room (k + 1) X.A) (ha : PE X a (Lb X.K ta)) (hb : PE X b (Lb X.K tb)) (hm : behindInMarks .In b = false := by rfl) : PT X (.Compare a [.In] [b] pos) (Lt X.K (b2 fInT ta tb)) := tx_cmp (op_inDT (hu65 hr)) does_inT ha hb hm
end
end Kb
set_option Elab.async false
set_option linter.all false
set_option maxRecDepth 100000
set_option maxHeartbeats 1000000
/-! Kb43: starred items in displays, zip of two lists, `is` of anything and a truth value. -/
namespace Kb
open PySem L2
open PyProof.Rows hiding St
set_option autoImplicit false
section
variable {X : Cx} {W : WX}
def aStar (t : XT) (u : FT) : FT := fun Γ P => t Γ fun d => match d with
  | .lst xs => u Γ fun ds => P (xs ++ ds)
  | .tup xs => u Γ fun ds => P (xs ++ ds)
  | _ => False
theorem as_star {e : Expr} {es : List Expr} {sp : Pos} {t : XT} {u : FT} (he : PE X e (Lb X.K t)) (hs : PA X es (LaS X.K u)) (hx : starEach (.Starred e sp :: es) X.env = (true, eval e X.env) :: starEach es X.env := by rfl) : PA X (.Starred e sp :: es) (LaS X.K (aStar t u)) :=
  pa_imp (StX.pa_star he hs hx) fun σ H Q ⟨H0, ps, hs, Γ, P, se, ht, k⟩ => ⟨H0, ps, hs, Γ, _, se, ht, fun d v H2 p e r => by
    cases d with
    | lst xs =>
      obtain ⟨a, vs, rfl, h1, r1⟩ := r.list hid_ex
      exact ⟨a, vs, rfl, .inr (SqL.of h1), H0, ps, hs, Γ, _, se.mono e, p, fun ds ws H3 q e3 r3 => k _ _ H3 q (e.trans e3) ((r1.mono (hid_ex2 e3)).append r3)⟩
    | tup xs =>
      obtain ⟨a, vs, rfl, h1, r1⟩ := r.tuple hid_ex
      exact ⟨a, vs, rfl, .inl h1, H0, ps, hs, Γ, _, se.mono e, p, fun ds ws H3 q e3 r3 => k _ _ H3 q (e.trans e3) ((r1.mono (hid_ex2 e3)).append r3)⟩
    | _ => exact p.elim⟩
/-! ### zip(a, b) of two lists -/
def zipD : List D → List D → List D
  | x :: xs, y :: ys => .tup [x, y] :: zipD xs ys
  | _, _ => []
theorem zipD_get : ∀ (xs ys : List D) (i : Nat) (x y : D), xs[i]? = some x → ys[i]? = some y → (zipD xs ys)[i]? = some (.tup [x, y])
  | x :: xs, y :: ys, 0, _, _, h1, h2 => by cases h1; cases h2; rfl
  | x :: xs, y :: ys, i + 1, a, b, h1, h2 => zipD_get xs ys i a b h1 h2
theorem zipD_len : ∀ (xs ys : List D), (zipD xs ys).length = min xs.length ys.length
  | [], _ => by simp [zipD]
  | _ :: _, [] => by simp [zipD]
  | x :: xs, y :: ys => by
    show (zipD xs ys).length + 1 = min (xs.length + 1) (ys.length + 1)
    rw [zipD_len xs ys]
    omega
def iZip (t : FT) : FT := fun Γ P => t Γ fun ds => match ds with
  | [.lst xs, .lst ys] => P (zipD xs ys)
  | _ => False
theorem walk_zip {K : Frag} {S : Hp → Prop} {B : Hp} {a b : Addr} {vs us : List V} {ds es : List D} (hS : ∀ H, S H → SqL K H a vs ∧ SqL K H b us) (r : Reps K B vs ds) (r2 : Reps K B us es) : Walks K S B (Itz K a b) (zipD ds es) where
  go := fun i H s h => by
    rw [zipD_len] at h
    have h1 : i < vs.length := by rw [r.length]; omega
    have h2 : i < us.length := by rw [r2.length]; omega
    exact ⟨vs, us, vs[i], us[i], (hS H s).1, (hS H s).2, List.getElem?_eq_getElem _, List.getElem?_eq_getElem _⟩
  yl := fun i H x H' s h ⟨T, x', y', ex, nT, eH, f1, f2⟩ => by
    subst ex eH
    obtain ⟨d, h1, h2⟩ := r.get (f1 vs (hS _ s).1)
    obtain ⟨d', h1', h2'⟩ := r2.get (f2 us (hS _ s).2)
    refine ⟨Ex.new nT, .tup [d, d'], zipD_get _ _ _ _ _ h1 h1', fun ms b e => ?_⟩
    exact rep_newT b nT (.cons (h2.mono e) (.one (h2'.mono e)))
  st := fun i H s h => by
    rw [zipD_len] at h
    refine ⟨vs, us, (hS H s).1, (hS H s).2, ?_⟩
    rw [r.length, r2.length]
    omega
theorem il_zip {e e2 : Expr} {elts : List Expr} {kk : Nat} {t : FT} {tpos p pos : Pos} (hg : Gl X "zip") (hm : X.mg "zip" = none) (ha : PA X [e, e2] (LaS X.K t))
    (hs : starEach [e, e2] X.env = (false, eval e X.env) :: starEach [e2] X.env := by rfl) (hpl : (backTo pos (starEach [e2] X.env)).any (·.1) = false := by rfl) :
    PI X (.Tuple elts kk tpos) (.Call (.Name "zip" p) [e, e2] [] pos) (LI X.K (iZip t)) :=
  pi_imp (RZ.pi_zipA hg hm ha hs hpl) fun σ H R ⟨H0, ps, hs, Γ, P, se, ht, k⟩ => ⟨H0, ps, hs, Γ, _, se, ht, fun ds vs H2 p e r => by
    split at p
    · rename_i xs ys
      cases r with
      | cons r1 rr =>
        cases rr with
        | cons r2 rr =>
          cases rr
          cases r1 with
          | lst a ra =>
            cases r2 with
            | lst b rb =>
              exact ⟨_, _, _, _, rfl, .inl ⟨SqL.of (hid_ex _ _ a), SqL.of (hid_ex _ _ b), k _ _ H2 p e (walk_zip (fun H' s => ⟨SqL.of (s _ _ a), SqL.of (s _ _ b)⟩) ra rb)⟩⟩
    · exact p.elim⟩
/-! ### e is False, e anything -/
def fIsA (neg : Bool) : F2 := fun d e P => match d, e with
  | .bl a, .bl b => P (.bl (xor neg (a == b)))
  | .lst _, .bl _ => P (.bl neg)
  | _, _ => False
end
end Kb
set_option Elab.async false
set_option linter.all false
set_option maxRecDepth 100000
set_option maxHeartbeats 1000000
/-! Kb44: comprehensions with two for clauses (no tests). -/
namespace Kb
open PySem L2
open PyProof.Rows hiding St
set_option autoImplicit false
def LcB2 (Γ : Env) (g : GT) (ti1 : FT) (g1 : GT) (te : XT) (vs vs1 : List Nat) (ds : List D) (P : List D → Prop) : Prop := adr (wipeE Γ vs) = adr Γ ∧
  ∃ zs : List (List D), zs.length = ds.length ∧ zs.flatten.length ≤ sizeLine ∧ (∀ (i : Nat) (d : D) (z : List D), ds[i]? = some d → zs[i]? = some z → g d (wipeE Γ vs) fun Γ2 => ti1 Γ2 fun es => es.length = z.length ∧ nobo Γ2 = true ∧ adr (wipeE Γ2 vs1) = adr Γ2 ∧
    ∀ (j : Nat) (e y : D), es[j]? = some e → z[j]? = some y → g1 e (wipeE Γ2 vs1) fun Γ3 => te Γ3 fun y' => y' = y) ∧ P zs.flatten
def fLc2 (ti : FT) (g : GT) (ti1 : FT) (g1 : GT) (te : XT) (vs vs1 : List Nat) : FT := fun Γ P => ti Γ fun ds => LcB2 Γ g ti1 g1 te vs vs1 ds P
theorem lcb2 {α : Type} {Γ : Env} {g g1 : GT} {ti1 : FT} {te : XT} {vs vs1 : List Nat} {P : List D → Prop} {xs : List α} {enc : α → D} (o : α → List D) (hl : (xs.flatMap o).length ≤ sizeLine)
    (hb : ∀ x ∈ xs, g (enc x) (wipeE Γ vs) fun Γ2 => ti1 Γ2 fun es => es.length = (o x).length ∧ nobo Γ2 = true ∧ adr (wipeE Γ2 vs1) = adr Γ2 ∧ ∀ (j : Nat) (e y : D), es[j]? = some e → (o x)[j]? = some y → g1 e (wipeE Γ2 vs1) fun Γ3 => te Γ3 fun y' => y' = y)
    (hP : P (xs.flatMap o)) (ha : adr (wipeE Γ vs) = adr Γ := by rfl) : LcB2 Γ g ti1 g1 te vs vs1 (xs.map enc) P := by
  have ef : (xs.map o).flatten = xs.flatMap o := rfl
  refine ⟨ha, xs.map o, by rw [List.length_map, List.length_map], by rw [ef]; exact hl, fun i d z h1 h2 => ?_, by rw [ef]; exact hP⟩
  rw [List.getElem?_map] at h1 h2
  cases e : xs[i]? with
  | none => rw [e] at h1; cases h1
  | some x =>
    rw [e] at h1 h2
    cases h1
    cases h2
    exact hb x (List.mem_iff_getElem?.mpr ⟨i, e⟩)
theorem flat_lt {α : Type} {zs : List (List α)} {i j : Nat} {z : List α} {n : Nat} (h : zs[i]? = some z) (hj : j < z.length) (hn : zs.flatten.length ≤ n) : ((zs.take i).flatten ++ z.take j).length < n := by
  obtain ⟨hi, rfl⟩ := List.getElem?_eq_some_iff.mp h
  have e : zs = zs.take i ++ zs[i] :: zs.drop (i + 1) := by
    rw [← List.drop_eq_getElem_cons hi, List.take_append_drop]
  have e2 : zs.flatten.length = (zs.take i).flatten.length + (zs[i].length + (zs.drop (i + 1)).flatten.length) := by
    conv => lhs; rw [e]
    rw [List.flatten_append, List.flatten_cons, List.length_append, List.length_append]
  rw [List.length_append, List.length_take]
  omega
section
variable {X : Cx}
theorem lc2_li {vs vs1 : List Nat} {ti ti1 : FT} {g g1 : GT} {te : XT} {gown gown1 : List Nat} (hsub : ∀ j ∈ gown, j ∈ vs) (hsub1 : ∀ j ∈ gown1, j ∈ vs1) {K : Frag} (σ : St) (H : Hp) (Q : VK) (h : Lf K (fLc2 ti g ti1 g1 te vs vs1) σ H Q) :
    tLc2 (LB K ti) (Lg K gown g) (Lt K bYes) (LI K ti1) (Lg K gown1 g1) (Lt K bYes) (Li K te) vs vs1 σ H Q := by
  obtain ⟨H0, ps, hs, Γ, P, se, hti, k⟩ := h
  refine ⟨H0, ps, hs, Γ, _, se, hti, fun ds J H1 hp e1 w => fun Dl nD => ?_⟩
  obtain ⟨hadr, zs, hzl, hlen, hf, hP⟩ := hp
  have se1 := se.mono e1
  have nH : H Dl = none := fresh_of e1 nD
  refine ⟨fun i m H' => m = ds.length - i ∧ i ≤ ds.length ∧ Ex H1 H' ∧ ∃ acc, H' Dl = some (.lst acc) ∧ Reps K (hid (Dl :: (hs ++ adr Γ)) H') acc ((zs.take i).flatten),
    ⟨ds.length, by simp, Nat.zero_le _, Ex.new nD, [], upd_same, .nil⟩, ?_⟩
  rintro i m H' ⟨rfl, hil, eH, acc, hD, racc⟩
  by_cases hlt : i < ds.length
  · refine .inr ⟨w.go i H' eH hlt, fun H'' => Ex H1 H'' ∧ ∃ acc, H'' Dl = some (.lst acc) ∧ Reps K (hid (Dl :: (hs ++ adr Γ)) H'') acc ((zs.take (i + 1)).flatten), ?_, ?_⟩
    · rintro H'' ⟨e2, acc', a, c⟩
      exact ⟨ds.length - (i + 1), by omega, rfl, hlt, e2, acc', a, c⟩
    · intro x H'' hy
      obtain ⟨e9, d, hd, rx⟩ := w.yl i H' x H'' eH hlt hy
      replace rx := rx (Dl :: (hs ++ adr Γ)) (bs_cons (by rw [hD]; intro z; cases z) (se1.bs.mono eH)) (hid_fresh nD eH)
      replace eH := eH.trans e9
      replace hD := e9 _ _ hD
      replace racc := racc.mono (hid_ex2 e9)
      have hzi : i < zs.length := by omega
      obtain ⟨z, hz⟩ : ∃ z, zs[i]? = some z := ⟨_, List.getElem?_eq_getElem hzi⟩
      have seI : SE K H0 ps (Dl :: hs) (wipeE Γ vs) (wipe σ vs) H'' := (se1.hide nD eH (by rw [hD]; intro z; cases z)).wipe _
      have htk : zs.take (i + 1) = zs.take i ++ [z] := by
        rw [List.take_add_one, hz]; rfl
      have nDa : Dl ∉ adr Γ := se1.fresh nD
      refine ⟨H0, ps, Dl :: hs, wipeE Γ vs, d, _, seI, by rw [hadr]; exact rx, hf i d z hd hz, fun Γ2 σ2 p2 a2 se2 l2 ag2 => ?_⟩
      refine ⟨wipe_eq l2 ag2 hsub, H0, ps, Dl :: hs, Γ2, fun b => b = true, se2, rfl, fun b H3 hb e3 => ?_⟩
      subst hb
      refine iteT ⟨H0, ps, Dl :: hs, Γ2, _, se2.mono e3, p2, fun es J1 H4 hq e4 w1 => ?_⟩
      obtain ⟨hel, hnb, hadr1, hin⟩ := hq
      have e34 := e3.trans e4
      have eH4 : Ex H1 H4 := eH.trans e34
      have hD4 : H4 Dl = some (.lst acc) := e34 _ _ hD
      have se4 : SE K H0 ps (Dl :: hs) (wipeE Γ2 vs1) (wipe σ2 vs1) H4 := (se2.mono e34).wipe _
      have ea2 : adr Γ2 = adr Γ := a2.trans hadr
      have ea : adr (wipeE Γ2 vs1) = adr Γ := hadr1.trans ea2
      rw [ea2] at w1
      refine ⟨fun j kk H' => kk = es.length - j ∧ j ≤ es.length ∧ Ex (hid (Dl :: (hs ++ adr Γ)) H4) (hid (Dl :: (hs ++ adr Γ)) H') ∧ Ex H1 H' ∧ ∃ acc', H' Dl = some (.lst acc') ∧ Reps K (hid (Dl :: (hs ++ adr Γ)) H') acc' ((zs.take i).flatten ++ z.take j) ∧ SE K H0 ps (Dl :: hs) (wipeE Γ2 vs1) (wipe σ2 vs1) H',
        ⟨es.length, by simp, Nat.zero_le _, Same.refl _, eH4, acc, hD4, by rw [List.take_zero, List.append_nil]; exact racc.mono (hid_ex2 e34), se4⟩, ?_⟩
      rintro j kk H5 ⟨rfl, hjl, eh5, e5, acc5, hD5, r5, se5⟩
      have hS : Ex (hid ((Dl :: hs) ++ adr Γ) H4) H5 := eh5.trans hid_ex
      by_cases hjt : j < es.length
      · refine .inr ⟨w1.go j H5 hS hjt, fun H' => Ex (hid (Dl :: (hs ++ adr Γ)) H4) (hid (Dl :: (hs ++ adr Γ)) H') ∧ Ex H1 H' ∧ ∃ acc', H' Dl = some (.lst acc') ∧ Reps K (hid (Dl :: (hs ++ adr Γ)) H') acc' ((zs.take i).flatten ++ z.take (j + 1)) ∧ SE K H0 ps (Dl :: hs) (wipeE Γ2 vs1) (wipe σ2 vs1) H', ?_, ?_⟩
        · rintro H6 hh
          exact ⟨es.length - (j + 1), by omega, rfl, hjt, hh⟩
        · intro x1 H6 hy1
          obtain ⟨e6, d1, hd1, rx1⟩ := w1.yl j H5 x1 H6 hS hjt hy1
          have bs5 := se5.bs
          rw [ea] at bs5
          replace rx1 := rx1 (Dl :: (hs ++ adr Γ)) bs5 eh5
          have hjz : j < z.length := by omega
          obtain ⟨y, hyz⟩ : ∃ y, z[j]? = some y := ⟨_, List.getElem?_eq_getElem hjz⟩
          have htj : z.take (j + 1) = z.take j ++ [y] := by
            rw [List.take_add_one, hyz]; rfl
          refine ⟨H0, ps, Dl :: hs, wipeE Γ2 vs1, d1, _, se5.mono e6, by rw [ea]; exact rx1, hin j d1 y hd1 hyz, fun Γ3 σ3 p3 a3 se3 l3 ag3 => ?_⟩
          refine ⟨wipe_eq l3 ag3 hsub1, H0, ps, Dl :: hs, Γ3, fun b => b = true, se3, rfl, fun b H7 hb e7 => ?_⟩
          subst hb
          refine iteT ⟨H0, ps, Dl :: hs, Γ3, _, se3.mono e7, p3, fun y' v H8 hy' e8 r8 => ?_⟩
          subst hy'
          have e68 := e6.trans (e7.trans e8)
          rw [a3, ea] at r8
          refine ⟨acc5, e68 _ _ hD5, ?_, ?_, ?_, acc5 ++ [v], upd_same, ?_, ?_⟩
          · rw [r5.length]
            exact flat_lt hz hjz hlen
          · rw [hid_upd List.mem_cons_self]
            exact eh5.trans (hid_ex2 e68)
          · intro a o q
            rw [upd_ne (ne_of_none q nD)]
            exact e68 _ _ (e5 _ _ q)
          · rw [hid_upd List.mem_cons_self, htj, ← List.append_assoc]
            exact (r5.mono (hid_ex2 e68)).append (.one r8)
          · exact (se5.mono e68).updHid List.mem_cons_self (by rw [ea]; exact nDa) (se.h0 nH) fun j d => nobo_wipe hnb vs1
      · have e : j = es.length := by omega
        subst e
        refine .inl ⟨w1.st _ H5 hS rfl, e5, acc5, hD5, ?_⟩
        rw [hel, List.take_length] at r5
        rw [htk, List.flatten_append, List.flatten_cons, List.flatten_nil, List.append_nil]
        exact r5
  · have e : i = ds.length := by omega
    subst e
    refine .inl ⟨w.st _ H' eH rfl, ?_⟩
    rw [← hzl, List.take_length] at racc
    exact k _ Dl acc H' hP nH (e1.trans eH) hD racc
theorem fx_lc2 {elt tg iter tg1 iter1 : Expr} {scope : Scope} {own : List (Str × Nat)} (vs1 : List Nat) {pos : Pos} {ti ti1 : FT} {g g1 : GT} {te : XT} {gown gown1 : List Nat} (hc : X.calm = true) (hN : X.N.Nodup) (hi : PI X tg iter (LB X.K ti)) (ok : BlkOk X.N X.env.scope scope own)
    (hg : ∀ (s : Shared) (H : Hp) (C : Addr) (cl : List (Str × Addr)) (fp : List Addr), PG (X.blk s H scope (compEnvC scope cl C X.env) fp) tg (Lg X.K gown g))
    (hi1 : ∀ (s : Shared) (H : Hp) (C : Addr) (cl : List (Str × Addr)) (fp : List Addr), PI (X.blk s H scope (compEnvC scope cl C X.env) fp) tg1 iter1 (LI X.K ti1))
    (hg1 : ∀ (s : Shared) (H : Hp) (C : Addr) (cl : List (Str × Addr)) (fp : List Addr), PG (X.blk s H scope (compEnvC scope cl C X.env) fp) tg1 (Lg X.K gown1 g1))
    (he : ∀ (s : Shared) (H : Hp) (C : Addr) (cl : List (Str × Addr)) (fp : List Addr), PE (X.blk s H scope (compEnvC scope cl C X.env) fp) elt (Li X.K te)) (hsub : ∀ j ∈ gown, j ∈ own.map (·.2) := by decide) (hsub1 : ∀ j ∈ gown1, j ∈ vs1 := by decide) (hv : ∀ i ∈ vs1, i ∈ own.map (·.2) := by decide)
    (hs : ∀ x, foldedSetIterable iter X.env x = pure x := by intro _; rfl) (hs1 : ∀ env x, foldedSetIterable iter1 env x = pure x := by intro _ _; rfl) :
    PE X (.ListComp elt [⟨tg, iter, [], 0⟩, ⟨tg1, iter1, [], 0⟩] scope pos) (Lf X.K (fLc2 ti g ti1 g1 te (own.map (·.2)) vs1)) :=
  pe_imp (pe_lc2 hc hN hi ok hv hg (fun _ _ _ _ _ => tts_nil) hi1 hg1 (fun _ _ _ _ _ => tts_nil) he hs hs1) (lc2_li hsub hsub1)
end
end Kb
set_option Elab.async false
set_option linter.all false
set_option maxRecDepth 100000
set_option maxHeartbeats 1000000
/-! Kb45: != of instances with an own __eq__; != of lists of such instances that are equal. -/
namespace KbNe
open PySem PySem.W
section
variable {prog : Program} {w : World} {A : Around} {E : Value → Shared → Prop} {s : Shared} {K : Frag} {x y C C' f : Addr} {ox : Obj} {od : Option Obj} {name : Str}
theorem ifBound_B {M : Model} {id : String} {args : List Value} {Q : Option Value → Shared → Prop} (X : K.In s.heap) (I : InstAt s.heap x ox C od) (hs : findIn K (.ref C) name = some (some (.builtin id)))
    (hb : ∀ self, bindSpecial (.builtin id) self = pure (.builtin id, [self])) (h : wpAny M A (call (.builtin id) (.ref x :: args)) (fun v => Q (some v)) E s) : wpAny M A (callSpecialIfBound? (.ref x) name args) Q E s := by
  simp only [callSpecialIfBound?, bindSpecialIfBound?]
  refine wpAny_holding (wpAny_bind (wpAny_bind (wpAny_bind (I.type.here ((looks_findIn X hs).here ?_)))))
  refine wpAny_bind (wpAny_askSetting (wpAny_ite ?_))
  have fin : wpAny M A (call (.builtin id) ([.ref x] ++ args) >>= fun v => pure (some v)) Q E s := wpAny_bind (wpAny_mono h (fun v s' h' => wpAny_pure h') fun _ _ h' => h')
  split
  · exact wpAny_bind ((Looks.of_pure (hb _)).here (wpAny_pure (by exact fin)))
  · exact wpAny_tryCatch (wpAny_bind ((Looks.of_pure (hb _)).here (wpAny_pure (by exact fin))))
theorem ne_entry (X : K.In s.heap) (I : InstAt s.heap x ox C od) (hs : findIn K (.ref C) "__eq__" = some (some (.ref f))) (hf : isFn K (.ref f) = true) (hu : A.units < cLine) {Q : Fin → Shared → Prop}
    (h : wpAny (model prog w) A (call (.ref f) [.ref x, .ref y]) (fun v s' => ∃ b, v = .bool b ∧ Q (.done (.ret (.bool (!b)))) s') E s) : wpAny (model prog w) A (Builtin.«object.__ne__» ⟨[.ref x, .ref y], []⟩) Q E s := by
  unfold Builtin.«object.__ne__»
  repeat (first
    | with_reducible refine wpAny_cRoomFor hu ?_
    | (refine wpAny_bind (m := callSpecialIfBound? (.ref x) (Str.ofString "__eq__") [.ref y])
        (ifBound_K X I hs hf (wpAny_mono h (fun r s' hr => by
          obtain ⟨b, rfl, hq⟩ := hr
          repeat (first | exact hq | exact wpAny_pure hq | exact wpAny_truthy_bool hq | (refine wpAny_bind (m := truthy (.bool _)) (wpAny_truthy_bool ?_)) | wp_step)) fun _ _ e => e)))
    | wp_step)
theorem cmp_ne {Q : Value → Shared → Prop} (hu : A.units + 1 < cLine) (X : K.In s.heap) (I : InstAt s.heap x ox C od) (hb : Looks (model prog w) s.heap (typeOf (.ref y)) (.ref C')) (hn : notFirst K C (.ref C') = true) (hm : mroIn K C (.type "object") = some true)
    (hne : findIn K (.ref C) "__ne__" = some (some (.builtin "object.__ne__"))) (hs : findIn K (.ref C) "__eq__" = some (some (.ref f))) (hf : isFn K (.ref f) = true)
    (h : wpAny (model prog w) A.in1 (call (.ref f) [.ref x, .ref y]) (fun v s' => ∃ b, v = .bool b ∧ Q (.bool (!b)) s') E s) : wpAny (model prog w) A (richCompare .NotEq (.ref x) (.ref y)) Q E s := by
  have one : wpAny (model prog w) A (tryCompare (.ref x) (cmpInfo .NotEq).2.1 (.ref y)) (fun r s' => ∃ v, r = some v ∧ Q v s') E s := by
    unfold tryCompare
    refine wpAny_bind (ifBound_B X I hne F.cmp_object.ne.bind (wpAny_call (codeAny_call_builtin F.cmp_object.ne.plain F.cmpEntry_ne (@check_slot (model prog w) _ _ s "object.__ne__" "object" "__ne__" (.ref x) [.ref y] [] _ F.cmpKind_ne F.cmpSplit_ne (I.type.andThen (looks_mroIn X hm)) (F.cmpArgs_ne _ _)
      (ne_entry (A := A.in1) X I hs hf hu (wpAny_mono h (fun v s' hv => ?_) fun _ _ e => e))))))
    obtain ⟨b, rfl, hq⟩ := hv
    first | exact ⟨b, rfl, wpAny_pure ⟨_, rfl, hq⟩⟩ | exact ⟨b, rfl, wpAny_pure (wpAny_pure ⟨_, rfl, hq⟩)⟩ | exact ⟨b, rfl, ⟨_, rfl, hq⟩⟩
  unfold richCompare
  simp only [oneThing_ref]
  refine wpAny_holding (wpAny_bind (wpAny_cRoomFor (Nat.lt_of_succ_lt hu) ?_))
  refine wpAny_bind (I.type.here (wpAny_bind (hb.here ?_)))
  split
  · rename_i q
    have e : subIn K (.ref C') (.ref C) = some false := by
      rcases Bool.or_eq_true_iff.mp hn with e | e
      · rw [beq_iff_eq.mp e] at q; simp at q
      · exact beq_iff_eq.mp e
    refine wpAny_bind ((looks_subIn X e).here ?_)
    simp only [Bool.false_eq_true, if_false]
    refine wpAny_bind (wpAny_mono one (fun r s' z => ?_) fun _ _ e => e)
    obtain ⟨v, rfl, hq⟩ := z
    exact wpAny_pure hq
  · refine wpAny_bind (wpAny_pure ?_)
    simp only [Bool.false_eq_true, if_false]
    refine wpAny_bind (wpAny_mono one (fun r s' z => ?_) fun _ _ e => e)
    obtain ⟨v, rfl, hq⟩ := z
    exact wpAny_pure hq
end
end KbNe
namespace GQ
open PySem PySem.SeqAt
open AutoSeq1 (wpAny_loadPart')
open MeetsSeq MeetsSeq2 MeetsSeq3 SeqRoads2
section
variable {prog : Program} {w : World} {A : Around} {R : Result → Shared → Prop}
theorem kb_ne_loop (l b : Addr) (N : Nat) (I : Nat → Shared → Prop) (hl : ListI prog w A (fun e s' => R (.error e) s') l b N I)
    (fin : ∀ s, I N s → R (.ok (.ret (.bool false))) s) (k : Nat) :
    ∀ i : Nat, N - i = k → i ≤ N → ∀ s, I i s →
      wpAny (model prog w) A.in1 (Builtin.«list.__eq__.loop» ⟨[.ref l, .ref b, rawInt i, rawInt 3], []⟩) (FinOf prog w A R) (fun e s' => R (.error e) s') s := by
  induction k with
  | zero =>
    intro i hk hi s h
    obtain ⟨items, items2, n, n2, hl1, hb1, hs1, hs2, _⟩ := hl _ _ h
    have hi' : i = N := by omega
    have hR : R (.ok (.ret (.bool false))) s := fin s (hi' ▸ h)
    obtain ⟨hp, g, d, tk, os⟩ := s
    wp_walk using wpAny_loadPart' hl1, wpAny_loadPart' hb1
    have hi1 : items[((i : Nat) : Int).toNat]? = none := by simp; omega
    have hi2 : items2[((i : Nat) : Int).toNat]? = none := by simp; omega
    rw [hi1, hi2]
    wp_walk using wpAny_loadPart' hl1, wpAny_loadPart' hb1
    show R (.ok (.ret (.bool (items.size != items2.size)))) _
    rw [hs1, hs2]
    simpa using hR
  | succ k ih =>
    intro i hk hi s h
    obtain ⟨items, items2, n, n2, hl1, hb1, hs1, hs2, turn⟩ := hl _ _ h
    have hlt : i < items.size := by omega
    have hlt2 : i < items2.size := by omega
    have ht := turn hlt hlt2
    obtain ⟨hp, g, d, tk, os⟩ := s
    wp_walk using wpAny_loadPart' hl1, wpAny_loadPart' hb1
    have hi1 : items[((i : Nat) : Int).toNat]? = some items[i] := by simp [hlt]
    have hi2 : items2[((i : Nat) : Int).toNat]? = some items2[i] := by simp [hlt2]
    have hc : ((i : Int) + 1) = ((i + 1 : Nat) : Int) := by omega
    rw [hi1, hi2]
    refine wpAny_bind (wpAny_mono ht (fun r s2 h2 => ?_) fun _ _ x => x)
    obtain ⟨hr, h2⟩ := h2
    subst hr
    have hrec := ih (i + 1) (by omega) (by omega) s2 h2
    obtain ⟨hp2, g2, d2, tk2, os2⟩ := s2
    wp_walk
    rw [hc]
    exact ⟨plainId_quiet plain_eq_loop _, codeAny_builtin entry_eq_loop (by
      rw [Around.under_plainId plain_eq_loop _]
      exact hrec)⟩
theorem kb_list_ne (l b : Addr) (N : Nat) (I : Nat → Shared → Prop) (hl : ListI prog w A (fun e s' => R (.error e) s') l b N I)
    (fin : ∀ s, I N s → R (.ok (.ret (.bool false))) s) {s : Shared} (h : I 0 s) :
    wpAny (model prog w) A.in1 (Builtin.«list.__ne__» ⟨[.ref l, .ref b], []⟩) (FinOf prog w A R) (fun e s' => R (.error e) s') s := by
  obtain ⟨items, items2, n, n2, hl1, hb1, hs1, hs2, _⟩ := hl _ _ h
  have hrec := kb_ne_loop (A := A) (R := R) l b N I hl fin _ 0 rfl (Nat.zero_le _) s h
  obtain ⟨hp, g, d, tk, os⟩ := s
  have f3 := AutoSeq1.sub_list_list
  have hne : ¬ (items.size != items2.size) = true := by simp [hs1, hs2]
  wp_walk using wpAny_loadPart' hl1, wpAny_loadPart' hb1
  exact ⟨plainId_quiet plain_eq_loop _, codeAny_builtin entry_eq_loop (by
    rw [Around.under_plainId plain_eq_loop _]
    exact hrec)⟩
end
section
variable {prog : Program} {w : World} {A : Around} {E : Value → Shared → Prop} {s : Shared}
theorem kb_rc_listN {l b : Addr} {N : Nat} {Q : Value → Shared → Prop} (hu : A.units < cLine) (I : Nat → Shared → Prop) (hl : ListI prog w A E l b N I)
    (fin : ∀ s, I N s → Q (.bool false) s) (h : I 0 s) : wpAny (model prog w) A (richCompare .NotEq (.ref l) (.ref b)) Q E s := by
  obtain ⟨items, items2, n, n2, hl1, hb1, _, _, _⟩ := hl _ _ h
  refine wpAny_richCompare_same_room (op := .NotEq) ⟨_, hl1, rfl⟩ ⟨_, hb1, rfl⟩ F.slot_list_ne (call_here F.slot_list_ne ⟨_, hl1, rfl⟩ F.entry_list_ne (F.args_list_ne_2 _ _) ?_) hu
  exact kb_list_ne (R := wants (fun v s' => v ≠ .notImplemented ∧ Q v s') E) l b N I hl (fun s' q => ⟨(fun x => nomatch x), fin s' q⟩) h
end
end GQ
set_option Elab.async false
set_option linter.all false
set_option maxRecDepth 100000
set_option maxHeartbeats 1000000
/-! Kb46: readings of !=; is of anything and a truth value; slices and comprehensions that draw. -/
namespace Kb
open PySem L2
open PyProof.Rows hiding St
set_option autoImplicit false
section
variable {X : Cx} {W : WX} {C : Addr} {k : Nat} {S : SP}
/-! ### x != y, instances with an own == -/
structure NeC (K : Frag) (C : Addr) : Prop where
  mro : PySem.W.mroIn K C (.type "object") = some true
  ne : PySem.W.findIn K (.ref C) "__ne__" = some (some (.builtin "object.__ne__"))
def rOwnN (K : PySem.W.Frag) (C : Addr) (sp : Sp) (E : XK) : R2 := fun x y H Q => ∃ a dx vs b C' dy ws, x = .ref a ∧ y = .ref b ∧ SlX.Slt H a C dx vs ∧ SlX.Slt H b C' dy ws ∧ PySem.W.notFirst K C (.ref C') = true ∧ sp [x, y] H (fun z H' => ∃ c, z = .bl c ∧ Q (.bl (!c)) H') E
theorem op_neO (F : DmE X.prog X.w X.K X.mg X.base C k S) (N : NeC X.K C) (hr : Room (k + 1) X.A) : OpR X (compareOp .NotEq) (rOwnN X.K C (spP X.K S) fun _ _ _ => False) := by
  obtain ⟨f, fd, ps, h1, h2, h3, h4, _⟩ := F.ex
  have R : FnR X.prog X.w X.K X.mg X.base CX0 k f (spP X.K S) := (FnOk.raw h1 h4 .nil).imp fun vs H Q E z => by rw [List.append_nil]; exact z
  intro pins s σ H x y v u Q I rx ry h
  obtain ⟨a, dx, vs, b, C', dy, ws, rfl, rfl, ha, hb, hn, q⟩ := h
  cases (show v = Value.ref a from rx)
  cases (show u = Value.ref b from ry)
  obtain ⟨sl, od, _, J, _⟩ := SlX.slt_inst I ha
  obtain ⟨sl', od', _, J', _⟩ := SlX.slt_inst I hb
  show wpAny (model X.prog X.w) X.A (richCompare .NotEq (.ref a) (.ref b)) (EP X pins σ Q) X.xe s
  refine KbNe.cmp_ne hr.in1.units0 I.kIn J J'.type hn N.mro N.ne h2 h3 ?_
  refine wpAny_mono (wpAny_call (SlX.run_at (us := [.ref a, .ref b]) (ws := [.ref a, .ref b]) R hr.in1 I.env0.in1 pass0 I (.cons rfl (.cons rfl .nil)) q)) (fun w s' z => ?_) fun _ _ x => x
  obtain ⟨z', H', I', rz, c, ez, qz⟩ := z
  subst ez
  cases (show w = Value.bool c from rz)
  exact ⟨c, rfl, .bl (!c), H', I', rfl, qz⟩
def fOwnN (C : Addr) (S : SP) : F2 := fun d e P => match d, e with
  | .slo C1 f1, .slo C2 f2 => C1 = C ∧ C2 = C ∧ S.S [.bo (.slo C1 f1), .bo (.slo C2 f2)] fun r => ∃ c, r = .d (.bl c) ∧ P (.bl (!c))
  | _, _ => False
theorem does_ownN {K : Frag} {E : XK} (nf : PySem.W.notFirst K C (.ref C) = true) : Does K (rOwnN K C (spP K S) E) (fOwnN C S) := fun ms H x y d e P Q b rx ry h k => by
  unfold fOwnN at h
  split at h
  · obtain ⟨rfl, rfl, h⟩ := h
    obtain ⟨a, dx, vs, fvs, rfl, q1, hx, _⟩ := rx.slots hid_ex
    obtain ⟨a2, dx2, vs2, fvs2, rfl, q2, hx2, _⟩ := ry.slots hid_ex
    refine ⟨a, dx, vs, a2, _, dx2, vs2, rfl, rfl, slt_in (K := K) hid_ex q1 hx, slt_in (K := K) hid_ex q2 hx2, nf, ms, _, .cons (s := .bo _) rx rfl (.cons (s := .bo _) ry rfl .nil), b, S.mon _ _ _ (fun r hr v H' e3 ro => ?_) h⟩
    obtain ⟨c, rfl, hp⟩ := hr
    have rv : Rep K (hid ms H') v (.bl c) := res_dat b.fresh ro
    cases rv
    exact ⟨c, rfl, k _ _ H' hp e3 (.bl _)⟩
  · exact h.elim
theorem px_neO {a b : Expr} {pos : Pos} {ta tb : XT} (F : DmE X.prog X.w X.K X.mg X.base C k S) (N : NeC X.K C) (hr : Room (k + 1) X.A) (ha : PE X a (Lb X.K ta)) (hb : PE X b (Lb X.K tb)) : PE X (.Compare a [.NotEq] [b] pos) (Li X.K (x2 (fOwnN C S) ta tb)) := by
  obtain ⟨_, _, _, _, _, _, _, nf⟩ := F.ex
  exact px_cmp (op_neO F N hr) (does_ownN nf) ha hb
theorem tx_neO {a b : Expr} {pos : Pos} {ta tb : XT} (F : DmE X.prog X.w X.K X.mg X.base C k S) (N : NeC X.K C) (hr : Room (k + 1) X.A) (ha : PE X a (Lb X.K ta)) (hb : PE X b (Lb X.K tb)) : PT X (.Compare a [.NotEq] [b] pos) (Lt X.K (b2 (fOwnN C S) ta tb)) := by
  obtain ⟨_, _, _, _, _, _, _, nf⟩ := F.ex
  exact tx_cmp (op_neO F N hr) (does_ownN nf) ha hb
/-! ### xs != ys, lists of such instances that are equal -/
def ESlo (K : Frag) (C : Addr) (S : SP) : Eqv := fun x y H => ∃ (ms : List Addr) (fs : List (Str × D)), Bs ms H ∧ Rep K (hid ms H) x (.slo C fs) ∧ Rep K (hid ms H) y (.slo C fs) ∧ S.S [.bo (.slo C fs), .bo (.slo C fs)] fun r => r = .d (.bl true)
theorem mon_slo {K : Frag} : Mon (ESlo K C S) := fun x y H H' e d => by
  obtain ⟨ms, fs, b, r1, r2, h⟩ := d
  exact ⟨ms, fs, b.mono e, r1.mono (hid_ex2 e), r2.mono (hid_ex2 e), h⟩
theorem rcG_slo (F : DmE X.prog X.w X.K X.mg X.base C k S) : RcG X k (ESlo X.K C S) := by
  obtain ⟨f, fd, ps, h1, h2, h3, h4, nf⟩ := F.ex
  have R : FnR X.prog X.w X.K X.mg X.base CX0 k f (spP X.K S) := (FnOk.raw h1 h4 .nil).imp fun vs H Q E z => by rw [List.append_nil]; exact z
  intro A pins s σ H x y u v sb I rx ry d
  obtain ⟨ms, fs, b, r1, r2, hS⟩ := d
  obtain ⟨a, dx, vs, fvs, rfl, q1, hx, _⟩ := (RepW.im (H := H) r1).slots hid_ex
  obtain ⟨a2, dx2, vs2, fvs2, rfl, q2, hx2, _⟩ := (RepW.im (H := H) r2).slots hid_ex
  cases (show u = Value.ref a from rx)
  cases (show v = Value.ref a2 from ry)
  obtain ⟨sl, od, _, J, _⟩ := SlX.slt_inst I (slt_in (K := X.K) hid_ex q1 hx)
  obtain ⟨sl', od', _, J', _⟩ := SlX.slt_inst I (slt_in (K := X.K) hid_ex q2 hx2)
  obtain ⟨m, hF⟩ := I.fr
  refine PySem.W.cmp_K (op := .Eq) (tb := .ref C) sb.room.units0 hF I.ok.mod.kin J J'.type nf h2 h3 ?_
  have e0 : Env0 X.prog X.w X.K X.mg X.base A X.stack s H := by
    have e := I.env0
    exact ⟨by rw [sb.fr]; exact e.frames, e.mod, e.bs, e.bsz, e.funs, e.frf, e.hok, e.bare⟩
  have hsp : spP X.K S [.ref a, .ref a2] H (fun v H' => v = .bl true ∧ Ext H H') (fun _ _ _ => False) := ⟨ms, _, .cons (s := .bo _) (RepW.im r1) rfl (.cons (s := .bo _) (RepW.im r2) rfl .nil), b, S.mon _ _ _ (fun r hr v H' e3 ro => by
    subst hr
    have rv : Rep X.K (hid ms H') v (.bl true) := res_dat b.fresh ro
    cases rv
    exact ⟨rfl, e3⟩) hS⟩
  refine wpAny_mono (wpAny_call (SlX.run_at (us := [.ref a, .ref a2]) (ws := [.ref a, .ref a2]) R sb.room e0 pass0 I (.cons rfl (.cons rfl .nil)) hsp)) (fun w s' z => ?_) fun _ _ x => x
  obtain ⟨z', H', I', rz, ez, ex⟩ := z
  subst ez
  cases (show w = Value.bool true from rz)
  exact ⟨rfl, H', I', ex⟩
def rNeG (D : Eqv) : R2 := fun x y H Q => DList D x y H ∧ ∀ H', Ext H H' → Q (.bl false) H'
theorem op_neG {n : Nat} {D : Eqv} (hD : Mon D) (h : EqG X n D) (hr : Room (n + 1) X.A) : OpR X (compareOp .NotEq) (rNeG D) := by
  intro pins s σ H x y v u Q I rx ry hq
  obtain ⟨⟨a, b, xs, ys, rfl, rfl, ha, hb, p⟩, q⟩ := hq
  cases rx
  cases ry
  show wpAny (model X.prog X.w) X.A (richCompare .NotEq (.ref a) (.ref b)) (EP X pins σ Q) X.xe s
  have sb : Sub X (n + 1) X.A := ⟨hr, rfl⟩
  refine GQ.kb_rc_listN (N := xs.length) sb.room.units0 (fun _ s' => LoopI X pins σ H s') (fun i s' q => ?_) (fun s' ⟨H1, I1, e1⟩ => ⟨.bl false, H1, I1, rfl, q H1 e1⟩) ⟨H, I, Ext.rfl'⟩
  obtain ⟨H1, I1, e1⟩ := id q
  obtain ⟨z, its, k, r, e⟩ := I1.hok a _ (e1 _ _ ha)
  obtain ⟨z2, its2, k2, r2, e2⟩ := I1.hok b _ (e1 _ _ hb)
  refine ⟨its.toArray, its2.toArray, k, k2, e, e2, by rw [List.size_toArray, ← r.length], by rw [List.size_toArray, ← r2.length, ← p.1], fun h1 h2 => ?_⟩
  exact turnG hD h sb p r r2 i h1 h2 s' q
def fNeL (C : Addr) (S : SP) : F2 := fun d e P => match d, e with
  | .lst xs, .lst ys => xs = ys ∧ (∀ x ∈ xs, ∃ fs, x = .slo C fs ∧ S.S [.bo (.slo C fs), .bo (.slo C fs)] fun r => r = .d (.bl true)) ∧ P (.bl false)
  | _, _ => False
theorem does_neL {K : Frag} : Does K (rNeG (ESlo K C S)) (fNeL C S) := fun ms H x y d e P Q b rx ry h k => by
  unfold fNeL at h
  split at h
  · obtain ⟨rfl, hx, hp⟩ := h
    obtain ⟨a, vs, rfl, h1, r1⟩ := rx.list hid_ex
    obtain ⟨a2, vs2, rfl, h2, r2⟩ := ry.list hid_ex
    refine ⟨⟨a, a2, vs, vs2, rfl, rfl, h1, h2, by rw [r1.length, r2.length], fun i v w hv hw => ?_⟩, fun H' e => k _ _ H' hp e (.bl _)⟩
    obtain ⟨d, hd, rd⟩ := r1.get hv
    obtain ⟨d2, hd2, rd2⟩ := r2.get hw
    rw [hd] at hd2
    cases hd2
    obtain ⟨fs, rfl, hS⟩ := hx d (List.mem_of_getElem? hd)
    exact ⟨ms, fs, b, rd, rd2, hS⟩
  · exact h.elim
theorem px_neL {a b : Expr} {pos : Pos} {ta tb : XT} (F : DmE X.prog X.w X.K X.mg X.base C k S) (hr : Room (k + 1) X.A) (ha : PE X a (Lb X.K ta)) (hb : PE X b (Lb X.K tb)) : PE X (.Compare a [.NotEq] [b] pos) (Li X.K (x2 (fNeL C S) ta tb)) :=
  px_cmp (op_neG mon_slo ((rcG_slo F).eqG fun x y H ⟨ms, fs, b, r1, r2, _⟩ => by
    obtain ⟨a, _, _, _, h, _⟩ := (RepW.im (H := H) r1).slots hid_ex
    obtain ⟨a2, _, _, _, h2, _⟩ := (RepW.im (H := H) r2).slots hid_ex
    exact ⟨a, a2, h, h2⟩) hr) does_neL ha hb
theorem tx_neL {a b : Expr} {pos : Pos} {ta tb : XT} (F : DmE X.prog X.w X.K X.mg X.base C k S) (hr : Room (k + 1) X.A) (ha : PE X a (Lb X.K ta)) (hb : PE X b (Lb X.K tb)) : PT X (.Compare a [.NotEq] [b] pos) (Lt X.K (b2 (fNeL C S) ta tb)) :=
  tx_cmp (op_neG mon_slo ((rcG_slo F).eqG fun x y H ⟨ms, fs, b, r1, r2, _⟩ => by
    obtain ⟨a, _, _, _, h, _⟩ := (RepW.im (H := H) r1).slots hid_ex
    obtain ⟨a2, _, _, _, h2, _⟩ := (RepW.im (H := H) r2).slots hid_ex
    exact ⟨a, a2, h, h2⟩) hr) does_neL ha hb
/-! ### e is False, e a list or a truth value -/
theorem op_isA : OpR X (compareOp .Is) (fun x y H Q => (∃ a b, x = .bl a ∧ y = .bl b ∧ Q (.bl (decide (a = b))) H) ∨ ∃ p b, x = .ref p ∧ y = .bl b ∧ Q (.bl false) H) := by
  intro pins s σ H x y v u Q I rx ry h
  rcases h with h | ⟨p, b, rfl, rfl, q⟩
  · exact op_is_bl pins s σ H x y v u Q I rx ry h
  · cases (show v = Value.ref p from rx)
    cases (show u = Value.bool b from ry)
    exact wpAny_is_other rfl (fun z => nomatch z) ⟨.bl false, H, I, rfl, q⟩
theorem does_isA {K : Frag} : Does K (fun x y H Q => (∃ a b, x = .bl a ∧ y = .bl b ∧ Q (.bl (decide (a = b))) H) ∨ ∃ p b, x = .ref p ∧ y = .bl b ∧ Q (.bl false) H) (fIsA false) := fun ms H x y d e P Q b rx ry h k => by
  unfold fIsA at h
  split at h
  · rename_i a c
    cases rx.blv
    cases ry.blv
    refine .inl ⟨a, c, rfl, rfl, k _ _ H h (Same.refl H) ?_⟩
    rw [Bool.false_xor, show (a == c) = decide (a = c) by cases a <;> cases c <;> rfl]
    exact .bl _
  · rename_i xs c
    obtain ⟨p, vs, rfl, _⟩ := rx.list hid_ex
    cases ry.blv
    exact .inr ⟨p, c, rfl, rfl, k _ _ H h (Same.refl H) (.bl _)⟩
  · exact h.elim
variable {a b : Expr} {ta tb : XT} {pos : Pos}
theorem px_isA (ha : PE X a (Lb X.K ta)) (hb : PE X b (Lb X.K tb)) : PE X (.Compare a [.Is] [b] pos) (Li X.K (x2 (fIsA false) ta tb)) := px_cmp op_isA does_isA ha hb
theorem tx_isA (ha : PE X a (Lb X.K ta)) (hb : PE X b (Lb X.K tb)) : PT X (.Compare a [.Is] [b] pos) (Lt X.K (b2 (fIsA false) ta tb)) := tx_cmp op_isA does_isA ha hb
/-! ### x = [.. for ..], the elements draw -/
theorem asgMF_li {i : Nat} {t : MT} (D : Ends) (σ : St) (H : Hp) (h : Ls X.K W (sAsgM i (mF t)) D σ H) : LmF X.K t σ H fun v H2 => D.nx (σ.set i (some v)) H2 := by
  obtain ⟨H0, ps, hs, Γ, E, se, ht, r⟩ := h
  refine ⟨H0, ps, hs, Γ, _, se, ht, fun ds Γ2 p vs H2 q n se2 k2 h2 rr => ?_⟩
  have np : p ∉ hs ++ adr Γ := se.bs.new n
  exact r.nx _ _ H2 q ((se2.unhide se.psub).set_im (by
    rw [k2.1]
    exact .lst (by rw [hid_ni np]; exact h2) (rr.mono (hid_sub fun a m => List.mem_cons_of_mem _ m))) i) (k2.kp.trans (kp_set_im (Same.refl H2)))
theorem s_lcM {i : Nat} {y : Str} {py : Pos} {elt tg iter : Expr} {ifs : List Expr} {scope : Scope} {own : List (Str × Nat)} {pos spos : Pos} {ti : MT} {g : GT} {tt : BT} {te : IT} {gown : List Nat} (hc : X.calm = true) (hN : X.N.Nodup) (hy : X.N[i]? = some y) (hyl : X.env.scope.names.lookup y = some .local)
    (hsw : swapsWith (.ListComp elt [⟨tg, iter, ifs, 0⟩] scope pos) (some (.Name y py)) spos.line X.env = pure true) (hi : PI X tg iter (LIZ X.K ti)) (ok : BlkOk X.N X.env.scope scope own)
    (hg : ∀ (s : Shared) (H : Hp) (C : Addr) (cl : List (Str × Addr)) (fp : List Addr), PG (X.blk s H scope (compEnvC scope cl C X.env) fp) tg (Lg X.K gown g)) (ht : ∀ (s : Shared) (H : Hp) (C : Addr) (cl : List (Str × Addr)) (fp : List Addr), PTs (X.blk s H scope (compEnvC scope cl C X.env) fp) ifs (Lt X.K tt))
    (he : ∀ (s : Shared) (H : Hp) (C : Addr) (cl : List (Str × Addr)) (fp : List Addr), PE (X.blk s H scope (compEnvC scope cl C X.env) fp) elt (Lm X.K te)) (hsub : ∀ j ∈ gown, j ∈ own.map (·.2) := by decide) (hs : ∀ x, foldedSetIterable iter X.env x = pure x := by intro _; rfl) :
    PS X (.Assign [.Name y py] (.ListComp elt [⟨tg, iter, ifs, 0⟩] scope pos) spos) (Ls X.K W (sAsgM i (mF (mLc ti g tt te (own.map (·.2)))))) :=
  ps_imp (ps_setLc hc hN hy hyl hsw hi ok hg ht he hs) fun D σ H h => lcz_li hsub σ H _ (asgMF_li D σ H h)
/-! ### e[lo:hi], e draws -/
def mSl (t : IT) (tl th : OT) : IT := fun Γ P => t Γ fun d Γ2 => match d with
  | .lst xs => tl Γ2 fun lo => th Γ2 fun hi => P (.lst (cutD xs lo hi)) Γ2
  | _ => False
theorem mx_sl {e : Expr} {lo hi : Option Expr} {p2 pos : Pos} {t : IT} {tl th : OT} (he : PE X e (Lm X.K t)) (hl : PO X lo (Lo X.K tl)) (hh : PO X hi (Lo X.K th)) : PE X (.Subscript e (.Slice lo hi none p2) pos) (Lm X.K (mSl t tl th)) :=
  pe_imp (pe_slice sl_list he hl hh) fun σ H Q ⟨H0, ps, hs, Γ, P, se, ht, k⟩ => ⟨H0, ps, hs, Γ, _, se, ht, fun d Γ2 v H2 p se2 k2 r => by
    cases d with
    | lst xs =>
      refine ⟨H0, ps, hs, Γ2, _, se2, p, fun lo H3 q3 e3 => ⟨H0, ps, hs, Γ2, _, se2.mono e3, q3, fun hi H4 q4 e4 => ?_⟩⟩
      obtain ⟨a, vs, rfl, h, rr⟩ := (RepW.im (H := H2) r).list hid_ex
      have em : Ex H2 H4 := e3.trans e4
      refine ⟨a, vs, rfl, SqL.of (em _ _ h), fun q n => ?_⟩
      have se4 := se2.mono em
      have np : q ∉ hs ++ adr Γ := by rw [← k2.1]; exact se4.bs.new n
      refine k _ Γ2 _ _ q4 (se4.mono (Ex.new n)) (k2.trans (Km.ex (em.trans (Ex.new n)))) ?_
      exact .lst (by rw [hid_ni np]; exact upd_same) ((cut_rep (rr.mono (hid_ex2 em)) lo hi).mono (hid_ex2 (Ex.new n)))
    | _ => exact p.elim⟩
end
end Kb
set_option Elab.async false
set_option linter.all false
set_option maxRecDepth 100000
set_option maxHeartbeats 1000000
/-! Kb47: xs.append(e), e draws. -/
namespace Kb
open PySem L2
set_option autoImplicit false
section
variable {X : Cx} {W : WX}
def sAppM (i : Nat) (t : IT) : ST := fun E Γ => match Γ[i]? with
  | some (some (.ml l _)) => t Γ fun d Γ2 => ∃ ds, Γ2[i]? = some (some (.ml l ds)) ∧ ds.length < sizeLine ∧ E.nx (Γ2.set i (some (.ml l (ds ++ [d]))))
  | _ => False
theorem s_appM (i : Nat) {x : Str} {e : Expr} {t : IT} {npos apos cpos pos : Pos} (he : PE X e (Lm X.K t)) (hN : X.N[i]? = some x := by rfl) (hv : Vis X.env.scope x := by first | exact Or.inl rfl | exact Or.inr (Or.inl rfl) | exact Or.inr (Or.inr rfl)) (hd : (x == ("__debug__" : Str)) = false := by decide) (hcd : (x == ("__classdict__" : Str)) = false := by decide)
    (hbase : attributeBase (.Name x npos) "append" X.env (eval (.Name x npos) X.env) = eval (.Name x npos) X.env := by rfl)
    (hfew : ((backTo cpos (starEach [e] X.env)).all (fun x => !x.1) && (backToKw cpos (keywordEach [] X.env)).all (fun x => x.1.isSome)
      && decide ([e].length + ([] : List Keyword).length + (if ([] : List Keyword).isEmpty then 0 else 1) < 30)) = true := by rfl)
    (hline : (apos.endLine == cpos.line) = true := by rfl) (hs : starEach [e] X.env = (false, eval e X.env) :: starEach [] X.env := by rfl) (hplain : (backTo cpos (starEach [] X.env)).any (·.1) = false := by rfl)
    (hsw : swapsWith (.Call (.Attribute (.Name x npos) "append" apos) [e] [] cpos) none pos.line X.env = pure false := by rfl) :
    PS X (.Expr (.Call (.Attribute (.Name x npos) "append" apos) [e] [] cpos) pos) (Ls X.K W (sAppM i t)) :=
  ps_imp (ps_expr (pe_bm PySem.F.plainAttrs_list PySem.F.slot_list_append PySem.F.type_list_append mt_append (pe_var hN hv hd hcd) (pa_cons he pa_nil hs) hbase hfew hline hs hplain) hsw) fun D σ H ⟨H0, ps, hs, Γ, E, se, ht, r⟩ => by
    unfold sAppM at ht
    split at ht
    · rename_i l ds0 e
      obtain ⟨v, h1, rfl, vs0, h20, h30⟩ := se.ok i _ e
      refine ⟨_, h1, .inl ⟨rfl, _, SqL.of h20⟩, H0, ps, hs, Γ, _, se, ht, fun d Γ2 y H2 p se2 k2 rr => ?_⟩
      obtain ⟨ds, e2, hl, hn⟩ := p
      obtain ⟨v', h1', rfl, vs, h2, h3⟩ := se2.ok i _ e2
      have hm : l ∈ adr Γ2 := mem_adr.mpr ⟨i, _, e2, rfl⟩
      obtain ⟨se', ha⟩ := se2.write (s' := .ml l (ds ++ [d])) (o := .lst (vs ++ [y])) e2 rfl rfl rfl ⟨rfl, _, upd_same, h3.append (.one (by rw [k2.1]; exact rr))⟩
      exact ⟨l, vs, y, rfl, rfl, h2, by rw [h3.length]; exact hl, r.nx _ σ _ hn se' (k2.kp.trans (kp_write hm ha))⟩
    · exact ht.elim
end
end Kb
set_option Elab.async false
set_option linter.all false
set_option maxRecDepth 100000
set_option maxHeartbeats 1000000
/-! Kb48: texts: signs in texts, slices, items, startswith, partition, split, join, str(e), int(text), f-strings, walks, repetition; constants of the module; enumerate of a list. -/
namespace Kb
open PySem L2
open PyProof.Rows hiding St
set_option autoImplicit false
section
variable {X : Cx} {W : WX} {a b o e : Expr} {pos : Pos} {ta tb to te : XT}
/-! ### constants of the module -/
theorem px_gstr {x : Str} {z : Str} (hg : Gl X x) (hm : ∃ t, X.mg x = some (.str z t)) (hd : (x == ("__debug__" : Str)) = false := by decide) : PE X (.Name x pos) (Li X.K (xC (.str z))) := by
  obtain ⟨t, hm⟩ := hm
  exact px_c (pe_glob (v := .str z) hg hm ⟨t, rfl⟩ hd) fun _ _ => .str z
theorem px_gint {x : Str} {i : Int} (hg : Gl X x) (hm : ∃ t, X.mg x = some (.int i t)) (hd : (x == ("__debug__" : Str)) = false := by decide) : PE X (.Name x pos) (Li X.K (xC (.int i))) := by
  obtain ⟨t, hm⟩ := hm
  exact px_c (pe_glob (v := .int i) hg hm ⟨t, rfl⟩ hd) fun _ _ => .int i
/-! ### a sign in a text -/
def fInS (neg : Bool) : F2 := fun d e P => match d, e with
  | .str x, .str z => ∃ c, x = ⟨#[c]⟩ ∧ P (.bl (xor neg (decide (c ∈ z.cps.toList))))
  | _, _ => False
theorem does_inS {K : Frag} : Does K (fun x y H Q => ∃ (c : Nat) (z : Str), x = .str ⟨#[c]⟩ ∧ y = .str z ∧ Q (.bl (decide (c ∈ z.cps.toList))) H) (fInS false) := fun ms H x y d e P Q b rx ry h k => by
  unfold fInS at h
  split at h
  · obtain ⟨c, rfl, h⟩ := h
    cases rx.strv
    cases ry.strv
    refine ⟨c, _, rfl, rfl, k _ _ H h (Same.refl H) ?_⟩
    rw [Bool.false_xor]
    exact .bl _
  · exact h.elim
theorem does_ninS {K : Frag} : Does K (fun x y H Q => ∃ (c : Nat) (z : Str), x = .str ⟨#[c]⟩ ∧ y = .str z ∧ Q (.bl (!decide (c ∈ z.cps.toList))) H) (fInS true) := fun ms H x y d e P Q b rx ry h k => by
  unfold fInS at h
  split at h
  · obtain ⟨c, rfl, h⟩ := h
    cases rx.strv
    cases ry.strv
    refine ⟨c, _, rfl, rfl, k _ _ H h (Same.refl H) ?_⟩
    rw [Bool.true_xor]
    exact .bl _
  · exact h.elim
theorem px_inS (ha : PE X a (Lb X.K ta)) (hb : PE X b (Lb X.K tb)) (hm : behindInMarks .In b = false := by rfl) : PE X (.Compare a [.In] [b] pos) (Li X.K (x2 (fInS false) ta tb)) := px_cmp op_in_sign does_inS ha hb hm
theorem tx_inS (ha : PE X a (Lb X.K ta)) (hb : PE X b (Lb X.K tb)) (hm : behindInMarks .In b = false := by rfl) : PT X (.Compare a [.In] [b] pos) (Lt X.K (b2 (fInS false) ta tb)) := tx_cmp op_in_sign does_inS ha hb hm
theorem px_ninS (ha : PE X a (Lb X.K ta)) (hb : PE X b (Lb X.K tb)) (hm : behindInMarks .NotIn b = false := by rfl) : PE X (.Compare a [.NotIn] [b] pos) (Li X.K (x2 (fInS true) ta tb)) := px_cmp op_notIn_sign does_ninS ha hb hm
theorem tx_ninS (ha : PE X a (Lb X.K ta)) (hb : PE X b (Lb X.K tb)) (hm : behindInMarks .NotIn b = false := by rfl) : PT X (.Compare a [.NotIn] [b] pos) (Lt X.K (b2 (fInS true) ta tb)) := tx_cmp op_notIn_sign does_ninS ha hb hm
/-! ### slices, items -/
def xSlS (t : XT) (tl th : OT) : XT := fun Γ P => t Γ fun d => match d with
  | .str z => z.length ≤ sizeLine ∧ tl Γ fun lo => th Γ fun hi => P (.str (cutS z lo hi))
  | _ => False
theorem px_slS {lo hi : Option Expr} {p2 : Pos} {tl th : OT} (he : PE X e (Lb X.K te)) (hl : PO X lo (Lo X.K tl)) (hh : PO X hi (Lo X.K th)) : PE X (.Subscript e (.Slice lo hi none p2) pos) (Li X.K (xSlS te tl th)) :=
  pe_imp (pe_slice sl_str he hl hh) fun σ H Q ⟨H0, ps, hs, Γ, P, se, ht, k⟩ => ⟨H0, ps, hs, Γ, _, se, ht, fun d v H2 p e r => by
    cases d with
    | str z =>
      cases r.strv
      exact ⟨H0, ps, hs, Γ, _, se.mono e, p.2, fun lo H3 q3 e3 => ⟨H0, ps, hs, Γ, _, (se.mono e).mono e3, q3, fun hi H4 q4 e4 => ⟨z, rfl, p.1, k _ _ H4 q4 ((e.trans e3).trans e4) (.str _)⟩⟩⟩
    | _ => exact p.elim⟩
def fIxS : F2 := fun d e P => match d, e with
  | .str z, .int i => z.length ≤ sizeLine ∧ (match atI z.cps.toList i with
    | some c => P (.str ⟨#[c]⟩)
    | none => False)
  | _, _ => False
theorem does_ixS {K : Frag} : Does K rIxS fIxS := fun ms H x y d e P Q b rx ry h k => by
  unfold fIxS at h
  split at h
  · rename_i z i
    cases rx.strv
    cases ry.intv
    obtain ⟨h1, h2⟩ := h
    cases q : atI z.cps.toList i with
    | none => rw [q] at h2; exact h2.elim
    | some c =>
      rw [q] at h2
      exact ⟨z, i, c, rfl, rfl, h1, q, k _ _ H h2 (Same.refl H) (.str _)⟩
  · exact h.elim
theorem px_ixS (ha : PE X a (Lb X.K ta)) (hb : PE X b (Lb X.K tb)) (hs : PlainIx b := by exact fun _ _ => rfl) : PE X (.Subscript a b pos) (Li X.K (x2 fIxS ta tb)) :=
  pe_imp (pe_ix ix_str ha hb hs) fun _ _ _ h => bin_of does_ixS h
/-! ### methods -/
/-- o.m(e) of texts -/
def xM1 (C : Str → Str → Prop) (g : Str → Str → D) (ta tb : XT) : XT := fun Γ P => ta Γ fun d => match d with
  | .str x => tb Γ fun e => (match e with
    | .str y => C x y ∧ P (g x y)
    | _ => False)
  | _ => False
theorem m1_of {r : V → List V → Hp → VK → Prop} {C : Str → Str → Prop} {g : Str → Str → D} (hr : ∀ (ms : List Addr) (x y : Str) (H : Hp) (Q : VK), Bs ms H → C x y → (∀ v H2, Ex H H2 → Rep X.K (hid ms H2) v (g x y) → Q v H2) → r (.str x) [.str y] H Q) (σ : St) (H : Hp) (Q : VK) (h : Li X.K (xM1 C g ta tb) σ H Q) : tM1 r (Lb X.K ta) (Lb X.K tb) σ H Q := by
  obtain ⟨H0, ps, hs, Γ, P, se, ht, k⟩ := h
  refine ⟨H0, ps, hs, Γ, _, se, ht, fun d v H1 p e1 r1 => ?_⟩
  cases d with
  | str x =>
    cases r1.strv
    refine ⟨⟨x, rfl⟩, H0, ps, hs, Γ, _, se.mono e1, p, fun d2 v2 H2 p2 e2 r2 => ?_⟩
    cases d2 with
    | str y =>
      cases r2.strv
      exact hr _ x y H2 Q ((se.mono e1).mono e2).bs p2.1 fun v H3 e3 rv => k _ v H3 p2.2 ((e1.trans e2).trans e3) rv
    | _ => exact p2.elim
  | _ => exact p.elim
abbrev gSw (x y : Str) : D := .bl (Txt.startswith x y)
abbrev gPart (x y : Str) : D := .tup [.str (Txt.partition x y).1, .str (Txt.partition x y).2.1, .str (Txt.partition x y).2.2]
theorem px_sw {apos : Pos} (ho : PE X o (Lb X.K to)) (he : PE X e (Lb X.K te)) (hs : starEach [e] X.env = [(false, eval e X.env)] := by rfl) (hbase : attributeBase o "startswith" X.env (eval o X.env) = eval o X.env := by rfl) (hline : (apos.endLine == pos.line) = true := by rfl) :
    PE X (.Call (.Attribute o "startswith" apos) [e] [] pos) (Li X.K (xM1 (fun _ _ => True) gSw to te)) :=
  pe_imp (pe_m1 F.slot_str_startswith F.type_str_startswith mt_startswith ho he hs hbase hline) (m1_of fun ms x y H Q b _ k => ⟨x, y, rfl, rfl, k _ H (Same.refl H) (.bl _)⟩)
theorem px_part {apos : Pos} (ho : PE X o (Lb X.K to)) (he : PE X e (Lb X.K te)) (hs : starEach [e] X.env = [(false, eval e X.env)] := by rfl) (hbase : attributeBase o "partition" X.env (eval o X.env) = eval o X.env := by rfl) (hline : (apos.endLine == pos.line) = true := by rfl) :
    PE X (.Call (.Attribute o "partition" apos) [e] [] pos) (Li X.K (xM1 (fun x y => (y.length == 0) = false ∧ x.length ≤ sizeLine) gPart to te)) :=
  pe_imp (pe_partition ho he hs hbase hline) (m1_of fun ms x y H Q b c k => ⟨x, y, rfl, rfl, c.1, c.2, fun p n => k _ _ (Ex.new n) (rep_newT b n (.cons (.str _) (.cons (.str _) (.one (.str _)))))⟩)
theorem strs_reps {K : Frag} {B : Hp} : ∀ (ys : List Str), Reps K B (ys.map V.str) (ys.map D.str)
  | [] => .nil
  | y :: ys => .cons (.str y) (strs_reps ys)
theorem reps_strs {K : Frag} {B : Hp} : ∀ {ys : List Str} {vs : List V}, Reps K B vs (ys.map D.str) → vs = ys.map V.str
  | [], _, .nil => rfl
  | y :: ys, _, .cons h r => by cases h; rw [reps_strs r]; rfl
/-- o.split(e): a new list -/
theorem px_split {apos : Pos} (ho : PE X o (Lb X.K to)) (he : PE X e (Lb X.K te)) (hs : starEach [e] X.env = [(false, eval e X.env)] := by rfl) (hbase : attributeBase o "split" X.env (eval o X.env) = eval o X.env := by rfl) (hline : (apos.endLine == pos.line) = true := by rfl) :
    PE X (.Call (.Attribute o "split" apos) [e] [] pos) (Li X.K (xM1 (fun x y => (y.length == 0) = false ∧ x.length + 2 ≤ sizeLine) (fun x y => .lst ((Txt.split x y).map D.str)) to te)) :=
  pe_imp (L2.pe_split ho he hs hbase hline) (m1_of fun ms x y H Q b c k => ⟨x, y, rfl, rfl, c.1, c.2, fun p n => k _ _ (Ex.new n) (rep_newL b n (strs_reps _))⟩)
/-! ### join -/
def joinOk (a : Str) (ys : List Str) : Prop := (ys.map (·.length)).sum + ys.length * a.length ≤ 16777216
def xJoin (ta tb : XT) : XT := fun Γ P => ta Γ fun d => match d with
  | .str a => tb Γ fun e => ∃ ys : List Str, e = .lst (ys.map D.str) ∧ joinOk a ys ∧ P (.str (Txt.join a ys))
  | _ => False
theorem px_join {apos : Pos} (ho : PE X o (Lb X.K to)) (he : PE X e (Lb X.K te)) (hs : starEach [e] X.env = [(false, eval e X.env)] := by rfl) (hbase : attributeBase o "join" X.env (eval o X.env) = eval o X.env := by rfl) (hline : (apos.endLine == pos.line) = true := by rfl) :
    PE X (.Call (.Attribute o "join" apos) [e] [] pos) (Li X.K (xJoin to te)) :=
  pe_imp (L2.pe_join ho he hs hbase hline) fun σ H Q ⟨H0, ps, hs, Γ, P, se, ht, k⟩ => ⟨H0, ps, hs, Γ, _, se, ht, fun d v H1 p e1 r1 => by
    cases d with
    | str x =>
      cases r1.strv
      refine ⟨⟨x, rfl⟩, H0, ps, hs, Γ, _, se.mono e1, p, fun d2 v2 H2 p2 e2 r2 => ?_⟩
      obtain ⟨ys, rfl, hj, hp⟩ := p2
      obtain ⟨q, vs, rfl, h1, rr⟩ := r2.list hid_ex
      cases reps_strs rr
      exact ⟨x, q, ys, rfl, rfl, .inl (SqL.of h1), hj, k _ _ H2 hp (e1.trans e2) (.str _)⟩
    | _ => exact p.elim⟩
/-- "..".join(e), e draws -/
def mJoin (a : Str) (t : IT) : IT := fun Γ P => t Γ fun e Γ2 => ∃ ys : List Str, e = .lst (ys.map D.str) ∧ joinOk a ys ∧ P (.str (Txt.join a ys)) Γ2
theorem mx_join {x : Str} {j : Nat} {cpos apos : Pos} {t : IT} (he : PE X e (Lm X.K t)) (hs : starEach [e] X.env = [(false, eval e X.env)] := by rfl) (hbase : attributeBase (.Constant (.str x) j cpos) "join" X.env (eval (.Constant (.str x) j cpos) X.env) = eval (.Constant (.str x) j cpos) X.env := by rfl) (hline : (apos.endLine == pos.line) = true := by rfl) :
    PE X (.Call (.Attribute (.Constant (.str x) j cpos) "join" apos) [e] [] pos) (Lm X.K (mJoin x t)) :=
  pe_imp (L2.pe_join pe_str he hs hbase hline) fun σ H Q ⟨H0, ps, hs, Γ, P, se, ht, k⟩ => ⟨⟨x, rfl⟩, H0, ps, hs, Γ, _, se, ht, fun d Γ2 v H2 p se2 k2 r => by
    obtain ⟨ys, rfl, hj, hp⟩ := p
    obtain ⟨q, vs, rfl, h1, rr⟩ := (RepW.im (H := H2) r).list hid_ex
    cases reps_strs rr
    exact ⟨x, q, ys, rfl, rfl, .inl (SqL.of h1), hj, k _ Γ2 _ H2 hp se2 k2 (.str _)⟩⟩
/-! ### str(e), int(text) -/
def fStr : F1 := fun ds P => match ds with
  | [.int i] => i.natAbs.log2 < 1920 ∧ P (.str (toString i))
  | _ => False
theorem does_str {K : Frag} : DoesC K (fun xs H Q => ∃ i, xs = [.int i] ∧ i.natAbs.log2 < 1920 ∧ Q (.str (toString i)) H) fStr := fun ms H xs ds P Q b rr h k => by
  unfold fStr at h
  split at h
  · obtain ⟨v, rfl, r⟩ := rr.one
    cases r.intv
    exact ⟨_, rfl, h.1, k _ _ H h.2 (Same.refl H) (.str _)⟩
  · exact h.elim
theorem px_str1 {p : Pos} (hg : Gl X "str") (hm : X.mg "str" = none) (h : PE X e (Lb X.K te)) (he : starEach [e] X.env = (false, eval e X.env) :: starEach [] X.env := by rfl) (hpl : (backTo pos (starEach [] X.env)).any (·.1) = false := by rfl) :
    PE X (.Call (.Name "str" p) [e] [] pos) (Li X.K (xCall fStr (aCons te aNil))) := px_callTy call_str_int does_str hg hm (by decide +kernel) (aw_cons h aw_nil he) (by decide) (by decide) he hpl
def fIntS : F1 := fun ds P => match ds with
  | [.str a] => ∃ n, PySem.intText? a = some n ∧ a.length ≤ 640 ∧ P (.int n)
  | _ => False
theorem does_intS {K : Frag} : DoesC K (fun xs H Q => ∃ a n, xs = [.str a] ∧ PySem.intText? a = some n ∧ a.length ≤ 640 ∧ Q (.int n) H) fIntS := fun ms H xs ds P Q b rr h k => by
  unfold fIntS at h
  split at h
  · obtain ⟨v, rfl, r⟩ := rr.one
    cases r.strv
    obtain ⟨n, h1, h2, h3⟩ := h
    exact ⟨_, n, rfl, h1, h2, k _ _ H h3 (Same.refl H) (.int _)⟩
  · exact h.elim
theorem px_intS {p : Pos} (hg : Gl X "int") (hm : X.mg "int" = none) (h : PE X e (Lb X.K te)) (he : starEach [e] X.env = (false, eval e X.env) :: starEach [] X.env := by rfl) (hpl : (backTo pos (starEach [] X.env)).any (·.1) = false := by rfl) :
    PE X (.Call (.Name "int" p) [e] [] pos) (Li X.K (xCall fIntS (aCons te aNil))) := px_callTy call_int_str does_intS hg hm (by decide +kernel) (aw_cons h aw_nil he) (by decide) (by decide) he hpl
/-! ### f-strings -/
inductive JX (X : Cx) : List Expr → List XT → Prop where
  | nil : JX X [] []
  | fmt {e : Expr} {t : XT} {es : List Expr} {ts : List XT} {pos : Pos} (h : PE X e (Lb X.K t)) (r : JX X es ts) : JX X (.FormattedValue e (-1) none pos :: es) (t :: ts)
  | lit {x : Str} {j : Nat} {es : List Expr} {ts : List XT} {pos : Pos} (r : JX X es ts) : JX X (.Constant (.str x) j pos :: es) (xC (.str x) :: ts)
def jD : List XT → Str → Env → (Str → Prop) → Prop
  | [], acc, _, P => P acc
  | t :: ts, acc, Γ, P => t Γ fun d => match d with
    | .str y => y.length ≤ sizeLine ∧ (acc ++ y).length ≤ sizeLine ∧ jD ts (acc ++ y) Γ P
    | .int i => i.natAbs.log2 < 1920 ∧ (acc ++ (toString i : Str)).length ≤ sizeLine ∧ jD ts (acc ++ (toString i : Str)) Γ P
    | _ => False
def xJs (ts : List XT) : XT := fun Γ P => jD ts Str.empty Γ fun z => P (.str z)
theorem jx_pj {es : List Expr} {ts : List XT} (h : JX X es ts) : ∃ tes, PJ X es tes ∧ ∀ (acc : Str) (σ : St) (H H0 : Hp) (ps hs : List Addr) (Γ : Env) (P : Str → Prop) (R : Str → Hp → Prop), SE X.K H0 ps hs Γ σ H → jD ts acc Γ P → (∀ z H2, P z → Ex H H2 → R z H2) → tJs tes acc σ H R := by
  induction h with
  | nil => exact ⟨[], .nil, fun acc σ H H0 ps hs Γ P R se ht k => k acc H ht (Same.refl H)⟩
  | @fmt e t es ts pos h r ih =>
    obtain ⟨tes, hj, hk⟩ := ih
    refine ⟨_ :: tes, .cons (pe_fmt h) hj, fun acc σ H H0 ps hs Γ P R se ht k => ?_⟩
    refine ⟨H0, ps, hs, Γ, _, se, ht, fun d v H1 p e1 r1 => ?_⟩
    cases d with
    | str y =>
      cases r1.strv
      exact .inl ⟨y, rfl, p.1, y, rfl, p.2.1, hk _ σ H1 H0 ps hs Γ P R (se.mono e1) p.2.2 fun z H2 q e2 => k z H2 q (e1.trans e2)⟩
    | int i =>
      cases r1.intv
      exact .inr ⟨i, rfl, p.1, _, rfl, p.2.1, hk _ σ H1 H0 ps hs Γ P R (se.mono e1) p.2.2 fun z H2 q e2 => k z H2 q (e1.trans e2)⟩
    | _ => exact p.elim
  | @lit x j es ts pos r ih =>
    obtain ⟨tes, hj, hk⟩ := ih
    refine ⟨_ :: tes, .cons pe_str hj, fun acc σ H H0 ps hs Γ P R se ht k => ?_⟩
    exact ⟨x, rfl, ht.2.1, hk _ σ H H0 ps hs Γ P R se ht.2.2 k⟩
theorem px_js {v1 v2 : Expr} {rest : List Expr} {ts : List XT} (h : JX X (v1 :: v2 :: rest) ts) : PE X (.JoinedStr (v1 :: v2 :: rest) pos) (Li X.K (xJs ts)) := by
  obtain ⟨tes, hj, hk⟩ := jx_pj h
  exact pe_imp (pe_joined hj) fun σ H Q ⟨H0, ps, hs, Γ, P, se, ht, k⟩ => hk _ σ H H0 ps hs Γ _ _ se ht fun z H2 q e2 => k _ _ H2 q e2 (.str z)
/-! ### walks -/
def signs (x : Str) : List D := x.cps.toList.map fun c => .str ⟨#[c]⟩
def iStrT (t : XT) : FT := fun Γ P => t Γ fun d => match d with
  | .str x => P (signs x)
  | _ => False
theorem signs_len (x : Str) : (signs x).length = x.cps.size := by simp [signs]
theorem walk_str {K : Frag} {S : Hp → Prop} {B : Hp} (x : Str) : Walks K S B (Its x) (signs x) where
  go := fun i H s h => by rw [signs_len] at h; exact h
  yl := fun i H v H' s h ⟨e, c, hc, ev⟩ => by
    subst e ev
    refine ⟨Same.refl _, .str ⟨#[c]⟩, ?_, fun ms b e => .str _⟩
    unfold signs
    rw [List.getElem?_map, Array.getElem?_toList, hc]
    rfl
  st := fun i H s h => by rw [signs_len] at h; exact Nat.le_of_eq h
theorem il_str {tg : Expr} (h : PE X e (Lb X.K te)) : PI X tg e (LI X.K (iStrT te)) := pi_imp (pi_str h) fun σ H R ⟨H0, ps, hs, Γ, P, se, ht, k⟩ => ⟨H0, ps, hs, Γ, _, se, ht, fun d v H2 p e r => by
  cases d with
  | str x => cases r.strv; exact ⟨x, rfl, k _ _ H2 p e (walk_str x)⟩
  | _ => exact p.elim⟩
def iEn (t : XT) : FT := fun Γ P => t Γ fun d => match d with
  | .lst xs => P (enumD xs)
  | _ => False
theorem il_en {elts : List Expr} {kk : Nat} {tpos p : Pos} (hg : Gl X "enumerate") (hm : X.mg "enumerate" = none) (h : PE X e (Li X.K te)) (hs : starEach [e] X.env = [(false, eval e X.env)] := by rfl) : PI X (.Tuple elts kk tpos) (.Call (.Name "enumerate" p) [e] [] pos) (LI X.K (iEn te)) :=
  pi_imp (pi_enum hg hm (pa_cons h pa_nil hs) hs) fun σ H R ⟨H0, ps, hs, Γ, P, se, ht, k⟩ => ⟨H0, ps, hs, Γ, _, se, ht, fun d v H2 p e r => by
    cases d with
    | lst xs =>
      cases r with
      | lst a ra => exact ⟨_, _, rfl, SqL.of (hid_ex _ _ a), k _ _ H2 p e (walk_en (fun H' s => SqL.of (s _ _ a)) ra)⟩
    | _ => exact p.elim⟩
/-! ### a sign times an int -/
def fMulS : F2 := fun d e P => match d, e with
  | .str x, .int n => ∃ c, x = ⟨#[c]⟩ ∧ 2 ≤ n ∧ n ≤ 1000 ∧ P (.str ⟨(List.replicate n.toNat c).toArray⟩)
  | _, _ => False
def rMulS : R2 := fun x y H Q => ∃ (c : Nat) (n : Int), x = .str ⟨#[c]⟩ ∧ y = .int n ∧ 2 ≤ n ∧ n ≤ 1000 ∧ Q (.str ⟨(List.replicate n.toNat c).toArray⟩) H
theorem fold_rep (c : Nat) : ∀ (k : Nat) (acc : Array Nat), (List.replicate k (#[c] : Array Nat)).foldl (· ++ ·) acc = acc ++ (List.replicate k c).toArray
  | 0, acc => by simp
  | k + 1, acc => by
    rw [List.replicate_succ, List.foldl_cons, fold_rep c k, List.replicate_succ]
    apply Array.toList_inj.mp
    simp
theorem op_mulS : OpR X (binaryOp .Mult) rMulS := by
  intro pins s σ H x y v u Q I rx ry h
  obtain ⟨c, n, rfl, rfl, h1, h2, q⟩ := h
  obtain ⟨t, rfl⟩ := rx
  obtain ⟨t', rfl⟩ := ry
  have hl : (⟨#[c]⟩ : Str).length = 1 := rfl
  refine PySem.P.mul_str (by rw [decide_eq_false (by omega), decide_eq_false (by omega)]; rfl) (fun _ _ => ?_) (fun _ _ => ?_) ?_
  · rw [hl]
    have h3 : (1 : Int) ≤ (2 ^ 63 - 1) / n := (Int.le_ediv_iff_mul_le (by omega)).mpr (by omega)
    show ¬ ((1 : Int) > (2 ^ 63 - 1) / n)
    omega
  · rw [hl]
    have h3 : 1 * n.toNat ≤ 1000 := by omega
    have hs : sizeLine = 16777216 := sizeLine_eq
    unfold PySem.Builtin.Str.tooLong
    exact decide_eq_false (by omega)
  · rw [if_neg (by omega), if_neg (by simp [hl]; omega)]
    rw [fold_rep]
    have e : (#[] : Array Nat) ++ (List.replicate n.toNat c).toArray = (List.replicate n.toNat c).toArray := by simp
    rw [e]
    have hs : sizeLine = 16777216 := sizeLine_eq
    refine ⟨?_, .str _, H, I.tok _, ⟨_, rfl⟩, q⟩
    show (List.replicate n.toNat c).toArray.size ≤ _
    rw [List.size_toArray, List.length_replicate]
    omega
theorem does_mulS {K : Frag} : Does K rMulS fMulS := fun ms H x y d e P Q b rx ry h k => by
  unfold fMulS at h
  split at h
  · obtain ⟨c, rfl, h1, h2, h⟩ := h
    cases rx.strv
    cases ry.intv
    exact ⟨c, _, rfl, rfl, h1, h2, k _ _ H h (Same.refl H) (.str _)⟩
  · exact h.elim
theorem px_mulS (ha : PE X a (Lb X.K ta)) (hb : PE X b (Lb X.K tb)) : PE X (.BinOp a .Mult b pos) (Li X.K (x2 fMulS ta tb)) := px_bin op_mulS does_mulS ha hb
/-! ### str(x), x with an own __str__ -/
section
variable {C : Addr} {k : Nat} {S : SP}
def rStrO (C : Addr) (sp : Sp) (E : XK) : List V → Hp → VK → Prop := fun xs H Q => ∃ a dx vs, xs = [V.ref a] ∧ SlX.Slt H a C dx vs ∧ sp [.ref a] H (fun z H' => ∃ b, z = .str b ∧ Q (.str b) H') E
theorem call_strO (F : DmO X.prog X.w X.K X.mg X.base C "__str__" k S) (hr : Room (k + 2) X.A) : CallR X (.type "str") (rStrO C (spP X.K S) fun _ _ _ => False) := by
  obtain ⟨f, R, hs, hf⟩ := F.fnR
  intro pins s σ H xs us Q I r h
  obtain ⟨a, dx, vs, rfl, hsl, q⟩ := h
  obtain ⟨u, rfl, ru⟩ := r.one
  cases (show u = Value.ref a from ru)
  obtain ⟨sl, od, _, J, _⟩ := SlX.slt_inst I hsl
  have hr2 : Room k X.A.in1.in1 := (show Room (k + 1) X.A.in1 from Room.in1 hr).in1
  refine PySem.W.kso_call hr2.units0 I.kIn J hs hf (wpAny_mono (wpAny_call (SlX.run_at (us := [.ref a]) (ws := [.ref a]) R hr2 I.env0.in1.in1 pass0 I (.cons rfl .nil) q)) (fun w s' z => ?_) fun _ _ x => x)
  obtain ⟨z', H', I', rz, b, rfl, qz⟩ := z
  obtain ⟨t, rfl⟩ : ∃ t, w = Value.str b t := rz
  exact ⟨.str b, H', I', ⟨t, rfl⟩, qz⟩
def fStrO (C : Addr) (S : SP) : F1 := fun ds P => match ds with
  | [.slo C' fs] => C' = C ∧ S.S [.bo (.slo C' fs)] fun r => ∃ b, r = .d (.str b) ∧ P (.str b)
  | _ => False
theorem does_strO {K : Frag} {E : XK} : DoesC K (rStrO C (spP K S) E) (fStrO C S) := fun ms H xs ds P Q b rr h k => by
  unfold fStrO at h
  split at h
  · obtain ⟨rfl, h⟩ := h
    obtain ⟨v, rfl, r1⟩ := rr.one
    obtain ⟨a2, dx2, vs2, fvs2, rfl, q2, hx2, _⟩ := r1.slots hid_ex
    refine ⟨a2, dx2, vs2, rfl, slt_in (K := K) hid_ex q2 hx2, ms, _, .cons (s := .bo _) r1 rfl .nil, b, S.mon _ _ _ (fun r hr v H' e3 ro => ?_) h⟩
    obtain ⟨z, rfl, hp⟩ := hr
    have ro' : Rep K (hid ms H') v (.str z) := ro
    cases ro'
    exact ⟨z, rfl, k _ _ H' hp e3 (.str _)⟩
  · exact h.elim
theorem px_strO {p : Pos} (F : DmO X.prog X.w X.K X.mg X.base C "__str__" k S) (hr : Room (k + 2) X.A) (hg : Gl X "str") (hm : X.mg "str" = none) (h : PE X e (Lb X.K te)) (he : starEach [e] X.env = (false, eval e X.env) :: starEach [] X.env := by rfl) (hpl : (backTo pos (starEach [] X.env)).any (·.1) = false := by rfl) :
    PE X (.Call (.Name "str" p) [e] [] pos) (Li X.K (xCall (fStrO C S) (aCons te aNil))) := px_callTy (call_strO F hr) does_strO hg hm (by decide +kernel) (aw_cons h aw_nil he) (by decide) (by decide) he hpl
end
/-! ### C.m(e, ..), a static method that may raise -/
structure DsA (P : Program) (w : World) (K : Frag) (mg : Str → Option Value) (base : Heap) (x : Str) (C : Addr) (m : Str) (k : Nat) (S : SPX) : Prop where
  ex : ∃ g : Addr, CSta K C m g ∧ FnR P w K mg base (L2.CX P w) k g (spX K S) ∧ mg x = some (.ref C)
end
end Kb
set_option Elab.async false
set_option linter.all false
set_option maxRecDepth 100000
set_option maxHeartbeats 1000000
/-! Kb49: built-ins of what draws; texts where something is drawn; x = [.. draws ..] as a list of one's own; unpacking what may raise; static methods with arguments. -/
namespace Kb
open PySem L2
open PyProof.Rows hiding St
set_option autoImplicit false
section
variable {X : Cx} {W : WX} {a b e : Expr} {es : List Expr} {pos : Pos}
theorem mx_ixS {ta tb : IT} (ha : PE X a (Lm X.K ta)) (hb : PE X b (Lm X.K tb)) (hs : PlainIx b := by exact fun _ _ => rfl) : PE X (.Subscript a b pos) (Lm X.K (m2 fIxS ta tb)) :=
  pe_imp (pe_ix ix_str ha hb hs) fun _ _ _ h => mbin_of does_ixS h
/-! ### built-ins of what draws -/
def mCall (f : F1) (t : MT) : IT := fun Γ P => t Γ fun ds Γ2 => f ds fun z => P z Γ2
theorem reps_w {K : Frag} {B H : Hp} : ∀ {vs : List V} {ds : List D}, Reps K B vs ds → RepWs K B H vs ds
  | _, _, .nil => .nil
  | _, _, .cons r t => .cons (.im r) (reps_w t)
theorem mcb_of {σ : St} {H : Hp} {Q : VK} {r : List V → Hp → VK → Prop} {f : F1} {t : MT} (hd : DoesC X.K r f) (h : Lm X.K (mCall f t) σ H Q) : tCB r (LmA X.K t) σ H Q := by
  obtain ⟨H0, ps, hs, Γ, P, se, ht, k⟩ := h
  refine ⟨H0, ps, hs, Γ, _, se, ht, fun ds Γ2 vs H2 p se2 k2 r2 => ?_⟩
  have bs2 := se2.bs
  rw [k2.1] at bs2
  exact hd _ H2 vs ds _ Q bs2 (reps_w r2) p fun z v H3 hz e3 r3 => k z Γ2 v H3 hz (se2.mono e3) (k2.trans (Km.ex e3)) r3
theorem mx_callTy {T : String} {x : Str} {p : Pos} {r : List V → Hp → VK → Prop} {f : F1} {t : MT} (hc : CallR X (.type T) r) (hd : DoesC X.K r f) (hg : Gl X x) (hm : X.mg x = none) (hv : bootBuiltins x = some (.type T)) (ha : PA X (e :: es) (LmA X.K t)) (hn : x ≠ "__name__" := by decide) (hdb : (x == ("__debug__" : Str)) = false := by decide)
    (he : starEach (e :: es) X.env = (false, eval e X.env) :: starEach es X.env := by rfl) (hpl : (backTo pos (starEach es X.env)).any (·.1) = false := by rfl) : PE X (.Call (.Name x p) (e :: es) [] pos) (Lm X.K (mCall f t)) :=
  pe_imp (pe_callTy hc hg hm hv ha hn hdb he hpl) fun _ _ _ h => mcb_of hd h
theorem mx_callB {id : String} {x : Str} {p : Pos} {r : List V → Hp → VK → Prop} {f : F1} {t : MT} (hc : CallR X (.builtin id) r) (hd : DoesC X.K r f) (hg : Gl X x) (hm : X.mg x = none) (hv : bootBuiltins x = some (.builtin id)) (ha : PA X (e :: es) (LmA X.K t)) (hn : x ≠ "__name__" := by decide) (hdb : (x == ("__debug__" : Str)) = false := by decide)
    (he : starEach (e :: es) X.env = (false, eval e X.env) :: starEach es X.env := by rfl) (hpl : (backTo pos (starEach es X.env)).any (·.1) = false := by rfl) : PE X (.Call (.Name x p) (e :: es) [] pos) (Lm X.K (mCall f t)) :=
  pe_imp (pe_callB hc hg hm hv ha hn hdb he hpl) fun _ _ _ h => mcb_of hd h
theorem mx_str1 {p : Pos} {t : IT} (hg : Gl X "str") (hm : X.mg "str" = none) (h : PE X e (Lm X.K t)) (he : starEach [e] X.env = (false, eval e X.env) :: starEach [] X.env := by rfl) (hpl : (backTo pos (starEach [] X.env)).any (·.1) = false := by rfl) :
    PE X (.Call (.Name "str" p) [e] [] pos) (Lm X.K (mCall fStr (amCons t amNil))) := mx_callTy call_str_int does_str hg hm (by decide +kernel) (am_cons h am_nil he) (by decide) (by decide) he hpl
/-! ### x = [.. draws ..], a list of one's own -/
def sAsgLM (i : Nat) (t : MT) : ST := fun E Γ => t Γ fun ds Γ2 => ds.length ≤ sizeLine ∧ ∀ l, l ∉ adr Γ2 → E.nx (Γ2.set i (some (.ml l ds)))
theorem asgLM_li {K : Frag} {i : Nat} {t : MT} (D : Ends) (σ : St) (H : Hp) (h : Ls K W (sAsgLM i t) D σ H) : tAsg (tLst (LmA K t)) (gName i) D σ H := by
  obtain ⟨H0, ps, hs, Γ, E, se, ht, r⟩ := h
  refine ⟨H0, ps, hs, Γ, _, se, ht, fun ds Γ2 vs H2 p se2 k2 rr => ⟨by rw [rr.length]; exact p.1, fun q n => ?_⟩⟩
  rw [← k2.1] at rr
  exact r.nx _ _ _ (p.2 q (se2.fresh n)) (se2.set_own n (Ex.new n) rfl rfl (slot_ml upd_same (reps_new n rr)) i) (k2.kp.trans (kp_set_own n (Ex.new n) rfl))
theorem s_asgLM {i : Nat} {x : Str} {t : MT} {lp pos' : Pos} (hN : X.N.Nodup) (h : PA X es (LmA X.K t)) (hi : X.N[i]? = some x := by rfl) (hx : Loc X.env.scope x := by first | exact Or.inl rfl | exact Or.inr rfl) (hs : swapsWith (.List es lp) (some (.Name x pos')) pos.line X.env = pure false := by rfl) (hf : X.fn x = true ∨ X.env.scope.names.lookup x = some .local := by first | exact .inl rfl | exact .inr rfl | assumption) :
    PS X (.Assign [.Name x pos'] (.List es lp) pos) (Ls X.K W (sAsgLM i t)) := ps_imp (ps_set hN hi hx (pe_lst h) hs hf) asgLM_li
/-! ### a, b = e, e may raise -/
def sUnpZ (g : GT) (t : ZT) : ST := fun E Γ => t Γ (fun d Γ2 => g d Γ2 E.nx) E.ex
theorem s_unpZ {tg : Expr} {t : ZT} {g : GT} {own : List Nat} (he : PE X e (Lz X.K W t)) (hg : PG X tg (Lg X.K own g)) (hs : swapsWithSole [tg] e pos.line X.env = pure false := by rfl) (hw : swappedStores [tg] e X.env = pure none := by rfl)
    (h1 : (assignEach [tg] X.env).map (·.2) = [assign tg X.env] := by rfl) : PS X (.Assign [tg] e pos) (Ls X.K W (sUnpZ g t)) := ps_imp (ps_asg he hg hs hw h1) fun D σ H ⟨H0, ps, hs, Γ, E, se, ht, r⟩ =>
  ⟨H0, ps, hs, Γ, _, _, se, ht, fun d Γ2 v H2 p se2 k2 rr => ⟨H0, ps, hs, Γ2, d, _, se2, by rw [k2.1]; exact rr, p, fun Γ3 σ3 p3 a3 se3 _ _ => r.nx Γ3 σ3 H2 p3 se3 (by
    have z : Kp hs Γ H Γ2 H2 := k2.kp
    unfold Kp at z ⊢
    rw [a3]
    exact z)⟩, ex_of_rel r⟩
/-! ### C.m(e, ..) of a static method -/
section
variable {C : Addr} {k : Nat} {x m : Str} {np apos : Pos} {pl : Sem Bool}
theorem zstaA_li {S : SPX} {t : AT} (σ : St) (H : Hp) (Q : VK) (h : LzR X.K W (zClX S t) σ H Q) : tSMeth C (spX X.K S) (WE W) (tC (.ref C)) (LaX X.K t) σ H Q := by
  obtain ⟨H0, ps, hs, Γ, P, F, se, ht, k, xz⟩ := h
  refine ⟨rfl, H0, ps, hs, Γ, _, se, ht, fun as vs H2 p e ar => ?_⟩
  exact ⟨hs ++ adr Γ, as, ar, (se.mono e).bs, S.mon _ _ _ _ _ (fun r hr v H' e3 ro => k r Γ v H' hr (se.mono (e.trans e3)) (Km.ex (e.trans e3)) (res_back e ro)) (fun C fs q d H' e3 xd => xz C fs Γ H' d q (se.mono (e.trans e3)) (Km.ex (e.trans e3)) xd) p⟩
theorem z_staA {S : SPX} {t : AT} (tk : Takes X W) (F : DsA X.prog X.w X.K X.mg X.base x C m k S) (hr : Room k X.A) (ha : PA X (e :: es) (LaX X.K t)) (hg : Gl X x := by rfl) (hd : (x == ("__debug__" : Str)) = false := by decide)
    (hst : starEach (e :: es) X.env = (false, eval e X.env) :: starEach es X.env := by rfl) (hpl : (backTo pos (starEach es X.env)).any (·.1) = false := by rfl)
    (ht : eval (.Call (.Attribute (.Name x np) m apos) (e :: es) [] pos) X.env = (do
      let ov ← eval (.Name x np) X.env
      standAt apos.atName
      let (f, first) ← holding [ov] (getMethod ov m pl)
      callWith pos f first (backTo pos (starEach (e :: es) X.env)) (backToKw pos (keywordEach [] X.env))) := by rfl) : PE X (.Call (.Attribute (.Name x np) m apos) (e :: es) [] pos) (LzR X.K W (zClX S t)) := by
  obtain ⟨g, c, R, hm⟩ := F.ex
  exact pe_imp (pe_smeth (pe_glob (v := .ref C) hg hm rfl hd) c R hr (fun σ => passAt tk σ) ha hst hpl ht) zstaA_li
/-- the same where nothing is raised -/
theorem rstaA_li {S : SPX} {t : AT} (σ : St) (H : Hp) (Q : VK) (h : Lr X.K (rClX S t) σ H Q) : tSMeth C (spX X.K S) (WE W0) (tC (.ref C)) (LaX X.K t) σ H Q := by
  obtain ⟨H0, ps, hs, Γ, P, se, ht, k⟩ := h
  refine ⟨rfl, H0, ps, hs, Γ, _, se, ht, fun as vs H2 p e ar => ?_⟩
  exact ⟨hs ++ adr Γ, as, ar, (se.mono e).bs, S.mon _ _ _ _ _ (fun r hr v H' e3 ro => k r v H' hr (e.trans e3) (res_back e ro)) (fun C fs q d H' e3 xd => q.elim) p⟩
theorem rx_staA {S : SPX} {t : AT} (F : DsA X.prog X.w X.K X.mg X.base x C m k S) (hr : Room k X.A) (ha : PA X (e :: es) (LaX X.K t)) (hg : Gl X x := by rfl) (hd : (x == ("__debug__" : Str)) = false := by decide)
    (hst : starEach (e :: es) X.env = (false, eval e X.env) :: starEach es X.env := by rfl) (hpl : (backTo pos (starEach es X.env)).any (·.1) = false := by rfl)
    (ht : eval (.Call (.Attribute (.Name x np) m apos) (e :: es) [] pos) X.env = (do
      let ov ← eval (.Name x np) X.env
      standAt apos.atName
      let (f, first) ← holding [ov] (getMethod ov m pl)
      callWith pos f first (backTo pos (starEach (e :: es) X.env)) (backToKw pos (keywordEach [] X.env))) := by rfl) : PE X (.Call (.Attribute (.Name x np) m apos) (e :: es) [] pos) (Lr X.K (rClX S t)) := by
  obtain ⟨g, c, R, hm⟩ := F.ex
  exact pe_imp (pe_smeth (pe_glob (v := .ref C) hg hm rfl hd) c R hr (fun σ => passAt takes0 σ) ha hst hpl ht) rstaA_li
end
end
end Kb
set_option Elab.async false
set_option linter.all false
set_option maxRecDepth 100000
set_option maxHeartbeats 1000000
/-! Kb50: f(). -/
namespace Kb
open PySem L2
open PyProof.Rows hiding St
set_option autoImplicit false
section
variable {X : Cx} {x : Str} {k : Nat} {S : SP} {p pos : Pos}
theorem px_call0 (F : Df X.prog X.w X.K X.mg X.base x k (spP X.K S)) (hr : Room k X.A) (hg : Gl X x := by rfl) (hd : (x == ("__debug__" : Str)) = false := by decide) : PE X (.Call (.Name x p) [] [] pos) (Li X.K (xCl S axNil)) := by
  obtain ⟨f, fd, ps, h1, h2, h3, h4⟩ := F.ex
  exact pe_imp (pe_call0 h1 hr hg h2 h3 h4 .nil pass0 hd) fun σ H Q h => nil_la σ H _ (call_li σ H Q h)
theorem fx_call0 (F : Df X.prog X.w X.K X.mg X.base x k (spP X.K S)) (hr : Room k X.A) (hg : Gl X x := by rfl) (hd : (x == ("__debug__" : Str)) = false := by decide) : PE X (.Call (.Name x p) [] [] pos) (Lf X.K (fCl S axNil)) := by
  obtain ⟨f, fd, ps, h1, h2, h3, h4⟩ := F.ex
  exact pe_imp (pe_call0 h1 hr hg h2 h3 h4 .nil pass0 hd) fun σ H Q h => nil_la σ H _ (call_lf σ H Q h)
end
end Kb
set_option Elab.async false
set_option linter.all false
set_option maxRecDepth 100000
set_option maxHeartbeats 1000000
namespace Kb
open PySem L2
set_option autoImplicit false
def top (i : Nat) : Stmt := PySem.Challenge.pw_keptbase_k04_spans_read_back.main.body.getD i (.Pass ⟨0, 0, 0, 0⟩)
def spNames : List Str := ["stretches", "has_none", "size"]
/-- what the top has left -/
structure Tx (K : Frag) (mg : Str → Option Value) (C : Addr) : Prop where
  sp : SlT K C spNames
  si : SlX.SIsi K C
  kS : PySem.W.kitOne K (.ref C) (.ref C) = some true
  gS : mg "Span" = some (.ref C)
  sf : PySem.W.selfFirst K C = true
  nT : ∀ T ∈ ["int", "str", "tuple", "list"], PySem.W.notFirst K C (.type T) = true
  kT : ∀ T ∈ ["int", "str", "tuple", "list"], PySem.W.kitOne K (.type T) (.ref C) = some false
  ValueError : mg "ValueError" = none
  abs : mg "abs" = none
  any : mg "any" = none
  bool : mg "bool" = none
  enumerate : mg "enumerate" = none
  int : mg "int" = none
  isinstance : mg "isinstance" = none
  len : mg "len" = none
  list : mg "list" = none
  max : mg "max" = none
  min : mg "min" = none
  range : mg "range" = none
  set : mg "set" = none
  sorted : mg "sorted" = none
  str : mg "str" = none
  sum : mg "sum" = none
  tuple : mg "tuple" = none
abbrev FD (K : Frag) (x q : Str) (st : Stmt) (dvs : List V) (f : Addr) (fd : FuncData) : Prop := FunD K x q (defArgs st) (defBody st) (defScope st) dvs [] f fd
theorem lk_st (a b c : D) : List.lookup (Str.ofString "stretches") [(Str.ofString "stretches", a), (Str.ofString "has_none", b), (Str.ofString "size", c)] = some a := rfl
theorem lk_hn (a b c : D) : List.lookup (Str.ofString "has_none") [(Str.ofString "stretches", a), (Str.ofString "has_none", b), (Str.ofString "size", c)] = some b := rfl
theorem lk_sz (a b c : D) : List.lookup (Str.ofString "size") [(Str.ofString "stretches", a), (Str.ofString "has_none", b), (Str.ofString "size", c)] = some c := rfl
theorem lk_sp (a b : D) : List.lookup (Str.ofString "span") [(Str.ofString "span", a), (Str.ofString "colour", b)] = some a := rfl
theorem lk_co (a b : D) : List.lookup (Str.ofString "colour") [(Str.ofString "span", a), (Str.ofString "colour", b)] = some b := rfl
theorem eqD_int (i j : Int) : eqD (.int i) (.int j) = (i == j) := rfl
theorem sh_int (n : Nat) (i : Int) : D.sh n (.int i) = true := by cases n <;> rfl
theorem sh_ints (n : Nat) (xs : List Int) : D.sh (n + 1) (.lst (xs.map D.int)) = true := by
  show (xs.map D.int).all (D.sh n) = true
  rw [List.all_map, List.all_eq_true]
  intro x _
  exact sh_int n x
theorem sh60_ints (xs : List Int) : D.sh 60 (.lst (xs.map D.int)) = true := sh_ints 59 xs
theorem inL_ints (i : Int) (xs : List Int) : inL (.int i) (xs.map D.int) = xs.contains i := by
  unfold inL
  rw [List.any_map, List.contains_eq_any_beq]
  congr 1
  funext z
  show (z == i) = (i == z)
  exact Bool.eq_iff_iff.mpr ⟨fun h => by simpa using (beq_iff_eq.mp h).symm, fun h => by simpa using (beq_iff_eq.mp h).symm⟩
def rngI (lo c : Int) (n : Nat) : List Int := (List.range n).map fun k => lo + (k : Nat) * c
theorem rngD_ints (lo c : Int) (n : Nat) : rngD lo c n = (rngI lo c n).map D.int := by
  unfold rngD rngI
  rw [List.map_map]
  rfl
abbrev nodes (n : Int) : List Int := rngI 1 1 n.toNat
theorem rngI_len (lo c : Int) (n : Nat) : (rngI lo c n).length = n := by simp [rngI]
/-! ### contents, stretches as data -/
abbrev Cn := Option Int
abbrev St2 := Cn × Cn
def cD : Cn → D
  | none => .non
  | some i => .int i
theorem cD_none : cD none = .non := rfl
theorem cD_some (i : Int) : cD (some i) = .int i := rfl
def stD (p : St2) : D := .tup [cD p.1, cD p.2]
theorem cD_ty (x : Cn) : (cD x).ty = some (match x with
  | none => "NoneType"
  | some _ => "int") := by cases x <;> rfl
theorem cD_sh (n : Nat) (x : Cn) : (cD x).sh n = true := by cases x <;> cases n <;> rfl
theorem stD_sh (n : Nat) (p : St2) : (stD p).sh (n + 1) = true := by
  show ((cD p.1).sh n && ((cD p.2).sh n && true)) = true
  rw [cD_sh, cD_sh]
  rfl
theorem cD_inj {x y : Cn} (h : cD x = cD y) : x = y := by cases x <;> cases y <;> simp [cD] at h ⊢ <;> exact h
theorem cD_isN (x : Cn) : (cD x).isN = x.isNone := by cases x <;> rfl
def okS : St2 → Bool
  | (some a, some b) => decide (a ≤ b)
  | _ => true
def rkD : Cn → D
  | none => .tup [.int 0, .int 0]
  | some i => .tup [.int 1, .int i]
def touB (e l : Cn) : Bool := match e, l with
  | some e, some l => decide (l ≤ e + 1)
  | _, _ => true
local macro_rules | `(tactic| walk_at "r") => `(tactic| try simp only [sSeq, sNext, sRet, sRetF, sRetO, sAsg, sAsgF, sAsgM, sAsgR, rCl, rMe, sRetM, sIf, sIfM, sDrop, sDropM, sUnp, sAug, sFor, sForM, sApp, sSetI, sDPu, sDPuT, sDNew, sDNewT, sDOne, sFldI, sBreak, sCont, fLc, xDc, xF, xVar, D.fl, bVar, xC, x2, b2, fAdd, fI, fI0, fB0, fEq, fNe, fIn, fIs, fIsNot, D.isN, xNeg, bTru, bNot, bAnd, bOr, bCh, xAnd, xOr, xNot, xIfE, xFld, fIx, fSl, oNo, oSo, aNil, aCons, xTup, fLst, fCat, xCall, fCall, fLen, fAbs, fInt, fList, fTuple, fIsi, D.ty, fAny, fSrt, fMin, xIdx, fSS, fDIn, xDGet, xDGetT, keyD, keysD, gN, gsN, gsC, gTu, iL, iT, iR1, iR2, iR3, iR1M, bYes, wipeE, free, Slot.ad, Slot.dat, Slot.par, axNil, axI, axB, xCl, fCl, xMe, fMe, xMk, fGen, mP, m2, bm2, mCl, mTup, mLst, mSS, amNil, amCons, gPlain, gThen, gNil, gYield, zP, zM, zTP, zD, z2, bz2, zTru, zNot, zAnd, zOr, zNil, zCons, zTup, zLst, zCl, zClX, zFld, zMkS, sAsgZ, sRetZ, sIfZ, sDropZ, sRaise, sTry, sRetR, sRetV, sRetMF, mF, mLc, iP, xR, fR, xClF, rMe0, fLRg, fSrtQ, iEnV, xEFld, fIsX, cvV, cD_none, cD_some, stD, lk_st, lk_hn, lk_sz, eqD_int, sh_int, sh60_ints, inL_ints, xSl, sSlI, zMkL, rMeL, rMeL0, zMeX0, fIsL, fIsM, fOwn, fSortK, srtKB, sExt, mPop, sUnpM, fMax2, fMin2, fSum, fLtT, fSSI, sRaise0, sTryF, sAsgX, rMeX0, sFrz, fBool, fBoolO, fInO, fOwnT, xMkL, xOwn1, zSta, rSta, rS0, rClX, fIsB, fInT, aStar, iZip, fLc2, fOwnN, fNeL, fIsA, sAppM, mSl, lk_sp, lk_co, xM1, xSlS, fIxS, fInS, xJoin, mJoin, fStr, fIntS, jD, xJs, iStrT, iEn, fMulS, mCall, sAsgLM, sUnpZ, fStrO, Bool.false_xor, Bool.true_xor,
  List.map_cons, List.map_nil, List.length_cons, List.length_nil, List.getElem?_cons_succ, List.getElem?_cons_zero, List.set_cons_succ, List.set_cons_zero, List.cons_append, List.nil_append, Option.isNone_none, Option.map_some, Option.map_none, true_and, and_true, if_true, if_false, rngD_ints, Int.add_sub_cancel, Bool.false_eq_true, List.length_map])
local macro_rules | `(tactic| walk_at "s") => `(tactic| try simp only [sSeq, sNext, sRet, sRetF, sRetO, sAsg, sAsgF, sAsgM, sAsgR, rCl, rMe, sRetM, sDrop, sDropM, sUnp, sAug, sFor, sForM, sApp, sSetI, sDPu, sDPuT, sDNew, sDNewT, sDOne, sFldI, sBreak, sCont, fLc, xDc, xF, xVar, D.fl, bVar, xC, x2, b2, fAdd, fI, fI0, fB0, fEq, fNe, fIn, fIs, fIsNot, D.isN, xNeg, bTru, bNot, bAnd, bOr, bCh, xAnd, xOr, xNot, xIfE, xFld, fIx, fSl, oNo, oSo, aNil, aCons, xTup, fLst, fCat, xCall, fCall, fLen, fAbs, fInt, fList, fTuple, fIsi, D.ty, fAny, fSrt, fMin, xIdx, fSS, fDIn, xDGet, xDGetT, keyD, keysD, gN, gsN, gsC, gTu, iL, iT, iR1, iR2, iR3, iR1M, bYes, wipeE, free, Slot.ad, Slot.dat, Slot.par, axNil, axI, axB, xCl, fCl, xMe, fMe, xMk, fGen, mP, m2, bm2, mCl, mTup, mLst, mSS, amNil, amCons, gPlain, gThen, gNil, gYield, zP, zM, zTP, zD, z2, bz2, zTru, zNot, zAnd, zOr, zNil, zCons, zTup, zLst, zCl, zClX, zFld, zMkS, sAsgZ, sRetZ, sDropZ, sRaise, sTry, sRetR, sRetV, sRetMF, mF, mLc, iP, xR, fR, xClF, rMe0, fLRg, fSrtQ, iEnV, xEFld, fIsX, cvV, cD_none, cD_some, stD, lk_st, lk_hn, lk_sz, eqD_int, sh_int, sh60_ints, inL_ints, xSl, sSlI, zMkL, rMeL, rMeL0, zMeX0, fIsL, fIsM, fOwn, fSortK, srtKB, sExt, mPop, sUnpM, fMax2, fMin2, fSum, fLtT, fSSI, sRaise0, sTryF, sAsgX, rMeX0, sFrz, fBool, fBoolO, fInO, fOwnT, xMkL, xOwn1, zSta, rSta, rS0, rClX, fIsB, fInT, aStar, iZip, fLc2, fOwnN, fNeL, fIsA, sAppM, mSl, lk_sp, lk_co, xM1, xSlS, fIxS, fInS, xJoin, mJoin, fStr, fIntS, jD, xJs, iStrT, iEn, fMulS, mCall, sAsgLM, sUnpZ, fStrO, Bool.false_xor, Bool.true_xor,
  List.map_cons, List.map_nil, List.length_cons, List.length_nil, List.getElem?_cons_succ, List.getElem?_cons_zero, List.set_cons_succ, List.set_cons_zero, List.cons_append, List.nil_append, Option.isNone_none, Option.map_some, Option.map_none, true_and, and_true, if_true, if_false, rngD_ints, Int.add_sub_cancel, Bool.false_eq_true, List.length_map])
section
variable {P : Program} {w : World} {K : Frag} {mg : Str → Option Value} {base : Heap} {C f : Addr} {fd : FuncData}
def whB : D → Bool
  | .int _ => true
  | _ => false
def coB : D → Bool
  | .non => true
  | .int _ => true
  | _ => false
theorem whB_c (x : Cn) : whB (cD x) = x.isSome := by cases x <;> rfl
theorem coB_c (x : Cn) : coB (cD x) = true := by cases x <;> rfl
theorem ty_c (x : Cn) : (cD x).ty.isSome = true := by cases x <;> rfl
theorem kit_ti : kitB "tuple" "int" = some false := by decide +kernel
theorem kit_di : kitB "dict" "int" = some false := by decide +kernel
theorem kit_nt : kitB "NoneType" "tuple" = some false := by decide +kernel
theorem kit_bt : kitB "bool" "tuple" = some false := by decide +kernel
theorem kit_it : kitB "int" "tuple" = some false := by decide +kernel
theorem kit_st : kitB "str" "tuple" = some false := by decide +kernel
theorem kit_dt : kitB "dict" "tuple" = some false := by decide +kernel
abbrev s_is_whole : Stmt := top 17
abbrev N_is_whole : List Str := ["value"]
theorem sc_is_whole : FnScope N_is_whole ["value"] (defScope s_is_whole) := ⟨rfl, rfl, rfl, by decide +kernel, rfl, by decide +kernel, by decide +kernel⟩
def S_whole : SP := spc (α := D) (fun d => [.bo d]) (fun d => d.ty.isSome = true) fun d r => r = .d (.bl (whB d))
theorem ok_whole (F : FD K "is_whole" "is_whole" s_is_whole [] f fd) (T : Tx K mg C) : FnOk P w K mg base CX0 (2 + 1) f fd ["value"] (spP K S_whole) := by
  refine fn_spc F sc_is_whole (fun d => [some (.bo d)]) fun cdv A outer s H E hr => ?_
  refine ⟨_, (ss_one (s_ret (px_and (bx (px_isi rfl T.isinstance (bx_var 0) (bx (px_ty (n := "int") rfl T.int (by decide +kernel))))) (px_one (px_not (bx (px_isi rfl T.isinstance (bx_var 0) (bx (px_ty (n := "bool") rfl T.bool (by decide +kernel)))))))))), ?_⟩
  rintro d R hd hR
  have hR' := hR _ rfl
  cases d with
  | non => walk_at "r"; exact ⟨_, _, rfl, kit_ni, fun z => (by cases z), fun _ => hR'⟩
  | bl b => walk_at "r"; exact ⟨_, _, rfl, kit_bi, fun _ => ⟨_, _, rfl, kit_bb, hR'⟩, fun z => (by cases z)⟩
  | int i => walk_at "r"; exact ⟨_, _, rfl, kit_ii, fun _ => ⟨_, _, rfl, kit_ib, hR'⟩, fun z => (by cases z)⟩
  | str x => walk_at "r"; exact ⟨_, _, rfl, kit_si, fun z => (by cases z), fun _ => hR'⟩
  | lst xs => walk_at "r"; exact ⟨_, _, rfl, kit_li, fun z => (by cases z), fun _ => hR'⟩
  | tup xs => walk_at "r"; exact ⟨_, _, rfl, kit_ti, fun z => (by cases z), fun _ => hR'⟩
  | dic xs => walk_at "r"; exact ⟨_, _, rfl, kit_di, fun z => (by cases z), fun _ => hR'⟩
  | dit xs => walk_at "r"; exact ⟨_, _, rfl, kit_di, fun z => (by cases z), fun _ => hR'⟩
  | _ => cases hd
abbrev s_is_content : Stmt := top 18
abbrev N_is_content : List Str := ["value"]
theorem sc_is_content : FnScope N_is_content ["value"] (defScope s_is_content) := ⟨rfl, rfl, rfl, by decide +kernel, rfl, by decide +kernel, by decide +kernel⟩
def S_content : SP := spc (α := D) (fun d => [.bo d]) (fun d => d.ty.isSome = true) fun d r => r = .d (.bl (coB d))
theorem ok_content (F : FD K "is_content" "is_content" s_is_content [] f fd) (T : Tx K mg C) (D_is_whole : Df P w K mg base "is_whole" 3 (spP K S_whole)) : FnOk P w K mg base CX0 (3 + 1) f fd ["value"] (spP K S_content) := by
  refine fn_spc F sc_is_content (fun d => [some (.bo d)]) fun cdv A outer s H E hr => ?_
  refine ⟨_, (ss_one (s_ret (px_or (bx (px_is (bx_var 0) (bx px_non))) (px_one (px_call D_is_whole (hr.mono (by decide)) (ax_b (bx_var 0) ax_nil)))))), ?_⟩
  rintro d R hd hR
  have hR' := hR _ rfl
  have main : (R (Rs.d (.bl (whB d)))) → S_whole.S [Slot.bo d] fun r => R (Rs.d r.dat) := fun h => ⟨d, rfl, hd, by rintro _ rfl; exact h⟩
  cases d with
  | non => walk_at "r"; exact ⟨fun _ => hR', fun z => (by cases z)⟩
  | bl b => walk_at "r"; exact ⟨fun z => (by cases z), fun _ => main hR'⟩
  | int b => walk_at "r"; exact ⟨fun z => (by cases z), fun _ => main hR'⟩
  | str b => walk_at "r"; exact ⟨fun z => (by cases z), fun _ => main hR'⟩
  | lst b => walk_at "r"; exact ⟨fun z => (by cases z), fun _ => main hR'⟩
  | tup b => walk_at "r"; exact ⟨fun z => (by cases z), fun _ => main hR'⟩
  | dic b => walk_at "r"; exact ⟨fun z => (by cases z), fun _ => main hR'⟩
  | dit b => walk_at "r"; exact ⟨fun z => (by cases z), fun _ => main hR'⟩
  | _ => cases hd
abbrev s_rank : Stmt := top 19
abbrev N_rank : List Str := ["content"]
theorem sc_rank : FnScope N_rank ["content"] (defScope s_rank) := ⟨rfl, rfl, rfl, by decide +kernel, rfl, by decide +kernel, by decide +kernel⟩
def S_rank : SP := spc (α := Cn) (fun x => [.im (cD x)]) (fun _ => True) fun x r => r = .d (rkD x)
theorem ok_rank (F : FD K "rank" "rank" s_rank [] f fd) (T : Tx K mg C) : FnOk P w K mg base CX0 (2 + 1) f fd ["content"] (spP K S_rank) := by
  refine fn_spc F sc_rank (fun x => [some (.im (cD x))]) fun cdv A outer s H E hr => ?_
  refine ⟨_, (ss_cons (s_if (tx_is (bx_var 0) (bx px_non)) (ss_one (s_ret (px_tup (as_cons px_int (as_cons px_int as_nil))))) ss_nil)
      (ss_one (s_ret (px_tup (as_cons px_int (as_cons (px_var 0) as_nil)))))), ?_⟩
  rintro x R _ hR
  cases x with
  | none =>
    walk_at "r"
    exact ⟨fun _ => ⟨by decide, hR _ rfl⟩, fun z => (by cases z)⟩
  | some i =>
    walk_at "r"
    exact ⟨fun z => z.elim, fun _ => ⟨by decide, hR _ rfl⟩⟩
abbrev s_low_rank : Stmt := top 20
abbrev N_low_rank : List Str := ["pair"]
theorem sc_low_rank : FnScope N_low_rank ["pair"] (defScope s_low_rank) := ⟨rfl, rfl, rfl, by decide +kernel, rfl, by decide +kernel, by decide +kernel⟩
def S_lowrank : SP := spc (α := St2) (fun x => [.im (stD x)]) (fun _ => True) fun x r => r = .d (rkD x.1)
theorem ok_lowrank (F : FD K "low_rank" "low_rank" s_low_rank [] f fd) (T : Tx K mg C) (D_rank : Df P w K mg base "rank" 3 (spP K S_rank)) : FnOk P w K mg base CX0 (3 + 1) f fd ["pair"] (spP K S_lowrank) := by
  refine fn_spc F sc_low_rank (fun x => [some (.im (stD x))]) fun cdv A outer s H E hr => ?_
  refine ⟨_, (ss_one (s_ret (px_call D_rank (hr.mono (by decide)) (ax_i (px_ix (bx_var 0) (bx px_int)) ax_nil)))), ?_⟩
  rintro ⟨x, y⟩ R _ hR
  walk_at "r"
  refine (?_ : S_rank.S [Slot.im (cD x)] fun r => R (Rs.d r.dat))
  refine ⟨x, rfl, trivial, ?_⟩
  rintro _ rfl
  exact hR _ rfl
def stB : D → Bool
  | .tup [a, b] => coB a && coB b && (match a, b with
    | .int i, .int j => decide (i ≤ j)
    | _, _ => true)
  | _ => false
theorem stB_st (p : St2) : stB (stD p) = okS p := by
  obtain ⟨x, y⟩ := p
  cases x <;> cases y <;> rfl
theorem coB_inv {d : D} (h : coB d = true) : ∃ x : Cn, d = cD x := by
  cases d with
  | non => exact ⟨none, rfl⟩
  | int i => exact ⟨some i, rfl⟩
  | _ => cases h
theorem stB_inv {d : D} (h : stB d = true) : ∃ p : St2, d = stD p ∧ okS p = true := by
  unfold stB at h
  split at h
  · rename_i a b
    rw [Bool.and_eq_true, Bool.and_eq_true] at h
    obtain ⟨x, rfl⟩ := coB_inv h.1.1
    obtain ⟨y, rfl⟩ := coB_inv h.1.2
    refine ⟨(x, y), rfl, ?_⟩
    cases x <;> cases y <;> try rfl
    exact h.2
  · cases h
/-- what is_stretch may be asked of -/
def TmD (d : D) : Prop := d.ty.isSome = true ∧ ∀ xs, d = .tup xs → xs.length ≤ 1000 ∧ ∀ x ∈ xs, x.ty.isSome = true
theorem tm_st (p : St2) : TmD (stD p) := ⟨rfl, fun xs h => by
  cases h
  refine ⟨by show 2 ≤ 1000; decide, fun x hx => ?_⟩
  simp only [List.mem_cons, List.not_mem_nil, or_false] at hx
  rcases hx with rfl | rfl <;> exact ty_c _⟩
def notTwo : D → Bool
  | .tup xs => !((xs.length : Int) == 2)
  | _ => true
abbrev s_is_stretch : Stmt := top 21
abbrev N_is_stretch : List Str := ["value", "low", "high"]
theorem sc_is_stretch : FnScope N_is_stretch ["value"] (defScope s_is_stretch) := ⟨rfl, rfl, rfl, by decide +kernel, rfl, by decide +kernel, by decide +kernel⟩
def S_stretch : SP := spc (α := D) (fun d => [.im d]) TmD fun d r => r = .d (.bl (stB d))
theorem ok_stretch (F : FD K "is_stretch" "is_stretch" s_is_stretch [] f fd) (T : Tx K mg C) (D_is_content : Df P w K mg base "is_content" 4 (spP K S_content)) : FnOk P w K mg base CX0 (4 + 1) f fd ["value"] (spP K S_stretch) := by
  refine fn_spc F sc_is_stretch (fun d => [some (.im d), none, none]) fun cdv A outer s H E hr => ?_
  refine ⟨_, (ss_cons (s_if (tx_w (tw_or (tx_not (tx_tru (bx (px_isi rfl T.isinstance (bx_var 0) (bx (px_ty (n := "tuple") rfl T.tuple (by decide +kernel))))))) (tw_or1 (tx_ne hr (bx (px_len rfl T.len (bx_var 0))) (bx px_int))))) (ss_one (s_ret px_bl)) ss_nil)
      (ss_cons (s_unp (px_var 0) (gx_tup (n := 2) rfl (gx_cons (gx_name (i := 1) sc_is_stretch.nd) (gx_cons (gx_name (i := 2) sc_is_stretch.nd) gx_nil))))
      (ss_cons (s_if (tx_w (tw_or (tx_not (tx_tru (bx (px_call D_is_content (hr.mono (by decide)) (ax_b (bx_var 1) ax_nil))))) (tw_or1 (tx_not (tx_tru (bx (px_call D_is_content (hr.mono (by decide)) (ax_b (bx_var 2) ax_nil)))))))) (ss_one (s_ret px_bl)) ss_nil)
      (ss_one (s_ret (px_or (bx (px_is (bx_var 1) (bx px_non))) (px_or (bx (px_is (bx_var 2) (bx px_non))) (px_one (px_le (bx_var 1) (bx_var 2)))))))))), ?_⟩
  rintro d R ⟨hd, htm⟩ hR
  have hR' := hR _ rfl
  walk_at "s"
  refine sIf_by (notTwo d) (fun Q hQ => ?_) (fun h => ?_) fun h => ?_
  · cases d with
    | non => walk_at "r"; exact ⟨_, _, rfl, kit_nt, fun _ => hQ, fun z => (by cases z)⟩
    | bl b => walk_at "r"; exact ⟨_, _, rfl, kit_bt, fun _ => hQ, fun z => (by cases z)⟩
    | int i => walk_at "r"; exact ⟨_, _, rfl, kit_it, fun _ => hQ, fun z => (by cases z)⟩
    | str x => walk_at "r"; exact ⟨_, _, rfl, kit_st, fun _ => hQ, fun z => (by cases z)⟩
    | lst xs => walk_at "r"; exact ⟨_, _, rfl, kit_lt, fun _ => hQ, fun z => (by cases z)⟩
    | tup xs => walk_at "r"; exact ⟨_, _, rfl, kit_tt, fun z => (by cases z), fun _ => hQ⟩
    | dic xs => walk_at "r"; exact ⟨_, _, rfl, kit_dt, fun _ => hQ, fun z => (by cases z)⟩
    | dit xs => walk_at "r"; exact ⟨_, _, rfl, kit_dt, fun _ => hQ, fun z => (by cases z)⟩
    | _ => cases hd
  · walk_at "r"
    have e : stB d = false := by
      unfold stB
      split
      · cases h
      · rfl
    rw [e] at hR'
    exact hR'
  have two : ∃ a b, d = .tup [a, b] := by
    cases d with
    | tup xs =>
      have h2 : xs.length = 2 := by
        unfold notTwo at h
        simp at h
        omega
      match xs, h2 with
      | [a, b], _ => exact ⟨a, b, rfl⟩
    | _ => cases h
  obtain ⟨a, b, rfl⟩ := two
  have ha : a.ty.isSome = true := (htm _ rfl).2 a (by simp)
  have hb : b.ty.isSome = true := (htm _ rfl).2 b (by simp)
  have con : ∀ {d : D} {Q : Rs → Prop}, d.ty.isSome = true → Q (.d (.bl (coB d))) → S_content.S [Slot.bo d] Q := fun {d Q} h1 h2 => ⟨d, rfl, h1, by rintro _ rfl; exact h2⟩
  walk_at "s"
  refine sIf_by (!(coB a && coB b)) (fun Q hQ => ?_) (fun h => ?_) fun h => ?_
  · walk_at "r"
    refine con ha ?_
    cases e : coB a with
    | false => rw [e] at hQ; exact ⟨fun _ => hQ, fun z => (by cases z)⟩
    | true =>
      rw [e] at hQ
      refine ⟨fun z => (by cases z), fun _ => con hb ?_⟩
      exact hQ
  · walk_at "r"
    have e : stB (.tup [a, b]) = false := by
      have h3 : (coB a && coB b) = false := (Bool.not_eq_true' _).mp h
      show (coB a && coB b && _) = false
      rw [h3]
      rfl
    rw [e] at hR'
    exact hR'
  have h2 : (coB a && coB b) = true := by simpa using h
  rw [Bool.and_eq_true] at h2
  obtain ⟨x, rfl⟩ := coB_inv h2.1
  obtain ⟨y, rfl⟩ := coB_inv h2.2
  have e := stB_st (x, y)
  unfold stD at e
  rw [e] at hR'
  cases x with
  | none => cases y <;> (walk_at "r"; exact ⟨fun _ => hR', fun z => (by cases z)⟩)
  | some i =>
    cases y with
    | none =>
      walk_at "r"
      exact ⟨fun z => z.elim, fun _ => ⟨fun _ => hR', fun z => (by cases z)⟩⟩
    | some j =>
      walk_at "r"
      exact ⟨fun z => z.elim, fun _ => ⟨fun z => z.elim, fun _ => hR'⟩⟩
abbrev s_touches : Stmt := top 23
abbrev N_touches : List Str := ["end", "low"]
theorem sc_touches : FnScope N_touches ["end", "low"] (defScope s_touches) := ⟨rfl, rfl, rfl, by decide +kernel, rfl, by decide +kernel, by decide +kernel⟩
def S_touches : SP := spc (α := Cn × Cn) (fun x => [.im (cD x.1), .im (cD x.2)]) (fun _ => True) fun x r => r = .d (.bl (touB x.1 x.2))
theorem ok_touches (F : FD K "touches" "touches" s_touches [] f fd) (T : Tx K mg C) : FnOk P w K mg base CX0 (2 + 1) f fd ["end", "low"] (spP K S_touches) := by
  refine fn_spc F sc_touches (fun x => [some (.im (cD x.1)), some (.im (cD x.2))]) fun cdv A outer s H E hr => ?_
  refine ⟨_, (ss_one (s_ret (px_or (bx (px_is (bx_var 0) (bx px_non))) (px_or (bx (px_is (bx_var 1) (bx px_non))) (px_one (px_le (bx_var 1) (bx (px_add (bx_var 0) (bx px_int))))))))), ?_⟩
  rintro ⟨x, y⟩ R _ hR
  cases x with
  | none => cases y <;> (walk_at "r"; exact ⟨fun _ => hR _ rfl, fun z => (by cases z)⟩)
  | some i =>
    cases y with
    | none =>
      walk_at "r"
      exact ⟨fun z => z.elim, fun _ => ⟨fun _ => hR _ rfl, fun z => (by cases z)⟩⟩
    | some j =>
      walk_at "r"
      exact ⟨fun z => z.elim, fun _ => ⟨fun z => z.elim, fun _ => hR _ rfl⟩⟩
/-- the nearest number within -/
def clampI (n : Int) : St2 → Int
  | (lo, hi) => match lo with
    | some a => if n < a then a else (match hi with
      | some b => if n > b then b else n
      | none => n)
    | none => (match hi with
      | some b => if n > b then b else n
      | none => n)
abbrev s_clamped : Stmt := top 29
abbrev N_clamped : List Str := ["number", "low", "high"]
theorem sc_clamped : FnScope N_clamped ["number", "low", "high"] (defScope s_clamped) := ⟨rfl, rfl, rfl, by decide +kernel, rfl, by decide +kernel, by decide +kernel⟩
def S_clamped : SP := spc (α := Int × St2) (fun x => [.im (.int x.1), .im (cD x.2.1), .im (cD x.2.2)]) (fun _ => True) fun x r => r = .d (.int (clampI x.1 x.2))
theorem ok_clamped (F : FD K "clamped" "clamped" s_clamped [] f fd) (T : Tx K mg C) : FnOk P w K mg base CX0 (2 + 1) f fd ["number", "low", "high"] (spP K S_clamped) := by
  refine fn_spc F sc_clamped (fun x => [some (.im (.int x.1)), some (.im (cD x.2.1)), some (.im (cD x.2.2))]) fun cdv A outer s H E hr => ?_
  refine ⟨_, (ss_cons (s_if (tx_w (tw_and (tx_isnot (bx_var 1) (bx px_non)) (tw_and1 (tx_lt (bx_var 0) (bx_var 1))))) (ss_one (s_ret (px_var 1))) ss_nil)
      (ss_cons (s_if (tx_w (tw_and (tx_isnot (bx_var 2) (bx px_non)) (tw_and1 (tx_gt (bx_var 0) (bx_var 2))))) (ss_one (s_ret (px_var 2))) ss_nil)
      (ss_one (s_ret (px_var 0))))), ?_⟩
  rintro ⟨n, x, y⟩ R _ hR
  dsimp only at hR
  have hR' := hR _ rfl
  unfold clampI at hR'
  cases x <;> cases y <;> walk_at "r" <;> dsimp only at hR'
  all_goals ((repeat' split at hR') <;> simp_all <;> first | (intro z; omega) | exact ⟨fun z => by omega, fun z => by omega⟩)
/-! ### how many -/
def cntS (l : List St2) : Cn := if l.any (fun p => p.1.isNone || p.2.isNone) then none else some ((l.map fun p => p.2.getD 0 - p.1.getD 0 + 1).sum)
abbrev s_count_of : Stmt := top 28
abbrev N_count_of : List Str := ["stretches", "low", "high"]
theorem sc_count_of : FnScope N_count_of ["stretches"] (defScope s_count_of) := ⟨rfl, rfl, rfl, by decide +kernel, rfl, by decide +kernel, by decide +kernel⟩
def S_count : SP := spc (α := List St2) (fun x => [.im (.tup (x.map stD))]) (fun x => x.length ≤ 1000) fun x r => r = .d (cD (cntS x))
theorem ok_count (F : FD K "count_of" "count_of" s_count_of [] f fd) (T : Tx K mg C) : FnOk P w K mg base CX0 (2 + 1) f fd ["stretches"] (spP K S_count) := by
  refine fn_spc F sc_count_of (fun x => [some (.im (.tup (x.map stD))), none, none]) fun cdv A outer s H E hr => ?_
  refine ⟨_, (ss_cons (s_if (tx_tru (bx (px_any rfl rfl T.any (bx (px_f (fx_lc (own := [("low", 1), ("high", 2)]) rfl sc_count_of.nd (ib (il_tup (px_var 0))) (blkOk_by (N := N_count_of) (sc := defScope s_count_of) (by decide +kernel)) (fun _ _ _ _ _ => (gx_tup (n := 2) rfl (gx_cons (gx_name (i := 1) sc_count_of.nd) (gx_cons (gx_name (i := 2) sc_count_of.nd) gx_nil)))) (fun _ _ _ _ _ => tts_nil) (fun _ _ _ _ _ => (px_or (bx (px_is (bx_var 1) (bx px_non))) (px_one (px_is (bx_var 2) (bx px_non))))))))))) (ss_one (s_ret px_non)) ss_nil)
      (ss_one (s_ret (px_sum rfl rfl T.sum (bx (px_f (fx_lc (own := [("low", 1), ("high", 2)]) rfl sc_count_of.nd (ib (il_tup (px_var 0))) (blkOk_by (N := N_count_of) (sc := defScope s_count_of) (by decide +kernel)) (fun _ _ _ _ _ => (gx_tup (n := 2) rfl (gx_cons (gx_name (i := 1) sc_count_of.nd) (gx_cons (gx_name (i := 2) sc_count_of.nd) gx_nil)))) (fun _ _ _ _ _ => tts_nil) (fun _ _ _ _ _ => (px_add (bx (px_sub (bx_var 2) (bx_var 1))) (bx px_int)))))))))), ?_⟩
  rintro l R hl hR
  walk_at "s"
  have hz : l.length ≤ sizeLine := Nat.le_trans hl (by decide)
  refine sIf_by (l.any fun p => p.1.isNone || p.2.isNone) (fun Q hQ => ?_) (fun h => ?_) fun h => ?_
  · walk_at "r"
    refine lcbM (fun p : St2 => .bl (p.1.isNone || p.2.isNone)) hz (fun p hp => ?_) ?_
    · obtain ⟨x, y⟩ := p
      cases x <;> cases y <;> walk_at "r"
      all_goals simp
    · refine ⟨l.map fun p => (p.1.isNone || p.2.isNone), by rw [List.map_map]; rfl, ?_⟩
      rw [List.any_map]
      exact hQ
  · walk_at "r"
    refine hR _ ?_
    unfold cntS
    rw [if_pos h]
    rfl
  · walk_at "r"
    refine lcbM (fun p : St2 => .int (p.2.getD 0 - p.1.getD 0 + 1)) hz (fun p hp => ?_) ?_
    · have hp2 : (p.1.isNone || p.2.isNone) = false := by
        cases e : (p.1.isNone || p.2.isNone) with
        | false => rfl
        | true => rw [List.any_eq_true.mpr ⟨p, hp, e⟩] at h; cases h
      obtain ⟨x, y⟩ := p
      cases x with
      | none => cases hp2
      | some i =>
        cases y with
        | none => cases hp2
        | some j =>
          walk_at "r"
          simp
    · refine ⟨l.map fun p => p.2.getD 0 - p.1.getD 0 + 1, by rw [List.map_map]; rfl, hR _ ?_⟩
      unfold cntS
      rw [h]
      rfl
end
end Kb
set_option Elab.async false
set_option linter.all false
set_option maxRecDepth 100000
set_option maxHeartbeats 1000000
namespace Kb
open PySem L2
set_option autoImplicit false
local macro_rules | `(tactic| walk_at "r") => `(tactic| try simp only [sSeq, sNext, sRet, sRetF, sRetO, sAsg, sAsgF, sAsgM, sAsgR, rCl, rMe, sRetM, sIf, sIfM, sDrop, sDropM, sUnp, sAug, sFor, sForM, sApp, sSetI, sDPu, sDPuT, sDNew, sDNewT, sDOne, sFldI, sBreak, sCont, fLc, xDc, xF, xVar, D.fl, bVar, xC, x2, b2, fAdd, fI, fI0, fB0, fEq, fNe, fIn, fIs, fIsNot, D.isN, xNeg, bTru, bNot, bAnd, bOr, bCh, xAnd, xOr, xNot, xIfE, xFld, fIx, fSl, oNo, oSo, aNil, aCons, xTup, fLst, fCat, xCall, fCall, fLen, fAbs, fInt, fList, fTuple, fIsi, D.ty, fAny, fSrt, fMin, xIdx, fSS, fDIn, xDGet, xDGetT, keyD, keysD, gN, gsN, gsC, gTu, iL, iT, iR1, iR2, iR3, iR1M, bYes, wipeE, free, Slot.ad, Slot.dat, Slot.par, axNil, axI, axB, xCl, fCl, xMe, fMe, xMk, fGen, mP, m2, bm2, mCl, mTup, mLst, mSS, amNil, amCons, gPlain, gThen, gNil, gYield, zP, zM, zTP, zD, z2, bz2, zTru, zNot, zAnd, zOr, zNil, zCons, zTup, zLst, zCl, zClX, zFld, zMkS, sAsgZ, sRetZ, sIfZ, sDropZ, sRaise, sTry, sRetR, sRetV, sRetMF, mF, mLc, iP, xR, fR, xClF, rMe0, fLRg, fSrtQ, iEnV, xEFld, fIsX, cvV, cD_none, cD_some, stD, lk_st, lk_hn, lk_sz, eqD_int, sh_int, sh60_ints, inL_ints, xSl, sSlI, zMkL, rMeL, rMeL0, zMeX0, fIsL, fIsM, fOwn, fSortK, srtKB, sExt, mPop, sUnpM, fMax2, fMin2, fSum, fLtT, fSSI, sRaise0, sTryF, sAsgX, rMeX0, sFrz, fBool, fBoolO, fInO, fOwnT, xMkL, xOwn1, zSta, rSta, rS0, rClX, fIsB, fInT, aStar, iZip, fLc2, fOwnN, fNeL, fIsA, sAppM, mSl, lk_sp, lk_co, xM1, xSlS, fIxS, fInS, xJoin, mJoin, fStr, fIntS, jD, xJs, iStrT, iEn, fMulS, mCall, sAsgLM, sUnpZ, fStrO, Bool.false_xor, Bool.true_xor,
  List.map_cons, List.map_nil, List.length_cons, List.length_nil, List.getElem?_cons_succ, List.getElem?_cons_zero, List.set_cons_succ, List.set_cons_zero, List.cons_append, List.nil_append, Option.isNone_none, Option.map_some, Option.map_none, true_and, and_true, if_true, if_false, rngD_ints, Int.add_sub_cancel, Bool.false_eq_true, List.length_map])
local macro_rules | `(tactic| walk_at "s") => `(tactic| try simp only [sSeq, sNext, sRet, sRetF, sRetO, sAsg, sAsgF, sAsgM, sAsgR, rCl, rMe, sRetM, sDrop, sDropM, sUnp, sAug, sFor, sForM, sApp, sSetI, sDPu, sDPuT, sDNew, sDNewT, sDOne, sFldI, sBreak, sCont, fLc, xDc, xF, xVar, D.fl, bVar, xC, x2, b2, fAdd, fI, fI0, fB0, fEq, fNe, fIn, fIs, fIsNot, D.isN, xNeg, bTru, bNot, bAnd, bOr, bCh, xAnd, xOr, xNot, xIfE, xFld, fIx, fSl, oNo, oSo, aNil, aCons, xTup, fLst, fCat, xCall, fCall, fLen, fAbs, fInt, fList, fTuple, fIsi, D.ty, fAny, fSrt, fMin, xIdx, fSS, fDIn, xDGet, xDGetT, keyD, keysD, gN, gsN, gsC, gTu, iL, iT, iR1, iR2, iR3, iR1M, bYes, wipeE, free, Slot.ad, Slot.dat, Slot.par, axNil, axI, axB, xCl, fCl, xMe, fMe, xMk, fGen, mP, m2, bm2, mCl, mTup, mLst, mSS, amNil, amCons, gPlain, gThen, gNil, gYield, zP, zM, zTP, zD, z2, bz2, zTru, zNot, zAnd, zOr, zNil, zCons, zTup, zLst, zCl, zClX, zFld, zMkS, sAsgZ, sRetZ, sDropZ, sRaise, sTry, sRetR, sRetV, sRetMF, mF, mLc, iP, xR, fR, xClF, rMe0, fLRg, fSrtQ, iEnV, xEFld, fIsX, cvV, cD_none, cD_some, stD, lk_st, lk_hn, lk_sz, eqD_int, sh_int, sh60_ints, inL_ints, xSl, sSlI, zMkL, rMeL, rMeL0, zMeX0, fIsL, fIsM, fOwn, fSortK, srtKB, sExt, mPop, sUnpM, fMax2, fMin2, fSum, fLtT, fSSI, sRaise0, sTryF, sAsgX, rMeX0, sFrz, fBool, fBoolO, fInO, fOwnT, xMkL, xOwn1, zSta, rSta, rS0, rClX, fIsB, fInT, aStar, iZip, fLc2, fOwnN, fNeL, fIsA, sAppM, mSl, lk_sp, lk_co, xM1, xSlS, fIxS, fInS, xJoin, mJoin, fStr, fIntS, jD, xJs, iStrT, iEn, fMulS, mCall, sAsgLM, sUnpZ, fStrO, Bool.false_xor, Bool.true_xor,
  List.map_cons, List.map_nil, List.length_cons, List.length_nil, List.getElem?_cons_succ, List.getElem?_cons_zero, List.set_cons_succ, List.set_cons_zero, List.cons_append, List.nil_append, Option.isNone_none, Option.map_some, Option.map_none, true_and, and_true, if_true, if_false, rngD_ints, Int.add_sub_cancel, Bool.false_eq_true, List.length_map])
/-! ### stretches merged -/
def rkP : Cn → Int × Int
  | none => (0, 0)
  | some i => (1, i)
def leR (a b : Cn) : Bool := decide ((rkP a).1 < (rkP b).1 ∨ ((rkP a).1 = (rkP b).1 ∧ (rkP a).2 ≤ (rkP b).2))
theorem rkD_eq (x : Cn) : rkD x = .tup [.int (rkP x).1, .int (rkP x).2] := by cases x <;> rfl
theorem leD_rk (a b : Cn) : leD (rkD a) (rkD b) = leR a b := by
  rw [rkD_eq, rkD_eq]
  exact congrFun (congrFun (PySem.W.dataLe_ii (fun p : Cn => (rkP p).1) (fun p => (rkP p).2)) a) b
def sortS (l : List St2) : List St2 := l.mergeSort fun a b => leR a.1 b.1
def hiMax : Cn → Cn → Cn
  | some a, some b => some (if b > a then b else a)
  | _, _ => none
def mrg (acc : List St2) (p : St2) : List St2 := match acc.getLast? with
  | some q => if touB q.2 p.1 then acc.dropLast ++ [(q.1, hiMax q.2 p.2)] else acc ++ [p]
  | none => acc ++ [p]
def mergeS (l : List St2) : List St2 := (sortS l).foldl mrg []
theorem mrg_nil (p : St2) : mrg [] p = [p] := rfl
theorem mrg_snoc (acc : List St2) (q p : St2) : mrg (acc ++ [q]) p = if touB q.2 p.1 then acc ++ [(q.1, hiMax q.2 p.2)] else acc ++ [q] ++ [p] := by
  unfold mrg
  rw [List.getLast?_append]
  simp
theorem mrg_len (acc : List St2) (p : St2) : (mrg acc p).length ≤ acc.length + 1 := by
  rcases List.eq_nil_or_concat acc with rfl | ⟨a, q, rfl⟩
  · exact Nat.le_refl _
  · rw [List.concat_eq_append, mrg_snoc]
    split <;> simp
def kdL : D → D
  | .tup [.non, _] => rkD none
  | .tup [.int i, _] => rkD (some i)
  | _ => .non
theorem kdL_st (p : St2) : kdL (stD p) = rkD p.1 := by
  obtain ⟨x, y⟩ := p
  cases x <;> rfl
theorem rk_alk (xs : List Cn) : alkD (xs.map rkD) := by
  refine ⟨fun x hx y hy => ?_, .inl fun d hd => ?_⟩
  · rw [List.map_map] at hx hy
    obtain ⟨p, _, rfl⟩ := List.mem_map.mp hx
    obtain ⟨q, _, rfl⟩ := List.mem_map.mp hy
    cases p <;> cases q <;> rfl
  · rw [List.map_map] at hd
    obtain ⟨p, _, rfl⟩ := List.mem_map.mp hd
    cases p <;> exact ⟨_, _, rfl⟩
theorem sort_st (l : List St2) : (l.map stD).mergeSort (fun a b => leD (kdL a) (kdL b)) = (sortS l).map stD := (PySem.W.sort_maps (s := fun a b => leD (kdL a) (kdL b)) stD fun a _ b _ => by
  show leR a.1 b.1 = leD (kdL (stD a)) (kdL (stD b))
  rw [kdL_st, kdL_st, leD_rk]).symm
theorem kd_map (l : List St2) : (l.map stD).map kdL = (l.map (·.1)).map rkD := by
  rw [List.map_map, List.map_map]
  exact List.map_congr_left fun p _ => kdL_st p
theorem sh_rk (n : Nat) (x : Cn) : (rkD x).sh (n + 1) = true := by cases x <;> (cases n <;> rfl)
theorem sort_len (l : List St2) : (sortS l).length = l.length := List.length_mergeSort _
def bSl (b : Bool) (ds : List D) : Slot := .bo (if b then .tup ds else .lst ds)
section
variable {P : Program} {w : World} {K : Frag} {mg : Str → Option Value} {base : Heap} {C f : Addr} {fd : FuncData}
abbrev s_merged : Stmt := top 22
abbrev N_merged : List Str := ["pairs", "result", "low", "high", "first", "last"]
theorem sc_merged : FnScope N_merged ["pairs"] (defScope s_merged) := ⟨rfl, rfl, rfl, by decide +kernel, rfl, by decide +kernel, by decide +kernel⟩
def S_merged : SP := spc (α := List St2 × Bool) (fun x => [bSl x.2 (x.1.map stD)]) (fun x => x.1.length ≤ 1000) fun x r => r = .d (.tup ((mergeS x.1).map stD))
theorem ok_merged (F : FD K "merged" "merged" s_merged [] f fd) (T : Tx K mg C) (D_low_rank : Df P w K mg base "low_rank" 4 (spP K S_lowrank)) (D_touches : Df P w K mg base "touches" 3 (spP K S_touches)) : FnOk P w K mg base CX0 (6 + 1) f fd ["pairs"] (spP K S_merged) := by
  refine fn_spc F sc_merged (fun x => [some (bSl x.2 (x.1.map stD)), none, none, none, none, none]) fun cdv A outer s H E hr => ?_
  refine ⟨_, (ss_cons (s_asgF (i := 1) sc_merged.nd (fx_lst as_nil))
      (ss_cons (s_for PassesOwn.never rfl (il_list (px_f (fx_sortK D_low_rank (hr.mono (by decide)) rfl T.sorted rfl (bx_var 0)))) (gx_tup (n := 2) rfl (gx_cons (gx_name (i := 2) sc_merged.nd) (gx_cons (gx_name (i := 3) sc_merged.nd) gx_nil))) (ss_one (s_if (tx_w (tw_and (tx_tru (bx_var 1)) (tw_and1 (tx_tru (bx (px_call D_touches (hr.mono (by decide)) (ax_i (px_ix (bx (px_ix (bx_var 1) (bx (px_neg (bx px_int))))) (bx px_int)) (ax_i (px_var 2) ax_nil)))))))) (ss_cons (s_unpM (mx_pop 1) (gx_tup (n := 2) rfl (gx_cons (gx_name (i := 4) sc_merged.nd) (gx_cons (gx_name (i := 5) sc_merged.nd) gx_nil))))
      (ss_one (s_app 1 (px_tup (as_cons (px_var 4) (as_cons (px_ifE (tx_w (tw_or (tx_is (bx_var 5) (bx px_non)) (tw_or1 (tx_is (bx_var 3) (bx px_non))))) px_non (px_max2 rfl rfl T.max (bx_var 5) (bx_var 3))) as_nil)))))) (ss_one (s_app 1 (px_tup (as_cons (px_var 2) (as_cons (px_var 3) as_nil))))))))
      (ss_one (s_ret (px_tuple rfl T.tuple (bx_var 1)))))), ?_⟩
  rintro ⟨l, b⟩ R hl hR
  dsimp only at hl hR
  have pre1 : ∀ x ∈ l.map stD, (S_lowrank.S [.im x] fun r => r.dat = kdL x) ∧ D.sh 60 (kdL x) = true := fun x hx => by
    obtain ⟨p, _, rfl⟩ := List.mem_map.mp hx
    rw [kdL_st]
    refine ⟨⟨p, rfl, trivial, ?_⟩, sh_rk 59 _⟩
    rintro _ rfl
    rfl
  have pre2 : alkD ((l.map stD).map kdL) := by rw [kd_map]; exact rk_alk _
  have main : ∀ (s0 : Slot) (l1 : Addr), ForB (gTu 2 (gsC (gN 2) (gsC (gN 3) gsN)))
      (sIf (bAnd (bTru (bVar 1)) (bTru (xCl S_touches (axI (x2 fIx (x2 fIx (bVar 1) (xNeg (xC (D.int 1)))) (xC (D.int 1))) (axI (xVar 2) axNil)))))
        (sSeq (sUnpM (gTu 2 (gsC (gN 4) (gsC (gN 5) gsN))) (mPop 1)) (sApp 1 (xTup (aCons (xVar 4) (aCons (xIfE (bOr (b2 fIs (bVar 5) (xC D.non)) (b2 fIs (bVar 3) (xC D.non))) (xC D.non) (xCall fMax2 (aCons (bVar 5) (aCons (bVar 3) aNil)))) aNil)))))
        (sApp 1 (xTup (aCons (xVar 2) (aCons (xVar 3) aNil)))))
      { nx := sRet (xCall fTuple (aCons (bVar 1) aNil)) { nx := fun x => R (Rs.d D.non), rt := fun r x => R r }, rt := fun r x => R r }
      [some s0, some (Slot.ml l1 []), none, none, none, none] ((sortS l).map stD) := by
    intro s0 l1
    refine forb (fun pre Γ => ∃ d2 d3 d4 d5 : Option D, Γ = [some s0, some (.ml l1 ((pre.foldl mrg []).map stD)), d2.map Slot.im, d3.map Slot.im, d4.map Slot.im, d5.map Slot.im] ∧ (pre.foldl mrg []).length ≤ pre.length) ⟨none, none, none, none, rfl, Nat.le_refl _⟩ ?_ ?_
    · rintro pre ⟨x, y⟩ post Γ hx ⟨d2, d3, d4, d5, rfl, hlen⟩
      have hpl : pre.length < 1001 := by
        have h1 := congrArg List.length hx
        rw [sort_len, List.length_append, List.length_cons] at h1
        omega
      walk_at "s"
      refine ⟨by cases d2 <;> rfl, by cases d3 <;> rfl, ?_⟩
      have hf : (pre ++ [(x, y)]).foldl mrg [] = mrg (pre.foldl mrg []) (x, y) := by rw [List.foldl_append]; rfl
      have hL : (mrg (pre.foldl mrg []) (x, y)).length ≤ (pre ++ [(x, y)]).length := by
        have h1 := mrg_len (pre.foldl mrg []) (x, y)
        rw [List.length_append]
        simp only [List.length_cons, List.length_nil]
        omega
      simp only [hf]
      generalize pre.foldl mrg [] = acc at hlen hL
      rcases List.eq_nil_or_concat acc with rfl | ⟨acc', ⟨q1, q2⟩, rfl⟩
      · refine sIf_by false (fun Q hQ => ?_) (fun z => by cases z) fun _ => ?_
        · walk_at "r"
          exact ⟨fun z => (by cases z), fun _ => hQ⟩
        · walk_at "r"
          exact ⟨by decide, by decide, some (cD x), some (cD y), d4, d5, rfl, hL⟩
      · rw [List.concat_eq_append] at hlen hL ⊢
        have hsz : (acc' ++ [(q1, q2)]).length < sizeLine := Nat.lt_of_le_of_lt hlen (Nat.lt_of_lt_of_le hpl (by decide))
        refine sIf_by (touB q2 x) (fun Q hQ => ?_) (fun h => ?_) fun h => ?_
        · walk_at "r"
          have at1 : atI (List.map stD (acc' ++ [(q1, q2)])) (-1) = some (stD (q1, q2)) := by rw [List.map_append]; exact atI_last _ _
          rw [at1]
          refine ⟨fun _ => ?_, fun z => (by simp at z)⟩
          refine (?_ : S_touches.S [Slot.im (cD q2), Slot.im (cD x)] _)
          refine ⟨(q2, x), rfl, trivial, ?_⟩
          rintro _ rfl
          exact hQ
        · walk_at "r"
          refine ⟨acc'.map stD, stD (q1, q2), by rw [List.map_append]; rfl, ?_⟩
          refine ⟨rfl, by cases d4 <;> rfl, by cases d5 <;> rfl, ?_⟩
          have hsz' : (acc'.map stD).length < sizeLine := by
            rw [List.length_map]
            rw [List.length_append] at hsz
            omega
          have fin : some (Slot.ml l1 (acc'.map stD ++ [stD (q1, hiMax q2 y)])) = some (Slot.ml l1 ((mrg (acc' ++ [(q1, q2)]) (x, y)).map stD)) := by
            rw [mrg_snoc, if_pos h, List.map_append]
            rfl
          have endS : ∀ d : D, d = stD (q1, hiMax q2 y) → ∃ e2 e3 e4 e5 : Option D, [some s0, some (Slot.ml l1 (List.map stD acc' ++ [d])), some (Slot.im (cD x)), some (Slot.im (cD y)), some (Slot.im (cD q1)), some (Slot.im (cD q2))] =
              [some s0, some (Slot.ml l1 (List.map stD (mrg (acc' ++ [(q1, q2)]) (x, y)))), Option.map Slot.im e2, Option.map Slot.im e3, Option.map Slot.im e4, Option.map Slot.im e5] ∧ (mrg (acc' ++ [(q1, q2)]) (x, y)).length ≤ (pre ++ [(x, y)]).length := fun d hd => by
            refine ⟨some (cD x), some (cD y), some (cD q1), some (cD q2), ?_, hL⟩
            rw [← fin, hd]
            rfl
          cases q2 with
          | none => exact ⟨fun _ => ⟨fun _ => ⟨by decide, hsz', endS _ rfl⟩, fun z => (by cases z)⟩, fun z => (by cases z)⟩
          | some i =>
            cases y with
            | none => exact ⟨fun z => (by cases z), fun _ => ⟨fun _ => ⟨by decide, hsz', endS _ rfl⟩, fun z => (by cases z)⟩⟩
            | some j => exact ⟨fun z => (by cases z), fun _ => ⟨fun z => (by cases z), fun _ => ⟨by decide, hsz', endS _ rfl⟩⟩⟩
        · walk_at "r"
          refine ⟨by decide, hsz, some (cD x), some (cD y), d4, d5, ?_, hL⟩
          rw [mrg_snoc, if_neg (by rw [h]; decide)]
          simp [stD]
    · rintro _ ⟨d2, d3, d4, d5, rfl, hlen⟩
      walk_at "r"
      exact hR _ rfl
  cases b <;> unfold bSl <;> walk_at "s"
  all_goals
    refine ⟨by decide, fun l1 _ => ⟨kdL, pre1, pre2, ?_⟩⟩
    rw [sort_st]
    exact main _ l1
end
end Kb
set_option Elab.async false
set_option linter.all false
set_option maxRecDepth 100000
set_option maxHeartbeats 1000000
namespace Kb
open PySem L2
set_option autoImplicit false
local macro_rules | `(tactic| walk_at "r") => `(tactic| try simp only [sSeq, sNext, sRet, sRetF, sRetO, sAsg, sAsgF, sAsgM, sAsgR, rCl, rMe, sRetM, sIf, sIfM, sDrop, sDropM, sUnp, sAug, sFor, sForM, sApp, sSetI, sDPu, sDPuT, sDNew, sDNewT, sDOne, sFldI, sBreak, sCont, fLc, xDc, xF, xVar, D.fl, bVar, xC, x2, b2, fAdd, fI, fI0, fB0, fEq, fNe, fIn, fIs, fIsNot, D.isN, xNeg, bTru, bNot, bAnd, bOr, bCh, xAnd, xOr, xNot, xIfE, xFld, fIx, fSl, oNo, oSo, aNil, aCons, xTup, fLst, fCat, xCall, fCall, fLen, fAbs, fInt, fList, fTuple, fIsi, D.ty, fAny, fSrt, fMin, xIdx, fSS, fDIn, xDGet, xDGetT, keyD, keysD, gN, gsN, gsC, gTu, iL, iT, iR1, iR2, iR3, iR1M, bYes, wipeE, free, Slot.ad, Slot.dat, Slot.par, axNil, axI, axB, xCl, fCl, xMe, fMe, xMk, fGen, mP, m2, bm2, mCl, mTup, mLst, mSS, amNil, amCons, gPlain, gThen, gNil, gYield, zP, zM, zTP, zD, z2, bz2, zTru, zNot, zAnd, zOr, zNil, zCons, zTup, zLst, zCl, zClX, zFld, zMkS, sAsgZ, sRetZ, sIfZ, sDropZ, sRaise, sTry, sRetR, sRetV, sRetMF, mF, mLc, iP, xR, fR, xClF, rMe0, fLRg, fSrtQ, iEnV, xEFld, fIsX, cvV, cD_none, cD_some, stD, lk_st, lk_hn, lk_sz, eqD_int, sh_int, sh60_ints, inL_ints, xSl, sSlI, zMkL, rMeL, rMeL0, zMeX0, fIsL, fIsM, fOwn, fSortK, srtKB, sExt, mPop, sUnpM, fMax2, fMin2, fSum, fLtT, fSSI, sRaise0, sTryF, sAsgX, rMeX0, sFrz, fBool, fBoolO, fInO, fOwnT, xMkL, xOwn1, zSta, rSta, rS0, rClX, fIsB, fInT, aStar, iZip, fLc2, fOwnN, fNeL, fIsA, sAppM, mSl, lk_sp, lk_co, xM1, xSlS, fIxS, fInS, xJoin, mJoin, fStr, fIntS, jD, xJs, iStrT, iEn, fMulS, mCall, sAsgLM, sUnpZ, fStrO, Bool.false_xor, Bool.true_xor,
  List.map_cons, List.map_nil, List.length_cons, List.length_nil, List.getElem?_cons_succ, List.getElem?_cons_zero, List.set_cons_succ, List.set_cons_zero, List.cons_append, List.nil_append, Option.isNone_none, Option.map_some, Option.map_none, true_and, and_true, if_true, if_false, rngD_ints, Int.add_sub_cancel, Bool.false_eq_true, List.length_map])
local macro_rules | `(tactic| walk_at "s") => `(tactic| try simp only [sSeq, sNext, sRet, sRetF, sRetO, sAsg, sAsgF, sAsgM, sAsgR, rCl, rMe, sRetM, sDrop, sDropM, sUnp, sAug, sFor, sForM, sApp, sSetI, sDPu, sDPuT, sDNew, sDNewT, sDOne, sFldI, sBreak, sCont, fLc, xDc, xF, xVar, D.fl, bVar, xC, x2, b2, fAdd, fI, fI0, fB0, fEq, fNe, fIn, fIs, fIsNot, D.isN, xNeg, bTru, bNot, bAnd, bOr, bCh, xAnd, xOr, xNot, xIfE, xFld, fIx, fSl, oNo, oSo, aNil, aCons, xTup, fLst, fCat, xCall, fCall, fLen, fAbs, fInt, fList, fTuple, fIsi, D.ty, fAny, fSrt, fMin, xIdx, fSS, fDIn, xDGet, xDGetT, keyD, keysD, gN, gsN, gsC, gTu, iL, iT, iR1, iR2, iR3, iR1M, bYes, wipeE, free, Slot.ad, Slot.dat, Slot.par, axNil, axI, axB, xCl, fCl, xMe, fMe, xMk, fGen, mP, m2, bm2, mCl, mTup, mLst, mSS, amNil, amCons, gPlain, gThen, gNil, gYield, zP, zM, zTP, zD, z2, bz2, zTru, zNot, zAnd, zOr, zNil, zCons, zTup, zLst, zCl, zClX, zFld, zMkS, sAsgZ, sRetZ, sDropZ, sRaise, sTry, sRetR, sRetV, sRetMF, mF, mLc, iP, xR, fR, xClF, rMe0, fLRg, fSrtQ, iEnV, xEFld, fIsX, cvV, cD_none, cD_some, stD, lk_st, lk_hn, lk_sz, eqD_int, sh_int, sh60_ints, inL_ints, xSl, sSlI, zMkL, rMeL, rMeL0, zMeX0, fIsL, fIsM, fOwn, fSortK, srtKB, sExt, mPop, sUnpM, fMax2, fMin2, fSum, fLtT, fSSI, sRaise0, sTryF, sAsgX, rMeX0, sFrz, fBool, fBoolO, fInO, fOwnT, xMkL, xOwn1, zSta, rSta, rS0, rClX, fIsB, fInT, aStar, iZip, fLc2, fOwnN, fNeL, fIsA, sAppM, mSl, lk_sp, lk_co, xM1, xSlS, fIxS, fInS, xJoin, mJoin, fStr, fIntS, jD, xJs, iStrT, iEn, fMulS, mCall, sAsgLM, sUnpZ, fStrO, Bool.false_xor, Bool.true_xor,
  List.map_cons, List.map_nil, List.length_cons, List.length_nil, List.getElem?_cons_succ, List.getElem?_cons_zero, List.set_cons_succ, List.set_cons_zero, List.cons_append, List.nil_append, Option.isNone_none, Option.map_some, Option.map_none, true_and, and_true, if_true, if_false, rngD_ints, Int.add_sub_cancel, Bool.false_eq_true, List.length_map])
/-- what the top has left of the errors -/
structure TxE (P : Program) (K : Frag) (mg : Str → Option Value) (Ci Ct Cw Ck fI fT fW : Addr) : Prop where
  eS : ErrTxt P K mg "InvalidStretch" Ci fI ["position"]
  eT : ErrTxt P K mg "InvalidSpanText" Ct fT ["position"]
  eW : ErrTxt P K mg "InvalidWord" Cw fW ["word"]
  rT : ErrR K Ct "position"
  rW : ErrR K Cw "word"
  xT : ExcC K Ct
  xW : ExcC K Cw
  gK : mg "KeptError" = some (.ref Ck)
  mT : PySem.W.exmOne K (.ref Ct) (.ref Ct) = some true
  mW : PySem.W.exmOne K (.ref Cw) (.ref Cw) = some true
  kTW : PySem.W.kitOne K (.ref Ct) (.ref Cw) = some false
  kTS : PySem.W.kitOne K (.ref Ct) (.ref Ci) = some false
  kTK : PySem.W.kitOne K (.ref Ct) (.ref Ck) = some true
  kWT : PySem.W.kitOne K (.ref Cw) (.ref Ct) = some false
  kWK : PySem.W.kitOne K (.ref Cw) (.ref Ck) = some true
/-- what the top has left of texts -/
structure TxT (K : Frag) (mg : Str → Option Value) (C : Addr) : Prop where
  digits : ∃ t, mg "DIGITS" = some (.str "0123456789" t)
  most : ∃ t, mg "MOST_DIGITS" = some (.int 60 t)
  ne : NeC K C
/-! ### a span -/
def spF (l : List St2) (b : Bool) : List (Str × D) := [("stretches", .tup (l.map stD)), ("has_none", .bl b), ("size", cD (cntS l))]
def spD (C : Addr) (l : List St2) (b : Bool) : D := .slo C (spF l b)
theorem iSq_sl {i : Nat} {Γ : Env} {b : Bool} {ds : List D} {P : List D → Prop} (h : Γ[i]? = some (some (bSl b ds))) (hp : P ds) : iSqV i Γ P := by
  unfold bSl at h
  unfold iSqV
  rw [h]
  cases b <;> exact hp
theorem mergeS_len (l : List St2) : (mergeS l).length ≤ l.length := by
  have go : ∀ (xs acc : List St2), (xs.foldl mrg acc).length ≤ acc.length + xs.length := by
    intro xs
    induction xs with
    | nil => intro acc; exact Nat.le_refl _
    | cons x xs ih =>
      intro acc
      have h1 := ih (mrg acc x)
      have h2 := mrg_len acc x
      rw [List.foldl_cons, List.length_cons]
      omega
  have h := go (sortS l) []
  rw [sort_len, List.length_nil, Nat.zero_add] at h
  exact h
theorem enumD_z (l : List D) : enumD l = l.zipIdx.map fun p => .tup [.int p.2, p.1] := rfl
section
variable {P : Program} {w : World} {K : Frag} {mg : Str → Option Value} {base : Heap} {C Ci Cc Ck Ct Cw fI fC fT fW f : Addr} {fd : FuncData}
abbrev s_Span___init__ : Stmt := inClass (top 30) 1
abbrev N_Span___init__ : List Str := ["self", "pairs", "has_none", "index", "pair"]
theorem sc_Span___init__ : FnScope N_Span___init__ ["self", "pairs", "has_none"] (defScope s_Span___init__) := ⟨rfl, rfl, rfl, by decide +kernel, rfl, by decide +kernel, by decide +kernel⟩
def S_initL (Ci : Addr) : SIS := spcIS (α := (List D × Bool) × Bool) (fun x => [bSl x.1.2 x.1.1, .im (.bl x.2)]) (fun x => x.1.1.length ≤ 1000 ∧ ∀ d ∈ x.1.1, TmD d)
  (fun x r => ∃ l : List St2, x.1.1 = l.map stD ∧ (∀ p ∈ l, okS p = true) ∧ r = spF (mergeS l) x.2)
  fun x C fs => ∃ pre d post, x.1.1 = pre ++ d :: post ∧ (∀ e ∈ pre, stB e = true) ∧ stB d = false ∧ C = Ci ∧ fs = [(("position" : Str), .int pre.length)]
theorem all_st : ∀ {ds : List D}, (∀ d ∈ ds, stB d = true) → ∃ l : List St2, ds = l.map stD ∧ ∀ p ∈ l, okS p = true
  | [], _ => ⟨[], rfl, fun p hp => by cases hp⟩
  | d :: ds, h => by
    obtain ⟨p, rfl, hp⟩ := stB_inv (h d (.head _))
    obtain ⟨l, rfl, hl⟩ := all_st fun e he => h e (.tail _ he)
    refine ⟨p :: l, rfl, fun q hq => ?_⟩
    rcases List.mem_cons.mp hq with rfl | hq
    · exact hp
    · exact hl q hq
theorem ok_initL {dv : V} (F : FunD K "__init__" "Span.__init__" (defArgs s_Span___init__) (defBody s_Span___init__) (defScope s_Span___init__) [dv] [("has_none", .bl false)] f fd) (T : Tx K mg C) (T2 : TxE P K mg Ci Ct Cw Ck fI fT fW) (D_is_stretch : Df P w K mg base "is_stretch" 5 (spP K S_stretch)) (D_merged : Df P w K mg base "merged" 7 (spP K S_merged)) (D_count_of : Df P w K mg base "count_of" 3 (spP K S_count)) : FnOk P w K mg base (L2.CX P w) (8 + 1) f fd ["self", "pairs", "has_none"] (spIL K C (S_initL Ci)) := by
  refine fn_initL F sc_Span___init__ (fun l x => [some (.ms l C []), some (bSl x.1.2 x.1.1), some (.im (.bl x.2)), none, none]) fun cdv A outer s H E hr => ?_
  refine ⟨_, (ss_cons (s_forO (passes_of rfl) rfl (io_en 1 rfl T.enumerate) (gx_tup (n := 2) rfl (gx_cons (gx_name (i := 3) sc_Span___init__.nd) (gx_cons (gx_name (i := 4) sc_Span___init__.nd) gx_nil))) (ss_one (s_if (tx_not (tx_tru (bx (px_call D_is_stretch (hr.mono (by decide)) (ax_i (px_var 4) ax_nil))))) (ss_one (s_raise rfl (takes_of rfl rfl rfl rfl) T2.eS hr (as_cons (px_var 3) as_nil))) ss_nil)))
      (ss_cons (s_sl 0 T.sp (px_call D_merged (hr.mono (by decide)) (ax_b (bx_var 1) ax_nil)))
      (ss_cons (s_sl 0 T.sp (px_var 2))
      (ss_one (s_sl 0 T.sp (px_call D_count_of (hr.mono (by decide)) (ax_i (px_sl T.sp.cl (bx_var 0)) ax_nil))))))), ?_⟩
  rintro l ⟨⟨ds, k⟩, b⟩ R X ⟨hl, htm⟩ hR hX
  dsimp only at hl htm hR hX
  walk_at "s"
  refine iSq_sl rfl ?_
  rw [enumD_z]
  refine forb (fun pre Γ => ∃ d3 d4 : Option D, (∀ q ∈ pre, stB q.1 = true) ∧ Γ = [some (.ms l C []), some (bSl k ds), some (.im (.bl b)), d3.map Slot.im, d4.map Slot.im]) ⟨none, none, fun q hq => (by cases hq), rfl⟩ ?_ ?_
  · rintro pre ⟨p, i⟩ post Γ hx ⟨d3, d4, hpre, rfl⟩
    have hget : ds.zipIdx[pre.length]? = some (p, i) := by rw [hx, List.getElem?_append_right (Nat.le_refl _), Nat.sub_self]; rfl
    rw [List.getElem?_zipIdx] at hget
    have hpi : ds[pre.length]? = some p ∧ i = pre.length := by
      cases e : ds[pre.length]? with
      | none => rw [e] at hget; cases hget
      | some q =>
        rw [e] at hget
        have z := Option.some.inj hget
        have z1 : q = p := congrArg Prod.fst z
        have z2 : 0 + pre.length = i := congrArg Prod.snd z
        exact ⟨congrArg some z1, by omega⟩
    obtain ⟨hp, rfl⟩ := hpi
    obtain ⟨hlt, hpe⟩ := List.getElem?_eq_some_iff.mp hp
    have hpt : TmD p := htm p (List.mem_of_getElem? hp)
    walk_at "s"
    refine ⟨by cases d3 <;> rfl, by cases d4 <;> rfl, ?_⟩
    refine sIf_by (!stB p) (fun Q hQ => ?_) (fun h => ?_) fun h => ?_
    · walk_at "r"
      refine ⟨p, rfl, hpt, ?_⟩
      rintro _ rfl
      exact hQ
    · walk_at "r"
      have hb : stB p = false := by simpa using h
      refine hX _ _ ⟨ds.take pre.length, p, ds.drop (pre.length + 1), ?_, fun e he => ?_, hb, rfl, ?_⟩
      · rw [← hpe, ← List.drop_eq_getElem_cons hlt, List.take_append_drop]
      · obtain ⟨j, hj⟩ := List.mem_iff_getElem?.mp he
        rw [List.getElem?_take] at hj
        split at hj
        · rename_i hjl
          refine hpre (e, j) (List.mem_iff_getElem?.mpr ⟨j, ?_⟩)
          have h1 : ds.zipIdx[j]? = pre[j]? := by rw [hx, List.getElem?_append_left hjl]
          rw [← h1, List.getElem?_zipIdx, hj]
          simp
        · cases hj
      · rw [List.length_take, Nat.min_eq_left (Nat.le_of_lt hlt)]
        rfl
    · walk_at "r"
      have hb : stB p = true := by simpa using h
      refine ⟨some (.int pre.length), some p, fun q hq => ?_, rfl⟩
      rcases List.mem_append.mp hq with hq | hq
      · exact hpre q hq
      · rw [List.mem_singleton.mp hq]
        exact hb
  · rintro _ ⟨d3, d4, hpre, rfl⟩
    have hall : ∀ p ∈ ds, stB p = true := fun p hp => by
      obtain ⟨i, hi⟩ := List.mem_iff_getElem?.mp hp
      exact hpre (p, i) (List.mem_iff_getElem?.mpr ⟨i, by rw [List.getElem?_zipIdx, hi]; simp⟩)
    obtain ⟨ps, rfl, hok⟩ := all_st hall
    rw [List.length_map] at hl
    cases k <;> unfold bSl <;> walk_at "s"
    all_goals
      first
      | refine ⟨(ps, false), rfl, hl, ?_⟩
      | refine ⟨(ps, true), rfl, hl, ?_⟩
      rintro _ rfl
      refine ⟨by decide +kernel, by decide +kernel, by decide +kernel, by decide +kernel, by decide +kernel, by decide +kernel, ?_⟩
      refine ⟨mergeS ps, rfl, Nat.le_trans (mergeS_len ps) hl, ?_⟩
      rintro _ rfl
      exact ⟨by decide +kernel, by decide +kernel, by decide +kernel, _, rfl, hR _ ⟨ps, rfl, hok, rfl⟩⟩
theorem st_inj {l m : List St2} (h : l.map stD = m.map stD) : l = m := by
  induction l generalizing m with
  | nil => cases m <;> simp_all
  | cons p l ih =>
    cases m with
    | nil => simp at h
    | cons q m =>
      rw [List.map_cons, List.map_cons, List.cons.injEq] at h
      obtain ⟨p1, p2⟩ := p
      obtain ⟨q1, q2⟩ := q
      have h1 : (D.tup [cD p1, cD p2]) = .tup [cD q1, cD q2] := h.1
      injection h1 with h1
      injection h1 with h1 h2
      injection h2 with h2 _
      rw [cD_inj h1, cD_inj h2, ih h.2]
theorem initS {Ci : Addr} {l : List St2} {k b : Bool} {R : List (Str × D) → Prop} {X : EF} (hl : l.length ≤ 1000) (hok : ∀ p ∈ l, okS p = true) (h : R (spF (mergeS l) b)) : (S_initL Ci).S [bSl k (l.map stD), Slot.im (.bl b)] R X := by
  refine ⟨((l.map stD, k), b), rfl, ⟨by dsimp only; rw [List.length_map]; exact hl, fun d hd => ?_⟩, ?_, ?_⟩
  · obtain ⟨p, _, rfl⟩ := List.mem_map.mp hd
    exact tm_st p
  · rintro _ ⟨m, hm, _, rfl⟩
    rw [← st_inj hm]
    exact h
  · rintro C fs ⟨pre, d, post, h1, _, h2, _⟩
    dsimp only at h1
    have hd : d ∈ l.map stD := by rw [h1]; exact List.mem_append_right _ (.head _)
    obtain ⟨p, hp, rfl⟩ := List.mem_map.mp hd
    rw [stB_st, hok p hp] at h2
    cases h2
end
end Kb
set_option Elab.async false
set_option linter.all false
set_option maxRecDepth 100000
set_option maxHeartbeats 1000000
namespace Kb
open PySem L2
set_option autoImplicit false
local macro_rules | `(tactic| walk_at "r") => `(tactic| try simp only [sSeq, sNext, sRet, sRetF, sRetO, sAsg, sAsgF, sAsgM, sAsgR, rCl, rMe, sRetM, sIf, sIfM, sDrop, sDropM, sUnp, sAug, sFor, sForM, sApp, sSetI, sDPu, sDPuT, sDNew, sDNewT, sDOne, sFldI, sBreak, sCont, fLc, xDc, xF, xVar, D.fl, bVar, xC, x2, b2, fAdd, fI, fI0, fB0, fEq, fNe, fIn, fIs, fIsNot, D.isN, xNeg, bTru, bNot, bAnd, bOr, bCh, xAnd, xOr, xNot, xIfE, xFld, fIx, fSl, oNo, oSo, aNil, aCons, xTup, fLst, fCat, xCall, fCall, fLen, fAbs, fInt, fList, fTuple, fIsi, D.ty, fAny, fSrt, fMin, xIdx, fSS, fDIn, xDGet, xDGetT, keyD, keysD, gN, gsN, gsC, gTu, iL, iT, iR1, iR2, iR3, iR1M, bYes, wipeE, free, Slot.ad, Slot.dat, Slot.par, axNil, axI, axB, xCl, fCl, xMe, fMe, xMk, fGen, mP, m2, bm2, mCl, mTup, mLst, mSS, amNil, amCons, gPlain, gThen, gNil, gYield, zP, zM, zTP, zD, z2, bz2, zTru, zNot, zAnd, zOr, zNil, zCons, zTup, zLst, zCl, zClX, zFld, zMkS, sAsgZ, sRetZ, sIfZ, sDropZ, sRaise, sTry, sRetR, sRetV, sRetMF, mF, mLc, iP, xR, fR, xClF, rMe0, fLRg, fSrtQ, iEnV, xEFld, fIsX, cvV, cD_none, cD_some, stD, lk_st, lk_hn, lk_sz, eqD_int, sh_int, sh60_ints, inL_ints, xSl, sSlI, zMkL, rMeL, rMeL0, zMeX0, fIsL, fIsM, fOwn, fSortK, srtKB, sExt, mPop, sUnpM, fMax2, fMin2, fSum, fLtT, fSSI, sRaise0, sTryF, sAsgX, rMeX0, sFrz, fBool, fBoolO, fInO, fOwnT, xMkL, xOwn1, zSta, rSta, rS0, rClX, fIsB, fInT, aStar, iZip, fLc2, fOwnN, fNeL, fIsA, sAppM, mSl, lk_sp, lk_co, xM1, xSlS, fIxS, fInS, xJoin, mJoin, fStr, fIntS, jD, xJs, iStrT, iEn, fMulS, mCall, sAsgLM, sUnpZ, fStrO, Bool.false_xor, Bool.true_xor,
  List.map_cons, List.map_nil, List.length_cons, List.length_nil, List.getElem?_cons_succ, List.getElem?_cons_zero, List.set_cons_succ, List.set_cons_zero, List.cons_append, List.nil_append, Option.isNone_none, Option.map_some, Option.map_none, true_and, and_true, if_true, if_false, rngD_ints, Int.add_sub_cancel, Bool.false_eq_true, List.length_map])
local macro_rules | `(tactic| walk_at "s") => `(tactic| try simp only [sSeq, sNext, sRet, sRetF, sRetO, sAsg, sAsgF, sAsgM, sAsgR, rCl, rMe, sRetM, sDrop, sDropM, sUnp, sAug, sFor, sForM, sApp, sSetI, sDPu, sDPuT, sDNew, sDNewT, sDOne, sFldI, sBreak, sCont, fLc, xDc, xF, xVar, D.fl, bVar, xC, x2, b2, fAdd, fI, fI0, fB0, fEq, fNe, fIn, fIs, fIsNot, D.isN, xNeg, bTru, bNot, bAnd, bOr, bCh, xAnd, xOr, xNot, xIfE, xFld, fIx, fSl, oNo, oSo, aNil, aCons, xTup, fLst, fCat, xCall, fCall, fLen, fAbs, fInt, fList, fTuple, fIsi, D.ty, fAny, fSrt, fMin, xIdx, fSS, fDIn, xDGet, xDGetT, keyD, keysD, gN, gsN, gsC, gTu, iL, iT, iR1, iR2, iR3, iR1M, bYes, wipeE, free, Slot.ad, Slot.dat, Slot.par, axNil, axI, axB, xCl, fCl, xMe, fMe, xMk, fGen, mP, m2, bm2, mCl, mTup, mLst, mSS, amNil, amCons, gPlain, gThen, gNil, gYield, zP, zM, zTP, zD, z2, bz2, zTru, zNot, zAnd, zOr, zNil, zCons, zTup, zLst, zCl, zClX, zFld, zMkS, sAsgZ, sRetZ, sDropZ, sRaise, sTry, sRetR, sRetV, sRetMF, mF, mLc, iP, xR, fR, xClF, rMe0, fLRg, fSrtQ, iEnV, xEFld, fIsX, cvV, cD_none, cD_some, stD, lk_st, lk_hn, lk_sz, eqD_int, sh_int, sh60_ints, inL_ints, xSl, sSlI, zMkL, rMeL, rMeL0, zMeX0, fIsL, fIsM, fOwn, fSortK, srtKB, sExt, mPop, sUnpM, fMax2, fMin2, fSum, fLtT, fSSI, sRaise0, sTryF, sAsgX, rMeX0, sFrz, fBool, fBoolO, fInO, fOwnT, xMkL, xOwn1, zSta, rSta, rS0, rClX, fIsB, fInT, aStar, iZip, fLc2, fOwnN, fNeL, fIsA, sAppM, mSl, lk_sp, lk_co, xM1, xSlS, fIxS, fInS, xJoin, mJoin, fStr, fIntS, jD, xJs, iStrT, iEn, fMulS, mCall, sAsgLM, sUnpZ, fStrO, Bool.false_xor, Bool.true_xor,
  List.map_cons, List.map_nil, List.length_cons, List.length_nil, List.getElem?_cons_succ, List.getElem?_cons_zero, List.set_cons_succ, List.set_cons_zero, List.cons_append, List.nil_append, Option.isNone_none, Option.map_some, Option.map_none, true_and, and_true, if_true, if_false, rngD_ints, Int.add_sub_cancel, Bool.false_eq_true, List.length_map])
theorem eqD_cn (x y : Cn) : eqD (cD x) (cD y) = decide (x = y) := by
  cases x with
  | none => cases y <;> rfl
  | some i =>
    cases y with
    | none => rfl
    | some j =>
      show (i == j) = decide (some i = some j)
      by_cases h : i = j
      · rw [h]; simp
      · rw [decide_eq_false (fun z => h (Option.some.inj z))]; exact beq_eq_false_iff_ne.mpr h
theorem eqD_sts : ∀ l m : List St2, eqD (.tup (l.map stD)) (.tup (m.map stD)) = decide (l = m)
  | [], [] => rfl
  | [], _ :: _ => rfl
  | _ :: _, [] => rfl
  | (a, b) :: l, (c, d) :: m => by
    show ((eqD (cD a) (cD c) && (eqD (cD b) (cD d) && true)) && eqD (.tup (l.map stD)) (.tup (m.map stD))) = _
    rw [eqD_cn, eqD_cn, eqD_sts l m]
    by_cases h1 : a = c <;> by_cases h2 : b = d <;> by_cases h3 : l = m <;> simp [h1, h2, h3]
theorem sh_sts (l : List St2) : D.sh 60 (.tup (l.map stD)) = true := by
  show (l.map stD).all (D.sh 59) = true
  rw [List.all_map, List.all_eq_true]
  intro p _
  exact stD_sh 58 p
def inS (i : Int) (p : St2) : Bool := (match p.1 with
  | none => true
  | some a => decide (a ≤ i)) && (match p.2 with
  | none => true
  | some b => decide (i ≤ b))
def plD (l : List St2) (b : Bool) : D := .tup [.lst (l.map stD), .bl b]
def absI (i : Int) : Int := if i < 0 then -i else i
/-- nearest to n -/
def nearS (n : Int) : List St2 → Cn := fun l => l.foldl (fun best p => match best with
  | none => some (clampI n p)
  | some b => if absI (clampI n p - n) < absI (b - n) then some (clampI n p) else some b) none
section
variable {P : Program} {w : World} {K : Frag} {mg : Str → Option Value} {base : Heap} {C f : Addr} {fd : FuncData}
/-- the other thing: a span, or a thing of a type -/
abbrev Oth := (List St2 × Bool) ⊕ D
def othD (C : Addr) : Oth → D
  | .inl y => spD C y.1 y.2
  | .inr d => d
def othOk : Oth → Prop
  | .inl _ => True
  | .inr d => ∃ m, d.ty = some m ∧ m ∈ ["int", "str", "tuple", "list"]
def eqO' (x : List St2 × Bool) : Oth → Bool
  | .inl y => decide (x.1 = y.1) && x.2 == y.2
  | .inr _ => false
abbrev s_Span___eq__ : Stmt := inClass (top 30) 7
abbrev N_Span___eq__ : List Str := ["self", "other"]
theorem sc_Span___eq__ : FnScope N_Span___eq__ ["self", "other"] (defScope s_Span___eq__) := ⟨rfl, rfl, rfl, by decide +kernel, rfl, by decide +kernel, by decide +kernel⟩
def S_eq (C : Addr) : SP := spc (α := (List St2 × Bool) × Oth) (fun x => [.bo (spD C x.1.1 x.1.2), .bo (othD C x.2)]) (fun x => othOk x.2) fun x r => r = .d (.bl (eqO' x.1 x.2))
theorem ok_eq (F : FD K "__eq__" "Span.__eq__" s_Span___eq__ [] f fd) (T : Tx K mg C) : FnOk P w K mg base CX0 (2 + 1) f fd ["self", "other"] (spP K (S_eq C)) := by
  refine fn_spc F sc_Span___eq__ (fun x => [some (.bo (spD C x.1.1 x.1.2)), some (.bo (othD C x.2))]) fun cdv A outer s H E hr => ?_
  refine ⟨_, (ss_one (s_ret (px_and (bx (px_isM T.sp.cl T.si rfl T.isinstance (bx_var 1) (bx (px_glob (v := .ref _) rfl T.gS rfl)))) (px_and (bx (px_eq hr (bx (px_sl T.sp.cl (bx_var 0))) (bx (px_sl T.sp.cl (bx_var 1))))) (px_one (px_eq hr (bx (px_sl T.sp.cl (bx_var 0))) (bx (px_sl T.sp.cl (bx_var 1))))))))), ?_⟩
  rintro ⟨⟨l, b⟩, o⟩ R hO hR
  have hR' := hR _ rfl
  cases o with
  | inl y =>
    obtain ⟨m, c⟩ := y
    unfold othD
    dsimp only at hR
    unfold spD spF
    walk_at "r"
    refine ⟨true, T.kS, fun _ => ⟨sh_sts _, sh_sts _, fun h => ⟨rfl, rfl, hR _ ?_⟩, fun h => hR _ ?_⟩, fun z => (by cases z)⟩
    · rw [eqD_sts] at h
      show _ = Rs.d (D.bl (decide (l = m) && b == c))
      rw [h]
      cases b <;> cases c <;> rfl
    · rw [eqD_sts] at h
      show _ = Rs.d (D.bl (decide (l = m) && b == c))
      rw [h]
      rfl
  | inr d =>
    obtain ⟨m, hm, hmm⟩ := hO
    unfold othD
    unfold spD spF
    cases d with
    | slo C' fs => cases hm
    | raw v => cases hm
    | obj C' fs => cases hm
    | err a C' d fs => cases hm
    | scr ns => cases hm
    | _ => walk_at "r"; exact ⟨m, false, hm, T.kT m hmm, fun z => (by cases z), fun _ => hR'⟩
abbrev s_Span_nearest : Stmt := inClass (top 30) 15
abbrev N_Span_nearest : List Str := ["self", "number", "best", "low", "high", "found"]
theorem sc_Span_nearest : FnScope N_Span_nearest ["self", "number"] (defScope s_Span_nearest) := ⟨rfl, rfl, rfl, by decide +kernel, rfl, by decide +kernel, by decide +kernel⟩
def S_nearest (C : Addr) : SP := spc (α := (List St2 × Bool) × Int) (fun x => [.im (spD C x.1.1 x.1.2), .im (.int x.2)]) (fun x => x.1.1.length ≤ 1000) fun x r => r = .d (cD (nearS x.2 x.1.1))
theorem ok_nearest (F : FD K "nearest" "Span.nearest" s_Span_nearest [] f fd) (T : Tx K mg C) (D_clamped : Df P w K mg base "clamped" 3 (spP K S_clamped)) : FnOk P w K mg base CX0 (3 + 1) f fd ["self", "number"] (spP K (S_nearest C)) := by
  refine fn_spc F sc_Span_nearest (fun x => [some (.im (spD C x.1.1 x.1.2)), some (.im (.int x.2)), none, none, none, none]) fun cdv A outer s H E hr => ?_
  refine ⟨_, (ss_cons (s_asg (i := 2) sc_Span_nearest.nd px_non)
      (ss_cons (s_for PassesOwn.never rfl (il_tup (px_sl T.sp.cl (bx_var 0))) (gx_tup (n := 2) rfl (gx_cons (gx_name (i := 3) sc_Span_nearest.nd) (gx_cons (gx_name (i := 4) sc_Span_nearest.nd) gx_nil))) (ss_cons (s_asg (i := 5) sc_Span_nearest.nd (px_call D_clamped (hr.mono (by decide)) (ax_i (px_var 1) (ax_i (px_var 3) (ax_i (px_var 4) ax_nil)))))
      (ss_one (s_if (tx_w (tw_or (tx_is (bx_var 2) (bx px_non)) (tw_or1 (tx_lt (bx (px_abs rfl T.abs (bx (px_sub (bx_var 5) (bx_var 1))))) (bx (px_abs rfl T.abs (bx (px_sub (bx_var 2) (bx_var 1))))))))) (ss_one (s_asg (i := 2) sc_Span_nearest.nd (px_var 5))) ss_nil))))
      (ss_one (s_ret (px_var 2))))), ?_⟩
  rintro ⟨⟨l, b⟩, n⟩ R hl hR
  dsimp only at hl hR
  unfold spD spF
  walk_at "s"
  refine forb (fun pre Γ => ∃ d3 d4 d5 : Option D, Γ = [some (.im (spD C l b)), some (.im (.int n)), some (.im (cD (nearS n pre))), d3.map Slot.im, d4.map Slot.im, d5.map Slot.im]) ⟨none, none, none, rfl⟩ ?_ ?_
  · rintro pre ⟨x, y⟩ post Γ hx ⟨d3, d4, d5, rfl⟩
    have hf : nearS n (pre ++ [(x, y)]) = (match nearS n pre with
      | none => some (clampI n (x, y))
      | some b => if absI (clampI n (x, y) - n) < absI (b - n) then some (clampI n (x, y)) else some b) := by
      unfold nearS
      rw [List.foldl_append]
      rfl
    simp only [hf]
    generalize nearS n pre = best
    walk_at "s"
    refine ⟨by cases d3 <;> rfl, by cases d4 <;> rfl, (n, x, y), rfl, trivial, ?_⟩
    rintro _ rfl
    generalize clampI n (x, y) = cl
    cases best with
    | none =>
      refine sIf_by true (fun Q hQ => ?_) (fun _ => ?_) fun z => by cases z
      · walk_at "r"
        exact ⟨fun _ => hQ, fun z => (by cases z)⟩
      · walk_at "r"
        exact ⟨some (cD x), some (cD y), some (.int cl), rfl⟩
    | some bb =>
      refine sIf_by (decide (absI (cl - n) < absI (bb - n))) (fun Q hQ => ?_) (fun h => ?_) fun h => ?_
      · walk_at "r"
        exact ⟨fun z => z.elim, fun _ => hQ⟩
      · walk_at "r"
        exact ⟨some (cD x), some (cD y), some (.int cl), by rw [if_pos (of_decide_eq_true h)]; rfl⟩
      · walk_at "r"
        exact ⟨some (cD x), some (cD y), some (.int cl), by rw [if_neg (of_decide_eq_false h)]; rfl⟩
  · rintro _ ⟨d3, d4, d5, rfl⟩
    walk_at "r"
    exact hR _ rfl
end
end Kb
set_option Elab.async false
set_option linter.all false
set_option maxRecDepth 100000
set_option maxHeartbeats 1000000
namespace Kb
set_option autoImplicit false
/-! ### normal forms (plain) -/
def memS (l : List St2) (i : Int) : Bool := l.any (inS i)
def gapS (p q : St2) : Prop := ∃ b a : Int, p.2 = some b ∧ q.1 = some a ∧ b + 1 < a
def NF (l : List St2) : Prop := (∀ p ∈ l, okS p = true) ∧ l.Pairwise gapS
def leL : Cn → Int → Bool
  | none, _ => true
  | some a, i => decide (a ≤ i)
def leH : Cn → Int → Bool
  | none, _ => true
  | some b, i => decide (i ≤ b)
theorem inS_eq (i : Int) (p : St2) : inS i p = (leL p.1 i && leH p.2 i) := by
  obtain ⟨x, y⟩ := p
  cases x <;> cases y <;> rfl
theorem memS_cons (p : St2) (l : List St2) (i : Int) : memS (p :: l) i = (inS i p || memS l i) := rfl
theorem memS_append (l m : List St2) (i : Int) : memS (l ++ m) i = (memS l i || memS m i) := by
  unfold memS; rw [List.any_append]
theorem NF.tail {p : St2} {l : List St2} (h : NF (p :: l)) : NF l := ⟨fun q hq => h.1 q (.tail _ hq), (List.pairwise_cons.mp h.2).2⟩
theorem NF.head {p : St2} {l : List St2} (h : NF (p :: l)) : okS p = true := h.1 p (.head _)
/-- a member of the tail lies behind the head's end -/
theorem NF.behind {p : St2} {l : List St2} (h : NF (p :: l)) {i : Int} (hi : memS l i = true) : ∃ b, p.2 = some b ∧ b + 1 < i := by
  obtain ⟨q, hq, hqi⟩ := List.any_eq_true.mp hi
  obtain ⟨b, a, h1, h2, h3⟩ := (List.pairwise_cons.mp h.2).1 q hq
  rw [inS_eq, h2] at hqi
  simp [leL] at hqi
  exact ⟨b, h1, by omega⟩
theorem okS_wit {p : St2} (h : okS p = true) : ∃ i, inS i p = true := by
  obtain ⟨x, y⟩ := p
  cases x with
  | none =>
    cases y with
    | none => exact ⟨0, rfl⟩
    | some b => exact ⟨b, by rw [inS_eq]; simp [leL, leH]⟩
  | some a =>
    cases y with
    | none => exact ⟨a, by rw [inS_eq]; simp [leL, leH]⟩
    | some b =>
      have h' : a ≤ b := of_decide_eq_true h
      exact ⟨a, by rw [inS_eq]; simp [leL, leH]; exact h'⟩
theorem nf_low {p q : St2} {l m : List St2} (h1 : NF (p :: l)) (h2 : NF (q :: m)) (hm : ∀ i, memS (p :: l) i = true → memS (q :: m) i = true) : ∀ a, q.1 = some a → ∃ c, p.1 = some c ∧ a ≤ c := by
  intro a ha
  have low : ∀ i, memS (q :: m) i = true → a ≤ i := fun i hi => by
    rw [memS_cons, Bool.or_eq_true] at hi
    rcases hi with hi | hi
    · rw [inS_eq, ha] at hi
      simp [leL] at hi
      exact hi.1
    · obtain ⟨b, hb, hbi⟩ := h2.behind hi
      have ok := h2.head
      obtain ⟨q1, q2⟩ := q
      dsimp only at ha hb
      subst ha hb
      have : a ≤ b := of_decide_eq_true ok
      omega
  obtain ⟨p1, p2⟩ := p
  have ok := h1.head
  cases p1 with
  | none =>
    exfalso
    cases p2 with
    | none =>
      have := low (a - 1) (hm _ (by rw [memS_cons, inS_eq]; simp [leL, leH]))
      omega
    | some b =>
      have := low (min b (a - 1)) (hm _ (by rw [memS_cons, inS_eq]; simp [leL, leH]; left; omega))
      omega
  | some c =>
    refine ⟨c, rfl, low c (hm c ?_)⟩
    rw [memS_cons, inS_eq]
    cases p2 with
    | none => simp [leL, leH]
    | some b =>
      have : c ≤ b := of_decide_eq_true ok
      simp [leL, leH]
      left; omega
theorem nf_high {p q : St2} {l m : List St2} (h1 : NF (p :: l)) (h2 : NF (q :: m)) (hs : p.1 = q.1) (hm : ∀ i, memS (q :: m) i = true → memS (p :: l) i = true) : ∀ b, p.2 = some b → ∃ d, q.2 = some d ∧ d ≤ b := by
  intro b hb
  have no : memS (p :: l) (b + 1) = false := by
    cases e : memS (p :: l) (b + 1) with
    | false => rfl
    | true =>
      rw [memS_cons, Bool.or_eq_true] at e
      rcases e with e | e
      · rw [inS_eq, hb] at e
        simp [leH] at e
        omega
      · obtain ⟨b', hb', hlt⟩ := h1.behind e
        rw [hb] at hb'
        have := Option.some.inj hb'
        omega
  have ok := h1.head
  have key : inS (b + 1) q = false := by
    cases e : inS (b + 1) q with
    | false => rfl
    | true =>
      have := hm (b + 1) (by rw [memS_cons, e]; rfl)
      rw [no] at this
      cases this
  have hl : leL q.1 (b + 1) = true := by
    rw [← hs]
    obtain ⟨p1, p2⟩ := p
    cases p1 with
    | none => rfl
    | some a =>
      dsimp only at hb
      subst hb
      have : a ≤ b := of_decide_eq_true ok
      exact decide_eq_true (by omega)
  rw [inS_eq, hl, Bool.true_and] at key
  cases e : q.2 with
  | none => rw [e] at key; cases key
  | some d =>
    rw [e] at key
    have := of_decide_eq_false key
    exact ⟨d, rfl, by omega⟩
theorem nf_unique : ∀ {l m : List St2}, NF l → NF m → (∀ i, memS l i = memS m i) → l = m
  | [], [], _, _, _ => rfl
  | [], q :: m, _, h2, hm => by
    obtain ⟨i, hi⟩ := okS_wit h2.head
    have := hm i
    rw [memS_cons, hi] at this
    cases this
  | p :: l, [], h1, _, hm => by
    obtain ⟨i, hi⟩ := okS_wit h1.head
    have := hm i
    rw [memS_cons, hi] at this
    cases this
  | p :: l, q :: m, h1, h2, hm => by
    have m1 : ∀ i, memS (p :: l) i = true → memS (q :: m) i = true := fun i h => (hm i).symm.trans h
    have m2 : ∀ i, memS (q :: m) i = true → memS (p :: l) i = true := fun i h => (hm i).trans h
    have e1 : p.1 = q.1 := by
      have a1 := nf_low h1 h2 m1
      have a2 := nf_low h2 h1 m2
      cases hp : p.1 with
      | none =>
        cases hq : q.1 with
        | none => rfl
        | some a => obtain ⟨c, hc, _⟩ := a1 a hq; rw [hp] at hc; cases hc
      | some c =>
        obtain ⟨a, ha, hca⟩ := a2 c hp
        obtain ⟨c', hc', hac⟩ := a1 a ha
        rw [hp] at hc'
        have := Option.some.inj hc'
        rw [ha]
        exact congrArg some (by omega)
    have e2 : p.2 = q.2 := by
      have a1 := nf_high h1 h2 e1 m2
      have a2 := nf_high h2 h1 e1.symm m1
      cases hp : p.2 with
      | none =>
        cases hq : q.2 with
        | none => rfl
        | some a => obtain ⟨c, hc, _⟩ := a2 a hq; rw [hp] at hc; cases hc
      | some c =>
        obtain ⟨a, ha, hca⟩ := a1 c hp
        obtain ⟨c', hc', hac⟩ := a2 a ha
        rw [hp] at hc'
        have := Option.some.inj hc'
        rw [ha]
        exact congrArg some (by omega)
    have e : p = q := Prod.ext e1 e2
    subst e
    refine congrArg (p :: ·) (nf_unique h1.tail h2.tail fun i => ?_)
    have dis : ∀ {l : List St2}, NF (p :: l) → memS l i = true → inS i p = false := fun {l} h hi => by
      obtain ⟨b, hb, hbi⟩ := h.behind hi
      rw [inS_eq, hb]
      simp [leH]
      intro; omega
    have := hm i
    rw [memS_cons, memS_cons] at this
    cases e3 : memS l i with
    | true => rw [dis h1 e3, e3] at this; simpa using this
    | false =>
      cases e4 : memS m i with
      | true => rw [dis h2 e4, e3, e4] at this; simp at this
      | false => rfl
/-! ### merging -/
theorem leR_iff (a b : Cn) : leR a b = true ↔ match a, b with
  | none, _ => True
  | some _, none => False
  | some x, some y => x ≤ y := by
  cases a <;> cases b <;> simp [leR, rkP]
theorem leR_trans (a b c : Cn) (h1 : leR a b = true) (h2 : leR b c = true) : leR a c = true := by
  rw [leR_iff] at *
  cases a <;> cases b <;> cases c <;> simp_all <;> omega
theorem leR_total (a b : Cn) : (leR a b || leR b a) = true := by
  rw [Bool.or_eq_true, leR_iff, leR_iff]
  cases a <;> cases b <;> simp <;> omega
theorem sortS_sorted (l : List St2) : (sortS l).Pairwise fun a b => leR a.1 b.1 = true :=
  List.pairwise_mergeSort (le := fun a b : St2 => leR a.1 b.1) (fun a b c => leR_trans _ _ _) (fun a b => leR_total _ _) l
theorem sortS_perm (l : List St2) : (sortS l).Perm l := List.mergeSort_perm _ _
theorem memS_perm {l m : List St2} (h : l.Perm m) (i : Int) : memS l i = memS m i := by
  unfold memS
  cases e : m.any (inS i) with
  | true =>
    obtain ⟨p, hp, hpi⟩ := List.any_eq_true.mp e
    exact List.any_eq_true.mpr ⟨p, h.mem_iff.mpr hp, hpi⟩
  | false =>
    rw [List.any_eq_false] at e ⊢
    exact fun p hp => e p (h.mem_iff.mp hp)
theorem mrg_in {q x : St2} (h1 : leR q.1 x.1 = true) (h2 : touB q.2 x.1 = true) (hq : okS q = true) (hx : okS x = true) (i : Int) : inS i (q.1, hiMax q.2 x.2) = (inS i q || inS i x) := by
  obtain ⟨q1, q2⟩ := q
  obtain ⟨x1, x2⟩ := x
  rw [leR_iff] at h1
  rw [inS_eq, inS_eq, inS_eq]
  rw [Bool.eq_iff_iff]
  cases q1 <;> cases q2 <;> cases x1 <;> cases x2 <;> simp_all [leL, leH, hiMax, okS, touB]
  all_goals (first | omega | (split <;> omega) | skip)
theorem mrg_ok {q x : St2} (h1 : leR q.1 x.1 = true) (hq : okS q = true) (hx : okS x = true) : okS (q.1, hiMax q.2 x.2) = true := by
  obtain ⟨q1, q2⟩ := q
  obtain ⟨x1, x2⟩ := x
  rw [leR_iff] at h1
  cases q1 <;> cases q2 <;> cases x1 <;> cases x2 <;> simp_all [hiMax, okS]
  all_goals (first | omega | (split <;> omega) | skip)
theorem mrg_fold : ∀ (xs acc : List St2), NF acc → (∀ x ∈ xs, okS x = true) → xs.Pairwise (fun a b => leR a.1 b.1 = true) → (∀ q, acc.getLast? = some q → ∀ x ∈ xs, leR q.1 x.1 = true) →
    NF (xs.foldl mrg acc) ∧ ∀ i, memS (xs.foldl mrg acc) i = (memS acc i || memS xs i)
  | [], acc, h, _, _, _ => ⟨h, fun i => by rw [List.foldl_nil]; exact (Bool.or_false _).symm⟩
  | x :: xs, acc, h, hok, hs, hl => by
    rw [List.foldl_cons]
    have hx := hok x (.head _)
    have hok' : ∀ x ∈ xs, okS x = true := fun y hy => hok y (.tail _ hy)
    have hs' := (List.pairwise_cons.mp hs).2
    have hxs := (List.pairwise_cons.mp hs).1
    have done : ∀ acc2 : List St2, NF acc2 → (∀ i, memS acc2 i = (memS acc i || inS i x)) → (∀ q, acc2.getLast? = some q → ∀ y ∈ xs, leR q.1 y.1 = true) →
        NF (xs.foldl mrg acc2) ∧ ∀ i, memS (xs.foldl mrg acc2) i = (memS acc i || memS (x :: xs) i) := fun acc2 g1 g2 g3 => by
      obtain ⟨r1, r2⟩ := mrg_fold xs acc2 g1 hok' hs' g3
      exact ⟨r1, fun i => by rw [r2, g2, memS_cons, Bool.or_assoc]⟩
    rcases List.eq_nil_or_concat acc with rfl | ⟨acc', q, rfl⟩
    · rw [mrg_nil]
      refine done [x] ⟨fun p hp => by rw [List.mem_singleton.mp hp]; exact hx, List.pairwise_singleton _ _⟩ (fun i => by rw [memS_cons]; simp [memS]) fun q hq y hy => ?_
      have : x = q := by simpa using hq
      rw [← this]
      exact hxs y hy
    · rw [List.concat_eq_append] at h hl done ⊢
      have hq : okS q = true := h.1 q (by simp)
      have hqx : leR q.1 x.1 = true := hl q (by simp) x (.head _)
      obtain ⟨hok1, hp⟩ := h
      rw [List.pairwise_append] at hp
      rw [mrg_snoc]
      split
      · rename_i ht
        refine done _ ⟨fun p hp2 => ?_, ?_⟩ (fun i => ?_) fun q' hq' y hy => ?_
        · rcases List.mem_append.mp hp2 with hp2 | hp2
          · exact hok1 p (List.mem_append_left _ hp2)
          · rw [List.mem_singleton.mp hp2]
            exact mrg_ok hqx hq hx
        · rw [List.pairwise_append]
          refine ⟨hp.1, List.pairwise_singleton _ _, fun a ha b hb => ?_⟩
          rw [List.mem_singleton.mp hb]
          obtain ⟨u, v, h3, h4, h5⟩ := hp.2.2 a ha q (by simp)
          exact ⟨u, v, h3, h4, h5⟩
        · rw [memS_append, memS_append, memS_cons, memS_cons, mrg_in hqx ht hq hx]
          simp [memS, Bool.or_assoc]
        · have : (q.1, hiMax q.2 x.2) = q' := by simpa using hq'
          rw [← this]
          exact hl q (by simp) y (.tail _ hy)
      · rename_i ht
        have hgap : gapS q x := by
          obtain ⟨q1, q2⟩ := q
          obtain ⟨x1, x2⟩ := x
          cases q2 with
          | none => exact absurd rfl ht
          | some e =>
            cases x1 with
            | none => exact absurd rfl ht
            | some a => exact ⟨e, a, rfl, rfl, by simp [touB] at ht; omega⟩
        refine done _ ⟨fun p hp2 => ?_, ?_⟩ (fun i => ?_) fun q' hq' y hy => ?_
        · rcases List.mem_append.mp hp2 with hp2 | hp2
          · exact hok1 p hp2
          · rw [List.mem_singleton.mp hp2]
            exact hx
        · rw [List.pairwise_append]
          refine ⟨List.pairwise_append.mpr hp, List.pairwise_singleton _ _, fun a ha b hb => ?_⟩
          rw [List.mem_singleton.mp hb]
          rcases List.mem_append.mp ha with ha | ha
          · obtain ⟨u, v, h3, h4, h5⟩ := hp.2.2 a ha q (by simp)
            obtain ⟨e, c, h6, h7, h8⟩ := hgap
            have hq' := hq
            obtain ⟨q1, q2⟩ := q
            dsimp only at h4 h6
            subst h4 h6
            have : v ≤ e := of_decide_eq_true hq'
            exact ⟨u, c, h3, h7, by omega⟩
          · rw [List.mem_singleton.mp ha]
            exact hgap
        · rw [memS_append, memS_cons]
          simp [memS]
        · have : x = q' := by simpa using hq'
          rw [← this]
          exact hxs y hy
theorem merge_nf {l : List St2} (h : ∀ p ∈ l, okS p = true) : NF (mergeS l) ∧ ∀ i, memS (mergeS l) i = memS l i := by
  obtain ⟨h1, h2⟩ := mrg_fold (sortS l) [] ⟨fun p hp => (by cases hp), List.Pairwise.nil⟩ (fun x hx => h x ((sortS_perm l).mem_iff.mp hx)) (sortS_sorted l) (fun q hq => (by cases hq))
  refine ⟨h1, fun i => ?_⟩
  unfold mergeS
  rw [h2 i, memS_perm (sortS_perm l)]
  rfl
theorem merge_eq {l m : List St2} (h1 : ∀ p ∈ l, okS p = true) (h2 : NF m) (h : ∀ i, memS l i = memS m i) : mergeS l = m :=
  nf_unique (merge_nf h1).1 h2 fun i => ((merge_nf h1).2 i).trans (h i)
theorem merge_merge {l m : List St2} (h1 : ∀ p ∈ l, okS p = true) (h2 : ∀ p ∈ m, okS p = true) (h : ∀ i, memS l i = memS m i) : mergeS l = mergeS m :=
  merge_eq h1 (merge_nf h2).1 fun i => (h i).trans ((merge_nf h2).2 i).symm
end Kb
set_option Elab.async false
set_option linter.all false
set_option maxRecDepth 100000
set_option maxHeartbeats 1000000
namespace Kb
open PySem L2
set_option autoImplicit false
local macro_rules | `(tactic| walk_at "r") => `(tactic| try simp only [sSeq, sNext, sRet, sRetF, sRetO, sAsg, sAsgF, sAsgM, sAsgR, rCl, rMe, sRetM, sIf, sIfM, sDrop, sDropM, sUnp, sAug, sFor, sForM, sApp, sSetI, sDPu, sDPuT, sDNew, sDNewT, sDOne, sFldI, sBreak, sCont, fLc, xDc, xF, xVar, D.fl, bVar, xC, x2, b2, fAdd, fI, fI0, fB0, fEq, fNe, fIn, fIs, fIsNot, D.isN, xNeg, bTru, bNot, bAnd, bOr, bCh, xAnd, xOr, xNot, xIfE, xFld, fIx, fSl, oNo, oSo, aNil, aCons, xTup, fLst, fCat, xCall, fCall, fLen, fAbs, fInt, fList, fTuple, fIsi, D.ty, fAny, fSrt, fMin, xIdx, fSS, fDIn, xDGet, xDGetT, keyD, keysD, gN, gsN, gsC, gTu, iL, iT, iR1, iR2, iR3, iR1M, bYes, wipeE, free, Slot.ad, Slot.dat, Slot.par, axNil, axI, axB, xCl, fCl, xMe, fMe, xMk, fGen, mP, m2, bm2, mCl, mTup, mLst, mSS, amNil, amCons, gPlain, gThen, gNil, gYield, zP, zM, zTP, zD, z2, bz2, zTru, zNot, zAnd, zOr, zNil, zCons, zTup, zLst, zCl, zClX, zFld, zMkS, sAsgZ, sRetZ, sIfZ, sDropZ, sRaise, sTry, sRetR, sRetV, sRetMF, mF, mLc, iP, xR, fR, xClF, rMe0, fLRg, fSrtQ, iEnV, xEFld, fIsX, cvV, cD_none, cD_some, stD, lk_st, lk_hn, lk_sz, eqD_int, sh_int, sh60_ints, inL_ints, xSl, sSlI, zMkL, rMeL, rMeL0, zMeX0, fIsL, fIsM, fOwn, fSortK, srtKB, sExt, mPop, sUnpM, fMax2, fMin2, fSum, fLtT, fSSI, sRaise0, sTryF, sAsgX, rMeX0, sFrz, fBool, fBoolO, fInO, fOwnT, xMkL, xOwn1, zSta, rSta, rS0, rClX, fIsB, fInT, aStar, iZip, fLc2, fOwnN, fNeL, fIsA, sAppM, mSl, lk_sp, lk_co, xM1, xSlS, fIxS, fInS, xJoin, mJoin, fStr, fIntS, jD, xJs, iStrT, iEn, fMulS, mCall, sAsgLM, sUnpZ, fStrO, Bool.false_xor, Bool.true_xor,
  List.map_cons, List.map_nil, List.length_cons, List.length_nil, List.getElem?_cons_succ, List.getElem?_cons_zero, List.set_cons_succ, List.set_cons_zero, List.cons_append, List.nil_append, Option.isNone_none, Option.map_some, Option.map_none, true_and, and_true, if_true, if_false, rngD_ints, Int.add_sub_cancel, Bool.false_eq_true, List.length_map])
local macro_rules | `(tactic| walk_at "s") => `(tactic| try simp only [sSeq, sNext, sRet, sRetF, sRetO, sAsg, sAsgF, sAsgM, sAsgR, rCl, rMe, sRetM, sDrop, sDropM, sUnp, sAug, sFor, sForM, sApp, sSetI, sDPu, sDPuT, sDNew, sDNewT, sDOne, sFldI, sBreak, sCont, fLc, xDc, xF, xVar, D.fl, bVar, xC, x2, b2, fAdd, fI, fI0, fB0, fEq, fNe, fIn, fIs, fIsNot, D.isN, xNeg, bTru, bNot, bAnd, bOr, bCh, xAnd, xOr, xNot, xIfE, xFld, fIx, fSl, oNo, oSo, aNil, aCons, xTup, fLst, fCat, xCall, fCall, fLen, fAbs, fInt, fList, fTuple, fIsi, D.ty, fAny, fSrt, fMin, xIdx, fSS, fDIn, xDGet, xDGetT, keyD, keysD, gN, gsN, gsC, gTu, iL, iT, iR1, iR2, iR3, iR1M, bYes, wipeE, free, Slot.ad, Slot.dat, Slot.par, axNil, axI, axB, xCl, fCl, xMe, fMe, xMk, fGen, mP, m2, bm2, mCl, mTup, mLst, mSS, amNil, amCons, gPlain, gThen, gNil, gYield, zP, zM, zTP, zD, z2, bz2, zTru, zNot, zAnd, zOr, zNil, zCons, zTup, zLst, zCl, zClX, zFld, zMkS, sAsgZ, sRetZ, sDropZ, sRaise, sTry, sRetR, sRetV, sRetMF, mF, mLc, iP, xR, fR, xClF, rMe0, fLRg, fSrtQ, iEnV, xEFld, fIsX, cvV, cD_none, cD_some, stD, lk_st, lk_hn, lk_sz, eqD_int, sh_int, sh60_ints, inL_ints, xSl, sSlI, zMkL, rMeL, rMeL0, zMeX0, fIsL, fIsM, fOwn, fSortK, srtKB, sExt, mPop, sUnpM, fMax2, fMin2, fSum, fLtT, fSSI, sRaise0, sTryF, sAsgX, rMeX0, sFrz, fBool, fBoolO, fInO, fOwnT, xMkL, xOwn1, zSta, rSta, rS0, rClX, fIsB, fInT, aStar, iZip, fLc2, fOwnN, fNeL, fIsA, sAppM, mSl, lk_sp, lk_co, xM1, xSlS, fIxS, fInS, xJoin, mJoin, fStr, fIntS, jD, xJs, iStrT, iEn, fMulS, mCall, sAsgLM, sUnpZ, fStrO, Bool.false_xor, Bool.true_xor,
  List.map_cons, List.map_nil, List.length_cons, List.length_nil, List.getElem?_cons_succ, List.getElem?_cons_zero, List.set_cons_succ, List.set_cons_zero, List.cons_append, List.nil_append, Option.isNone_none, Option.map_some, Option.map_none, true_and, and_true, if_true, if_false, rngD_ints, Int.add_sub_cancel, Bool.false_eq_true, List.length_map])
theorem sz {n : Nat} (h : n ≤ 5000) : n ≤ sizeLine := Nat.le_trans h (by decide)
theorem sz' {n : Nat} (h : n ≤ 5000) : n < sizeLine := Nat.lt_of_le_of_lt h (by decide)
theorem dat_d (d : D) : (Rs.d d).dat = d := rfl
theorem dat_fl (ds : List D) : (Rs.fl ds).dat = .lst ds := rfl
theorem at_map {α : Type} (enc : α → D) {xs : List α} {j : Nat} (h : j < xs.length) : atI (xs.map enc) (j : Int) = some (enc xs[j]) := atI_nat (by rw [List.getElem?_map, List.getElem?_eq_getElem h]; rfl)
section
variable {P : Program} {w : World} {K : Frag} {mg : Str → Option Value} {base : Heap} {C f : Addr} {fd : FuncData}
abbrev s__law_has : Stmt := top 36
abbrev N__law_has : List Str := ["_law_span", "_law_content", "_law_low", "_law_high"]
theorem sc__law_has : FnScope N__law_has ["_law_span", "_law_content"] (defScope s__law_has) := ⟨rfl, rfl, rfl, by decide +kernel, rfl, by decide +kernel, by decide +kernel⟩
def S_has : SP := spc (α := (List St2 × Bool) × Int) (fun x => [.im (plD x.1.1 x.1.2), .im (.int x.2)]) (fun x => x.1.1.length ≤ 1000) fun x r => r = .d (.bl (x.1.1.any (inS x.2)))
theorem ok_has (F : FD K "_law_has" "_law_has" s__law_has [] f fd) (T : Tx K mg C) : FnOk P w K mg base CX0 (2 + 1) f fd ["_law_span", "_law_content"] (spP K S_has) := by
  refine fn_spc F sc__law_has (fun x => [some (.im (plD x.1.1 x.1.2)), some (.im (.int x.2)), none, none]) fun cdv A outer s H E hr => ?_
  refine ⟨_, (ss_cons (s_if (tx_is (bx_var 1) (bx px_non)) (ss_one (s_ret (px_ix (bx_var 0) (bx px_int)))) ss_nil)
      (ss_cons (s_for PassesOwn.never rfl (il_list (px_ix (bx_var 0) (bx px_int))) (gx_tup (n := 2) rfl (gx_cons (gx_name (i := 2) sc__law_has.nd) (gx_cons (gx_name (i := 3) sc__law_has.nd) gx_nil))) (ss_one (s_if (tx_w (tw_and (tx_w (tw_or (tx_is (bx_var 2) (bx px_non)) (tw_or1 (tx_le (bx_var 2) (bx_var 1))))) (tw_and1 (tx_w (tw_or (tx_is (bx_var 3) (bx px_non)) (tw_or1 (tx_le (bx_var 1) (bx_var 3)))))))) (ss_one (s_ret px_bl)) ss_nil)))
      (ss_one (s_ret px_bl)))), ?_⟩
  rintro ⟨⟨l, b⟩, i⟩ R hl hR
  dsimp only at hl hR
  unfold plD
  walk_at "s"
  refine sIf_by false (fun Q hQ => ?_) (fun z => by cases z) fun _ => ?_
  · walk_at "r"
    exact hQ
  walk_at "s"
  refine forb (fun pre Γ => ∃ d2 d3 : Option D, Γ = [some (.im (plD l b)), some (.im (.int i)), d2.map Slot.im, d3.map Slot.im] ∧ pre.any (inS i) = false) ⟨none, none, rfl, rfl⟩ ?_ ?_
  · rintro pre ⟨x, y⟩ post Γ hx ⟨d2, d3, rfl, hpre⟩
    walk_at "s"
    refine ⟨by cases d2 <;> rfl, by cases d3 <;> rfl, ?_⟩
    refine sIf_by (inS i (x, y)) (fun Q hQ => ?_) (fun h => ?_) fun h => ?_
    · unfold inS at hQ
      revert hQ
      cases x <;> cases y <;> walk_at "r" <;> intro hQ <;> simp_all
      all_goals (constructor <;> intro z <;> first | (rw [decide_eq_false (by omega)] at hQ; exact hQ) | (rw [decide_eq_true (by omega)] at hQ; exact hQ) | (simp_all; done) | (intros; simp_all; done) | skip)
    · walk_at "r"
      refine hR _ ?_
      rw [hx, List.any_append, List.any_cons, h]
      simp
    · walk_at "r"
      refine ⟨some (cD x), some (cD y), rfl, ?_⟩
      rw [List.any_append, hpre, List.any_cons, h]
      rfl
  · rintro _ ⟨d2, d3, rfl, h⟩
    walk_at "r"
    exact hR _ (by rw [h])
end
end Kb
set_option Elab.async false
set_option linter.all false
set_option maxRecDepth 100000
set_option maxHeartbeats 1000000
namespace Kb
open PySem L2
set_option autoImplicit false
local macro_rules | `(tactic| walk_at "r") => `(tactic| try simp only [sSeq, sNext, sRet, sRetF, sRetO, sAsg, sAsgF, sAsgM, sAsgR, rCl, rMe, sRetM, sIf, sIfM, sDrop, sDropM, sUnp, sAug, sFor, sForM, sApp, sSetI, sDPu, sDPuT, sDNew, sDNewT, sDOne, sFldI, sBreak, sCont, fLc, xDc, xF, xVar, D.fl, bVar, xC, x2, b2, fAdd, fI, fI0, fB0, fEq, fNe, fIn, fIs, fIsNot, D.isN, xNeg, bTru, bNot, bAnd, bOr, bCh, xAnd, xOr, xNot, xIfE, xFld, fIx, fSl, oNo, oSo, aNil, aCons, xTup, fLst, fCat, xCall, fCall, fLen, fAbs, fInt, fList, fTuple, fIsi, D.ty, fAny, fSrt, fMin, xIdx, fSS, fDIn, xDGet, xDGetT, keyD, keysD, gN, gsN, gsC, gTu, iL, iT, iR1, iR2, iR3, iR1M, bYes, wipeE, free, Slot.ad, Slot.dat, Slot.par, axNil, axI, axB, xCl, fCl, xMe, fMe, xMk, fGen, mP, m2, bm2, mCl, mTup, mLst, mSS, amNil, amCons, gPlain, gThen, gNil, gYield, zP, zM, zTP, zD, z2, bz2, zTru, zNot, zAnd, zOr, zNil, zCons, zTup, zLst, zCl, zClX, zFld, zMkS, sAsgZ, sRetZ, sIfZ, sDropZ, sRaise, sTry, sRetR, sRetV, sRetMF, mF, mLc, iP, xR, fR, xClF, rMe0, fLRg, fSrtQ, iEnV, xEFld, fIsX, cvV, cD_none, cD_some, stD, lk_st, lk_hn, lk_sz, eqD_int, sh_int, sh60_ints, inL_ints, xSl, sSlI, zMkL, rMeL, rMeL0, zMeX0, fIsL, fIsM, fOwn, fSortK, srtKB, sExt, mPop, sUnpM, fMax2, fMin2, fSum, fLtT, fSSI, sRaise0, sTryF, sAsgX, rMeX0, sFrz, fBool, fBoolO, fInO, fOwnT, xMkL, xOwn1, zSta, rSta, rS0, rClX, fIsB, fInT, aStar, iZip, fLc2, fOwnN, fNeL, fIsA, sAppM, mSl, lk_sp, lk_co, xM1, xSlS, fIxS, fInS, xJoin, mJoin, fStr, fIntS, jD, xJs, iStrT, iEn, fMulS, mCall, sAsgLM, sUnpZ, fStrO, Bool.false_xor, Bool.true_xor,
  List.map_cons, List.map_nil, List.length_cons, List.length_nil, List.getElem?_cons_succ, List.getElem?_cons_zero, List.set_cons_succ, List.set_cons_zero, List.cons_append, List.nil_append, Option.isNone_none, Option.map_some, Option.map_none, true_and, and_true, if_true, if_false, rngD_ints, Int.add_sub_cancel, Bool.false_eq_true, List.length_map])
local macro_rules | `(tactic| walk_at "s") => `(tactic| try simp only [sSeq, sNext, sRet, sRetF, sRetO, sAsg, sAsgF, sAsgM, sAsgR, rCl, rMe, sRetM, sDrop, sDropM, sUnp, sAug, sFor, sForM, sApp, sSetI, sDPu, sDPuT, sDNew, sDNewT, sDOne, sFldI, sBreak, sCont, fLc, xDc, xF, xVar, D.fl, bVar, xC, x2, b2, fAdd, fI, fI0, fB0, fEq, fNe, fIn, fIs, fIsNot, D.isN, xNeg, bTru, bNot, bAnd, bOr, bCh, xAnd, xOr, xNot, xIfE, xFld, fIx, fSl, oNo, oSo, aNil, aCons, xTup, fLst, fCat, xCall, fCall, fLen, fAbs, fInt, fList, fTuple, fIsi, D.ty, fAny, fSrt, fMin, xIdx, fSS, fDIn, xDGet, xDGetT, keyD, keysD, gN, gsN, gsC, gTu, iL, iT, iR1, iR2, iR3, iR1M, bYes, wipeE, free, Slot.ad, Slot.dat, Slot.par, axNil, axI, axB, xCl, fCl, xMe, fMe, xMk, fGen, mP, m2, bm2, mCl, mTup, mLst, mSS, amNil, amCons, gPlain, gThen, gNil, gYield, zP, zM, zTP, zD, z2, bz2, zTru, zNot, zAnd, zOr, zNil, zCons, zTup, zLst, zCl, zClX, zFld, zMkS, sAsgZ, sRetZ, sDropZ, sRaise, sTry, sRetR, sRetV, sRetMF, mF, mLc, iP, xR, fR, xClF, rMe0, fLRg, fSrtQ, iEnV, xEFld, fIsX, cvV, cD_none, cD_some, stD, lk_st, lk_hn, lk_sz, eqD_int, sh_int, sh60_ints, inL_ints, xSl, sSlI, zMkL, rMeL, rMeL0, zMeX0, fIsL, fIsM, fOwn, fSortK, srtKB, sExt, mPop, sUnpM, fMax2, fMin2, fSum, fLtT, fSSI, sRaise0, sTryF, sAsgX, rMeX0, sFrz, fBool, fBoolO, fInO, fOwnT, xMkL, xOwn1, zSta, rSta, rS0, rClX, fIsB, fInT, aStar, iZip, fLc2, fOwnN, fNeL, fIsA, sAppM, mSl, lk_sp, lk_co, xM1, xSlS, fIxS, fInS, xJoin, mJoin, fStr, fIntS, jD, xJs, iStrT, iEn, fMulS, mCall, sAsgLM, sUnpZ, fStrO, Bool.false_xor, Bool.true_xor,
  List.map_cons, List.map_nil, List.length_cons, List.length_nil, List.getElem?_cons_succ, List.getElem?_cons_zero, List.set_cons_succ, List.set_cons_zero, List.cons_append, List.nil_append, Option.isNone_none, Option.map_some, Option.map_none, true_and, and_true, if_true, if_false, rngD_ints, Int.add_sub_cancel, Bool.false_eq_true, List.length_map])
section
variable {P : Program} {w : World} {K : Frag} {mg : Str → Option Value} {base : Heap} {C f : Addr} {fd : FuncData}
abbrev s__law_pot : Stmt := top 32
abbrev N__law_pot : List Str := ["_law_script", "_law_k", "_law_number_here"]
theorem sc__law_pot : FnScope N__law_pot ["_law_script", "_law_k"] (defScope s__law_pot) := ⟨rfl, rfl, rfl, by decide +kernel, rfl, by decide +kernel, by decide +kernel⟩
def PotOk (z : List D) : Prop := ∃ a b : Int, z = [.int a, .int b] ∧ 0 ≤ a ∧ a < 2147483647 ∧ 0 ≤ b
def S_pot : SP := spc (α := List Int × Int) (fun x => [.im (.scr x.1), .im (.int x.2)]) (fun x => 0 ≤ x.2) fun x r => ∃ z, PotOk z ∧ r = .fl z
theorem ok_pot (F : FD K "_law_pot" "_law_pot" s__law_pot [] f fd) (T : Tx K mg C) : FnOk P w K mg base CX0 (2 + 1) f fd ["_law_script", "_law_k"] (spP K S_pot) := by
  refine fn_spc F sc__law_pot (fun x => [some (.im (.scr x.1)), some (.im (.int x.2)), none]) fun cdv A outer s H E hr => ?_
  refine ⟨_, (ss_cons (s_asg (i := 2) sc__law_pot.nd px_int)
      (ss_cons (s_if (tx_lt (bx_var 1) (bx (px_len rfl T.len (bx_var 0)))) (ss_one (s_asg (i := 2) sc__law_pot.nd (px_abs rfl T.abs (bx (px_ix (bx_var 0) (bx_var 1)))))) ss_nil)
      (ss_cons (s_if (tx_lt (bx_var 2) (bx (px_pow (bx px_int) (bx px_int)))) (ss_one (s_retF (fx_lst (as_cons (px_mod (bx (px_toint rfl T.int (bx_var 2))) (bx px_int)) (as_cons px_int as_nil))))) ss_nil)
      (ss_one (s_retF (fx_lst (as_cons px_int (as_cons (px_sub (bx_var 2) (bx (px_pow (bx px_int) (bx px_int)))) as_nil)))))))), ?_⟩
  rintro ⟨ns, k⟩ R hk hR
  dsimp only at hk hR
  walk_at "r"
  have hpow : CPow 10 18 := ⟨by decide, by decide, by decide⟩
  refine ⟨fun h => ?_, fun h => ⟨hpow, fun _ => ⟨by decide, by decide, hR _ ⟨_, ⟨_, _, rfl, by decide, by decide, by decide⟩, rfl⟩⟩, fun z => absurd z (by decide)⟩⟩
  have hlt : k < (ns.length : Int) := of_decide_eq_true h
  obtain ⟨j, rfl⟩ : ∃ j : Nat, k = (j : Int) := ⟨k.toNat, by omega⟩
  have hj : j < ns.length := by omega
  have e : atI ns (j : Int) = some ns[j] := atI_nat (List.getElem?_eq_getElem hj)
  rw [e]
  refine ⟨hpow, fun q => ⟨by decide, by decide, hR _ ⟨_, ⟨_, _, rfl, ?_, ?_, by decide⟩, rfl⟩⟩, fun q => ⟨hpow, by decide, hR _ ⟨_, ⟨_, _, rfl, by decide, by decide, ?_⟩, rfl⟩⟩⟩
  · exact Int.emod_nonneg _ (by decide)
  · exact Int.emod_lt_of_pos _ (by decide)
  · have q' := of_decide_eq_false q
    omega
abbrev s__law_draw : Stmt := top 33
abbrev N__law_draw : List Str := ["_law_pot_here", "_law_many", "_law_found"]
theorem sc__law_draw : FnScope N__law_draw ["_law_pot_here", "_law_many"] (defScope s__law_draw) := ⟨rfl, rfl, rfl, by decide +kernel, rfl, by decide +kernel, by decide +kernel⟩
def S_draw : SM := spcM (α := List D × Int) (fun x => x.1) (fun x => [.int x.2]) (fun x => PotOk x.1 ∧ 1 ≤ x.2 ∧ x.2 ≤ 1000) fun x r z => PotOk z ∧ ∃ v : Int, 0 ≤ v ∧ v < x.2 ∧ r = .d (.int v)
theorem ok_draw (F : FD K "_law_draw" "_law_draw" s__law_draw [] f fd) (T : Tx K mg C) : FnOk P w K mg base CX0 (2 + 1) f fd ["_law_pot_here", "_law_many"] (spM K S_draw) := by
  refine fn_pot F sc__law_draw (fun l x => [some (.pl l x.1), some (.im (.int x.2)), none]) fun cdv A outer s H E hr => ?_
  refine ⟨_, (ss_cons (s_if (tx_eq hr (bx (px_ix (bx_var 0) (bx px_int))) (bx px_int)) (ss_cons (s_asg (i := 2) sc__law_draw.nd (px_mod (bx (px_mod (bx (px_toint rfl T.int (bx (px_ix (bx_var 0) (bx px_int))))) (bx px_int))) (bx_var 1)))
      (ss_cons (s_setI 0 (px_fdiv (bx (px_toint rfl T.int (bx (px_ix (bx_var 0) (bx px_int))))) (bx px_int)) (bx px_int))
      (ss_one (s_ret (px_var 2))))) ss_nil)
      (ss_cons (s_setI 0 (px_mod (bx (px_toint rfl T.int (bx (px_mul (bx (px_ix (bx_var 0) (bx px_int))) (bx px_int))))) (bx px_int)) (bx px_int))
      (ss_one (s_ret (px_mod (bx (px_mod (bx (px_toint rfl T.int (bx (px_mul (bx (px_ix (bx_var 0) (bx px_int))) (bx (px_ix (bx_var 0) (bx px_int))))))) (bx px_int))) (bx_var 1)))))), ?_⟩
  rintro l ⟨z, m⟩ R ⟨⟨a, b, rfl, ha, ha2, hb⟩, hm1, hm2⟩ hR
  dsimp only at hm1 hm2 hR
  walk_at "r"
  have e0 : ∀ a b : Int, atI [D.int a, D.int b] 0 = some (.int a) := fun a b => rfl
  have e1 : ∀ a b : Int, atI [D.int a, D.int b] 1 = some (.int b) := fun a b => rfl
  simp only [e0, e1, sh_int, eqD_int]
  refine ⟨trivial, fun h => ⟨by decide, by omega, ⟨by decide, by decide⟩, 1, rfl, _, rfl, hR _ _ ⟨⟨a, b / 1000, rfl, ha, ha2, by omega⟩, _, Int.emod_nonneg _ (by omega), Int.emod_lt_of_pos _ (by omega), rfl⟩⟩, fun h => ?_⟩
  refine ⟨.inl ⟨by omega, by omega⟩, by decide, 0, rfl, ?_⟩
  have b1 : 0 ≤ a * 48271 % 2147483647 := Int.emod_nonneg _ (by decide)
  have b2 : a * 48271 % 2147483647 < 2147483647 := Int.emod_lt_of_pos _ (by decide)
  generalize a * 48271 % 2147483647 = c at b1 b2
  show CMul c c ∧ _
  exact ⟨.inl ⟨by omega, by omega⟩, by decide, by omega, _, rfl, hR _ _ ⟨⟨c, b, rfl, b1, b2, hb⟩, _, Int.emod_nonneg _ (by omega), Int.emod_lt_of_pos _ (by omega), rfl⟩⟩
theorem drawS {z : List D} {m : Int} {R : Rs → List D → Prop} (hz : PotOk z) (h1 : 1 ≤ m) (h2 : m ≤ 1000) (h : ∀ v z', PotOk z' → 0 ≤ v → v < m → R (.d (.int v)) z') : S_draw.S z [.int m] R :=
  ⟨(z, m), rfl, rfl, ⟨hz, h1, h2⟩, by rintro r z ⟨hz, v, a, b, rfl⟩; exact h v z hz a b⟩
abbrev s__law_number : Stmt := top 34
abbrev N__law_number : List Str := ["_law_pot_here", "_law_kind", "_law_found"]
theorem sc__law_number : FnScope N__law_number ["_law_pot_here"] (defScope s__law_number) := ⟨rfl, rfl, rfl, by decide +kernel, rfl, by decide +kernel, by decide +kernel⟩
def S_number : SM := spcM (α := List D) (fun x => x) (fun _ => []) (fun x => PotOk x) fun x r z => PotOk z ∧ ∃ v : Int, -10 ^ 11 ≤ v ∧ v ≤ 10 ^ 11 ∧ r = .d (.int v)
theorem ok_number (F : FD K "_law_number" "_law_number" s__law_number [] f fd) (T : Tx K mg C) (D__law_draw : DfM P w K mg base "_law_draw" 3 S_draw) : FnOk P w K mg base CX0 (3 + 1) f fd ["_law_pot_here"] (spM K S_number) := by
  refine fn_pot F sc__law_number (fun l x => [some (.pl l x), none, none]) fun cdv A outer s H E hr => ?_
  refine ⟨_, (ss_cons (s_asgM (i := 1) sc__law_number.nd (mx_call (i := 0) D__law_draw (hr.mono (by decide)) (am_cons (mx px_int) am_nil)))
      (ss_cons (s_asgM (i := 2) sc__law_number.nd (mx_call (i := 0) D__law_draw (hr.mono (by decide)) (am_cons (mx (px_ix (bx (px_f (fx_lst (as_cons px_int (as_cons px_int (as_cons px_int (as_cons px_int (as_cons px_int (as_cons px_int (as_cons px_int (as_cons px_int as_nil))))))))))) (bx_var 1))) am_nil)))
      (ss_cut (s_if (tx_eq hr (bx_var 1) (bx px_int)) (ss_one (s_asgM (i := 2) sc__law_number.nd (mx_bin op_addD does_add (mx_bin op_addD does_add (mx_bin op_addD does_add (mx (px_mul (bx_var 2) (bx (px_pow (bx px_int) (bx px_int))))) (mx_bin op_mul does_I (mx_call (i := 0) D__law_draw (hr.mono (by decide)) (am_cons (mx px_int) am_nil)) (mx (px_pow (bx px_int) (bx px_int))))) (mx_bin op_mul does_I (mx_call (i := 0) D__law_draw (hr.mono (by decide)) (am_cons (mx px_int) am_nil)) (mx px_int))) (mx_call (i := 0) D__law_draw (hr.mono (by decide)) (am_cons (mx px_int) am_nil))))) ss_nil)
      (ss_cons (s_ifM (tm_cmp (op_eqD hr.units) does_eq (mx_call (i := 0) D__law_draw (hr.mono (by decide)) (am_cons (mx px_int) am_nil)) (mx px_int)) (ss_one (s_ret (px_neg (bx_var 2)))) ss_nil)
      (ss_one (s_ret (px_var 2))))))), ?_⟩
  rintro l z R hz hR
  walk_at "s"
  refine ⟨⟨l, z, .inl rfl⟩, drawS hz (by decide) (by decide) fun kd z hz hk0 hk => ?_⟩
  have hat : ∃ m : Int, atI [D.int 10, D.int 10, D.int 10, D.int 10, D.int 10, D.int 41, D.int 1000, D.int 1000] kd = some (.int m) ∧ 1 ≤ m ∧ m ≤ 1000 := by
    have : kd = 0 ∨ kd = 1 ∨ kd = 2 ∨ kd = 3 ∨ kd = 4 ∨ kd = 5 ∨ kd = 6 ∨ kd = 7 := by omega
    rcases this with rfl | rfl | rfl | rfl | rfl | rfl | rfl | rfl <;> exact ⟨_, rfl, by decide, by decide⟩
  obtain ⟨m, hm, hm1, hm2⟩ := hat
  refine ⟨⟨l, z, .inl rfl⟩, by decide, ?_⟩
  simp only [Rs.dat]
  rw [hm]
  refine drawS hz hm1 hm2 fun v z hz hv0 hv => ?_
  refine sCut_by (fun Γ => ∃ (z : List D) (v : Int), Γ = [some (.pl l z), some (.im (.int kd)), some (.im (.int v))] ∧ PotOk z ∧ 0 ≤ v ∧ v ≤ 10 ^ 11) ?_ ?_
  · refine sIf_by (kd == 7) (fun Q hQ => ?_) (fun _ => ?_) fun _ => ?_
    · walk_at "r"
      exact hQ
    · walk_at "r"
      have e8 : (10 : Int) ^ Int.toNat 8 = 100000000 := by decide
      have e5 : (10 : Int) ^ Int.toNat 5 = 100000 := by decide
      rw [e8, e5]
      refine ⟨⟨by decide, by decide, by decide⟩, .inl ⟨by omega, by omega⟩, ⟨l, z, .inl rfl⟩, drawS hz (by decide) (by decide) fun a z hz ha0 ha => ?_⟩
      refine ⟨⟨by decide, by decide, by decide⟩, .inl ⟨by omega, by omega⟩, ⟨l, z, .inl rfl⟩, drawS hz (by decide) (by decide) fun b z hz hb0 hb => ?_⟩
      refine ⟨.inl ⟨by omega, by omega⟩, ⟨l, z, .inl rfl⟩, drawS hz (by decide) (by decide) fun c z hz hc0 hc => ?_⟩
      exact ⟨z, _, rfl, hz, by omega, by omega⟩
    · exact ⟨z, v, rfl, hz, hv0, by omega⟩
  · rintro _ ⟨z, v, rfl, hz, hv0, hv⟩
    walk_at "r"
    refine ⟨⟨l, z, .inl rfl⟩, drawS hz (by decide) (by decide) fun a z hz ha0 ha => ?_⟩
    exact ⟨sh_int _ _, fun _ => ⟨z, rfl, hR _ _ ⟨hz, -v, by omega, by omega, rfl⟩⟩, fun _ => ⟨z, rfl, hR _ _ ⟨hz, v, by omega, by omega, rfl⟩⟩⟩
theorem numberS {z : List D} {R : Rs → List D → Prop} (hz : PotOk z) (h : ∀ v z', PotOk z' → -10 ^ 11 ≤ v → v ≤ 10 ^ 11 → R (.d (.int v)) z') : S_number.S z [] R :=
  ⟨z, rfl, rfl, hz, by rintro r z ⟨hz, v, a, b, rfl⟩; exact h v z hz a b⟩
theorem five_at {a b c d e k : Int} (h0 : 0 ≤ k) (h : k < 5) (hs : ∀ m ∈ [a, b, c, d, e], 1 ≤ m ∧ m ≤ 1000) : ∃ m : Int, atI [D.int a, D.int b, D.int c, D.int d, D.int e] k = some (.int m) ∧ 1 ≤ m ∧ m ≤ 1000 ∧ m ∈ [a, b, c, d, e] := by
  have : k = 0 ∨ k = 1 ∨ k = 2 ∨ k = 3 ∨ k = 4 := by omega
  rcases this with rfl | rfl | rfl | rfl | rfl
  · exact ⟨a, rfl, (hs a (by simp)).1, (hs a (by simp)).2, by simp⟩
  · exact ⟨b, rfl, (hs b (by simp)).1, (hs b (by simp)).2, by simp⟩
  · exact ⟨c, rfl, (hs c (by simp)).1, (hs c (by simp)).2, by simp⟩
  · exact ⟨d, rfl, (hs d (by simp)).1, (hs d (by simp)).2, by simp⟩
  · exact ⟨e, rfl, (hs e (by simp)).1, (hs e (by simp)).2, by simp⟩
def bdS (m : Int) (p : St2) : Prop := ∀ i, (p.1 = some i ∨ p.2 = some i) → -m ≤ i ∧ i ≤ m
def PrOk (l : List St2) : Prop := l.length ≤ 12 ∧ (∀ p ∈ l, okS p = true) ∧ ∀ p ∈ l, bdS (10 ^ 14) p
abbrev s__law_drawn_pairs : Stmt := top 35
abbrev N__law_drawn_pairs : List Str := ["_law_pot_here", "_law_found", "_law_k", "_law_kind", "_law_low", "_law_far", "_law_other"]
theorem sc__law_drawn_pairs : FnScope N__law_drawn_pairs ["_law_pot_here"] (defScope s__law_drawn_pairs) := ⟨rfl, rfl, rfl, by decide +kernel, rfl, by decide +kernel, by decide +kernel⟩
def S_pairs : SM := spcM (α := List D) (fun x => x) (fun _ => []) (fun x => PotOk x) fun x r z => PotOk z ∧ ∃ l : List St2, PrOk l ∧ r = .fl (l.map stD)
theorem ok_pairs (F : FD K "_law_drawn_pairs" "_law_drawn_pairs" s__law_drawn_pairs [] f fd) (T : Tx K mg C) (D__law_draw : DfM P w K mg base "_law_draw" 3 S_draw) (D__law_number : DfM P w K mg base "_law_number" 4 S_number) : FnOk P w K mg base CX0 (4 + 1) f fd ["_law_pot_here"] (spM K S_pairs) := by
  refine fn_pot F sc__law_drawn_pairs (fun l x => [some (.pl l x), none, none, none, none, none, none]) fun cdv A outer s H E hr => ?_
  refine ⟨_, (ss_cons (s_asgF (i := 1) sc__law_drawn_pairs.nd (fx_lst as_nil))
      (ss_cons (s_forM PassesOwn.never rfl (ilm_r1 rfl T.range (am_cons (mx_call (i := 0) D__law_draw (hr.mono (by decide)) (am_cons (mx_ix (mx (px_f (fx_lst (as_cons px_int (as_cons px_int (as_cons px_int (as_cons px_int (as_cons px_int as_nil)))))))) (mx_call (i := 0) D__law_draw (hr.mono (by decide)) (am_cons (mx px_int) am_nil))) am_nil)) am_nil)) (gx_name (i := 2) sc__law_drawn_pairs.nd) (ss_cons (s_asgM (i := 3) sc__law_drawn_pairs.nd (mx_call (i := 0) D__law_draw (hr.mono (by decide)) (am_cons (mx px_int) am_nil)))
      (ss_cons (s_asgM (i := 4) sc__law_drawn_pairs.nd (mx_call (i := 0) D__law_number (hr.mono (by decide)) am_nil))
      (ss_cons (s_asgM (i := 5) sc__law_drawn_pairs.nd (mx_call (i := 0) D__law_draw (hr.mono (by decide)) (am_cons (mx_ix (mx (px_f (fx_lst (as_cons px_int (as_cons px_int (as_cons px_int (as_cons px_int (as_cons px_int as_nil)))))))) (mx_call (i := 0) D__law_draw (hr.mono (by decide)) (am_cons (mx px_int) am_nil))) am_nil)))
      (ss_one (s_if (tx_lt (bx_var 3) (bx px_int)) (ss_one (s_app 1 (px_tup (as_cons (px_var 4) (as_cons (px_var 4) as_nil))))) (ss_one (s_if (tx_lt (bx_var 3) (bx px_int)) (ss_one (s_app 1 (px_tup (as_cons (px_var 4) (as_cons (px_add (bx_var 4) (bx_var 5)) as_nil))))) (ss_one (s_if (tx_lt (bx_var 3) (bx px_int)) (ss_cons (s_asgM (i := 6) sc__law_drawn_pairs.nd (mx_call (i := 0) D__law_number (hr.mono (by decide)) am_nil))
      (ss_one (s_app 1 (px_tup (as_cons (px_min2 rfl rfl T.min (bx_var 4) (bx_var 6)) (as_cons (px_max2 rfl rfl T.max (bx_var 4) (bx_var 6)) as_nil)))))) (ss_one (s_if (tx_eq hr (bx_var 3) (bx px_int)) (ss_one (s_app 1 (px_tup (as_cons (px_var 4) (as_cons px_non as_nil))))) (ss_one (s_if (tx_eq hr (bx_var 3) (bx px_int)) (ss_one (s_app 1 (px_tup (as_cons px_non (as_cons (px_var 4) as_nil))))) (ss_one (s_if (tx_eq hr (bx_var 3) (bx px_int)) (ss_one (s_app 1 (px_tup (as_cons (px_mul (bx_var 4) (bx px_int)) (as_cons (px_pow (bx px_int) (bx px_int)) as_nil))))) (ss_one (s_app 1 (px_tup (as_cons px_non (as_cons px_non as_nil)))))))))))))))))))))
      (ss_one (s_retO 1)))), ?_⟩
  rintro l z R hz hR
  walk_at "s"
  refine ⟨by decide, fun l1 _ => ?_⟩
  refine ⟨⟨l, z, .inl rfl⟩, by decide, ⟨l, z, .inl rfl⟩, drawS hz (by decide) (by decide) fun k z hz hk0 hk => ?_⟩
  simp only [Rs.dat]
  obtain ⟨m, hm, hm1, hm2, hmm⟩ := five_at hk0 hk (a := 4) (b := 4) (c := 4) (d := 7) (e := 13) (by decide)
  rw [hm]
  refine drawS hz hm1 hm2 fun n z hz hn0 hn => ?_
  have hm13 : m ≤ 13 := by
    simp only [List.mem_cons, List.not_mem_nil, or_false] at hmm
    omega
  simp only [Rs.dat]
  refine ⟨by omega, by omega, ?_⟩
  refine forb (fun pre Γ => ∃ (z : List D) (ps : List St2) (d2 d3 d4 d5 d6 : Option D), Γ = [some (.pl l z), some (.ml l1 (ps.map stD)), d2.map Slot.im, d3.map Slot.im, d4.map Slot.im, d5.map Slot.im, d6.map Slot.im] ∧ PotOk z ∧ ps.length = pre.length ∧ (∀ p ∈ ps, okS p = true) ∧ ∀ p ∈ ps, bdS (10 ^ 14) p) ⟨z, [], none, none, none, none, none, rfl, hz, rfl, fun p hp => (by cases hp), fun p hp => (by cases hp)⟩ ?_ ?_
  · rintro pre i post Γ hx ⟨z, ps, d2, d3, d4, d5, d6, rfl, hz, hlen, hok, hbd⟩
    have hpl : pre.length < 13 := by
      have h1 := congrArg List.length hx
      rw [rngI_len, List.length_append, List.length_cons] at h1
      omega
    walk_at "s"
    refine ⟨by cases d2 <;> rfl, ⟨l, z, .inl rfl⟩, drawS hz (by decide) (by decide) fun kd z hz hkd0 hkd => ?_⟩
    simp only [Rs.dat]
    refine ⟨⟨l, z, .inl rfl⟩, numberS hz fun lo z hz hlo0 hlo => ?_⟩
    refine ⟨⟨l, z, .inl rfl⟩, by decide, ⟨l, z, .inl rfl⟩, drawS hz (by decide) (by decide) fun q z hz hq0 hq => ?_⟩
    simp only [Rs.dat]
    obtain ⟨m2, hm, hm21, hm22, _⟩ := five_at hq0 hq (a := 4) (b := 4) (c := 4) (d := 10) (e := 1000) (by decide)
    rw [hm]
    refine drawS hz hm21 hm22 fun far z hz hf0 hf => ?_
    simp only [Rs.dat]
    have fin : ∀ (z : List D) (p : St2) (d6 : Option D), PotOk z → okS p = true → bdS (10 ^ 14) p → ∃ (z' : List D) (ps' : List St2) (e2 e3 e4 e5 e6 : Option D), [some (Slot.pl l z), some (Slot.ml l1 (ps.map stD ++ [stD p])), some (Slot.im (.int i)), some (Slot.im (.int kd)), some (Slot.im (.int lo)), some (Slot.im (.int far)), d6.map Slot.im] =
        [some (Slot.pl l z'), some (Slot.ml l1 (ps'.map stD)), e2.map Slot.im, e3.map Slot.im, e4.map Slot.im, e5.map Slot.im, e6.map Slot.im] ∧ PotOk z' ∧ ps'.length = (pre ++ [i]).length ∧ (∀ p ∈ ps', okS p = true) ∧ ∀ p ∈ ps', bdS (10 ^ 14) p := fun z p d6 hz h1 h2 => by
      refine ⟨z, ps ++ [p], some (.int i), some (.int kd), some (.int lo), some (.int far), d6, by rw [List.map_append]; rfl, hz, by rw [List.length_append, List.length_append, hlen]; rfl, fun r hr => ?_, fun r hr => ?_⟩
      · rcases List.mem_append.mp hr with hr | hr
        · exact hok r hr
        · rw [List.mem_singleton.mp hr]; exact h1
      · rcases List.mem_append.mp hr with hr | hr
        · exact hbd r hr
        · rw [List.mem_singleton.mp hr]; exact h2
    have hszl : (ps.map stD).length < sizeLine := by rw [List.length_map]; exact sz' (by omega)
    have bd2 : ∀ x y : Cn, (∀ i, x = some i → -10 ^ 14 ≤ i ∧ i ≤ 10 ^ 14) → (∀ i, y = some i → -10 ^ 14 ≤ i ∧ i ≤ 10 ^ 14) → bdS (10 ^ 14) (x, y) := fun x y h1 h2 i hi => hi.elim (h1 i) (h2 i)
    have bs : ∀ x : Int, -10 ^ 14 ≤ x → x ≤ 10 ^ 14 → ∀ i, some x = some i → -10 ^ 14 ≤ i ∧ i ≤ 10 ^ 14 := fun x h1 h2 i hi => by
      cases hi; exact ⟨h1, h2⟩
    have bn : ∀ i : Int, (none : Cn) = some i → -10 ^ 14 ≤ i ∧ i ≤ 10 ^ 14 := fun i hi => by cases hi
    refine sIf_by (decide (kd < 4)) (fun Q hQ => ?_) (fun _ => ?_) fun _ => ?_
    · walk_at "r"; exact hQ
    · walk_at "r"
      rw [List.length_map] at hszl
      exact ⟨by decide, hszl, fin z (some lo, some lo) d6 hz (by simp [okS]) (bd2 _ _ (bs _ (by omega) (by omega)) (bs _ (by omega) (by omega)))⟩
    refine sIf_by (decide (kd < 10)) (fun Q hQ => ?_) (fun _ => ?_) fun _ => ?_
    · walk_at "r"; exact hQ
    · walk_at "r"
      rw [List.length_map] at hszl
      exact ⟨by decide, hszl, fin z (some lo, some (lo + far)) d6 hz (by simp [okS]; omega) (bd2 _ _ (bs _ (by omega) (by omega)) (bs _ (by omega) (by omega)))⟩
    refine sIf_by (decide (kd < 12)) (fun Q hQ => ?_) (fun _ => ?_) fun _ => ?_
    · walk_at "r"; exact hQ
    · walk_at "r"
      rw [List.length_map] at hszl
      refine ⟨⟨l, z, .inl rfl⟩, numberS hz fun ot z hz hot0 hot => ?_⟩
      simp only [Rs.dat]
      refine ⟨by decide, hszl, fin z (some (if ot < lo then ot else lo), some (if ot > lo then ot else lo)) (some (.int ot)) hz (decide_eq_true ?_) (bd2 _ _ (bs _ ?_ ?_) (bs _ ?_ ?_))⟩
      all_goals (first | omega | (split <;> omega) | (split <;> split <;> omega))
    refine sIf_by (kd == 12) (fun Q hQ => ?_) (fun _ => ?_) fun _ => ?_
    · walk_at "r"; exact hQ
    · walk_at "r"
      rw [List.length_map] at hszl
      exact ⟨by decide, hszl, fin z (some lo, none) d6 hz rfl (bd2 _ _ (bs _ (by omega) (by omega)) bn)⟩
    refine sIf_by (kd == 13) (fun Q hQ => ?_) (fun _ => ?_) fun _ => ?_
    · walk_at "r"; exact hQ
    · walk_at "r"
      rw [List.length_map] at hszl
      exact ⟨by decide, hszl, fin z (none, some lo) d6 hz rfl (bd2 _ _ bn (bs _ (by omega) (by omega)))⟩
    refine sIf_by (kd == 14) (fun Q hQ => ?_) (fun _ => ?_) fun _ => ?_
    · walk_at "r"; exact hQ
    · walk_at "r"
      rw [List.length_map] at hszl
      have e12 : (10 : Int) ^ Int.toNat 12 = 1000000000000 := by decide
      rw [e12]
      exact ⟨.inl ⟨by omega, by omega⟩, ⟨by decide, by decide, by decide⟩, by decide, hszl, fin z (some (lo * 10), some 1000000000000) d6 hz (by simp [okS]; omega) (bd2 _ _ (bs _ (by omega) (by omega)) (bs _ (by omega) (by omega)))⟩
    · walk_at "r"
      rw [List.length_map] at hszl
      exact ⟨by decide, hszl, fin z (none, none) d6 hz rfl (bd2 _ _ bn bn)⟩
  · rintro _ ⟨z, ps, d2, d3, d4, d5, d6, rfl, hz, hlen, hok, hbd⟩
    walk_at "r"
    rw [rngI_len] at hlen
    exact ⟨z, rfl, hR _ _ ⟨hz, ps, ⟨by omega, hok, hbd⟩, rfl⟩⟩
end
end Kb
set_option Elab.async false
set_option linter.all false
set_option maxRecDepth 100000
set_option maxHeartbeats 1000000
namespace Kb
set_option autoImplicit false
/-! ### the law's form -/
abbrev FSt := List St2 × Cn × Bool
def fstep (z : FSt) (s : Int × Bool) : FSt :=
  (if z.2.2 && !s.2 then z.1 ++ [(if s.2 && !z.2.2 then some s.1 else z.2.1, some (s.1 - 1))] else z.1, if s.2 && !z.2.2 then some s.1 else z.2.1, s.2)
def fend (z : FSt) : List St2 := if z.2.2 then z.1 ++ [(z.2.1, none)] else z.1
def formS (t0 : Bool) (ss : List (Int × Bool)) : List St2 := fend (ss.foldl fstep ([], none, t0))
theorem const_up {f : Int → Bool} {lo hi : Int} (h : ∀ i, lo < i → i < hi → f i = f (i - 1)) : ∀ (n : Nat) (i : Int), i = lo + n → i < hi → f i = f lo
  | 0, i, e, _ => by rw [e]; simp
  | n + 1, i, e, hi' => by
    rw [h i (by omega) hi']
    exact const_up h n (i - 1) (by omega) (by omega)
theorem const_dn {f : Int → Bool} {lo : Int} (h : ∀ i, i ≤ lo → f i = f (i - 1)) : ∀ (n : Nat) (i : Int), i = lo - n → f i = f lo
  | 0, i, e => by rw [e]; simp
  | n + 1, i, e => by
    have h1 := const_dn h n (i + 1) (by omega)
    rw [← h1, h (i + 1) (by omega)]
    congr 1
    omega
/-- a way that does not hang on what was found -/
theorem fstep_app (acc : List St2) (low : Cn) (b : Bool) (s : Int × Bool) : fstep (acc, low, b) s = (acc ++ (fstep ([], low, b) s).1, (fstep ([], low, b) s).2) := by
  unfold fstep
  cases b <;> cases s.2 <;> simp
theorem ffold_app : ∀ (ss : List (Int × Bool)) (acc : List St2) (low : Cn) (b : Bool), fend (ss.foldl fstep (acc, low, b)) = acc ++ fend (ss.foldl fstep ([], low, b))
  | [], acc, low, b => by
    cases b <;> simp [fend]
  | s :: ss, acc, low, b => by
    rw [List.foldl_cons, List.foldl_cons, fstep_app acc]
    have e : fstep ([], low, b) s = ((fstep ([], low, b) s).1, (fstep ([], low, b) s).2.1, (fstep ([], low, b) s).2.2) := rfl
    rw [e]
    dsimp only
    rw [ffold_app ss (acc ++ _), ffold_app ss (fstep ([], low, b) s).1, List.append_assoc]
theorem form_ok (f : Int → Bool) : ∀ (rest : List Int) (low : Cn) (lo : Int), rest.Pairwise (· < ·) → (∀ s ∈ rest, lo < s) → (∀ i, lo < i → i ∉ rest → f i = f (i - 1)) → (f lo = true → leL low lo = true) →
    NF (fend ((rest.map fun s => (s, f s)).foldl fstep ([], low, f lo))) ∧
    (∀ i, memS (fend ((rest.map fun s => (s, f s)).foldl fstep ([], low, f lo))) i = ((f lo && leL low i && decide (i < lo)) || (decide (lo ≤ i) && f i))) ∧
    ∀ q ∈ fend ((rest.map fun s => (s, f s)).foldl fstep ([], low, f lo)), (f lo = true ∧ q.1 = low) ∨ ∃ a, q.1 = some a ∧ lo < a
  | [], low, lo, _, _, hc, hl => by
    have hcon : ∀ i, lo ≤ i → f i = f lo := fun i hi => const_up (hi := i + 1) (fun j h1 h2 => hc j h1 (by simp)) (i - lo).toNat i (by omega) (by omega)
    rw [List.map_nil, List.foldl_nil]
    cases e : f lo with
    | true =>
      have hl' := hl e
      refine ⟨⟨fun p hp => ?_, List.pairwise_singleton _ _⟩, fun i => ?_, fun q hq => ?_⟩
      · rw [List.mem_singleton.mp hp]
        cases low <;> rfl
      · show memS [(low, none)] i = _
        rw [memS_cons, inS_eq]
        rcases (show i < lo ∨ lo ≤ i by omega) with h | h
        · simp [leH, memS, h, show ¬ lo ≤ i by omega]
        · rw [hcon i h, e]
          have : leL low i = true := by
            cases low with
            | none => rfl
            | some a => exact decide_eq_true (Int.le_trans (of_decide_eq_true hl') h)
          simp [leH, memS, h, this]
      · exact .inl ⟨rfl, by rw [List.mem_singleton.mp hq]⟩
    | false =>
      refine ⟨⟨fun p hp => (by cases hp), List.Pairwise.nil⟩, fun i => ?_, fun q hq => (by cases hq)⟩
      show memS [] i = _
      rcases (show i < lo ∨ lo ≤ i by omega) with h | h
      · simp [memS, h, show ¬ lo ≤ i by omega]
      · rw [hcon i h, e]
        simp [memS]
  | s :: rest, low, lo, hs, hlt, hc, hl => by
    have hls : lo < s := hlt s (.head _)
    have hs1 := (List.pairwise_cons.mp hs).1
    have hs2 := (List.pairwise_cons.mp hs).2
    have hcon : ∀ i, lo ≤ i → i < s → f i = f lo := fun i hi hi2 => const_up (hi := s) (fun j h1 h2 => hc j h1 (fun hm => by
      rcases List.mem_cons.mp hm with rfl | hm
      · omega
      · have := hs1 j hm; omega)) (i - lo).toNat i (by omega) hi2
    have hc2 : ∀ i, s < i → i ∉ rest → f i = f (i - 1) := fun i h1 h2 => hc i (by omega) (fun hm => by
      rcases List.mem_cons.mp hm with rfl | hm
      · omega
      · exact h2 hm)
    rw [List.map_cons, List.foldl_cons]
    have step : ∀ low' : Cn, (f s = true → leL low' s = true) → _ := fun low' h => form_ok f rest low' s hs2 hs1 hc2 h
    cases e : f lo with
    | true =>
      have hl' := hl e
      have hls2 : leL low s = true := by
        cases low with
        | none => rfl
        | some a => exact decide_eq_true (Int.le_trans (of_decide_eq_true hl') (by omega))
      cases e2 : f s with
      | true =>
        obtain ⟨g1, g2, g3⟩ := step low fun _ => hls2
        rw [e2] at g1 g2 g3
        have ef : fstep ([], low, true) (s, true) = ([], low, true) := by simp [fstep]
        rw [ef]
        refine ⟨g1, fun i => ?_, fun q hq => ?_⟩
        · rw [g2 i]
          rcases (show i < lo ∨ lo ≤ i by omega) with h | h
          · simp [h, show i < s by omega, show ¬ s ≤ i by omega, show ¬ lo ≤ i by omega]
          · rcases (show i < s ∨ s ≤ i by omega) with h2 | h2
            · have : leL low i = true := by
                cases low with
                | none => rfl
                | some a => exact decide_eq_true (Int.le_trans (of_decide_eq_true hl') h)
              rw [hcon i h h2, e]
              simp [this, h, h2]
            · simp [h, h2, show ¬ i < lo by omega, show ¬ i < s by omega]
        · rcases g3 q hq with ⟨_, h⟩ | ⟨a, h1, h2⟩
          · exact .inl ⟨rfl, h⟩
          · exact .inr ⟨a, h1, by omega⟩
      | false =>
        obtain ⟨g1, g2, g3⟩ := step low fun z => (by rw [e2] at z; cases z)
        rw [e2] at g1 g2 g3
        have ef : fstep ([], low, true) (s, false) = ([(low, some (s - 1))], low, false) := by simp [fstep]
        rw [ef, ffold_app]
        refine ⟨⟨fun p hp => ?_, ?_⟩, fun i => ?_, fun q hq => ?_⟩
        · rcases List.mem_cons.mp hp with rfl | hp
          · cases low with
            | none => rfl
            | some a =>
              have : a ≤ lo := of_decide_eq_true hl'
              exact decide_eq_true (by omega)
          · exact g1.1 p hp
        · refine List.pairwise_cons.mpr ⟨fun q hq => ?_, g1.2⟩
          rcases g3 q hq with ⟨h, _⟩ | ⟨a, h1, h2⟩
          · cases h
          · exact ⟨s - 1, a, rfl, h1, by omega⟩
        · show memS ((low, some (s - 1)) :: fend (List.foldl fstep ([], low, false) (List.map (fun s => (s, f s)) rest))) i = _
          rw [memS_cons, g2 i, inS_eq]
          rcases (show i < lo ∨ lo ≤ i by omega) with h | h
          · simp [h, leH, show i ≤ s - 1 by omega, show ¬ s ≤ i by omega, show ¬ lo ≤ i by omega]
          · rcases (show i < s ∨ s ≤ i by omega) with h2 | h2
            · have : leL low i = true := by
                cases low with
                | none => rfl
                | some a => exact decide_eq_true (Int.le_trans (of_decide_eq_true hl') h)
              rw [hcon i h h2, e]
              simp [this, h, leH, show i ≤ s - 1 by omega]
            · simp [h, h2, leH, show ¬ i ≤ s - 1 by omega, show ¬ i < lo by omega]
        · rcases List.mem_cons.mp hq with rfl | hq
          · exact .inl ⟨rfl, rfl⟩
          · rcases g3 q hq with ⟨h, _⟩ | ⟨a, h1, h2⟩
            · cases h
            · exact .inr ⟨a, h1, by omega⟩
    | false =>
      cases e2 : f s with
      | true =>
        obtain ⟨g1, g2, g3⟩ := step (some s) fun _ => decide_eq_true (Int.le_refl s)
        rw [e2] at g1 g2 g3
        have ef : fstep ([], low, false) (s, true) = ([], some s, true) := by simp [fstep]
        rw [ef]
        refine ⟨g1, fun i => ?_, fun q hq => ?_⟩
        · rw [g2 i]
          rcases (show i < lo ∨ lo ≤ i by omega) with h | h
          · simp [h, leL, show ¬ s ≤ i by omega, show ¬ lo ≤ i by omega]
          · rcases (show i < s ∨ s ≤ i by omega) with h2 | h2
            · rw [hcon i h h2, e]
              simp [leL, show ¬ s ≤ i by omega]
            · simp [h, h2, show ¬ i < s by omega]
        · rcases g3 q hq with ⟨_, h⟩ | ⟨a, h1, h2⟩
          · exact .inr ⟨s, h, hls⟩
          · exact .inr ⟨a, h1, by omega⟩
      | false =>
        obtain ⟨g1, g2, g3⟩ := step low fun z => (by rw [e2] at z; cases z)
        rw [e2] at g1 g2 g3
        have ef : fstep ([], low, false) (s, false) = ([], low, false) := by simp [fstep]
        rw [ef]
        refine ⟨g1, fun i => ?_, fun q hq => ?_⟩
        · rw [g2 i]
          rcases (show i < lo ∨ lo ≤ i by omega) with h | h
          · simp [h, show ¬ s ≤ i by omega, show ¬ lo ≤ i by omega]
          · rcases (show i < s ∨ s ≤ i by omega) with h2 | h2
            · rw [hcon i h h2, e]
              simp [show ¬ s ≤ i by omega]
            · simp [h, h2]
        · rcases g3 q hq with ⟨h, _⟩ | ⟨a, h1, h2⟩
          · cases h
          · exact .inr ⟨a, h1, by omega⟩
/-! ### starts -/
def rawStarts (l : List St2) : List Int := l.flatMap fun p => p.1.toList ++ (p.2.map (· + 1)).toList
theorem step_in {i : Int} {p : St2} (h : i ∉ p.1.toList ++ (p.2.map (· + 1)).toList) : inS i p = inS (i - 1) p := by
  obtain ⟨x, y⟩ := p
  rw [inS_eq, inS_eq]
  rw [Bool.eq_iff_iff]
  cases x <;> cases y <;> simp [leL, leH] at h ⊢ <;> omega
theorem step_mem {l : List St2} {i : Int} (h : i ∉ rawStarts l) : memS l i = memS l (i - 1) := by
  induction l with
  | nil => rfl
  | cons p l ih =>
    unfold rawStarts at h
    rw [List.flatMap_cons, List.mem_append] at h
    rw [memS_cons, memS_cons, step_in (fun z => h (.inl z)), ih fun z => h (.inr z)]
/-- the sample ahead of all starts -/
def lo0 : List Int → Int
  | [] => 0
  | s :: _ => s - 1
def formOf (ss : List Int) (f : Int → Bool) : List St2 := formS (f (lo0 ss)) (ss.map fun s => (s, f s))
theorem form_merge {l : List St2} (hok : ∀ p ∈ l, okS p = true) {ss : List Int} (hs : ss.Pairwise (· < ·)) (hm : ∀ i, i ∈ ss ↔ i ∈ rawStarts l) : formOf ss (memS l) = mergeS l := by
  have hst : ∀ i, i ∉ ss → memS l i = memS l (i - 1) := fun i hi => step_mem fun z => hi ((hm i).mpr z)
  have hlo : ∀ s ∈ ss, lo0 ss < s := by
    cases ss with
    | nil => intro s h; cases h
    | cons a ss =>
      intro s h
      show a - 1 < s
      rcases List.mem_cons.mp h with rfl | h
      · omega
      · have := (List.pairwise_cons.mp hs).1 s h; omega
  obtain ⟨g1, g2, _⟩ := form_ok (memS l) ss none (lo0 ss) hs hlo (fun i _ h => hst i h) fun _ => rfl
  refine (merge_eq hok g1 fun i => ?_).symm
  rw [g2 i]
  rcases (show i < lo0 ss ∨ lo0 ss ≤ i by omega) with h | h
  · have : memS l i = memS l (lo0 ss) := const_dn (lo := lo0 ss) (fun j hj => hst j fun hm => by have := hlo j hm; omega) (lo0 ss - i).toNat i (by omega)
    rw [this]
    simp [leL, h, show ¬ lo0 ss ≤ i by omega]
  · simp [h, show ¬ i < lo0 ss by omega]
end Kb
set_option Elab.async false
set_option linter.all false
set_option maxRecDepth 100000
set_option maxHeartbeats 1000000
namespace Kb
open PySem L2
set_option autoImplicit false
local macro_rules | `(tactic| walk_at "r") => `(tactic| try simp only [sSeq, sNext, sRet, sRetF, sRetO, sAsg, sAsgF, sAsgM, sAsgR, rCl, rMe, sRetM, sIf, sIfM, sDrop, sDropM, sUnp, sAug, sFor, sForM, sApp, sSetI, sDPu, sDPuT, sDNew, sDNewT, sDOne, sFldI, sBreak, sCont, fLc, xDc, xF, xVar, D.fl, bVar, xC, x2, b2, fAdd, fI, fI0, fB0, fEq, fNe, fIn, fIs, fIsNot, D.isN, xNeg, bTru, bNot, bAnd, bOr, bCh, xAnd, xOr, xNot, xIfE, xFld, fIx, fSl, oNo, oSo, aNil, aCons, xTup, fLst, fCat, xCall, fCall, fLen, fAbs, fInt, fList, fTuple, fIsi, D.ty, fAny, fSrt, fMin, xIdx, fSS, fDIn, xDGet, xDGetT, keyD, keysD, gN, gsN, gsC, gTu, iL, iT, iR1, iR2, iR3, iR1M, bYes, wipeE, free, Slot.ad, Slot.dat, Slot.par, axNil, axI, axB, xCl, fCl, xMe, fMe, xMk, fGen, mP, m2, bm2, mCl, mTup, mLst, mSS, amNil, amCons, gPlain, gThen, gNil, gYield, zP, zM, zTP, zD, z2, bz2, zTru, zNot, zAnd, zOr, zNil, zCons, zTup, zLst, zCl, zClX, zFld, zMkS, sAsgZ, sRetZ, sIfZ, sDropZ, sRaise, sTry, sRetR, sRetV, sRetMF, mF, mLc, iP, xR, fR, xClF, rMe0, fLRg, fSrtQ, iEnV, xEFld, fIsX, cvV, cD_none, cD_some, stD, lk_st, lk_hn, lk_sz, eqD_int, sh_int, sh60_ints, inL_ints, xSl, sSlI, zMkL, rMeL, rMeL0, zMeX0, fIsL, fIsM, fOwn, fSortK, srtKB, sExt, mPop, sUnpM, fMax2, fMin2, fSum, fLtT, fSSI, sRaise0, sTryF, sAsgX, rMeX0, sFrz, fBool, fBoolO, fInO, fOwnT, xMkL, xOwn1, zSta, rSta, rS0, rClX, fIsB, fInT, aStar, iZip, fLc2, fOwnN, fNeL, fIsA, sAppM, mSl, lk_sp, lk_co, xM1, xSlS, fIxS, fInS, xJoin, mJoin, fStr, fIntS, jD, xJs, iStrT, iEn, fMulS, mCall, sAsgLM, sUnpZ, fStrO, Bool.false_xor, Bool.true_xor,
  List.map_cons, List.map_nil, List.length_cons, List.length_nil, List.getElem?_cons_succ, List.getElem?_cons_zero, List.set_cons_succ, List.set_cons_zero, List.cons_append, List.nil_append, Option.isNone_none, Option.map_some, Option.map_none, true_and, and_true, if_true, if_false, rngD_ints, Int.add_sub_cancel, Bool.false_eq_true, List.length_map])
local macro_rules | `(tactic| walk_at "s") => `(tactic| try simp only [sSeq, sNext, sRet, sRetF, sRetO, sAsg, sAsgF, sAsgM, sAsgR, rCl, rMe, sRetM, sDrop, sDropM, sUnp, sAug, sFor, sForM, sApp, sSetI, sDPu, sDPuT, sDNew, sDNewT, sDOne, sFldI, sBreak, sCont, fLc, xDc, xF, xVar, D.fl, bVar, xC, x2, b2, fAdd, fI, fI0, fB0, fEq, fNe, fIn, fIs, fIsNot, D.isN, xNeg, bTru, bNot, bAnd, bOr, bCh, xAnd, xOr, xNot, xIfE, xFld, fIx, fSl, oNo, oSo, aNil, aCons, xTup, fLst, fCat, xCall, fCall, fLen, fAbs, fInt, fList, fTuple, fIsi, D.ty, fAny, fSrt, fMin, xIdx, fSS, fDIn, xDGet, xDGetT, keyD, keysD, gN, gsN, gsC, gTu, iL, iT, iR1, iR2, iR3, iR1M, bYes, wipeE, free, Slot.ad, Slot.dat, Slot.par, axNil, axI, axB, xCl, fCl, xMe, fMe, xMk, fGen, mP, m2, bm2, mCl, mTup, mLst, mSS, amNil, amCons, gPlain, gThen, gNil, gYield, zP, zM, zTP, zD, z2, bz2, zTru, zNot, zAnd, zOr, zNil, zCons, zTup, zLst, zCl, zClX, zFld, zMkS, sAsgZ, sRetZ, sDropZ, sRaise, sTry, sRetR, sRetV, sRetMF, mF, mLc, iP, xR, fR, xClF, rMe0, fLRg, fSrtQ, iEnV, xEFld, fIsX, cvV, cD_none, cD_some, stD, lk_st, lk_hn, lk_sz, eqD_int, sh_int, sh60_ints, inL_ints, xSl, sSlI, zMkL, rMeL, rMeL0, zMeX0, fIsL, fIsM, fOwn, fSortK, srtKB, sExt, mPop, sUnpM, fMax2, fMin2, fSum, fLtT, fSSI, sRaise0, sTryF, sAsgX, rMeX0, sFrz, fBool, fBoolO, fInO, fOwnT, xMkL, xOwn1, zSta, rSta, rS0, rClX, fIsB, fInT, aStar, iZip, fLc2, fOwnN, fNeL, fIsA, sAppM, mSl, lk_sp, lk_co, xM1, xSlS, fIxS, fInS, xJoin, mJoin, fStr, fIntS, jD, xJs, iStrT, iEn, fMulS, mCall, sAsgLM, sUnpZ, fStrO, Bool.false_xor, Bool.true_xor,
  List.map_cons, List.map_nil, List.length_cons, List.length_nil, List.getElem?_cons_succ, List.getElem?_cons_zero, List.set_cons_succ, List.set_cons_zero, List.cons_append, List.nil_append, Option.isNone_none, Option.map_some, Option.map_none, true_and, and_true, if_true, if_false, rngD_ints, Int.add_sub_cancel, Bool.false_eq_true, List.length_map])
theorem at0 {α : Type} (x : α) (xs : List α) : atI (x :: xs) 0 = some x := atI_nat (j := 0) rfl
def plsD (x : List (List St2 × Bool)) : D := .lst (x.map fun p => plD p.1 p.2)
def rawAll (x : List (List St2 × Bool)) : List Int := x.flatMap fun p => rawStarts p.1
section
variable {P : Program} {w : World} {K : Frag} {mg : Str → Option Value} {base : Heap} {C f : Addr} {fd : FuncData}
abbrev s__law_starts : Stmt := top 37
abbrev N__law_starts : List Str := ["_law_spans", "_law_found", "_law_pairs", "_law_none", "_law_low", "_law_high"]
theorem sc__law_starts : FnScope N__law_starts ["_law_spans"] (defScope s__law_starts) := ⟨rfl, rfl, rfl, by decide +kernel, rfl, by decide +kernel, by decide +kernel⟩
def S_starts : SP := spc (α := List (List St2 × Bool)) (fun x => [.im (plsD x)]) (fun x => x.length ≤ 1000 ∧ (rawAll x).length < 64) fun x r => ∃ ms : List Int, ms.Pairwise (· < ·) ∧ (∀ k, k ∈ ms ↔ k ∈ rawAll x) ∧ r = .fl (ms.map D.int)
theorem ok_starts (F : FD K "_law_starts" "_law_starts" s__law_starts [] f fd) (T : Tx K mg C) : FnOk P w K mg base CX0 (2 + 1) f fd ["_law_spans"] (spP K S_starts) := by
  refine fn_spc F sc__law_starts (fun x => [some (.im (plsD x)), none, none, none, none, none]) fun cdv A outer s H E hr => ?_
  refine ⟨_, (ss_cons (s_asgF (i := 1) sc__law_starts.nd (fx_lst as_nil))
      (ss_cons (s_for PassesOwn.never rfl (il_list (px_var 0)) (gx_tup (n := 2) rfl (gx_cons (gx_name (i := 2) sc__law_starts.nd) (gx_cons (gx_name (i := 3) sc__law_starts.nd) gx_nil))) (ss_one (s_for PassesOwn.never rfl (il_list (px_var 2)) (gx_tup (n := 2) rfl (gx_cons (gx_name (i := 4) sc__law_starts.nd) (gx_cons (gx_name (i := 5) sc__law_starts.nd) gx_nil))) (ss_cut (s_if (tx_isnot (bx_var 4) (bx px_non)) (ss_one (s_app 1 (px_var 4))) ss_nil)
      (ss_one (s_if (tx_isnot (bx_var 5) (bx px_non)) (ss_one (s_app 1 (px_add (bx_var 5) (bx px_int)))) ss_nil))))))
      (ss_one (s_retF (fx_ssI rfl rfl T.sorted rfl T.set (bx_var 1)))))), ?_⟩
  rintro x R ⟨hx, h64⟩ hR
  unfold plsD
  walk_at "s"
  refine ⟨by decide, fun l1 _ => ?_⟩
  refine forb (fun pre Γ => ∃ d2 d3 d4 d5 : Option D, Γ = [some (.im (plsD x)), some (.ml l1 ((rawAll pre).map D.int)), d2.map Slot.im, d3.map Slot.im, d4.map Slot.im, d5.map Slot.im]) ⟨none, none, none, none, rfl⟩ ?_ ?_
  · rintro pre ⟨ps, b⟩ post Γ hx ⟨d2, d3, d4, d5, rfl⟩
    have hra : rawAll x = rawAll pre ++ (rawStarts ps ++ rawAll post) := by
      rw [hx]
      unfold rawAll
      rw [List.flatMap_append, List.flatMap_cons]
    have hrn : rawAll (pre ++ [(ps, b)]) = rawAll pre ++ rawStarts ps := by
      unfold rawAll
      rw [List.flatMap_append, List.flatMap_cons, List.flatMap_nil, List.append_nil]
    have hlen := congrArg List.length hra
    rw [List.length_append, List.length_append] at hlen
    unfold plD
    walk_at "s"
    refine ⟨by cases d2 <;> rfl, by cases d3 <;> rfl, ?_⟩
    refine forb (fun pre2 Γ => ∃ d4 d5 : Option D, Γ = [some (.im (plsD x)), some (.ml l1 ((rawAll pre ++ rawStarts pre2).map D.int)), some (.im (.lst (ps.map stD))), some (.im (.bl b)), d4.map Slot.im, d5.map Slot.im]) ⟨d4, d5, by rw [show rawStarts [] = [] from rfl, List.append_nil]⟩ ?_ ?_
    · rintro pre2 ⟨a, c⟩ post2 Γ hx2 ⟨d4, d5, rfl⟩
      have hr2 : rawStarts ps = rawStarts pre2 ++ ((a.toList ++ (c.map (· + 1)).toList) ++ rawStarts post2) := by
        rw [hx2]
        unfold rawStarts
        rw [List.flatMap_append, List.flatMap_cons]
      have hlen2 := congrArg List.length hr2
      rw [List.length_append, List.length_append, List.length_append] at hlen2
      have hr3 : rawStarts (pre2 ++ [(a, c)]) = rawStarts pre2 ++ (a.toList ++ (c.map (· + 1)).toList) := by
        unfold rawStarts
        rw [List.flatMap_append, List.flatMap_cons, List.flatMap_nil, List.append_nil]
      walk_at "s"
      refine ⟨by cases d4 <;> rfl, by cases d5 <;> rfl, ?_⟩
      refine sCut_by (fun Γ => Γ = [some (.im (plsD x)), some (.ml l1 ((rawAll pre ++ rawStarts pre2 ++ a.toList).map D.int)), some (.im (.lst (ps.map stD))), some (.im (.bl b)), some (.im (cD a)), some (.im (cD c))]) ?_ ?_
      · cases a with
        | none =>
          refine sIf_by false (fun Q hQ => ?_) (fun z => by cases z) fun _ => ?_
          · walk_at "r"; exact hQ
          · simp [sNext]
        | some a =>
          refine sIf_by true (fun Q hQ => ?_) (fun _ => ?_) fun z => by cases z
          · walk_at "r"; exact hQ
          · walk_at "r"
            refine ⟨sz' (by simp only [List.length_append]; omega), by simp⟩
      · rintro _ rfl
        cases c with
        | none =>
          refine sIf_by false (fun Q hQ => ?_) (fun z => by cases z) fun _ => ?_
          · walk_at "r"; exact hQ
          · refine ⟨some (cD a), some (cD none), ?_⟩
            rw [hr3]
            simp
        | some c =>
          refine sIf_by true (fun Q hQ => ?_) (fun _ => ?_) fun z => by cases z
          · walk_at "r"; exact hQ
          · walk_at "r"
            refine ⟨sz' (by simp only [List.length_append]; omega), some (cD a), some (cD (some c)), ?_⟩
            rw [hr3]
            simp [cD]
    · rintro _ ⟨d4, d5, rfl⟩
      exact ⟨some (.lst (ps.map stD)), some (.bl b), d4, d5, by rw [hrn]; rfl⟩
  · rintro _ ⟨d2, d3, d4, d5, rfl⟩
    walk_at "r"
    exact ⟨rawAll x, rfl, h64, fun ms h1 h2 => hR _ ⟨ms, h1, h2, rfl⟩⟩
abbrev s__law_samples : Stmt := top 38
abbrev N__law_samples : List Str := ["_law_starts_here"]
theorem sc__law_samples : FnScope N__law_samples ["_law_starts_here"] (defScope s__law_samples) := ⟨rfl, rfl, rfl, by decide +kernel, rfl, by decide +kernel, by decide +kernel⟩
def S_samples : SP := spc (α := List Int) (fun x => [.im (.lst (x.map D.int))]) (fun x => x.length ≤ 1000) fun x r => r = .fl ((lo0 x :: x).map D.int)
theorem ok_samples (F : FD K "_law_samples" "_law_samples" s__law_samples [] f fd) (T : Tx K mg C) : FnOk P w K mg base CX0 (2 + 1) f fd ["_law_starts_here"] (spP K S_samples) := by
  refine fn_spc F sc__law_samples (fun x => [some (.im (.lst (x.map D.int)))]) fun cdv A outer s H E hr => ?_
  refine ⟨_, (ss_cons (s_if (tx_not (tx_tru (bx_var 0))) (ss_one (s_retF (fx_lst (as_cons px_int as_nil)))) ss_nil)
      (ss_one (s_retF (fx_cat (bx (px_f (fx_lst (as_cons (px_sub (bx (px_ix (bx_var 0) (bx px_int))) (bx px_int)) as_nil)))) (bx_var 0))))), ?_⟩
  rintro ss R hl hR
  have hR' := hR _ rfl
  cases ss with
  | nil =>
    walk_at "s"
    refine sIf_by true (fun Q hQ => ?_) (fun _ => ?_) fun z => by cases z
    · walk_at "r"; exact hQ
    · walk_at "r"; exact ⟨by decide, hR'⟩
  | cons a ss =>
    walk_at "s"
    refine sIf_by false (fun Q hQ => ?_) (fun z => by cases z) fun _ => ?_
    · walk_at "r"; exact hQ
    · walk_at "r"
      have e0 : atI (D.int a :: List.map D.int ss) 0 = some (.int a) := at0 _ _
      rw [e0]
      exact ⟨by decide, sz (by simp only [List.length_cons] at hl; omega), hR'⟩
abbrev s__law_form : Stmt := top 39
abbrev N__law_form : List Str := ["_law_starts_here", "_law_truths", "_law_found", "_law_low", "_law_inside", "_law_k"]
theorem sc__law_form : FnScope N__law_form ["_law_starts_here", "_law_truths"] (defScope s__law_form) := ⟨rfl, rfl, rfl, by decide +kernel, rfl, by decide +kernel, by decide +kernel⟩
def S_form : SP := spc (α := List Int × Bool × List Bool) (fun x => [.im (.lst (x.1.map D.int)), .im (.lst ((x.2.1 :: x.2.2).map D.bl))]) (fun x => x.1.length ≤ 1000 ∧ x.2.2.length = x.1.length) fun x r => r = .fl ((formS x.2.1 (x.1.zip x.2.2)).map stD)
theorem fold_len : ∀ (xs : List (Int × Bool)) (z : FSt), (xs.foldl fstep z).1.length ≤ z.1.length + xs.length
  | [], z => Nat.le_refl _
  | x :: xs, z => by
    have h1 := fold_len xs (fstep z x)
    have h2 : (fstep z x).1.length ≤ z.1.length + 1 := by
      unfold fstep
      dsimp only
      split
      · simp
      · omega
    rw [List.foldl_cons, List.length_cons]
    omega
theorem ok_form (F : FD K "_law_form" "_law_form" s__law_form [] f fd) (T : Tx K mg C) : FnOk P w K mg base CX0 (2 + 1) f fd ["_law_starts_here", "_law_truths"] (spP K S_form) := by
  refine fn_spc F sc__law_form (fun x => [some (.im (.lst (x.1.map D.int))), some (.im (.lst ((x.2.1 :: x.2.2).map D.bl))), none, none, none, none]) fun cdv A outer s H E hr => ?_
  refine ⟨_, (ss_cons (s_asgF (i := 2) sc__law_form.nd (fx_lst as_nil))
      (ss_cons (s_asg (i := 3) sc__law_form.nd px_non)
      (ss_cons (s_asg (i := 4) sc__law_form.nd (px_ix (bx_var 1) (bx px_int)))
      (ss_cons (s_for PassesOwn.never rfl (il_r1 rfl T.range (aw_cons (bx (px_len rfl T.len (bx_var 0))) aw_nil)) (gx_name (i := 5) sc__law_form.nd) (ss_cut (s_if (tx_w (tw_and (tx_tru (bx (px_ix (bx_var 1) (bx (px_add (bx_var 5) (bx px_int)))))) (tw_and1 (tx_not (tx_tru (bx_var 4)))))) (ss_one (s_asg (i := 3) sc__law_form.nd (px_ix (bx_var 0) (bx_var 5)))) ss_nil)
      (ss_cut (s_if (tx_w (tw_and (tx_tru (bx_var 4)) (tw_and1 (tx_not (tx_tru (bx (px_ix (bx_var 1) (bx (px_add (bx_var 5) (bx px_int)))))))))) (ss_one (s_app 2 (px_tup (as_cons (px_var 3) (as_cons (px_sub (bx (px_ix (bx_var 0) (bx_var 5))) (bx px_int)) as_nil))))) ss_nil)
      (ss_one (s_asg (i := 4) sc__law_form.nd (px_ix (bx_var 1) (bx (px_add (bx_var 5) (bx px_int)))))))))
      (ss_cut (s_if (tx_tru (bx_var 4)) (ss_one (s_app 2 (px_tup (as_cons (px_var 3) (as_cons px_non as_nil))))) ss_nil)
      (ss_one (s_retO 2))))))), ?_⟩
  rintro ⟨ss, t0, ts⟩ R ⟨hl, ht⟩ hR
  dsimp only at hl ht hR
  walk_at "s"
  refine ⟨by decide, fun l1 _ => ?_⟩
  have e0 : atI (D.bl t0 :: List.map D.bl ts) 0 = some (.bl t0) := at0 _ _
  rw [e0]
  refine ⟨by omega, by omega, ?_⟩
  refine forb (fun pre Γ => ∃ (z : FSt) (d5 : Option D), z = ((ss.zip ts).take pre.length).foldl fstep ([], none, t0) ∧ Γ = [some (.im (.lst (ss.map D.int))), some (.im (.lst ((t0 :: ts).map D.bl))), some (.ml l1 (z.1.map stD)), some (.im (cD z.2.1)), some (.im (.bl z.2.2)), d5.map Slot.im]) ⟨([], none, t0), none, rfl, rfl⟩ ?_ ?_
  · rintro pre k post Γ hx ⟨z, d5, hz, rfl⟩
    have hk : k = (pre.length : Int) ∧ pre.length < ss.length := by
      have h1 := congrArg List.length hx
      rw [rngI_len, List.length_append, List.length_cons] at h1
      have h2 : (rngI 0 1 (ss.length : Int).toNat)[pre.length]? = some k := by rw [hx, List.getElem?_append_right (Nat.le_refl _), Nat.sub_self]; rfl
      unfold rngI at h2
      rw [List.getElem?_map, List.getElem?_range (by omega)] at h2
      simp at h2
      exact ⟨by omega, by omega⟩
    obtain ⟨rfl, hlt⟩ := hk
    have hts : pre.length < ts.length := by omega
    have g1 : (ss.zip ts)[pre.length]? = some (ss[pre.length], ts[pre.length]) := by
      rw [List.getElem?_eq_getElem (by rw [List.length_zip]; omega), List.getElem_zip]
    have g2 : (ss.zip ts).take (pre ++ [(pre.length : Int)]).length = (ss.zip ts).take pre.length ++ [(ss[pre.length], ts[pre.length])] := by
      rw [List.length_append, List.length_singleton, List.take_add_one, g1]
      rfl
    have a1 : atI (List.map D.int ss) (pre.length : Int) = some (.int ss[pre.length]) := atI_nat (by rw [List.getElem?_map, List.getElem?_eq_getElem hlt]; rfl)
    have a2 : atI (D.bl t0 :: List.map D.bl ts) ((pre.length : Int) + 1) = some (.bl ts[pre.length]) := by
      have : ((pre.length : Int) + 1) = ((pre.length + 1 : Nat) : Int) := by omega
      rw [this]
      exact atI_nat (by rw [List.getElem?_cons_succ, List.getElem?_map, List.getElem?_eq_getElem hts]; rfl)
    have hzl : z.1.length ≤ 1000 := by
      rw [hz]
      have := fold_len ((ss.zip ts).take pre.length) ([], none, t0)
      simp only [List.length_nil, List.length_take] at this
      omega
    rw [g2]
    generalize ss[pre.length] = s0 at a1 g1
    generalize ts[pre.length] = t at a2 g1
    obtain ⟨acc, low, b⟩ := z
    dsimp only at hzl
    have nxt : ((ss.zip ts).take pre.length ++ [(s0, t)]).foldl fstep ([], none, t0) = fstep (acc, low, b) (s0, t) := by
      rw [List.foldl_append, ← hz]
      rfl
    rw [nxt]
    walk_at "s"
    refine ⟨by cases d5 <;> rfl, ?_⟩
    refine sCut_by (fun Γ => Γ = [some (.im (.lst (ss.map D.int))), some (.im (.lst ((t0 :: ts).map D.bl))), some (.ml l1 (acc.map stD)), some (.im (cD (if t && !b then some s0 else low))), some (.im (.bl b)), some (.im (.int pre.length))]) ?_ ?_
    · refine sIf_by (t && !b) (fun Q hQ => ?_) (fun h => ?_) fun h => ?_
      · walk_at "r"
        rw [a2]
        cases t <;> cases b <;> simp at hQ ⊢ <;> exact hQ
      · walk_at "r"
        rw [a1, h]
        rfl
      · rw [h]
        rfl
    · rintro _ rfl
      refine sCut_by (fun Γ => Γ = [some (.im (.lst (ss.map D.int))), some (.im (.lst ((t0 :: ts).map D.bl))), some (.ml l1 ((fstep (acc, low, b) (s0, t)).1.map stD)), some (.im (cD (if t && !b then some s0 else low))), some (.im (.bl b)), some (.im (.int pre.length))]) ?_ ?_
      · refine sIf_by (b && !t) (fun Q hQ => ?_) (fun h => ?_) fun h => ?_
        · walk_at "r"
          rw [a2]
          cases t <;> cases b <;> simp at hQ ⊢ <;> exact hQ
        · walk_at "r"
          rw [a1]
          refine ⟨by decide, sz' (by omega), ?_⟩
          unfold fstep
          dsimp only
          rw [h, if_pos rfl, List.map_append]
          rfl
        · show _ = _
          unfold fstep
          dsimp only
          rw [h]
          rfl
      · rintro _ rfl
        walk_at "r"
        rw [a2]
        exact ⟨fstep (acc, low, b) (s0, t), some (.int pre.length), rfl, rfl⟩
  · rintro _ ⟨z, d5, hz, rfl⟩
    rw [rngI_len, List.take_of_length_le (by rw [List.length_zip]; omega)] at hz
    have hfin : formS t0 (ss.zip ts) = fend z := by rw [hz]; rfl
    rw [hfin] at hR
    have hzl : z.1.length ≤ 1000 := by
      rw [hz]
      have := fold_len (ss.zip ts) ([], none, t0)
      simp only [List.length_nil, List.length_zip] at this
      omega
    obtain ⟨acc, low, b⟩ := z
    dsimp only at hzl
    have hR' := hR _ rfl
    unfold fend at hR'
    dsimp only at hR' ⊢
    refine sCut_by (fun Γ => Γ[2]? = some (some (.ml l1 ((if b then acc ++ [(low, none)] else acc).map stD)))) ?_ ?_
    · cases b with
      | true =>
        refine sIf_by true (fun Q hQ => ?_) (fun _ => ?_) fun z => by cases z
        · walk_at "r"; exact hQ
        · walk_at "r"
          refine ⟨by decide, sz' (by omega), ?_⟩
          simp [stD, cD]
      | false =>
        refine sIf_by false (fun Q hQ => ?_) (fun z => by cases z) fun _ => ?_
        · walk_at "r"; exact hQ
        · rfl
    · intro Γ hΓ
      unfold sRetO
      rw [hΓ]
      exact hR'
end
end Kb
set_option Elab.async false
set_option linter.all false
set_option maxRecDepth 100000
set_option maxHeartbeats 1000000
namespace Kb
set_option autoImplicit false
/-! ### nearest -/
def nbest (n : Int) (best : Cn) (c : Int) : Cn := match best with
  | none => some c
  | some b => if absI (c - n) < absI (b - n) ∨ (absI (c - n) = absI (b - n) ∧ c < b) then some c else some b
def nstep (n : Int) (best : Cn) (p : St2) : Cn := nbest n best (clampI n p)
def lnear (n : Int) (l : List St2) : Cn := l.foldl (nstep n) none

def nlt (n v i : Int) : Prop := absI (v - n) < absI (i - n) ∨ (absI (v - n) = absI (i - n) ∧ v ≤ i)
def IsNear (n : Int) (f : Int → Bool) : Cn → Prop
  | none => ∀ i, f i = false
  | some v => f v = true ∧ ∀ i, f i = true → nlt n v i
theorem near_unique {n : Int} {f : Int → Bool} : ∀ {r s : Cn}, IsNear n f r → IsNear n f s → r = s
  | none, none, _, _ => rfl
  | none, some v, h1, h2 => by have := h1 v; rw [h2.1] at this; cases this
  | some v, none, h1, h2 => by have := h2 v; rw [h1.1] at this; cases this
  | some v, some w, h1, h2 => by
    have a := h1.2 w h2.1
    have b := h2.2 v h1.1
    unfold nlt at a b
    congr 1
    omega
theorem clamp_ok {n : Int} {p : St2} (h : okS p = true) : inS (clampI n p) p = true ∧ ∀ i, inS i p = true → nlt n (clampI n p) i := by
  obtain ⟨x, y⟩ := p
  unfold nlt clampI absI
  simp only [inS_eq]
  cases x <;> cases y <;> simp only [leL, leH, okS, Bool.true_and, Bool.and_true, Bool.and_eq_true, decide_eq_true_eq] at h ⊢
  all_goals
    refine ⟨?_, fun i hi => ?_⟩ <;> (repeat' split) <;> (first | rfl | omega | skip)
theorem near_step {n : Int} {f g : Int → Bool} {best : Cn} {c : Int} {p : St2} (hp : okS p = true) (hc : c = clampI n p) (h : IsNear n f best) (hg : ∀ i, g i = (f i || inS i p)) : IsNear n g (nbest n best c) := by
  subst hc
  obtain ⟨h1, h2⟩ := clamp_ok (n := n) hp
  cases best with
  | none =>
    refine ⟨by rw [hg, h1, Bool.or_true], fun i hi => ?_⟩
    rw [hg, h i, Bool.false_or] at hi
    exact h2 i hi
  | some b =>
    unfold nbest
    dsimp only
    have h3 : ∀ i, g i = true → nlt n b i ∨ nlt n (clampI n p) i := fun i hi => by
      rw [hg, Bool.or_eq_true] at hi
      exact hi.elim (fun z => .inl (h.2 i z)) fun z => .inr (h2 i z)
    have hb := h.1
    generalize clampI n p = c at *
    split
    · rename_i hlt
      refine ⟨by rw [hg, h1, Bool.or_true], fun i hi => ?_⟩
      rcases h3 i hi with z | z
      · unfold nlt at z ⊢
        omega
      · exact z
    · rename_i hlt
      refine ⟨by rw [hg, hb, Bool.true_or], fun i hi => ?_⟩
      rcases h3 i hi with z | z
      · exact z
      · unfold nlt at z ⊢
        omega
theorem near_fold (n : Int) : ∀ (l pre : List St2) (best : Cn), (∀ p ∈ l, okS p = true) → IsNear n (memS pre) best → IsNear n (memS (pre ++ l)) (l.foldl (nstep n) best)
  | [], pre, best, _, h => by rw [List.append_nil]; exact h
  | p :: l, pre, best, hok, h => by
    rw [List.foldl_cons, show pre ++ p :: l = (pre ++ [p]) ++ l by simp]
    refine near_fold n l (pre ++ [p]) _ (fun q hq => hok q (.tail _ hq)) ?_
    exact near_step (hok p (.head _)) rfl h fun i => by rw [memS_append, memS_cons]; simp [memS]
theorem near_ok {n : Int} {l : List St2} (hok : ∀ p ∈ l, okS p = true) : IsNear n (memS l) (lnear n l) := near_fold n l [] none hok fun i => rfl
def n0step (n : Int) (best : Cn) (p : St2) : Cn := match best with
  | none => some (clampI n p)
  | some b => if absI (clampI n p - n) < absI (b - n) then some (clampI n p) else some b
theorem near_nf {n : Int} : ∀ (l pre : List St2) (best : Cn), NF (pre ++ l) → (∀ b, best = some b → memS pre b = true) → l.foldl (n0step n) best = l.foldl (nstep n) best
  | [], pre, best, _, _ => rfl
  | p :: l, pre, best, h, hb => by
    rw [List.foldl_cons, List.foldl_cons]
    have hp : okS p = true := h.1 p (by simp)
    have hcl := (clamp_ok (n := n) hp).1
    have e : n0step n best p = nstep n best p := by
      unfold n0step nstep nbest
      cases best with
      | none => rfl
      | some b =>
        dsimp only
        have hlt : b < clampI n p := by
          obtain ⟨q, hq, hqb⟩ := List.any_eq_true.mp (hb b rfl)
          obtain ⟨u, v, h1, h2, h3⟩ := (List.pairwise_append.mp h.2).2.2 q hq p (by simp)
          rw [inS_eq, h1] at hqb
          rw [inS_eq, h2] at hcl
          simp [leL, leH] at hqb hcl
          omega
        congr 1
        exact propext ⟨fun z => .inl z, fun z => z.elim id fun z => by omega⟩
    rw [e]
    refine near_nf l (pre ++ [p]) _ (by simpa using h) fun b hbb => ?_
    rw [memS_append]
    unfold nstep nbest at hbb
    cases best with
    | none =>
      have : clampI n p = b := Option.some.inj hbb
      rw [← this, memS_cons, hcl]
      simp
    | some b0 =>
      dsimp only at hbb
      split at hbb
      · have : clampI n p = b := Option.some.inj hbb
        rw [← this, memS_cons, hcl]
        simp
      · have : b0 = b := Option.some.inj hbb
        rw [← this, hb b0 rfl]
        rfl
theorem near_merge {n : Int} {l : List St2} (hok : ∀ p ∈ l, okS p = true) : nearS n (mergeS l) = lnear n l := by
  obtain ⟨h1, h2⟩ := merge_nf hok
  have e : nearS n (mergeS l) = lnear n (mergeS l) := near_nf (n := n) (mergeS l) [] none h1 fun b z => by cases z
  rw [e]
  refine near_unique (near_ok h1.1) ?_
  have e2 : memS (mergeS l) = memS l := funext h2
  rw [e2]
  exact near_ok hok
end Kb
set_option Elab.async false
set_option linter.all false
set_option maxRecDepth 100000
set_option maxHeartbeats 1000000
namespace Kb
open PySem L2
set_option autoImplicit false
local macro_rules | `(tactic| walk_at "r") => `(tactic| try simp only [sSeq, sNext, sRet, sRetF, sRetO, sAsg, sAsgF, sAsgM, sAsgR, rCl, rMe, sRetM, sIf, sIfM, sDrop, sDropM, sUnp, sAug, sFor, sForM, sApp, sSetI, sDPu, sDPuT, sDNew, sDNewT, sDOne, sFldI, sBreak, sCont, fLc, xDc, xF, xVar, D.fl, bVar, xC, x2, b2, fAdd, fI, fI0, fB0, fEq, fNe, fIn, fIs, fIsNot, D.isN, xNeg, bTru, bNot, bAnd, bOr, bCh, xAnd, xOr, xNot, xIfE, xFld, fIx, fSl, oNo, oSo, aNil, aCons, xTup, fLst, fCat, xCall, fCall, fLen, fAbs, fInt, fList, fTuple, fIsi, D.ty, fAny, fSrt, fMin, xIdx, fSS, fDIn, xDGet, xDGetT, keyD, keysD, gN, gsN, gsC, gTu, iL, iT, iR1, iR2, iR3, iR1M, bYes, wipeE, free, Slot.ad, Slot.dat, Slot.par, axNil, axI, axB, xCl, fCl, xMe, fMe, xMk, fGen, mP, m2, bm2, mCl, mTup, mLst, mSS, amNil, amCons, gPlain, gThen, gNil, gYield, zP, zM, zTP, zD, z2, bz2, zTru, zNot, zAnd, zOr, zNil, zCons, zTup, zLst, zCl, zClX, zFld, zMkS, sAsgZ, sRetZ, sIfZ, sDropZ, sRaise, sTry, sRetR, sRetV, sRetMF, mF, mLc, iP, xR, fR, xClF, rMe0, fLRg, fSrtQ, iEnV, xEFld, fIsX, cvV, cD_none, cD_some, stD, lk_st, lk_hn, lk_sz, eqD_int, sh_int, sh60_ints, inL_ints, xSl, sSlI, zMkL, rMeL, rMeL0, zMeX0, fIsL, fIsM, fOwn, fSortK, srtKB, sExt, mPop, sUnpM, fMax2, fMin2, fSum, fLtT, fSSI, sRaise0, sTryF, sAsgX, rMeX0, sFrz, fBool, fBoolO, fInO, fOwnT, xMkL, xOwn1, zSta, rSta, rS0, rClX, fIsB, fInT, aStar, iZip, fLc2, fOwnN, fNeL, fIsA, sAppM, mSl, lk_sp, lk_co, xM1, xSlS, fIxS, fInS, xJoin, mJoin, fStr, fIntS, jD, xJs, iStrT, iEn, fMulS, mCall, sAsgLM, sUnpZ, fStrO, Bool.false_xor, Bool.true_xor,
  List.map_cons, List.map_nil, List.length_cons, List.length_nil, List.getElem?_cons_succ, List.getElem?_cons_zero, List.set_cons_succ, List.set_cons_zero, List.cons_append, List.nil_append, Option.isNone_none, Option.map_some, Option.map_none, true_and, and_true, if_true, if_false, rngD_ints, Int.add_sub_cancel, Bool.false_eq_true, List.length_map])
local macro_rules | `(tactic| walk_at "s") => `(tactic| try simp only [sSeq, sNext, sRet, sRetF, sRetO, sAsg, sAsgF, sAsgM, sAsgR, rCl, rMe, sRetM, sDrop, sDropM, sUnp, sAug, sFor, sForM, sApp, sSetI, sDPu, sDPuT, sDNew, sDNewT, sDOne, sFldI, sBreak, sCont, fLc, xDc, xF, xVar, D.fl, bVar, xC, x2, b2, fAdd, fI, fI0, fB0, fEq, fNe, fIn, fIs, fIsNot, D.isN, xNeg, bTru, bNot, bAnd, bOr, bCh, xAnd, xOr, xNot, xIfE, xFld, fIx, fSl, oNo, oSo, aNil, aCons, xTup, fLst, fCat, xCall, fCall, fLen, fAbs, fInt, fList, fTuple, fIsi, D.ty, fAny, fSrt, fMin, xIdx, fSS, fDIn, xDGet, xDGetT, keyD, keysD, gN, gsN, gsC, gTu, iL, iT, iR1, iR2, iR3, iR1M, bYes, wipeE, free, Slot.ad, Slot.dat, Slot.par, axNil, axI, axB, xCl, fCl, xMe, fMe, xMk, fGen, mP, m2, bm2, mCl, mTup, mLst, mSS, amNil, amCons, gPlain, gThen, gNil, gYield, zP, zM, zTP, zD, z2, bz2, zTru, zNot, zAnd, zOr, zNil, zCons, zTup, zLst, zCl, zClX, zFld, zMkS, sAsgZ, sRetZ, sDropZ, sRaise, sTry, sRetR, sRetV, sRetMF, mF, mLc, iP, xR, fR, xClF, rMe0, fLRg, fSrtQ, iEnV, xEFld, fIsX, cvV, cD_none, cD_some, stD, lk_st, lk_hn, lk_sz, eqD_int, sh_int, sh60_ints, inL_ints, xSl, sSlI, zMkL, rMeL, rMeL0, zMeX0, fIsL, fIsM, fOwn, fSortK, srtKB, sExt, mPop, sUnpM, fMax2, fMin2, fSum, fLtT, fSSI, sRaise0, sTryF, sAsgX, rMeX0, sFrz, fBool, fBoolO, fInO, fOwnT, xMkL, xOwn1, zSta, rSta, rS0, rClX, fIsB, fInT, aStar, iZip, fLc2, fOwnN, fNeL, fIsA, sAppM, mSl, lk_sp, lk_co, xM1, xSlS, fIxS, fInS, xJoin, mJoin, fStr, fIntS, jD, xJs, iStrT, iEn, fMulS, mCall, sAsgLM, sUnpZ, fStrO, Bool.false_xor, Bool.true_xor,
  List.map_cons, List.map_nil, List.length_cons, List.length_nil, List.getElem?_cons_succ, List.getElem?_cons_zero, List.set_cons_succ, List.set_cons_zero, List.cons_append, List.nil_append, Option.isNone_none, Option.map_some, Option.map_none, true_and, and_true, if_true, if_false, rngD_ints, Int.add_sub_cancel, Bool.false_eq_true, List.length_map])
theorem raw_len (l : List St2) : (rawStarts l).length ≤ 2 * l.length := by
  induction l with
  | nil => exact Nat.le_refl _
  | cons p l ih =>
    obtain ⟨x, y⟩ := p
    have e : rawStarts ((x, y) :: l) = (x.toList ++ (y.map (· + 1)).toList) ++ rawStarts l := by unfold rawStarts; rw [List.flatMap_cons]
    rw [e]
    cases x <;> cases y <;> simp at ih ⊢ <;> omega
theorem nodup_le : ∀ {ms ns : List Int}, ms.Nodup → (∀ k ∈ ms, k ∈ ns) → ms.length ≤ ns.length
  | [], ns, _, _ => Nat.zero_le _
  | a :: ms, ns, h, hm => by
    have h1 := List.nodup_cons.mp h
    have h2 := nodup_le (ns := ns.erase a) h1.2 fun k hk => (List.mem_erase_of_ne (fun e => h1.1 (by rw [← e]; exact hk))).mpr (hm k (.tail _ hk))
    have h3 := List.length_erase_of_mem (hm a (.head _))
    have h4 : 0 < ns.length := List.length_pos_of_mem (hm a (.head _))
    rw [List.length_cons]
    omega
theorem sorted_len {ms ns : List Int} (h : ms.Pairwise (· < ·)) (hm : ∀ k ∈ ms, k ∈ ns) : ms.length ≤ ns.length :=
  nodup_le (h.imp fun hab e => by omega) hm
theorem zip_map_self (f : Int → Bool) : ∀ l : List Int, l.zip (l.map f) = l.map fun s => (s, f s)
  | [] => rfl
  | a :: l => by rw [List.map_cons, List.zip_cons_cons, zip_map_self f l]; rfl
theorem rawAll1 (l : List St2) (b : Bool) : rawAll [(l, b)] = rawStarts l := by
  unfold rawAll
  rw [List.flatMap_cons, List.flatMap_nil, List.append_nil]
theorem rng_at {n : Nat} {pre post : List Int} {k : Int} (hx : rngI 0 1 n = pre ++ k :: post) : k = (pre.length : Int) ∧ pre.length < n := by
  have h1 := congrArg List.length hx
  rw [rngI_len, List.length_append, List.length_cons] at h1
  have h2 : (rngI 0 1 n)[pre.length]? = some k := by rw [hx, List.getElem?_append_right (Nat.le_refl _), Nat.sub_self]; rfl
  unfold rngI at h2
  rw [List.getElem?_map, List.getElem?_range (by omega)] at h2
  simp at h2
  exact ⟨by omega, by omega⟩
theorem take_step {α : Type} {xs ys : List α} {j : Nat} (hx : j < xs.length) (hy : j < ys.length) (h : xs.take j = ys.take j) : xs.take (j + 1) = ys.take (j + 1) ↔ xs[j] = ys[j] := by
  have e1 : xs.take (j + 1) = ys.take j ++ [xs[j]] := by rw [List.take_add_one, h, List.getElem?_eq_getElem hx]; rfl
  have e2 : ys.take (j + 1) = ys.take j ++ [ys[j]] := by rw [List.take_add_one, List.getElem?_eq_getElem hy]; rfl
  rw [e1, e2]
  exact ⟨fun z => by simpa using List.append_cancel_left z, fun z => by rw [z]⟩
theorem ne_dec {α : Type} [DecidableEq α] {xs ys : List α} {j : Nat} (hx : j < xs.length) (hy : j < ys.length) (h : xs[j] ≠ ys[j]) : decide (xs = ys) = false := decide_eq_false fun e => by subst e; exact h rfl
section
variable {P : Program} {w : World} {K : Frag} {mg : Str → Option Value} {base : Heap} {C f : Addr} {fd : FuncData}
abbrev s__law_plain_form : Stmt := top 40
abbrev N__law_plain_form : List Str := ["_law_span", "_law_starts_here", "_law_number_here"]
theorem sc__law_plain_form : FnScope N__law_plain_form ["_law_span"] (defScope s__law_plain_form) := ⟨rfl, rfl, rfl, by decide +kernel, rfl, by decide +kernel, by decide +kernel⟩
def S_plain : SP := spc (α := List St2 × Bool) (fun x => [.im (plD x.1 x.2)]) (fun x => x.1.length ≤ 31 ∧ ∀ p ∈ x.1, okS p = true) fun x r => r.dat = .lst ((mergeS x.1).map stD)
theorem ok_plain (F : FD K "_law_plain_form" "_law_plain_form" s__law_plain_form [] f fd) (T : Tx K mg C) (D__law_starts : Df P w K mg base "_law_starts" 3 (spP K S_starts)) (D__law_form : Df P w K mg base "_law_form" 3 (spP K S_form)) (D__law_has : Df P w K mg base "_law_has" 3 (spP K S_has)) (D__law_samples : Df P w K mg base "_law_samples" 3 (spP K S_samples)) : FnOk P w K mg base CX0 (3 + 1) f fd ["_law_span"] (spP K S_plain) := by
  refine fn_spc F sc__law_plain_form (fun x => [some (.im (plD x.1 x.2)), none, none]) fun cdv A outer s H E hr => ?_
  refine ⟨_, (ss_cons (s_asg (i := 1) sc__law_plain_form.nd (px_call D__law_starts (hr.mono (by decide)) (ax_i (px_f (fx_lst (as_cons (px_var 0) as_nil))) ax_nil)))
      (ss_one (s_ret (px_call D__law_form (hr.mono (by decide)) (ax_i (px_var 1) (ax_i (px_f (fx_lc (own := [("_law_number_here", 2)]) rfl sc__law_plain_form.nd (ib_list (bx (px_call D__law_samples (hr.mono (by decide)) (ax_i (px_var 1) ax_nil)))) (blkOk_by (N := N__law_plain_form) (sc := defScope s__law_plain_form) (by decide +kernel)) (fun _ _ _ _ _ => (gx_name (i := 2) sc__law_plain_form.nd)) (fun _ _ _ _ _ => tts_nil) (fun _ _ _ _ _ => (px_call D__law_has (hr.mono (by decide)) (ax_i (px_var 0) (ax_i (px_var 2) ax_nil)))))) ax_nil)))))), ?_⟩
  rintro ⟨l, b⟩ R ⟨hl, hok⟩ hR
  dsimp only at hl hok hR
  walk_at "s"
  have hraw := raw_len l
  refine ⟨by decide, [(l, b)], rfl, ⟨by simp, by rw [rawAll1]; omega⟩, ?_⟩
  rintro _ ⟨ms, h1, h2, rfl⟩
  rw [rawAll1] at h2
  have hms : ms.length ≤ 1000 := by
    have := sorted_len h1 fun k hk => (h2 k).mp hk
    omega
  refine (?_ : S_samples.S [Slot.im (.lst (ms.map D.int))] _)
  refine ⟨ms, rfl, hms, ?_⟩
  rintro _ rfl
  refine lcbM (xs := lo0 ms :: ms) (enc := D.int) (fun i => .bl (memS l i)) (sz (by simp only [List.length_cons]; omega)) (fun i hi => ?_) ?_
  · walk_at "r"
    refine ⟨fun _ => ⟨((l, b), i), rfl, Nat.le_trans hl (by decide), ?_⟩, fun z => (by cases z)⟩
    rintro _ rfl
    rfl
  · refine ⟨(ms, memS l (lo0 ms), ms.map (memS l)), ?_, ⟨hms, List.length_map _⟩, ?_⟩
    · show [Slot.im (.lst (ms.map D.int)), Slot.im (.lst (List.map (fun i => D.bl (memS l i)) (lo0 ms :: ms)))] = [Slot.im (.lst (ms.map D.int)), Slot.im (.lst ((memS l (lo0 ms) :: ms.map (memS l)).map D.bl))]
      rw [List.map_cons, List.map_cons, List.map_map]
      rfl
    · rintro _ rfl
      refine hR _ ?_
      show D.lst ((formS (memS l (lo0 ms)) (ms.zip (ms.map (memS l)))).map stD) = _
      rw [zip_map_self]
      exact congrArg (fun z => D.lst (List.map stD z)) (form_merge hok h1 h2)
end
end Kb
set_option Elab.async false
set_option linter.all false
set_option maxRecDepth 100000
set_option maxHeartbeats 1000000
namespace Kb
open PySem L2 SX
set_option autoImplicit false
/-! ### numbers as texts -/
abbrev Tx0 := List Nat
def digB (c : Nat) : Bool := decide (48 ≤ c) && decide (c ≤ 57)
def dgs (l : Tx0) : Tx0 := if l.head? = some 45 then l.tail else l
def isNum (l : Tx0) : Bool := decide (1 ≤ (dgs l).length ∧ (dgs l).length ≤ 60) && ((dgs l).all digB && (decide (l = [48]) || decide ((dgs l).head? ≠ some 48)))
def numV (l : Tx0) : Int := if l.head? = some 45 then -(NumText.digitsVal l.tail : Nat) else (NumText.digitsVal l : Nat)
def numT (i : Int) : Tx0 := if i < 0 then 45 :: TL.numL i.natAbs else TL.numL i.natAbs
theorem dig_iff {c : Nat} : digB c = true ↔ 48 ≤ c ∧ c ≤ 57 := by unfold digB; simp
theorem dg_all {l : Tx0} (h : l.all digB = true) : NumText.AllDigits l := fun c hc => dig_iff.mp (List.all_eq_true.mp h c hc)
theorem num_str (i : Int) : (toString i : Str) = S (numT i) := by
  unfold numT
  by_cases h : i < 0
  · rw [if_pos h]
    obtain ⟨n, rfl⟩ : ∃ n : Nat, i = Int.negSucc n := ⟨i.natAbs - 1, by omega⟩
    have e : (toString (Int.negSucc n) : String) = "-" ++ toString ((n + 1 : Nat) : Int) := rfl
    have e2 : (Int.negSucc n).natAbs = n + 1 := rfl
    show Str.ofString (toString (Int.negSucc n)) = _
    rw [e, e2]
    apply TL.ext_tl
    rw [TL.tl_ofString, String.toList_append, List.map_append, ← TL.tl_ofString (toString ((n + 1 : Nat) : Int)), TL.tl_num]
    rfl
  · rw [if_neg h]
    obtain ⟨n, rfl⟩ := Int.eq_ofNat_of_zero_le (by omega : 0 ≤ i)
    exact num_S n
theorem num_int {l : Tx0} (h : isNum l = true) : intText? (S l) = some (numV l) := by
  unfold isNum at h
  obtain ⟨h1, h2⟩ := Bool.and_eq_true_iff.mp h
  obtain ⟨h3, h4⟩ := Bool.and_eq_true_iff.mp h2
  obtain ⟨l1, l2⟩ := of_decide_eq_true h1
  have hd := dg_all h3
  have hne : dgs l ≠ [] := fun e => by rw [e] at l1; exact absurd l1 (by decide)
  unfold numV
  unfold dgs at hd hne l2
  by_cases q : l.head? = some 45
  · rw [if_pos q] at hd hne l2 ⊢
    cases l with
    | nil => cases q
    | cons c r =>
      cases q
      exact PySem.intText_neg (x := S (45 :: r)) rfl hd hne (by rw [S_len, List.length_cons]; simp only [List.tail_cons] at l2; omega)
  · rw [if_neg q] at hd hne l2 ⊢
    exact PySem.intText_digits (x := S l) hd hne (by rw [S_len]; omega)
theorem num_len {l : Tx0} (h : isNum l = true) : l.length ≤ 61 := by
  unfold isNum at h
  obtain ⟨l1, l2⟩ := of_decide_eq_true (Bool.and_eq_true_iff.mp h).1
  unfold dgs at l2
  split at l2
  · rw [List.length_tail] at l2; omega
  · omega
/-- digits without a leading zero -/
theorem dig_back : ∀ (n : Nat) (l : Tx0), l.length = n → NumText.AllDigits l → l ≠ [] → (l = [48] ∨ l.head? ≠ some 48) → TL.numL (NumText.digitsVal l) = l ∧ (l ≠ [48] → 1 ≤ NumText.digitsVal l) := by
  intro n
  induction n with
  | zero => intro l hl _ hne; exact absurd (List.length_eq_zero_iff.mp hl) hne
  | succ n ih =>
    intro l hl hd hne h0
    obtain ⟨init, c, rfl⟩ : ∃ init c, l = init ++ [c] := ⟨l.dropLast, l.getLast hne, (List.dropLast_concat_getLast hne).symm⟩
    have hc := hd c (List.mem_append_right _ (.head _))
    have ev : NumText.digitsVal (init ++ [c]) = NumText.digitsVal init * 10 + (c - 48) := by
      unfold NumText.digitsVal
      rw [List.foldl_append]
      rfl
    cases init with
    | nil =>
      rw [ev]
      have e0 : NumText.digitsVal ([] : Tx0) = 0 := rfl
      rw [e0, TL.numL_lt (by omega)]
      refine ⟨by rw [show 48 + (0 * 10 + (c - 48)) = c by omega]; rfl, fun z => ?_⟩
      have : c ≠ 48 := fun e => z (by rw [e]; rfl)
      omega
    | cons a r =>
      have ha : a ≠ 48 := fun e => by
        rcases h0 with h0 | h0
        · have := congrArg List.length h0
          simp at this
        · exact h0 (by rw [e]; rfl)
      obtain ⟨i1, i2⟩ := ih (a :: r) (by simp at hl ⊢; omega) (fun d hd' => hd d (List.mem_append_left _ hd')) (by simp) (.inr fun e => ha (by simpa using e))
      have h1 := i2 fun e => ha (by injection e)
      rw [ev]
      refine ⟨?_, fun _ => by omega⟩
      rw [TL.numL_step (by omega), show (NumText.digitsVal (a :: r) * 10 + (c - 48)) / 10 = NumText.digitsVal (a :: r) by omega, i1, show 48 + (NumText.digitsVal (a :: r) * 10 + (c - 48)) % 10 = c by omega]
theorem num_parts {l : Tx0} (h : isNum l = true) : NumText.AllDigits (dgs l) ∧ dgs l ≠ [] ∧ (dgs l = [48] ∨ (dgs l).head? ≠ some 48) ∧ (l.head? = some 45 → (dgs l).head? ≠ some 48) := by
  unfold isNum at h
  obtain ⟨h1, h2⟩ := Bool.and_eq_true_iff.mp h
  obtain ⟨h3, h4⟩ := Bool.and_eq_true_iff.mp h2
  obtain ⟨l1, l2⟩ := of_decide_eq_true h1
  refine ⟨dg_all h3, fun e => by rw [e] at l1; exact absurd l1 (by decide), ?_, fun q => ?_⟩
  · rcases Bool.or_eq_true_iff.mp h4 with h | h
    · have e := of_decide_eq_true h
      refine .inl ?_
      rw [e]
      rfl
    · exact .inr (of_decide_eq_true h)
  · rcases Bool.or_eq_true_iff.mp h4 with h | h
    · have e := of_decide_eq_true h
      rw [e] at q
      cases q
    · exact of_decide_eq_true h
theorem num_back {l : Tx0} (h : isNum l = true) : numT (numV l) = l := by
  obtain ⟨hd, hne, h0, hm⟩ := num_parts h
  have hb := dig_back _ (dgs l) rfl hd hne h0
  unfold numT numV
  by_cases q : l.head? = some 45
  · have hm := hm q
    have e : dgs l = l.tail := by unfold dgs; rw [if_pos q]
    rw [e] at hb hm
    have h1 := hb.2 fun z => hm (by rw [z]; rfl)
    rw [if_pos q, if_pos (by omega), show (-(NumText.digitsVal l.tail : Int)).natAbs = NumText.digitsVal l.tail by omega, hb.1]
    cases l with
    | nil => cases q
    | cons c r => cases q; rfl
  · have e : dgs l = l := by unfold dgs; rw [if_neg q]
    rw [e] at hb
    rw [if_neg q, if_neg (by omega), Int.natAbs_natCast, hb.1]
theorem numL_hd {n : Nat} (h : 1 ≤ n) : (TL.numL n).head? ≠ some 48 := by
  induction n using Nat.strongRecOn with
  | _ n ih =>
    by_cases q : n < 10
    · rw [TL.numL_lt q]
      simp
      omega
    · rw [TL.numL_step (by omega)]
      have := ih (n / 10) (by omega) (by omega)
      cases e : TL.numL (n / 10) with
      | nil => exact absurd e (TL.numL_ne _)
      | cons a r => rw [e] at this; simpa using this
theorem num_is {i : Int} (h : i.natAbs < 10 ^ 60) : isNum (numT i) = true := by
  have hl : (TL.numL i.natAbs).length ≤ 60 := TL.numL_len (by decide) h
  have hne := TL.numL_ne i.natAbs
  have h1 : 1 ≤ (TL.numL i.natAbs).length := Nat.one_le_iff_ne_zero.mpr fun e => hne (List.length_eq_zero_iff.mp e)
  have hd : (TL.numL i.natAbs).all digB = true := List.all_eq_true.mpr fun c hc => dig_iff.mpr (TL.numL_digits _ c hc)
  have key : dgs (numT i) = TL.numL i.natAbs ∧ (numT i = [48] ∨ (TL.numL i.natAbs).head? ≠ some 48) := by
    unfold numT dgs
    by_cases q : i < 0
    · rw [if_pos q]
      exact ⟨rfl, .inr (numL_hd (by omega))⟩
    · rw [if_neg q]
      have hn : (TL.numL i.natAbs).head? ≠ some 45 := fun e => by
        have := TL.numL_digits i.natAbs 45 (List.mem_of_head? e)
        omega
      rw [if_neg hn]
      refine ⟨rfl, ?_⟩
      by_cases z : i = 0
      · subst z; exact .inl (TL.numL_lt (by decide))
      · exact .inr (numL_hd (by omega))
  unfold isNum
  rw [key.1, hd, decide_eq_true ⟨h1, hl⟩, Bool.true_and, Bool.true_and]
  rcases key.2 with k | k
  · rw [decide_eq_true k]; rfl
  · rw [decide_eq_true k, Bool.or_true]
theorem num_val (i : Int) : numV (numT i) = i := by
  unfold numV numT
  by_cases q : i < 0
  · rw [if_pos q]
    show (if (some 45 : Option Nat) = some 45 then -(NumText.digitsVal (TL.numL i.natAbs) : Int) else _) = i
    rw [if_pos rfl, TL.numL_val]
    omega
  · rw [if_neg q]
    have hn : (TL.numL i.natAbs).head? ≠ some 45 := fun e => by
      have := TL.numL_digits i.natAbs 45 (List.mem_of_head? e)
      omega
    rw [if_neg hn, TL.numL_val]
    omega
theorem digV_lt : ∀ l : Tx0, NumText.AllDigits l → NumText.digitsVal l < 10 ^ l.length := by
  have go : ∀ (l : Tx0) (a : Nat), NumText.AllDigits l → l.foldl (fun acc c => acc * 10 + (c - 48)) a < (a + 1) * 10 ^ l.length := by
    intro l
    induction l with
    | nil => intro a _; simp
    | cons c r ih =>
      intro a h
      have hc := h c (.head _)
      have := ih (a * 10 + (c - 48)) fun d hd => h d (.tail _ hd)
      rw [List.foldl_cons, List.length_cons, Nat.pow_succ]
      refine Nat.lt_of_lt_of_le this ?_
      rw [Nat.mul_comm (10 ^ r.length) 10, ← Nat.mul_assoc]
      exact Nat.mul_le_mul_right _ (by omega)
  intro l h
  have := go l 0 h
  simpa [NumText.digitsVal] using this
theorem num_bd {l : Tx0} (h : isNum l = true) : (numV l).natAbs < 10 ^ 60 := by
  obtain ⟨hd, _, _, _⟩ := num_parts h
  have h1 := digV_lt _ hd
  unfold isNum at h
  obtain ⟨l1, l2⟩ := of_decide_eq_true (Bool.and_eq_true_iff.mp h).1
  have h2 : NumText.digitsVal (dgs l) < 10 ^ 60 := Nat.lt_of_lt_of_le h1 (Nat.pow_le_pow_right (by decide) l2)
  unfold numV
  unfold dgs at h2
  split at h2
  · rename_i q
    rw [if_pos q]
    omega
  · rename_i q
    rw [if_neg q]
    omega
theorem num_log {i : Int} (h : i.natAbs < 10 ^ 60) : i.natAbs.log2 < 1920 := by
  by_cases z : i.natAbs = 0
  · rw [z]; decide
  · exact Nat.lt_trans ((Nat.log2_lt z).mpr (Nat.lt_trans h (by decide : 10 ^ 60 < 2 ^ 200))) (by decide)
/-- the signs of a number -/
theorem num_sgn (i : Int) : ∀ c ∈ numT i, c = 45 ∨ (48 ≤ c ∧ c ≤ 57) := by
  intro c hc
  unfold numT at hc
  split at hc
  · rcases List.mem_cons.mp hc with rfl | hc
    · exact .inl rfl
    · exact .inr (TL.numL_digits _ c hc)
  · exact .inr (TL.numL_digits _ c hc)
theorem isNum_sgn {l : Tx0} (h : isNum l = true) : ∀ c ∈ l, c = 45 ∨ (48 ≤ c ∧ c ≤ 57) := by
  rw [← num_back h]
  exact num_sgn _
theorem isNum_nil : isNum [] = false := by decide
theorem sw_minus (l : Tx0) : Txt.startswith (S l) (S [45]) = decide (l.head? = some 45) := by
  unfold Txt.startswith
  have h := StrLaws.subAt_one (S l) 45 0
  have e0 : (S l).cps.toList[0]? = l.head? := by
    show l[0]? = _
    cases l <;> rfl
  rw [e0] at h
  by_cases q : l.head? = some 45
  · rw [decide_eq_true q]
    obtain ⟨h1, h2⟩ := h.mpr q
    exact Bool.and_eq_true_iff.mpr ⟨decide_eq_true h1, h2⟩
  · rw [decide_eq_false q]
    cases z : (decide (0 + (S [45]).length ≤ (S l).length) && Builtin.Str.subAt (S l) (S [45]) 0) with
    | false => rfl
    | true =>
      obtain ⟨h1, h2⟩ := Bool.and_eq_true_iff.mp z
      exact absurd (h.mp ⟨of_decide_eq_true h1, h2⟩) q
end Kb
set_option Elab.async false
set_option linter.all false
set_option maxRecDepth 100000
set_option maxHeartbeats 1000000
namespace Kb
open PySem L2 SX
set_option autoImplicit false
/-! ### a stretch as a text -/
abbrev dotS : Tx0 := [46, 46]
abbrev comS : Tx0 := [44, 32]
def endT : Cn → Tx0
  | none => []
  | some i => numT i
def endV (l : Tx0) : Cn := if l = [] then none else some (numV l)
def endOk (l : Tx0) : Bool := decide (l = []) || isNum l
def stT (p : St2) : Tx0 := if p.1.isSome && decide (p.1 = p.2) then endT p.1 else endT p.1 ++ (dotS ++ endT p.2)
def rdS (l : Tx0) : Option St2 := match TL.par dotS [] l with
  | some (a, b) => if endOk a && (endOk b && okS (endV a, endV b)) then some (endV a, endV b) else none
  | none => if isNum l then some (some (numV l), some (numV l)) else none
def bd60 (p : St2) : Prop := ∀ i, (p.1 = some i ∨ p.2 = some i) → i.natAbs < 10 ^ 60
theorem numT_ne (i : Int) : numT i ≠ [] := by
  unfold numT
  split
  · simp
  · exact TL.numL_ne _
theorem num_free {i : Int} {s : Nat} (h : s < 45 ∨ 45 < s ∧ s < 48 ∨ 57 < s) : s ∉ numT i := fun hm => by
  have := num_sgn i s hm
  omega
theorem end_free {x : Cn} {s : Nat} (h : s < 45 ∨ 45 < s ∧ s < 48 ∨ 57 < s) : s ∉ endT x := by
  cases x with
  | none => intro z; cases z
  | some i => exact num_free h
theorem isNum_free {l : Tx0} (hl : isNum l = true) {s : Nat} (h : s < 45 ∨ 45 < s ∧ s < 48 ∨ 57 < s) : s ∉ l := fun hm => by
  have := isNum_sgn hl s hm
  omega
theorem endOk_free {l : Tx0} (hl : endOk l = true) {s : Nat} (h : s < 45 ∨ 45 < s ∧ s < 48 ∨ 57 < s) : s ∉ l := by
  rcases Bool.or_eq_true_iff.mp hl with e | e
  · rw [of_decide_eq_true e]; intro z; cases z
  · exact isNum_free e h
theorem endV_T {x : Cn} (h : ∀ i, x = some i → i.natAbs < 10 ^ 60) : endV (endT x) = x ∧ endOk (endT x) = true := by
  cases x with
  | none => exact ⟨rfl, rfl⟩
  | some i =>
    unfold endV endOk endT
    rw [if_neg (numT_ne i), num_val, num_is (h i rfl), Bool.or_true]
    exact ⟨rfl, rfl⟩
/-- the read-back of a stretch -/
theorem rd_st {p : St2} (hok : okS p = true) (hb : bd60 p) : rdS (stT p) = some p := by
  obtain ⟨a, b⟩ := p
  unfold stT
  have ha := endV_T (x := a) fun i e => hb i (.inl e)
  have hbb := endV_T (x := b) fun i e => hb i (.inr e)
  by_cases q : (a.isSome && decide (a = b)) = true
  · rw [if_pos q]
    obtain ⟨q1, q2⟩ := Bool.and_eq_true_iff.mp q
    have e := of_decide_eq_true q2
    subst e
    cases a with
    | none => cases q1
    | some i =>
      unfold rdS
      rw [par_head_none (end_free (by decide))]
      show (if isNum (numT i) = true then _ else _) = _
      rw [num_is (hb i (.inl rfl)), if_pos rfl]
      show some (some (numV (numT i)), some (numV (numT i))) = _
      rw [num_val]
  · rw [if_neg q]
    unfold rdS
    rw [show dotS = 46 :: [46] from rfl, par_head (endT b) (end_free (by decide))]
    dsimp only
    rw [ha.2, hbb.2, ha.1, hbb.1, hok]
    rfl
theorem rd_ok {l : Tx0} {p : St2} (h : rdS l = some p) : okS p = true ∧ bd60 p := by
  unfold rdS at h
  have eb : ∀ a, endOk a = true → ∀ i, endV a = some i → i.natAbs < 10 ^ 60 := fun a ha i hi => by
    unfold endV at hi
    split at hi
    · cases hi
    · rename_i hne
      cases hi
      rcases Bool.or_eq_true_iff.mp ha with e | e
      · exact absurd (of_decide_eq_true e) hne
      · exact num_bd e
  split at h
  · split at h
    · rename_i c
      obtain ⟨c1, c2⟩ := Bool.and_eq_true_iff.mp c
      obtain ⟨c2, c3⟩ := Bool.and_eq_true_iff.mp c2
      cases h
      exact ⟨c3, fun i hi => hi.elim (eb _ c1 i) (eb _ c2 i)⟩
    · cases h
  · split at h
    · rename_i c
      cases h
      refine ⟨by unfold okS; simp, fun i hi => ?_⟩
      have := num_bd c
      rcases hi with hi | hi <;> cases hi <;> exact this
    · cases h
/-- what the law looks for: a place with two points -/
def atDot (l : Tx0) (k : Nat) : Bool := decide ((l.drop k).take 2 = dotS) && (endOk (l.take k) && (endOk (l.drop (k + 2)) && okS (endV (l.take k), endV (l.drop (k + 2)))))
theorem pre_dot (l : Tx0) (k : Nat) : TL.pre dotS (l.drop k) = decide ((l.drop k).take 2 = dotS) := by
  unfold TL.pre
  show ((l.drop k).take 2 == dotS) = _
  by_cases h : (l.drop k).take 2 = dotS
  · rw [decide_eq_true h, h]; rfl
  · rw [decide_eq_false h]; exact beq_eq_false_iff_ne.mpr h
theorem take2_split {l : Tx0} {k : Nat} (h : (l.drop k).take 2 = dotS) : l = l.take k ++ (dotS ++ l.drop (k + 2)) ∧ (l.take k).length = k := by
  have e : l.drop k = dotS ++ l.drop (k + 2) := by
    rw [← h, ← List.drop_drop]
    exact (List.take_append_drop 2 _).symm
  refine ⟨by rw [← e, List.take_append_drop], ?_⟩
  have hl : k ≤ l.length := by
    rcases Nat.lt_or_ge l.length k with q | q
    · rw [List.drop_eq_nil_of_le (by omega)] at h; cases h
    · exact q
  rw [List.length_take]; omega
/-- found at a place: this is what is read -/
theorem rd_at {l : Tx0} {k : Nat} (h : atDot l k = true) : rdS l = some (endV (l.take k), endV (l.drop (k + 2))) := by
  unfold atDot at h
  obtain ⟨h1, h2⟩ := Bool.and_eq_true_iff.mp h
  obtain ⟨h2, h3⟩ := Bool.and_eq_true_iff.mp h2
  obtain ⟨h3, h4⟩ := Bool.and_eq_true_iff.mp h3
  obtain ⟨e, _⟩ := take2_split (of_decide_eq_true h1)
  unfold rdS
  have ep : TL.par dotS [] l = some (l.take k, l.drop (k + 2)) := by
    conv => lhs; rw [e]
    exact par_head _ (endOk_free h2 (by decide))
  rw [ep]
  dsimp only
  rw [h2, h3, h4]
  rfl
/-- read: found at some place, or a number -/
theorem rd_some {l : Tx0} {p : St2} (h : rdS l = some p) : isNum l = true ∧ p = (some (numV l), some (numV l)) ∨ ∃ k, k + 1 < l.length ∧ atDot l k = true := by
  unfold rdS at h
  split at h
  · rename_i a b hp
    split at h
    · rename_i c
      have key : ∀ (l acc a b : Tx0), TL.par dotS acc l = some (a, b) → ∃ k, a = acc ++ l.take k ∧ b = l.drop (k + 2) ∧ (l.drop k).take 2 = dotS := by
        intro l
        induction l with
        | nil => intro acc a b h; cases h
        | cons c r ih =>
          intro acc a b h
          cases hq : TL.pre dotS (c :: r) with
          | true =>
            rw [TL.par_hit hq] at h
            cases h
            refine ⟨0, by simp, rfl, ?_⟩
            have := pre_dot (c :: r) 0
            rw [List.drop_zero, hq] at this
            rw [List.drop_zero]
            exact of_decide_eq_true this.symm
          | false =>
            rw [TL.par_miss hq] at h
            obtain ⟨k, h1, h2, h3⟩ := ih _ _ _ h
            exact ⟨k + 1, by rw [h1]; simp, h2, h3⟩
      obtain ⟨k, h1, h2, h3⟩ := key l [] a b hp
      rw [List.nil_append] at h1
      refine .inr ⟨k, ?_, ?_⟩
      · have := congrArg List.length h3
        rw [List.length_take, List.length_drop] at this
        simp only [List.length_cons, List.length_nil] at this
        omega
      · unfold atDot
        rw [← h1, ← h2, decide_eq_true h3]
        exact c
    · cases h
  · split at h
    · rename_i c
      cases h
      exact .inl ⟨c, rfl⟩
    · cases h
theorem rd_num {l : Tx0} (h : isNum l = true) : rdS l = some (some (numV l), some (numV l)) := by
  unfold rdS
  rw [par_head_none (isNum_free h (by decide))]
  dsimp only
  rw [if_pos h]
/-! ### a part of a text; a text -/
abbrev noneT : Tx0 := [110, 111, 110, 101]
abbrev nothT : Tx0 := [110, 111, 116, 104, 105, 110, 103]
def rdP (l : Tx0) : Option (List St2 × Bool) := if l = noneT then some ([], true) else (rdS l).map fun p => ([p], false)
abbrev Rd := Nat ⊕ (List St2 × Bool)
def rdA : List Tx0 → Nat → List St2 × Bool → Rd
  | [], _, acc => .inr acc
  | l :: ls, k, acc => match rdP l with
    | none => .inl k
    | some x => rdA ls (k + 1) (acc.1 ++ x.1, acc.2 || x.2)
def RD (t : Tx0) : Rd := if t = nothT then .inr ([], false) else rdA (TL.spl comS 0 [] t) 0 ([], false)
def wrds (l : List St2) (b : Bool) : List Tx0 := (if b then [noneT] else []) ++ l.map stT
def spT (l : List St2) (b : Bool) : Tx0 := if wrds l b = [] then nothT else TL.joinL comS (wrds l b)
theorem rdA_sts : ∀ (l : List St2) (k : Nat) (acc : List St2 × Bool), (∀ p ∈ l, okS p = true ∧ bd60 p ∧ stT p ≠ noneT) → rdA (l.map stT) k acc = .inr (acc.1 ++ l, acc.2)
  | [], k, acc, _ => by rw [List.append_nil]; rfl
  | p :: l, k, acc, h => by
    obtain ⟨h1, h2, h3⟩ := h p (.head _)
    show (match rdP (stT p) with
      | none => (.inl k : Rd)
      | some x => rdA (l.map stT) (k + 1) (acc.1 ++ x.1, acc.2 || x.2)) = _
    have e : rdP (stT p) = some ([p], false) := by
      unfold rdP
      rw [if_neg h3, rd_st h1 h2]
      rfl
    rw [e]
    dsimp only
    rw [rdA_sts l (k + 1) _ fun q hq => h q (.tail _ hq)]
    simp
theorem st_sgn {p : St2} : ∀ c ∈ stT p, c = 45 ∨ c = 46 ∨ (48 ≤ c ∧ c ≤ 57) := by
  have he : ∀ x : Cn, ∀ c ∈ endT x, c = 45 ∨ c = 46 ∨ (48 ≤ c ∧ c ≤ 57) := fun x c hc => by
    cases x with
    | none => cases hc
    | some i => rcases num_sgn i c hc with h | h
                · exact .inl h
                · exact .inr (.inr h)
  intro c hc
  unfold stT at hc
  split at hc
  · exact he _ c hc
  · rcases List.mem_append.mp hc with hc | hc
    · exact he _ c hc
    · rcases List.mem_append.mp hc with hc | hc
      · simp at hc; exact .inr (.inl hc)
      · exact he _ c hc
theorem st_nn (p : St2) : stT p ≠ noneT := fun e => by
  have := st_sgn (p := p) 110 (by rw [e]; exact .head _)
  omega
/-- the read-back of a span -/
theorem rd_sp {l : List St2} {b : Bool} (h : ∀ p ∈ l, okS p = true ∧ bd60 p) : RD (spT l b) = .inr (l, b) := by
  unfold RD spT
  by_cases hw : wrds l b = []
  · rw [if_pos hw, if_pos rfl]
    unfold wrds at hw
    obtain ⟨h1, h2⟩ := List.append_eq_nil_iff.mp hw
    have e1 : b = false := by
      cases b with
      | false => rfl
      | true => cases h1
    have e2 := List.map_eq_nil_iff.mp h2
    rw [e1, e2]
  · rw [if_neg hw]
    have hfree : ∀ p ∈ wrds l b, (44 : Nat) ∉ p := fun p hp => by
      rcases List.mem_append.mp hp with hp | hp
      · split at hp
        · rw [List.mem_singleton.mp hp]; decide
        · cases hp
      · obtain ⟨q, _, rfl⟩ := List.mem_map.mp hp
        intro z
        have := st_sgn (p := q) 44 z
        omega
    have hne : TL.joinL comS (wrds l b) ≠ nothT := fun e => by
      have hs := TL.spl_join (s := 44) (S := [32]) hw hfree
      rw [show (44 :: [32] : Tx0) = comS from rfl, e] at hs
      have e2 : wrds l b = [nothT] := hs.symm.trans (by decide)
      unfold wrds at e2
      cases b with
      | true =>
        have := (List.cons.inj e2).1
        exact absurd this (by decide)
      | false =>
        cases l with
        | nil => cases e2
        | cons p l =>
          have := (List.cons.inj e2).1
          have := st_sgn (p := p) 110 (by rw [this]; exact .head _)
          omega
    rw [if_neg hne, show comS = 44 :: [32] from rfl, TL.spl_join hw hfree]
    unfold wrds
    have h3 : ∀ p ∈ l, okS p = true ∧ bd60 p ∧ stT p ≠ noneT := fun p hp => ⟨(h p hp).1, (h p hp).2, st_nn p⟩
    cases b with
    | false =>
      show rdA (l.map stT) 0 ([], false) = _
      rw [rdA_sts l 0 _ h3]
      rfl
    | true =>
      show rdA (l.map stT) 1 ([] ++ [], false || true) = _
      rw [rdA_sts l 1 _ h3]
      rfl
theorem rdA_ok : ∀ (ws : List Tx0) (k : Nat) (acc x : List St2 × Bool), (∀ p ∈ acc.1, okS p = true ∧ bd60 p) → rdA ws k acc = .inr x → (∀ p ∈ x.1, okS p = true ∧ bd60 p) ∧ x.1.length ≤ acc.1.length + ws.length
  | [], k, acc, x, h, e => by cases e; exact ⟨h, Nat.le_refl _⟩
  | l :: ls, k, acc, x, h, e => by
    have e' : (match rdP l with
      | none => .inl k
      | some y => rdA ls (k + 1) (acc.1 ++ y.1, acc.2 || y.2)) = (.inr x : Rd) := e
    cases hp : rdP l with
    | none => rw [hp] at e'; cases e'
    | some y =>
      rw [hp] at e'
      have hy : (∀ p ∈ y.1, okS p = true ∧ bd60 p) ∧ y.1.length ≤ 1 := by
        unfold rdP at hp
        split at hp
        · cases hp; exact ⟨fun p hp => (by cases hp), by simp⟩
        · obtain ⟨q, h1, h2⟩ := Option.map_eq_some_iff.mp hp
          rw [← h2]
          exact ⟨fun p hp => (by rw [List.mem_singleton.mp hp]; exact rd_ok h1), by simp⟩
      obtain ⟨r1, r2⟩ := rdA_ok ls (k + 1) _ x (fun p hp => (List.mem_append.mp hp).elim (h p) (hy.1 p)) e'
      refine ⟨r1, ?_⟩
      rw [List.length_append] at r2
      rw [List.length_cons]
      omega
end Kb
set_option Elab.async false
set_option linter.all false
set_option maxRecDepth 100000
set_option maxHeartbeats 1000000
namespace Kb
open PySem L2 SX
set_option autoImplicit false
local macro_rules | `(tactic| walk_at "r") => `(tactic| try simp only [sSeq, sNext, sRet, sRetF, sRetO, sAsg, sAsgF, sAsgM, sAsgR, rCl, rMe, sRetM, sIf, sIfM, sDrop, sDropM, sUnp, sAug, sFor, sForM, sApp, sSetI, sDPu, sDPuT, sDNew, sDNewT, sDOne, sFldI, sBreak, sCont, fLc, xDc, xF, xVar, D.fl, bVar, xC, x2, b2, fAdd, fI, fI0, fB0, fEq, fNe, fIn, fIs, fIsNot, D.isN, xNeg, bTru, bNot, bAnd, bOr, bCh, xAnd, xOr, xNot, xIfE, xFld, fIx, fSl, oNo, oSo, aNil, aCons, xTup, fLst, fCat, xCall, fCall, fLen, fAbs, fInt, fList, fTuple, fIsi, D.ty, fAny, fSrt, fMin, xIdx, fSS, fDIn, xDGet, xDGetT, keyD, keysD, gN, gsN, gsC, gTu, iL, iT, iR1, iR2, iR3, iR1M, bYes, wipeE, free, Slot.ad, Slot.dat, Slot.par, axNil, axI, axB, xCl, fCl, xMe, fMe, xMk, fGen, mP, m2, bm2, mCl, mTup, mLst, mSS, amNil, amCons, gPlain, gThen, gNil, gYield, zP, zM, zTP, zD, z2, bz2, zTru, zNot, zAnd, zOr, zNil, zCons, zTup, zLst, zCl, zClX, zFld, zMkS, sAsgZ, sRetZ, sIfZ, sDropZ, sRaise, sTry, sRetR, sRetV, sRetMF, mF, mLc, iP, xR, fR, xClF, rMe0, fLRg, fSrtQ, iEnV, xEFld, fIsX, cvV, cD_none, cD_some, stD, lk_st, lk_hn, lk_sz, eqD_int, sh_int, sh60_ints, inL_ints, xSl, sSlI, zMkL, rMeL, rMeL0, zMeX0, fIsL, fIsM, fOwn, fSortK, srtKB, sExt, mPop, sUnpM, fMax2, fMin2, fSum, fLtT, fSSI, sRaise0, sTryF, sAsgX, rMeX0, sFrz, fBool, fBoolO, fInO, fOwnT, xMkL, xOwn1, zSta, rSta, rS0, rClX, fIsB, fInT, aStar, iZip, fLc2, fOwnN, fNeL, fIsA, sAppM, mSl, lk_sp, lk_co, xM1, xSlS, fIxS, fInS, xJoin, mJoin, fStr, fIntS, jD, xJs, iStrT, iEn, fMulS, mCall, sAsgLM, sUnpZ, fStrO, Bool.false_xor, Bool.true_xor,
  List.map_cons, List.map_nil, List.length_cons, List.length_nil, List.getElem?_cons_succ, List.getElem?_cons_zero, List.set_cons_succ, List.set_cons_zero, List.cons_append, List.nil_append, Option.isNone_none, Option.map_some, Option.map_none, true_and, and_true, if_true, if_false, rngD_ints, Int.add_sub_cancel, Bool.false_eq_true, List.length_map])
local macro_rules | `(tactic| walk_at "s") => `(tactic| try simp only [sSeq, sNext, sRet, sRetF, sRetO, sAsg, sAsgF, sAsgM, sAsgR, rCl, rMe, sRetM, sDrop, sDropM, sUnp, sAug, sFor, sForM, sApp, sSetI, sDPu, sDPuT, sDNew, sDNewT, sDOne, sFldI, sBreak, sCont, fLc, xDc, xF, xVar, D.fl, bVar, xC, x2, b2, fAdd, fI, fI0, fB0, fEq, fNe, fIn, fIs, fIsNot, D.isN, xNeg, bTru, bNot, bAnd, bOr, bCh, xAnd, xOr, xNot, xIfE, xFld, fIx, fSl, oNo, oSo, aNil, aCons, xTup, fLst, fCat, xCall, fCall, fLen, fAbs, fInt, fList, fTuple, fIsi, D.ty, fAny, fSrt, fMin, xIdx, fSS, fDIn, xDGet, xDGetT, keyD, keysD, gN, gsN, gsC, gTu, iL, iT, iR1, iR2, iR3, iR1M, bYes, wipeE, free, Slot.ad, Slot.dat, Slot.par, axNil, axI, axB, xCl, fCl, xMe, fMe, xMk, fGen, mP, m2, bm2, mCl, mTup, mLst, mSS, amNil, amCons, gPlain, gThen, gNil, gYield, zP, zM, zTP, zD, z2, bz2, zTru, zNot, zAnd, zOr, zNil, zCons, zTup, zLst, zCl, zClX, zFld, zMkS, sAsgZ, sRetZ, sDropZ, sRaise, sTry, sRetR, sRetV, sRetMF, mF, mLc, iP, xR, fR, xClF, rMe0, fLRg, fSrtQ, iEnV, xEFld, fIsX, cvV, cD_none, cD_some, stD, lk_st, lk_hn, lk_sz, eqD_int, sh_int, sh60_ints, inL_ints, xSl, sSlI, zMkL, rMeL, rMeL0, zMeX0, fIsL, fIsM, fOwn, fSortK, srtKB, sExt, mPop, sUnpM, fMax2, fMin2, fSum, fLtT, fSSI, sRaise0, sTryF, sAsgX, rMeX0, sFrz, fBool, fBoolO, fInO, fOwnT, xMkL, xOwn1, zSta, rSta, rS0, rClX, fIsB, fInT, aStar, iZip, fLc2, fOwnN, fNeL, fIsA, sAppM, mSl, lk_sp, lk_co, xM1, xSlS, fIxS, fInS, xJoin, mJoin, fStr, fIntS, jD, xJs, iStrT, iEn, fMulS, mCall, sAsgLM, sUnpZ, fStrO, Bool.false_xor, Bool.true_xor,
  List.map_cons, List.map_nil, List.length_cons, List.length_nil, List.getElem?_cons_succ, List.getElem?_cons_zero, List.set_cons_succ, List.set_cons_zero, List.cons_append, List.nil_append, Option.isNone_none, Option.map_some, Option.map_none, true_and, and_true, if_true, if_false, rngD_ints, Int.add_sub_cancel, Bool.false_eq_true, List.length_map])
theorem lit (x : String) : Str.ofString x = S (x.toList.map Char.toNat) := TL.ext_tl (TL.tl_ofString x)
theorem cutS_from (l : Tx0) (k : Nat) : cutS (S l) (some (k : Int)) none = S (l.drop k) := by
  unfold cutS HT.sIx
  rw [S_len]
  simp only [show ¬ ((k : Int) < 0) by omega, if_false]
  apply TL.ext_tl
  show (l.drop _).take _ = l.drop k
  rcases Nat.lt_or_ge k l.length with q | q
  · rw [show min (k : Int).toNat l.length = k by omega, List.take_of_length_le (by rw [List.length_drop]; omega)]
  · rw [show min (k : Int).toNat l.length = l.length by omega, List.drop_eq_nil_of_le (Nat.le_refl _), List.drop_eq_nil_of_le q]
    simp
theorem cutS_to (l : Tx0) (k : Nat) : cutS (S l) none (some (k : Int)) = S (l.take k) := by
  unfold cutS HT.sIx
  rw [S_len]
  simp only [show ¬ ((k : Int) < 0) by omega, if_false]
  apply TL.ext_tl
  show (l.drop _).take _ = l.take k
  rcases Nat.lt_or_ge k l.length with q | q
  · rw [show min (k : Int).toNat l.length = k by omega]
    simp
  · rw [show min (k : Int).toNat l.length = l.length by omega, List.take_of_length_le q]
    simp
theorem cutS_mid (l : Tx0) (k j : Nat) (h : k + j ≤ l.length) : cutS (S l) (some (k : Int)) (some ((k + j : Nat) : Int)) = S ((l.drop k).take j) := by
  unfold cutS HT.sIx
  rw [S_len]
  simp only [show ¬ ((k : Int) < 0) by omega, show ¬ (((k + j : Nat) : Int) < 0) by omega, if_false]
  apply TL.ext_tl
  show (l.drop _).take _ = (l.drop k).take j
  rw [show min (k : Int).toNat l.length = k by omega, show min ((k + j : Nat) : Int).toNat l.length = k + j by omega, show k + j - k = j by omega]
theorem eqD_str (a b : Str) : eqD (.str a) (.str b) = (a == b) := rfl
theorem eqD_S (a b : Tx0) : eqD (.str (S a)) (.str (S b)) = decide (a = b) := by rw [eqD_str, S_beq_eq]
structure TOk (l : Tx0) : Prop where
  len : l.length ≤ 5000
  asc : ∀ c ∈ l, c < 128
theorem sh_S {n : Nat} {l : Tx0} (h : TOk l) : D.sh n (.str (S l)) = true := by
  have e : PyData.strOk (S l) = true := by
    show (S l).cps.all (· < 0x110000) = true
    rw [← Array.all_toList]
    exact List.all_eq_true.mpr fun c hc => decide_eq_true (Nat.lt_trans (h.asc c hc) (by decide))
  cases n <;> exact e
theorem TOk.dgs {l : Tx0} (h : TOk l) : TOk (dgs l) := by
  have e : ∀ c ∈ Kb.dgs l, c ∈ l := fun c hc => by
    unfold Kb.dgs at hc
    split at hc
    · exact List.mem_of_mem_tail hc
    · exact hc
  refine ⟨?_, fun c hc => h.asc c (e c hc)⟩
  have := h.len
  unfold Kb.dgs
  split
  · rw [List.length_tail]; omega
  · exact this
theorem TOk.take {l : Tx0} (h : TOk l) (k : Nat) : TOk (l.take k) := ⟨by rw [List.length_take]; have := h.len; omega, fun c hc => h.asc c (List.mem_of_mem_take hc)⟩
theorem TOk.drop {l : Tx0} (h : TOk l) (k : Nat) : TOk (l.drop k) := ⟨by rw [List.length_drop]; have := h.len; omega, fun c hc => h.asc c (List.mem_of_mem_drop hc)⟩
theorem TOk.of {l : Tx0} (h : (decide (l.length ≤ 5000) && l.all fun c => decide (c < 128)) = true) : TOk l := by
  obtain ⟨h1, h2⟩ := Bool.and_eq_true_iff.mp h
  exact ⟨of_decide_eq_true h1, fun c hc => of_decide_eq_true (List.all_eq_true.mp h2 c hc)⟩
theorem l_min : Str.ofString "-" = S [45] := lit _
theorem l_0 : Str.ofString "0" = S [48] := lit _
theorem dg_one (l : Tx0) : decide (1 ≤ (dgs l).length ∧ (dgs l).length ≤ 60) = (decide ((1 : Int) ≤ ((dgs l).length : Int)) && decide (((dgs l).length : Int) ≤ 60)) := by
  rw [← Bool.decide_and]
  exact decide_eq_decide.mpr (by omega)
theorem dig_in (c : Nat) : decide (c ∈ (Str.ofString "0123456789").cps.toList) = digB c := by
  have e : (Str.ofString "0123456789").cps.toList = [48, 49, 50, 51, 52, 53, 54, 55, 56, 57] := by rw [lit]; rfl
  rw [e]
  by_cases h : digB c = true
  · rw [h]
    have := dig_iff.mp h
    exact decide_eq_true (by simp only [List.mem_cons, List.not_mem_nil, or_false]; omega)
  · have h2 : digB c = false := by simpa using h
    rw [h2]
    refine decide_eq_false fun hm => h (dig_iff.mpr ?_)
    simp only [List.mem_cons, List.not_mem_nil, or_false] at hm
    omega
theorem signs_S (l : Tx0) : signs (S l) = l.map fun c => D.str ⟨#[c]⟩ := rfl
theorem S_szl {l : Tx0} (h : l.length ≤ 5000) : (S l).length ≤ sizeLine := by rw [S_len]; exact sz h
section
variable {P : Program} {w : World} {K : Frag} {mg : Str → Option Value} {base : Heap} {C Ci Cc Ck Ct Cw fI fC fT fW f : Addr} {fd : FuncData}
abbrev s_is_number_text : Stmt := top 10
abbrev N_is_number_text : List Str := ["word", "digits", "sign"]
theorem sc_is_number_text : FnScope N_is_number_text ["word"] (defScope s_is_number_text) := ⟨rfl, rfl, rfl, by decide +kernel, rfl, by decide +kernel, by decide +kernel⟩
def S_isnum : SP := spc (α := Tx0) (fun l => [.im (.str (S l))]) (fun l => TOk l) fun l r => r = .d (.bl (isNum l))
theorem ok_isnum (F : FD K "is_number_text" "is_number_text" s_is_number_text [] f fd) (T : Tx K mg C) (T3 : TxT K mg C) : FnOk P w K mg base CX0 (2 + 1) f fd ["word"] (spP K S_isnum) := by
  refine fn_spc F sc_is_number_text (fun l => [some (.im (.str (S l))), none, none]) fun cdv A outer s H E hr => ?_
  refine ⟨_, (ss_cut (s_asg (i := 1) sc_is_number_text.nd (px_ifE (tx_tru (bx (px_sw (bx_var 0) (bx px_str)))) (px_slS (bx_var 0) (ox_so (bx px_int)) ox_no) (px_var 0)))
      (ss_cons (s_if (tx_not (tx_chain op_le does_B0 op_le does_B0 (bx px_int) (bx (px_len rfl T.len (bx_var 1))) (bx (px_gint rfl T3.most)))) (ss_one (s_ret px_bl)) ss_nil)
      (ss_cons (s_for PassesOwn.never rfl (il_str (bx_var 1)) (gx_name (i := 2) sc_is_number_text.nd) (ss_one (s_if (tx_ninS (bx_var 2) (bx (px_gstr rfl T3.digits))) (ss_one (s_ret px_bl)) ss_nil)))
      (ss_one (s_ret (px_or (bx (px_eq hr (bx_var 0) (bx px_str))) (px_one (px_ne hr (bx (px_ixS (bx_var 1) (bx px_int))) (bx px_str))))))))), ?_⟩
  rintro l R hl hR
  have hR' := hR _ rfl
  refine sCut_by (fun Γ => Γ = [some (.im (.str (S l))), some (.im (.str (S (dgs l)))), none]) ?_ ?_
  · walk_at "r"
    rw [l_min, sw_minus, show (1 : Int) = ((1 : Nat) : Int) from rfl, cutS_from, List.drop_one]
    unfold dgs
    refine ⟨fun h => ⟨S_szl hl.len, ?_⟩, fun h => ?_⟩
    · rw [if_pos (of_decide_eq_true h)]
    · rw [if_neg (of_decide_eq_false h)]
  rintro _ rfl
  have hd := hl.dgs
  have hds := S_len (dgs l)
  walk_at "s"
  refine sIf_by (!decide (1 ≤ (dgs l).length ∧ (dgs l).length ≤ 60)) (fun Q hQ => ?_) (fun h => ?_) fun h => ?_
  · walk_at "r"
    rw [dg_one] at hQ
    refine ⟨S_szl hd.len, ?_⟩
    rw [hds]
    refine ⟨fun h1 => ?_, fun h1 => ?_⟩
    · rw [h1, Bool.true_and] at hQ; exact hQ
    · rw [h1] at hQ; exact hQ
  · walk_at "r"
    refine hR _ ?_
    unfold isNum
    rw [Bool.not_eq_true'] at h
    rw [h]
    rfl
  rw [Bool.not_eq_false'] at h
  walk_at "s"
  rw [signs_S]
  refine forb (fun pre Γ => pre.all digB = true ∧ ∃ d2 : Option D, Γ = [some (.im (.str (S l))), some (.im (.str (S (dgs l)))), d2.map Slot.im]) ⟨rfl, none, rfl⟩ ?_ ?_
  · rintro pre c post Γ hx ⟨hpre, d2, rfl⟩
    walk_at "s"
    refine ⟨by cases d2 <;> rfl, ?_⟩
    refine sIf_by (!digB c) (fun Q hQ => ?_) (fun h2 => ?_) fun h2 => ?_
    · walk_at "r"
      rw [← dig_in] at hQ
      exact ⟨c, rfl, hQ⟩
    · walk_at "r"
      refine hR _ ?_
      have e : (dgs l).all digB = false := by
        rw [hx, List.all_append, List.all_cons]
        rw [Bool.not_eq_true'] at h2
        rw [h2]
        simp
      unfold isNum
      rw [e, Bool.false_and, Bool.and_false]
    · refine ⟨?_, some (.str ⟨#[c]⟩), rfl⟩
      rw [Bool.not_eq_false'] at h2
      rw [List.all_append, hpre, List.all_cons, h2]
      rfl
  · rintro _ ⟨hall, d2, rfl⟩
    walk_at "r"
    have hn : 1 ≤ (dgs l).length := (of_decide_eq_true h).1
    obtain ⟨c, r, hc⟩ : ∃ c r, dgs l = c :: r := by
      cases e : dgs l with
      | nil => rw [e] at hn; exact absurd hn (by decide)
      | cons c r => exact ⟨c, r, rfl⟩
    have e1 : atI (dgs l) 0 = some c := by rw [hc]; exact atI_nat (j := 0) rfl
    have e2 : isNum l = (decide (l = [48]) || !decide (c = 48)) := by
      unfold isNum
      rw [h, hall, hc]
      simp
    rw [l_0, eqD_S, e1]
    have hc2 : TOk [c] := ⟨by simp, fun d hd' => by rw [List.mem_singleton.mp hd']; exact hd.asc c (by rw [hc]; exact .head _)⟩
    refine ⟨sh_S hl, sh_S (TOk.of (by decide)), fun h3 => hR _ (by rw [e2, h3]; rfl), fun h3 => ⟨S_szl hd.len, sh_S hc2, sh_S (TOk.of (by decide)), hR _ ?_⟩⟩
    have e3 := eqD_S [c] [48]
    rw [e2, h3, Bool.false_or]
    show Rs.d (D.bl !eqD (D.str (S [c])) (D.str (S [48]))) = _
    rw [e3]
    simp
abbrev s_content_text : Stmt := top 11
abbrev N_content_text : List Str := ["content"]
theorem sc_content_text : FnScope N_content_text ["content"] (defScope s_content_text) := ⟨rfl, rfl, rfl, by decide +kernel, rfl, by decide +kernel, by decide +kernel⟩
def S_ctext : SP := spc (α := Cn) (fun x => [.im (cD x)]) (fun x => ∀ i, x = some i → i.natAbs < 10 ^ 60) fun x r => r = .d (.str (S (match x with
  | none => noneT
  | some i => numT i)))
theorem ok_ctext (F : FD K "content_text" "content_text" s_content_text [] f fd) (T : Tx K mg C) : FnOk P w K mg base CX0 (2 + 1) f fd ["content"] (spP K S_ctext) := by
  refine fn_spc F sc_content_text (fun x => [some (.im (cD x))]) fun cdv A outer s H E hr => ?_
  refine ⟨_, (ss_cons (s_if (tx_is (bx_var 0) (bx px_non)) (ss_one (s_ret px_str)) ss_nil)
      (ss_one (s_ret (px_str1 rfl T.str (bx_var 0))))), ?_⟩
  rintro x R hx hR
  have hR' := hR _ rfl
  cases x with
  | none =>
    walk_at "s"
    refine sIf_by true (fun Q hQ => ?_) (fun _ => ?_) fun z => by cases z
    · walk_at "r"; exact hQ
    walk_at "r"
    rw [lit]
    exact hR'
  | some i =>
    walk_at "s"
    refine sIf_by false (fun Q hQ => ?_) (fun z => by cases z) fun _ => ?_
    · walk_at "r"; exact hQ
    walk_at "r"
    rw [num_str]
    exact ⟨num_log (hx i rfl), hR'⟩
abbrev s_read_content : Stmt := top 12
abbrev N_read_content : List Str := ["word"]
theorem sc_read_content : FnScope N_read_content ["word"] (defScope s_read_content) := ⟨rfl, rfl, rfl, by decide +kernel, rfl, by decide +kernel, by decide +kernel⟩
def S_rcont (Cw : Addr) : SPX := spcX (α := Tx0) (fun l => [.im (.str (S l))]) (fun l => TOk l)
  (fun l r => (l = noneT ∧ r = .d .non) ∨ (l ≠ noneT ∧ isNum l = true ∧ r = .d (.int (numV l))))
  fun l C fs => l ≠ noneT ∧ isNum l = false ∧ C = Cw ∧ fs = [(("word" : Str), .str (S l))]
theorem ok_rcont (F : FD K "read_content" "read_content" s_read_content [] f fd) (T : Tx K mg C) (T2 : TxE P K mg Ci Ct Cw Ck fI fT fW) (D_is_number_text : Df P w K mg base "is_number_text" 3 (spP K S_isnum)) : FnOk P w K mg base (L2.CX P w) (3 + 1) f fd ["word"] (spX K (S_rcont Cw)) := by
  refine fn_spcX F sc_read_content (fun l => [some (.im (.str (S l)))]) fun cdv A outer s H E hr => ?_
  refine ⟨_, (ss_cons (s_if (tx_eq hr (bx_var 0) (bx px_str)) (ss_one (s_ret px_non)) ss_nil)
      (ss_cons (s_if (tx_not (tx_tru (bx (px_call D_is_number_text (hr.mono (by decide)) (ax_i (px_var 0) ax_nil))))) (ss_one (s_raise rfl (takes_of rfl rfl rfl rfl) T2.eW hr (as_cons (px_var 0) as_nil))) ss_nil)
      (ss_one (s_ret (px_intS rfl T.int (bx_var 0)))))), ?_⟩
  rintro l R X hl hR hX
  walk_at "s"
  refine sIf_by (decide (l = noneT)) (fun Q hQ => ?_) (fun h => ?_) fun h => ?_
  · walk_at "r"
    rw [lit, eqD_S]
    exact ⟨sh_S hl, sh_S (TOk.of (by decide)), hQ⟩
  · walk_at "r"
    exact hR _ (.inl ⟨of_decide_eq_true h, rfl⟩)
  have hne := of_decide_eq_false h
  walk_at "s"
  refine sIf_by (!isNum l) (fun Q hQ => ?_) (fun h2 => ?_) fun h2 => ?_
  · walk_at "r"
    refine ⟨l, rfl, hl, ?_⟩
    rintro _ rfl
    exact hQ
  · walk_at "r"
    exact hX _ _ ⟨hne, by simpa using h2, rfl, rfl⟩
  rw [Bool.not_eq_false'] at h2
  walk_at "r"
  refine ⟨numV l, num_int h2, ?_, hR _ (.inr ⟨hne, h2, rfl⟩)⟩
  rw [S_len]
  have := num_len h2
  omega
abbrev s_stretch_text : Stmt := top 13
abbrev N_stretch_text : List Str := ["low", "high", "first", "last"]
theorem sc_stretch_text : FnScope N_stretch_text ["low", "high"] (defScope s_stretch_text) := ⟨rfl, rfl, rfl, by decide +kernel, rfl, by decide +kernel, by decide +kernel⟩
theorem endT_len {x : Cn} (h : ∀ i, x = some i → i.natAbs < 10 ^ 60) : (endT x).length ≤ 61 := by
  cases x with
  | none => exact Nat.zero_le _
  | some i => exact num_len (num_is (h i rfl))
theorem stT_len {p : St2} (h : bd60 p) : (stT p).length ≤ 124 := by
  have h1 := endT_len (x := p.1) fun i e => h i (.inl e)
  have h2 := endT_len (x := p.2) fun i e => h i (.inr e)
  unfold stT
  split
  · omega
  · rw [List.length_append, List.length_append]
    simp only [List.length_cons, List.length_nil]
    omega
theorem endT_S (x : Cn) : S (endT x) = (match x with
  | none => Str.ofString ""
  | some i => (toString i : Str)) := by
  cases x with
  | none => exact (lit "").symm
  | some i => exact (num_str i).symm
def S_stext : SP := spc (α := St2) (fun p => [.im (cD p.1), .im (cD p.2)]) (fun p => bd60 p) fun p r => r = .d (.str (S (stT p)))
theorem ok_stext (F : FD K "stretch_text" "stretch_text" s_stretch_text [] f fd) (T : Tx K mg C) : FnOk P w K mg base CX0 (2 + 1) f fd ["low", "high"] (spP K S_stext) := by
  refine fn_spc F sc_stretch_text (fun p => [some (.im (cD p.1)), some (.im (cD p.2)), none, none]) fun cdv A outer s H E hr => ?_
  refine ⟨_, (ss_cons (s_if (tx_w (tw_and (tx_isnot (bx_var 0) (bx px_non)) (tw_and1 (tx_eq hr (bx_var 0) (bx_var 1))))) (ss_one (s_ret (px_str1 rfl T.str (bx_var 0)))) ss_nil)
      (ss_cut (s_asg (i := 2) sc_stretch_text.nd (px_ifE (tx_is (bx_var 0) (bx px_non)) px_str (px_str1 rfl T.str (bx_var 0))))
      (ss_cut (s_asg (i := 3) sc_stretch_text.nd (px_ifE (tx_is (bx_var 1) (bx px_non)) px_str (px_str1 rfl T.str (bx_var 1))))
      (ss_one (s_ret (px_js (.fmt (bx_var 2) (.lit (.fmt (bx_var 3) .nil))))))))), ?_⟩
  rintro ⟨lo, hi⟩ R hb hR
  have hR' := hR _ rfl
  have b1 := fun i (e : lo = some i) => hb i (.inl e)
  have b2 := fun i (e : hi = some i) => hb i (.inr e)
  dsimp only
  unfold stT at hR'
  dsimp only at hR'
  refine sIf_by (lo.isSome && decide (lo = hi)) (fun Q hQ => ?_) (fun h => ?_) fun h => ?_
  · walk_at "r"
    cases lo with
    | none => exact ⟨fun z => (by cases z), fun _ => hQ⟩
    | some a =>
      have e := eqD_cn (some a) hi
      refine ⟨fun _ => ⟨cD_sh 60 (some a), cD_sh 60 hi, ?_⟩, fun z => (by cases z)⟩
      rw [e]
      exact hQ
  · rw [if_pos h] at hR'
    cases lo with
    | none => cases h
    | some a =>
      walk_at "r"
      rw [num_str]
      exact ⟨num_log (b1 a rfl), hR'⟩
  rw [if_neg (by rw [h]; exact Bool.false_ne_true)] at hR'
  have l1 := endT_len b1
  have l2 := endT_len b2
  refine sCut_by (fun Γ => Γ = [some (.im (cD lo)), some (.im (cD hi)), some (.im (.str (S (endT lo)))), none]) ?_ ?_
  · cases lo with
    | none =>
      walk_at "r"
      rw [lit]
      exact ⟨fun _ => rfl, fun z => (by cases z)⟩
    | some a =>
      walk_at "r"
      rw [num_str]
      exact ⟨fun z => z.elim, fun _ => ⟨num_log (b1 a rfl), rfl⟩⟩
  rintro _ rfl
  refine sCut_by (fun Γ => Γ = [some (.im (cD lo)), some (.im (cD hi)), some (.im (.str (S (endT lo)))), some (.im (.str (S (endT hi))))]) ?_ ?_
  · cases hi with
    | none =>
      walk_at "r"
      rw [lit]
      exact ⟨fun _ => rfl, fun z => (by cases z)⟩
    | some a =>
      walk_at "r"
      rw [num_str]
      exact ⟨fun z => z.elim, fun _ => ⟨num_log (b2 a rfl), rfl⟩⟩
  rintro _ rfl
  walk_at "r"
  have e0 : Str.empty = S [] := rfl
  have ed : Str.ofString ".." = S dotS := lit _
  rw [e0, ed]
  simp only [S_cat]
  rw [List.nil_append, List.append_assoc]
  refine ⟨S_szl (by omega), S_szl (by omega), S_szl (by decide), S_szl ?_, S_szl (by omega), S_szl ?_, hR'⟩
  · rw [List.length_append]; simp only [List.length_cons, List.length_nil]; omega
  · rw [List.length_append, List.length_append]; simp only [List.length_cons, List.length_nil]; omega
abbrev s_read_stretch : Stmt := top 14
abbrev N_read_stretch : List Str := ["word", "first", "dots", "last", "end", "low", "high"]
theorem sc_read_stretch : FnScope N_read_stretch ["word"] (defScope s_read_stretch) := ⟨rfl, rfl, rfl, by decide +kernel, rfl, by decide +kernel, by decide +kernel⟩
def rsD : Option St2 → D
  | none => .non
  | some p => stD p
theorem par_take : ∀ (l acc a b : Tx0), TL.par dotS acc l = some (a, b) → ∃ k, a = acc ++ l.take k ∧ b = l.drop (k + 2)
  | [], acc, a, b, h => by cases h
  | c :: r, acc, a, b, h => by
    cases hq : TL.pre dotS (c :: r) with
    | true =>
      rw [TL.par_hit hq] at h
      cases h
      exact ⟨0, by simp, rfl⟩
    | false =>
      rw [TL.par_miss hq] at h
      obtain ⟨k, h1, h2⟩ := par_take r _ a b h
      exact ⟨k + 1, by rw [h1]; simp, h2⟩
def okE (d e : Tx0) : Bool := if d = [] then isNum e else endOk e
theorem okE_eq (d e : Tx0) : (!isNum e && (!decide (e = []) || decide (d = []))) = !okE d e := by
  unfold okE endOk
  by_cases h : d = []
  · rw [if_pos h, decide_eq_true h, Bool.or_true, Bool.and_true]
  · rw [if_neg h, decide_eq_false h, Bool.or_false]
    cases isNum e <;> cases decide (e = []) <;> rfl
theorem rd_parts {l : Tx0} (hl : TOk l) : ∃ a d b b' : Tx0, Txt.partition (S l) (S dotS) = (S a, S d, S b) ∧ b' = (if d = [] then a else b) ∧ TOk a ∧ TOk b' ∧ TOk d ∧ rdS l = (if okE d a && (okE d b' && okS (endV a, endV b')) then some (endV a, endV b') else none) := by
  unfold rdS okE
  cases h : TL.par dotS [] l with
  | none =>
    refine ⟨l, [], [], l, SX.partition_none (by decide) h, rfl, hl, hl, TOk.of (by decide), ?_⟩
    dsimp only
    rw [if_pos rfl]
    by_cases q : isNum l = true
    · have hne : l ≠ [] := fun e => by rw [e] at q; cases q
      have e2 : endV l = some (numV l) := by unfold endV; rw [if_neg hne]
      rw [if_pos q, if_pos (by rw [q, e2]; unfold okS; simp), e2]
    · have q2 : isNum l = false := by simpa using q
      rw [if_neg q, if_neg (by rw [q2]; exact Bool.false_ne_true)]
  | some ab =>
    obtain ⟨a, b⟩ := ab
    obtain ⟨k, h1, h2⟩ := par_take l [] a b h
    rw [List.nil_append] at h1
    refine ⟨a, dotS, b, b, SX.partition_some (by decide) h, rfl, by rw [h1]; exact hl.take k, by rw [h2]; exact hl.drop _, TOk.of (by decide), ?_⟩
    dsimp only
    rw [if_neg (show ¬ dotS = [] by decide), if_neg (show ¬ dotS = [] by decide)]
def S_rst : SP := spc (α := Tx0) (fun l => [.im (.str (S l))]) (fun l => TOk l) fun l r => r = .d (rsD (rdS l))
theorem ok_rst (F : FD K "read_stretch" "read_stretch" s_read_stretch [] f fd) (T : Tx K mg C) (D_is_number_text : Df P w K mg base "is_number_text" 3 (spP K S_isnum)) : FnOk P w K mg base CX0 (3 + 1) f fd ["word"] (spP K S_rst) := by
  refine fn_spc F sc_read_stretch (fun l => [some (.im (.str (S l))), none, none, none, none, none, none]) fun cdv A outer s H E hr => ?_
  refine ⟨_, (ss_cons (s_unp (px_part (bx_var 0) (bx px_str)) (gx_tup (n := 3) rfl (gx_cons (gx_name (i := 1) sc_read_stretch.nd) (gx_cons (gx_name (i := 2) sc_read_stretch.nd) (gx_cons (gx_name (i := 3) sc_read_stretch.nd) gx_nil)))))
      (ss_cut (s_if (tx_eq hr (bx_var 2) (bx px_str)) (ss_one (s_asg (i := 3) sc_read_stretch.nd (px_var 1))) ss_nil)
      (ss_cons (s_for PassesOwn.never rfl (il_tup (px_tup (as_cons (px_var 1) (as_cons (px_var 3) as_nil)))) (gx_name (i := 4) sc_read_stretch.nd) (ss_one (s_if (tx_w (tw_and (tx_not (tx_tru (bx (px_call D_is_number_text (hr.mono (by decide)) (ax_i (px_var 4) ax_nil))))) (tw_and1 (tx_w (tw_or (tx_ne hr (bx_var 4) (bx px_str)) (tw_or1 (tx_eq hr (bx_var 2) (bx px_str)))))))) (ss_one (s_ret px_non)) ss_nil)))
      (ss_cut (s_asg (i := 5) sc_read_stretch.nd (px_ifE (tx_eq hr (bx_var 1) (bx px_str)) px_non (px_intS rfl T.int (bx_var 1))))
      (ss_cut (s_asg (i := 6) sc_read_stretch.nd (px_ifE (tx_eq hr (bx_var 3) (bx px_str)) px_non (px_intS rfl T.int (bx_var 3))))
      (ss_cons (s_if (tx_w (tw_and (tx_isnot (bx_var 5) (bx px_non)) (tw_and (tx_isnot (bx_var 6) (bx px_non)) (tw_and1 (tx_gt (bx_var 5) (bx_var 6)))))) (ss_one (s_ret px_non)) ss_nil)
      (ss_one (s_ret (px_tup (as_cons (px_var 5) (as_cons (px_var 6) as_nil))))))))))), ?_⟩
  rintro l R hl hR
  have hR' := hR _ rfl
  have isn : ∀ {Q : Rs → Prop} (e : Tx0), TOk e → Q (.d (.bl (isNum e))) → S_isnum.S [Slot.im (.str (S e))] Q := fun {Q} e h1 h2 => ⟨e, rfl, h1, by rintro _ rfl; exact h2⟩
  have ed : Str.ofString ".." = S dotS := lit _
  have ee : Str.ofString "" = S [] := lit _
  have e0 : Str.empty = S [] := rfl
  have eqs : ∀ a b : Tx0, eqD (.str (S a)) (.str (S b)) = decide (a = b) := eqD_S
  have ok0 : TOk ([] : Tx0) := TOk.of (by decide)
  walk_at "s"
  rw [ed]
  refine ⟨⟨by rw [S_len]; rfl, S_szl hl.len⟩, ?_⟩
  obtain ⟨a, d, b, b', hpart, hb', ta, tb, td, hrd⟩ := rd_parts hl
  rw [hpart]
  refine sCut_by (fun Γ => Γ = [some (.im (.str (S l))), some (.im (.str (S a))), some (.im (.str (S d))), some (.im (.str (S b'))), none, none, none]) ?_ ?_
  · refine sIf_by (decide (d = [])) (fun Q hQ => ?_) (fun h => ?_) fun h => ?_
    · walk_at "r"
      rw [ee, eqs]
      exact ⟨sh_S td, sh_S ok0, hQ⟩
    · walk_at "r"
      rw [hb', if_pos (of_decide_eq_true h)]
    · rw [hb', if_neg (of_decide_eq_false h)]
      rfl
  rintro _ rfl
  walk_at "s"
  refine ⟨by decide, ?_⟩
  refine forb (xs := [a, b']) (enc := fun e => D.str (S e)) (fun pre Γ => pre.all (okE d) = true ∧ ∃ d4 : Option D, Γ = [some (.im (.str (S l))), some (.im (.str (S a))), some (.im (.str (S d))), some (.im (.str (S b'))), d4.map Slot.im, none, none]) ⟨rfl, none, rfl⟩ ?_ ?_
  · rintro pre e post Γ hx ⟨hpre, d4, rfl⟩
    have te : TOk e := by
      have : e ∈ [a, b'] := by rw [hx]; exact List.mem_append_right _ (.head _)
      simp only [List.mem_cons, List.not_mem_nil, or_false] at this
      rcases this with rfl | rfl
      · exact ta
      · exact tb
    walk_at "s"
    refine ⟨by cases d4 <;> rfl, ?_⟩
    refine sIf_by (!okE d e) (fun Q hQ => ?_) (fun h => ?_) fun h => ?_
    · walk_at "r"
      rw [← okE_eq] at hQ
      rw [ee, eqs, eqs]
      refine isn e te ⟨fun h1 => ⟨sh_S te, sh_S ok0, fun h2 => ?_, fun h2 => ⟨sh_S td, sh_S ok0, ?_⟩⟩, fun h1 => ?_⟩
      · rw [h1, h2] at hQ; exact hQ
      · rw [h1, h2] at hQ; exact hQ
      · rw [h1] at hQ; exact hQ
    · walk_at "r"
      refine hR _ ?_
      have h2 : okE d e = false := by simpa using h
      have e3 : (okE d a && okE d b') = false := by
        have e4 : ([a, b'] : List Tx0).all (okE d) = false := by
          rw [hx, List.all_append, List.all_cons, h2]
          simp
        simpa using e4
      rw [hrd, ← Bool.and_assoc, e3]
      rfl
    · refine ⟨?_, some (.str (S e)), rfl⟩
      rw [List.all_append, hpre, List.all_cons, show okE d e = true by simpa using h]
      rfl
  · rintro _ ⟨hall, d4, rfl⟩
    have hab : okE d a = true ∧ okE d b' = true := by simpa using hall
    have enV : ∀ e : Tx0, okE d e = true → e ≠ [] → intText? (S e) = some (numV e) ∧ (S e).length ≤ 640 := fun e h1 h2 => by
      have hn : isNum e = true := by
        unfold okE at h1
        split at h1
        · exact h1
        · rcases Bool.or_eq_true_iff.mp h1 with q | q
          · exact absurd (of_decide_eq_true q) h2
          · exact q
      have := num_len hn
      exact ⟨num_int hn, by rw [S_len]; omega⟩
    have vOk : ∀ {Q : D → Prop} (e : Tx0), TOk e → okE d e = true → Q (cD (endV e)) → (decide (e = []) = true → Q .non) ∧ (decide (e = []) = false → ∃ n, intText? (S e) = some n ∧ (S e).length ≤ 640 ∧ Q (.int n)) := fun {Q} e h1 h2 h3 => by
      unfold endV at h3
      refine ⟨fun h => ?_, fun h => ?_⟩
      · rw [if_pos (of_decide_eq_true h)] at h3; exact h3
      · rw [if_neg (of_decide_eq_false h)] at h3
        obtain ⟨g1, g2⟩ := enV e h2 (of_decide_eq_false h)
        exact ⟨_, g1, g2, h3⟩
    refine sCut_by (fun Γ => Γ = [some (.im (.str (S l))), some (.im (.str (S a))), some (.im (.str (S d))), some (.im (.str (S b'))), d4.map Slot.im, some (.im (cD (endV a))), none]) ?_ ?_
    · walk_at "r"
      rw [ee, eqs]
      have v1 := vOk (Q := fun z => z = cD (endV a)) a ta hab.1 rfl
      refine ⟨sh_S ta, sh_S ok0, fun h => by rw [← v1.1 h], fun h => ?_⟩
      obtain ⟨n, g1, g2, g3⟩ := v1.2 h
      exact ⟨n, g1, g2, by rw [← g3]⟩
    rintro _ rfl
    refine sCut_by (fun Γ => Γ = [some (.im (.str (S l))), some (.im (.str (S a))), some (.im (.str (S d))), some (.im (.str (S b'))), d4.map Slot.im, some (.im (cD (endV a))), some (.im (cD (endV b')))]) ?_ ?_
    · walk_at "r"
      rw [ee, eqs]
      have v1 := vOk (Q := fun z => z = cD (endV b')) b' tb hab.2 rfl
      refine ⟨sh_S tb, sh_S ok0, fun h => by rw [← v1.1 h], fun h => ?_⟩
      obtain ⟨n, g1, g2, g3⟩ := v1.2 h
      exact ⟨n, g1, g2, by rw [← g3]⟩
    rintro _ rfl
    rw [hab.1, hab.2, Bool.true_and, Bool.true_and] at hrd
    rw [hrd] at hR'
    obtain ⟨x, hx⟩ : ∃ x, endV a = x := ⟨_, rfl⟩
    obtain ⟨y, hy⟩ : ∃ y, endV b' = y := ⟨_, rfl⟩
    rw [hx, hy] at hR' ⊢
    walk_at "s"
    refine sIf_by (!okS (x, y)) (fun Q hQ => ?_) (fun h => ?_) fun h => ?_
    · cases x with
      | none => walk_at "r"; exact ⟨fun z => (by cases z), fun _ => hQ⟩
      | some i =>
        cases y with
        | none => walk_at "r"; exact ⟨fun _ => ⟨fun z => (by cases z), fun _ => hQ⟩, fun z => (by cases z)⟩
        | some j =>
          walk_at "r"
          have e : (!okS (some i, some j)) = decide (j < i) := by
            unfold okS
            rw [← decide_not]
            exact decide_eq_decide.mpr (by omega)
          rw [e] at hQ
          exact ⟨fun _ => ⟨fun _ => hQ, fun z => (by cases z)⟩, fun z => (by cases z)⟩
    · walk_at "r"
      rw [show okS (x, y) = false by simpa using h] at hR'
      exact hR'
    · walk_at "r"
      rw [show okS (x, y) = true by simpa using h] at hR'
      exact ⟨by decide, hR'⟩
abbrev s_read_stretches : Stmt := top 15
abbrev N_read_stretches : List Str := ["text", "pairs", "has_none", "index", "word", "pair"]
theorem sc_read_stretches : FnScope N_read_stretches ["text"] (defScope s_read_stretches) := ⟨rfl, rfl, rfl, by decide +kernel, rfl, by decide +kernel, by decide +kernel⟩
theorem enum_map {α : Type} (enc : α → D) (xs : List α) : enumD (xs.map enc) = xs.zipIdx.map fun p => .tup [.int p.2, enc p.1] := by
  unfold enumD
  rw [List.zipIdx_map, List.map_map]
  rfl
theorem zip_at {α : Type} {xs : List α} {pre post : List (α × Nat)} {x : α} {i : Nat} (h : xs.zipIdx = pre ++ (x, i) :: post) : i = pre.length ∧ xs.drop pre.length = x :: xs.drop (pre.length + 1) ∧ xs[pre.length]? = some x := by
  have e : xs.zipIdx[pre.length]? = some (x, i) := by rw [h, List.getElem?_append_right (Nat.le_refl _), Nat.sub_self]; rfl
  rw [List.getElem?_zipIdx] at e
  obtain ⟨y, h1, h2⟩ := Option.map_eq_some_iff.mp e
  have e1 : y = x := congrArg Prod.fst h2
  have e2 : 0 + pre.length = i := congrArg Prod.snd h2
  subst e1
  have hl : pre.length < xs.length := by
    rcases Nat.lt_or_ge pre.length xs.length with q | q
    · exact q
    · rw [List.getElem?_eq_none q] at h1; cases h1
  refine ⟨by omega, ?_, h1⟩
  rw [List.drop_eq_getElem_cons hl]
  rw [List.getElem?_eq_getElem hl] at h1
  rw [Option.some.inj h1]
def S_rsts (Ct : Addr) : SPX := spcX (α := Tx0) (fun l => [.im (.str (S l))]) (fun l => TOk l ∧ (TL.spl comS 0 [] l).length ≤ 900 ∧ ∀ p ∈ TL.spl comS 0 [] l, TOk p)
  (fun l r => ∃ x, RD l = .inr x ∧ r = .d (.tup [.lst (x.1.map stD), .bl x.2])) fun l C fs => ∃ k : Nat, RD l = .inl k ∧ C = Ct ∧ fs = [(("position" : Str), .int k)]
theorem ok_rsts (F : FD K "read_stretches" "read_stretches" s_read_stretches [] f fd) (T : Tx K mg C) (T2 : TxE P K mg Ci Ct Cw Ck fI fT fW) (D_read_stretch : Df P w K mg base "read_stretch" 4 (spP K S_rst)) : FnOk P w K mg base (L2.CX P w) (4 + 1) f fd ["text"] (spX K (S_rsts Ct)) := by
  refine fn_spcX F sc_read_stretches (fun l => [some (.im (.str (S l))), none, none, none, none, none]) fun cdv A outer s H E hr => ?_
  refine ⟨_, (ss_cons (s_asgF (i := 1) sc_read_stretches.nd (fx_lst as_nil))
      (ss_cons (s_asg (i := 2) sc_read_stretches.nd px_bl)
      (ss_cons (s_if (tx_eq hr (bx_var 0) (bx px_str)) (ss_frz 1 (ss_one (s_ret (px_tup (as_cons (px_var 1) (as_cons (px_var 2) as_nil)))))) ss_nil)
      (ss_cons (s_for (passes_of rfl) rfl (il_en rfl T.enumerate (px_split (bx_var 0) (bx px_str))) (gx_tup (n := 2) rfl (gx_cons (gx_name (i := 3) sc_read_stretches.nd) (gx_cons (gx_name (i := 4) sc_read_stretches.nd) gx_nil))) (ss_cons (s_asg (i := 5) sc_read_stretches.nd (px_call D_read_stretch (hr.mono (by decide)) (ax_i (px_var 4) ax_nil)))
      (ss_one (s_if (tx_eq hr (bx_var 4) (bx px_str)) (ss_one (s_asg (i := 2) sc_read_stretches.nd px_bl)) (ss_one (s_if (tx_is (bx_var 5) (bx px_non)) (ss_one (s_raise rfl (takes_of rfl rfl rfl rfl) T2.eT hr (as_cons (px_var 3) as_nil))) (ss_one (s_app 1 (px_var 5)))))))))
      (ss_frz 1 (ss_one (s_ret (px_tup (as_cons (px_var 1) (as_cons (px_var 2) as_nil)))))))))), ?_⟩
  rintro l R X ⟨hl, hwl, hps⟩ hR hX
  have en : Str.ofString "nothing" = S nothT := lit _
  have ec : Str.ofString ", " = S comS := lit _
  have eo : Str.ofString "none" = S noneT := lit _
  walk_at "s"
  refine ⟨by decide, fun l1 _ => ?_⟩
  refine sIf_by (decide (l = nothT)) (fun Q hQ => ?_) (fun h => ?_) fun h => ?_
  · walk_at "r"
    rw [en, eqD_S]
    exact ⟨sh_S hl, sh_S (TOk.of (by decide)), hQ⟩
  · walk_at "r"
    refine ⟨by decide, hR _ ⟨([], false), ?_, rfl⟩⟩
    unfold RD
    rw [if_pos (of_decide_eq_true h)]
  have hRD : RD l = rdA (TL.spl comS 0 [] l) 0 ([], false) := by unfold RD; rw [if_neg (of_decide_eq_false h)]
  rw [hRD] at hR hX
  obtain ⟨ws, hws⟩ : ∃ ws, ws = TL.spl comS 0 [] l := ⟨_, rfl⟩
  have hsp : Txt.split (S l) (S comS) = ws.map S := by rw [hws]; exact split_S (by decide) (by decide)
  rw [← hws] at hR hX hps hwl
  walk_at "s"
  have em : List.map D.str (List.map S ws) = ws.map (fun p => D.str (S p)) := by rw [List.map_map]; rfl
  rw [ec, hsp, em, enum_map]
  refine ⟨⟨by rw [S_len]; rfl, ?_⟩, ?_⟩
  · rw [S_len]
    have := hl.len
    exact Nat.le_trans (show l.length + 2 ≤ 5002 by omega) (by decide)
  refine forb (fun pre Γ => ∃ (acc : List St2 × Bool) (d3 d4 d5 : Option D), Γ = [some (.im (.str (S l))), some (.ml l1 (acc.1.map stD)), some (.im (.bl acc.2)), d3.map Slot.im, d4.map Slot.im, d5.map Slot.im] ∧ rdA ws 0 ([], false) = rdA (ws.drop pre.length) pre.length acc ∧ acc.1.length ≤ pre.length) ⟨([], false), none, none, none, rfl, rfl, Nat.le_refl _⟩ ?_ ?_
  · rintro pre ⟨wd, i⟩ post Γ hx ⟨acc, d3, d4, d5, rfl, hrd, hal⟩
    obtain ⟨rfl, hdr, hget⟩ := zip_at hx
    have twd : TOk wd := hps wd (List.mem_of_getElem? hget)
    have hpl : pre.length < ws.length := by
      rcases Nat.lt_or_ge pre.length ws.length with q | q
      · exact q
      · rw [List.getElem?_eq_none q] at hget; cases hget
    rw [hdr] at hrd
    have hstep : rdA (wd :: ws.drop (pre.length + 1)) pre.length acc = (match rdP wd with
      | none => (.inl pre.length : Rd)
      | some x => rdA (ws.drop (pre.length + 1)) (pre.length + 1) (acc.1 ++ x.1, acc.2 || x.2)) := rfl
    rw [hstep] at hrd
    have hl2 : (pre ++ [(wd, pre.length)]).length = pre.length + 1 := by rw [List.length_append]; rfl
    walk_at "s"
    refine ⟨by cases d3 <;> rfl, by cases d4 <;> rfl, wd, rfl, twd, ?_⟩
    rintro _ rfl
    simp only [dat_d]
    refine sIf_by (decide (wd = noneT)) (fun Q hQ => ?_) (fun h1 => ?_) fun h1 => ?_
    · walk_at "r"
      rw [eo, eqD_S]
      exact ⟨sh_S twd, sh_S (TOk.of (by decide)), hQ⟩
    · walk_at "r"
      refine ⟨(acc.1, true), some (.int pre.length), some (.str (S wd)), some (rsD (rdS wd)), rfl, ?_, by rw [hl2]; dsimp only; omega⟩
      rw [hrd, hl2]
      have e : rdP wd = some ([], true) := by unfold rdP; rw [if_pos (of_decide_eq_true h1)]
      rw [e]
      dsimp only
      rw [List.append_nil, Bool.or_true]
    walk_at "s"
    have e : rdP wd = (rdS wd).map fun p => ([p], false) := by unfold rdP; rw [if_neg (of_decide_eq_false h1)]
    rw [e] at hrd
    cases hq : rdS wd with
    | none =>
      rw [hq] at hrd
      refine sIf_by true (fun Q hQ => ?_) (fun _ => ?_) fun z => by cases z
      · walk_at "r"; exact hQ
      walk_at "r"
      exact hX _ _ ⟨pre.length, hrd, rfl, rfl⟩
    | some p =>
      rw [hq] at hrd
      refine sIf_by false (fun Q hQ => ?_) (fun z => by cases z) fun _ => ?_
      · walk_at "r"; exact hQ
      walk_at "r"
      refine ⟨sz' (by omega), (acc.1 ++ [p], acc.2), some (.int pre.length), some (.str (S wd)), some (stD p), by rw [List.map_append]; rfl, ?_, by rw [hl2, List.length_append, List.length_singleton]; omega⟩
      rw [hrd, hl2]
      dsimp only [Option.map]
      rw [Bool.or_false]
  · rintro _ ⟨acc, d3, d4, d5, rfl, hrd, hal⟩
    rw [List.length_zipIdx, List.drop_length] at hrd
    walk_at "r"
    exact ⟨by decide, hR _ ⟨acc, hrd, rfl⟩⟩
abbrev s_Span_read : Stmt := inClass (top 30) 5
abbrev N_Span_read : List Str := ["text", "pairs", "has_none"]
theorem sc_Span_read : FnScope N_Span_read ["text"] (defScope s_Span_read) := ⟨rfl, rfl, rfl, by decide +kernel, rfl, by decide +kernel, by decide +kernel⟩
/-- what a text reads as -/
def rdSp (C : Addr) (x : List St2 × Bool) : D := spD C (mergeS x.1) x.2
def S_read (C Ct : Addr) : SPX := spcX (α := Tx0) (fun l => [.im (.str (S l))]) (fun l => TOk l ∧ (TL.spl comS 0 [] l).length ≤ 900 ∧ ∀ p ∈ TL.spl comS 0 [] l, TOk p)
  (fun l r => ∃ x, RD l = .inr x ∧ r = .d (rdSp C x)) fun l C' fs => ∃ k : Nat, RD l = .inl k ∧ C' = Ct ∧ fs = [(("position" : Str), .int k)]
theorem RD_ok {l : Tx0} {x : List St2 × Bool} (h : RD l = .inr x) : (∀ p ∈ x.1, okS p = true ∧ bd60 p) ∧ x.1.length ≤ (TL.spl comS 0 [] l).length := by
  unfold RD at h
  split at h
  · cases h
    exact ⟨fun p hp => (by cases hp), Nat.zero_le _⟩
  · obtain ⟨h1, h2⟩ := rdA_ok _ 0 _ x (fun p hp => by cases hp) h
    exact ⟨h1, by simpa using h2⟩
theorem ok_read (F : FD K "read" "Span.read" s_Span_read [] f fd) (T : Tx K mg C) (T2 : TxE P K mg Ci Ct Cw Ck fI fT fW) (D_read_stretches : DfX P w K mg base "read_stretches" 5 (spX K (S_rsts Ct))) (D_Span_1_has_none : DcL P w K mg base "Span" C 9 (S_initL Ci) 1 ["has_none"] (fun as bs => as ++ bs)) : FnOk P w K mg base (L2.CX P w) (10 + 1) f fd ["text"] (spX K (S_read C Ct)) := by
  refine fn_spcX F sc_Span_read (fun l => [some (.im (.str (S l))), none, none]) fun cdv A outer s H E hr => ?_
  refine ⟨_, (ss_cons (s_unpZ (zx_r (z_callX (takes_of rfl rfl rfl rfl) D_read_stretches (hr.mono (by decide)) (ax_i (px_var 0) ax_nil))) (gx_tup (n := 2) rfl (gx_cons (gx_name (i := 1) sc_Span_read.nd) (gx_cons (gx_name (i := 2) sc_Span_read.nd) gx_nil))))
      (ss_one (s_ret (px_makeL D_Span_1_has_none (hr.mono (by decide)) (ax_b (bx_var 1) ax_nil) (kx_i (px_var 2) kx_nil))))), ?_⟩
  rintro l R X ⟨hl, hwl, hps⟩ hR hX
  walk_at "s"
  refine ⟨l, rfl, ⟨hl, hwl, hps⟩, ?_, ?_⟩
  · rintro _ ⟨x, hx, rfl⟩
    obtain ⟨h1, h2⟩ := RD_ok hx
    simp only [dat_d]
    refine ⟨rfl, ?_⟩
    refine (?_ : (S_initL Ci).S [bSl false (x.1.map stD), Slot.im (.bl x.2)] _ _)
    refine initS (by omega) (fun p hp => (h1 p hp).1) ?_
    exact hR _ ⟨x, hx, rfl⟩
  · rintro C' fs h
    exact hX _ _ h
abbrev s_Span___str__ : Stmt := inClass (top 30) 6
abbrev N_Span___str__ : List Str := ["self", "words", "low", "high"]
theorem sc_Span___str__ : FnScope N_Span___str__ ["self"] (defScope s_Span___str__) := ⟨rfl, rfl, rfl, by decide +kernel, rfl, by decide +kernel, by decide +kernel⟩
theorem sum_le {m : Nat} : ∀ {xs : List Tx0}, (∀ p ∈ xs, p.length ≤ m) → (xs.map List.length).sum ≤ xs.length * m
  | [], _ => Nat.zero_le _
  | x :: xs, h => by
    rw [List.map_cons, List.sum_cons, List.length_cons, Nat.succ_mul]
    have h1 := h x (.head _)
    have h2 := sum_le fun p hp => h p (.tail _ hp)
    omega
theorem join_ok {xs : List Tx0} (hl : xs.length ≤ 1000) (h : ∀ p ∈ xs, p.length ≤ 1000) : joinOk (S comS) (xs.map S) := by
  unfold joinOk
  rw [List.map_map, List.length_map, S_len]
  have e : (xs.map ((fun x : Str => x.length) ∘ S)) = xs.map List.length := List.map_congr_left fun p _ => S_len p
  have e2 : (xs.map ((·.length) ∘ S)) = xs.map List.length := e
  rw [e2]
  have h1 := sum_le h
  have h2 : xs.length * 1000 ≤ 1000 * 1000 := Nat.mul_le_mul_right _ hl
  show _ + xs.length * 2 ≤ _
  omega
def S_sstr (C : Addr) : SP := spc (α := List St2 × Bool) (fun x => [.bo (spD C x.1 x.2)]) (fun x => x.1.length ≤ 900 ∧ ∀ p ∈ x.1, bd60 p) fun x r => r = .d (.str (S (spT x.1 x.2)))
theorem ok_sstr (F : FD K "__str__" "Span.__str__" s_Span___str__ [] f fd) (T : Tx K mg C) (D_stretch_text : Df P w K mg base "stretch_text" 3 (spP K S_stext)) : FnOk P w K mg base CX0 (3 + 1) f fd ["self"] (spP K (S_sstr C)) := by
  refine fn_spc F sc_Span___str__ (fun x => [some (.bo (spD C x.1 x.2)), none, none, none]) fun cdv A outer s H E hr => ?_
  refine ⟨_, (ss_cons (s_asgF (i := 1) sc_Span___str__.nd (fx_lst as_nil))
      (ss_cut (s_if (tx_tru (bx (px_sl T.sp.cl (bx_var 0)))) (ss_one (s_app 1 px_str)) ss_nil)
      (ss_cons (s_for PassesOwn.never rfl (il_tup (px_sl T.sp.cl (bx_var 0))) (gx_tup (n := 2) rfl (gx_cons (gx_name (i := 2) sc_Span___str__.nd) (gx_cons (gx_name (i := 3) sc_Span___str__.nd) gx_nil))) (ss_one (s_app 1 (px_call D_stretch_text (hr.mono (by decide)) (ax_i (px_var 2) (ax_i (px_var 3) ax_nil))))))
      (ss_cons (s_if (tx_not (tx_tru (bx_var 1))) (ss_one (s_ret px_str)) ss_nil)
      (ss_one (s_ret (px_join (bx px_str) (bx_var 1)))))))), ?_⟩
  rintro ⟨l, b⟩ R ⟨hl, hb⟩ hR
  dsimp only at hl hb hR
  have hR' := hR _ rfl
  have en : Str.ofString "nothing" = S nothT := lit _
  have ec : Str.ofString ", " = S comS := lit _
  have eo : Str.ofString "none" = S noneT := lit _
  let W0 : List Tx0 := if b then [noneT] else []
  unfold spD spF
  walk_at "s"
  refine ⟨by decide, fun l1 _ => ?_⟩
  refine sCut_by (fun Γ => Γ = [some (.bo (spD C l b)), some (.ml l1 ((W0.map S).map D.str)), none, none]) ?_ ?_
  · refine sIf_by b (fun Q hQ => ?_) (fun h => ?_) fun h => ?_
    · walk_at "r"
      exact hQ
    · walk_at "r"
      subst h
      rw [eo]
      exact ⟨by decide, rfl⟩
    · subst h
      rfl
  rintro _ rfl
  have hw0 : W0.length ≤ 1 := by
    show (if b = true then [noneT] else []).length ≤ 1
    split <;> simp
  unfold spD spF
  walk_at "s"
  refine forb (fun pre Γ => ∃ d2 d3 : Option D, Γ = [some (.bo (spD C l b)), some (.ml l1 (((W0 ++ pre.map stT).map S).map D.str)), d2.map Slot.im, d3.map Slot.im]) ⟨none, none, by rw [List.map_nil, List.append_nil]; rfl⟩ ?_ ?_
  · rintro pre ⟨x, y⟩ post Γ hx ⟨d2, d3, rfl⟩
    have hm : (x, y) ∈ l := by rw [hx]; exact List.mem_append_right _ (.head _)
    have hpl := congrArg List.length hx
    rw [List.length_append, List.length_cons] at hpl
    walk_at "r"
    refine ⟨by cases d2 <;> rfl, by cases d3 <;> rfl, (x, y), rfl, hb _ hm, ?_⟩
    rintro _ rfl
    refine ⟨sz' ?_, some (cD x), some (cD y), ?_⟩
    · rw [List.length_append, List.length_map]; omega
    · rw [List.map_append, List.map_append, List.map_append]
      simp [dat_d]
  · rintro _ ⟨d2, d3, rfl⟩
    have ew : W0 ++ l.map stT = wrds l b := rfl
    rw [ew]
    have hwl : (wrds l b).length ≤ 1000 := by
      rw [← ew, List.length_append, List.length_map]; omega
    walk_at "s"
    refine sIf_by (decide (wrds l b = [])) (fun Q hQ => ?_) (fun h => ?_) fun h => ?_
    · walk_at "r"
      cases e : wrds l b with
      | nil => rw [e] at hQ; exact hQ
      | cons a r => rw [e] at hQ; exact hQ
    · walk_at "r"
      rw [en]
      unfold spT at hR'
      rw [if_pos (of_decide_eq_true h)] at hR'
      exact hR'
    · walk_at "r"
      unfold spT at hR'
      rw [if_neg (of_decide_eq_false h)] at hR'
      refine ⟨(wrds l b).map S, by rw [List.map_map], ?_, ?_⟩
      · rw [ec]
        refine join_ok hwl fun p hp => ?_
        rw [← ew] at hp
        rcases List.mem_append.mp hp with hp | hp
        · have : p ∈ (if b = true then [noneT] else []) := hp
          split at this
          · rw [List.mem_singleton.mp this]; decide
          · cases this
        · obtain ⟨q, hq, rfl⟩ := List.mem_map.mp hp
          exact Nat.le_trans (stT_len (hb q hq)) (by decide)
      · rw [ec, join_S]
        exact hR'
end
end Kb
set_option Elab.async false
set_option linter.all false
set_option maxRecDepth 100000
set_option maxHeartbeats 1000000
namespace Kb
open PySem L2 SX
set_option autoImplicit false
local macro_rules | `(tactic| walk_at "r") => `(tactic| try simp only [sSeq, sNext, sRet, sRetF, sRetO, sAsg, sAsgF, sAsgM, sAsgR, rCl, rMe, sRetM, sIf, sIfM, sDrop, sDropM, sUnp, sAug, sFor, sForM, sApp, sSetI, sDPu, sDPuT, sDNew, sDNewT, sDOne, sFldI, sBreak, sCont, fLc, xDc, xF, xVar, D.fl, bVar, xC, x2, b2, fAdd, fI, fI0, fB0, fEq, fNe, fIn, fIs, fIsNot, D.isN, xNeg, bTru, bNot, bAnd, bOr, bCh, xAnd, xOr, xNot, xIfE, xFld, fIx, fSl, oNo, oSo, aNil, aCons, xTup, fLst, fCat, xCall, fCall, fLen, fAbs, fInt, fList, fTuple, fIsi, D.ty, fAny, fSrt, fMin, xIdx, fSS, fDIn, xDGet, xDGetT, keyD, keysD, gN, gsN, gsC, gTu, iL, iT, iR1, iR2, iR3, iR1M, bYes, wipeE, free, Slot.ad, Slot.dat, Slot.par, axNil, axI, axB, xCl, fCl, xMe, fMe, xMk, fGen, mP, m2, bm2, mCl, mTup, mLst, mSS, amNil, amCons, gPlain, gThen, gNil, gYield, zP, zM, zTP, zD, z2, bz2, zTru, zNot, zAnd, zOr, zNil, zCons, zTup, zLst, zCl, zClX, zFld, zMkS, sAsgZ, sRetZ, sIfZ, sDropZ, sRaise, sTry, sRetR, sRetV, sRetMF, mF, mLc, iP, xR, fR, xClF, rMe0, fLRg, fSrtQ, iEnV, xEFld, fIsX, cvV, cD_none, cD_some, stD, lk_st, lk_hn, lk_sz, eqD_int, sh_int, sh60_ints, inL_ints, xSl, sSlI, zMkL, rMeL, rMeL0, zMeX0, fIsL, fIsM, fOwn, fSortK, srtKB, sExt, mPop, sUnpM, fMax2, fMin2, fSum, fLtT, fSSI, sRaise0, sTryF, sAsgX, rMeX0, sFrz, fBool, fBoolO, fInO, fOwnT, xMkL, xOwn1, zSta, rSta, rS0, rClX, fIsB, fInT, aStar, iZip, fLc2, fOwnN, fNeL, fIsA, sAppM, mSl, lk_sp, lk_co, xM1, xSlS, fIxS, fInS, xJoin, mJoin, fStr, fIntS, jD, xJs, iStrT, iEn, fMulS, mCall, sAsgLM, sUnpZ, fStrO, Bool.false_xor, Bool.true_xor,
  List.map_cons, List.map_nil, List.length_cons, List.length_nil, List.getElem?_cons_succ, List.getElem?_cons_zero, List.set_cons_succ, List.set_cons_zero, List.cons_append, List.nil_append, Option.isNone_none, Option.map_some, Option.map_none, true_and, and_true, if_true, if_false, rngD_ints, Int.add_sub_cancel, Bool.false_eq_true, List.length_map])
local macro_rules | `(tactic| walk_at "s") => `(tactic| try simp only [sSeq, sNext, sRet, sRetF, sRetO, sAsg, sAsgF, sAsgM, sAsgR, rCl, rMe, sRetM, sDrop, sDropM, sUnp, sAug, sFor, sForM, sApp, sSetI, sDPu, sDPuT, sDNew, sDNewT, sDOne, sFldI, sBreak, sCont, fLc, xDc, xF, xVar, D.fl, bVar, xC, x2, b2, fAdd, fI, fI0, fB0, fEq, fNe, fIn, fIs, fIsNot, D.isN, xNeg, bTru, bNot, bAnd, bOr, bCh, xAnd, xOr, xNot, xIfE, xFld, fIx, fSl, oNo, oSo, aNil, aCons, xTup, fLst, fCat, xCall, fCall, fLen, fAbs, fInt, fList, fTuple, fIsi, D.ty, fAny, fSrt, fMin, xIdx, fSS, fDIn, xDGet, xDGetT, keyD, keysD, gN, gsN, gsC, gTu, iL, iT, iR1, iR2, iR3, iR1M, bYes, wipeE, free, Slot.ad, Slot.dat, Slot.par, axNil, axI, axB, xCl, fCl, xMe, fMe, xMk, fGen, mP, m2, bm2, mCl, mTup, mLst, mSS, amNil, amCons, gPlain, gThen, gNil, gYield, zP, zM, zTP, zD, z2, bz2, zTru, zNot, zAnd, zOr, zNil, zCons, zTup, zLst, zCl, zClX, zFld, zMkS, sAsgZ, sRetZ, sDropZ, sRaise, sTry, sRetR, sRetV, sRetMF, mF, mLc, iP, xR, fR, xClF, rMe0, fLRg, fSrtQ, iEnV, xEFld, fIsX, cvV, cD_none, cD_some, stD, lk_st, lk_hn, lk_sz, eqD_int, sh_int, sh60_ints, inL_ints, xSl, sSlI, zMkL, rMeL, rMeL0, zMeX0, fIsL, fIsM, fOwn, fSortK, srtKB, sExt, mPop, sUnpM, fMax2, fMin2, fSum, fLtT, fSSI, sRaise0, sTryF, sAsgX, rMeX0, sFrz, fBool, fBoolO, fInO, fOwnT, xMkL, xOwn1, zSta, rSta, rS0, rClX, fIsB, fInT, aStar, iZip, fLc2, fOwnN, fNeL, fIsA, sAppM, mSl, lk_sp, lk_co, xM1, xSlS, fIxS, fInS, xJoin, mJoin, fStr, fIntS, jD, xJs, iStrT, iEn, fMulS, mCall, sAsgLM, sUnpZ, fStrO, Bool.false_xor, Bool.true_xor,
  List.map_cons, List.map_nil, List.length_cons, List.length_nil, List.getElem?_cons_succ, List.getElem?_cons_zero, List.set_cons_succ, List.set_cons_zero, List.cons_append, List.nil_append, Option.isNone_none, Option.map_some, Option.map_none, true_and, and_true, if_true, if_false, rngD_ints, Int.add_sub_cancel, Bool.false_eq_true, List.length_map])
theorem rng_mem {n : Nat} {k : Int} (h : k ∈ rngI 0 1 n) : ∃ j : Nat, j < n ∧ k = (j : Int) := by
  unfold rngI at h
  obtain ⟨j, hj, e⟩ := List.mem_map.mp h
  exact ⟨j, List.mem_range.mp hj, by omega⟩
theorem hiMax_bd {m : Int} {x y : Cn} (hx : ∀ i, x = some i → -m ≤ i ∧ i ≤ m) (hy : ∀ i, y = some i → -m ≤ i ∧ i ≤ m) : ∀ i, hiMax x y = some i → -m ≤ i ∧ i ≤ m := fun i h => by
  cases x with
  | none => cases h
  | some a =>
    cases y with
    | none => cases h
    | some b =>
      have e : (if b > a then b else a) = i := Option.some.inj h
      have h1 := hx a rfl
      have h2 := hy b rfl
      split at e <;> omega
theorem mrg_bd {m : Int} : ∀ (xs acc : List St2), (∀ p ∈ acc, bdS m p) → (∀ p ∈ xs, bdS m p) → ∀ p ∈ xs.foldl mrg acc, bdS m p
  | [], acc, h, _ => h
  | x :: xs, acc, h, hx => by
    rw [List.foldl_cons]
    refine mrg_bd xs _ ?_ fun p hp => hx p (.tail _ hp)
    have hx0 := hx x (.head _)
    rcases List.eq_nil_or_concat acc with rfl | ⟨acc', q, rfl⟩
    · rw [mrg_nil]
      intro p hp
      rw [List.mem_singleton.mp hp]
      exact hx0
    · rw [List.concat_eq_append] at h ⊢
      have hq := h q (by simp)
      rw [mrg_snoc]
      split
      · intro p hp
        rcases List.mem_append.mp hp with hp | hp
        · exact h p (List.mem_append_left _ hp)
        · rw [List.mem_singleton.mp hp]
          intro i hi
          rcases hi with hi | hi
          · exact hq i (.inl hi)
          · exact hiMax_bd (fun j hj => hq j (.inr hj)) (fun j hj => hx0 j (.inr hj)) i hi
      · intro p hp
        rcases List.mem_append.mp hp with hp | hp
        · exact h p hp
        · rw [List.mem_singleton.mp hp]
          exact hx0
theorem merge_bd {m : Int} {l : List St2} (h : ∀ p ∈ l, bdS m p) : ∀ p ∈ mergeS l, bdS m p :=
  mrg_bd (sortS l) [] (fun p hp => by cases hp) fun p hp => h p ((sortS_perm l).mem_iff.mp hp)
theorem bd60_iff {p : St2} : bd60 p ↔ bdS (10 ^ 60 - 1) p := by
  constructor
  · intro h i hi
    have := h i hi
    have e : (10 : Int) ^ 60 = ((10 ^ 60 : Nat) : Int) := by norm_cast
    omega
  · intro h i hi
    have := h i hi
    have e : (10 : Int) ^ 60 = ((10 ^ 60 : Nat) : Int) := by norm_cast
    omega
theorem merge_bd60 {l : List St2} (h : ∀ p ∈ l, bd60 p) : ∀ p ∈ mergeS l, bd60 p := fun p hp => bd60_iff.mpr (merge_bd (fun q hq => bd60_iff.mp (h q hq)) p hp)
section
variable {P : Program} {w : World} {K : Frag} {mg : Str → Option Value} {base : Heap} {C Ci Cc Ck Ct Cw fI fC fT fW f : Addr} {fd : FuncData}
abbrev s__law_text : Stmt := top 41
abbrev N__law_text : List Str := ["_law_plain", "_law_words", "_law_low", "_law_high", "_law_left", "_law_right"]
theorem sc__law_text : FnScope N__law_text ["_law_plain"] (defScope s__law_text) := ⟨rfl, rfl, rfl, by decide +kernel, rfl, by decide +kernel, by decide +kernel⟩
def S_ltext : SP := spc (α := List St2 × Bool) (fun x => [.im (plD x.1 x.2)]) (fun x => x.1.length ≤ 31 ∧ (∀ p ∈ x.1, okS p = true) ∧ ∀ p ∈ x.1, bd60 p) fun x r => r = .d (.str (S (spT (mergeS x.1) x.2)))
theorem ok_ltext (F : FD K "_law_text" "_law_text" s__law_text [] f fd) (T : Tx K mg C) (D__law_plain_form : Df P w K mg base "_law_plain_form" 4 (spP K S_plain)) : FnOk P w K mg base CX0 (4 + 1) f fd ["_law_plain"] (spP K S_ltext) := by
  refine fn_spc F sc__law_text (fun x => [some (.im (plD x.1 x.2)), none, none, none, none, none]) fun cdv A outer s H E hr => ?_
  refine ⟨_, (ss_cons (s_asgF (i := 1) sc__law_text.nd (fx_lst as_nil))
      (ss_cut (s_if (tx_tru (bx (px_ix (bx_var 0) (bx px_int)))) (ss_one (s_app 1 px_str)) ss_nil)
      (ss_cons (s_for PassesOwn.never rfl (il_list (px_call D__law_plain_form (hr.mono (by decide)) (ax_i (px_var 0) ax_nil))) (gx_tup (n := 2) rfl (gx_cons (gx_name (i := 2) sc__law_text.nd) (gx_cons (gx_name (i := 3) sc__law_text.nd) gx_nil))) (ss_cons (s_asg (i := 4) sc__law_text.nd px_str)
      (ss_cons (s_asg (i := 5) sc__law_text.nd px_str)
      (ss_cut (s_if (tx_isnot (bx_var 2) (bx px_non)) (ss_one (s_asg (i := 4) sc__law_text.nd (px_str1 rfl T.str (bx_var 2)))) ss_nil)
      (ss_cut (s_if (tx_isnot (bx_var 3) (bx px_non)) (ss_one (s_asg (i := 5) sc__law_text.nd (px_str1 rfl T.str (bx_var 3)))) ss_nil)
      (ss_one (s_if (tx_w (tw_and (tx_isnot (bx_var 2) (bx px_non)) (tw_and1 (tx_eq hr (bx_var 2) (bx_var 3))))) (ss_one (s_app 1 (px_var 4))) (ss_one (s_app 1 (px_add (bx (px_add (bx_var 4) (bx px_str))) (bx_var 5)))))))))))
      (ss_cons (s_if (tx_not (tx_tru (bx_var 1))) (ss_one (s_ret px_str)) ss_nil)
      (ss_one (s_ret (px_join (bx px_str) (bx_var 1)))))))), ?_⟩
  rintro ⟨ps, b⟩ R ⟨hl, hok, hbd⟩ hR
  dsimp only at hl hok hbd hR
  have hR' := hR _ rfl
  have en : Str.ofString "nothing" = S nothT := lit _
  have ec : Str.ofString ", " = S comS := lit _
  have eo : Str.ofString "none" = S noneT := lit _
  have ee : Str.ofString "" = S [] := lit _
  have ed : Str.ofString ".." = S dotS := lit _
  let W0 : List Tx0 := if b then [noneT] else []
  obtain ⟨PD, hPD⟩ : ∃ PD, PD = plD ps b := ⟨_, rfl⟩
  have at1 : ∀ (x : D) (b : Bool), atI [x, D.bl b] 1 = some (D.bl b) := fun _ _ => rfl
  dsimp only
  walk_at "s"
  refine ⟨by decide, fun l1 _ => ?_⟩
  refine sCut_by (fun Γ => Γ = [some (.im (plD ps b)), some (.ml l1 ((W0.map S).map D.str)), none, none, none, none]) ?_ ?_
  · refine sIf_by b (fun Q hQ => ?_) (fun h => ?_) fun h => ?_
    · unfold plD
      walk_at "r"
      simp only [at1]
      exact hQ
    · walk_at "r"
      subst h
      rw [eo]
      exact ⟨by decide, rfl⟩
    · subst h
      rfl
  rintro _ rfl
  have hw0 : W0.length ≤ 1 := by
    show (if b = true then [noneT] else []).length ≤ 1
    split <;> simp
  have lm : (mergeS ps).length ≤ 31 := Nat.le_trans (mergeS_len ps) hl
  have mbd := merge_bd60 hbd
  walk_at "s"
  refine ⟨(ps, b), rfl, ⟨hl, hok⟩, ?_⟩
  intro r hr2
  rw [hr2]
  dsimp only
  obtain ⟨ms, hms⟩ : ∃ ms, ms = mergeS ps := ⟨_, rfl⟩
  rw [← hms] at lm mbd hR' ⊢
  refine forb (fun pre Γ => ∃ d2 d3 d4 d5 : Option D, Γ = [some (.im (plD ps b)), some (.ml l1 (((W0 ++ pre.map stT).map S).map D.str)), d2.map Slot.im, d3.map Slot.im, d4.map Slot.im, d5.map Slot.im]) ⟨none, none, none, none, by rw [List.map_nil, List.append_nil]; rfl⟩ ?_ ?_
  · rintro pre ⟨x, y⟩ post Γ hx ⟨d2, d3, d4, d5, rfl⟩
    have hm : (x, y) ∈ ms := by rw [hx]; exact List.mem_append_right _ (.head _)
    have hpl := congrArg List.length hx
    rw [List.length_append, List.length_cons] at hpl
    have hb := mbd _ hm
    have b1 := fun i (e : x = some i) => hb i (.inl e)
    have b2 := fun i (e : y = some i) => hb i (.inr e)
    have l1' := endT_len b1
    have l2' := endT_len b2
    obtain ⟨AC, hAC⟩ : ∃ AC, AC = ((W0 ++ pre.map stT).map S).map D.str := ⟨_, rfl⟩
    have hACl : AC.length ≤ 40 := by
      rw [hAC, List.length_map, List.length_map, List.length_append, List.length_map]; omega
    have hAC2 : ((W0 ++ (pre ++ [(x, y)]).map stT).map S).map D.str = AC ++ [.str (S (stT (x, y)))] := by
      rw [hAC, List.map_append, List.map_append, List.map_append]
      simp
    rw [hAC2, ← hAC]
    walk_at "s"
    rw [ee]
    refine ⟨by cases d2 <;> rfl, by cases d3 <;> rfl, ?_⟩
    refine sCut_by (fun Γ => Γ = [some (.im (plD ps b)), some (.ml l1 AC), some (.im (cD x)), some (.im (cD y)), some (.im (.str (S (endT x)))), some (.im (.str (S [])))]) ?_ ?_
    · cases x with
      | none =>
        refine sIf_by false (fun Q hQ => ?_) (fun z => by cases z) fun _ => ?_
        · walk_at "r"; exact hQ
        · rfl
      | some i =>
        refine sIf_by true (fun Q hQ => ?_) (fun _ => ?_) fun z => by cases z
        · walk_at "r"; exact hQ
        · walk_at "r"
          rw [num_str]
          exact ⟨num_log (b1 i rfl), rfl⟩
    rintro _ rfl
    refine sCut_by (fun Γ => Γ = [some (.im (plD ps b)), some (.ml l1 AC), some (.im (cD x)), some (.im (cD y)), some (.im (.str (S (endT x)))), some (.im (.str (S (endT y))))]) ?_ ?_
    · cases y with
      | none =>
        refine sIf_by false (fun Q hQ => ?_) (fun z => by cases z) fun _ => ?_
        · walk_at "r"; exact hQ
        · rfl
      | some i =>
        refine sIf_by true (fun Q hQ => ?_) (fun _ => ?_) fun z => by cases z
        · walk_at "r"; exact hQ
        · walk_at "r"
          rw [num_str]
          exact ⟨num_log (b2 i rfl), rfl⟩
    rintro _ rfl
    refine sIf_by (x.isSome && decide (x = y)) (fun Q hQ => ?_) (fun h => ?_) fun h => ?_
    · walk_at "r"
      cases x with
      | none => exact ⟨fun z => (by cases z), fun _ => hQ⟩
      | some a =>
        have e := eqD_cn (some a) y
        refine ⟨fun _ => ⟨cD_sh 60 (some a), cD_sh 60 y, ?_⟩, fun z => (by cases z)⟩
        rw [e]
        exact hQ
    · walk_at "r"
      refine ⟨sz' (by omega), some (cD x), some (cD y), some (.str (S (endT x))), some (.str (S (endT y))), ?_⟩
      unfold stT
      rw [if_pos h]
      rfl
    · walk_at "r"
      rw [ed]
      simp only [S_cat, S_len]
      refine ⟨?_, ?_, sz' (by omega), some (cD x), some (cD y), some (.str (S (endT x))), some (.str (S (endT y))), ?_⟩
      · exact sz (by simp only [List.length_cons, List.length_nil]; omega)
      · exact sz (by rw [List.length_append]; simp only [List.length_cons, List.length_nil]; omega)
      · unfold stT
        rw [if_neg (by rw [h]; exact Bool.false_ne_true), List.append_assoc]
        rfl
  · rintro _ ⟨d2, d3, d4, d5, rfl⟩
    have ew : W0 ++ ms.map stT = wrds ms b := rfl
    rw [ew]
    have hwl : (wrds ms b).length ≤ 1000 := by
      rw [← ew, List.length_append, List.length_map]; omega
    walk_at "s"
    refine sIf_by (decide (wrds ms b = [])) (fun Q hQ => ?_) (fun h => ?_) fun h => ?_
    · walk_at "r"
      cases e : wrds ms b with
      | nil => rw [e] at hQ; exact hQ
      | cons a r => rw [e] at hQ; exact hQ
    · walk_at "r"
      rw [en]
      unfold spT at hR'
      rw [if_pos (of_decide_eq_true h)] at hR'
      exact hR'
    · walk_at "r"
      unfold spT at hR'
      rw [if_neg (of_decide_eq_false h)] at hR'
      refine ⟨(wrds ms b).map S, by rw [List.map_map], ?_, ?_⟩
      · rw [ec]
        refine join_ok hwl fun p hp => ?_
        rw [← ew] at hp
        rcases List.mem_append.mp hp with hp | hp
        · have : p ∈ (if b = true then [noneT] else []) := hp
          split at this
          · rw [List.mem_singleton.mp this]; decide
          · cases this
        · obtain ⟨q, hq, rfl⟩ := List.mem_map.mp hp
          exact Nat.le_trans (stT_len (mbd q hq)) (by decide)
      · rw [ec, join_S]
        exact hR'
abbrev s__law_is_number : Stmt := top 42
abbrev N__law_is_number : List Str := ["_law_word_here", "_law_digits", "_law_sign"]
theorem sc__law_is_number : FnScope N__law_is_number ["_law_word_here"] (defScope s__law_is_number) := ⟨rfl, rfl, rfl, by decide +kernel, rfl, by decide +kernel, by decide +kernel⟩
def S_lnum : SP := spc (α := Tx0) (fun l => [.im (.str (S l))]) (fun l => TOk l) fun l r => r = .d (.bl (isNum l))
theorem ok_lnum (F : FD K "_law_is_number" "_law_is_number" s__law_is_number [] f fd) (T : Tx K mg C) : FnOk P w K mg base CX0 (2 + 1) f fd ["_law_word_here"] (spP K S_lnum) := by
  refine fn_spc F sc__law_is_number (fun l => [some (.im (.str (S l))), none, none]) fun cdv A outer s H E hr => ?_
  refine ⟨_, (ss_cons (s_asg (i := 1) sc__law_is_number.nd (px_var 0))
      (ss_cut (s_if (tx_eq hr (bx (px_slS (bx_var 0) ox_no (ox_so (bx px_int)))) (bx px_str)) (ss_one (s_asg (i := 1) sc__law_is_number.nd (px_slS (bx_var 0) (ox_so (bx px_int)) ox_no))) ss_nil)
      (ss_cons (s_if (tx_w (tw_or (tx_eq hr (bx_var 1) (bx px_str)) (tw_or1 (tx_gt (bx (px_len rfl T.len (bx_var 1))) (bx px_int))))) (ss_one (s_ret px_bl)) ss_nil)
      (ss_cons (s_for PassesOwn.never rfl (il_str (bx_var 1)) (gx_name (i := 2) sc__law_is_number.nd) (ss_one (s_if (tx_ninS (bx_var 2) (bx px_str)) (ss_one (s_ret px_bl)) ss_nil)))
      (ss_one (s_ret (px_or (bx (px_eq hr (bx_var 0) (bx px_str))) (px_one (px_ne hr (bx (px_ixS (bx_var 1) (bx px_int))) (bx px_str)))))))))), ?_⟩
  rintro l R hl hR
  have ee : Str.ofString "" = S [] := lit _
  have hd := hl.dgs
  have hds := S_len (dgs l)
  walk_at "s"
  refine sCut_by (fun Γ => Γ = [some (.im (.str (S l))), some (.im (.str (S (dgs l)))), none]) ?_ ?_
  · refine sIf_by (decide (l.head? = some 45)) (fun Q hQ => ?_) (fun h => ?_) fun h => ?_
    · walk_at "r"
      rw [l_min, show (1 : Int) = ((1 : Nat) : Int) from rfl, cutS_to, eqD_S]
      refine ⟨S_szl hl.len, sh_S (hl.take 1), sh_S (TOk.of (by decide)), ?_⟩
      have e : decide (l.take 1 = [45]) = decide (l.head? = some 45) := by
        cases l with
        | nil => rfl
        | cons c r => simp
      rw [e]
      exact hQ
    · walk_at "r"
      rw [show (1 : Int) = ((1 : Nat) : Int) from rfl, cutS_from, List.drop_one]
      unfold dgs
      rw [if_pos (of_decide_eq_true h)]
      exact ⟨S_szl hl.len, rfl⟩
    · unfold dgs
      rw [if_neg (of_decide_eq_false h)]
      rfl
  rintro _ rfl
  walk_at "s"
  refine sIf_by (!decide (1 ≤ (dgs l).length ∧ (dgs l).length ≤ 60)) (fun Q hQ => ?_) (fun h => ?_) fun h => ?_
  · walk_at "r"
    rw [ee, eqD_S]
    refine ⟨sh_S hd, sh_S (TOk.of (by decide)), fun h1 => ?_, fun h1 => ⟨S_szl hd.len, ?_⟩⟩
    · have e : dgs l = [] := of_decide_eq_true h1
      rw [e] at hQ
      exact hQ
    · have h2 : 1 ≤ (dgs l).length := Nat.one_le_iff_ne_zero.mpr fun z => of_decide_eq_false h1 (List.length_eq_zero_iff.mp z)
      have e : (!decide (1 ≤ (dgs l).length ∧ (dgs l).length ≤ 60)) = decide ((60 : Int) < ((S (dgs l)).length : Int)) := by
        rw [hds, ← decide_not]
        exact decide_eq_decide.mpr (by omega)
      rw [e] at hQ
      exact hQ
  · walk_at "r"
    refine hR _ ?_
    unfold isNum
    rw [Bool.not_eq_true'] at h
    rw [h]
    rfl
  rw [Bool.not_eq_false'] at h
  walk_at "s"
  rw [signs_S]
  refine forb (fun pre Γ => pre.all digB = true ∧ ∃ d2 : Option D, Γ = [some (.im (.str (S l))), some (.im (.str (S (dgs l)))), d2.map Slot.im]) ⟨rfl, none, rfl⟩ ?_ ?_
  · rintro pre c post Γ hx ⟨hpre, d2, rfl⟩
    walk_at "s"
    refine ⟨by cases d2 <;> rfl, ?_⟩
    refine sIf_by (!digB c) (fun Q hQ => ?_) (fun h2 => ?_) fun h2 => ?_
    · walk_at "r"
      rw [← dig_in] at hQ
      exact ⟨c, rfl, hQ⟩
    · walk_at "r"
      refine hR _ ?_
      have e : (dgs l).all digB = false := by
        rw [hx, List.all_append, List.all_cons]
        rw [Bool.not_eq_true'] at h2
        rw [h2]
        simp
      unfold isNum
      rw [e, Bool.false_and, Bool.and_false]
    · refine ⟨?_, some (.str ⟨#[c]⟩), rfl⟩
      rw [Bool.not_eq_false'] at h2
      rw [List.all_append, hpre, List.all_cons, h2]
      rfl
  · rintro _ ⟨hall, d2, rfl⟩
    walk_at "r"
    have hn : 1 ≤ (dgs l).length := (of_decide_eq_true h).1
    obtain ⟨c, r, hc⟩ : ∃ c r, dgs l = c :: r := by
      cases e : dgs l with
      | nil => rw [e] at hn; exact absurd hn (by decide)
      | cons c r => exact ⟨c, r, rfl⟩
    have e1 : atI (dgs l) 0 = some c := by rw [hc]; exact atI_nat (j := 0) rfl
    have e2 : isNum l = (decide (l = [48]) || !decide (c = 48)) := by
      unfold isNum
      rw [h, hall, hc]
      simp
    rw [l_0, eqD_S, e1]
    have hc2 : TOk [c] := ⟨by simp, fun d hd' => by rw [List.mem_singleton.mp hd']; exact hd.asc c (by rw [hc]; exact .head _)⟩
    refine ⟨sh_S hl, sh_S (TOk.of (by decide)), fun h3 => hR _ (by rw [e2, h3]; rfl), fun h3 => ⟨S_szl hd.len, sh_S hc2, sh_S (TOk.of (by decide)), hR _ ?_⟩⟩
    have e3 := eqD_S [c] [48]
    rw [e2, h3, Bool.false_or]
    show Rs.d (D.bl !eqD (D.str (S [c])) (D.str (S [48]))) = _
    rw [e3]
    simp
abbrev s__law_text_part : Stmt := top 43
abbrev N__law_text_part : List Str := ["_law_word_here", "_law_k", "_law_left", "_law_right", "_law_low", "_law_high"]
theorem sc__law_text_part : FnScope N__law_text_part ["_law_word_here"] (defScope s__law_text_part) := ⟨rfl, rfl, rfl, by decide +kernel, rfl, by decide +kernel, by decide +kernel⟩
def prD : Option (List St2 × Bool) → D
  | none => .non
  | some x => .tup [.lst (x.1.map stD), .bl x.2]
def S_ltp : SP := spc (α := Tx0) (fun l => [.im (.str (S l))]) (fun l => TOk l) fun l r => r = .d (prD (rdP l))
def atDot0 (l : Tx0) (k : Nat) : Bool := decide ((l.drop k).take 2 = dotS) && (endOk (l.take k) && endOk (l.drop (k + 2)))
theorem dot_0 (l : Tx0) (k : Nat) : atDot l k = (atDot0 l k && okS (endV (l.take k), endV (l.drop (k + 2)))) := by
  unfold atDot atDot0
  rw [Bool.and_assoc, Bool.and_assoc]
theorem ok_ltp (F : FD K "_law_text_part" "_law_text_part" s__law_text_part [] f fd) (T : Tx K mg C) (D__law_is_number : Df P w K mg base "_law_is_number" 3 (spP K S_lnum)) : FnOk P w K mg base CX0 (3 + 1) f fd ["_law_word_here"] (spP K S_ltp) := by
  refine fn_spc F sc__law_text_part (fun l => [some (.im (.str (S l))), none, none, none, none, none]) fun cdv A outer s H E hr => ?_
  refine ⟨_, (ss_cons (s_if (tx_eq hr (bx_var 0) (bx px_str)) (ss_one (s_ret (px_tup (as_cons (px_f (fx_lst as_nil)) (as_cons px_bl as_nil))))) ss_nil)
      (ss_cons (s_if (tx_tru (bx (px_call D__law_is_number (hr.mono (by decide)) (ax_i (px_var 0) ax_nil)))) (ss_one (s_ret (px_tup (as_cons (px_f (fx_lst (as_cons (px_tup (as_cons (px_intS rfl T.int (bx_var 0)) (as_cons (px_intS rfl T.int (bx_var 0)) as_nil))) as_nil))) (as_cons px_bl as_nil))))) ss_nil)
      (ss_cons (s_for PassesOwn.never rfl (il_r1 rfl T.range (aw_cons (bx (px_sub (bx (px_len rfl T.len (bx_var 0))) (bx px_int))) aw_nil)) (gx_name (i := 1) sc__law_text_part.nd) (ss_cons (s_asg (i := 2) sc__law_text_part.nd (px_slS (bx_var 0) ox_no (ox_so (bx_var 1))))
      (ss_cons (s_asg (i := 3) sc__law_text_part.nd (px_slS (bx_var 0) (ox_so (bx (px_add (bx_var 1) (bx px_int)))) ox_no))
      (ss_one (s_if (tx_w (tw_and (tx_eq hr (bx (px_slS (bx_var 0) (ox_so (bx_var 1)) (ox_so (bx (px_add (bx_var 1) (bx px_int)))))) (bx px_str)) (tw_and (tx_w (tw_or (tx_eq hr (bx_var 2) (bx px_str)) (tw_or1 (tx_tru (bx (px_call D__law_is_number (hr.mono (by decide)) (ax_i (px_var 2) ax_nil))))))) (tw_and1 (tx_w (tw_or (tx_eq hr (bx_var 3) (bx px_str)) (tw_or1 (tx_tru (bx (px_call D__law_is_number (hr.mono (by decide)) (ax_i (px_var 3) ax_nil))))))))))) (ss_cons (s_asg (i := 4) sc__law_text_part.nd px_non)
      (ss_cons (s_asg (i := 5) sc__law_text_part.nd px_non)
      (ss_cut (s_if (tx_ne hr (bx_var 2) (bx px_str)) (ss_one (s_asg (i := 4) sc__law_text_part.nd (px_intS rfl T.int (bx_var 2)))) ss_nil)
      (ss_cut (s_if (tx_ne hr (bx_var 3) (bx px_str)) (ss_one (s_asg (i := 5) sc__law_text_part.nd (px_intS rfl T.int (bx_var 3)))) ss_nil)
      (ss_one (s_if (tx_w (tw_or (tx_is (bx_var 4) (bx px_non)) (tw_or (tx_is (bx_var 5) (bx px_non)) (tw_or1 (tx_le (bx_var 4) (bx_var 5)))))) (ss_one (s_ret (px_tup (as_cons (px_f (fx_lst (as_cons (px_tup (as_cons (px_var 4) (as_cons (px_var 5) as_nil))) as_nil))) (as_cons px_bl as_nil))))) ss_nil)))))) ss_nil)))))
      (ss_one (s_ret px_non))))), ?_⟩
  rintro l R hl hR
  have hR' := hR _ rfl
  have ee : Str.ofString "" = S [] := lit _
  have ed : Str.ofString ".." = S dotS := lit _
  have eo : Str.ofString "none" = S noneT := lit _
  have isn : ∀ {Q : Rs → Prop} (e : Tx0), TOk e → Q (.d (.bl (isNum e))) → S_lnum.S [Slot.im (.str (S e))] Q := fun {Q} e h1 h2 => ⟨e, rfl, h1, by rintro _ rfl; exact h2⟩
  have ok0 : TOk ([] : Tx0) := TOk.of (by decide)
  walk_at "s"
  refine sIf_by (decide (l = noneT)) (fun Q hQ => ?_) (fun h => ?_) fun h => ?_
  · walk_at "r"
    rw [eo, eqD_S]
    exact ⟨sh_S hl, sh_S (TOk.of (by decide)), hQ⟩
  · walk_at "r"
    have e : rdP l = some ([], true) := by unfold rdP; rw [if_pos (of_decide_eq_true h)]
    rw [e] at hR'
    exact ⟨by decide, by decide, hR'⟩
  have er : rdP l = (rdS l).map fun p => ([p], false) := by unfold rdP; rw [if_neg (of_decide_eq_false h)]
  rw [er] at hR'
  walk_at "s"
  refine sIf_by (isNum l) (fun Q hQ => ?_) (fun h => ?_) fun h => ?_
  · walk_at "r"
    exact isn l hl hQ
  · walk_at "r"
    rw [rd_num h] at hR'
    have hi := num_int h
    have hln := num_len h
    exact ⟨_, hi, by rw [S_len]; omega, _, hi, by rw [S_len]; omega, by decide, by decide, by decide, hR'⟩
  walk_at "s"
  rw [S_len]
  have en : ((l.length : Int) - 1).toNat = l.length - 1 := by omega
  have hll := hl.len
  rw [en]
  refine ⟨sz (by omega), by omega, by omega, ?_⟩
  refine forb (fun pre Γ => (∀ j, j < pre.length → atDot l j = false) ∧ ∃ d1 d2 d3 d4 d5 : Option D, Γ = [some (.im (.str (S l))), d1.map Slot.im, d2.map Slot.im, d3.map Slot.im, d4.map Slot.im, d5.map Slot.im]) ⟨fun j hj => (by cases hj), none, none, none, none, none, rfl⟩ ?_ ?_
  · rintro pre k post Γ hx ⟨hpre, d1, d2, d3, d4, d5, rfl⟩
    obtain ⟨rfl, hlt⟩ := rng_at hx
    obtain ⟨j, hj⟩ : ∃ j, j = pre.length := ⟨_, rfl⟩
    have hl2 : (pre ++ [(pre.length : Int)]).length = j + 1 := by rw [List.length_append, hj]; rfl
    rw [hl2]
    rw [← hj] at hlt hpre ⊢
    have e2 : (j : Int) + 2 = ((j + 2 : Nat) : Int) := by omega
    have ta := hl.take j
    have tb := hl.drop (j + 2)
    have tc : TOk ((l.drop j).take 2) := (hl.drop j).take 2
    have hno : atDot l j = false → ∀ i, i < j + 1 → atDot l i = false := fun h i hi => by
      rcases (show i < j ∨ i = j by omega) with q | rfl
      · exact hpre i q
      · exact h
    walk_at "s"
    rw [e2, cutS_to, cutS_from]
    refine ⟨by cases d1 <;> rfl, S_szl hll, S_szl hll, ?_⟩
    obtain ⟨a, ha⟩ : ∃ a, l.take j = a := ⟨_, rfl⟩
    obtain ⟨b, hb⟩ : ∃ b, l.drop (j + 2) = b := ⟨_, rfl⟩
    have hd0 := dot_0 l j
    have hat := fun h => rd_at (l := l) (k := j) h
    unfold atDot0 at hd0
    rw [ha] at ta hd0 hat ⊢
    rw [hb] at tb hd0 hat ⊢
    have enV : ∀ e : Tx0, endOk e = true → e ≠ [] → intText? (S e) = some (numV e) ∧ (S e).length ≤ 640 := fun e h1 h2 => by
      have hn : isNum e = true := by
        rcases Bool.or_eq_true_iff.mp h1 with q | q
        · exact absurd (of_decide_eq_true q) h2
        · exact q
      have := num_len hn
      exact ⟨num_int hn, by rw [S_len]; omega⟩
    refine sIf_by (decide ((l.drop j).take 2 = dotS) && (endOk a && endOk b)) (fun Q hQ => ?_) (fun h => ?_) fun h => ?_
    · walk_at "r"
      rw [e2, cutS_mid l j 2 (by omega), ed, ee, eqD_S, eqD_S, eqD_S]
      unfold endOk at hQ
      refine ⟨S_szl hll, sh_S tc, sh_S (TOk.of (by decide)), fun h1 => ⟨sh_S ta, sh_S ok0, fun h2 => ⟨fun _ => ⟨sh_S tb, sh_S ok0, fun h3 => ?_, fun h3 => isn b tb ?_⟩, fun z => (by cases z)⟩, fun h2 => isn a ta ⟨fun h4 => ⟨sh_S tb, sh_S ok0, fun h3 => ?_, fun h3 => isn b tb ?_⟩, fun h4 => ?_⟩⟩, fun h1 => ?_⟩
      · rw [h1, h2, h3] at hQ; exact hQ
      · rw [h1, h2, h3] at hQ; exact hQ
      · rw [h1, h2, h3, h4] at hQ; exact hQ
      · rw [h1, h2, h3, h4] at hQ; exact hQ
      · rw [h1, h2, h4] at hQ; exact hQ
      · rw [h1] at hQ; exact hQ
    · rw [h, Bool.true_and] at hd0
      obtain ⟨h1, h2⟩ := Bool.and_eq_true_iff.mp h
      obtain ⟨h2, h3⟩ := Bool.and_eq_true_iff.mp h2
      walk_at "s"
      refine sCut_by (fun Γ => Γ = [some (.im (.str (S l))), some (.im (.int j)), some (.im (.str (S a))), some (.im (.str (S b))), some (.im (cD (endV a))), some (.im .non)]) ?_ ?_
      · refine sIf_by (!decide (a = [])) (fun Q hQ => ?_) (fun h => ?_) fun h => ?_
        · walk_at "r"
          rw [ee, eqD_S]
          exact ⟨sh_S ta, sh_S ok0, hQ⟩
        · have hne : a ≠ [] := by simpa using h
          walk_at "r"
          obtain ⟨g1, g2⟩ := enV a h2 hne
          refine ⟨_, g1, g2, ?_⟩
          unfold endV
          rw [if_neg hne]
          rfl
        · have hne : a = [] := by simpa using h
          unfold endV
          rw [if_pos hne]
          rfl
      rintro _ rfl
      refine sCut_by (fun Γ => Γ = [some (.im (.str (S l))), some (.im (.int j)), some (.im (.str (S a))), some (.im (.str (S b))), some (.im (cD (endV a))), some (.im (cD (endV b)))]) ?_ ?_
      · refine sIf_by (!decide (b = [])) (fun Q hQ => ?_) (fun h => ?_) fun h => ?_
        · walk_at "r"
          rw [ee, eqD_S]
          exact ⟨sh_S tb, sh_S ok0, hQ⟩
        · have hne : b ≠ [] := by simpa using h
          walk_at "r"
          obtain ⟨g1, g2⟩ := enV b h3 hne
          refine ⟨_, g1, g2, ?_⟩
          unfold endV
          rw [if_neg hne]
          rfl
        · have hne : b = [] := by simpa using h
          unfold endV
          rw [if_pos hne]
          rfl
      rintro _ rfl
      obtain ⟨x, hx⟩ : ∃ x, endV a = x := ⟨_, rfl⟩
      obtain ⟨y, hy⟩ : ∃ y, endV b = y := ⟨_, rfl⟩
      rw [hx, hy] at hd0 hat ⊢
      refine sIf_by (okS (x, y)) (fun Q hQ => ?_) (fun h => ?_) fun h => ?_
      · cases x with
        | none => walk_at "r"; exact ⟨fun _ => hQ, fun z => (by cases z)⟩
        | some i =>
          cases y with
          | none => walk_at "r"; exact ⟨fun z => z.elim, fun _ => ⟨fun _ => hQ, fun z => (by cases z)⟩⟩
          | some k => walk_at "r"; exact ⟨fun z => z.elim, fun _ => ⟨fun z => z.elim, fun _ => hQ⟩⟩
      · walk_at "r"
        rw [hat (hd0.trans h)] at hR'
        exact ⟨by decide, by decide, by decide, hR'⟩
      · exact ⟨hno (hd0.trans h), some (.int j), some (.str (S a)), some (.str (S b)), some (cD x), some (cD y), rfl⟩
    · rw [h, Bool.false_and] at hd0
      exact ⟨hno hd0, some (.int j), some (.str (S a)), some (.str (S b)), d4, d5, rfl⟩
  · rintro _ ⟨hall, d1, d2, d3, d4, d5, rfl⟩
    rw [rngI_len] at hall
    walk_at "r"
    have e : rdS l = none := by
      cases q : rdS l with
      | none => rfl
      | some p =>
        rcases rd_some q with ⟨q1, _⟩ | ⟨k, hk, q1⟩
        · rw [h] at q1; cases q1
        · rw [hall k (by omega)] at q1; cases q1
    rw [e] at hR'
    exact hR'
end
end Kb
set_option Elab.async false
set_option linter.all false
set_option maxRecDepth 100000
set_option maxHeartbeats 1000000
namespace Kb
open PySem L2 SX
set_option autoImplicit false
local macro_rules | `(tactic| walk_at "r") => `(tactic| try simp only [sSeq, sNext, sRet, sRetF, sRetO, sAsg, sAsgF, sAsgM, sAsgR, rCl, rMe, sRetM, sIf, sIfM, sDrop, sDropM, sUnp, sAug, sFor, sForM, sApp, sSetI, sDPu, sDPuT, sDNew, sDNewT, sDOne, sFldI, sBreak, sCont, fLc, xDc, xF, xVar, D.fl, bVar, xC, x2, b2, fAdd, fI, fI0, fB0, fEq, fNe, fIn, fIs, fIsNot, D.isN, xNeg, bTru, bNot, bAnd, bOr, bCh, xAnd, xOr, xNot, xIfE, xFld, fIx, fSl, oNo, oSo, aNil, aCons, xTup, fLst, fCat, xCall, fCall, fLen, fAbs, fInt, fList, fTuple, fIsi, D.ty, fAny, fSrt, fMin, xIdx, fSS, fDIn, xDGet, xDGetT, keyD, keysD, gN, gsN, gsC, gTu, iL, iT, iR1, iR2, iR3, iR1M, bYes, wipeE, free, Slot.ad, Slot.dat, Slot.par, axNil, axI, axB, xCl, fCl, xMe, fMe, xMk, fGen, mP, m2, bm2, mCl, mTup, mLst, mSS, amNil, amCons, gPlain, gThen, gNil, gYield, zP, zM, zTP, zD, z2, bz2, zTru, zNot, zAnd, zOr, zNil, zCons, zTup, zLst, zCl, zClX, zFld, zMkS, sAsgZ, sRetZ, sIfZ, sDropZ, sRaise, sTry, sRetR, sRetV, sRetMF, mF, mLc, iP, xR, fR, xClF, rMe0, fLRg, fSrtQ, iEnV, xEFld, fIsX, cvV, cD_none, cD_some, stD, lk_st, lk_hn, lk_sz, eqD_int, sh_int, sh60_ints, inL_ints, xSl, sSlI, zMkL, rMeL, rMeL0, zMeX0, fIsL, fIsM, fOwn, fSortK, srtKB, sExt, mPop, sUnpM, fMax2, fMin2, fSum, fLtT, fSSI, sRaise0, sTryF, sAsgX, rMeX0, sFrz, fBool, fBoolO, fInO, fOwnT, xMkL, xOwn1, zSta, rSta, rS0, rClX, fIsB, fInT, aStar, iZip, fLc2, fOwnN, fNeL, fIsA, sAppM, mSl, lk_sp, lk_co, xM1, xSlS, fIxS, fInS, xJoin, mJoin, fStr, fIntS, jD, xJs, iStrT, iEn, fMulS, mCall, sAsgLM, sUnpZ, fStrO, Bool.false_xor, Bool.true_xor,
  List.map_cons, List.map_nil, List.length_cons, List.length_nil, List.getElem?_cons_succ, List.getElem?_cons_zero, List.set_cons_succ, List.set_cons_zero, List.cons_append, List.nil_append, Option.isNone_none, Option.map_some, Option.map_none, true_and, and_true, if_true, if_false, rngD_ints, Int.add_sub_cancel, Bool.false_eq_true, List.length_map])
local macro_rules | `(tactic| walk_at "s") => `(tactic| try simp only [sSeq, sNext, sRet, sRetF, sRetO, sAsg, sAsgF, sAsgM, sAsgR, rCl, rMe, sRetM, sDrop, sDropM, sUnp, sAug, sFor, sForM, sApp, sSetI, sDPu, sDPuT, sDNew, sDNewT, sDOne, sFldI, sBreak, sCont, fLc, xDc, xF, xVar, D.fl, bVar, xC, x2, b2, fAdd, fI, fI0, fB0, fEq, fNe, fIn, fIs, fIsNot, D.isN, xNeg, bTru, bNot, bAnd, bOr, bCh, xAnd, xOr, xNot, xIfE, xFld, fIx, fSl, oNo, oSo, aNil, aCons, xTup, fLst, fCat, xCall, fCall, fLen, fAbs, fInt, fList, fTuple, fIsi, D.ty, fAny, fSrt, fMin, xIdx, fSS, fDIn, xDGet, xDGetT, keyD, keysD, gN, gsN, gsC, gTu, iL, iT, iR1, iR2, iR3, iR1M, bYes, wipeE, free, Slot.ad, Slot.dat, Slot.par, axNil, axI, axB, xCl, fCl, xMe, fMe, xMk, fGen, mP, m2, bm2, mCl, mTup, mLst, mSS, amNil, amCons, gPlain, gThen, gNil, gYield, zP, zM, zTP, zD, z2, bz2, zTru, zNot, zAnd, zOr, zNil, zCons, zTup, zLst, zCl, zClX, zFld, zMkS, sAsgZ, sRetZ, sDropZ, sRaise, sTry, sRetR, sRetV, sRetMF, mF, mLc, iP, xR, fR, xClF, rMe0, fLRg, fSrtQ, iEnV, xEFld, fIsX, cvV, cD_none, cD_some, stD, lk_st, lk_hn, lk_sz, eqD_int, sh_int, sh60_ints, inL_ints, xSl, sSlI, zMkL, rMeL, rMeL0, zMeX0, fIsL, fIsM, fOwn, fSortK, srtKB, sExt, mPop, sUnpM, fMax2, fMin2, fSum, fLtT, fSSI, sRaise0, sTryF, sAsgX, rMeX0, sFrz, fBool, fBoolO, fInO, fOwnT, xMkL, xOwn1, zSta, rSta, rS0, rClX, fIsB, fInT, aStar, iZip, fLc2, fOwnN, fNeL, fIsA, sAppM, mSl, lk_sp, lk_co, xM1, xSlS, fIxS, fInS, xJoin, mJoin, fStr, fIntS, jD, xJs, iStrT, iEn, fMulS, mCall, sAsgLM, sUnpZ, fStrO, Bool.false_xor, Bool.true_xor,
  List.map_cons, List.map_nil, List.length_cons, List.length_nil, List.getElem?_cons_succ, List.getElem?_cons_zero, List.set_cons_succ, List.set_cons_zero, List.cons_append, List.nil_append, Option.isNone_none, Option.map_some, Option.map_none, true_and, and_true, if_true, if_false, rngD_ints, Int.add_sub_cancel, Bool.false_eq_true, List.length_map])
/-- words that are drawn: short, no comma -/
structure WOk (l : Tx0) : Prop where
  len : l.length ≤ 100
  sg : ∀ c ∈ l, c < 128 ∧ c ≠ 44
theorem WOk.t {l : Tx0} (h : WOk l) : TOk l := ⟨by have := h.len; omega, fun c hc => (h.sg c hc).1⟩
theorem WOk.of {l : Tx0} (h : (decide (l.length ≤ 100) && l.all fun c => decide (c < 128) && decide (c ≠ 44)) = true) : WOk l := by
  obtain ⟨h1, h2⟩ := Bool.and_eq_true_iff.mp h
  refine ⟨of_decide_eq_true h1, fun c hc => ?_⟩
  obtain ⟨h3, h4⟩ := Bool.and_eq_true_iff.mp (List.all_eq_true.mp h2 c hc)
  exact ⟨of_decide_eq_true h3, of_decide_eq_true h4⟩
theorem w_num {i : Int} (h : i.natAbs < 10 ^ 20) : WOk (numT i) ∧ (numT i).length ≤ 21 := by
  have hl : (numT i).length ≤ 21 := by
    have := TL.numL_len (k := 20) (by decide) h
    unfold numT
    split
    · rw [List.length_cons]; omega
    · omega
  exact ⟨⟨by omega, fun c hc => by have := num_sgn i c hc; omega⟩, hl⟩
theorem w_cat {a b : Tx0} (ha : WOk a) (hb : WOk b) (h : a.length + b.length ≤ 100) : WOk (a ++ b) := ⟨by rw [List.length_append]; omega, fun c hc => (List.mem_append.mp hc).elim (ha.sg c) (hb.sg c)⟩
theorem w_dot : WOk dotS := WOk.of (by decide)
def oddL : List Tx0 := [nothT, [], [45], [45, 48], [43, 49], [48, 48, 55], [49, 46, 46, 46, 50], [51, 46, 46, 50], [46, 46, 45], [78, 111, 110, 101], [49, 46, 46, 32, 50], [110, 111, 110, 101, 46, 46], [48, 46, 46, 48], [45, 49, 46, 46, 45, 50],
  [32, 49], [49, 32], [49, 46, 46, 50, 46, 46, 51], [46, 46, 46, 46], [48, 49, 46, 46, 50], [46, 46, 48, 48], [45, 48, 49], [49, 45], [45, 45, 49], [49, 50, 97], List.replicate 61 49, [110, 111, 110, 101, 32, 110, 111, 110, 101], [46]]
theorem joinL_one : ∀ cs : Tx0, TL.joinL [] (cs.map fun c => [c]) = cs
  | [] => rfl
  | [c] => rfl
  | c :: d :: r => by
    show [c] ++ ([] ++ TL.joinL [] ((d :: r).map fun c => [c])) = _
    rw [joinL_one (d :: r)]
    rfl
def strD (l : Tx0) : D := .str (S l)
theorem odd_ok : ∀ l ∈ oddL, WOk l := by
  have h : oddL.all (fun l => decide (l.length ≤ 100) && l.all fun c => decide (c < 128) && decide (c ≠ 44)) = true := by decide +kernel
  exact fun l hl => WOk.of (List.all_eq_true.mp h l hl)
section
variable {P : Program} {w : World} {K : Frag} {mg : Str → Option Value} {base : Heap} {C Ci Cc Ck Ct Cw fI fC fT fW f : Addr} {fd : FuncData}
abbrev s__law_odd : Stmt := top 44
abbrev N__law_odd : List Str := ["_law_odd_here"]
theorem sc__law_odd : FnScope N__law_odd [] (defScope s__law_odd) := ⟨rfl, rfl, rfl, by decide +kernel, rfl, by decide +kernel, by decide +kernel⟩
def S_lodd : SP := spc (α := Unit) (fun _ => []) (fun _ => True) fun _ r => r = .fl (oddL.map strD)
theorem ok_lodd (F : FD K "_law_odd" "_law_odd" s__law_odd [] f fd) (T : Tx K mg C) : FnOk P w K mg base CX0 (2 + 1) f fd [] (spP K S_lodd) := by
  refine fn_spc F sc__law_odd (fun _ => [none]) fun cdv A outer s H E hr => ?_
  refine ⟨_, (ss_cons (s_asg (i := 0) sc__law_odd.nd (px_f (fx_lst (as_cons px_str (as_cons px_str (as_cons px_str (as_cons px_str (as_cons px_str (as_cons px_str (as_cons px_str (as_cons px_str (as_cons px_str (as_cons px_str (as_cons px_str (as_cons px_str (as_cons px_str (as_cons px_str as_nil)))))))))))))))))
      (ss_one (s_retF (fx_cat (bx_var 0) (bx (px_f (fx_lst (as_cons px_str (as_cons px_str (as_cons px_str (as_cons px_str (as_cons px_str (as_cons px_str (as_cons px_str (as_cons px_str (as_cons px_str (as_cons px_str (as_cons (px_mulS (bx px_str) (bx px_int)) (as_cons px_str (as_cons px_str as_nil)))))))))))))))))))), ?_⟩
  rintro ⟨⟩ R _ hR
  have hR' := hR _ rfl
  walk_at "s"
  refine ⟨by decide, 49, lit "1", by decide, by decide, by decide, by decide, ?_⟩
  simp only [lit]
  exact hR'
abbrev s__law_few_signs : Stmt := top 45
abbrev N__law_few_signs : List Str := ["_law_pot_here", "_law_k"]
theorem sc__law_few_signs : FnScope N__law_few_signs ["_law_pot_here"] (defScope s__law_few_signs) := ⟨rfl, rfl, rfl, by decide +kernel, rfl, by decide +kernel, by decide +kernel⟩
def S_few : SM := spcM (α := List D) (fun x => x) (fun _ => []) (fun x => PotOk x) fun x r z => PotOk z ∧ ∃ l : Tx0, WOk l ∧ r = .d (.str (S l))
theorem ok_few (F : FD K "_law_few_signs" "_law_few_signs" s__law_few_signs [] f fd) (T : Tx K mg C) (D__law_draw : DfM P w K mg base "_law_draw" 3 S_draw) : FnOk P w K mg base CX0 (3 + 1) f fd ["_law_pot_here"] (spM K S_few) := by
  refine fn_pot F sc__law_few_signs (fun l x => [some (.pl l x), none]) fun cdv A outer s H E hr => ?_
  refine ⟨_, (ss_one (s_retM (mx_join (mx_f (fm_lc (own := [("_law_k", 1)]) rfl sc__law_few_signs.nd (iz_m (ilm_r1 rfl T.range (am_cons (mx_call (i := 0) D__law_draw (hr.mono (by decide)) (am_cons (mx px_int) am_nil)) am_nil))) (blkOk_by (N := N__law_few_signs) (sc := defScope s__law_few_signs) (by decide +kernel)) (fun _ _ _ _ _ => (gx_name (i := 1) sc__law_few_signs.nd)) (fun _ _ _ _ _ => tts_nil) (fun _ _ _ _ _ => (mx_ixS (mx px_str) (mx_call (i := 0) D__law_draw (hr.mono (by decide)) (am_cons (mx px_int) am_nil))))))))), ?_⟩
  rintro l z R hz hR
  walk_at "s"
  refine ⟨⟨_, _, .inl rfl⟩, drawS hz (by decide) (by decide) fun n z hz hn0 hn => ?_⟩
  simp only [dat_d]
  have e0 : Str.ofString "0123..- n" = S [48, 49, 50, 51, 46, 46, 45, 32, 110] := lit _
  have ee : Str.ofString "" = S [] := lit _
  refine ⟨by omega, by omega, by rw [List.length_map, rngI_len]; exact sz (by omega), rfl, fun i acc Γw => ∃ (z : List D) (cs : Tx0), PotOk z ∧ cs.length = i ∧ (∀ c ∈ cs, c < 128 ∧ c ≠ 44) ∧ acc = (cs.map fun c => S [c]).map D.str ∧ Γw = [some (.pl l z), none], ⟨z, [], hz, rfl, fun c hc => (by cases hc), rfl, rfl⟩, ?_, ?_⟩
  · rintro i d acc Γw hd hacc ⟨z, cs, hz, hcs, hin, rfl, rfl⟩
    walk_at "r"
    refine ⟨fun _ => ⟨⟨_, _, .inl rfl⟩, drawS hz (by decide) (by decide) fun v z hz hv0 hv => ?_⟩, fun z => (by cases z)⟩
    simp only [dat_d]
    rw [e0]
    have hat : ∃ c : Nat, atI ([48, 49, 50, 51, 46, 46, 45, 32, 110] : List Nat) v = some c ∧ c < 128 ∧ c ≠ 44 := by
      have : v = 0 ∨ v = 1 ∨ v = 2 ∨ v = 3 ∨ v = 4 ∨ v = 5 ∨ v = 6 ∨ v = 7 ∨ v = 8 := by omega
      rcases this with rfl | rfl | rfl | rfl | rfl | rfl | rfl | rfl | rfl <;> exact ⟨_, rfl, by decide, by decide⟩
    obtain ⟨c, hc, hc1, hc2⟩ := hat
    rw [show (S [48, 49, 50, 51, 46, 46, 45, 32, 110]).cps.toList = [48, 49, 50, 51, 46, 46, 45, 32, 110] from rfl, hc]
    refine ⟨S_szl (by decide), rfl, z, cs ++ [c], hz, by rw [List.length_append, hcs]; rfl, fun e he => ?_, by rw [List.map_append, List.map_append]; rfl, rfl⟩
    rcases List.mem_append.mp he with he | he
    · exact hin e he
    · rw [List.mem_singleton.mp he]; exact ⟨hc1, hc2⟩
  · rintro acc Γw ⟨z, cs, hz, hcs, hin, rfl, rfl⟩
    rw [List.length_map, rngI_len] at hcs
    refine ⟨cs.map fun c => S [c], rfl, ?_, z, rfl, ?_⟩
    · unfold joinOk
      rw [ee, List.map_map]
      have e1 : cs.map ((·.length) ∘ fun c => S [c]) = cs.map fun _ => 1 := List.map_congr_left fun c _ => rfl
      rw [e1]
      have e2 : (cs.map fun _ => 1).sum = cs.length := by
        clear hin hcs e1
        induction cs with
        | nil => rfl
        | cons c r ih => rw [List.map_cons, List.sum_cons, ih, List.length_cons]; omega
      rw [e2, S_len]
      simp only [List.length_nil, Nat.mul_zero]
      omega
    · have e3 : (cs.map fun c => S [c]) = (cs.map fun c => [c]).map S := by rw [List.map_map]; rfl
      rw [ee, e3, join_S, joinL_one]
      exact hR _ _ ⟨hz, cs, ⟨by omega, hin⟩, rfl⟩
abbrev s__law_word : Stmt := top 46
abbrev N__law_word : List Str := ["_law_pot_here", "_law_kinds", "_law_kind", "_law_low", "_law_far"]
theorem sc__law_word : FnScope N__law_word ["_law_pot_here", "_law_kinds"] (defScope s__law_word) := ⟨rfl, rfl, rfl, by decide +kernel, rfl, by decide +kernel, by decide +kernel⟩
def S_word : SM := spcM (α := List D × Int) (fun x => x.1) (fun x => [.int x.2]) (fun x => PotOk x.1 ∧ 1 ≤ x.2 ∧ x.2 ≤ 9) fun x r z => PotOk z ∧ ∃ l : Tx0, WOk l ∧ r = .d (.str (S l))
theorem ok_word (F : FD K "_law_word" "_law_word" s__law_word [] f fd) (T : Tx K mg C) (D__law_draw : DfM P w K mg base "_law_draw" 3 S_draw) (D__law_number : DfM P w K mg base "_law_number" 4 S_number) (D__law_odd : Df P w K mg base "_law_odd" 3 (spP K S_lodd)) (D__law_few_signs : DfM P w K mg base "_law_few_signs" 4 S_few) : FnOk P w K mg base CX0 (4 + 1) f fd ["_law_pot_here", "_law_kinds"] (spM K S_word) := by
  refine fn_pot F sc__law_word (fun l x => [some (.pl l x.1), some (.im (.int x.2)), none, none, none]) fun cdv A outer s H E hr => ?_
  refine ⟨_, (ss_cons (s_asgM (i := 2) sc__law_word.nd (mx_call (i := 0) D__law_draw (hr.mono (by decide)) (am_cons (mx (px_var 1)) am_nil)))
      (ss_cons (s_asgM (i := 3) sc__law_word.nd (mx_call (i := 0) D__law_number (hr.mono (by decide)) am_nil))
      (ss_cons (s_asgM (i := 4) sc__law_word.nd (mx_call (i := 0) D__law_draw (hr.mono (by decide)) (am_cons (mx px_int) am_nil)))
      (ss_cons (s_if (tx_lt (bx_var 2) (bx px_int)) (ss_one (s_ret (px_str1 rfl T.str (bx_var 3)))) ss_nil)
      (ss_cons (s_if (tx_eq hr (bx_var 2) (bx px_int)) (ss_one (s_ret (px_add (bx (px_add (bx (px_str1 rfl T.str (bx_var 3))) (bx px_str))) (bx (px_str1 rfl T.str (bx (px_add (bx_var 3) (bx_var 4)))))))) ss_nil)
      (ss_cons (s_if (tx_eq hr (bx_var 2) (bx px_int)) (ss_one (s_ret (px_ix (bx (px_f (fx_lst (as_cons (px_add (bx (px_str1 rfl T.str (bx_var 3))) (bx px_str)) (as_cons (px_add (bx px_str) (bx (px_str1 rfl T.str (bx_var 3)))) (as_cons px_str as_nil)))))) (bx (px_mod (bx (px_toint rfl T.int (bx_var 4))) (bx px_int)))))) ss_nil)
      (ss_cons (s_if (tx_eq hr (bx_var 2) (bx px_int)) (ss_one (s_ret px_str)) ss_nil)
      (ss_cons (s_if (tx_eq hr (bx_var 2) (bx px_int)) (ss_one (s_ret (px_add (bx (px_add (bx (px_str1 rfl T.str (bx (px_sub (bx_var 3) (bx_var 4))))) (bx px_str))) (bx (px_str1 rfl T.str (bx_var 3)))))) ss_nil)
      (ss_cons (s_if (tx_eq hr (bx_var 2) (bx px_int)) (ss_one (s_retM (mx_ix (mx (px_f (fx_call0 D__law_odd (hr.mono (by decide))))) (mx_call (i := 0) D__law_draw (hr.mono (by decide)) (am_cons (mx px_int) am_nil))))) ss_nil)
      (ss_cons (s_if (tx_eq hr (bx_var 2) (bx px_int)) (ss_one (s_retM (mx_call (i := 0) D__law_few_signs (hr.mono (by decide)) am_nil))) ss_nil)
      (ss_one (s_ret (px_add (bx (px_add (bx (px_str1 rfl T.str (bx_var 3))) (bx px_str))) (bx (px_str1 rfl T.str (bx (px_sub (bx (px_sub (bx_var 3) (bx px_int))) (bx_var 4)))))))))))))))))), ?_⟩
  rintro l ⟨z, kn⟩ R ⟨hz, hk1, hk9⟩ hR
  dsimp only at hz hk1 hk9 hR
  have ed : Str.ofString ".." = S dotS := lit _
  have eo : Str.ofString "none" = S noneT := lit _
  walk_at "s"
  refine ⟨⟨_, _, .inl rfl⟩, drawS hz hk1 (by omega) fun kd z hz hkd0 hkd => ?_⟩
  refine ⟨⟨_, _, .inl rfl⟩, numberS hz fun lo z hz hl1 hl2 => ?_⟩
  refine ⟨⟨_, _, .inl rfl⟩, drawS hz (by decide) (by decide) fun far z hz hf0 hf => ?_⟩
  simp only [dat_d]
  have nb : ∀ i : Int, -10 ^ 12 ≤ i → i ≤ 10 ^ 12 → i.natAbs < 10 ^ 20 ∧ i.natAbs.log2 < 1920 := fun i h1 h2 => ⟨by omega, num_log (by omega)⟩
  have w1 := w_num (nb lo (by omega) (by omega)).1
  have two : ∀ a b : Int, -10 ^ 12 ≤ a → a ≤ 10 ^ 12 → -10 ^ 12 ≤ b → b ≤ 10 ^ 12 → WOk (numT a ++ dotS ++ numT b) := fun a b h1 h2 h3 h4 => by
    have wa := w_num (nb a h1 h2).1
    have wb := w_num (nb b h3 h4).1
    exact w_cat (w_cat wa.1 w_dot (by simp only [List.length_cons, List.length_nil]; omega)) wb.1 (by rw [List.length_append]; simp only [List.length_cons, List.length_nil]; omega)
  have szs : ∀ a b : Int, -10 ^ 12 ≤ a → a ≤ 10 ^ 12 → -10 ^ 12 ≤ b → b ≤ 10 ^ 12 → (numT a).length + dotS.length ≤ sizeLine ∧ (numT a).length + dotS.length + (numT b).length ≤ sizeLine := fun a b h1 h2 h3 h4 => by
    have wa := w_num (nb a h1 h2).1
    have wb := w_num (nb b h3 h4).1
    have : dotS.length = 2 := rfl
    exact ⟨sz (by omega), sz (by omega)⟩
  refine sIf_by (decide (kd < 2)) (fun Q hQ => ?_) (fun h => ?_) fun h => ?_
  · walk_at "r"; exact hQ
  · walk_at "r"
    rw [num_str]
    exact ⟨(nb lo (by omega) (by omega)).2, z, rfl, hR _ _ ⟨hz, _, w1.1, rfl⟩⟩
  walk_at "s"
  refine sIf_by (kd == 2) (fun Q hQ => ?_) (fun h => ?_) fun h => ?_
  · walk_at "r"; exact hQ
  · walk_at "r"
    simp only [num_str, ed, S_cat, S_len, List.length_append]
    obtain ⟨s1, s2⟩ := szs lo (lo + far) (by omega) (by omega) (by omega) (by omega)
    exact ⟨(nb lo (by omega) (by omega)).2, s1, (nb (lo + far) (by omega) (by omega)).2, s2, z, rfl, hR _ _ ⟨hz, _, two lo (lo + far) (by omega) (by omega) (by omega) (by omega), rfl⟩⟩
  walk_at "s"
  refine sIf_by (kd == 3) (fun Q hQ => ?_) (fun h => ?_) fun h => ?_
  · walk_at "r"; exact hQ
  · walk_at "r"
    simp only [num_str, ed, S_cat, S_len, List.length_append]
    have h3 : far % 3 = 0 ∨ far % 3 = 1 ∨ far % 3 = 2 := by omega
    have hd2 : dotS.length = 2 := rfl
    have w1l := w1.2
    refine ⟨(nb lo (by omega) (by omega)).2, sz (by omega), (nb lo (by omega) (by omega)).2, sz (by omega), by decide, by decide, ?_⟩
    rcases h3 with h3 | h3 | h3 <;> rw [h3]
    · exact ⟨z, rfl, hR _ _ ⟨hz, _, w_cat w1.1 w_dot (by omega), rfl⟩⟩
    · exact ⟨z, rfl, hR _ _ ⟨hz, _, w_cat w_dot w1.1 (by omega), rfl⟩⟩
    · exact ⟨z, rfl, hR _ _ ⟨hz, _, w_dot, rfl⟩⟩
  walk_at "s"
  refine sIf_by (kd == 4) (fun Q hQ => ?_) (fun h => ?_) fun h => ?_
  · walk_at "r"; exact hQ
  · walk_at "r"
    rw [eo]
    exact ⟨z, rfl, hR _ _ ⟨hz, _, WOk.of (by decide), rfl⟩⟩
  walk_at "s"
  refine sIf_by (kd == 5) (fun Q hQ => ?_) (fun h => ?_) fun h => ?_
  · walk_at "r"; exact hQ
  · walk_at "r"
    simp only [num_str, ed, S_cat, S_len, List.length_append]
    obtain ⟨s1, s2⟩ := szs (lo - far) lo (by omega) (by omega) (by omega) (by omega)
    exact ⟨(nb (lo - far) (by omega) (by omega)).2, s1, (nb lo (by omega) (by omega)).2, s2, z, rfl, hR _ _ ⟨hz, _, two (lo - far) lo (by omega) (by omega) (by omega) (by omega), rfl⟩⟩
  walk_at "s"
  refine sIf_by (kd == 6) (fun Q hQ => ?_) (fun h => ?_) fun h => ?_
  · walk_at "r"; exact hQ
  · walk_at "r"
    refine ⟨(), rfl, trivial, ?_⟩
    rintro _ rfl
    refine ⟨⟨_, _, .inl rfl⟩, drawS hz (by decide) (by decide) fun v z hz hv0 hv => ?_⟩
    simp only [dat_d]
    obtain ⟨j, rfl⟩ := Int.eq_ofNat_of_zero_le hv0
    have hj : j < oddL.length := by have : oddL.length = 27 := rfl; omega
    simp only [at_map strD hj]
    exact ⟨z, rfl, hR _ _ ⟨hz, _, odd_ok _ (List.getElem_mem hj), rfl⟩⟩
  walk_at "s"
  refine sIf_by (kd == 7) (fun Q hQ => ?_) (fun h => ?_) fun h => ?_
  · walk_at "r"; exact hQ
  · walk_at "r"
    refine ⟨⟨_, _, .inl rfl⟩, z, rfl, rfl, hz, ?_⟩
    rintro _ z ⟨hz, m, hm, rfl⟩
    exact ⟨z, rfl, hR _ _ ⟨hz, m, hm, rfl⟩⟩
  walk_at "r"
  simp only [num_str, ed, S_cat, S_len, List.length_append]
  obtain ⟨s1, s2⟩ := szs lo (lo - 1 - far) (by omega) (by omega) (by omega) (by omega)
  exact ⟨(nb lo (by omega) (by omega)).2, s1, (nb (lo - 1 - far) (by omega) (by omega)).2, s2, z, rfl, hR _ _ ⟨hz, _, two lo (lo - 1 - far) (by omega) (by omega) (by omega) (by omega), rfl⟩⟩
end
end Kb
set_option Elab.async false
set_option linter.all false
set_option maxRecDepth 100000
set_option maxHeartbeats 1000000
namespace Kb
open PySem L2 SX
set_option autoImplicit false
local macro_rules | `(tactic| walk_at "r") => `(tactic| try simp only [sSeq, sNext, sRet, sRetF, sRetO, sAsg, sAsgF, sAsgM, sAsgR, rCl, rMe, sRetM, sIf, sIfM, sDrop, sDropM, sUnp, sAug, sFor, sForM, sApp, sSetI, sDPu, sDPuT, sDNew, sDNewT, sDOne, sFldI, sBreak, sCont, fLc, xDc, xF, xVar, D.fl, bVar, xC, x2, b2, fAdd, fI, fI0, fB0, fEq, fNe, fIn, fIs, fIsNot, D.isN, xNeg, bTru, bNot, bAnd, bOr, bCh, xAnd, xOr, xNot, xIfE, xFld, fIx, fSl, oNo, oSo, aNil, aCons, xTup, fLst, fCat, xCall, fCall, fLen, fAbs, fInt, fList, fTuple, fIsi, D.ty, fAny, fSrt, fMin, xIdx, fSS, fDIn, xDGet, xDGetT, keyD, keysD, gN, gsN, gsC, gTu, iL, iT, iR1, iR2, iR3, iR1M, bYes, wipeE, free, Slot.ad, Slot.dat, Slot.par, axNil, axI, axB, xCl, fCl, xMe, fMe, xMk, fGen, mP, m2, bm2, mCl, mTup, mLst, mSS, amNil, amCons, gPlain, gThen, gNil, gYield, zP, zM, zTP, zD, z2, bz2, zTru, zNot, zAnd, zOr, zNil, zCons, zTup, zLst, zCl, zClX, zFld, zMkS, sAsgZ, sRetZ, sIfZ, sDropZ, sRaise, sTry, sRetR, sRetV, sRetMF, mF, mLc, iP, xR, fR, xClF, rMe0, fLRg, fSrtQ, iEnV, xEFld, fIsX, cvV, cD_none, cD_some, stD, lk_st, lk_hn, lk_sz, eqD_int, sh_int, sh60_ints, inL_ints, xSl, sSlI, zMkL, rMeL, rMeL0, zMeX0, fIsL, fIsM, fOwn, fSortK, srtKB, sExt, mPop, sUnpM, fMax2, fMin2, fSum, fLtT, fSSI, sRaise0, sTryF, sAsgX, rMeX0, sFrz, fBool, fBoolO, fInO, fOwnT, xMkL, xOwn1, zSta, rSta, rS0, rClX, fIsB, fInT, aStar, iZip, fLc2, fOwnN, fNeL, fIsA, sAppM, mSl, lk_sp, lk_co, xM1, xSlS, fIxS, fInS, xJoin, mJoin, fStr, fIntS, jD, xJs, iStrT, iEn, fMulS, mCall, sAsgLM, sUnpZ, fStrO, Bool.false_xor, Bool.true_xor,
  List.map_cons, List.map_nil, List.length_cons, List.length_nil, List.getElem?_cons_succ, List.getElem?_cons_zero, List.set_cons_succ, List.set_cons_zero, List.cons_append, List.nil_append, Option.isNone_none, Option.map_some, Option.map_none, true_and, and_true, if_true, if_false, rngD_ints, Int.add_sub_cancel, Bool.false_eq_true, List.length_map])
local macro_rules | `(tactic| walk_at "s") => `(tactic| try simp only [sSeq, sNext, sRet, sRetF, sRetO, sAsg, sAsgF, sAsgM, sAsgR, rCl, rMe, sRetM, sDrop, sDropM, sUnp, sAug, sFor, sForM, sApp, sSetI, sDPu, sDPuT, sDNew, sDNewT, sDOne, sFldI, sBreak, sCont, fLc, xDc, xF, xVar, D.fl, bVar, xC, x2, b2, fAdd, fI, fI0, fB0, fEq, fNe, fIn, fIs, fIsNot, D.isN, xNeg, bTru, bNot, bAnd, bOr, bCh, xAnd, xOr, xNot, xIfE, xFld, fIx, fSl, oNo, oSo, aNil, aCons, xTup, fLst, fCat, xCall, fCall, fLen, fAbs, fInt, fList, fTuple, fIsi, D.ty, fAny, fSrt, fMin, xIdx, fSS, fDIn, xDGet, xDGetT, keyD, keysD, gN, gsN, gsC, gTu, iL, iT, iR1, iR2, iR3, iR1M, bYes, wipeE, free, Slot.ad, Slot.dat, Slot.par, axNil, axI, axB, xCl, fCl, xMe, fMe, xMk, fGen, mP, m2, bm2, mCl, mTup, mLst, mSS, amNil, amCons, gPlain, gThen, gNil, gYield, zP, zM, zTP, zD, z2, bz2, zTru, zNot, zAnd, zOr, zNil, zCons, zTup, zLst, zCl, zClX, zFld, zMkS, sAsgZ, sRetZ, sDropZ, sRaise, sTry, sRetR, sRetV, sRetMF, mF, mLc, iP, xR, fR, xClF, rMe0, fLRg, fSrtQ, iEnV, xEFld, fIsX, cvV, cD_none, cD_some, stD, lk_st, lk_hn, lk_sz, eqD_int, sh_int, sh60_ints, inL_ints, xSl, sSlI, zMkL, rMeL, rMeL0, zMeX0, fIsL, fIsM, fOwn, fSortK, srtKB, sExt, mPop, sUnpM, fMax2, fMin2, fSum, fLtT, fSSI, sRaise0, sTryF, sAsgX, rMeX0, sFrz, fBool, fBoolO, fInO, fOwnT, xMkL, xOwn1, zSta, rSta, rS0, rClX, fIsB, fInT, aStar, iZip, fLc2, fOwnN, fNeL, fIsA, sAppM, mSl, lk_sp, lk_co, xM1, xSlS, fIxS, fInS, xJoin, mJoin, fStr, fIntS, jD, xJs, iStrT, iEn, fMulS, mCall, sAsgLM, sUnpZ, fStrO, Bool.false_xor, Bool.true_xor,
  List.map_cons, List.map_nil, List.length_cons, List.length_nil, List.getElem?_cons_succ, List.getElem?_cons_zero, List.set_cons_succ, List.set_cons_zero, List.cons_append, List.nil_append, Option.isNone_none, Option.map_some, Option.map_none, true_and, and_true, if_true, if_false, rngD_ints, Int.add_sub_cancel, Bool.false_eq_true, List.length_map])
/-! ### texts that are short enough to be read -/
structure RdOk (l : Tx0) : Prop where
  t : TOk l
  many : (TL.spl comS 0 [] l).length ≤ 900
  parts : ∀ p ∈ TL.spl comS 0 [] l, TOk p
theorem joinL_len : ∀ {xs : List Tx0} {m : Nat}, (∀ p ∈ xs, p.length ≤ m) → (TL.joinL comS xs).length ≤ xs.length * (m + 2)
  | [], _, _ => Nat.zero_le _
  | [x], m, h => by
    have := h x (.head _)
    show x.length ≤ _
    rw [List.length_singleton]
    omega
  | x :: y :: r, m, h => by
    have h1 := h x (.head _)
    have h2 := joinL_len (xs := y :: r) fun p hp => h p (.tail _ hp)
    show (x ++ (comS ++ TL.joinL comS (y :: r))).length ≤ _
    have e : (x :: y :: r).length * (m + 2) = (y :: r).length * (m + 2) + (m + 2) := by rw [List.length_cons (a := x), Nat.succ_mul]
    rw [e, List.length_append, List.length_append]
    have : comS.length = 2 := rfl
    omega
theorem joinL_mem {c : Nat} : ∀ {xs : List Tx0}, c ∈ TL.joinL comS xs → c ∈ comS ∨ ∃ p ∈ xs, c ∈ p
  | [], h => by cases h
  | [x], h => .inr ⟨x, .head _, h⟩
  | x :: y :: r, h => by
    have h' : c ∈ x ++ (comS ++ TL.joinL comS (y :: r)) := h
    rcases List.mem_append.mp h' with h' | h'
    · exact .inr ⟨x, .head _, h'⟩
    · rcases List.mem_append.mp h' with h' | h'
      · exact .inl h'
      · rcases joinL_mem h' with h' | ⟨p, hp, h'⟩
        · exact .inl h'
        · exact .inr ⟨p, .tail _ hp, h'⟩
theorem rdok_join {xs : List Tx0} {m : Nat} (hne : xs ≠ []) (hl : xs.length * (m + 2) ≤ 5000) (hn : xs.length ≤ 900) (h : ∀ p ∈ xs, p.length ≤ m ∧ ∀ c ∈ p, c < 128 ∧ c ≠ 44) : RdOk (TL.joinL comS xs) ∧ TL.spl comS 0 [] (TL.joinL comS xs) = xs := by
  have e : TL.spl comS 0 [] (TL.joinL comS xs) = xs := TL.spl_join (s := 44) (S := [32]) hne fun p hp z => ((h p hp).2 _ z).2 rfl
  have h1 := joinL_len fun p hp => (h p hp).1
  refine ⟨⟨⟨by omega, fun c hc => ?_⟩, by rw [e]; exact hn, fun p hp => ?_⟩, e⟩
  · rcases joinL_mem hc with hc | ⟨p, hp, hc⟩
    · have : c = 44 ∨ c = 32 := by simpa using hc
      omega
    · exact ((h p hp).2 c hc).1
  · rw [e] at hp
    refine ⟨?_, fun c hc => ((h p hp).2 c hc).1⟩
    have h2 := (h p hp).1
    have h3 : 1 ≤ xs.length := List.length_pos_iff.mpr hne
    have h4 : 1 * (m + 2) ≤ xs.length * (m + 2) := Nat.mul_le_mul_right _ h3
    omega
theorem rdok_noth : RdOk nothT ∧ TL.spl comS 0 [] nothT = [nothT] := ⟨⟨TOk.of (by decide), by decide, fun p hp => by
  have e : TL.spl comS 0 [] nothT = [nothT] := by decide
  rw [e] at hp
  rw [List.mem_singleton.mp hp]
  exact TOk.of (by decide)⟩, by decide⟩
theorem rdok_sp {l : List St2} {b : Bool} (hl : l.length ≤ 31) (h : ∀ p ∈ l, bd60 p) : RdOk (spT l b) := by
  unfold spT
  by_cases q : wrds l b = []
  · rw [if_pos q]; exact rdok_noth.1
  · rw [if_neg q]
    have hw : (wrds l b).length ≤ 32 := by
      unfold wrds
      rw [List.length_append, List.length_map]
      have : (if b = true then [noneT] else []).length ≤ 1 := by split <;> simp
      omega
    refine (rdok_join (m := 124) q (by omega) (by omega) fun p hp => ?_).1
    rcases List.mem_append.mp hp with hp | hp
    · split at hp
      · rw [List.mem_singleton.mp hp]; decide
      · cases hp
    · obtain ⟨r, hr, rfl⟩ := List.mem_map.mp hp
      refine ⟨stT_len (h r hr), fun c hc => ?_⟩
      have := st_sgn c hc
      omega
theorem mergeS_ok {l : List St2} (h : ∀ p ∈ l, okS p = true) : ∀ p ∈ mergeS l, okS p = true := (merge_nf h).1.1
theorem mergeS_idem {l : List St2} (h : ∀ p ∈ l, okS p = true) : mergeS (mergeS l) = mergeS l := merge_eq (mergeS_ok h) (merge_nf h).1 fun _ => rfl
section
variable {P : Program} {w : World} {K : Frag} {mg : Str → Option Value} {base : Heap} {C Ci Cc Ck Ct Cw fI fC fT fW f : Addr} {fd : FuncData}
abbrev s__law_reading : Stmt := top 47
abbrev N__law_reading : List Str := ["_law_text_here", "_law_found", "error", "_law_other"]
theorem sc__law_reading : FnScope N__law_reading ["_law_text_here"] (defScope s__law_reading) := ⟨rfl, rfl, rfl, by decide +kernel, rfl, by decide +kernel, by decide +kernel⟩
def rdD (C : Addr) : Rd → D
  | .inl k => .tup [.int k, .bl false, .bl false]
  | .inr x => rdSp C x
def S_lread (C : Addr) : SP := spc (α := Tx0) (fun l => [.im (.str (S l))]) (fun l => RdOk l) fun l r => r = .d (rdD C (RD l))
theorem ok_lread (F : FD K "_law_reading" "_law_reading" s__law_reading [] f fd) (T : Tx K mg C) (T2 : TxE P K mg Ci Ct Cw Ck fI fT fW) (D_Span_read : DsA P w K mg base "Span" C "read" 11 (S_read C Ct)) : FnOk P w K mg base CX0 (11 + 1) f fd ["_law_text_here"] (spP K (S_lread C)) := by
  refine fn_spc F sc__law_reading (fun l => [some (.im (.str (S l))), none, none, none]) fun cdv A outer s H E hr => ?_
  refine ⟨_, (ss_cons (s_asg (i := 1) sc__law_reading.nd (px_tup as_nil))
      (ss_cut (s_try_first (i := 2) rfl rfl sc__law_reading.nd rfl rfl ⟨rfl, by decide, Or.inl T2.eT.gC⟩ takes0 (fun W pn xe tk po => (ss_one (s_asgZ (i := 1) sc__law_reading.nd (zx_r (z_staA tk D_Span_read (hr.mono (by decide)) (ax_i (px_var 0) ax_nil)))))) (fun a oe cls d pn hz hf => (ss_cons (s_asg (i := 3) sc__law_reading.nd (px_or (bx (px_isX (fun _ => T2.xT) hz hf rfl T.isinstance (bx_var 2) (bx (px_glob (v := .ref _) rfl T2.eW.gC rfl)))) (px_one (px_isX (fun _ => T2.xT) hz hf rfl T.isinstance (bx_var 2) (bx (px_glob (v := .ref _) rfl T2.eS.gC rfl))))))
      (ss_one (s_asg (i := 1) sc__law_reading.nd (px_tup (as_cons (px_efld T2.rT hz hf (px_var 2)) (as_cons (px_var 3) (as_cons (px_not (bx (px_isX (fun _ => T2.xT) hz hf rfl T.isinstance (bx_var 2) (bx (px_glob (v := .ref _) rfl T2.gK rfl))))) as_nil)))))))))
      (ss_one (s_ret (px_var 1))))), ?_⟩
  rintro l R hpre hR
  have hR' := hR _ rfl
  walk_at "s"
  refine ⟨by decide, sCut_by (fun Γ => Γ[1]? = some (some (.im (rdD C (RD l))))) ?_ ?_⟩
  · walk_at "s"
    refine ⟨l, rfl, ⟨hpre.t, hpre.many, hpre.parts⟩, ?_, ?_⟩
    · rintro _ ⟨x, hx, rfl⟩
      rw [hx]
      rfl
    · rintro _ _ ⟨k, hk, rfl, rfl⟩
      refine ⟨T2.mT, fun a d => ?_⟩
      rw [hk]
      walk_at "r"
      exact ⟨_, _, rfl, T2.kTW, fun z => (by cases z), fun _ => ⟨_, _, rfl, T2.kTS, _, _, rfl, T2.kTK, by decide, rfl⟩⟩
  · intro Γ hΓ
    simp only [sRet, xVar]
    rw [hΓ]
    exact hR'
abbrev s__law_is_span : Stmt := top 48
abbrev N__law_is_span : List Str := ["_law_found", "_law_plain"]
theorem sc__law_is_span : FnScope N__law_is_span ["_law_found", "_law_plain"] (defScope s__law_is_span) := ⟨rfl, rfl, rfl, by decide +kernel, rfl, by decide +kernel, by decide +kernel⟩
def S_lisspan (C : Addr) : SP := spc (α := (List St2 × Bool) × (List St2 × Bool)) (fun x => [.im (spD C x.1.1 x.1.2), .im (plD x.2.1 x.2.2)]) (fun x => x.1.1 = mergeS x.2.1 ∧ x.1.2 = x.2.2 ∧ x.2.1.length ≤ 31 ∧ (∀ p ∈ x.2.1, okS p = true) ∧ ∀ p ∈ x.2.1, bd60 p) fun _ r => r = .d (.bl true)
theorem ok_lisspan (F : FD K "_law_is_span" "_law_is_span" s__law_is_span [] f fd) (T : Tx K mg C) (D__law_plain_form : Df P w K mg base "_law_plain_form" 4 (spP K S_plain)) (D_Span___str__ : DmO P w K mg base C "__str__" 4 (S_sstr C)) (D__law_text : Df P w K mg base "_law_text" 5 (spP K S_ltext)) : FnOk P w K mg base CX0 (6 + 1) f fd ["_law_found", "_law_plain"] (spP K (S_lisspan C)) := by
  refine fn_spc F sc__law_is_span (fun x => [some (.im (spD C x.1.1 x.1.2)), some (.im (plD x.2.1 x.2.2))]) fun cdv A outer s H E hr => ?_
  refine ⟨_, (ss_cons (s_if (tx_w (tw_or (tx_not (tx_tru (bx (px_isM T.sp.cl T.si rfl T.isinstance (bx_var 0) (bx (px_glob (v := .ref _) rfl T.gS rfl)))))) (tw_or1 (tx_ne hr (bx (px_sl T.sp.cl (bx_var 0))) (bx (px_ix (bx_var 1) (bx px_int))))))) (ss_one (s_ret px_bl)) ss_nil)
      (ss_one (s_ret (px_and (bx (px_eq hr (bx (px_sl T.sp.cl (bx_var 0))) (bx (px_tuple rfl T.tuple (bx (px_call D__law_plain_form (hr.mono (by decide)) (ax_i (px_var 1) ax_nil))))))) (px_one (px_eq hr (bx (px_strO D_Span___str__ (hr.mono (by decide)) rfl T.str (bx_var 0))) (bx (px_call D__law_text (hr.mono (by decide)) (ax_i (px_var 1) ax_nil))))))))), ?_⟩
  rintro ⟨⟨m, b'⟩, ⟨l, b⟩⟩ R ⟨hm, hb', hl, hok, hbd⟩ hR
  dsimp only at hm hb' hl hok hbd hR
  subst hm hb'
  have hR' := hR _ rfl
  walk_at "s"
  refine sIf_by false (fun Q hQ => ?_) (fun z => by cases z) fun _ => ?_
  · unfold spD spF plD
    walk_at "r"
    refine ⟨true, T.kS, fun z => (by cases z), fun _ => ?_⟩
    have at1 : ∀ (x : D) (b : Bool), atI [x, D.bl b] 1 = some (D.bl b) := fun _ _ => rfl
    simp only [at1]
    refine ⟨rfl, rfl, ?_⟩
    cases b' <;> exact hQ
  have hO1 := rdok_sp (b := b') (l := mergeS l) (by have := mergeS_len l; omega) (merge_bd60 hbd)
  unfold spD spF
  walk_at "r"
  refine ⟨(l, b'), rfl, ⟨hl, hok⟩, fun r hr => ?_⟩
  dsimp only
  rw [hr]
  refine ⟨sh_sts _, sh_sts _, fun _ => ?_, fun z => ?_⟩
  · refine (?_ : (S_sstr C).S [Slot.bo (spD C (mergeS l) b')] _)
    refine ⟨(mergeS l, b'), rfl, ⟨by have := mergeS_len l; dsimp only; omega, merge_bd60 hbd⟩, ?_⟩
    rintro _ rfl
    refine ⟨_, rfl, (l, b'), rfl, ⟨hl, hok, hbd⟩, ?_⟩
    rintro _ rfl
    simp only [dat_d]
    refine ⟨sh_S hO1.t, sh_S hO1.t, ?_⟩
    rw [eqD_S, decide_eq_true rfl]
    exact hR'
  · rw [eqD_sts, decide_eq_true rfl] at z
    cases z
/-- the words of a list that are read -/
def WsOk (ws : List Tx0) : Prop := ws.length ≤ 5 ∧ ∀ l ∈ ws, WOk l
theorem rdok_ws {ws : List Tx0} (h : WsOk ws) : RdOk (TL.joinL comS ws) ∧ TL.spl comS 0 [] (TL.joinL comS ws) = (if ws = [] then [[]] else ws) := by
  by_cases q : ws = []
  · rw [q]
    exact ⟨⟨TOk.of (by decide), by decide, fun p hp => by
      have e : TL.spl comS 0 [] (TL.joinL comS []) = [[]] := by decide
      rw [e] at hp
      rw [List.mem_singleton.mp hp]
      exact TOk.of (by decide)⟩, by decide⟩
  · rw [if_neg q]
    have := h.1
    exact rdok_join (m := 100) q (by omega) (by omega) fun p hp => ⟨(h.2 p hp).len, (h.2 p hp).sg⟩
abbrev s__law_read_right : Stmt := top 49
abbrev N__law_read_right : List Str := ["_law_words", "_law_text_here", "_law_found", "_law_parts", "_law_pairs", "_law_none", "_law_k", "_law_part", "_law_again"]
theorem sc__law_read_right : FnScope N__law_read_right ["_law_words"] (defScope s__law_read_right) := ⟨rfl, rfl, rfl, by decide +kernel, rfl, by decide +kernel, by decide +kernel⟩
def S_rdright : SP := spc (α := List Tx0) (fun ws => [.im (.lst (ws.map strD))]) (fun ws => WsOk ws) fun _ r => r = .d (.bl true)
theorem ok_rdright (F : FD K "_law_read_right" "_law_read_right" s__law_read_right [] f fd) (T : Tx K mg C) (D__law_reading : Df P w K mg base "_law_reading" 12 (spP K (S_lread C))) (D__law_text_part : Df P w K mg base "_law_text_part" 4 (spP K S_ltp)) (D__law_is_span : Df P w K mg base "_law_is_span" 7 (spP K (S_lisspan C))) (D_Span___str__ : DmO P w K mg base C "__str__" 4 (S_sstr C)) (D_Span___eq__ : DmE P w K mg base C 3 (S_eq C)) : FnOk P w K mg base CX0 (12 + 1) f fd ["_law_words"] (spP K S_rdright) := by
  refine fn_spc F sc__law_read_right (fun ws => [some (.im (.lst (ws.map strD))), none, none, none, none, none, none, none, none]) fun cdv A outer s H E hr => ?_
  refine ⟨_, (ss_cons (s_asg (i := 1) sc__law_read_right.nd (px_join (bx px_str) (bx_var 0)))
      (ss_cons (s_asg (i := 2) sc__law_read_right.nd (px_call D__law_reading (hr.mono (by decide)) (ax_i (px_var 1) ax_nil)))
      (ss_cons (s_asg (i := 3) sc__law_read_right.nd (px_var 0))
      (ss_cut (s_if (tx_not (tx_tru (bx_var 0))) (ss_one (s_asg (i := 3) sc__law_read_right.nd (px_f (fx_lst (as_cons px_str as_nil))))) ss_nil)
      (ss_cons (s_asg (i := 4) sc__law_read_right.nd (px_f (fx_lst as_nil)))
      (ss_cons (s_asg (i := 5) sc__law_read_right.nd px_bl)
      (ss_cut (s_if (tx_ne hr (bx_var 1) (bx px_str)) (ss_one (s_for PassesOwn.never rfl (il_r1 rfl T.range (aw_cons (bx (px_len rfl T.len (bx_var 3))) aw_nil)) (gx_name (i := 6) sc__law_read_right.nd) (ss_cons (s_asg (i := 7) sc__law_read_right.nd (px_call D__law_text_part (hr.mono (by decide)) (ax_i (px_ix (bx_var 3) (bx_var 6)) ax_nil)))
      (ss_cons (s_if (tx_is (bx_var 7) (bx px_non)) (ss_one (s_ret (px_and (bx (px_eq hr (bx_var 2) (bx (px_tup (as_cons (px_var 6) (as_cons px_bl (as_cons px_bl as_nil))))))) (px_one (px_not (bx (px_isi rfl T.isinstance (bx (px_ix (bx_var 2) (bx px_int))) (bx (px_ty (n := "bool") rfl T.bool (by decide +kernel)))))))))) ss_nil)
      (ss_cons (s_asg (i := 4) sc__law_read_right.nd (px_add (bx_var 4) (bx (px_ix (bx_var 7) (bx px_int)))))
      (ss_one (s_asg (i := 5) sc__law_read_right.nd (px_or (bx_var 5) (px_one (px_ix (bx_var 7) (bx px_int))))))))))) ss_nil)
      (ss_cons (s_if (tx_not (tx_tru (bx (px_call D__law_is_span (hr.mono (by decide)) (ax_i (px_var 2) (ax_i (px_tup (as_cons (px_var 4) (as_cons (px_var 5) as_nil))) ax_nil)))))) (ss_one (s_ret px_bl)) ss_nil)
      (ss_cons (s_asg (i := 8) sc__law_read_right.nd (px_call D__law_reading (hr.mono (by decide)) (ax_i (px_strO D_Span___str__ (hr.mono (by decide)) rfl T.str (bx_var 2)) ax_nil)))
      (ss_one (s_ret (px_and (bx (px_call D__law_is_span (hr.mono (by decide)) (ax_i (px_var 8) (ax_i (px_tup (as_cons (px_var 4) (as_cons (px_var 5) as_nil))) ax_nil)))) (px_one (px_eqO D_Span___eq__ (hr.mono (by decide)) (bx_var 8) (bx_var 2))))))))))))))), ?_⟩
  rintro ws R hws hR
  have hR' := hR _ rfl
  have ec : Str.ofString ", " = S comS := lit _
  have en : Str.ofString "nothing" = S nothT := lit _
  have ee : Str.ofString "" = S [] := lit _
  obtain ⟨ho, hs⟩ := rdok_ws hws
  have hl := hws.1
  walk_at "s"
  refine ⟨ws.map S, by rw [List.map_map]; rfl, ?_, ?_⟩
  · rw [ec]
    exact join_ok (by omega) fun p hp => by have := (hws.2 p hp).len; omega
  rw [ec, join_S]
  obtain ⟨t, ht⟩ : ∃ t, t = TL.joinL comS ws := ⟨_, rfl⟩
  rw [← ht] at ho hs ⊢
  refine ⟨t, rfl, ho, ?_⟩
  rintro _ rfl
  simp only [dat_d]
  obtain ⟨rd, hrd⟩ : ∃ rd, rd = RD t := ⟨_, rfl⟩
  rw [← hrd]
  obtain ⟨ps, hps⟩ : ∃ ps, ps = (if ws = [] then [[]] else ws) := ⟨_, rfl⟩
  rw [← hps] at hs
  have hpl : ps.length ≤ 5 := by
    rw [hps]
    split
    · decide
    · exact hl
  have htp : ∀ p ∈ ps, TOk p := by rw [← hs]; exact ho.parts
  refine sCut_by (fun Γ => Γ = [some (.im (.lst (ws.map strD))), some (.im (.str (S t))), some (.im (rdD C rd)), some (.im (.lst (ps.map strD))), none, none, none, none, none]) ?_ ?_
  · refine sIf_by (decide (ws = [])) (fun Q hQ => ?_) (fun h => ?_) fun h => ?_
    · walk_at "r"
      cases ws with
      | nil => exact hQ
      | cons a r => exact hQ
    · walk_at "r"
      have h := of_decide_eq_true h
      rw [if_pos h] at hps
      rw [hps, ee]
      exact ⟨by decide, rfl⟩
    · have h := of_decide_eq_false h
      rw [if_neg h] at hps
      rw [hps]
      rfl
  rintro _ rfl
  walk_at "s"
  refine ⟨by decide, ?_⟩
  refine sCut_by (fun Γ => ∃ x : List St2 × Bool, ∃ d6 d7 : Option D, rd = .inr x ∧ Γ = [some (.im (.lst (ws.map strD))), some (.im (.str (S t))), some (.im (rdD C rd)), some (.im (.lst (ps.map strD))), some (.im (.lst (x.1.map stD))), some (.im (.bl x.2)), d6.map Slot.im, d7.map Slot.im, none]) ?_ ?_
  · refine sIf_by (!decide (t = nothT)) (fun Q hQ => ?_) (fun h => ?_) fun h => ?_
    · walk_at "r"
      rw [en]
      refine ⟨sh_S ho.t, sh_S rdok_noth.1.t, ?_⟩
      rw [eqD_S]
      exact hQ
    · have hn : t ≠ nothT := fun e => by rw [e] at h; cases h
      have hrd2 : rd = rdA ps 0 ([], false) := by
        rw [hrd]
        unfold RD
        rw [if_neg hn, hs]
      walk_at "s"
      refine ⟨by omega, by omega, ?_⟩
      refine forb (fun pre Γ => ∃ (acc : List St2 × Bool) (d6 d7 : Option D), acc.1.length ≤ pre.length ∧ rd = rdA (ps.drop pre.length) pre.length acc ∧ Γ = [some (.im (.lst (ws.map strD))), some (.im (.str (S t))), some (.im (rdD C rd)), some (.im (.lst (ps.map strD))), some (.im (.lst (acc.1.map stD))), some (.im (.bl acc.2)), d6.map Slot.im, d7.map Slot.im, none]) ⟨([], false), none, none, Nat.le_refl 0, hrd2, rfl⟩ ?_ ?_
      · rintro pre k post Γ hx ⟨⟨al, ab⟩, d6, d7, hal, hra, rfl⟩
        obtain ⟨rfl, hlt⟩ := rng_at (n := ps.length) hx
        dsimp only at hal hra ⊢
        have e1 : atI (List.map strD ps) (pre.length : Int) = some (strD ps[pre.length]) := at_map strD hlt
        have e2 : ps.drop pre.length = ps[pre.length] :: ps.drop (pre.length + 1) := List.drop_eq_getElem_cons hlt
        rw [e2] at hra
        have hra : rd = (match rdP ps[pre.length] with
          | none => .inl pre.length
          | some y => rdA (ps.drop (pre.length + 1)) (pre.length + 1) (al ++ y.1, ab || y.2)) := hra
        walk_at "s"
        refine ⟨by cases d6 <;> rfl, ?_⟩
        rw [e1]
        refine ⟨_, rfl, htp _ (List.getElem_mem hlt), ?_⟩
        rintro _ rfl
        simp only [dat_d]
        cases hp : rdP ps[pre.length] with
        | none =>
          rw [hp] at hra
          have hra : rd = .inl pre.length := hra
          refine sIf_by true (fun Q hQ => ?_) (fun _ => ?_) fun z => by cases z
          · walk_at "r"; exact hQ
          rw [hra]
          simp only [rdD]
          walk_at "r"
          refine ⟨by decide, by cases pre.length <;> rfl, rfl, fun _ => ?_, fun z => ?_⟩
          · exact ⟨_, _, rfl, kit_ib, hR'⟩
          · have e : eqD (.tup [.int pre.length, .bl false, .bl false]) (.tup [.int pre.length, .bl false, .bl false]) = true := by
              show ((pre.length : Int) == (pre.length : Int) && true) = true
              rw [beq_self_eq_true]
              rfl
            rw [e] at z
            cases z
        | some y =>
          obtain ⟨yl, yb⟩ := y
          rw [hp] at hra
          have hra : rd = rdA (ps.drop (pre.length + 1)) (pre.length + 1) (al ++ yl, ab || yb) := hra
          have hy : yl.length ≤ 1 := by
            unfold rdP at hp
            split at hp
            · cases hp; exact Nat.zero_le _
            · obtain ⟨q, h1, h2⟩ := Option.map_eq_some_iff.mp hp
              cases h2
              exact Nat.le_refl 1
          refine sIf_by false (fun Q hQ => ?_) (fun z => by cases z) fun _ => ?_
          · walk_at "r"; exact hQ
          simp only [prD]
          walk_at "r"
          have at0 : ∀ (x y : D), atI [x, y] 0 = some x := fun _ _ => rfl
          have at1 : ∀ (x y : D), atI [x, y] 1 = some y := fun _ _ => rfl
          simp only [at0, at1]
          have el : (pre ++ [(pre.length : Int)]).length = pre.length + 1 := by rw [List.length_append]; rfl
          rw [el, ← List.map_append]
          refine ⟨sz (by simp only [List.length_map]; omega), fun h => ?_, fun h => ?_⟩
          · subst h
            exact ⟨(al ++ yl, true), some (.int pre.length), some (.tup [.lst (yl.map stD), .bl yb]), by simp only [List.length_append]; omega, hra, rfl⟩
          · subst h
            exact ⟨(al ++ yl, yb), some (.int pre.length), some (.tup [.lst (yl.map stD), .bl yb]), by simp only [List.length_append]; omega, hra, rfl⟩
      · rintro _ ⟨acc, d6, d7, _, hra, rfl⟩
        refine ⟨acc, d6, d7, ?_, rfl⟩
        rw [hra, rngI_len, Int.toNat_natCast, List.drop_length]
        rfl
    · have hn : t = nothT := by cases q : decide (t = nothT) with
        | true => exact of_decide_eq_true q
        | false => rw [q] at h; cases h
      refine ⟨([], false), none, none, ?_, rfl⟩
      rw [hrd]
      unfold RD
      rw [if_pos hn]
  rintro _ ⟨⟨l, b⟩, d6, d7, hx, rfl⟩
  have hxo : (∀ p ∈ l, okS p = true ∧ bd60 p) ∧ l.length ≤ (TL.spl comS 0 [] t).length := RD_ok (x := (l, b)) (hrd.symm.trans hx)
  rw [hs] at hxo
  obtain ⟨ho1, ho2⟩ := hxo
  have hok : ∀ p ∈ l, okS p = true := fun p hp => (ho1 p hp).1
  have hbd : ∀ p ∈ l, bd60 p := fun p hp => (ho1 p hp).2
  have hml := mergeS_len l
  have isS : ∀ {Q : Rs → Prop}, Q (.d (.bl true)) → (S_lisspan C).S [Slot.im (spD C (mergeS l) b), Slot.im (plD l b)] Q := fun {Q} h => ⟨((mergeS l, b), (l, b)), rfl, ⟨rfl, rfl, by dsimp only; omega, hok, hbd⟩, by rintro _ rfl; exact h⟩
  rw [hx]
  simp only [rdD, rdSp]
  walk_at "s"
  refine sIf_by false (fun Q hQ => ?_) (fun z => by cases z) fun _ => ?_
  · walk_at "r"
    exact ⟨by decide, isS hQ⟩
  walk_at "r"
  refine (?_ : C = C ∧ (S_sstr C).S [Slot.bo (spD C (mergeS l) b)] _)
  refine ⟨rfl, (mergeS l, b), rfl, ⟨by dsimp only; omega, merge_bd60 hbd⟩, ?_⟩
  rintro _ rfl
  refine ⟨_, rfl, _, rfl, rdok_sp (by dsimp only; omega) (merge_bd60 hbd), ?_⟩
  rintro _ rfl
  rw [rd_sp fun p hp => ⟨mergeS_ok hok p hp, merge_bd60 hbd p hp⟩]
  have erd : rdD C (.inr (mergeS l, b)) = spD C (mergeS l) b := by
    show spD C (mergeS (mergeS l)) b = _
    rw [mergeS_idem hok]
  rw [erd]
  refine ⟨by decide, isS ?_⟩
  refine ⟨fun _ => ?_, fun z => (by cases z)⟩
  refine (?_ : C = C ∧ C = C ∧ (S_eq C).S [Slot.bo (spD C (mergeS l) b), Slot.bo (spD C (mergeS l) b)] _)
  refine ⟨rfl, rfl, ((mergeS l, b), .inl (mergeS l, b)), rfl, trivial, ?_⟩
  rintro _ rfl
  have e : eqO' (mergeS l, b) (.inl (mergeS l, b)) = true := by
    show (decide (mergeS l = mergeS l) && b == b) = true
    rw [decide_eq_true rfl]
    cases b <;> rfl
  rw [e]
  exact hR'
abbrev s__law_word_right : Stmt := top 50
abbrev N__law_word_right : List Str := ["_law_word_here", "_law_truth", "_law_found", "error"]
theorem sc__law_word_right : FnScope N__law_word_right ["_law_word_here"] (defScope s__law_word_right) := ⟨rfl, rfl, rfl, by decide +kernel, rfl, by decide +kernel, by decide +kernel⟩
def S_wright : SP := spc (α := Tx0) (fun l => [.im (.str (S l))]) (fun l => TOk l) fun _ r => r = .d (.bl true)
theorem ok_wright (F : FD K "_law_word_right" "_law_word_right" s__law_word_right [] f fd) (T : Tx K mg C) (T2 : TxE P K mg Ci Ct Cw Ck fI fT fW) (D_is_number_text : Df P w K mg base "is_number_text" 3 (spP K S_isnum)) (D__law_is_number : Df P w K mg base "_law_is_number" 3 (spP K S_lnum)) (D_read_content : DfX P w K mg base "read_content" 4 (spX K (S_rcont Cw))) (D_content_text : Df P w K mg base "content_text" 3 (spP K S_ctext)) : FnOk P w K mg base CX0 (4 + 1) f fd ["_law_word_here"] (spP K S_wright) := by
  refine fn_spc F sc__law_word_right (fun l => [some (.im (.str (S l))), none, none, none]) fun cdv A outer s H E hr => ?_
  refine ⟨_, (ss_cons (s_asg (i := 1) sc__law_word_right.nd (px_call D_is_number_text (hr.mono (by decide)) (ax_i (px_var 0) ax_nil)))
      (ss_cons (s_if (tx_w (tw_or (tx_not (tx_tru (bx (px_isi rfl T.isinstance (bx_var 1) (bx (px_ty (n := "bool") rfl T.bool (by decide +kernel))))))) (tw_or1 (tx_ne hr (bx_var 1) (bx (px_call D__law_is_number (hr.mono (by decide)) (ax_i (px_var 0) ax_nil))))))) (ss_one (s_ret px_bl)) ss_nil)
      (ss_cons (s_asg (i := 2) sc__law_word_right.nd (px_tup as_nil))
      (ss_cut (s_try_first (i := 3) rfl rfl sc__law_word_right.nd rfl rfl ⟨rfl, by decide, Or.inl T2.eW.gC⟩ takes0 (fun W pn xe tk po => (ss_one (s_asgZ (i := 2) sc__law_word_right.nd (zx_r (z_callX tk D_read_content (hr.mono (by decide)) (ax_i (px_var 0) ax_nil)))))) (fun a oe cls d pn hz hf => (ss_one (s_asg (i := 2) sc__law_word_right.nd (px_tup (as_cons (px_efld T2.rW hz hf (px_var 3)) (as_cons (px_or (bx (px_isX (fun _ => T2.xW) hz hf rfl T.isinstance (bx_var 3) (bx (px_glob (v := .ref _) rfl T2.eT.gC rfl)))) (px_one (px_not (bx (px_isX (fun _ => T2.xW) hz hf rfl T.isinstance (bx_var 3) (bx (px_glob (v := .ref _) rfl T2.gK rfl))))))) as_nil)))))))
      (ss_cons (s_if (tx_eq hr (bx_var 0) (bx px_str)) (ss_one (s_ret (px_is (bx_var 2) (bx px_non)))) ss_nil)
      (ss_cons (s_if (tx_not (tx_tru (bx (px_call D__law_is_number (hr.mono (by decide)) (ax_i (px_var 0) ax_nil))))) (ss_one (s_ret (px_eq hr (bx_var 2) (bx (px_tup (as_cons (px_var 0) (as_cons px_bl as_nil))))))) ss_nil)
      (ss_one (s_ret (px_and (bx (px_isi rfl T.isinstance (bx_var 2) (bx (px_ty (n := "int") rfl T.int (by decide +kernel))))) (px_and (bx (px_not (bx (px_isi rfl T.isinstance (bx_var 2) (bx (px_ty (n := "bool") rfl T.bool (by decide +kernel))))))) (px_and (bx (px_eq hr (bx_var 2) (bx (px_intS rfl T.int (bx_var 0))))) (px_one (px_eq hr (bx (px_call D_content_text (hr.mono (by decide)) (ax_i (px_var 2) ax_nil))) (bx_var 0)))))))))))))), ?_⟩
  rintro l R hl hR
  have hR' := hR _ rfl
  have eo : Str.ofString "none" = S noneT := lit _
  have oko : TOk noneT := TOk.of (by decide)
  have lnumS : ∀ {Q : Rs → Prop}, Q (.d (.bl (isNum l))) → S_lnum.S [Slot.im (.str (S l))] Q := fun {Q} h => ⟨l, rfl, hl, by rintro _ rfl; exact h⟩
  walk_at "s"
  refine ⟨l, rfl, hl, ?_⟩
  rintro _ rfl
  simp only [dat_d]
  refine sIf_by false (fun Q hQ => ?_) (fun z => by cases z) fun _ => ?_
  · walk_at "r"
    refine ⟨_, _, rfl, kit_bb, fun z => (by cases z), fun _ => lnumS ?_⟩
    refine ⟨rfl, rfl, ?_⟩
    cases isNum l <;> exact hQ
  walk_at "s"
  let v : D := if l = noneT then .non else if isNum l then .int (numV l) else .tup [.str (S l), .bl false]
  refine ⟨by decide, sCut_by (fun Γ => ∃ d3 : Option Slot, Γ = [some (.im (.str (S l))), some (.im (.bl (isNum l))), some (.im v), d3]) ?_ ?_⟩
  · walk_at "s"
    refine ⟨l, rfl, hl, ?_, ?_⟩
    · rintro _ (⟨h, rfl⟩ | ⟨h, hn, rfl⟩)
      · exact ⟨none, by rw [show v = .non from if_pos h]; rfl⟩
      · exact ⟨none, by rw [show v = .int (numV l) from (if_neg h).trans (if_pos hn)]; rfl⟩
    · rintro _ _ ⟨h, hn, rfl, rfl⟩
      refine ⟨T2.mW, fun a d => ?_⟩
      refine ⟨rfl, rfl, rfl, rfl, _, _, rfl, T2.kWT, fun z => (by cases z), fun _ => ⟨rfl, rfl, _, _, rfl, T2.kWK, by decide, none, ?_⟩⟩
      rw [show v = .tup [.str (S l), .bl false] from (if_neg h).trans (if_neg (by rw [hn]; decide))]
      rfl
  rintro _ ⟨d3, rfl⟩
  walk_at "s"
  refine sIf_by (decide (l = noneT)) (fun Q hQ => ?_) (fun h => ?_) fun h => ?_
  · walk_at "r"
    rw [eo, eqD_S]
    exact ⟨sh_S hl, sh_S oko, hQ⟩
  · walk_at "r"
    have ev : v = .non := if_pos (of_decide_eq_true h)
    rw [ev]
    exact hR'
  walk_at "s"
  have hne := of_decide_eq_false h
  have ev : v = if isNum l then .int (numV l) else .tup [.str (S l), .bl false] := if_neg hne
  refine sIf_by (!isNum l) (fun Q hQ => ?_) (fun h => ?_) fun h => ?_
  · walk_at "r"
    exact lnumS hQ
  · have hn : isNum l = false := by simpa using h
    rw [hn] at ev
    have ev : v = .tup [.str (S l), .bl false] := ev
    rw [ev]
    walk_at "r"
    have e1 : D.sh 60 (.tup [.str (S l), .bl false]) = true := by
      show (D.sh 59 (.str (S l)) && (true && true)) = true
      rw [sh_S hl]
      rfl
    refine ⟨by decide, e1, e1, ?_⟩
    have e2 : eqD (.tup [.str (S l), .bl false]) (.tup [.str (S l), .bl false]) = true := by
      show (eqD (.str (S l)) (.str (S l)) && true) = true
      rw [eqD_S, decide_eq_true rfl]
      rfl
    rw [e2]
    exact hR'
  have hn : isNum l = true := by simpa using h
  rw [if_pos hn] at ev
  rw [ev]
  walk_at "r"
  refine ⟨_, _, rfl, kit_ii, fun _ => ⟨_, _, rfl, kit_ib, fun _ => ⟨_, num_int hn, by rw [S_len]; have := num_len hn; omega, fun _ => ?_, fun z => ?_⟩, fun z => (by cases z)⟩, fun z => (by cases z)⟩
  · refine ⟨some (numV l), rfl, fun i hi => by cases hi; exact num_bd hn, ?_⟩
    rintro _ rfl
    simp only [dat_d]
    rw [num_back hn]
    refine ⟨sh_S hl, sh_S hl, ?_⟩
    rw [eqD_S, decide_eq_true rfl]
    exact hR'
  · rw [beq_self_eq_true] at z
    cases z
end
end Kb
set_option Elab.async false
set_option linter.all false
set_option maxRecDepth 100000
set_option maxHeartbeats 1000000
namespace Kb
open PySem L2 SX
set_option autoImplicit false
local macro_rules | `(tactic| walk_at "r") => `(tactic| try simp only [sSeq, sNext, sRet, sRetF, sRetO, sAsg, sAsgF, sAsgM, sAsgR, rCl, rMe, sRetM, sIf, sIfM, sDrop, sDropM, sUnp, sAug, sFor, sForM, sApp, sSetI, sDPu, sDPuT, sDNew, sDNewT, sDOne, sFldI, sBreak, sCont, fLc, xDc, xF, xVar, D.fl, bVar, xC, x2, b2, fAdd, fI, fI0, fB0, fEq, fNe, fIn, fIs, fIsNot, D.isN, xNeg, bTru, bNot, bAnd, bOr, bCh, xAnd, xOr, xNot, xIfE, xFld, fIx, fSl, oNo, oSo, aNil, aCons, xTup, fLst, fCat, xCall, fCall, fLen, fAbs, fInt, fList, fTuple, fIsi, D.ty, fAny, fSrt, fMin, xIdx, fSS, fDIn, xDGet, xDGetT, keyD, keysD, gN, gsN, gsC, gTu, iL, iT, iR1, iR2, iR3, iR1M, bYes, wipeE, free, Slot.ad, Slot.dat, Slot.par, axNil, axI, axB, xCl, fCl, xMe, fMe, xMk, fGen, mP, m2, bm2, mCl, mTup, mLst, mSS, amNil, amCons, gPlain, gThen, gNil, gYield, zP, zM, zTP, zD, z2, bz2, zTru, zNot, zAnd, zOr, zNil, zCons, zTup, zLst, zCl, zClX, zFld, zMkS, sAsgZ, sRetZ, sIfZ, sDropZ, sRaise, sTry, sRetR, sRetV, sRetMF, mF, mLc, iP, xR, fR, xClF, rMe0, fLRg, fSrtQ, iEnV, xEFld, fIsX, cvV, cD_none, cD_some, stD, lk_st, lk_hn, lk_sz, eqD_int, sh_int, sh60_ints, inL_ints, xSl, sSlI, zMkL, rMeL, rMeL0, zMeX0, fIsL, fIsM, fOwn, fSortK, srtKB, sExt, mPop, sUnpM, fMax2, fMin2, fSum, fLtT, fSSI, sRaise0, sTryF, sAsgX, rMeX0, sFrz, fBool, fBoolO, fInO, fOwnT, xMkL, xOwn1, zSta, rSta, rS0, rClX, fIsB, fInT, aStar, iZip, fLc2, fOwnN, fNeL, fIsA, sAppM, mSl, lk_sp, lk_co, xM1, xSlS, fIxS, fInS, xJoin, mJoin, fStr, fIntS, jD, xJs, iStrT, iEn, fMulS, mCall, sAsgLM, sUnpZ, fStrO, Bool.false_xor, Bool.true_xor,
  List.map_cons, List.map_nil, List.length_cons, List.length_nil, List.getElem?_cons_succ, List.getElem?_cons_zero, List.set_cons_succ, List.set_cons_zero, List.cons_append, List.nil_append, Option.isNone_none, Option.map_some, Option.map_none, true_and, and_true, if_true, if_false, rngD_ints, Int.add_sub_cancel, Bool.false_eq_true, List.length_map])
local macro_rules | `(tactic| walk_at "s") => `(tactic| try simp only [sSeq, sNext, sRet, sRetF, sRetO, sAsg, sAsgF, sAsgM, sAsgR, rCl, rMe, sRetM, sDrop, sDropM, sUnp, sAug, sFor, sForM, sApp, sSetI, sDPu, sDPuT, sDNew, sDNewT, sDOne, sFldI, sBreak, sCont, fLc, xDc, xF, xVar, D.fl, bVar, xC, x2, b2, fAdd, fI, fI0, fB0, fEq, fNe, fIn, fIs, fIsNot, D.isN, xNeg, bTru, bNot, bAnd, bOr, bCh, xAnd, xOr, xNot, xIfE, xFld, fIx, fSl, oNo, oSo, aNil, aCons, xTup, fLst, fCat, xCall, fCall, fLen, fAbs, fInt, fList, fTuple, fIsi, D.ty, fAny, fSrt, fMin, xIdx, fSS, fDIn, xDGet, xDGetT, keyD, keysD, gN, gsN, gsC, gTu, iL, iT, iR1, iR2, iR3, iR1M, bYes, wipeE, free, Slot.ad, Slot.dat, Slot.par, axNil, axI, axB, xCl, fCl, xMe, fMe, xMk, fGen, mP, m2, bm2, mCl, mTup, mLst, mSS, amNil, amCons, gPlain, gThen, gNil, gYield, zP, zM, zTP, zD, z2, bz2, zTru, zNot, zAnd, zOr, zNil, zCons, zTup, zLst, zCl, zClX, zFld, zMkS, sAsgZ, sRetZ, sDropZ, sRaise, sTry, sRetR, sRetV, sRetMF, mF, mLc, iP, xR, fR, xClF, rMe0, fLRg, fSrtQ, iEnV, xEFld, fIsX, cvV, cD_none, cD_some, stD, lk_st, lk_hn, lk_sz, eqD_int, sh_int, sh60_ints, inL_ints, xSl, sSlI, zMkL, rMeL, rMeL0, zMeX0, fIsL, fIsM, fOwn, fSortK, srtKB, sExt, mPop, sUnpM, fMax2, fMin2, fSum, fLtT, fSSI, sRaise0, sTryF, sAsgX, rMeX0, sFrz, fBool, fBoolO, fInO, fOwnT, xMkL, xOwn1, zSta, rSta, rS0, rClX, fIsB, fInT, aStar, iZip, fLc2, fOwnN, fNeL, fIsA, sAppM, mSl, lk_sp, lk_co, xM1, xSlS, fIxS, fInS, xJoin, mJoin, fStr, fIntS, jD, xJs, iStrT, iEn, fMulS, mCall, sAsgLM, sUnpZ, fStrO, Bool.false_xor, Bool.true_xor,
  List.map_cons, List.map_nil, List.length_cons, List.length_nil, List.getElem?_cons_succ, List.getElem?_cons_zero, List.set_cons_succ, List.set_cons_zero, List.cons_append, List.nil_append, Option.isNone_none, Option.map_some, Option.map_none, true_and, and_true, if_true, if_false, rngD_ints, Int.add_sub_cancel, Bool.false_eq_true, List.length_map])
section
variable {P : Program} {w : World} {K : Frag} {mg : Str → Option Value} {base : Heap} {C Ci Cc Ck Ct Cw fI fC fT fW f : Addr} {fd : FuncData}
abbrev s_law : Stmt := top 51
abbrev N_law : List Str := ["_law_script", "_law_pot_here", "_law_plain", "_law_span", "_law_again", "_law_kinds", "_law_words", "_law_k", "_law_word_here"]
theorem sc_law : FnScope N_law ["_law_script"] (defScope s_law) := ⟨rfl, rfl, rfl, by decide +kernel, rfl, by decide +kernel, by decide +kernel⟩
def S_law : SP := spc (α := List Int) (fun x => [.im (.scr x)]) (fun _ => True) fun x r => r = .d (.bl true)
theorem ok_law (F : FD K "law" "law" s_law [] f fd) (T : Tx K mg C) (T3 : TxT K mg C) (D__law_pot : Df P w K mg base "_law_pot" 3 (spP K S_pot)) (D__law_draw : DfM P w K mg base "_law_draw" 3 S_draw) (D__law_number : DfM P w K mg base "_law_number" 4 S_number) (D__law_drawn_pairs : DfM P w K mg base "_law_drawn_pairs" 5 S_pairs)
    (D_Span_1_has_none : DcL P w K mg base "Span" C 9 (S_initL Ci) 1 ["has_none"] (fun as bs => as ++ bs)) (D__law_is_span : Df P w K mg base "_law_is_span" 7 (spP K (S_lisspan C))) (D__law_reading : Df P w K mg base "_law_reading" 12 (spP K (S_lread C))) (D_Span___str__ : DmO P w K mg base C "__str__" 4 (S_sstr C)) (D_Span___eq__ : DmE P w K mg base C 3 (S_eq C))
    (D__law_word : DfM P w K mg base "_law_word" 5 S_word) (D__law_few_signs : DfM P w K mg base "_law_few_signs" 4 S_few) (D__law_odd : Df P w K mg base "_law_odd" 3 (spP K S_lodd)) (D__law_read_right : Df P w K mg base "_law_read_right" 13 (spP K S_rdright)) (D__law_word_right : Df P w K mg base "_law_word_right" 5 (spP K S_wright)) (D_content_text : Df P w K mg base "content_text" 3 (spP K S_ctext)) :
    FnOk P w K mg base CX0 (13 + 1) f fd ["_law_script"] (spP K S_law) := by
  refine fn_spc F sc_law (fun x => [some (.im (.scr x)), none, none, none, none, none, none, none, none]) fun cdv A outer s H E hr => ?_
  refine ⟨_, (ss_cons (s_asgF (i := 1) sc_law.nd (fx_call D__law_pot (hr.mono (by decide)) (ax_i (px_var 0) (ax_i px_int ax_nil))))
      (ss_cut (s_asgM (i := 2) sc_law.nd (mx_tup (am_cons (mx_call (i := 1) D__law_drawn_pairs (hr.mono (by decide)) am_nil) (am_cons (mx_cmp (op_eqD hr.units) does_eq (mx_call (i := 1) D__law_draw (hr.mono (by decide)) (am_cons (mx px_int) am_nil)) (mx px_int)) am_nil))))
      (ss_cut (s_asg (i := 3) sc_law.nd (px_makeL D_Span_1_has_none (hr.mono (by decide)) (ax_b (bx (px_f (fx_list rfl T.list (bx (px_ix (bx_var 2) (bx px_int)))))) ax_nil) (kx_i (px_ix (bx_var 2) (bx px_int)) kx_nil)))
      (ss_cons (s_if (tx_not (tx_tru (bx (px_call D__law_is_span (hr.mono (by decide)) (ax_i (px_var 3) (ax_i (px_var 2) ax_nil)))))) (ss_one (s_ret px_bl)) ss_nil)
      (ss_cut (s_asg (i := 4) sc_law.nd (px_call D__law_reading (hr.mono (by decide)) (ax_i (px_strO D_Span___str__ (hr.mono (by decide)) rfl T.str (bx_var 3)) ax_nil)))
      (ss_cons (s_if (tx_w (tw_or (tx_not (tx_tru (bx (px_call D__law_is_span (hr.mono (by decide)) (ax_i (px_var 4) (ax_i (px_var 2) ax_nil)))))) (tw_or1 (tx_neO D_Span___eq__ T3.ne (hr.mono (by decide)) (bx_var 4) (bx_var 3))))) (ss_one (s_ret px_bl)) ss_nil)
      (ss_cons (s_asgF (i := 1) sc_law.nd (fx_call D__law_pot (hr.mono (by decide)) (ax_i (px_var 0) (ax_i px_int ax_nil))))
      (ss_cut (s_asgM (i := 5) sc_law.nd (mx_ix (mx (px_f (fx_lst (as_cons px_int (as_cons px_int as_nil))))) (mx_call (i := 1) D__law_draw (hr.mono (by decide)) (am_cons (mx px_int) am_nil))))
      (ss_cut (s_lcM (i := 6) (own := [("_law_k", 7)]) rfl sc_law.nd rfl rfl (sw_true rfl rfl rfl (by decide +kernel)) (iz_m (ilm_r1 rfl T.range (am_cons (mx_call (i := 1) D__law_draw (hr.mono (by decide)) (am_cons (mx px_int) am_nil)) am_nil))) (blkOk_by (N := N_law) (sc := defScope s_law) (by decide +kernel)) (fun _ _ _ _ _ => (gx_name (i := 7) sc_law.nd)) (fun _ _ _ _ _ => tts_nil) (fun _ _ _ _ _ => (mx_call (i := 1) D__law_word (hr.mono (by decide)) (am_cons (mx (px_var 5)) am_nil))))
      (ss_cons (s_if (tx_w (tw_or (tx_not (tx_tru (bx (px_call D__law_read_right (hr.mono (by decide)) (ax_i (px_var 6) ax_nil))))) (tw_or (tx_not (tx_tru (bx (px_call D__law_read_right (hr.mono (by decide)) (ax_i (px_f (fx_lst (as_cons px_str as_nil))) ax_nil))))) (tw_or1 (tx_not (tx_tru (bx (px_call D__law_read_right (hr.mono (by decide)) (ax_i (px_f (fx_lst (as_cons px_str (as_cons px_str as_nil)))) ax_nil))))))))) (ss_one (s_ret px_bl)) ss_nil)
      (ss_cons (s_asgF (i := 1) sc_law.nd (fx_call D__law_pot (hr.mono (by decide)) (ax_i (px_var 0) (ax_i px_int ax_nil))))
      (ss_cut (s_asgLM (i := 6) sc_law.nd (am_cons (mx_str1 rfl T.str (mx_call (i := 1) D__law_number (hr.mono (by decide)) am_nil)) (am_cons (mx_call (i := 1) D__law_few_signs (hr.mono (by decide)) am_nil) (am_cons (mx_call (i := 1) D__law_word (hr.mono (by decide)) (am_cons (mx px_int) am_nil)) am_nil))))
      (ss_cut (s_appM 6 (mx_bin op_addD does_add (mx_bin op_addD does_add (mx_ix (mx (px_f (fx_lst (as_cons px_str (as_cons px_str as_nil))))) (mx_call (i := 1) D__law_draw (hr.mono (by decide)) (am_cons (mx px_int) am_nil))) (mx_str1 rfl T.str (mx_bin op_addD does_add (mx px_int) (mx_call (i := 1) D__law_draw (hr.mono (by decide)) (am_cons (mx px_int) am_nil))))) (mx_bin op_mulS does_mulS (mx px_str) (mx_bin op_addD does_add (mx px_int) (mx_call (i := 1) D__law_draw (hr.mono (by decide)) (am_cons (mx px_int) am_nil))))))
      (ss_cut (s_for PassesOwn.never rfl (il_list (px_f (fx_cat (bx (px_f (fx_cat (bx_var 6) (bx (px_f (fx_call0 D__law_odd (hr.mono (by decide)))))))) (bx (px_f (fx_lst (as_cons px_str (as_cons px_str (as_cons px_str as_nil))))))))) (gx_name (i := 8) sc_law.nd) (ss_one (s_if (tx_not (tx_tru (bx (px_call D__law_word_right (hr.mono (by decide)) (ax_i (px_var 8) ax_nil))))) (ss_one (s_ret px_bl)) ss_nil)))
      (ss_cons (s_if (tx_w (tw_or (tx_ne hr (bx (px_call D_content_text (hr.mono (by decide)) (ax_i px_non ax_nil))) (bx px_str)) (tw_or (tx_ne hr (bx (px_call D_content_text (hr.mono (by decide)) (ax_i px_int ax_nil))) (bx px_str)) (tw_or1 (tx_ne hr (bx (px_call D_content_text (hr.mono (by decide)) (ax_i (px_neg (bx px_int)) ax_nil))) (bx px_str)))))) (ss_one (s_ret px_bl)) ss_nil)
      (ss_one (s_ret (px_eq hr (bx (px_gint rfl T3.most)) (bx px_int))))))))))))))))))), ?_⟩
  rintro ns R _ hR
  have hR' := hR _ rfl
  walk_at "s"
  refine ⟨(ns, 0), rfl, Int.le_refl 0, ?_⟩
  rintro _ ⟨z, hz, rfl⟩
  dsimp only
  intro l hl
  refine sCut_by (fun Γ => ∃ ps : List St2, PrOk ps ∧ ∃ b l z, Γ = [some (.im (.scr ns)), some (.ml l z), some (.im (plD ps b)), none, none, none, none, none, none]) ?_ ?_
  · walk_at "s"
    refine ⟨⟨_, _, .inr rfl⟩, z, rfl, rfl, hz, ?_⟩
    rintro _ z ⟨hz, ps, hps, rfl⟩
    refine ⟨⟨_, _, .inr rfl⟩, drawS hz (by decide) (by decide) fun v z hz _ _ => ?_⟩
    simp only [dat_d, dat_fl]
    generalize eqD (D.int v) (D.int 1) = b
    exact ⟨sh_int _ _, by decide, ps, hps, b, l, z, rfl⟩
  rintro _ ⟨ps, ⟨hl12, hok, hbd⟩, b, l, z, rfl⟩
  have hml := mergeS_len ps
  have hb60 : ∀ p ∈ ps, bd60 p := fun p hp i hi => by have := hbd p hp i hi; omega
  refine sCut_by (fun Γ => Γ = [some (.im (.scr ns)), some (.ml l z), some (.im (plD ps b)), some (.im (spD C (mergeS ps) b)), none, none, none, none, none]) ?_ ?_
  · unfold plD
    walk_at "s"
    refine (?_ : (S_initL Ci).S [bSl false (ps.map stD), Slot.im (.bl b)] _ _)
    exact initS (by omega) hok rfl
  rintro _ rfl
  have isS : ∀ {Q : Rs → Prop}, Q (.d (.bl true)) → (S_lisspan C).S [Slot.im (spD C (mergeS ps) b), Slot.im (plD ps b)] Q := fun {Q} h => ⟨((mergeS ps, b), (ps, b)), rfl, ⟨rfl, rfl, by dsimp only; omega, hok, hb60⟩, by rintro _ rfl; exact h⟩
  walk_at "s"
  refine sIf_by false (fun Q hQ => ?_) (fun z => by cases z) fun _ => ?_
  · walk_at "r"
    exact isS hQ
  refine sCut_by (fun Γ => Γ = [some (.im (.scr ns)), some (.ml l z), some (.im (plD ps b)), some (.im (spD C (mergeS ps) b)), some (.im (spD C (mergeS ps) b)), none, none, none, none]) ?_ ?_
  · walk_at "s"
    refine (?_ : C = C ∧ (S_sstr C).S [Slot.bo (spD C (mergeS ps) b)] _)
    refine ⟨rfl, (mergeS ps, b), rfl, ⟨by dsimp only; omega, merge_bd60 hb60⟩, ?_⟩
    rintro _ rfl
    refine ⟨_, rfl, _, rfl, rdok_sp (by dsimp only; omega) (merge_bd60 hb60), ?_⟩
    rintro _ rfl
    rw [rd_sp fun p hp => ⟨mergeS_ok hok p hp, merge_bd60 hb60 p hp⟩]
    have erd : rdD C (.inr (mergeS ps, b)) = spD C (mergeS ps) b := by
      show spD C (mergeS (mergeS ps)) b = _
      rw [mergeS_idem hok]
    rw [erd]
    rfl
  rintro _ rfl
  walk_at "s"
  refine sIf_by false (fun Q hQ => ?_) (fun z => by cases z) fun _ => ?_
  · walk_at "r"
    refine isS ⟨fun z => (by cases z), fun _ => ?_⟩
    refine (?_ : C = C ∧ C = C ∧ (S_eq C).S [Slot.bo (spD C (mergeS ps) b), Slot.bo (spD C (mergeS ps) b)] _)
    refine ⟨rfl, rfl, ((mergeS ps, b), .inl (mergeS ps, b)), rfl, trivial, ?_⟩
    rintro _ rfl
    have e : eqO' (mergeS ps, b) (.inl (mergeS ps, b)) = true := by
      show (decide (mergeS ps = mergeS ps) && b == b) = true
      rw [decide_eq_true rfl]
      cases b <;> rfl
    rw [e]
    exact ⟨_, rfl, hQ⟩
  obtain ⟨PD, hPD⟩ : ∃ PD, PD = plD ps b := ⟨_, rfl⟩
  obtain ⟨SD, hSD⟩ : ∃ SD, SD = spD C (mergeS ps) b := ⟨_, rfl⟩
  rw [← hPD, ← hSD]
  walk_at "s"
  refine ⟨(ns, 1), rfl, by show (0 : Int) ≤ 1; decide, ?_⟩
  rintro _ ⟨z, hz, rfl⟩
  dsimp only
  intro l hl
  refine sCut_by (fun Γ => ∃ k : Int, 1 ≤ k ∧ k ≤ 9 ∧ ∃ l z, PotOk z ∧ Γ = [some (.im (.scr ns)), some (.ml l z), some (.im PD), some (.im SD), some (.im SD), some (.im (.int k)), none, none, none]) ?_ ?_
  · walk_at "s"
    refine ⟨by decide, ⟨_, _, .inr rfl⟩, drawS hz (by decide) (by decide) fun v z hz hv0 hv => ?_⟩
    simp only [dat_d]
    have h2 : v = 0 ∨ v = 1 := by omega
    rcases h2 with rfl | rfl
    · exact ⟨6, by decide, by decide, l, z, hz, rfl⟩
    · exact ⟨9, by decide, by decide, l, z, hz, rfl⟩
  rintro _ ⟨k, hk1, hk2, l, z, hz, rfl⟩
  refine sCut_by (fun Γ => ∃ ws : List Tx0, WsOk ws ∧ ∃ l z, ∃ d7 : Option Slot, Γ = [some (.im (.scr ns)), some (.ml l z), some (.im PD), some (.im SD), some (.im SD), some (.im (.int k)), some (.im (.lst (ws.map strD))), d7, none]) ?_ ?_
  · walk_at "s"
    refine ⟨⟨_, _, .inr rfl⟩, drawS hz (by decide) (by decide) fun n z hz hn0 hn => ?_⟩
    simp only [dat_d]
    refine ⟨by omega, by omega, by rw [List.length_map, rngI_len]; exact sz (by omega), rfl, fun i acc Γw => ∃ (z : List D) (ws : List Tx0), PotOk z ∧ ws.length = i ∧ (∀ p ∈ ws, WOk p) ∧ acc = ws.map strD ∧ Γw = [some (.im (.scr ns)), some (.ml l z), some (.im PD), some (.im SD), some (.im SD), some (.im (.int k)), none, none, none], ⟨z, [], hz, rfl, fun c hc => (by cases hc), rfl, rfl⟩, ?_, ?_⟩
    · rintro i d acc Γw hd hacc ⟨z, ws, hz, hws, hin, rfl, rfl⟩
      walk_at "r"
      refine ⟨fun _ => ⟨⟨_, _, .inr rfl⟩, (z, k), rfl, rfl, ⟨hz, hk1, hk2⟩, ?_⟩, fun z => (by cases z)⟩
      rintro _ z ⟨hz, m, hm, rfl⟩
      refine ⟨rfl, z, ws ++ [m], hz, by rw [List.length_append, hws]; rfl, fun p hp => ?_, by rw [List.map_append]; rfl, rfl⟩
      rcases List.mem_append.mp hp with hp | hp
      · exact hin p hp
      · rw [List.mem_singleton.mp hp]; exact hm
    · rintro acc Γw ⟨z, ws, hz, hws, hin, rfl, rfl⟩
      rw [List.length_map, rngI_len] at hws
      exact ⟨ws, ⟨by omega, hin⟩, l, z, none, rfl⟩
  rintro _ ⟨ws, hws, l, z, d7, rfl⟩
  have rdr : ∀ {Q : Rs → Prop} (ws : List Tx0), WsOk ws → Q (.d (.bl true)) → S_rdright.S [Slot.im (.lst (ws.map strD))] Q := fun {Q} ws h1 h => ⟨ws, rfl, h1, by rintro _ rfl; exact h⟩
  walk_at "s"
  refine sIf_by false (fun Q hQ => ?_) (fun z => by cases z) fun _ => ?_
  · walk_at "r"
    have e0 : Str.ofString "nothing" = S nothT := lit _
    have e1 : Str.ofString "none" = S noneT := lit _
    have w0 : WOk nothT := WOk.of (by decide)
    have w1 : WOk noneT := WOk.of (by decide)
    refine rdr ws hws ?_
    simp only [dat_d]
    refine ⟨fun z => (by cases z), fun _ => ⟨by decide, ?_⟩⟩
    rw [e0, e1]
    refine rdr [nothT] ⟨by decide, fun p hp => by rw [List.mem_singleton.mp hp]; exact w0⟩ ?_
    simp only [dat_d]
    refine ⟨fun z => (by cases z), fun _ => ⟨by decide, ?_⟩⟩
    refine rdr [noneT, nothT] ⟨by decide, fun p hp => ?_⟩ hQ
    have hp : p = noneT ∨ p = nothT := by simpa using hp
    rcases hp with rfl | rfl
    · exact w1
    · exact w0
  walk_at "s"
  refine ⟨(ns, 2), rfl, by show (0 : Int) ≤ 2; decide, ?_⟩
  rintro _ ⟨z, hz, rfl⟩
  dsimp only
  intro l hl
  refine sCut_by (fun Γ => ∃ ws : List Tx0, ws.length ≤ 5 ∧ (∀ p ∈ ws, TOk p) ∧ ∃ l z l6, ∃ d7 : Option Slot, PotOk z ∧ Γ = [some (.im (.scr ns)), some (.ml l z), some (.im PD), some (.im SD), some (.im SD), some (.im (.int k)), some (.ml l6 (ws.map strD)), d7, none]) ?_ ?_
  · walk_at "s"
    have nb : ∀ i : Int, -10 ^ 12 ≤ i → i ≤ 10 ^ 12 → i.natAbs < 10 ^ 20 ∧ i.natAbs.log2 < 1920 := fun i h1 h2 => ⟨by omega, num_log (by omega)⟩
    refine ⟨⟨_, _, .inr rfl⟩, numberS hz fun i z hz h1 h2 => ?_⟩
    simp only [dat_d]
    refine ⟨(nb i (by omega) (by omega)).2, ⟨_, _, .inr rfl⟩, z, rfl, rfl, hz, ?_⟩
    rintro _ z ⟨hz, m1, hm1, rfl⟩
    refine ⟨⟨_, _, .inr rfl⟩, (z, 9), rfl, rfl, ⟨hz, by show (1 : Int) ≤ 9; decide, by show (9 : Int) ≤ 9; decide⟩, ?_⟩
    rintro _ z ⟨hz, m2, hm2, rfl⟩
    refine ⟨by decide, fun l6 _ => ⟨[numT i, m1, m2], by show (3 : Nat) ≤ 5; decide, fun p hp => ?_, l, z, l6, d7, hz, ?_⟩⟩
    · have hp : p = numT i ∨ p = m1 ∨ p = m2 := by simpa using hp
      rcases hp with rfl | rfl | rfl
      · exact (w_num (nb i (by omega) (by omega)).1).1.t
      · exact hm1.t
      · exact hm2.t
    · rw [num_str]
      rfl
  rintro _ ⟨ws, hwl, hwo, l, z, l6, d7, hz, rfl⟩
  refine sCut_by (fun Γ => ∃ ws : List Tx0, ws.length ≤ 6 ∧ (∀ p ∈ ws, TOk p) ∧ ∃ l z l6, ∃ d7 : Option Slot, Γ = [some (.im (.scr ns)), some (.ml l z), some (.im PD), some (.im SD), some (.im SD), some (.im (.int k)), some (.ml l6 (ws.map strD)), d7, none]) ?_ ?_
  · walk_at "s"
    refine ⟨by decide, ⟨_, _, .inr rfl⟩, drawS hz (by decide) (by decide) fun v z hz hv0 hv => ?_⟩
    simp only [dat_d]
    have e0 : Str.ofString "" = S [] := lit _
    have e1 : Str.ofString "-" = S [45] := lit _
    have e2 : Str.ofString "0" = S [48] := lit _
    obtain ⟨m, hm, hat⟩ : ∃ m : Tx0, (m = [] ∨ m = [45]) ∧ atI [D.str (Str.ofString ""), D.str (Str.ofString "-")] v = some (.str (S m)) := by
      rw [e0, e1]
      have h2 : v = 0 ∨ v = 1 := by omega
      rcases h2 with rfl | rfl
      · exact ⟨[], .inl rfl, rfl⟩
      · exact ⟨[45], .inr rfl, rfl⟩
    simp only [hat]
    refine ⟨⟨_, _, .inr rfl⟩, drawS hz (by decide) (by decide) fun u z hz hu0 hu => ?_⟩
    simp only [dat_d]
    have hnb : (1 + u).natAbs < 10 ^ 20 := by omega
    have hw := w_num hnb
    have hml1 : m.length ≤ 1 := by rcases hm with rfl | rfl <;> decide
    refine ⟨num_log (by omega), ?_⟩
    rw [num_str]
    refine ⟨by rw [S_len, S_len]; exact sz (by omega), ⟨_, _, .inr rfl⟩, drawS hz (by decide) (by decide) fun q z hz hq0 hq => ?_⟩
    simp only [dat_d]
    rw [e2]
    have er : (⟨(List.replicate (57 + q).toNat 48).toArray⟩ : Str) = S (List.replicate (57 + q).toNat 48) := rfl
    refine ⟨48, rfl, by omega, by omega, ?_⟩
    rw [er, S_cat, S_cat]
    refine ⟨by rw [S_len, S_len, List.length_append, List.length_replicate]; exact sz (by omega), _, rfl, sz' (by rw [List.length_map]; omega), ws ++ [m ++ numT (1 + u) ++ List.replicate (57 + q).toNat 48], by rw [List.length_append]; simp only [List.length_cons, List.length_nil]; omega, fun p hp => ?_, l, z, l6, d7, by rw [List.map_append]; rfl⟩
    rcases List.mem_append.mp hp with hp | hp
    · exact hwo p hp
    · rw [List.mem_singleton.mp hp]
      refine ⟨by rw [List.length_append, List.length_append, List.length_replicate]; omega, fun c hc => ?_⟩
      rcases List.mem_append.mp hc with hc | hc
      · rcases List.mem_append.mp hc with hc | hc
        · rcases hm with rfl | rfl
          · cases hc
          · rw [List.mem_singleton.mp hc]; decide
        · exact (hw.1.sg c hc).1
      · rw [List.eq_of_mem_replicate hc]; decide
  rintro _ ⟨ws, hwl, hwo, l, z, l6, d7, rfl⟩
  refine sCut_by (fun Γ => ∃ d8 : Option Slot, Γ = [some (.im (.scr ns)), some (.ml l z), some (.im PD), some (.im SD), some (.im SD), some (.im (.int k)), some (.ml l6 (ws.map strD)), d7, d8]) ?_ ?_
  · walk_at "s"
    refine ⟨(), rfl, trivial, ?_⟩
    rintro _ rfl
    have ho : oddL.length = 27 := rfl
    have e0 : Str.ofString "0" = S [48] := lit _
    have e1 : Str.ofString "none" = S noneT := lit _
    have e2 : Str.ofString "-1" = S [45, 49] := lit _
    refine ⟨sz (by rw [List.length_map]; omega), by decide, sz (by simp only [List.length_append, List.length_map]; omega), ?_⟩
    rw [e0, e1, e2]
    have e3 : List.map strD ws ++ List.map strD oddL ++ [D.str (S [48]), D.str (S noneT), D.str (S [45, 49])] = (ws ++ oddL ++ [[48], noneT, [45, 49]]).map strD := by rw [List.map_append, List.map_append]; rfl
    rw [e3]
    have hall : ∀ p ∈ ws ++ oddL ++ [[48], noneT, [45, 49]], TOk p := fun p hp => by
      rcases List.mem_append.mp hp with hp | hp
      · rcases List.mem_append.mp hp with hp | hp
        · exact hwo p hp
        · exact (odd_ok p hp).t
      · have hp : p = [48] ∨ p = noneT ∨ p = [45, 49] := by simpa using hp
        rcases hp with rfl | rfl | rfl <;> exact TOk.of (by decide)
    refine forb (fun pre Γ => ∃ d8 : Option D, Γ = [some (.im (.scr ns)), some (.ml l z), some (.im PD), some (.im SD), some (.im SD), some (.im (.int k)), some (.ml l6 (ws.map strD)), d7, d8.map Slot.im]) ⟨none, rfl⟩ ?_ ?_
    · rintro pre p post Γ hx ⟨d8, rfl⟩
      have hp := hall p (by rw [hx]; exact List.mem_append_right _ (.head _))
      walk_at "s"
      refine ⟨by cases d8 <;> rfl, ?_⟩
      refine sIf_by false (fun Q hQ => ?_) (fun z => by cases z) fun _ => ?_
      · walk_at "r"
        refine ⟨p, rfl, hp, ?_⟩
        rintro _ rfl
        exact hQ
      · exact ⟨some (strD p), rfl⟩
    · rintro _ ⟨d8, rfl⟩
      exact ⟨_, rfl⟩
  rintro _ ⟨d8, rfl⟩
  walk_at "s"
  refine sIf_by false (fun Q hQ => ?_) (fun z => by cases z) fun _ => ?_
  · walk_at "r"
    have ctS : ∀ {Q : Rs → Prop} (x : Cn) (d : D) (l : Tx0), d = cD x → (∀ i, x = some i → i.natAbs < 10 ^ 60) → (match x with
      | none => noneT
      | some i => numT i) = l → Q (.d (.str (S l))) → S_ctext.S [Slot.im d] Q := fun {Q} x d l h1 h2 h3 h => ⟨x, by rw [h1], h2, by rintro _ rfl; rw [← h3] at h; exact h⟩
    have e0 : Str.ofString "0" = S [48] := lit _
    have e1 : Str.ofString "none" = S noneT := lit _
    have e2 : Str.ofString "-40" = S [45, 52, 48] := lit _
    have k : ∀ l : Tx0, (!eqD (.str (S l)) (.str (S l))) = false := fun l => by rw [eqD_S, decide_eq_true rfl]; rfl
    rw [e0, e1, e2]
    refine ctS none _ noneT rfl (fun i hi => by cases hi) rfl ?_
    simp only [dat_d]
    refine ⟨sh_S (TOk.of (by decide)), sh_S (TOk.of (by decide)), fun z => (by rw [k] at z; cases z), fun _ => ?_⟩
    refine ctS (some 0) _ [48] rfl (fun i hi => by cases hi; decide) (by decide) ?_
    simp only [dat_d]
    refine ⟨sh_S (TOk.of (by decide)), sh_S (TOk.of (by decide)), fun z => (by rw [k] at z; cases z), fun _ => ?_⟩
    refine ctS (some (-40)) _ [45, 52, 48] rfl (fun i hi => by cases hi; decide) (by decide) ?_
    simp only [dat_d]
    refine ⟨sh_S (TOk.of (by decide)), sh_S (TOk.of (by decide)), ?_⟩
    rw [k]
    exact hQ
  walk_at "r"
  exact hR'
end
end Kb
set_option Elab.async false
set_option linter.all false
set_option maxRecDepth 100000
set_option maxHeartbeats 0
namespace Kb
open PySem PySem.Spec PyProof.Rows L2
set_option autoImplicit false
theorem law_start {K : PySem.W.Frag} {H : Hp} {a : Addr} {ns : List Int} {E : XK} (hS : SqL K H a (ns.map V.int)) : spP K S_law [.ref a] H (fun v _ => v = .bl true) E := by
  have e : hid [] H = H := by
    funext x
    exact hid_ni (by simp)
  refine ⟨[], [.im (.scr ns)], .cons ?_ rfl .nil, fun x m => (by cases m), ns, rfl, trivial, ?_⟩
  · show Rep K (hid [] H) (.ref a) (.scr ns)
    rw [e]
    exact .scr hS
  · rintro _ rfl v H' _ ro
    have r : Rep K (hid [] H') v (.bl true) := ro
    cases r
    rfl
def d_is_number_text : He.DefD := ⟨("is_number_text", none), "is_number_text", "is_number_text", defArgs (top 10), defBody (top 10), defScope (top 10), [], []⟩
def d_content_text : He.DefD := ⟨("content_text", none), "content_text", "content_text", defArgs (top 11), defBody (top 11), defScope (top 11), [], []⟩
def d_read_content : He.DefD := ⟨("read_content", none), "read_content", "read_content", defArgs (top 12), defBody (top 12), defScope (top 12), [], []⟩
def d_stretch_text : He.DefD := ⟨("stretch_text", none), "stretch_text", "stretch_text", defArgs (top 13), defBody (top 13), defScope (top 13), [], []⟩
def d_read_stretch : He.DefD := ⟨("read_stretch", none), "read_stretch", "read_stretch", defArgs (top 14), defBody (top 14), defScope (top 14), [], []⟩
def d_read_stretches : He.DefD := ⟨("read_stretches", none), "read_stretches", "read_stretches", defArgs (top 15), defBody (top 15), defScope (top 15), [], []⟩
def d_is_whole : He.DefD := ⟨("is_whole", none), "is_whole", "is_whole", defArgs (top 17), defBody (top 17), defScope (top 17), [], []⟩
def d_is_content : He.DefD := ⟨("is_content", none), "is_content", "is_content", defArgs (top 18), defBody (top 18), defScope (top 18), [], []⟩
def d_rank : He.DefD := ⟨("rank", none), "rank", "rank", defArgs (top 19), defBody (top 19), defScope (top 19), [], []⟩
def d_low_rank : He.DefD := ⟨("low_rank", none), "low_rank", "low_rank", defArgs (top 20), defBody (top 20), defScope (top 20), [], []⟩
def d_is_stretch : He.DefD := ⟨("is_stretch", none), "is_stretch", "is_stretch", defArgs (top 21), defBody (top 21), defScope (top 21), [], []⟩
def d_merged : He.DefD := ⟨("merged", none), "merged", "merged", defArgs (top 22), defBody (top 22), defScope (top 22), [], []⟩
def d_touches : He.DefD := ⟨("touches", none), "touches", "touches", defArgs (top 23), defBody (top 23), defScope (top 23), [], []⟩
def d_count_of : He.DefD := ⟨("count_of", none), "count_of", "count_of", defArgs (top 28), defBody (top 28), defScope (top 28), [], []⟩
def d_Span___init__ : He.DefD := ⟨("Span", some "__init__"), "__init__", "Span.__init__", defArgs (inClass (top 30) 1), defBody (inClass (top 30) 1), defScope (inClass (top 30) 1), [.adr (He.dflAt ("Span", some "__init__") 0)], [("has_none", .bl false)]⟩
def d_Span___str__ : He.DefD := ⟨("Span", some "__str__"), "__str__", "Span.__str__", defArgs (inClass (top 30) 6), defBody (inClass (top 30) 6), defScope (inClass (top 30) 6), [], []⟩
def d_Span___eq__ : He.DefD := ⟨("Span", some "__eq__"), "__eq__", "Span.__eq__", defArgs (inClass (top 30) 7), defBody (inClass (top 30) 7), defScope (inClass (top 30) 7), [], []⟩
def d__law_pot : He.DefD := ⟨("_law_pot", none), "_law_pot", "_law_pot", defArgs (top 32), defBody (top 32), defScope (top 32), [], []⟩
def d__law_draw : He.DefD := ⟨("_law_draw", none), "_law_draw", "_law_draw", defArgs (top 33), defBody (top 33), defScope (top 33), [], []⟩
def d__law_number : He.DefD := ⟨("_law_number", none), "_law_number", "_law_number", defArgs (top 34), defBody (top 34), defScope (top 34), [], []⟩
def d__law_drawn_pairs : He.DefD := ⟨("_law_drawn_pairs", none), "_law_drawn_pairs", "_law_drawn_pairs", defArgs (top 35), defBody (top 35), defScope (top 35), [], []⟩
def d__law_has : He.DefD := ⟨("_law_has", none), "_law_has", "_law_has", defArgs (top 36), defBody (top 36), defScope (top 36), [], []⟩
def d__law_starts : He.DefD := ⟨("_law_starts", none), "_law_starts", "_law_starts", defArgs (top 37), defBody (top 37), defScope (top 37), [], []⟩
def d__law_samples : He.DefD := ⟨("_law_samples", none), "_law_samples", "_law_samples", defArgs (top 38), defBody (top 38), defScope (top 38), [], []⟩
def d__law_form : He.DefD := ⟨("_law_form", none), "_law_form", "_law_form", defArgs (top 39), defBody (top 39), defScope (top 39), [], []⟩
def d__law_plain_form : He.DefD := ⟨("_law_plain_form", none), "_law_plain_form", "_law_plain_form", defArgs (top 40), defBody (top 40), defScope (top 40), [], []⟩
def d__law_text : He.DefD := ⟨("_law_text", none), "_law_text", "_law_text", defArgs (top 41), defBody (top 41), defScope (top 41), [], []⟩
def d__law_is_number : He.DefD := ⟨("_law_is_number", none), "_law_is_number", "_law_is_number", defArgs (top 42), defBody (top 42), defScope (top 42), [], []⟩
def d__law_text_part : He.DefD := ⟨("_law_text_part", none), "_law_text_part", "_law_text_part", defArgs (top 43), defBody (top 43), defScope (top 43), [], []⟩
def d__law_odd : He.DefD := ⟨("_law_odd", none), "_law_odd", "_law_odd", defArgs (top 44), defBody (top 44), defScope (top 44), [], []⟩
def d__law_few_signs : He.DefD := ⟨("_law_few_signs", none), "_law_few_signs", "_law_few_signs", defArgs (top 45), defBody (top 45), defScope (top 45), [], []⟩
def d__law_word : He.DefD := ⟨("_law_word", none), "_law_word", "_law_word", defArgs (top 46), defBody (top 46), defScope (top 46), [], []⟩
def d__law_reading : He.DefD := ⟨("_law_reading", none), "_law_reading", "_law_reading", defArgs (top 47), defBody (top 47), defScope (top 47), [], []⟩
def d__law_is_span : He.DefD := ⟨("_law_is_span", none), "_law_is_span", "_law_is_span", defArgs (top 48), defBody (top 48), defScope (top 48), [], []⟩
def d__law_read_right : He.DefD := ⟨("_law_read_right", none), "_law_read_right", "_law_read_right", defArgs (top 49), defBody (top 49), defScope (top 49), [], []⟩
def d__law_word_right : He.DefD := ⟨("_law_word_right", none), "_law_word_right", "_law_word_right", defArgs (top 50), defBody (top 50), defScope (top 50), [], []⟩
def d_law : He.DefD := ⟨("law", none), "law", "law", defArgs (top 51), defBody (top 51), defScope (top 51), [], []⟩
def w_Span_read : WfD := ⟨fun K => smAd K (He.ga K "Span") "read", "read", "Span.read", defArgs (inClass (top 30) 5), defBody (inClass (top 30) 5), defScope (inClass (top 30) 5)⟩
def wfH : List WfD := [w_Span_read]
def e_InvalidStretch : ErrD := ⟨"InvalidStretch", "InvalidStretch.__init__", defArgs (inClass (top 4) 0), defBody (inClass (top 4) 0), defScope (inClass (top 4) 0), ["position"]⟩
def e_InvalidSpanText : ErrD := ⟨"InvalidSpanText", "InvalidSpanText.__init__", defArgs (inClass (top 5) 0), defBody (inClass (top 5) 0), defScope (inClass (top 5) 0), ["position"]⟩
def e_InvalidWord : ErrD := ⟨"InvalidWord", "InvalidWord.__init__", defArgs (inClass (top 6) 0), defBody (inClass (top 6) 0), defScope (inClass (top 6) 0), ["word"]⟩
def fnH : List He.DefD := [d_is_number_text, d_content_text, d_read_content, d_stretch_text, d_read_stretch, d_read_stretches, d_is_whole, d_is_content, d_rank, d_low_rank, d_is_stretch, d_merged, d_touches, d_count_of, d_Span___init__, d_Span___str__, d_Span___eq__, d__law_pot, d__law_draw, d__law_number, d__law_drawn_pairs, d__law_has, d__law_starts, d__law_samples, d__law_form, d__law_plain_form, d__law_text, d__law_is_number, d__law_text_part, d__law_odd, d__law_few_signs, d__law_word, d__law_reading, d__law_is_span, d__law_read_right, d__law_word_right, d_law]
def faH : List He.Fa := [.glo "Span", .glo "InvalidStretch", .glo "InvalidSpanText", .glo "InvalidWord", .glo "is_number_text", .glo "content_text", .glo "read_content", .glo "stretch_text", .glo "read_stretch", .glo "read_stretches", .glo "is_whole", .glo "is_content", .glo "rank", .glo "low_rank", .glo "is_stretch", .glo "merged", .glo "touches", .glo "count_of", .glo "_law_pot", .glo "_law_draw", .glo "_law_number", .glo "_law_drawn_pairs", .glo "_law_has", .glo "_law_starts", .glo "_law_samples", .glo "_law_form", .glo "_law_plain_form", .glo "_law_text", .glo "_law_is_number", .glo "_law_text_part", .glo "_law_odd", .glo "_law_few_signs", .glo "_law_word", .glo "_law_reading", .glo "_law_is_span", .glo "_law_read_right", .glo "_law_word_right", .glo "law", .free "ValueError", .free "abs", .free "any", .free "bool", .free "enumerate", .free "int", .free "isinstance", .free "len", .free "list", .free "max", .free "min", .free "range", .free "set", .free "sorted", .free "str", .free "sum", .free "tuple", .free "super", .str "DIGITS" "0123456789", .int "MOST_DIGITS" 60, .glo "KeptError", .meth "Span" "__str__", .meth "Span" "__eq__", .mkr "Span", .exm "InvalidSpanText" "InvalidSpanText" true, .exm "InvalidWord" "InvalidWord" true]
def erH : List ErrD := [e_InvalidStretch, e_InvalidSpanText, e_InvalidWord]
def kiH : List (Str × Str × Bool) := [("Span", "Span", true), ("InvalidSpanText", "InvalidWord", false), ("InvalidSpanText", "InvalidStretch", false), ("InvalidSpanText", "KeptError", true), ("InvalidWord", "InvalidSpanText", false), ("InvalidWord", "KeptError", true)]
def bsH (K : PySem.W.Frag) : Bool := (tuE K (He.dflAt ("Span", some "__init__") 0 K)) && ((smB K (He.ga K "Span") "read") && ((slClsB K (He.ga K "Span") ["stretches", "has_none", "size"]) && ((slIsiB K (He.ga K "Span")) && ((PySem.W.notFirst K (He.ga K "Span") (.ref (He.ga K "Span"))) && ((PySem.W.selfFirst K (He.ga K "Span")) && ((["int", "str", "tuple", "list"].all fun T => PySem.W.notFirst K (He.ga K "Span") (.type T)) && ((["int", "str", "tuple", "list"].all fun T => decide (PySem.W.kitOne K (.type T) (.ref (He.ga K "Span")) = some false)) && ((He.eqO (PySem.W.findIn K (.ref (He.ga K "Span")) "__ne__") (some (some (.builtin "object.__ne__"))))))))))))
abbrev RowH : PySem.W.OpenRow := PySem.W.OpenLaw.row PySem.Challenge.rw_keptbase_k04_spans_read_back
abbrev fileH : Str := PySem.Challenge.pw_keptbase_k04_spans_read_back.main.file
abbrev hkH : PySem.W.Hook := hookY 5 faH fnH erH kiH fileH bsH wfH
def obH (s : PySem.W.SharedT) : AlY := obY 5 faH fnH erH kiH fileH bsH wfH (HandSHeadRun.getT s)
theorem obH_eq (s : PySem.W.SharedT) : obH s = hkH.obs s.abs := obY_eq (HandSHeadRun.getT_eq s)
def looseH0 : List Str := ["_wall", "KeptError", "InvalidContent", "InvalidStretch", "InvalidSpanText", "InvalidWord", "is_number_text", "content_text", "read_content", "stretch_text", "read_stretch", "read_stretches", "is_whole", "is_content", "rank", "low_rank", "is_stretch", "merged", "touches", "common", "later", "sooner", "gaps", "count_of", "clamped", "Span", "_law_pot", "_law_draw", "_law_number", "_law_drawn_pairs"]
def looseH1 : List Str := ["_law_has", "_law_starts", "_law_samples", "_law_form", "_law_plain_form", "_law_text", "_law_is_number", "_law_text_part", "_law_odd", "_law_few_signs", "_law_word", "_law_reading", "_law_is_span", "_law_read_right", "_law_word_right", "MOST_DIGITS", "DIGITS"]
abbrev looseH : List Str := Kb.looseH0 ++ (Kb.looseH1)
theorem runH (w : World) : HandSHeadRun.RunEq RowH (PySem.W.view RowH.prog [51]) hkH obH 9000 looseH w := by
  intro os
  kernel_rfl
theorem in_InvalidStretch : ErrIn (PySem.Challenge.rw_keptbase_k04_spans_read_back).prog e_InvalidStretch fileH where
  top := by kernel_rfl
  file := by kernel_rfl
  body := ⟨_, _, _, _, _, _, _, _, [("position", _, _, _, _)], rfl, rfl, rfl⟩
  self := ⟨_, rfl, rfl⟩
  s1 := by rfl
  s2 := by rfl
  s3 := by rfl
  s4 := fun f hf => by
    simp only [e_InvalidStretch, List.mem_cons, List.not_mem_nil, or_false] at hf
    subst hf
    rfl
  s5 := by rfl
  s6 := by decide +kernel
  s7 := by rfl
  s8 := by rfl
  binds := fun _ _ _ _ _ _ _ _ us hl => match us, hl with | [_], _ => rfl
  f1 := by decide +kernel
  f2 := by decide +kernel
  f3 := by decide +kernel
  f4 := by decide +kernel
theorem in_InvalidSpanText : ErrIn (PySem.Challenge.rw_keptbase_k04_spans_read_back).prog e_InvalidSpanText fileH where
  top := by kernel_rfl
  file := by kernel_rfl
  body := ⟨_, _, _, _, _, _, _, _, [("position", _, _, _, _)], rfl, rfl, rfl⟩
  self := ⟨_, rfl, rfl⟩
  s1 := by rfl
  s2 := by rfl
  s3 := by rfl
  s4 := fun f hf => by
    simp only [e_InvalidSpanText, List.mem_cons, List.not_mem_nil, or_false] at hf
    subst hf
    rfl
  s5 := by rfl
  s6 := by decide +kernel
  s7 := by rfl
  s8 := by rfl
  binds := fun _ _ _ _ _ _ _ _ us hl => match us, hl with | [_], _ => rfl
  f1 := by decide +kernel
  f2 := by decide +kernel
  f3 := by decide +kernel
  f4 := by decide +kernel
theorem in_InvalidWord : ErrIn (PySem.Challenge.rw_keptbase_k04_spans_read_back).prog e_InvalidWord fileH where
  top := by kernel_rfl
  file := by kernel_rfl
  body := ⟨_, _, _, _, _, _, _, _, [("word", _, _, _, _)], rfl, rfl, rfl⟩
  self := ⟨_, rfl, rfl⟩
  s1 := by rfl
  s2 := by rfl
  s3 := by rfl
  s4 := fun f hf => by
    simp only [e_InvalidWord, List.mem_cons, List.not_mem_nil, or_false] at hf
    subst hf
    rfl
  s5 := by rfl
  s6 := by decide +kernel
  s7 := by rfl
  s8 := by rfl
  binds := fun _ _ _ _ _ _ _ _ us hl => match us, hl with | [_], _ => rfl
  f1 := by decide +kernel
  f2 := by decide +kernel
  f3 := by decide +kernel
  f4 := by decide +kernel
theorem factsH {w : World} {K : PySem.W.Frag} {h : Heap} {mg : Str → Option Value} {f : Addr} (X : K.In h) (G : h.Ns mainGlobals mg) (hfa : mg ("law" : Str) = some (.ref f)) (c : SaysY faH fnH erH kiH fileH bsH wfH K) :
    ∃ fd : FuncData, (∀ (s : Shared) (v : Value), BindsTo s fd ⟨[v], []⟩ [("_law_script", v)]) ∧ ∀ base : Heap, K.In base → base.Ns mainGlobals mg → FnOk (PySem.Challenge.rw_keptbase_k04_spans_read_back).prog w K mg base CX0 14 f fd ["_law_script"] (spP K S_law) := by
  have T : Tx K mg (He.ga K "Span") := ⟨slCls_ok (He.ba (He.ba (He.ba c.x.b).2).2).1, slIsi_ok (He.ba (He.ba (He.ba (He.ba c.x.b).2).2).2).1, c.x.kit 0 (q := ("Span", "Span", true)) rfl, He.glo_ok X G (c.x.d.fact 0 (f := .glo "Span") rfl), (He.ba (He.ba (He.ba (He.ba (He.ba (He.ba c.x.b).2).2).2).2).2).1, fun T hT => List.all_eq_true.mp ((He.ba (He.ba (He.ba (He.ba (He.ba (He.ba (He.ba c.x.b).2).2).2).2).2).2).1) T hT, fun T hT => of_decide_eq_true (List.all_eq_true.mp ((He.ba (He.ba (He.ba (He.ba (He.ba (He.ba (He.ba (He.ba c.x.b).2).2).2).2).2).2).2).1) T hT), He.free_ok X G (c.x.d.fact 38 (f := .free "ValueError") rfl), He.free_ok X G (c.x.d.fact 39 (f := .free "abs") rfl), He.free_ok X G (c.x.d.fact 40 (f := .free "any") rfl), He.free_ok X G (c.x.d.fact 41 (f := .free "bool") rfl), He.free_ok X G (c.x.d.fact 42 (f := .free "enumerate") rfl), He.free_ok X G (c.x.d.fact 43 (f := .free "int") rfl), He.free_ok X G (c.x.d.fact 44 (f := .free "isinstance") rfl), He.free_ok X G (c.x.d.fact 45 (f := .free "len") rfl), He.free_ok X G (c.x.d.fact 46 (f := .free "list") rfl), He.free_ok X G (c.x.d.fact 47 (f := .free "max") rfl), He.free_ok X G (c.x.d.fact 48 (f := .free "min") rfl), He.free_ok X G (c.x.d.fact 49 (f := .free "range") rfl), He.free_ok X G (c.x.d.fact 50 (f := .free "set") rfl), He.free_ok X G (c.x.d.fact 51 (f := .free "sorted") rfl), He.free_ok X G (c.x.d.fact 52 (f := .free "str") rfl), He.free_ok X G (c.x.d.fact 53 (f := .free "sum") rfl), He.free_ok X G (c.x.d.fact 54 (f := .free "tuple") rfl)⟩
  have T3 : TxT K mg (He.ga K "Span") := ⟨He.str_ok X G (c.x.d.fact 56 (f := .str "DIGITS" "0123456789") rfl), He.int_ok X G (c.x.d.fact 57 (f := .int "MOST_DIGITS" 60) rfl), ⟨T.si.cm, He.eqO_ok ((He.ba (He.ba (He.ba (He.ba (He.ba (He.ba (He.ba (He.ba c.x.b).2).2).2).2).2).2).2).2)⟩⟩
  obtain ⟨t_InvalidStretch, r_InvalidStretch, x_InvalidStretch⟩ := ErrD.facts (P := (PySem.Challenge.rw_keptbase_k04_spans_read_back).prog) X G (c.x.d.fact 1 (f := .glo "InvalidStretch") rfl) (c.x.d.fact 55 (f := .free "super") rfl) in_InvalidStretch (c.x.erd 0 (d := e_InvalidStretch) rfl)
  obtain ⟨t_InvalidSpanText, r_InvalidSpanText, x_InvalidSpanText⟩ := ErrD.facts (P := (PySem.Challenge.rw_keptbase_k04_spans_read_back).prog) X G (c.x.d.fact 2 (f := .glo "InvalidSpanText") rfl) (c.x.d.fact 55 (f := .free "super") rfl) in_InvalidSpanText (c.x.erd 1 (d := e_InvalidSpanText) rfl)
  obtain ⟨t_InvalidWord, r_InvalidWord, x_InvalidWord⟩ := ErrD.facts (P := (PySem.Challenge.rw_keptbase_k04_spans_read_back).prog) X G (c.x.d.fact 3 (f := .glo "InvalidWord") rfl) (c.x.d.fact 55 (f := .free "super") rfl) in_InvalidWord (c.x.erd 2 (d := e_InvalidWord) rfl)
  have T2 : TxE (PySem.Challenge.rw_keptbase_k04_spans_read_back).prog K mg (He.ga K "InvalidStretch") (He.ga K "InvalidSpanText") (He.ga K "InvalidWord") (He.ga K "KeptError") (eInit K "InvalidStretch") (eInit K "InvalidSpanText") (eInit K "InvalidWord") := ⟨t_InvalidStretch, t_InvalidSpanText, t_InvalidWord, r_InvalidSpanText "position" (by decide +kernel), r_InvalidWord "word" (by decide +kernel), x_InvalidSpanText, x_InvalidWord, He.glo_ok X G (c.x.d.fact 58 (f := .glo "KeptError") rfl), He.exm_ok (c.x.d.fact 62 (f := .exm "InvalidSpanText" "InvalidSpanText" true) rfl), He.exm_ok (c.x.d.fact 63 (f := .exm "InvalidWord" "InvalidWord" true) rfl), c.x.kit 1 (q := ("InvalidSpanText", "InvalidWord", false)) rfl, c.x.kit 2 (q := ("InvalidSpanText", "InvalidStretch", false)) rfl, c.x.kit 3 (q := ("InvalidSpanText", "KeptError", true)) rfl, c.x.kit 4 (q := ("InvalidWord", "InvalidSpanText", false)) rfl, c.x.kit 5 (q := ("InvalidWord", "KeptError", true)) rfl⟩
  obtain ⟨fd_is_number_text, F_is_number_text⟩ := c.x.d.def_ 0 (d := d_is_number_text) rfl
  obtain ⟨fd_content_text, F_content_text⟩ := c.x.d.def_ 1 (d := d_content_text) rfl
  obtain ⟨fd_read_content, F_read_content⟩ := c.x.d.def_ 2 (d := d_read_content) rfl
  obtain ⟨fd_stretch_text, F_stretch_text⟩ := c.x.d.def_ 3 (d := d_stretch_text) rfl
  obtain ⟨fd_read_stretch, F_read_stretch⟩ := c.x.d.def_ 4 (d := d_read_stretch) rfl
  obtain ⟨fd_read_stretches, F_read_stretches⟩ := c.x.d.def_ 5 (d := d_read_stretches) rfl
  obtain ⟨fd_is_whole, F_is_whole⟩ := c.x.d.def_ 6 (d := d_is_whole) rfl
  obtain ⟨fd_is_content, F_is_content⟩ := c.x.d.def_ 7 (d := d_is_content) rfl
  obtain ⟨fd_rank, F_rank⟩ := c.x.d.def_ 8 (d := d_rank) rfl
  obtain ⟨fd_low_rank, F_low_rank⟩ := c.x.d.def_ 9 (d := d_low_rank) rfl
  obtain ⟨fd_is_stretch, F_is_stretch⟩ := c.x.d.def_ 10 (d := d_is_stretch) rfl
  obtain ⟨fd_merged, F_merged⟩ := c.x.d.def_ 11 (d := d_merged) rfl
  obtain ⟨fd_touches, F_touches⟩ := c.x.d.def_ 12 (d := d_touches) rfl
  obtain ⟨fd_count_of, F_count_of⟩ := c.x.d.def_ 13 (d := d_count_of) rfl
  obtain ⟨fd_Span___init__, F_Span___init__⟩ := c.x.d.def_ 14 (d := d_Span___init__) rfl
  obtain ⟨fd_Span___str__, F_Span___str__⟩ := c.x.d.def_ 15 (d := d_Span___str__) rfl
  obtain ⟨fd_Span___eq__, F_Span___eq__⟩ := c.x.d.def_ 16 (d := d_Span___eq__) rfl
  obtain ⟨fd__law_pot, F__law_pot⟩ := c.x.d.def_ 17 (d := d__law_pot) rfl
  obtain ⟨fd__law_draw, F__law_draw⟩ := c.x.d.def_ 18 (d := d__law_draw) rfl
  obtain ⟨fd__law_number, F__law_number⟩ := c.x.d.def_ 19 (d := d__law_number) rfl
  obtain ⟨fd__law_drawn_pairs, F__law_drawn_pairs⟩ := c.x.d.def_ 20 (d := d__law_drawn_pairs) rfl
  obtain ⟨fd__law_has, F__law_has⟩ := c.x.d.def_ 21 (d := d__law_has) rfl
  obtain ⟨fd__law_starts, F__law_starts⟩ := c.x.d.def_ 22 (d := d__law_starts) rfl
  obtain ⟨fd__law_samples, F__law_samples⟩ := c.x.d.def_ 23 (d := d__law_samples) rfl
  obtain ⟨fd__law_form, F__law_form⟩ := c.x.d.def_ 24 (d := d__law_form) rfl
  obtain ⟨fd__law_plain_form, F__law_plain_form⟩ := c.x.d.def_ 25 (d := d__law_plain_form) rfl
  obtain ⟨fd__law_text, F__law_text⟩ := c.x.d.def_ 26 (d := d__law_text) rfl
  obtain ⟨fd__law_is_number, F__law_is_number⟩ := c.x.d.def_ 27 (d := d__law_is_number) rfl
  obtain ⟨fd__law_text_part, F__law_text_part⟩ := c.x.d.def_ 28 (d := d__law_text_part) rfl
  obtain ⟨fd__law_odd, F__law_odd⟩ := c.x.d.def_ 29 (d := d__law_odd) rfl
  obtain ⟨fd__law_few_signs, F__law_few_signs⟩ := c.x.d.def_ 30 (d := d__law_few_signs) rfl
  obtain ⟨fd__law_word, F__law_word⟩ := c.x.d.def_ 31 (d := d__law_word) rfl
  obtain ⟨fd__law_reading, F__law_reading⟩ := c.x.d.def_ 32 (d := d__law_reading) rfl
  obtain ⟨fd__law_is_span, F__law_is_span⟩ := c.x.d.def_ 33 (d := d__law_is_span) rfl
  obtain ⟨fd__law_read_right, F__law_read_right⟩ := c.x.d.def_ 34 (d := d__law_read_right) rfl
  obtain ⟨fd__law_word_right, F__law_word_right⟩ := c.x.d.def_ 35 (d := d__law_word_right) rfl
  obtain ⟨fd_law, F_law⟩ := c.x.d.def_ 36 (d := d_law) rfl
  obtain ⟨fd_Span_read, F_Span_read⟩ := c.wfd 0 (d := w_Span_read) rfl
  have e := hfa.symm.trans (He.glo_ok X G (c.x.d.fact 37 (f := .glo "law") rfl))
  cases e
  have b := FunD.bindsA (ps := ["_law_script"]) F_law fun _ _ _ _ _ _ us hl => match us, hl with | [_], _ => rfl
  refine ⟨fd_law, fun s v => b s [v] rfl, fun base _ _ => ?_⟩
  have D_is_whole : Df (PySem.Challenge.rw_keptbase_k04_spans_read_back).prog w K mg base "is_whole" 3 (spP K S_whole) := ⟨_, _, _, ok_whole F_is_whole T , He.glo_ok X G (c.x.d.fact 10 (f := .glo "is_whole") rfl), F_is_whole.kp, (FunD.bindsN F_is_whole fun _ _ _ _ _ _ us hl => match us, hl with | [_], _ => rfl)⟩
  have D_is_content : Df (PySem.Challenge.rw_keptbase_k04_spans_read_back).prog w K mg base "is_content" 4 (spP K S_content) := ⟨_, _, _, ok_content F_is_content T D_is_whole, He.glo_ok X G (c.x.d.fact 11 (f := .glo "is_content") rfl), F_is_content.kp, (FunD.bindsN F_is_content fun _ _ _ _ _ _ us hl => match us, hl with | [_], _ => rfl)⟩
  have D_rank : Df (PySem.Challenge.rw_keptbase_k04_spans_read_back).prog w K mg base "rank" 3 (spP K S_rank) := ⟨_, _, _, ok_rank F_rank T , He.glo_ok X G (c.x.d.fact 12 (f := .glo "rank") rfl), F_rank.kp, (FunD.bindsN F_rank fun _ _ _ _ _ _ us hl => match us, hl with | [_], _ => rfl)⟩
  have D_low_rank : Df (PySem.Challenge.rw_keptbase_k04_spans_read_back).prog w K mg base "low_rank" 4 (spP K S_lowrank) := ⟨_, _, _, ok_lowrank F_low_rank T D_rank, He.glo_ok X G (c.x.d.fact 13 (f := .glo "low_rank") rfl), F_low_rank.kp, (FunD.bindsN F_low_rank fun _ _ _ _ _ _ us hl => match us, hl with | [_], _ => rfl)⟩
  have D_is_stretch : Df (PySem.Challenge.rw_keptbase_k04_spans_read_back).prog w K mg base "is_stretch" 5 (spP K S_stretch) := ⟨_, _, _, ok_stretch F_is_stretch T D_is_content, He.glo_ok X G (c.x.d.fact 14 (f := .glo "is_stretch") rfl), F_is_stretch.kp, (FunD.bindsN F_is_stretch fun _ _ _ _ _ _ us hl => match us, hl with | [_], _ => rfl)⟩
  have D_touches : Df (PySem.Challenge.rw_keptbase_k04_spans_read_back).prog w K mg base "touches" 3 (spP K S_touches) := ⟨_, _, _, ok_touches F_touches T , He.glo_ok X G (c.x.d.fact 16 (f := .glo "touches") rfl), F_touches.kp, (FunD.bindsN F_touches fun _ _ _ _ _ _ us hl => match us, hl with | [_, _], _ => rfl)⟩
  have D_merged : Df (PySem.Challenge.rw_keptbase_k04_spans_read_back).prog w K mg base "merged" 7 (spP K S_merged) := ⟨_, _, _, ok_merged F_merged T D_low_rank D_touches, He.glo_ok X G (c.x.d.fact 15 (f := .glo "merged") rfl), F_merged.kp, (FunD.bindsN F_merged fun _ _ _ _ _ _ us hl => match us, hl with | [_], _ => rfl)⟩
  have D_count_of : Df (PySem.Challenge.rw_keptbase_k04_spans_read_back).prog w K mg base "count_of" 3 (spP K S_count) := ⟨_, _, _, ok_count F_count_of T , He.glo_ok X G (c.x.d.fact 17 (f := .glo "count_of") rfl), F_count_of.kp, (FunD.bindsN F_count_of fun _ _ _ _ _ _ us hl => match us, hl with | [_], _ => rfl)⟩
  obtain ⟨its_Span_1_has_none, mv_Span_1_has_none, b_Span_1_has_none⟩ := FunD.kbinds (ps := ["self", "pairs", "has_none"]) F_Span___init__ 2 ["has_none"] ([] : List (Str × V)) (fun {α} us its mv ws => us ++ ws) (by simp [d_Span___init__, He.DefD.dvs]) (by simp [d_Span___init__, He.DefD.kws]) (by simp [d_Span___init__, He.DefD.kws, He.Dv.v]) (fun r1 _ _ r4 => r1.append r4) fun _ _ _ _ _ _ _ us its mv ws hl h1 h2 h3 => match us, hl, its, h1, mv, h2, ws, h3 with | [_, _], _, [_], _, [], _, [_], _ => ⟨_, rfl, rfl⟩
  have D_Span_1_has_none : DcL (PySem.Challenge.rw_keptbase_k04_spans_read_back).prog w K mg base "Span" (He.ga K "Span") 9 (S_initL (He.ga K "InvalidStretch")) 1 ["has_none"] (fun as bs => as ++ bs) := ⟨_, _, _, _, _, ok_initL F_Span___init__ T T2 D_is_stretch D_merged D_count_of, He.mkr_ok (c.x.d.fact 61 (f := .mkr "Span") rfl), He.glo_ok X G (c.x.d.fact 0 (f := .glo "Span") rfl), b_Span_1_has_none, arg_kw⟩
  have D_Span___eq__ : DmE (PySem.Challenge.rw_keptbase_k04_spans_read_back).prog w K mg base (He.ga K "Span") 3 (S_eq (He.ga K "Span")) := ⟨_, _, _, ok_eq F_Span___eq__ T , (He.meth_ok (c.x.d.fact 60 (f := .meth "Span" "__eq__") rfl)).at_, (He.meth_ok (c.x.d.fact 60 (f := .meth "Span" "__eq__") rfl)).fn, (FunD.bindsN F_Span___eq__ fun _ _ _ _ _ _ us hl => match us, hl with | [_, _], _ => rfl), (He.ba (He.ba (He.ba (He.ba (He.ba c.x.b).2).2).2).2).1⟩
  have D_is_number_text : Df (PySem.Challenge.rw_keptbase_k04_spans_read_back).prog w K mg base "is_number_text" 3 (spP K S_isnum) := ⟨_, _, _, ok_isnum F_is_number_text T T3, He.glo_ok X G (c.x.d.fact 4 (f := .glo "is_number_text") rfl), F_is_number_text.kp, (FunD.bindsN F_is_number_text fun _ _ _ _ _ _ us hl => match us, hl with | [_], _ => rfl)⟩
  have D_content_text : Df (PySem.Challenge.rw_keptbase_k04_spans_read_back).prog w K mg base "content_text" 3 (spP K S_ctext) := ⟨_, _, _, ok_ctext F_content_text T , He.glo_ok X G (c.x.d.fact 5 (f := .glo "content_text") rfl), F_content_text.kp, (FunD.bindsN F_content_text fun _ _ _ _ _ _ us hl => match us, hl with | [_], _ => rfl)⟩
  have D_read_content : DfX (PySem.Challenge.rw_keptbase_k04_spans_read_back).prog w K mg base "read_content" 4 (spX K (S_rcont (He.ga K "InvalidWord"))) := ⟨_, _, _, ok_rcont F_read_content T T2 D_is_number_text, He.glo_ok X G (c.x.d.fact 6 (f := .glo "read_content") rfl), F_read_content.kp, (FunD.bindsN F_read_content fun _ _ _ _ _ _ us hl => match us, hl with | [_], _ => rfl)⟩
  have D_stretch_text : Df (PySem.Challenge.rw_keptbase_k04_spans_read_back).prog w K mg base "stretch_text" 3 (spP K S_stext) := ⟨_, _, _, ok_stext F_stretch_text T , He.glo_ok X G (c.x.d.fact 7 (f := .glo "stretch_text") rfl), F_stretch_text.kp, (FunD.bindsN F_stretch_text fun _ _ _ _ _ _ us hl => match us, hl with | [_, _], _ => rfl)⟩
  have D_read_stretch : Df (PySem.Challenge.rw_keptbase_k04_spans_read_back).prog w K mg base "read_stretch" 4 (spP K S_rst) := ⟨_, _, _, ok_rst F_read_stretch T D_is_number_text, He.glo_ok X G (c.x.d.fact 8 (f := .glo "read_stretch") rfl), F_read_stretch.kp, (FunD.bindsN F_read_stretch fun _ _ _ _ _ _ us hl => match us, hl with | [_], _ => rfl)⟩
  have D_read_stretches : DfX (PySem.Challenge.rw_keptbase_k04_spans_read_back).prog w K mg base "read_stretches" 5 (spX K (S_rsts (He.ga K "InvalidSpanText"))) := ⟨_, _, _, ok_rsts F_read_stretches T T2 D_read_stretch, He.glo_ok X G (c.x.d.fact 9 (f := .glo "read_stretches") rfl), F_read_stretches.kp, (FunD.bindsN F_read_stretches fun _ _ _ _ _ _ us hl => match us, hl with | [_], _ => rfl)⟩
  have D_Span_read : DsA (PySem.Challenge.rw_keptbase_k04_spans_read_back).prog w K mg base "Span" (He.ga K "Span") "read" 11 (S_read (He.ga K "Span") (He.ga K "InvalidSpanText")) := ⟨⟨_, sm_ok ((He.ba (He.ba c.x.b).2).1), (FnOk.raw (ok_read F_Span_read T T2 D_read_stretches D_Span_1_has_none) (FunD.bindsN F_Span_read fun _ _ _ _ _ _ us hl => match us, hl with | [_], _ => rfl) .nil).imp fun vs H Q E z => by rw [List.append_nil]; exact z, He.glo_ok X G (c.x.d.fact 0 (f := .glo "Span") rfl)⟩⟩
  have D_Span___str__ : DmO (PySem.Challenge.rw_keptbase_k04_spans_read_back).prog w K mg base (He.ga K "Span") "__str__" 4 (S_sstr (He.ga K "Span")) := ⟨_, _, _, ok_sstr F_Span___str__ T D_stretch_text, (He.meth_ok (c.x.d.fact 59 (f := .meth "Span" "__str__") rfl)).at_, (He.meth_ok (c.x.d.fact 59 (f := .meth "Span" "__str__") rfl)).fn, (FunD.bindsN F_Span___str__ fun _ _ _ _ _ _ us hl => match us, hl with | [_], _ => rfl)⟩
  have D__law_pot : Df (PySem.Challenge.rw_keptbase_k04_spans_read_back).prog w K mg base "_law_pot" 3 (spP K S_pot) := ⟨_, _, _, ok_pot F__law_pot T , He.glo_ok X G (c.x.d.fact 18 (f := .glo "_law_pot") rfl), F__law_pot.kp, (FunD.bindsN F__law_pot fun _ _ _ _ _ _ us hl => match us, hl with | [_, _], _ => rfl)⟩
  have D__law_draw : DfM (PySem.Challenge.rw_keptbase_k04_spans_read_back).prog w K mg base "_law_draw" 3 S_draw := ⟨⟨_, _, _, ok_draw F__law_draw T , He.glo_ok X G (c.x.d.fact 19 (f := .glo "_law_draw") rfl), F__law_draw.kp, (FunD.bindsN F__law_draw fun _ _ _ _ _ _ us hl => match us, hl with | [_, _], _ => rfl)⟩⟩
  have D__law_number : DfM (PySem.Challenge.rw_keptbase_k04_spans_read_back).prog w K mg base "_law_number" 4 S_number := ⟨⟨_, _, _, ok_number F__law_number T D__law_draw, He.glo_ok X G (c.x.d.fact 20 (f := .glo "_law_number") rfl), F__law_number.kp, (FunD.bindsN F__law_number fun _ _ _ _ _ _ us hl => match us, hl with | [_], _ => rfl)⟩⟩
  have D__law_drawn_pairs : DfM (PySem.Challenge.rw_keptbase_k04_spans_read_back).prog w K mg base "_law_drawn_pairs" 5 S_pairs := ⟨⟨_, _, _, ok_pairs F__law_drawn_pairs T D__law_draw D__law_number, He.glo_ok X G (c.x.d.fact 21 (f := .glo "_law_drawn_pairs") rfl), F__law_drawn_pairs.kp, (FunD.bindsN F__law_drawn_pairs fun _ _ _ _ _ _ us hl => match us, hl with | [_], _ => rfl)⟩⟩
  have D__law_has : Df (PySem.Challenge.rw_keptbase_k04_spans_read_back).prog w K mg base "_law_has" 3 (spP K S_has) := ⟨_, _, _, ok_has F__law_has T , He.glo_ok X G (c.x.d.fact 22 (f := .glo "_law_has") rfl), F__law_has.kp, (FunD.bindsN F__law_has fun _ _ _ _ _ _ us hl => match us, hl with | [_, _], _ => rfl)⟩
  have D__law_starts : Df (PySem.Challenge.rw_keptbase_k04_spans_read_back).prog w K mg base "_law_starts" 3 (spP K S_starts) := ⟨_, _, _, ok_starts F__law_starts T , He.glo_ok X G (c.x.d.fact 23 (f := .glo "_law_starts") rfl), F__law_starts.kp, (FunD.bindsN F__law_starts fun _ _ _ _ _ _ us hl => match us, hl with | [_], _ => rfl)⟩
  have D__law_samples : Df (PySem.Challenge.rw_keptbase_k04_spans_read_back).prog w K mg base "_law_samples" 3 (spP K S_samples) := ⟨_, _, _, ok_samples F__law_samples T , He.glo_ok X G (c.x.d.fact 24 (f := .glo "_law_samples") rfl), F__law_samples.kp, (FunD.bindsN F__law_samples fun _ _ _ _ _ _ us hl => match us, hl with | [_], _ => rfl)⟩
  have D__law_form : Df (PySem.Challenge.rw_keptbase_k04_spans_read_back).prog w K mg base "_law_form" 3 (spP K S_form) := ⟨_, _, _, ok_form F__law_form T , He.glo_ok X G (c.x.d.fact 25 (f := .glo "_law_form") rfl), F__law_form.kp, (FunD.bindsN F__law_form fun _ _ _ _ _ _ us hl => match us, hl with | [_, _], _ => rfl)⟩
  have D__law_plain_form : Df (PySem.Challenge.rw_keptbase_k04_spans_read_back).prog w K mg base "_law_plain_form" 4 (spP K S_plain) := ⟨_, _, _, ok_plain F__law_plain_form T D__law_starts D__law_form D__law_has D__law_samples, He.glo_ok X G (c.x.d.fact 26 (f := .glo "_law_plain_form") rfl), F__law_plain_form.kp, (FunD.bindsN F__law_plain_form fun _ _ _ _ _ _ us hl => match us, hl with | [_], _ => rfl)⟩
  have D__law_text : Df (PySem.Challenge.rw_keptbase_k04_spans_read_back).prog w K mg base "_law_text" 5 (spP K S_ltext) := ⟨_, _, _, ok_ltext F__law_text T D__law_plain_form, He.glo_ok X G (c.x.d.fact 27 (f := .glo "_law_text") rfl), F__law_text.kp, (FunD.bindsN F__law_text fun _ _ _ _ _ _ us hl => match us, hl with | [_], _ => rfl)⟩
  have D__law_is_number : Df (PySem.Challenge.rw_keptbase_k04_spans_read_back).prog w K mg base "_law_is_number" 3 (spP K S_lnum) := ⟨_, _, _, ok_lnum F__law_is_number T , He.glo_ok X G (c.x.d.fact 28 (f := .glo "_law_is_number") rfl), F__law_is_number.kp, (FunD.bindsN F__law_is_number fun _ _ _ _ _ _ us hl => match us, hl with | [_], _ => rfl)⟩
  have D__law_text_part : Df (PySem.Challenge.rw_keptbase_k04_spans_read_back).prog w K mg base "_law_text_part" 4 (spP K S_ltp) := ⟨_, _, _, ok_ltp F__law_text_part T D__law_is_number, He.glo_ok X G (c.x.d.fact 29 (f := .glo "_law_text_part") rfl), F__law_text_part.kp, (FunD.bindsN F__law_text_part fun _ _ _ _ _ _ us hl => match us, hl with | [_], _ => rfl)⟩
  have D__law_odd : Df (PySem.Challenge.rw_keptbase_k04_spans_read_back).prog w K mg base "_law_odd" 3 (spP K S_lodd) := ⟨_, _, _, ok_lodd F__law_odd T , He.glo_ok X G (c.x.d.fact 30 (f := .glo "_law_odd") rfl), F__law_odd.kp, (FunD.bindsN F__law_odd fun _ _ _ _ _ _ us hl => match us, hl with | [], _ => rfl)⟩
  have D__law_few_signs : DfM (PySem.Challenge.rw_keptbase_k04_spans_read_back).prog w K mg base "_law_few_signs" 4 S_few := ⟨⟨_, _, _, ok_few F__law_few_signs T D__law_draw, He.glo_ok X G (c.x.d.fact 31 (f := .glo "_law_few_signs") rfl), F__law_few_signs.kp, (FunD.bindsN F__law_few_signs fun _ _ _ _ _ _ us hl => match us, hl with | [_], _ => rfl)⟩⟩
  have D__law_word : DfM (PySem.Challenge.rw_keptbase_k04_spans_read_back).prog w K mg base "_law_word" 5 S_word := ⟨⟨_, _, _, ok_word F__law_word T D__law_draw D__law_number D__law_odd D__law_few_signs, He.glo_ok X G (c.x.d.fact 32 (f := .glo "_law_word") rfl), F__law_word.kp, (FunD.bindsN F__law_word fun _ _ _ _ _ _ us hl => match us, hl with | [_, _], _ => rfl)⟩⟩
  have D__law_reading : Df (PySem.Challenge.rw_keptbase_k04_spans_read_back).prog w K mg base "_law_reading" 12 (spP K (S_lread (He.ga K "Span"))) := ⟨_, _, _, ok_lread F__law_reading T T2 D_Span_read, He.glo_ok X G (c.x.d.fact 33 (f := .glo "_law_reading") rfl), F__law_reading.kp, (FunD.bindsN F__law_reading fun _ _ _ _ _ _ us hl => match us, hl with | [_], _ => rfl)⟩
  have D__law_is_span : Df (PySem.Challenge.rw_keptbase_k04_spans_read_back).prog w K mg base "_law_is_span" 7 (spP K (S_lisspan (He.ga K "Span"))) := ⟨_, _, _, ok_lisspan F__law_is_span T D__law_plain_form D_Span___str__ D__law_text, He.glo_ok X G (c.x.d.fact 34 (f := .glo "_law_is_span") rfl), F__law_is_span.kp, (FunD.bindsN F__law_is_span fun _ _ _ _ _ _ us hl => match us, hl with | [_, _], _ => rfl)⟩
  have D__law_read_right : Df (PySem.Challenge.rw_keptbase_k04_spans_read_back).prog w K mg base "_law_read_right" 13 (spP K S_rdright) := ⟨_, _, _, ok_rdright F__law_read_right T D__law_reading D__law_text_part D__law_is_span D_Span___str__ D_Span___eq__, He.glo_ok X G (c.x.d.fact 35 (f := .glo "_law_read_right") rfl), F__law_read_right.kp, (FunD.bindsN F__law_read_right fun _ _ _ _ _ _ us hl => match us, hl with | [_], _ => rfl)⟩
  have D__law_word_right : Df (PySem.Challenge.rw_keptbase_k04_spans_read_back).prog w K mg base "_law_word_right" 5 (spP K S_wright) := ⟨_, _, _, ok_wright F__law_word_right T T2 D_is_number_text D__law_is_number D_read_content D_content_text, He.glo_ok X G (c.x.d.fact 36 (f := .glo "_law_word_right") rfl), F__law_word_right.kp, (FunD.bindsN F__law_word_right fun _ _ _ _ _ _ us hl => match us, hl with | [_], _ => rfl)⟩
  exact ok_law F_law T T3 D__law_pot D__law_draw D__law_number D__law_drawn_pairs D_Span_1_has_none D__law_is_span D__law_reading D_Span___str__ D_Span___eq__ D__law_word D__law_few_signs D__law_odd D__law_read_right D__law_word_right D_content_text
end Kb
open PySem PySem.W PySem.Calls PyProof.Rows
theorem PySem.Challenge.cw_keptbase_k04_spans_read_back_holds : PySem.Challenge.rw_keptbase_k04_spans_read_back.Holds := by
  w_on; o_law
  refine HandSHeadRun.head_any (r := OpenLaw.row PySem.Challenge.rw_keptbase_k04_spans_read_back) (q := view (OpenLaw.row PySem.Challenge.rw_keptbase_k04_spans_read_back).prog [51]) (H := Kb.hkH) (ob := Kb.obH) (M := 9000) (loose := Kb.looseH) (d := HandSHeadRun.topDef (OpenLaw.row PySem.Challenge.rw_keptbase_k04_spans_read_back).prog 51) (kwd := []) Kb.obH_eq
    (by kernel_rfl) (fun s => by kernel_rfl) Kb.runH (by kernel_rfl) (by kernel_rfl) (by kernel_rfl) (by rfl) (by first | assumption | decide +kernel) (by decide +kernel) ⟨rfl, rfl, rfl, rfl, rfl, by decide +kernel⟩ ?hw ?hc
  case hw => w_witness2
  case hc =>
    refine L2.walk_ofE (l := PySem.Challenge.rw_keptbase_k04_spans_read_back) (n := 63) (k := 14) (x := "_law_script") (CX := L2.CX0) rfl (by decide) (by kernel_rfl) ⟨rfl, by decide, by decide⟩ ?F (fun _ _ _ _ z => z)
    intro w mg fa h Y G hmg0
    obtain ⟨K, KX, c⟩ := Y
    have hmg : mg ("law" : PySem.Str) = some (.ref fa) := by
      have e : (HandSHeadRun.topDef (OpenLaw.row PySem.Challenge.rw_keptbase_k04_spans_read_back).prog 51).name = ("law" : PySem.Str) := by kernel_rfl
      rw [← e]
      exact hmg0
    obtain ⟨fd, hb, hF⟩ := Kb.factsH (w := w) KX G hmg c
    refine ⟨K, fd, Kb.spP K Kb.S_law, KX, hb, fun H a ns hl _ hS => ?_, hF⟩
    exact Kb.law_start hS

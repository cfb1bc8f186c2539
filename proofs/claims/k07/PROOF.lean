import PyProof.Rows.All
import Wide.All
import OpenK.AllK
import Wide.FinOn
import HandS.Call
import HandS.List
import HandS.Comp
import HandS.Iter
import HandS.More
import HandS.Exc
import HandS.ExcOwn
import HandS.TupAny
import HandS.TupMul
import HandS.Wide
import HandS.Deep
import HandS.IsInst
import HandS.Conv
import HandS.SortInts
import HandS.CallSlots
import HandS.Property
import HandS.ClsMeth
import HandS.Strs
import HandS.SortRule
import KE.GoesNew
import HandS.Zip
import PyProof.Rows.TupIter
import HandS.Style
import HandS.WordsExc
import HandS.New
import HandS.SetFor
import HandS.GenList
import HandS.Defaults
import PySem.Challenge.RW_borrowedmugs_k07_first_difference
set_option Elab.async false
set_option linter.all false
set_option maxRecDepth 100000
set_option maxHeartbeats 4000000
namespace Dv
open PySem PySem.Spec PyProof.Rows L2

/-! ### data -/
inductive D where
  | non | bl (b : Bool) | int (i : Int) | str (x : Str)
  | tup (xs : List D) | lst (xs : List D) | ext (xs : List D) | obj (c : Nat) (xs : List D) | res (k : Nat)
  deriving Inhabited
/-- what is changed: a list, an instance -/
inductive R where
  | lst (xs : List D) | obj (c : Nat) (fs : List (Str × D))
/-- an exception: its class, its attributes -/
structure Exn where
  c : Nat
  fs : Option (List (Str × D))
inductive Rs where
  | ok (d : D) (m : List R) | ex (x : Exn) (m : List R)
abbrev Ro := List (Option D)

/-- what is fixed: the written part, the classes, the attributes of frozen instances -/
structure Tb where
  K : PySem.W.Frag
  cl : Nat → Addr
  nm : Nat → List Str

structure Wd where
  H : Hp
  Hs : Hp
  al : List Addr

/-- a tuple's object as the library lays it -/
def PTo (o : Obj) : Prop := ∃ its : List Value, o = { cls := .type "tuple", data := .seq its.toArray }
def SqN (Hs : Hp) (a : Addr) (vs : List V) : Prop := ∃ o, Hs a = some (.frz o (.tup vs)) ∧ PTo o
theorem SqN.sqT {K : PySem.W.Frag} {H : Hp} {a : Addr} {vs : List V} (h : SqN H a vs) : SqT K H a vs := let ⟨o, e, _⟩ := h; .inl (.inr ⟨o, e⟩)
section
variable (T : Tb) (Hs : Hp) (al : List Addr)
mutual
inductive Rep : V → D → Prop
  | non : Rep .non .non
  | bl (b : Bool) : Rep (.bl b) (.bl b)
  | int (i : Int) : Rep (.int i) (.int i)
  | str (x : Str) : Rep (.str x) (.str x)
  | tup {a : Addr} {vs : List V} {xs : List D} : SqN Hs a vs → RepL vs xs → Rep (.ref a) (.tup xs)
  | lst {a : Addr} {vs : List V} {xs : List D} : Hs a = some (.lst vs) → RepL vs xs → Rep (.ref a) (.lst xs)
  | ext {a : Addr} {vs : List V} {xs : List D} : SqL T.K Hs a vs → RepL vs xs → Rep (.ref a) (.ext xs)
  | obj {a dx : Addr} {c : Nat} {vfs : List (Str × V)} {xs : List D} : Hs a = some (.ins (T.cl c) dx vfs) → vfs.map (·.1) = T.nm c → RepL (vfs.map (·.2)) xs → Rep (.ref a) (.obj c xs)
  | res {a : Addr} {k : Nat} : al[k]? = some a → Rep (.ref a) (.res k)
inductive RepL : List V → List D → Prop
  | nil : RepL [] []
  | cons {v : V} {d : D} {vs : List V} {ds : List D} : Rep v d → RepL vs ds → RepL (v :: vs) (d :: ds)
end
end

def Le (H H' : Hp) : Prop := ∀ a o, H a = some o → H' a = some o
theorem Le.refl (H : Hp) : Le H H := fun _ _ h => h
theorem Le.trans {A B C : Hp} (h : Le A B) (k : Le B C) : Le A C := fun a o e => k a o (h a o e)
theorem Le.rd {H H' : Hp} (h : Le H H') {a : Addr} {u : HO} (r : Rd H a u) : Rd H' a u := by
  rcases r with r | ⟨o, r⟩
  · exact .inl (h _ _ r)
  · exact .inr ⟨o, h _ _ r⟩
theorem Le.sqT {H H' : Hp} (h : Le H H') {K : PySem.W.Frag} {a : Addr} {vs : List V} (r : SqT K H a vs) : SqT K H' a vs := by
  rcases r with r | r
  · exact .inl (h.rd r)
  · exact .inr r
theorem Le.sqN {H H' : Hp} (h : Le H H') {a : Addr} {vs : List V} (r : SqN H a vs) : SqN H' a vs := let ⟨o, e, p⟩ := r; ⟨o, h _ _ e, p⟩
theorem Le.sqL {H H' : Hp} (h : Le H H') {K : PySem.W.Frag} {a : Addr} {vs : List V} (r : SqL K H a vs) : SqL K H' a vs := by
  rcases r with r | r
  · exact .inl (h.rd r)
  · exact .inr r
def LeA (al al' : List Addr) : Prop := ∀ (k : Nat) a, al[k]? = some a → al'[k]? = some a
theorem LeA.refl (al : List Addr) : LeA al al := fun _ _ h => h
theorem LeA.trans {A B C : List Addr} (h : LeA A B) (k : LeA B C) : LeA A C := fun a o e => k a o (h a o e)
theorem LeA.app (al l : List Addr) : LeA al (al ++ l) := fun k a e => by
  rw [List.getElem?_append_left (List.getElem?_eq_some_iff.mp e).1]; exact e

mutual
theorem Rep.mono {T : Tb} {Hs Hs' : Hp} {al al' : List Addr} (h : Le Hs Hs') (ha : LeA al al') : ∀ {v : V} {d : D}, Rep T Hs al v d → Rep T Hs' al' v d
  | _, _, .non => .non
  | _, _, .bl b => .bl b
  | _, _, .int b => .int b
  | _, _, .str b => .str b
  | _, _, .tup s r => .tup (h.sqN s) (RepL.mono h ha r)
  | _, _, .lst s r => .lst (h _ _ s) (RepL.mono h ha r)
  | _, _, .ext s r => .ext (h.sqL s) (RepL.mono h ha r)
  | _, _, .obj s n r => .obj (h _ _ s) n (RepL.mono h ha r)
  | _, _, .res e => .res (ha _ _ e)
theorem RepL.mono {T : Tb} {Hs Hs' : Hp} {al al' : List Addr} (h : Le Hs Hs') (ha : LeA al al') : ∀ {v : List V} {d : List D}, RepL T Hs al v d → RepL T Hs' al' v d
  | _, _, .nil => .nil
  | _, _, .cons r t => .cons (Rep.mono h ha r) (RepL.mono h ha t)
end
section
variable {T : Tb} {Hs : Hp} {al : List Addr}
theorem RepL.length : ∀ {vs : List V} {ds : List D}, RepL T Hs al vs ds → vs.length = ds.length
  | _, _, .nil => rfl
  | _, _, .cons _ t => by rw [List.length_cons, List.length_cons, t.length]
theorem RepL.get : ∀ {vs : List V} {ds : List D} {i : Nat} {d : D}, RepL T Hs al vs ds → ds[i]? = some d → ∃ v, vs[i]? = some v ∧ Rep T Hs al v d
  | _, _, _, _, .nil, e => by simp at e
  | _, _, 0, _, .cons r _, e => by
    have e' := Option.some.inj e
    subst e'
    exact ⟨_, rfl, r⟩
  | _, _, i + 1, _, .cons _ t, e => by
    obtain ⟨v, h1, h2⟩ := t.get (i := i) e
    exact ⟨v, h1, h2⟩
theorem RepL.getV : ∀ {vs : List V} {ds : List D} {i : Nat} {v : V}, RepL T Hs al vs ds → vs[i]? = some v → ∃ d, ds[i]? = some d ∧ Rep T Hs al v d
  | _, _, _, _, .nil, e => by simp at e
  | _, _, 0, _, .cons r _, e => by
    have e' := Option.some.inj e
    subst e'
    exact ⟨_, rfl, r⟩
  | _, _, i + 1, _, .cons _ t, e => by
    obtain ⟨v, h1, h2⟩ := t.getV (i := i) e
    exact ⟨v, h1, h2⟩
theorem RepL.append : ∀ {vs ws : List V} {ds es : List D}, RepL T Hs al vs ds → RepL T Hs al ws es → RepL T Hs al (vs ++ ws) (ds ++ es)
  | _, _, _, _, .nil, s => s
  | _, _, _, _, .cons r t, s => .cons r (t.append s)
theorem RepL.take : ∀ {vs : List V} {ds : List D} (n : Nat), RepL T Hs al vs ds → RepL T Hs al (vs.take n) (ds.take n)
  | _, _, 0, _ => .nil
  | _, _, _ + 1, .nil => .nil
  | _, _, n + 1, .cons r t => .cons r (t.take n)
theorem RepL.drop : ∀ {vs : List V} {ds : List D} (n : Nat), RepL T Hs al vs ds → RepL T Hs al (vs.drop n) (ds.drop n)
  | _, _, 0, r => r
  | _, _, _ + 1, .nil => .nil
  | _, _, n + 1, .cons _ t => t.drop n
theorem RepL.set : ∀ {vs : List V} {ds : List D} (i : Nat) {v : V} {d : D}, RepL T Hs al vs ds → Rep T Hs al v d → RepL T Hs al (vs.set i v) (ds.set i d)
  | _, _, _, _, _, .nil, _ => .nil
  | _, _, 0, _, _, .cons _ t, q => .cons q t
  | _, _, i + 1, _, _, .cons r t, q => .cons r (t.set i q)
theorem RepL.erase : ∀ {vs : List V} {ds : List D} (i : Nat), RepL T Hs al vs ds → RepL T Hs al (vs.eraseIdx i) (ds.eraseIdx i)
  | _, _, _, .nil => .nil
  | _, _, 0, .cons _ t => t
  | _, _, i + 1, .cons r t => .cons r (t.erase i)
theorem RepL.reverse : ∀ {vs : List V} {ds : List D}, RepL T Hs al vs ds → RepL T Hs al vs.reverse ds.reverse
  | _, _, .nil => .nil
  | _, _, .cons r t => by
    rw [List.reverse_cons, List.reverse_cons]
    exact t.reverse.append (.cons r .nil)
theorem RepL.one {v : V} {d : D} (h : Rep T Hs al v d) : RepL T Hs al [v] [d] := .cons h .nil
theorem RepL.rep : ∀ {vs : List V} {ds : List D}, RepL T Hs al vs ds → ∀ k : Nat, RepL T Hs al (List.replicate k vs).flatten (List.replicate k ds).flatten
  | _, _, _, 0 => .nil
  | _, _, r, k + 1 => by
    rw [List.replicate_succ, List.replicate_succ, List.flatten_cons, List.flatten_cons]
    exact r.append (r.rep k)
theorem RepL.ints : ∀ {vs : List V} {ns : List Int}, RepL T Hs al vs (ns.map D.int) → vs = ns.map V.int
  | _, [], .nil => rfl
  | _, _ :: _, .cons (.int _) t => by rw [RepL.ints t]; rfl
theorem RepL.strs : ∀ {vs : List V} {ns : List Str}, RepL T Hs al vs (ns.map D.str) → vs = ns.map V.str
  | _, [], .nil => rfl
  | _, _ :: _, .cons (.str _) t => by rw [RepL.strs t]; rfl
theorem RepL.bls : ∀ {vs : List V} {ns : List Bool}, RepL T Hs al vs (ns.map D.bl) → vs = ns.map V.bl
  | _, [], .nil => rfl
  | _, _ :: _, .cons (.bl _) t => by rw [RepL.bls t]; rfl
theorem RepL.ofInts : ∀ (ns : List Int), RepL T Hs al (ns.map V.int) (ns.map D.int)
  | [] => .nil
  | n :: ns => .cons (.int n) (RepL.ofInts ns)
theorem RepL.ofStrs : ∀ (ns : List Str), RepL T Hs al (ns.map V.str) (ns.map D.str)
  | [] => .nil
  | n :: ns => .cons (.str n) (RepL.ofStrs ns)
theorem RepL.two {vs : List V} {d e : D} (h : RepL T Hs al vs [d, e]) : ∃ v w, vs = [v, w] ∧ Rep T Hs al v d ∧ Rep T Hs al w e := by
  cases h with
  | cons r t =>
    cases t with
    | cons r2 t2 => cases t2; exact ⟨_, _, rfl, r, r2⟩
theorem RepL.inv1 {vs : List V} {d : D} (h : RepL T Hs al vs [d]) : ∃ v, vs = [v] ∧ Rep T Hs al v d := by
  cases h with
  | cons r t => cases t; exact ⟨_, rfl, r⟩
end

/-! ### the world -/
def RO (T : Tb) (w : Wd) (a : Addr) : R → Prop
  | .lst xs => ∃ vs, w.H a = some (.lst vs) ∧ RepL T w.Hs w.al vs xs
  | .obj c fs => ∃ dx vfs, w.H a = some (.ins (T.cl c) dx vfs) ∧ vfs.map (·.1) = fs.map (·.1) ∧ RepL T w.Hs w.al (vfs.map (·.2)) (fs.map (·.2))
structure Wf (T : Tb) (w : Wd) (m : List R) : Prop where
  sub : Le w.Hs w.H
  len : w.al.length = m.length
  nd : w.al.Nodup
  off : ∀ a ∈ w.al, w.Hs a = none
  ok : ∀ (k : Nat) a r, w.al[k]? = some a → m[k]? = some r → RO T w a r
theorem RO.there {T : Tb} {w : Wd} {a : Addr} {r : R} (h : RO T w a r) : ∃ o, w.H a = some o := by
  cases r with
  | lst xs => obtain ⟨vs, e, _⟩ := h; exact ⟨_, e⟩
  | obj c fs => obtain ⟨dx, vfs, e, _⟩ := h; exact ⟨_, e⟩
theorem Wf.has {T : Tb} {w : Wd} {m : List R} (W : Wf T w m) {a : Addr} (h : a ∈ w.al) : ∃ o, w.H a = some o := by
  obtain ⟨k, hk⟩ := List.getElem?_of_mem h
  have hl : k < m.length := by
    have := (List.getElem?_eq_some_iff.mp hk).1
    rw [← W.len]; exact this
  exact (W.ok k a m[k] hk (List.getElem?_eq_getElem hl)).there
theorem Wf.new {T : Tb} {w : Wd} {m : List R} (W : Wf T w m) {a : Addr} (h : w.H a = none) : a ∉ w.al := fun hm => by
  obtain ⟨o, e⟩ := W.has hm
  rw [h] at e; cases e
theorem Wf.newS {T : Tb} {w : Wd} {m : List R} (W : Wf T w m) {a : Addr} (h : w.H a = none) : w.Hs a = none := by
  cases e : w.Hs a with
  | none => rfl
  | some o => rw [W.sub _ _ e] at h; cases h
theorem Wf.at {T : Tb} {w : Wd} {m : List R} (W : Wf T w m) {k : Nat} {r : R} (h : m[k]? = some r) : ∃ a, w.al[k]? = some a ∧ RO T w a r := by
  have hl : k < w.al.length := by
    have := (List.getElem?_eq_some_iff.mp h).1
    rw [W.len]; exact this
  exact ⟨w.al[k], List.getElem?_eq_getElem hl, W.ok k _ r (List.getElem?_eq_getElem hl) h⟩

structure Ext (w w' : Wd) : Prop where
  hs : Le w.Hs w'.Hs
  al : ∃ l, w'.al = w.al ++ l ∧ ∀ a ∈ l, w.H a = none
  fr : ∀ a, w'.Hs a ≠ none → w.Hs a ≠ none ∨ w.H a = none
  keep : ∀ a o, w.H a = some o → a ∉ w.al → w'.H a = some o
theorem Ext.refl (w : Wd) : Ext w w := ⟨Le.refl _, ⟨[], by simp, by simp⟩, fun _ h => .inl h, fun _ _ h _ => h⟩
theorem Ext.leA {w w' : Wd} (e : Ext w w') : LeA w.al w'.al := by
  obtain ⟨l, h, _⟩ := e.al
  rw [h]; exact LeA.app _ _
theorem Ext.non {T : Tb} {w w' : Wd} {m' : List R} (e : Ext w w') (W : Wf T w' m') {a : Addr} (h : w'.H a = none) : w.H a = none := by
  cases q : w.H a with
  | none => rfl
  | some o =>
    by_cases ha : a ∈ w.al
    · obtain ⟨l, hl, _⟩ := e.al
      have : a ∈ w'.al := by rw [hl]; exact List.mem_append_left _ ha
      obtain ⟨o', e'⟩ := W.has this
      rw [h] at e'; cases e'
    · rw [e.keep a o q ha] at h; cases h
theorem Ext.trans {T : Tb} {w1 w2 w3 : Wd} {m : List R} (a : Ext w1 w2) (b : Ext w2 w3) (W : Wf T w2 m) : Ext w1 w3 := by
  obtain ⟨l1, h1, f1⟩ := a.al
  obtain ⟨l2, h2, f2⟩ := b.al
  refine ⟨a.hs.trans b.hs, ⟨l1 ++ l2, by rw [h2, h1, List.append_assoc], fun x hx => ?_⟩, fun x hx => ?_, fun x o hx hn => ?_⟩
  · rcases List.mem_append.mp hx with hx | hx
    · exact f1 x hx
    · exact a.non W (f2 x hx)
  · rcases b.fr x hx with h | h
    · exact a.fr x h
    · exact .inr (a.non W h)
  · refine b.keep x o (a.keep x o hx hn) fun hm => ?_
    rw [h1] at hm
    rcases List.mem_append.mp hm with hm | hm
    · exact hn hm
    · rw [f1 x hm] at hx; cases hx
theorem Rep.on {T : Tb} {w w' : Wd} {v : V} {d : D} (h : Rep T w.Hs w.al v d) (e : Ext w w') : Rep T w'.Hs w'.al v d := h.mono e.hs e.leA
theorem RepL.on {T : Tb} {w w' : Wd} {v : List V} {d : List D} (h : RepL T w.Hs w.al v d) (e : Ext w w') : RepL T w'.Hs w'.al v d := h.mono e.hs e.leA

theorem nodup_ij {α : Type} {l : List α} {i j : Nat} {x : α} (h : l.Nodup) (hi : l[i]? = some x) (hj : l[j]? = some x) : i = j := by
  obtain ⟨h1, e1⟩ := List.getElem?_eq_some_iff.mp hi
  obtain ⟨h2, e2⟩ := List.getElem?_eq_some_iff.mp hj
  have p := List.pairwise_iff_getElem.mp h
  rcases Nat.lt_trichotomy i j with k | k | k
  · exact absurd (e1.trans e2.symm) (p i j h1 h2 k)
  · exact k
  · exact absurd (e2.trans e1.symm) (p j i h2 h1 k)
/-! ### changes of the world -/
section
variable {T : Tb} {w : Wd} {m : List R}
theorem RO.mono {w' : Wd} {a : Addr} {r : R} (h : RO T w a r) (hs : Le w.Hs w'.Hs) (ha : LeA w.al w'.al) (k : ∀ o, w.H a = some o → w'.H a = some o) : RO T w' a r := by
  cases r with
  | lst xs => obtain ⟨vs, e, q⟩ := h; exact ⟨vs, k _ e, q.mono hs ha⟩
  | obj c fs => obtain ⟨dx, vfs, e, n, q⟩ := h; exact ⟨dx, vfs, k _ e, n, q.mono hs ha⟩
theorem le_upd {H : Hp} {p : Addr} {o : HO} (h : H p = none) : Le H (upd H p o) := fun a u e => by
  rw [upd_ne (ne_of_none e h)]; exact e
/-- a new frozen thing -/
def Wd.fz (w : Wd) (p : Addr) (o : HO) : Wd := ⟨upd w.H p o, upd w.Hs p o, w.al⟩
theorem Wf.fz (W : Wf T w m) {p : Addr} (o : HO) (h : w.H p = none) : Wf T (w.fz p o) m ∧ Ext w (w.fz p o) := by
  have hs := W.newS h
  have hn := W.new h
  refine ⟨⟨fun a u e => ?_, W.len, W.nd, fun a ha => ?_, fun k a r hk hr => ?_⟩, ⟨le_upd hs, ⟨[], by show w.al = _; simp, by simp⟩, fun a ha => ?_, fun a u e _ => le_upd h a u e⟩⟩
  · show upd w.H p o a = some u
    have e : upd w.Hs p o a = some u := e
    by_cases q : a = p
    · subst q; rw [upd_same] at e ⊢; exact e
    · rw [upd_ne q] at e ⊢; exact W.sub _ _ e
  · show upd w.Hs p o a = none
    rw [upd_ne (fun q => hn (by rw [← q]; exact ha))]; exact W.off a ha
  · exact RO.mono (W.ok k a r hk hr) (le_upd hs) (LeA.refl _) fun u e => le_upd h a u e
  · have ha : upd w.Hs p o a ≠ none := ha
    by_cases q : a = p
    · subst q; exact .inr h
    · rw [upd_ne q] at ha; exact .inl ha
/-- a new thing that may change -/
def Wd.mu (w : Wd) (p : Addr) (o : HO) : Wd := ⟨upd w.H p o, w.Hs, w.al ++ [p]⟩
theorem Wf.mu (W : Wf T w m) {p : Addr} {o : HO} {r : R} (h : w.H p = none) (hr : RO T (w.mu p o) p r) : Wf T (w.mu p o) (m ++ [r]) ∧ Ext w (w.mu p o) := by
  have hs := W.newS h
  have hn := W.new h
  refine ⟨⟨fun a u e => ?_, ?_, ?_, fun a ha => ?_, fun k a q hk hq => ?_⟩, ⟨Le.refl _, ⟨[p], rfl, fun a ha => ?_⟩, fun a ha => .inl ha, fun a u e _ => le_upd h a u e⟩⟩
  · exact le_upd h a u (W.sub _ _ e)
  · show (w.al ++ [p]).length = _
    simp [W.len]
  · show (w.al ++ [p]).Nodup
    exact List.nodup_append.mpr ⟨W.nd, by simp, fun a ha b hb e => by
      have hb : b = p := by simpa using hb
      subst hb; subst e; exact hn ha⟩
  · have ha : a ∈ w.al ++ [p] := ha
    rcases List.mem_append.mp ha with ha | ha
    · exact W.off a ha
    · have ha : a = p := by simpa using ha
      rw [ha]; exact hs
  · have hk : (w.al ++ [p])[k]? = some a := hk
    by_cases hl : k < w.al.length
    · rw [List.getElem?_append_left hl] at hk
      rw [List.getElem?_append_left (by rw [← W.len]; exact hl)] at hq
      exact RO.mono (W.ok k a q hk hq) (Le.refl _) (LeA.app _ _) fun u e => le_upd h a u e
    · rw [List.getElem?_append_right (by omega)] at hk
      rw [List.getElem?_append_right (by rw [← W.len]; omega)] at hq
      rw [W.len] at hk
      generalize k - m.length = j at hk hq
      cases j with
      | zero =>
        have e1 : p = a := Option.some.inj hk
        have e2 : r = q := Option.some.inj hq
        subst e1; subst e2; exact hr
      | succ j => simp at hk
  · have ha : a = p := by simpa using ha
    rw [ha]; exact h
/-- a thing changes -/
def Wd.st (w : Wd) (p : Addr) (o : HO) : Wd := ⟨upd w.H p o, w.Hs, w.al⟩
theorem Wf.st (W : Wf T w m) {p : Addr} {o : HO} {r : R} {k : Nat} (h : w.al[k]? = some p) (hr : RO T (w.st p o) p r) : Wf T (w.st p o) (m.set k r) ∧ Ext w (w.st p o) := by
  have hp : p ∈ w.al := List.mem_of_getElem? h
  have hs := W.off p hp
  refine ⟨⟨fun a u e => ?_, ?_, W.nd, W.off, fun j a q hj hq => ?_⟩, ⟨Le.refl _, ⟨[], by show w.al = _; simp, by simp⟩, fun a ha => .inl ha, fun a u e hn => ?_⟩⟩
  · show upd w.H p o a = some u
    have e : w.Hs a = some u := e
    rw [upd_ne (ne_of_none e hs)]; exact W.sub _ _ e
  · show w.al.length = _
    rw [List.length_set]; exact W.len
  · by_cases e : j = k
    · subst e
      have hj : w.al[j]? = some a := hj
      rw [h] at hj
      cases hj
      rw [List.getElem?_set_self (by rw [← W.len]; exact (List.getElem?_eq_some_iff.mp h).1)] at hq
      cases hq
      exact hr
    · rw [List.getElem?_set_ne (Ne.symm e)] at hq
      refine RO.mono (W.ok j a q hj hq) (Le.refl _) (LeA.refl _) fun u hu => ?_
      have : a ≠ p := fun z => e (by
        subst z
        exact nodup_ij W.nd hj h)
      show upd w.H p o a = some u
      rw [upd_ne this]; exact hu
  · show upd w.H p o a = some u
    rw [upd_ne (fun z => hn (by rw [z]; exact hp))]; exact e
end
end Dv

namespace Dv
open PySem PySem.Spec PyProof.Rows L2

/-! ### what is reckoned on data -/
inductive Bop where
  | add | sub | mul | fdiv | mod | pow
  deriving DecidableEq
inductive Cop where
  | eq | ne | lt | le | gt | ge | isN | notN | inn | nin
  deriving DecidableEq
inductive Bi where
  | len | list | tuple | int | str | abs | max | min | sum | sorted | all | any
  deriving DecidableEq
inductive Ty where
  | int | bool | str | tuple | list | dict | none
  deriving DecidableEq
inductive Mt where
  | append | pop | insert | extend | index
  deriving DecidableEq

/-- the items of a list or a tuple -/
def sq (m : List R) : D → Option (List D)
  | .tup xs => some xs
  | .lst xs => some xs
  | .ext xs => some xs
  | .res k => match m[k]? with
    | some (.lst xs) => some xs
    | _ => none
  | _ => none
/-- the items of a list -/
def lsq (m : List R) : D → Option (List D)
  | .lst xs => some xs
  | .res k => match m[k]? with
    | some (.lst xs) => some xs
    | _ => none
  | _ => none
/-- a new list -/
def newL (mu : Bool) (m : List R) (xs : List D) : D × List R := if mu then (.res m.length, m ++ [.lst xs]) else (.lst xs, m)

mutual
/-- data as the library compares it -/
def pd (m : List R) : D → Option PyData
  | .non => some .none
  | .bl b => some (.bool b)
  | .int i => some (.int i)
  | .str x => if PyData.strOk x then some (.str x) else none
  | .tup xs => (pdL m xs).map .tuple
  | .lst xs => (pdL m xs).map .list
  | .ext xs => (pdL m xs).map .list
  | .obj _ _ => none
  | .res _ => none
def pdL (m : List R) : List D → Option (List PyData)
  | [] => some []
  | x :: xs => match pd m x, pdL m xs with
    | some a, some as => some (a :: as)
    | _, _ => none
end
/-- .. a list that may change, too -/
def pdR (m : List R) : D → Option PyData
  | .res k => match m[k]? with
    | some (.lst xs) => (pdL m xs).map .list
    | _ => none
  | d => pd m d
def eqD (m : List R) (a b : D) : Option Bool := match pdR m a, pdR m b with
  | some x, some y => if x.depth ≤ 64 ∧ y.depth ≤ 64 then some (PyData.eqv x y) else none
  | _, _ => none
def inD (m : List R) (a b : D) : Option Bool :=
  match a, b with
  | .str x, .str y => some (!(Builtin.Str.occurrences y x 0 y.length 1).isEmpty)
  | a, b => match pdR m a, pdR m b with
    | some x, some (.list ys) => if x.depth ≤ 64 ∧ (PyData.list ys).depth ≤ 64 then some (ys.any fun z => PyData.eqv z x) else none
    | some x, some (.tuple ys) => if x.depth ≤ 64 ∧ (PyData.tuple ys).depth ≤ 64 then some (ys.any fun z => PyData.eqv z x) else none
    | _, _ => none

def addD (mu : Bool) (m : List R) : D → D → Option (D × List R)
  | .int a, .int b => some (.int (a + b), m)
  | .str a, .str b => if a.length + b.length ≤ sizeLine then some (.str (a ++ b), m) else none
  | .tup a, .tup b => if a.length + b.length ≤ sizeLine then some (.tup (a ++ b), m) else none
  | a, b => match lsq m a, lsq m b with
    | some xs, some ys => if xs.length + ys.length ≤ sizeLine then some (newL mu m (xs ++ ys)) else none
    | _, _ => none
def mulD (mu : Bool) (m : List R) : D → D → Option (D × List R)
  | .int a, .int b => if (-(2 ^ 64) < a ∧ a < 2 ^ 64) ∨ (-(2 ^ 64) < b ∧ b < 2 ^ 64) then some (.int (a * b), m) else none
  | .tup xs, .int k => if xs.isEmpty = false ∧ 2 ≤ k ∧ k ≤ 1000 ∧ xs.length ≤ 1000 then some (.tup (List.replicate k.toNat xs).flatten, m) else none
  | a, .int k => match lsq m a with
    | some xs => if -(2 ^ 63) ≤ k ∧ k < 2 ^ 63 ∧ xs.length * k.toNat ≤ sizeLine then some (newL mu m (List.replicate k.toNat xs).flatten) else none
    | none => none
  | _, _ => none
def bopD (o : Bop) (mu : Bool) (m : List R) (a b : D) : Option (D × List R) := match o with
  | .add => addD mu m a b
  | .mul => mulD mu m a b
  | .sub => match a, b with
    | .int x, .int y => some (.int (x - y), m)
    | _, _ => none
  | .fdiv => match a, b with
    | .int x, .int y => if 0 < y ∧ y < 2 ^ 64 then some (.int (x / y), m) else none
    | _, _ => none
  | .mod => match a, b with
    | .int x, .int y => if 0 < y then some (.int (x % y), m) else none
    | _, _ => none
  | .pow => match a, b with
    | .int x, .int y => if 0 ≤ y ∧ y ≤ 1000000 ∧ x.natAbs < 2 ^ 64 then some (.int (x ^ y.toNat), m) else none
    | _, _ => none
def cmpI (f : Int → Int → Bool) : D → D → Option Bool
  | .int x, .int y => some (f x y)
  | _, _ => none
def isNon : D → Bool
  | .non => true
  | _ => false
def copD (o : Cop) (m : List R) (a b : D) : Option Bool := match o with
  | .eq => eqD m a b
  | .ne => (eqD m a b).map (!·)
  | .lt => cmpI (fun x y => decide (x < y)) a b
  | .le => cmpI (fun x y => decide (x ≤ y)) a b
  | .gt => cmpI (fun x y => decide (y < x)) a b
  | .ge => cmpI (fun x y => decide (y ≤ x)) a b
  | .isN => match b with
    | .non => some (isNon a)
    | _ => none
  | .notN => match b with
    | .non => some (!isNon a)
    | _ => none
  | .inn => inD m a b
  | .nin => (inD m a b).map (!·)

def asInts : List D → Option (List Int)
  | [] => some []
  | .int i :: r => (asInts r).map (i :: ·)
  | _ :: _ => none
def asStrs : List D → Option (List Str)
  | [] => some []
  | .str i :: r => (asStrs r).map (i :: ·)
  | _ :: _ => none
def asBls : List D → Option (List Bool)
  | [] => some []
  | .bl i :: r => (asBls r).map (i :: ·)
  | _ :: _ => none
/-- in order -/
def sortI (l : List Int) : List Int := l.mergeSort fun a b => decide (a ≤ b)
/-- each once -/
def dd : List Int → List Int
  | [] => []
  | x :: l => if x ∈ l then dd l else x :: dd l
theorem mem_dd {y : Int} : ∀ {l : List Int}, y ∈ dd l ↔ y ∈ l
  | [] => Iff.rfl
  | x :: l => by
    unfold dd
    split
    · rename_i h
      rw [mem_dd, List.mem_cons]
      exact ⟨.inr, fun k => k.elim (fun e => e ▸ h) id⟩
    · rw [List.mem_cons, List.mem_cons, mem_dd]
theorem nodup_dd : ∀ l : List Int, (dd l).Nodup
  | [] => List.nodup_nil
  | x :: l => by
    unfold dd
    split
    · exact nodup_dd l
    · rename_i h
      exact List.nodup_cons.mpr ⟨fun k => h (mem_dd.mp k), nodup_dd l⟩
/-- in order, each once -/
def ssI (l : List Int) : List Int := sortI (dd l)
def sstD (mu : Bool) (m : List R) (a : D) : Option (D × List R) := match lsq m a with
  | some xs => match asInts xs with
    | some ns => if ns.length ≤ 4000 ∧ (dd ns).length < 64 then some (newL mu m ((ssI ns).map .int)) else none
    | none => none
  | none => none
def leS (a b : Str) : Bool := !decide (b.cps.toList < a.cps.toList)
def sortS (l : List Str) : List Str := l.mergeSort leS
def asIS : List D → Option (List (Int × Str))
  | [] => some []
  | .tup [.int i, .str x] :: r => (asIS r).map fun ps => (i, x) :: ps
  | _ => none
/-- the int tells the text -/
def conIS (ps : List (Int × Str)) : Bool := ps.all fun p => ps.all fun q => !decide (p.1 = q.1) || decide (p.2 = q.2)
def sortIS (l : List (Int × Str)) : List (Int × Str) := l.mergeSort fun a b => decide (a.1 ≤ b.1)
def pairD (p : Int × Str) : D := .tup [.int p.1, .str p.2]
def biD (b : Bi) (mu : Bool) (m : List R) : List D → Option (D × List R)
  | [a] => match b with
    | .len => match a with
      | .str x => if x.length ≤ sizeLine then some (.int x.length, m) else none
      | a => (sq m a).map fun xs => (.int xs.length, m)
    | .list => (sq m a).map fun xs => newL mu m xs
    | .tuple => (sq m a).map fun xs => (.tup xs, m)
    | .int => match a with
      | .int i => some (.int i, m)
      | .bl k => some (.int (if k then 1 else 0), m)
      | _ => none
    | .str => match a with
      | .int i => if i.natAbs.log2 < 1920 then some (.str (toString i), m) else none
      | _ => none
    | .abs => match a with
      | .int i => some (.int (if i < 0 then -i else i), m)
      | _ => none
    | .sorted => match sq m a with
      | some xs => match asInts xs with
        | some ns => some (newL mu m ((sortI ns).map .int))
        | none => match asStrs xs with
          | some zs => if zs.length < 64 then some (newL mu m ((sortS zs).map .str)) else none
          | none => match lsq m a with
            | some ys => match asIS ys with
              | some ps => if conIS ps = true then some (newL mu m ((sortIS ps).map pairD)) else none
              | none => none
            | none => none
      | none => none
    | .max => match lsq m a with
      | some xs => match asInts xs with
        | some ns => ns.max?.map fun i => (.int i, m)
        | none => none
      | none => none
    | .min => match lsq m a with
      | some xs => match asInts xs with
        | some ns => ns.min?.map fun i => (.int i, m)
        | none => none
      | none => none
    | .sum => match lsq m a with
      | some xs => (asInts xs).map fun ns => (.int ns.sum, m)
      | none => none
    | .all => match lsq m a with
      | some xs => (asBls xs).map fun ns => (.bl (ns.all id), m)
      | none => none
    | .any => match lsq m a with
      | some xs => (asBls xs).map fun ns => (.bl (ns.any id), m)
      | none => none
  | [.int i, .int j] => match b with
    | .max => some (.int (if j > i then j else i), m)
    | .min => some (.int (if j < i then j else i), m)
    | _ => none
  | _ => none
def tyD (m : List R) : D → Option Ty
  | .non => some .none
  | .bl _ => some .bool
  | .int _ => some .int
  | .str _ => some .str
  | .tup _ => some .tuple
  | .lst _ => some .list
  | .ext _ => some .list
  | .obj _ _ => none
  | .res k => match m[k]? with
    | some (.lst _) => some .list
    | _ => none
/-- isinstance of a value of a type -/
def tyIs : Ty → Ty → Bool
  | .bool, .int => true
  | a, b => decide (a = b)
def isiD (m : List R) (a : D) (ts : List Ty) : Option Bool := (tyD m a).map fun t => ts.any (tyIs t)
def ixD (m : List R) (a i : D) : Option D := match i with
  | .int i => match a with
    | .str z => if z.length ≤ sizeLine then (atI z.cps.toList i).map fun c => .str ⟨#[c]⟩ else none
    | a => (sq m a).bind fun xs => atI xs i
  | _ => none
def cutD (xs : List D) (lo hi : Option Int) : List D := (xs.drop (HT.sIx xs.length 0 lo)).take (HT.sIx xs.length xs.length hi - HT.sIx xs.length 0 lo)
def slD (mu : Bool) (m : List R) (a : D) (lo hi : Option Int) : Option (D × List R) := match a with
  | .tup xs => some (.tup (cutD xs lo hi), m)
  | a => (lsq m a).map fun xs => newL mu m (cutD xs lo hi)
def rslD (m : List R) : D → D → Option (D × List R)
  | .tup xs, .int i => if i = -1 then some (.tup xs.reverse, m) else none
  | _, _ => none
/-- the list that stands at k -/
def resL (m : List R) : D → Option (Nat × List D)
  | .res k => match m[k]? with
    | some (.lst ys) => some (k, ys)
    | _ => none
  | _ => none
def appendD (m : List R) (a : D) : List D → Option (D × List R)
  | [x] => match resL m a with
    | some (k, ys) => if ys.length < sizeLine then some (.non, m.set k (.lst (ys ++ [x]))) else none
    | none => none
  | _ => none
def popD (m : List R) (a : D) : List D → Option (D × List R)
  | [] => match resL m a with
    | some (k, ys) => match ys[ys.length - 1]? with
      | some y => some (y, m.set k (.lst ys.dropLast))
      | none => none
    | none => none
  | [.int i] => match resL m a with
    | some (k, ys) => if 0 ≤ i ∧ i < 2 ^ 63 then match ys[i.toNat]? with
      | some y => some (y, m.set k (.lst (ys.eraseIdx i.toNat)))
      | none => none
      else none
    | none => none
  | _ => none
def insertD (m : List R) (a : D) : List D → Option (D × List R)
  | [.int i, y] => match resL m a with
    | some (k, ys) => if ys.length < sizeLine ∧ 0 ≤ i ∧ i < 2 ^ 63 then some (.non, m.set k (.lst (ys.take i.toNat ++ [y] ++ ys.drop i.toNat))) else none
    | none => none
  | _ => none
def extendD (m : List R) (a : D) : List D → Option (D × List R)
  | [b] => match resL m a with
    | some (k, ys) => match lsq m b with
      | some zs => if ys.length + zs.length ≤ sizeLine then some (.non, m.set k (.lst (ys ++ zs))) else none
      | none => none
    | none => none
  | _ => none
def indexD (m : List R) (a : D) : List D → Option (D × List R)
  | [y] => match lsq m a with
    | some xs => match pdL m xs, pdR m y with
      | some ps, some p => if (PyData.list ps).depth ≤ 64 ∧ p.depth ≤ 64 then match ps.findIdx? (fun z => PyData.eqv z p) with
        | some j => some (.int (j : Int), m)
        | none => none
        else none
      | _, _ => none
    | none => match a, y with
      | .tup xs, .str z => match asStrs xs with
        | some zs => if z ∈ zs then some (.int (zs.idxOf z : Int), m) else none
        | none => none
      | _, _ => none
  | _ => none
def mtD (f : Mt) (m : List R) (a : D) (xs : List D) : Option (D × List R) := match f with
  | .append => appendD m a xs
  | .pop => popD m a xs
  | .insert => insertD m a xs
  | .extend => extendD m a xs
  | .index => indexD m a xs

def isTup : D → Bool
  | .tup _ => true
  | _ => false
def mtOk (f : Mt) (m : List R) (x : D) : Bool := (lsq m x).isSome || (decide (f = .index) && isTup x)
/-! ### code -/
mutual
inductive E where
  | var (i : Nat)
  | cst (d : D)
  | bop (o : Bop) (mu : Bool) (a b : E)
  | neg (a : E)
  | cmp (o : Cop) (a b : E)
  | chn (o p : Cop) (a b c : E)
  | and (a b : E)
  | or (a b : E)
  | not (a : E)
  | ite (c a b : E)
  | tup (es : Es)
  | lst (mu : Bool) (es : Es)
  | ix (a b : E)
  | sl (mu : Bool) (a : E) (lo hi : Oe)
  /-- a[::k], k = -1 -/
  | rsl (a k : E)
  | cal (f : Nat) (es : Es)
  | mk (c : Nat) (es : Es)
  | bi (b : Bi) (mu : Bool) (es : Es)
  | rgl (b : Bool) (mu : Bool) (it : It)
  | isi (a : E) (ts : List Ty)
  | mth (f : Mt) (a : E) (es : Es)
  | omt (n : Str) (a : E) (es : Es)
  | att (a : E) (f : Str)
  | cmpr (mu : Bool) (elt : E) (g : G) (it : It) (cond : E) (own : List Nat)
  | lgn (f : Nat) (mu : Bool) (es : Es)
  /-- sorted(set(a)) -/
  | sst (mu : Bool) (a : E)
inductive Es where
  | nil | cons (e : E) (r : Es)
inductive Oe where
  | non | some (e : E)
inductive It where
  | seq (e : E) | rg1 (e : E) | rg2 (a b : E) | enu (e : E) | zip (a b : E) | ezp (a b : E)
inductive G where
  | nm (i : Nat) | tp (gs : Gs)
inductive Gs where
  | nil | cons (g : G) (r : Gs)
end
mutual
inductive S where
  | pass | brk | cnt | never
  | expr (e : E)
  | ret (e : E)
  | retN
  | asg (g : G) (e : E)
  | aug (i : Nat) (o : Bop) (e : E)
  | ifs (c : E) (a b : Ss)
  | whl (n : Nat) (c : E) (b : Ss)
  | forr (g : G) (it : It) (b : Ss)
  | sti (o i e : E)
  | stf (o : E) (f : Str) (e : E)
  /-- for over the call of a generator def -/
  | forg (i : Nat) (xs : Es) (g : G) (b : Ss)
inductive Ss where
  | nil | cons (s : S) (r : Ss)
end

def Es.len : Es → Nat
  | .nil => 0
  | .cons _ r => r.len + 1
inductive SO where
  | nx (ρ : Ro) (m : List R) | rt (d : D) (m : List R) | bk (ρ : Ro) (m : List R) | ct (ρ : Ro) (m : List R) | ex (x : Exn) (ρ : Ro) (m : List R)

/-- what the names of the text mean -/
structure Gt where
  /-- a def, or a class made: by its number -/
  F : Nat → List D → List R → Option Rs
  /-- an instance of a class made -/
  new : Nat → List D → List R → Option Rs
  /-- the def of a property, a method of a class -/
  prop : Nat → Str → Option Nat
  meth : Nat → Str → Nat → Option Nat
  nm : Nat → List Str
  /-- what a generator def hands out, by its number -/
  gen : Nat → List D → List R → Option (List D × List R) := fun _ _ _ => none
  /-- a generator def with its consumer's turn: (number, turn, arguments, the consumer's names, the store) -/
  gfr : Nat → (D → Ro → List R → Option SO) → List D → Ro → List R → Option SO := fun _ _ _ _ _ => none

def bnd (r : Option Rs) (f : D → List R → Option Rs) : Option Rs := match r with
  | some (.ok d m) => f d m
  | some (.ex x m) => some (.ex x m)
  | none => none
@[simp] theorem bnd_ok (d : D) (m : List R) (f : D → List R → Option Rs) : bnd (some (.ok d m)) f = f d m := rfl
@[simp] theorem bnd_ex (x : Exn) (m : List R) (f : D → List R → Option Rs) : bnd (some (.ex x m)) f = some (.ex x m) := rfl
@[simp] theorem bnd_none (f : D → List R → Option Rs) : bnd none f = none := rfl
def okP (r : Option (D × List R)) : Option Rs := r.map fun p => .ok p.1 p.2
def okB (m : List R) (r : Option Bool) : Option Rs := r.map fun b => .ok (.bl b) m
inductive RsL where
  | ok (ds : List D) (m : List R) | ex (x : Exn) (m : List R)
def bndL (r : Option RsL) (f : List D → List R → Option Rs) : Option Rs := match r with
  | some (.ok d m) => f d m
  | some (.ex x m) => some (.ex x m)
  | none => none
@[simp] theorem bndL_ok (d : List D) (m : List R) (f : List D → List R → Option Rs) : bndL (some (.ok d m)) f = f d m := rfl
@[simp] theorem bndL_ex (x : Exn) (m : List R) (f : List D → List R → Option Rs) : bndL (some (.ex x m)) f = some (.ex x m) := rfl
@[simp] theorem bndL_none (f : List D → List R → Option Rs) : bndL none f = none := rfl
def consL (r : Option Rs) (f : List R → Option RsL) : Option RsL := match r with
  | some (.ok d m) => match f m with
    | some (.ok ds m') => some (.ok (d :: ds) m')
    | some (.ex x m') => some (.ex x m')
    | none => none
  | some (.ex x m) => some (.ex x m)
  | none => none
def bndS (r : Option Rs) (ρ : Ro) (f : D → List R → Option SO) : Option SO := match r with
  | some (.ok d m) => f d m
  | some (.ex x m) => some (.ex x ρ m)
  | none => none
def bndLS (r : Option RsL) (ρ : Ro) (f : List D → List R → Option SO) : Option SO := match r with
  | some (.ok d m) => f d m
  | some (.ex x m) => some (.ex x ρ m)
  | none => none
@[simp] theorem bndLS_ok (ρ : Ro) (d : List D) (m : List R) (f : List D → List R → Option SO) : bndLS (some (.ok d m)) ρ f = f d m := rfl
@[simp] theorem bndS_ok (ρ : Ro) (d : D) (m : List R) (f : D → List R → Option SO) : bndS (some (.ok d m)) ρ f = f d m := rfl
@[simp] theorem bndS_ex (ρ : Ro) (x : Exn) (m : List R) (f : D → List R → Option SO) : bndS (some (.ex x m)) ρ f = some (.ex x ρ m) := rfl
@[simp] theorem bndS_none (ρ : Ro) (f : D → List R → Option SO) : bndS none ρ f = none := rfl

/-- the next turn of a loop -/
inductive Src where
  | fix (xs : List D)
  | live (k n : Nat)
inductive RsI where
  | ok (s : Src) (m : List R) | ex (x : Exn) (m : List R)
def bndI (r : Option RsI) (f : Src → List R → Option Rs) : Option Rs := match r with
  | some (.ok d m) => f d m
  | some (.ex x m) => some (.ex x m)
  | none => none
@[simp] theorem bndI_ok (d : Src) (m : List R) (f : Src → List R → Option Rs) : bndI (some (.ok d m)) f = f d m := rfl
@[simp] theorem bndI_ex (x : Exn) (m : List R) (f : Src → List R → Option Rs) : bndI (some (.ex x m)) f = some (.ex x m) := rfl
@[simp] theorem bndI_none (f : Src → List R → Option Rs) : bndI none f = none := rfl
def toI (r : Option Rs) (f : D → List R → Option RsI) : Option RsI := match r with
  | some (.ok d m) => f d m
  | some (.ex x m) => some (.ex x m)
  | none => none
@[simp] theorem toI_ok (d : D) (m : List R) (f : D → List R → Option RsI) : toI (some (.ok d m)) f = f d m := rfl
@[simp] theorem toI_ex (x : Exn) (m : List R) (f : D → List R → Option RsI) : toI (some (.ex x m)) f = some (.ex x m) := rfl
@[simp] theorem toI_none (f : D → List R → Option RsI) : toI none f = none := rfl
def bndSI (r : Option RsI) (ρ : Ro) (f : Src → List R → Option SO) : Option SO := match r with
  | some (.ok d m) => f d m
  | some (.ex x m) => some (.ex x ρ m)
  | none => none
@[simp] theorem bndSI_ok (ρ : Ro) (d : Src) (m : List R) (f : Src → List R → Option SO) : bndSI (some (.ok d m)) ρ f = f d m := rfl
@[simp] theorem bndSI_ex (ρ : Ro) (x : Exn) (m : List R) (f : Src → List R → Option SO) : bndSI (some (.ex x m)) ρ f = some (.ex x ρ m) := rfl
@[simp] theorem bndSI_none (ρ : Ro) (f : Src → List R → Option SO) : bndSI none ρ f = none := rfl
def wipeD (ρ : Ro) : List Nat → Ro
  | [] => ρ
  | v :: vs => (wipeD ρ vs).set v none

mutual
def setG : G → D → Ro → Option Ro
  | .nm i, d, ρ => some (ρ.set i (some d))
  | .tp gs, .tup ds, ρ => setGs gs ds ρ
  | .tp gs, .lst ds, ρ => setGs gs ds ρ
  | .tp _, _, _ => none
def setGs : Gs → List D → Ro → Option Ro
  | .nil, [], ρ => some ρ
  | .cons g r, d :: ds, ρ => match setG g d ρ with
    | some ρ' => setGs r ds ρ'
    | none => none
  | _, _, _ => none
end

def rngD (lo hi : Int) : List D := (List.range (hi - lo).toNat).map fun (i : Nat) => D.int (lo + (i : Int))
def enuD (xs : List D) : List D := xs.zipIdx.map fun p => .tup [.int (p.2 : Int), p.1]
def zipD (xs ys : List D) : List D := (xs.zip ys).map fun p => .tup [p.1, p.2]
def smallI (i : Int) : Bool := decide (-(2 ^ 62) ≤ i ∧ i < 2 ^ 62)
def signsD (z : Str) : List D := z.cps.toList.map fun c => .str ⟨#[c]⟩
/-- what enumerate and zip walk -/
def fsq : D → Option (List D)
  | .tup xs => some xs
  | .ext xs => some xs
  | .lst xs => some xs
  | _ => none

/-- the turns of a comprehension -/
def compL (f : D → List R → Option (Option D × List R)) : List D → List D → List R → Option (List D × List R)
  | [], acc, m => some (acc, m)
  | x :: r, acc, m => match f x m with
    | some (some y, m') => if acc.length < sizeLine then compL f r (acc ++ [y]) m' else none
    | some (none, m') => compL f r acc m'
    | none => none

/-- .. over a list that may change -/
def compV (f : D → List R → Option (Option D × List R)) (k : Nat) : Nat → Nat → List D → List R → Option (List D × List R)
  | n, i, acc, m => match m[k]? with
    | some (.lst ys) => match ys[i]? with
      | none => some (acc, m)
      | some x => match n with
        | 0 => none
        | n + 1 => match f x m with
          | some (some y, m') => if acc.length < sizeLine then compV f k n (i + 1) (acc ++ [y]) m' else none
          | some (none, m') => compV f k n (i + 1) acc m'
          | none => none
    | _ => none
def compD (f : D → List R → Option (Option D × List R)) (s : Src) (m : List R) : Option (List D × List R) := match s with
  | .fix xs => compL f xs [] m
  | .live k n => compV f k n 0 [] m
/-- a turn of a comprehension -/
def compT (tg : G) (own : List Nat) (c e : Ro → List R → Option Rs) (ρ : Ro) (x : D) (m : List R) : Option (Option D × List R) := match setG tg x (wipeD ρ own) with
  | some ρ' => match c ρ' m with
    | some (.ok (.bl true) m) => match e ρ' m with
      | some (.ok d m) => some (some d, m)
      | _ => none
    | some (.ok (.bl false) m) => some (none, m)
    | _ => none
  | none => none
/-- a turn of a loop -/
def bodyD (t : G) (k : Ro → List R → Option SO) (d : D) (ρ : Ro) (m : List R) : Option SO := match setG t d ρ with
  | some ρ' => k ρ' m
  | none => none
/-- the class of an instance -/
def clsD (m : List R) : D → Option Nat
  | .obj c _ => some c
  | .res k => match m[k]? with
    | some (.obj c _) => some c
    | _ => none
  | _ => none
/-- .. of one that has no attribute n of its own -/
def insD (m : List R) (n : Str) : D → Option Nat
  | .obj c _ => some c
  | .res k => match m[k]? with
    | some (.obj c gs) => match gs.lookup n with
      | none => some c
      | some _ => none
    | _ => none
  | _ => none
/-- an attribute of an instance -/
def fldD (nm : Nat → List Str) (m : List R) (f : Str) : D → Option D
  | .obj c xs => xs[(nm c).idxOf f]?
  | .res k => match m[k]? with
    | some (.obj c gs) => if (nm c).contains f then gs.lookup f else none
    | _ => none
  | _ => none
/-- all that a generator hands out, as a list -/
def lgnK (mu : Bool) : Option (List D × List R) → Option Rs
  | some (xs, m) => okP (some (newL mu m xs))
  | none => none
mutual
def evE (g : Gt) : E → Ro → List R → Option Rs
  | .var i, ρ, m => match ρ[i]? with
    | some (some d) => some (.ok d m)
    | _ => none
  | .cst d, _, m => some (.ok d m)
  | .bop o mu a b, ρ, m => bnd (evE g a ρ m) fun x m => bnd (evE g b ρ m) fun y m => okP (bopD o mu m x y)
  | .neg a, ρ, m => bnd (evE g a ρ m) fun x m => match x with
    | .int i => some (.ok (.int (-i)) m)
    | _ => none
  | .cmp o a b, ρ, m => bnd (evE g a ρ m) fun x m => bnd (evE g b ρ m) fun y m => okB m (copD o m x y)
  | .chn o p a b c, ρ, m => bnd (evE g a ρ m) fun x m => bnd (evE g b ρ m) fun y m => match copD o m x y with
    | some true => bnd (evE g c ρ m) fun z m => okB m (copD p m y z)
    | some false => some (.ok (.bl false) m)
    | none => none
  | .and a b, ρ, m => bnd (evE g a ρ m) fun x m => match x with
    | .bl true => evE g b ρ m
    | .bl false => some (.ok (.bl false) m)
    | _ => none
  | .or a b, ρ, m => bnd (evE g a ρ m) fun x m => match x with
    | .bl false => evE g b ρ m
    | .bl true => some (.ok (.bl true) m)
    | _ => none
  | .not a, ρ, m => bnd (evE g a ρ m) fun x m => match x with
    | .bl b => some (.ok (.bl (!b)) m)
    | _ => none
  | .ite c a b, ρ, m => bnd (evE g c ρ m) fun x m => match x with
    | .bl true => evE g a ρ m
    | .bl false => evE g b ρ m
    | _ => none
  | .tup es, ρ, m => bndL (evL g es ρ m) fun ds m => if ds.length ≤ sizeLine then some (.ok (.tup ds) m) else none
  | .lst mu es, ρ, m => bndL (evL g es ρ m) fun ds m => if ds.length ≤ sizeLine then okP (some (newL mu m ds)) else none
  | .ix a b, ρ, m => bnd (evE g a ρ m) fun x m => bnd (evE g b ρ m) fun y m => (ixD m x y).map fun d => .ok d m
  | .sl mu a lo hi, ρ, m => bnd (evE g a ρ m) fun x m => evO g lo ρ m fun l m => evO g hi ρ m fun h m => okP (slD mu m x l h)
  | .rsl a k, ρ, m => bnd (evE g a ρ m) fun x m => bnd (evE g k ρ m) fun y m => okP (rslD m x y)
  | .cal f es, ρ, m => bndL (evL g es ρ m) fun ds m => g.F f ds m
  | .mk c es, ρ, m => bndL (evL g es ρ m) fun ds m => g.new c ds m
  | .bi b mu es, ρ, m => bndL (evL g es ρ m) fun ds m => okP (biD b mu m ds)
  | .rgl b mu it, ρ, m => bndI (evI g it ρ m) fun s m => match s with
    | .fix xs => if xs.length ≤ 4000 then (if b then okP (some (newL mu m xs)) else some (.ok (.tup xs) m)) else none
    | _ => none
  | .isi a ts, ρ, m => bnd (evE g a ρ m) fun x m => okB m (isiD m x ts)
  | .mth f a es, ρ, m => bnd (evE g a ρ m) fun x m => if mtOk f m x then bndL (evL g es ρ m) fun ds m => okP (mtD f m x ds) else none
  | .omt n a es, ρ, m => bnd (evE g a ρ m) fun x m => match insD m n x with
    | some c => match g.meth c n es.len with
      | some f => bndL (evL g es ρ m) fun ds m => g.F f (x :: ds) m
      | none => none
    | none => none
  | .att a f, ρ, m => bnd (evE g a ρ m) fun x m => match clsD m x with
    | some c => match g.prop c f with
      | some p => g.F p [x] m
      | none => match fldD g.nm m f x with
        | some d => some (.ok d m)
        | none => none
    | none => none
  | .cmpr mu elt tg it cond own, ρ, m => bndI (evI g it ρ m) fun s m => match compD (compT tg own (evE g cond) (evE g elt) ρ) s m with
      | some (ys, m) => okP (some (newL mu m ys))
      | none => none
  | .lgn f mu es, ρ, m => bndL (evL g es ρ m) fun ds m => lgnK mu (g.gen f ds m)
  | .sst mu a, ρ, m => bnd (evE g a ρ m) fun x m => okP (sstD mu m x)
def evL (g : Gt) : Es → Ro → List R → Option RsL
  | .nil, _, m => some (.ok [] m)
  | .cons e r, ρ, m => consL (evE g e ρ m) fun m => evL g r ρ m
def evO (g : Gt) : Oe → Ro → List R → (Option Int → List R → Option Rs) → Option Rs
  | .non, _, m, k => k none m
  | .some e, ρ, m, k => bnd (evE g e ρ m) fun x m => match x with
    | .int i => k (some i) m
    | _ => none
def evI (g : Gt) : It → Ro → List R → Option RsI
  | .seq e, ρ, m => toI (evE g e ρ m) fun x m => match x with
    | .tup xs => some (.ok (.fix xs) m)
    | .lst xs => some (.ok (.fix xs) m)
    | .ext xs => some (.ok (.fix xs) m)
    | .str z => some (.ok (.fix (signsD z)) m)
    | .res j => match m[j]? with
      | some (.lst xs) => some (.ok (.live j xs.length) m)
      | _ => none
    | _ => none
  | .rg1 e, ρ, m => toI (evE g e ρ m) fun x m => match x with
    | .int i => if smallI i then some (.ok (.fix (rngD 0 i)) m) else none
    | _ => none
  | .rg2 a b, ρ, m => toI (evE g a ρ m) fun x m => toI (evE g b ρ m) fun y m => match x, y with
    | .int i, .int j => if smallI i && smallI j then some (.ok (.fix (rngD i j)) m) else none
    | _, _ => none
  | .enu e, ρ, m => toI (evE g e ρ m) fun x m => match fsq x with
    | some xs => some (.ok (.fix (enuD xs)) m)
    | none => none
  | .zip a b, ρ, m => toI (evE g a ρ m) fun x m => toI (evE g b ρ m) fun y m => match fsq x, fsq y with
    | some xs, some ys => some (.ok (.fix (zipD xs ys)) m)
    | _, _ => none
  | .ezp a b, ρ, m => toI (evE g a ρ m) fun x m => toI (evE g b ρ m) fun y m => match fsq x, fsq y with
    | some xs, some ys => some (.ok (.fix (enuD (zipD xs ys))) m)
    | _, _ => none
end
/-! ### statements -/
/-- a loop over items that stand still -/
def forF (t : D → Ro → List R → Option SO) : List D → Ro → List R → Option SO
  | [], ρ, m => some (.nx ρ m)
  | x :: xs, ρ, m => match t x ρ m with
    | some (.nx ρ m) => forF t xs ρ m
    | some (.ct ρ m) => forF t xs ρ m
    | some (.bk ρ m) => some (.nx ρ m)
    | o => o
/-- a loop over a list that may change, n turns at most -/
def forV (t : D → Ro → List R → Option SO) (k : Nat) : Nat → Nat → Ro → List R → Option SO
  | n, i, ρ, m => match m[k]? with
    | some (.lst ys) => match ys[i]? with
      | none => some (.nx ρ m)
      | some x => match n with
        | 0 => none
        | n + 1 => match t x ρ m with
          | some (.nx ρ m) => forV t k n (i + 1) ρ m
          | some (.ct ρ m) => forV t k n (i + 1) ρ m
          | some (.bk ρ m) => some (.nx ρ m)
          | o => o
    | _ => none
def forD (t : D → Ro → List R → Option SO) (s : Src) (ρ : Ro) (m : List R) : Option SO := match s with
  | .fix xs => forF t xs ρ m
  | .live k n => forV t k n 0 ρ m
def whlD (c : Ro → List R → Option Rs) (t : Ro → List R → Option SO) : Nat → Ro → List R → Option SO
  | 0, _, _ => none
  | n + 1, ρ, m => bndS (c ρ m) ρ fun b m => match b with
    | .bl true => match t ρ m with
      | some (.nx ρ m) => whlD c t n ρ m
      | some (.ct ρ m) => whlD c t n ρ m
      | some (.bk ρ m) => some (.nx ρ m)
      | o => o
    | .bl false => some (.nx ρ m)
    | _ => none
def stiD (m : List R) (o i d : D) : Option (List R) := match i with
  | .int i => match resL m o with
    | some (k, ys) => match L2.ixN ys.length i with
      | some j => some (m.set k (.lst (ys.set j d)))
      | none => none
    | none => none
  | _ => none
def putD (f : Str) (d : D) : List (Str × D) → List (Str × D)
  | [] => [(f, d)]
  | (g, e) :: r => if g = f then (g, d) :: r else (g, e) :: putD f d r
def stfD (g : Gt) (m : List R) (o : D) (f : Str) (d : D) : Option (List R) := match o with
  | .res k => match m[k]? with
    | some (.obj c fs) => if fs.length < 20 ∧ (g.nm c).contains f ∧ (g.prop c f).isNone then some (m.set k (.obj c (putD f d fs))) else none
    | _ => none
  | _ => none
def augD (o : Bop) (a b : D) : Option D := match o with
  | .add => match a, b with
    | .int x, .int y => some (.int (x + y))
    | _, _ => none
  | .sub => match a, b with
    | .int x, .int y => some (.int (x - y))
    | _, _ => none
  | _ => none
mutual
def evS (g : Gt) : S → Ro → List R → Option SO
  | .pass, ρ, m => some (.nx ρ m)
  | .brk, ρ, m => some (.bk ρ m)
  | .cnt, ρ, m => some (.ct ρ m)
  | .never, _, _ => none
  | .expr e, ρ, m => bndS (evE g e ρ m) ρ fun _ m => some (.nx ρ m)
  | .ret e, ρ, m => bndS (evE g e ρ m) ρ fun d m => some (.rt d m)
  | .retN, _, m => some (.rt .non m)
  | .asg t e, ρ, m => bndS (evE g e ρ m) ρ fun d m => (setG t d ρ).map fun ρ' => .nx ρ' m
  | .aug i o e, ρ, m => match ρ[i]? with
    | some (some x) => bndS (evE g e ρ m) ρ fun y m => (augD o x y).map fun z => .nx (ρ.set i (some z)) m
    | _ => none
  | .ifs c a b, ρ, m => bndS (evE g c ρ m) ρ fun x m => match x with
    | .bl true => evSs g a ρ m
    | .bl false => evSs g b ρ m
    | _ => none
  | .whl n c b, ρ, m => whlD (evE g c) (evSs g b) n ρ m
  | .forr t it b, ρ, m => bndSI (evI g it ρ m) ρ fun s m => forD (bodyD t (evSs g b)) s ρ m
  | .sti o i e, ρ, m => bndS (evE g e ρ m) ρ fun d m => bndS (evE g o ρ m) ρ fun x m => bndS (evE g i ρ m) ρ fun j m => (stiD m x j d).map fun m => .nx ρ m
  | .stf o f e, ρ, m => bndS (evE g e ρ m) ρ fun d m => bndS (evE g o ρ m) ρ fun x m => (stfD g m x f d).map fun m => .nx ρ m
  | .forg i xs t b, ρ, m => bndLS (evL g xs ρ m) ρ fun ds m => g.gfr i (bodyD t (evSs g b)) ds ρ m
def evSs (g : Gt) : Ss → Ro → List R → Option SO
  | .nil, ρ, m => some (.nx ρ m)
  | .cons s r, ρ, m => match evS g s ρ m with
    | some (.nx ρ m) => evSs g r ρ m
    | o => o
end
end Dv

namespace Dv
open PySem PySem.Spec PyProof.Rows L2 HT
/-! tuples, their objects told -/
section
variable {X : Cx} {pins : List (Addr × Obj)} {σ : L2.St} {H : Hp} {s : Shared}
/-- a new tuple is laid -/
theorem laidT (I : Inv X pins σ H s) {xs : List V} {us : List Value} {t' : Nat} (r : Vals xs us) (hz : xs.length ≤ sizeLine) :
    Inv X pins σ (upd H s.heap.objs.size (.frz { cls := .type "tuple", data := .seq us.toArray } (.tup xs))) { s with heap := s.heap.push { cls := .type "tuple", data := .seq us.toArray }, toks := t' } :=
  I.laid (t' := t') (fun b u e => Heap.get?_push_of_some _ e) (Nat.le_refl _) ⟨Heap.get?_push_size _ rfl, hz, us, r, IsTup.new _ _⟩
end
section
variable {X : Cx} {es : List Expr} {t : TA} {pos : Pos}
def tTupF (t : TA) : TE := fun σ H Q => t σ H fun xs H1 => xs.length ≤ sizeLine ∧ ∀ p o, H1 p = none → PTo o → Q (.ref p) (upd H1 p (.frz o (.tup xs)))
theorem pe_tupF {x1} (h : PA X es t) : PE X (.Tuple es x1 pos) (tTupF t) := by
  refine ⟨fun pins s σ H Q I hq => ?_⟩
  refine wpAny_Tuple_spliced (thn (h.run pos pins s σ H _ I hq) fun us s1 ⟨xs, H1, I1, r, z, q⟩ => ⟨by rw [← r.length]; exact z, ?_⟩)
  exact ⟨.ref s1.heap.objs.size, _, laidT (t' := s1.toks) I1 r z, rfl, q _ _ (I1.hok.fresh (Nat.le_refl _)) ⟨us, rfl⟩⟩
/-- tuple(x) -/
theorem call_tupleF : CallR X (.type "tuple") (fun xs H Q => ∃ p ys, xs = [.ref p] ∧ ((SqL X.K H p ys ∧ ∀ l o, H l = none → PTo o → Q (.ref l) (upd H l (.frz o (.tup ys)))) ∨ (SqT X.K H p ys ∧ Q (.ref p) H))) := by
  intro pins s σ H xs us Q I r h
  obtain ⟨p, ys, rfl, h⟩ := h
  obtain ⟨u, rfl, rx⟩ := vals1 r
  cases rx
  rcases h with ⟨hq, q⟩ | ⟨hq, q⟩
  · obtain ⟨its, r', pl, hz⟩ := I.list hq
    have hlen := r'.length
    refine call_tuple_list pl.isList (fun h' kp => ?_) (by simp only [List.size_toArray] <;> omega)
    have I1 : Inv X pins σ H { s with heap := h' } := I.kept (t' := s.toks) kp
    exact ⟨.ref h'.objs.size, _, laidT (t' := s.toks) I1 r' hz, rfl, q _ _ (I1.hok.fresh (Nat.le_refl _)) ⟨its, rfl⟩⟩
  · obtain ⟨its, r', pl, hz⟩ := I.tuple hq
    exact call_tuple_same pl ⟨.ref p, H, I, rfl, q⟩
/-- t + u -/
def rCatF (K : PySem.W.Frag) : R2 := fun x y H Q => ∃ a b xs ys, x = .ref a ∧ y = .ref b ∧ SqT K H a xs ∧ SqT K H b ys ∧ xs.length + ys.length ≤ sizeLine ∧
  (xs = [] → Q (.ref b) H) ∧ (xs ≠ [] → ys = [] → Q (.ref a) H) ∧ (xs ≠ [] → ys ≠ [] → ∀ p o, H p = none → PTo o → Q (.ref p) (upd H p (.frz o (.tup (xs ++ ys)))))
theorem op_catF : OpR X (binaryOp .Add) (rCatF X.K) := by
  intro pins s σ H x y v u Q I rx ry h
  obtain ⟨a, b, xs, ys, rfl, rfl, ha, hb, hz, q0, q1, q2⟩ := h
  by_cases hx : xs = []
  · subst hx
    cases rx
    cases ry
    obtain ⟨its, r1, p1, _⟩ := I.tuple ha
    obtain ⟨its2, r2, p2, _⟩ := I.tuple hb
    cases r1
    exact cat_tup0 p1 p2 ⟨.ref b, H, I, rfl, q0 rfl⟩
  · cases rx
    cases ry
    obtain ⟨its, r1, p1, z1⟩ := I.tuple ha
    obtain ⟨its2, r2, p2, z2⟩ := I.tuple hb
    have n1 : its ≠ [] := fun e => hx (r1.nil_iff.mp e)
    refine HT.cat_tup p1 p2 n1 (fun e => ⟨.ref a, H, I, rfl, q1 hx (r2.nil_iff.mp e)⟩) (fun e => ?_) (by rw [← r1.length, ← r2.length]; exact hz)
    exact ⟨.ref s.heap.objs.size, _, laidT (t' := s.toks) I (r1.append r2) (by rw [List.length_append]; exact hz), rfl, q2 hx (fun z => e (r2.nil_iff.mpr z)) _ _ (I.hok.fresh (Nat.le_refl _)) ⟨_, rfl⟩⟩
/-- t[lo:hi]: the whole of it is t itself -/
def rSlF (K : PySem.W.Frag) : V → Option Int → Option Int → Hp → VK → Prop := fun x lo hi H Q => ∃ a xs, x = .ref a ∧ SqT K H a xs ∧
  (HT.sIx xs.length 0 lo = 0 ∧ HT.sIx xs.length xs.length hi = xs.length → Q (.ref a) H) ∧ (¬ (HT.sIx xs.length 0 lo = 0 ∧ HT.sIx xs.length xs.length hi = xs.length) → ∀ p o, H p = none → PTo o → Q (.ref p) (upd H p (.frz o (.tup (cutV xs lo hi)))))
theorem sl_tupF : SlR X (rSlF X.K) := by
  intro pins s σ H x v vl vu lo hi sl Q I rx hs pl pu h
  obtain ⟨a, xs, rfl, hx, q1, q2⟩ := h
  cases rx
  obtain ⟨its, r, ht, hz⟩ := I.tuple hx
  have hlen : its.toArray.size = xs.length := by rw [List.size_toArray]; exact r.length.symm
  refine ⟨"tuple", _, PyProof.Rows.slot_tuple_getitem.lookup, ht.typeIs, ?_⟩
  by_cases hw : HT.sIx xs.length 0 lo = 0 ∧ HT.sIx xs.length xs.length hi = xs.length
  · exact getItem_tuple_whole ht hs pl pu (by rw [hlen]; exact hw) ⟨.ref a, H, I, rfl, q1 hw⟩
  · refine HT.getItem_tuple_cut ht hs pl pu (by rw [hlen]; exact hw) ?_ (by rw [hlen]; exact hz)
    rw [hlen]
    exact ⟨.ref s.heap.objs.size, _, laidT (t' := s.toks) I ((r.drop (HT.sIx xs.length 0 lo)).take (HT.sIx xs.length xs.length hi - HT.sIx xs.length 0 lo)) (Nat.le_trans (cutV_length xs lo hi) hz), rfl, q2 hw _ _ (I.hok.fresh (Nat.le_refl _)) ⟨_, rfl⟩⟩
/-- t * k, both of some size -/
def rMulF (K : PySem.W.Frag) : R2 := fun x y H Q => ∃ a k xs, x = .ref a ∧ y = .int k ∧ SqT K H a xs ∧ (xs ≠ [] ∧ 2 ≤ k ∧ k ≤ 1000 ∧ xs.length ≤ 1000) ∧
  ∀ p o, H p = none → PTo o → Q (.ref p) (upd H p (.frz o (.tup (List.replicate k.toNat xs).flatten)))
theorem op_mulF : OpR X (binaryOp .Mult) (rMulF X.K) := by
  intro pins s σ H x y v u Q I rx ry h
  obtain ⟨a, k, xs, rfl, rfl, hT, ⟨ne, k2, k1000, x1000⟩, q⟩ := h
  cases rx
  obtain ⟨tk, rfl⟩ := ry
  obtain ⟨ws, r, ⟨⟨cl, dd, da, sl⟩, ho, hc, n, hd⟩, -⟩ := I.tuple hT
  dsimp only at hc hd
  subst hc; subst hd
  have hl := r.length
  have hw : ws ≠ [] := fun e => ne (r.nil_iff.mp e)
  have z : ws.toArray.size = xs.length := by rw [List.size_toArray]; exact hl.symm
  have full : ws.toArray.isEmpty = false := by
    cases ws with
    | nil => exact absurd rfl hw
    | cons _ _ => rfl
  have small : (xs.length : Int) * k ≤ 1000000 := by
    have := Int.mul_le_mul_of_nonneg_right (show (xs.length : Int) ≤ 1000 by omega) (show 0 ≤ k by omega)
    omega
  have room : k.toNat * xs.length ≤ 16000000 := Nat.le_trans (Nat.mul_le_mul (show k.toNat ≤ 1000 by omega) x1000) (by decide)
  have room' : (List.replicate k.toNat ws).flatten.length ≤ sizeLine := by
    rw [PyProof.Rows.lm_len_rep_flat, ← hl, sizeLine_eq]
    omega
  have t4 : Builtin.Tuple.tupleTooMany ((ws.toArray.size : Int) * k) = false := decide_eq_false (by rw [z, sizeLine_eq]; omega)
  have go := tuple_mulW a ws.toArray n dd sl k tk (by simp only [Bool.or_eq_false_iff, decide_eq_false_iff_not]; omega) (by simp only [full, Bool.false_or, beq_eq_false_iff_ne]; omega)
    (by simp only [full, Bool.or_false, decide_eq_false_iff_not]; omega) (by rw [z]; omega) t4 (by rw [size_rep, List.size_toArray]; exact room')
  refine wpAny_binaryOp_repeat_ref (T := "tuple") (U := "int") (by decide) ⟨_, ho, rfl⟩ (typeIs_int · k tk) noFill_tuple_mul F.fills_int_mul F.slot_int_rmul repeat_tuple F.slot_int_index.lookup ?_
  refine call_meets F.slot_int_rmul (typeIs_int s k tk) F.entry_int_rmul (F.args_int_rmul_2 _ _) (int_rmul_tuple k tk a ws.toArray n dd sl) ⟨ho, rfl, ⟨_, ho, rfl⟩, ?_⟩
  refine call_meets F.slot_tuple_mul ⟨_, ho, rfl⟩ F.entry_tuple_mul (F.args_tuple_mul_2 _ _) go ⟨ho, ?_⟩
  rw [size_rep]
  exact ⟨.ref s.heap.objs.size, _, laidT (t' := s.toks) I (r.rep k.toNat) (by rw [PyProof.Rows.lm_len_rep_flat, sizeLine_eq]; omega), rfl, q _ _ (I.hok.fresh (Nat.le_refl _)) ⟨_, rfl⟩⟩
/-- the objects of tuples laid by a rule of the layer: told again -/
theorem PTo.of {o : Obj} {us : List Value} (h : o = { cls := .type "tuple", data := .seq us.toArray }) : PTo o := ⟨us, h⟩
end
end Dv

namespace Dv
open PySem PySem.Spec PyProof.Rows L2

section
variable {T : Tb} {w : Wd} {m : List R}
theorem lsq_rep (W : Wf T w m) {d : D} {v : V} {xs : List D} (h : Rep T w.Hs w.al v d) (e : lsq m d = some xs) : ∃ a vs, v = .ref a ∧ w.H a = some (.lst vs) ∧ RepL T w.Hs w.al vs xs := by
  cases h with
  | lst s r =>
    have e' := Option.some.inj e
    subst e'
    exact ⟨_, _, rfl, W.sub _ _ s, r⟩
  | @res a k hk =>
    unfold lsq at e
    simp only at e
    split at e
    · rename_i ys hm
      cases e
      obtain ⟨vs, h1, h2⟩ := W.ok k a _ hk hm
      exact ⟨_, _, rfl, h1, h2⟩
    · cases e
  | _ => cases e
theorem sq_rep (W : Wf T w m) {d : D} {v : V} {xs : List D} (h : Rep T w.Hs w.al v d) (e : sq m d = some xs) : ∃ a vs, v = .ref a ∧ (SqL T.K w.H a vs ∨ SqT T.K w.H a vs) ∧ RepL T w.Hs w.al vs xs := by
  cases h with
  | tup s r =>
    have e' := Option.some.inj e
    subst e'
    exact ⟨_, _, rfl, .inr (Le.sqN W.sub s).sqT, r⟩
  | lst s r =>
    have e' := Option.some.inj e
    subst e'
    exact ⟨_, _, rfl, .inl (SqL.of (W.sub _ _ s)), r⟩
  | ext s r =>
    have e' := Option.some.inj e
    subst e'
    exact ⟨_, _, rfl, .inl (Le.sqL W.sub s), r⟩
  | @res a k hk =>
    unfold sq at e
    simp only at e
    split at e
    · rename_i ys hm
      cases e
      obtain ⟨vs, h1, h2⟩ := W.ok k a _ hk hm
      exact ⟨_, _, rfl, .inl (SqL.of h1), h2⟩
    · cases e
  | _ => cases e

/-- a new list, by its readings' place -/
theorem new_list (W : Wf T w m) {mu : Bool} {vs : List V} {xs : List D} (r : RepL T w.Hs w.al vs xs) {Q : VK} {p : Addr} (hp : w.H p = none)
    (q : ∀ w' v, Ext w w' → Wf T w' (newL mu m xs).2 → Rep T w'.Hs w'.al v (newL mu m xs).1 → Q v w'.H) : Q (.ref p) (upd w.H p (.lst vs)) := by
  cases mu with
  | false =>
    obtain ⟨W', e⟩ := W.fz (.lst vs) hp
    exact q (w.fz p (.lst vs)) _ e W' (.lst (by show upd w.Hs p _ p = _; rw [upd_same]) (r.on e))
  | true =>
    have hr : RO T (w.mu p (.lst vs)) p (.lst xs) := ⟨vs, by show upd w.H p _ p = _; rw [upd_same], r.mono (Le.refl _) (LeA.app _ _)⟩
    obtain ⟨W', e⟩ := W.mu hp hr
    refine q (w.mu p (.lst vs)) _ e W' (.res ?_)
    show (w.al ++ [p])[m.length]? = some p
    rw [← W.len]
    simp
theorem new_tup (W : Wf T w m) {vs : List V} {xs : List D} (r : RepL T w.Hs w.al vs xs) {Q : VK} {p : Addr} {o : Obj} (hp : w.H p = none) (ho : PTo o)
    (q : ∀ w' v, Ext w w' → Wf T w' m → Rep T w'.Hs w'.al v (.tup xs) → Q v w'.H) : Q (.ref p) (upd w.H p (.frz o (.tup vs))) := by
  obtain ⟨W', e⟩ := W.fz (.frz o (.tup vs)) hp
  exact q (w.fz p (.frz o (.tup vs))) _ e W' (.tup ⟨o, by show upd w.Hs p _ p = _; rw [upd_same], ho⟩ (r.on e))
end

/-- a binary operator's reading does what g says -/
def OpS (T : Tb) (r : R2) (g : List R → D → D → Option (D × List R)) : Prop :=
  ∀ (w : Wd) (m : List R) (x y : V) (dx dy : D) (p : D × List R) (Q : VK), Wf T w m → Rep T w.Hs w.al x dx → Rep T w.Hs w.al y dy → g m dx dy = some p →
    (∀ w' v, Ext w w' → Wf T w' p.2 → Rep T w'.Hs w'.al v p.1 → Q v w'.H) → r x y w.H Q
theorem OpS.here {T : Tb} {w : Wd} {m : List R} {Q : VK} {d : D} {v : V} (W : Wf T w m) (q : ∀ w' v, Ext w w' → Wf T w' m → Rep T w'.Hs w'.al v d → Q v w'.H) (h : Rep T w.Hs w.al v d) : Q v w.H := q w v (Ext.refl _) W h

section
variable {T : Tb}
def rAdd4 (K : PySem.W.Frag) : R2 := fun x y H Q => (rI0 fun i j => .int (i + j)) x y H Q ∨ ((fun x y H Q => ∃ i j, x = .str i ∧ y = .str j ∧ i.length + j.length ≤ sizeLine ∧ Q (.str (i ++ j)) H) : R2) x y H Q ∨ rCatF K x y H Q ∨ rCat x y H Q
theorem op_add4 {X : Cx} : OpR X (binaryOp .Add) (rAdd4 X.K) := OpR.or op_add (OpR.or op_add_str (OpR.or op_catF op_cat))
theorem addD_lists {mu : Bool} {m : List R} {a b : D} {p : D × List R} (e : (match lsq m a, lsq m b with
    | some xs, some ys => if xs.length + ys.length ≤ sizeLine then some (newL mu m (xs ++ ys)) else none
    | _, _ => none) = some p) : ∃ xs ys, lsq m a = some xs ∧ lsq m b = some ys ∧ xs.length + ys.length ≤ sizeLine ∧ p = newL mu m (xs ++ ys) := by
  split at e
  · rename_i xs ys h1 h2
    split at e
    · cases e; exact ⟨xs, ys, h1, h2, by assumption, rfl⟩
    · cases e
  · cases e
theorem add_s (mu : Bool) : OpS T (rAdd4 T.K) (fun m a b => addD mu m a b) := by
  intro w m x y dx dy p Q W hx hy e q
  have cat : (∃ xs ys, lsq m dx = some xs ∧ lsq m dy = some ys ∧ xs.length + ys.length ≤ sizeLine ∧ p = newL mu m (xs ++ ys)) → rAdd4 T.K x y w.H Q := fun ⟨xs, ys, h1, h2, hl, ep⟩ => by
    subst ep
    obtain ⟨a, vs, rfl, ha, ra⟩ := lsq_rep W hx h1
    obtain ⟨b, us, rfl, hb, rb⟩ := lsq_rep W hy h2
    exact .inr (.inr (.inr ⟨a, b, vs, us, rfl, rfl, ha, hb, by rw [ra.length, rb.length]; exact hl, fun p hp => new_list W (ra.append rb) hp q⟩))
  cases dx with
  | int i =>
    cases dy with
    | int j =>
      cases hx; cases hy; cases e
      exact .inl ⟨i, j, rfl, rfl, OpS.here W q (.int _)⟩
    | _ => exact cat (addD_lists e)
  | str i =>
    cases dy with
    | str j =>
      cases hx; cases hy
      simp only [addD] at e
      split at e
      · cases e
        exact .inr (.inl ⟨i, j, rfl, rfl, by assumption, OpS.here W q (.str _)⟩)
      · cases e
    | _ => exact cat (addD_lists e)
  | tup xs =>
    cases dy with
    | tup ys =>
      simp only [addD] at e
      split at e
      · rename_i hl
        cases e
        cases hx with
        | tup sx rx =>
          cases hy with
          | tup sy ry =>
            rename_i a vs b us
            refine .inr (.inr (.inl ⟨a, b, vs, us, rfl, rfl, (Le.sqN W.sub sx).sqT, (Le.sqN W.sub sy).sqT, by rw [rx.length, ry.length]; exact hl, fun hn => ?_, fun h1 hn => ?_, fun _ _ p o hp ho => new_tup W (rx.append ry) hp ho q⟩))
            · subst hn
              cases rx
              exact OpS.here W q (.tup sy ry)
            · subst hn
              cases ry
              rw [List.append_nil] at q
              exact OpS.here W q (.tup sx rx)
      · cases e
    | _ => exact cat (addD_lists e)
  | _ => exact cat (addD_lists e)

def rMul3 (K : PySem.W.Frag) : R2 := fun x y H Q => rI CMul (fun i j => .int (i * j)) x y H Q ∨ rRep x y H Q
def rMul4 (K : PySem.W.Frag) : R2 := fun x y H Q => rMul3 K x y H Q ∨ rMulF K x y H Q
theorem op_mul4 {X : Cx} : OpR X (binaryOp .Mult) (rMul4 X.K) := OpR.or (OpR.or op_mul op_rep) op_mulF
theorem op_mul3 {X : Cx} : OpR X (binaryOp .Mult) (rMul3 X.K) := OpR.or op_mul op_rep
theorem mul_s (mu : Bool) : OpS T (rMul4 T.K) (fun m a b => mulD mu m a b) := by
  intro w m x y dx dy p Q W hx hy e q
  have rp : ∀ k, dy = .int k → (∃ xs, lsq m dx = some xs ∧ (-(2 ^ 63) ≤ k ∧ k < 2 ^ 63 ∧ xs.length * k.toNat ≤ sizeLine) ∧ p = newL mu m (List.replicate k.toNat xs).flatten) → rMul4 T.K x y w.H Q := fun k ek ⟨xs, h1, hl, ep⟩ => by
    subst ep; subst ek
    cases hy
    obtain ⟨a, vs, rfl, ha, ra⟩ := lsq_rep W hx h1
    exact .inl (.inr ⟨a, k, vs, rfl, rfl, ha, hl.1, hl.2.1, by rw [ra.length]; exact hl.2.2, fun p hp => new_list W (ra.rep _) hp q⟩)
  have gen : ∀ k, dy = .int k → (match lsq m dx with
      | some xs => if -(2 ^ 63) ≤ k ∧ k < 2 ^ 63 ∧ xs.length * k.toNat ≤ sizeLine then some (newL mu m (List.replicate k.toNat xs).flatten) else none
      | none => none) = some p → rMul4 T.K x y w.H Q := fun k ek e => by
    split at e
    · rename_i xs h1
      split at e
      · cases e; exact rp k ek ⟨xs, h1, by assumption, rfl⟩
      · cases e
    · cases e
  cases dy with
  | int k =>
    cases dx with
    | int i =>
      cases hx; cases hy
      simp only [mulD] at e
      split at e
      · cases e
        exact .inl (.inl ⟨i, k, rfl, rfl, by assumption, OpS.here W q (.int _)⟩)
      · cases e
    | tup xs =>
      cases hx with
      | tup sx rx =>
        cases hy
        simp only [mulD] at e
        split at e
        · rename_i hc
          cases e
          refine .inr ⟨_, k, _, rfl, rfl, (Le.sqN W.sub sx).sqT, ⟨fun z => ?_, hc.2.1, hc.2.2.1, by rw [rx.length]; exact hc.2.2.2⟩, fun p o hp ho => new_tup W (rx.rep _) hp ho q⟩
          subst z
          cases rx
          exact absurd hc.1 (by decide)
        · cases e
    | _ => exact gen k rfl e
  | _ => cases dx <;> cases e

theorem sub_s : OpS T (rI0 fun i j => .int (i - j)) (fun m a b => bopD .sub false m a b) := by
  intro w m x y dx dy p Q W hx hy e q
  cases dx <;> cases dy <;> cases e
  cases hx; cases hy
  exact ⟨_, _, rfl, rfl, OpS.here W q (.int _)⟩
theorem fdiv_s : OpS T (rI CDivW fun i j => .int (i / j)) (fun m a b => bopD .fdiv false m a b) := by
  intro w m x y dx dy p Q W hx hy e q
  cases dx <;> cases dy <;> first | (cases e; done) | skip
  simp only [bopD] at e
  split at e
  · rename_i i j h
    cases e
    cases hx; cases hy
    exact ⟨_, _, rfl, rfl, wide_div h.1 (b := 64) (by omega) (by decide) (by decide), OpS.here W q (.int _)⟩
  · cases e
theorem mod_s : OpS T (rI (fun _ j => 0 < j) fun i j => .int (i % j)) (fun m a b => bopD .mod false m a b) := by
  intro w m x y dx dy p Q W hx hy e q
  cases dx <;> cases dy <;> first | (cases e; done) | skip
  simp only [bopD] at e
  split at e
  · rename_i i j h
    cases e
    cases hx; cases hy
    exact ⟨_, _, rfl, rfl, h, OpS.here W q (.int _)⟩
  · cases e
theorem pow_s : OpS T (rI CPow fun i j => .int (i ^ j.toNat)) (fun m a b => bopD .pow false m a b) := by
  intro w m x y dx dy p Q W hx hy e q
  cases dx <;> cases dy <;> first | (cases e; done) | skip
  simp only [bopD] at e
  split at e
  · rename_i i j h
    cases e
    cases hx; cases hy
    exact ⟨_, _, rfl, rfl, h, OpS.here W q (.int _)⟩
  · cases e

def oprB : Bop → Operator
  | .add => .Add | .sub => .Sub | .mul => .Mult | .fdiv => .FloorDiv | .mod => .Mod | .pow => .Pow
theorem bop_s {X : Cx} (hK : X.K = T.K) (o : Bop) (mu : Bool) : ∃ r, OpR X (binaryOp (oprB o)) r ∧ OpS T r (fun m a b => bopD o mu m a b) := by
  cases o with
  | add => exact ⟨_, op_add4, hK ▸ add_s mu⟩
  | sub => exact ⟨_, op_sub, sub_s⟩
  | mul => exact ⟨_, op_mul4, hK ▸ mul_s mu⟩
  | fdiv => exact ⟨_, op_fdivW, fdiv_s⟩
  | mod => exact ⟨_, op_mod, mod_s⟩
  | pow => exact ⟨_, op_pow, pow_s⟩
end
end Dv

namespace Dv
open PySem PySem.Spec PyProof.Rows L2

section
variable {T : Tb} {w : Wd} {m : List R}
mutual
theorem pd_dp (W : Wf T w m) : ∀ {d : D} {v : V} {x : PyData}, Rep T w.Hs w.al v d → pd m d = some x → Dp T.K w.H v x ∧ PyData.canLay0 x = true
  | _, _, _, .non, e => by cases e; exact ⟨.non, by simp only [PyData.canLay0]⟩
  | _, _, _, .bl b, e => by cases e; exact ⟨.bl b, by simp only [PyData.canLay0]⟩
  | _, _, _, .int b, e => by cases e; exact ⟨.int b, by simp only [PyData.canLay0]⟩
  | _, _, _, .str b, e => by
    simp only [pd] at e
    split at e
    · rename_i h
      cases e; exact ⟨.str b, by simp only [PyData.canLay0]; exact h⟩
    · cases e
  | .tup xs, _, _, .tup s r, e => by
    simp only [pd] at e
    cases h : pdL m xs with
    | none => rw [h] at e; cases e
    | some as =>
      rw [h] at e
      cases e
      obtain ⟨h1, h2⟩ := pdL_dp W r h
      exact ⟨.tup (Le.sqN W.sub s).sqT h1, by simp only [PyData.canLay0]; exact h2⟩
  | .lst xs, _, _, .lst s r, e => by
    simp only [pd] at e
    cases h : pdL m xs with
    | none => rw [h] at e; cases e
    | some as =>
      rw [h] at e
      cases e
      obtain ⟨h1, h2⟩ := pdL_dp W r h
      exact ⟨.lst (SqL.of (W.sub _ _ s)) h1, by simp only [PyData.canLay0]; exact h2⟩
  | .ext xs, _, _, .ext s r, e => by
    simp only [pd] at e
    cases h : pdL m xs with
    | none => rw [h] at e; cases e
    | some as =>
      rw [h] at e
      cases e
      obtain ⟨h1, h2⟩ := pdL_dp W r h
      exact ⟨.lst (Le.sqL W.sub s) h1, by simp only [PyData.canLay0]; exact h2⟩
  | _, _, _, .obj _ _ _, e => by cases e
  | _, _, _, .res _, e => by cases e
theorem pdL_dp (W : Wf T w m) : ∀ {d : List D} {v : List V} {x : List PyData}, RepL T w.Hs w.al v d → pdL m d = some x → DpAll T.K w.H v x ∧ PyData.canLayAll0 x = true
  | _, _, _, .nil, e => by cases e; exact ⟨.nil, by simp only [PyData.canLayAll0]⟩
  | x :: xs, _, _, .cons r t, e => by
    simp only [pdL] at e
    cases h1 : pd m x with
    | none => rw [h1] at e; cases e
    | some a =>
      cases h2 : pdL m xs with
      | none => rw [h1, h2] at e; cases e
      | some as =>
        rw [h1, h2] at e
        cases e
        obtain ⟨a1, a2⟩ := pd_dp W r h1
        obtain ⟨b1, b2⟩ := pdL_dp W t h2
        exact ⟨.cons a1 b1, by simp only [PyData.canLayAll0, a2, b2, Bool.and_self]⟩
end
theorem pdR_dp (W : Wf T w m) {d : D} {v : V} {x : PyData} (h : Rep T w.Hs w.al v d) (e : pdR m d = some x) : Dp T.K w.H v x ∧ PyData.canLay0 x = true := by
  cases h with
  | @res a k hk =>
    simp only [pdR] at e
    split at e
    · rename_i ys hm
      cases h : pdL m ys with
      | none => rw [h] at e; cases e
      | some as =>
        rw [h] at e
        cases e
        obtain ⟨vs, g1, g2⟩ := W.ok k a _ hk hm
        obtain ⟨h1, h2⟩ := pdL_dp W g2 h
        exact ⟨.lst (SqL.of g1) h1, by simp only [PyData.canLay0]; exact h2⟩
    · cases e
  | non => exact pd_dp W .non e
  | bl b => exact pd_dp W (.bl b) e
  | int b => exact pd_dp W (.int b) e
  | str b => exact pd_dp W (.str b) e
  | tup s r => exact pd_dp W (.tup s r) e
  | lst s r => exact pd_dp W (.lst s r) e
  | ext s r => exact pd_dp W (.ext s r) e
  | obj s n r => exact pd_dp W (.obj s n r) e
theorem shaped_of {x : PyData} (h : PyData.canLay0 x = true) (d : x.depth ≤ 64) : SeqAt.shaped x = true := by
  unfold SeqAt.shaped
  rw [h, decide_eq_true d]; rfl
end

/-- a comparison's reading does what g says -/
def CmpS (T : Tb) (r : R2) (g : List R → D → D → Option Bool) : Prop :=
  ∀ (w : Wd) (m : List R) (x y : V) (dx dy : D) (b : Bool) (Q : VK), Wf T w m → Rep T w.Hs w.al x dx → Rep T w.Hs w.al y dy → g m dx dy = some b → Q (.bl b) w.H → r x y w.H Q

section
variable {T : Tb} {X : Cx}
theorem eqD_some {m : List R} {a b : D} {k : Bool} (e : eqD m a b = some k) : ∃ x y, pdR m a = some x ∧ pdR m b = some y ∧ x.depth ≤ 64 ∧ y.depth ≤ 64 ∧ k = PyData.eqv x y := by
  unfold eqD at e
  split at e
  · rename_i x y h1 h2
    split at e
    · rename_i h
      cases e; exact ⟨x, y, h1, h2, h.1, h.2, rfl⟩
    · cases e
  · cases e
theorem eq_s : CmpS T (rEqD T.K) (fun m a b => eqD m a b) := by
  intro w m x y dx dy b Q W hx hy e q
  obtain ⟨a, c, h1, h2, d1, d2, rfl⟩ := eqD_some e
  obtain ⟨p1, c1⟩ := pdR_dp W hx h1
  obtain ⟨p2, c2⟩ := pdR_dp W hy h2
  exact ⟨a, c, p1, p2, shaped_of c1 d1, shaped_of c2 d2, q⟩
theorem ne_s : CmpS T (rNeD T.K) (fun m a b => (eqD m a b).map (!·)) := by
  intro w m x y dx dy b Q W hx hy e q
  cases h : eqD m dx dy with
  | none => simp only [h] at e; cases e
  | some k =>
    simp only [h] at e
    cases e
    obtain ⟨a, c, h1, h2, d1, d2, rfl⟩ := eqD_some h
    obtain ⟨p1, c1⟩ := pdR_dp W hx h1
    obtain ⟨p2, c2⟩ := pdR_dp W hy h2
    exact ⟨a, c, p1, p2, shaped_of c1 d1, shaped_of c2 d2, q⟩
theorem int_s (f : Int → Int → Bool) : CmpS T (rI0 fun i j => .bl (f i j)) (fun _ a b => cmpI f a b) := by
  intro w m x y dx dy b Q W hx hy e q
  cases dx <;> cases dy <;> cases e
  cases hx; cases hy
  exact ⟨_, _, rfl, rfl, q⟩
theorem Rep.isNon {Hs : Hp} {al : List Addr} {v : V} {d : D} (h : Rep T Hs al v d) : decide (v = .non) = Dv.isNon d := by
  cases h <;> rfl
theorem isN_s : CmpS T (fun x y H Q => y = .non ∧ Q (.bl (decide (x = .non))) H) (fun m a b => copD .isN m a b) := by
  intro w m x y dx dy b Q W hx hy e q
  cases dy <;> cases e
  cases hy
  refine ⟨rfl, ?_⟩
  rw [hx.isNon]; exact q
theorem notN_s : CmpS T (fun x y H Q => y = .non ∧ Q (.bl (!decide (x = .non))) H) (fun m a b => copD .notN m a b) := by
  intro w m x y dx dy b Q W hx hy e q
  cases dy <;> cases e
  cases hy
  refine ⟨rfl, ?_⟩
  rw [hx.isNon]; exact q

/-! `in` a tuple: as the library's for a list -/
def rInDT (K : PySem.W.Frag) (neg : Bool) : R2 := fun x y H Q => ∃ d ds, Dp K H x d ∧ Dp K H y (.tuple ds) ∧ SeqAt.shaped d = true ∧ SeqAt.shaped (.tuple ds) = true ∧ Q (.bl (if neg then !(ds.any fun z => PyData.eqv z d) else ds.any fun z => PyData.eqv z d)) H
theorem op_inDT (hu : X.A.units + 65 < cLine) : OpR X (compareOp .In) (rInDT X.K false) := by
  intro pins s σ H x y v u Q I rx ry h
  obtain ⟨d, ds, hd, he, sd, se, q⟩ := h
  obtain ⟨as, r1⟩ := Dp.reads I d x v hd rx
  obtain ⟨bs, r2⟩ := Dp.reads I (.tuple ds) y u he ry
  exact SeqAt.in_tuple_reads r2 r1 (SeqAt.canLay_of_shaped se) (SeqAt.canLay_of_shaped sd) (room_in_shaped sd hu) ⟨.bl _, H, I, rfl, q⟩
theorem op_notInDT (hu : X.A.units + 65 < cLine) : OpR X (compareOp .NotIn) (rInDT X.K true) := by
  intro pins s σ H x y v u Q I rx ry h
  obtain ⟨d, ds, hd, he, sd, se, q⟩ := h
  obtain ⟨as, r1⟩ := Dp.reads I d x v hd rx
  obtain ⟨bs, r2⟩ := Dp.reads I (.tuple ds) y u he ry
  exact SeqAt.notIn_tuple_reads r2 r1 (SeqAt.canLay_of_shaped se) (SeqAt.canLay_of_shaped sd) (room_in_shaped sd hu) ⟨.bl _, H, I, rfl, q⟩
def rInS (neg : Bool) : R2 := fun x y H Q => ∃ i j, x = .str i ∧ y = .str j ∧ Q (.bl (if neg then (!(!(Builtin.Str.occurrences j i 0 j.length 1).isEmpty)) else !(Builtin.Str.occurrences j i 0 j.length 1).isEmpty)) H
def rIn3 (K : PySem.W.Frag) : R2 := fun x y H Q => rInS false x y H Q ∨ rInD K x y H Q ∨ rInDT K false x y H Q
def rNotIn3 (K : PySem.W.Frag) : R2 := fun x y H Q => rInS true x y H Q ∨ rNotInD K x y H Q ∨ rInDT K true x y H Q
theorem op_in3 (hu : X.A.units + 65 < cLine) : OpR X (compareOp .In) (rIn3 X.K) := OpR.or op_in_str (OpR.or (op_inD hu) (op_inDT hu))
theorem op_notIn3 (hu : X.A.units + 65 < cLine) : OpR X (compareOp .NotIn) (rNotIn3 X.K) := OpR.or op_notIn_str (OpR.or (op_notInD hu) (op_notInDT hu))
theorem inD_some {m : List R} {a b : D} {k : Bool} (e : inD m a b = some k) : (∃ x y, a = .str x ∧ b = .str y ∧ k = !(Builtin.Str.occurrences y x 0 y.length 1).isEmpty) ∨
    ∃ x ys, pdR m a = some x ∧ x.depth ≤ 64 ∧ ((pdR m b = some (.list ys) ∧ (PyData.list ys).depth ≤ 64) ∨ (pdR m b = some (.tuple ys) ∧ (PyData.tuple ys).depth ≤ 64)) ∧ k = ys.any fun z => PyData.eqv z x := by
  unfold inD at e
  split at e
  · cases e; exact .inl ⟨_, _, rfl, rfl, rfl⟩
  · right
    split at e
    · rename_i x ys h1 h2
      split at e
      · rename_i h
        cases e; exact ⟨x, ys, h1, h.1, .inl ⟨h2, h.2⟩, rfl⟩
      · cases e
    · rename_i x ys h1 h2
      split at e
      · rename_i h
        cases e; exact ⟨x, ys, h1, h.1, .inr ⟨h2, h.2⟩, rfl⟩
      · cases e
    · cases e
theorem in_s : CmpS T (rIn3 T.K) (fun m a b => inD m a b) := by
  intro w m x y dx dy b Q W hx hy e q
  rcases inD_some e with ⟨i, j, rfl, rfl, rfl⟩ | ⟨a, ys, h1, d1, h2, rfl⟩
  · cases hx; cases hy
    exact .inl ⟨_, _, rfl, rfl, q⟩
  · obtain ⟨p1, c1⟩ := pdR_dp W hx h1
    rcases h2 with ⟨h2, d2⟩ | ⟨h2, d2⟩
    · obtain ⟨p2, c2⟩ := pdR_dp W hy h2
      exact .inr (.inl ⟨a, ys, p1, p2, shaped_of c1 d1, shaped_of c2 d2, q⟩)
    · obtain ⟨p2, c2⟩ := pdR_dp W hy h2
      exact .inr (.inr ⟨a, ys, p1, p2, shaped_of c1 d1, shaped_of c2 d2, q⟩)
theorem notIn_s : CmpS T (rNotIn3 T.K) (fun m a b => (inD m a b).map (!·)) := by
  intro w m x y dx dy b Q W hx hy e q
  cases h : inD m dx dy with
  | none => simp only [h] at e; cases e
  | some k =>
    simp only [h] at e
    cases e
    rcases inD_some h with ⟨i, j, rfl, rfl, rfl⟩ | ⟨a, ys, h1, d1, h2, rfl⟩
    · cases hx; cases hy
      exact .inl ⟨_, _, rfl, rfl, q⟩
    · obtain ⟨p1, c1⟩ := pdR_dp W hx h1
      rcases h2 with ⟨h2, d2⟩ | ⟨h2, d2⟩
      · obtain ⟨p2, c2⟩ := pdR_dp W hy h2
        exact .inr (.inl ⟨a, ys, p1, p2, shaped_of c1 d1, shaped_of c2 d2, q⟩)
      · obtain ⟨p2, c2⟩ := pdR_dp W hy h2
        exact .inr (.inr ⟨a, ys, p1, p2, shaped_of c1 d1, shaped_of c2 d2, q⟩)
def oprC : Cop → CmpOp
  | .eq => .Eq | .ne => .NotEq | .lt => .Lt | .le => .LtE | .gt => .Gt | .ge => .GtE | .isN => .Is | .notN => .IsNot | .inn => .In | .nin => .NotIn
theorem cop_s (hK : X.K = T.K) (hu : X.A.units + 65 < cLine) (o : Cop) : ∃ r, OpR X (compareOp (oprC o)) r ∧ CmpS T r (fun m a b => copD o m a b) := by
  cases o with
  | eq => exact ⟨_, op_eqD (by omega), hK ▸ eq_s⟩
  | ne => exact ⟨_, op_neD (by omega), hK ▸ ne_s⟩
  | lt => exact ⟨_, op_lt, int_s _⟩
  | le => exact ⟨_, op_le, int_s _⟩
  | gt => exact ⟨_, op_gt, int_s _⟩
  | ge => exact ⟨_, op_ge, int_s _⟩
  | isN => exact ⟨_, op_isN, isN_s⟩
  | notN => exact ⟨_, op_notN, notN_s⟩
  | inn => exact ⟨_, op_in3 hu, hK ▸ in_s⟩
  | nin => exact ⟨_, op_notIn3 hu, hK ▸ notIn_s⟩
end
end Dv

namespace Dv
open PySem PySem.Spec PyProof.Rows L2

/-! ### what is wanted -/
def RepX (T : Tb) (w : Wd) (cls : Value) (dd : Option Addr) (x : Exn) : Prop :=
  cls = .ref (T.cl x.c) ∧ match x.fs with
    | none => dd = none
    | some fs => ∃ a vfs, dd = some a ∧ w.H a = some (.xd vfs) ∧ vfs.map (·.1) = fs.map (·.1) ∧ RepL T w.Hs w.al (vfs.map (·.2)) (fs.map (·.2))
def PostC (T : Tb) (w : Wd) (Q : VK) (E : XK) : Rs → Prop
  | .ok d m' => ∀ w' v, Ext w w' → Wf T w' m' → Rep T w'.Hs w'.al v d → Q v w'.H
  | .ex x m' => ∀ w' cls dd, Ext w w' → Wf T w' m' → RepX T w' cls dd x → E cls dd w'.H
abbrev PostE (T : Tb) (W : WX) (σ : L2.St) (w : Wd) (Q : VK) : Rs → Prop := PostC T w Q (WE W σ)
theorem PostC.on {T : Tb} {w w1 : Wd} {m : List R} {Q : VK} {E : XK} {o : Rs} (h : PostC T w Q E o) (e : Ext w w1) (W : Wf T w1 m) : PostC T w1 Q E o := by
  cases o with
  | ok d m' => exact fun w' v e' W' r => h w' v (e.trans e' W) W' r
  | ex x m' => exact fun w' c d e' W' r => h w' c d (e.trans e' W) W' r
theorem PostC.here {T : Tb} {w : Wd} {m : List R} {Q : VK} {E : XK} {d : D} {v : V} (h : PostC T w Q E (.ok d m)) (W : Wf T w m) (r : Rep T w.Hs w.al v d) : Q v w.H := h w v (Ext.refl _) W r

def ER (T : Tb) (w : Wd) (σ : L2.St) (ρ : Ro) : Prop := σ.length = ρ.length ∧ ∀ (i : Nat) d, ρ[i]? = some (some d) → ∃ v, σ[i]? = some (some v) ∧ Rep T w.Hs w.al v d
theorem ER.on {T : Tb} {w w' : Wd} {σ : L2.St} {ρ : Ro} (h : ER T w σ ρ) (e : Ext w w') : ER T w' σ ρ :=
  ⟨h.1, fun i d hd => let ⟨v, a, b⟩ := h.2 i d hd; ⟨v, a, b.on e⟩⟩
theorem ER.set {T : Tb} {w : Wd} {σ : L2.St} {ρ : Ro} (h : ER T w σ ρ) (i : Nat) {v : V} {d : D} (r : Rep T w.Hs w.al v d) : ER T w (σ.set i (some v)) (ρ.set i (some d)) := by
  refine ⟨by rw [List.length_set, List.length_set]; exact h.1, fun j e hj => ?_⟩
  by_cases hi : i = j
  · subst hi
    have hl := (List.getElem?_eq_some_iff.mp hj).1
    rw [List.length_set] at hl
    rw [List.getElem?_set_self hl] at hj
    cases hj
    exact ⟨v, List.getElem?_set_self (by rw [h.1]; exact hl), r⟩
  · rw [List.getElem?_set_ne hi] at hj
    obtain ⟨u, a, b⟩ := h.2 j e hj
    exact ⟨u, by rw [List.getElem?_set_ne hi]; exact a, b⟩
theorem ER.unset {T : Tb} {w : Wd} {σ : L2.St} {ρ : Ro} (h : ER T w σ ρ) (i : Nat) : ER T w (σ.set i none) (ρ.set i none) := by
  refine ⟨by rw [List.length_set, List.length_set]; exact h.1, fun j e hj => ?_⟩
  by_cases hi : i = j
  · subst hi
    have hl := (List.getElem?_eq_some_iff.mp hj).1
    rw [List.length_set] at hl
    rw [List.getElem?_set_self hl] at hj
    cases hj
  · rw [List.getElem?_set_ne hi] at hj
    obtain ⟨u, a, b⟩ := h.2 j e hj
    exact ⟨u, by rw [List.getElem?_set_ne hi]; exact a, b⟩
theorem ER.wipe {T : Tb} {w : Wd} {σ : L2.St} {ρ : Ro} (h : ER T w σ ρ) : ∀ vs : List Nat, ER T w (wipe σ vs) (wipeD ρ vs)
  | [] => h
  | v :: vs => (ER.wipe h vs).unset v

/-! ### the place where a body runs -/
structure Cs where
  T : Tb
  g : Gt
  P : Program
  w : World
  mg : Str → Option Value
  base : Heap
  N : List Str
  sc : Scope
  W : WX
  L : Nat
  fn : Str → Bool
structure Cs.Ok (C : Cs) (X : Cx) : Prop where
  prog : X.prog = C.P
  w : X.w = C.w
  K : X.K = C.T.K
  mg : X.mg = C.mg
  base : X.base = C.base
  N : X.N = C.N
  sc : X.env.scope = C.sc
  nd : C.N.Nodup
  calm : X.calm = true
  room : Room C.L X.A
  tk : Takes X C.W
  fn : X.fn = C.fn
/-- .. and statements run there -/
structure Cs.OkS (C : Cs) (X : Cx) : Prop extends C.Ok X where
  own : PassesOwn (model X.prog X.w) X.A X.env X.xe
theorem Cs.Ok.u65 {C : Cs} {X : Cx} (ok : C.Ok X) : X.A.units + 65 < cLine := by have := ok.room.un; omega
theorem Cs.Ok.u64 {C : Cs} {X : Cx} (ok : C.Ok X) : X.A.units + 64 < cLine := by have := ok.room.un; omega

section
variable (C : Cs)
def Runs (t : TE) (f : Ro → List R → Option Rs) : Prop :=
  ∀ (σ : L2.St) (w : Wd) (ρ : Ro) (m : List R) (Q : VK) (o : Rs), Wf C.T w m → ER C.T w σ ρ → f ρ m = some o → PostE C.T C.W σ w Q o → t σ w.H Q
def PostT (T : Tb) (W : WX) (σ : L2.St) (w : Wd) (Q : Bool → Hp → Prop) : Rs → Prop
  | .ok d m' => ∃ b, d = .bl b ∧ ∀ w', Ext w w' → Wf T w' m' → Q b w'.H
  | .ex x m' => ∀ w' cls dd, Ext w w' → Wf T w' m' → RepX T w' cls dd x → W cls dd σ w'.H
def RunsT (t : TT) (f : Ro → List R → Option Rs) : Prop :=
  ∀ (σ : L2.St) (w : Wd) (ρ : Ro) (m : List R) (Q : Bool → Hp → Prop) (o : Rs), Wf C.T w m → ER C.T w σ ρ → f ρ m = some o → PostT C.T C.W σ w Q o → t σ w.H Q
def PostL (T : Tb) (W : WX) (σ : L2.St) (w : Wd) (Q : List V → Hp → Prop) : RsL → Prop
  | .ok ds m' => ∀ w' vs, Ext w w' → Wf T w' m' → RepL T w'.Hs w'.al vs ds → Q vs w'.H
  | .ex x m' => ∀ w' cls dd, Ext w w' → Wf T w' m' → RepX T w' cls dd x → W cls dd σ w'.H
def RunsL (t : TA) (f : Ro → List R → Option RsL) : Prop :=
  ∀ (σ : L2.St) (w : Wd) (ρ : Ro) (m : List R) (Q : List V → Hp → Prop) (o : RsL), Wf C.T w m → ER C.T w σ ρ → f ρ m = some o → PostL C.T C.W σ w Q o → t σ w.H Q
/-- the expression does what the code says, at every such place -/
def DE (e : Expr) (f : Ro → List R → Option Rs) : Prop := ∃ t, (∀ X, C.Ok X → PE X e t) ∧ Runs C t f
def DT (e : Expr) (f : Ro → List R → Option Rs) : Prop := ∃ t, (∀ X, C.Ok X → PT X e t) ∧ RunsT C t f
def DW (e : Expr) (f : Ro → List R → Option Rs) : Prop := ∃ t, (∀ X, C.Ok X → PW X e t) ∧ RunsT C t f
def DA (es : List Expr) (f : Ro → List R → Option RsL) : Prop := ∃ t, (∀ X, C.Ok X → PA X es t) ∧ RunsL C t f
end
theorem PostT.on {T : Tb} {W : WX} {σ : L2.St} {w w1 : Wd} {m : List R} {Q : Bool → Hp → Prop} {o : Rs} (h : PostT T W σ w Q o) (e : Ext w w1) (V : Wf T w1 m) : PostT T W σ w1 Q o := by
  cases o with
  | ok d m' =>
    obtain ⟨b, eb, q⟩ := h
    exact ⟨b, eb, fun w' e' W' => q w' (e.trans e' V) W'⟩
  | ex x m' => exact fun w' c d e' W' r => h w' c d (e.trans e' V) W' r
theorem PostL.on {T : Tb} {W : WX} {σ : L2.St} {w w1 : Wd} {m : List R} {Q : List V → Hp → Prop} {o : RsL} (h : PostL T W σ w Q o) (e : Ext w w1) (V : Wf T w1 m) : PostL T W σ w1 Q o := by
  cases o with
  | ok d m' => exact fun w' c e' W' r => h w' c (e.trans e' V) W' r
  | ex x m' => exact fun w' c d e' W' r => h w' c d (e.trans e' V) W' r

theorem bnd_some {r : Option Rs} {k : D → List R → Option Rs} {o : Rs} (e : bnd r k = some o) : (∃ d m, r = some (.ok d m) ∧ k d m = some o) ∨ ∃ x m, r = some (.ex x m) ∧ o = .ex x m := by
  cases r with
  | none => cases e
  | some q =>
    cases q with
    | ok d m => exact .inl ⟨d, m, rfl, e⟩
    | ex x m => cases e; exact .inr ⟨x, m, rfl, rfl⟩
theorem bndL_some {r : Option RsL} {k : List D → List R → Option Rs} {o : Rs} (e : bndL r k = some o) : (∃ d m, r = some (.ok d m) ∧ k d m = some o) ∨ ∃ x m, r = some (.ex x m) ∧ o = .ex x m := by
  cases r with
  | none => cases e
  | some q =>
    cases q with
    | ok d m => exact .inl ⟨d, m, rfl, e⟩
    | ex x m => cases e; exact .inr ⟨x, m, rfl, rfl⟩

section
variable {C : Cs}
/-- first an expression, then what follows -/
theorem Runs.bnd {t : TE} {f : Ro → List R → Option Rs} (h : Runs C t f) {σ : L2.St} {w : Wd} {ρ : Ro} {m : List R} {Q : VK} {o : Rs} {k : D → List R → Option Rs} (W : Wf C.T w m) (E : ER C.T w σ ρ) (e : Dv.bnd (f ρ m) k = some o) (p : PostE C.T C.W σ w Q o)
    {R' : VK} (c : ∀ d m1 w1 v1, k d m1 = some o → Ext w w1 → Wf C.T w1 m1 → Rep C.T w1.Hs w1.al v1 d → ER C.T w1 σ ρ → PostE C.T C.W σ w1 Q o → R' v1 w1.H) : t σ w.H R' := by
  rcases bnd_some e with ⟨d, m1, e1, e2⟩ | ⟨x, m1, e1, rfl⟩
  · exact h σ w ρ m R' _ W E e1 fun w1 v1 e' W1 r => c d m1 w1 v1 e2 e' W1 r (E.on e') (p.on e' W1)
  · exact h σ w ρ m R' _ W E e1 p
theorem Runs.bndT {t : TE} {f : Ro → List R → Option Rs} (h : Runs C t f) {σ : L2.St} {w : Wd} {ρ : Ro} {m : List R} {Q : Bool → Hp → Prop} {o : Rs} {k : D → List R → Option Rs} (W : Wf C.T w m) (E : ER C.T w σ ρ) (e : Dv.bnd (f ρ m) k = some o) (p : PostT C.T C.W σ w Q o)
    {R' : VK} (c : ∀ d m1 w1 v1, k d m1 = some o → Ext w w1 → Wf C.T w1 m1 → Rep C.T w1.Hs w1.al v1 d → ER C.T w1 σ ρ → PostT C.T C.W σ w1 Q o → R' v1 w1.H) : t σ w.H R' := by
  rcases bnd_some e with ⟨d, m1, e1, e2⟩ | ⟨x, m1, e1, rfl⟩
  · exact h σ w ρ m R' _ W E e1 fun w1 v1 e' W1 r => c d m1 w1 v1 e2 e' W1 r (E.on e') (p.on e' W1)
  · exact h σ w ρ m R' _ W E e1 p
theorem RunsT.bnd {t : TT} {f : Ro → List R → Option Rs} (h : RunsT C t f) {σ : L2.St} {w : Wd} {ρ : Ro} {m : List R} {Q : VK} {o : Rs} {k : Bool → List R → Option Rs} (W : Wf C.T w m) (E : ER C.T w σ ρ)
    (e : Dv.bnd (f ρ m) (fun x m => match x with | .bl b => k b m | _ => none) = some o) (p : PostE C.T C.W σ w Q o)
    {R' : Bool → Hp → Prop} (c : ∀ b m1 w1, k b m1 = some o → Ext w w1 → Wf C.T w1 m1 → ER C.T w1 σ ρ → PostE C.T C.W σ w1 Q o → R' b w1.H) : t σ w.H R' := by
  rcases bnd_some e with ⟨d, m1, e1, e2⟩ | ⟨x, m1, e1, rfl⟩
  · cases d with
    | bl b => exact h σ w ρ m R' _ W E e1 ⟨b, rfl, fun w1 e' W1 => c b m1 w1 e2 e' W1 (E.on e') (p.on e' W1)⟩
    | _ => cases e2
  · exact h σ w ρ m R' _ W E e1 p
theorem RunsT.bndT {t : TT} {f : Ro → List R → Option Rs} (h : RunsT C t f) {σ : L2.St} {w : Wd} {ρ : Ro} {m : List R} {Q : Bool → Hp → Prop} {o : Rs} {k : Bool → List R → Option Rs} (W : Wf C.T w m) (E : ER C.T w σ ρ)
    (e : Dv.bnd (f ρ m) (fun x m => match x with | .bl b => k b m | _ => none) = some o) (p : PostT C.T C.W σ w Q o)
    {R' : Bool → Hp → Prop} (c : ∀ b m1 w1, k b m1 = some o → Ext w w1 → Wf C.T w1 m1 → ER C.T w1 σ ρ → PostT C.T C.W σ w1 Q o → R' b w1.H) : t σ w.H R' := by
  rcases bnd_some e with ⟨d, m1, e1, e2⟩ | ⟨x, m1, e1, rfl⟩
  · cases d with
    | bl b => exact h σ w ρ m R' _ W E e1 ⟨b, rfl, fun w1 e' W1 => c b m1 w1 e2 e' W1 (E.on e') (p.on e' W1)⟩
    | _ => cases e2
  · exact h σ w ρ m R' _ W E e1 p
theorem RunsL.bnd {t : TA} {f : Ro → List R → Option RsL} (h : RunsL C t f) {σ : L2.St} {w : Wd} {ρ : Ro} {m : List R} {Q : VK} {o : Rs} {k : List D → List R → Option Rs} (W : Wf C.T w m) (E : ER C.T w σ ρ) (e : bndL (f ρ m) k = some o) (p : PostE C.T C.W σ w Q o)
    {R' : List V → Hp → Prop} (c : ∀ d m1 w1 v1, k d m1 = some o → Ext w w1 → Wf C.T w1 m1 → RepL C.T w1.Hs w1.al v1 d → ER C.T w1 σ ρ → PostE C.T C.W σ w1 Q o → R' v1 w1.H) : t σ w.H R' := by
  rcases bndL_some e with ⟨d, m1, e1, e2⟩ | ⟨x, m1, e1, rfl⟩
  · exact h σ w ρ m R' _ W E e1 fun w1 v1 e' W1 r => c d m1 w1 v1 e2 e' W1 r (E.on e') (p.on e' W1)
  · exact h σ w ρ m R' _ W E e1 p

/-! ### expressions -/
theorem de_var {i : Nat} {x : Str} {pos : Pos} (hN : C.N[i]? = some x) (hv : Vis C.sc x) (hd : (x == ("__debug__" : Str)) = false) (hcd : (x == ("__classdict__" : Str)) = false) : DE C (.Name x pos) (evE C.g (.var i)) := by
  refine ⟨tVar i, fun X ok => pe_var (by rw [ok.N]; exact hN) (by rw [ok.sc]; exact hv) hd hcd, fun σ w ρ m Q o W E e p => ?_⟩
  simp only [evE] at e
  split at e
  · rename_i d hd
    cases e
    obtain ⟨v, h1, h2⟩ := E.2 i d hd
    exact ⟨v, h1, p.here W h2⟩
  · cases e
theorem de_int {i : Int} {j : Nat} {pos : Pos} : DE C (.Constant (.int i) j pos) (evE C.g (.cst (.int i))) :=
  ⟨_, fun X ok => pe_int, fun σ w ρ m Q o W E e p => by simp only [evE] at e; cases e; exact p.here W (.int i)⟩
theorem de_bl {i : Bool} {j : Nat} {pos : Pos} : DE C (.Constant (.bool i) j pos) (evE C.g (.cst (.bl i))) :=
  ⟨_, fun X ok => pe_bl, fun σ w ρ m Q o W E e p => by simp only [evE] at e; cases e; exact p.here W (.bl i)⟩
theorem de_non {j : Nat} {pos : Pos} : DE C (.Constant .none j pos) (evE C.g (.cst .non)) :=
  ⟨_, fun X ok => pe_non, fun σ w ρ m Q o W E e p => by simp only [evE] at e; cases e; exact p.here W .non⟩
theorem de_str {i : Str} {j : Nat} {pos : Pos} : DE C (.Constant (.str i) j pos) (evE C.g (.cst (.str i))) :=
  ⟨_, fun X ok => pe_str, fun σ w ρ m Q o W E e p => by simp only [evE] at e; cases e; exact p.here W (.str i)⟩
theorem okP_some {r : Option (D × List R)} {o : Rs} (e : okP r = some o) : ∃ p, r = some p ∧ o = .ok p.1 p.2 := by
  cases r with
  | none => cases e
  | some p => cases e; exact ⟨p, rfl, rfl⟩
theorem okB_some {m : List R} {r : Option Bool} {o : Rs} (e : okB m r = some o) : ∃ b, r = some b ∧ o = .ok (.bl b) m := by
  cases r with
  | none => cases e
  | some p => cases e; exact ⟨p, rfl, rfl⟩
theorem de_bop {o : Bop} {mu : Bool} {a b : Expr} {xa xb : E} {pos : Pos} (ha : DE C a (evE C.g xa)) (hb : DE C b (evE C.g xb)) : DE C (.BinOp a (oprB o) b pos) (evE C.g (.bop o mu xa xb)) := by
  obtain ⟨ta, pa, ra⟩ := ha
  obtain ⟨tb, pb, rb⟩ := hb
  have key : ∃ r, (∀ X, C.Ok X → OpR X (binaryOp (oprB o)) r) ∧ OpS C.T r (fun m a b => bopD o mu m a b) := by
    cases o with
    | add => exact ⟨_, fun X ok => by have := op_add4 (X := X); rw [ok.K] at this; exact this, add_s mu⟩
    | sub => exact ⟨_, fun X ok => op_sub, sub_s⟩
    | mul => exact ⟨_, fun X ok => by have := op_mul4 (X := X); rw [ok.K] at this; exact this, mul_s mu⟩
    | fdiv => exact ⟨_, fun X ok => op_fdivW, fdiv_s⟩
    | mod => exact ⟨_, fun X ok => op_mod, mod_s⟩
    | pow => exact ⟨_, fun X ok => op_pow, pow_s⟩
  obtain ⟨r, hr, hs⟩ := key
  refine ⟨tOp r ta tb, fun X ok => pe_op (hr X ok) (pa X ok) (pb X ok), fun σ w ρ m Q oo W E e p => ?_⟩
  simp only [evE] at e
  refine ra.bnd W E e p fun d m1 w1 v1 e1 x1 W1 r1 E1 p1 => ?_
  refine rb.bnd W1 E1 e1 p1 fun d2 m2 w2 v2 e2 x2 W2 r2 E2 p2 => ?_
  obtain ⟨q, e3, rfl⟩ := okP_some e2
  exact hs w2 m2 v1 v2 d d2 q Q W2 (r1.on x2) r2 e3 fun w' v x' W' r' => p2 w' v x' W' r'
theorem de_neg {a : Expr} {xa : E} {pos : Pos} (ha : DE C a (evE C.g xa)) : DE C (.UnaryOp .USub a pos) (evE C.g (.neg xa)) := by
  obtain ⟨ta, pa, ra⟩ := ha
  refine ⟨_, fun X ok => pe_un un_neg (pa X ok), fun σ w ρ m Q oo W E e p => ?_⟩
  simp only [evE] at e
  refine ra.bnd W E e p fun d m1 w1 v1 e1 x1 W1 r1 E1 p1 => ?_
  cases r1 <;> first | (cases e1; done) | skip
  cases e1
  exact ⟨_, rfl, p1.here W1 (.int _)⟩
theorem cop_k (C : Cs) (o : Cop) : ∃ r, (∀ X, C.Ok X → OpR X (compareOp (oprC o)) r) ∧ CmpS C.T r (fun m a b => copD o m a b) := by
  cases o with
  | eq => exact ⟨_, fun X ok => by have := op_eqD (X := X) ok.u64; rw [ok.K] at this; exact this, eq_s⟩
  | ne => exact ⟨_, fun X ok => by have := op_neD (X := X) ok.u64; rw [ok.K] at this; exact this, ne_s⟩
  | lt => exact ⟨_, fun X ok => op_lt, int_s _⟩
  | le => exact ⟨_, fun X ok => op_le, int_s _⟩
  | gt => exact ⟨_, fun X ok => op_gt, int_s _⟩
  | ge => exact ⟨_, fun X ok => op_ge, int_s _⟩
  | isN => exact ⟨_, fun X ok => op_isN, isN_s⟩
  | notN => exact ⟨_, fun X ok => op_notN, notN_s⟩
  | inn => exact ⟨_, fun X ok => by have := op_in3 (X := X) ok.u65; rw [ok.K] at this; exact this, in_s⟩
  | nin => exact ⟨_, fun X ok => by have := op_notIn3 (X := X) ok.u65; rw [ok.K] at this; exact this, notIn_s⟩
theorem de_cmp {o : Cop} {a b : Expr} {xa xb : E} {pos : Pos} (ha : DE C a (evE C.g xa)) (hb : DE C b (evE C.g xb)) (hm : behindInMarks (oprC o) b = false) : DE C (.Compare a [oprC o] [b] pos) (evE C.g (.cmp o xa xb)) := by
  obtain ⟨ta, pa, ra⟩ := ha
  obtain ⟨tb, pb, rb⟩ := hb
  obtain ⟨r, hr, hs⟩ := cop_k C o
  refine ⟨_, fun X ok => pe_cmpR (hr X ok) (pa X ok) (pb X ok) hm, fun σ w ρ m Q oo W E e p => ?_⟩
  simp only [evE] at e
  refine ra.bnd W E e p fun d m1 w1 v1 e1 x1 W1 r1 E1 p1 => ?_
  refine rb.bnd W1 E1 e1 p1 fun d2 m2 w2 v2 e2 x2 W2 r2 E2 p2 => ?_
  obtain ⟨k, e3, rfl⟩ := okB_some e2
  exact hs w2 m2 v1 v2 d d2 k Q W2 (r1.on x2) r2 e3 (p2.here W2 (.bl k))
theorem dt_cmp {o : Cop} {a b : Expr} {xa xb : E} {pos : Pos} (ha : DE C a (evE C.g xa)) (hb : DE C b (evE C.g xb)) (hm : behindInMarks (oprC o) b = false) : DT C (.Compare a [oprC o] [b] pos) (evE C.g (.cmp o xa xb)) := by
  obtain ⟨ta, pa, ra⟩ := ha
  obtain ⟨tb, pb, rb⟩ := hb
  obtain ⟨r, hr, hs⟩ := cop_k C o
  refine ⟨_, fun X ok => pt_cmpR (hr X ok) (pa X ok) (pb X ok) hm, fun σ w ρ m Q oo W E e p => ?_⟩
  simp only [evE] at e
  refine ra.bndT W E e p fun d m1 w1 v1 e1 x1 W1 r1 E1 p1 => ?_
  refine rb.bndT W1 E1 e1 p1 fun d2 m2 w2 v2 e2 x2 W2 r2 E2 p2 => ?_
  obtain ⟨k, e3, rfl⟩ := okB_some e2
  refine hs w2 m2 v1 v2 d d2 k _ W2 (r1.on x2) r2 e3 ?_
  obtain ⟨b', eb, q⟩ := p2
  cases eb
  exact ⟨_, rfl, q w2 (Ext.refl _) W2⟩
theorem de_chn {o p : Cop} {a b c : Expr} {xa xb xc : E} {pos : Pos} (ha : DE C a (evE C.g xa)) (hb : DE C b (evE C.g xb)) (hc : DE C c (evE C.g xc)) (hm : lastMarks [oprC o, oprC p] [b, c] = false)
    (hpe : ∀ X, C.Ok X → ∀ r r' ta tb tc, OpR X (compareOp (oprC o)) r → OpR X (compareOp (oprC p)) r' → PE X a ta → PE X b tb → PE X c tc → PE X (.Compare a [oprC o, oprC p] [b, c] pos) (tChain r r' ta tb tc)) : DE C (.Compare a [oprC o, oprC p] [b, c] pos) (evE C.g (.chn o p xa xb xc)) := by
  obtain ⟨ta, pa, ra⟩ := ha
  obtain ⟨tb, pb, rb⟩ := hb
  obtain ⟨tc, pc, rc⟩ := hc
  obtain ⟨r, hr, hs⟩ := cop_k C o
  obtain ⟨r', hr', hs'⟩ := cop_k C p
  refine ⟨_, fun X ok => hpe X ok _ _ _ _ _ (hr X ok) (hr' X ok) (pa X ok) (pb X ok) (pc X ok), fun σ w ρ m Q oo W E e pp => ?_⟩
  simp only [evE] at e
  refine ra.bnd W E e pp fun d m1 w1 v1 e1 x1 W1 r1 E1 p1 => ?_
  refine rb.bnd W1 E1 e1 p1 fun d2 m2 w2 v2 e2 x2 W2 r2 E2 p2 => ?_
  split at e2
  · rename_i h
    refine hs w2 m2 v1 v2 d d2 true _ W2 (r1.on x2) r2 h ⟨true, rfl, ?_⟩
    rw [if_pos rfl]
    refine rc.bnd W2 E2 e2 p2 fun d3 m3 w3 v3 e3 x3 W3 r3 E3 p3 => ?_
    obtain ⟨k, e4, rfl⟩ := okB_some e3
    exact hs' w3 m3 v2 v3 d2 d3 k Q W3 (r2.on x3) r3 e4 (p3.here W3 (.bl k))
  · rename_i h
    cases e2
    refine hs w2 m2 v1 v2 d d2 false _ W2 (r1.on x2) r2 h ⟨false, rfl, ?_⟩
    rw [if_neg Bool.false_ne_true]
    exact p2.here W2 (.bl _)
  · cases e2
end
end Dv

namespace Dv
open PySem PySem.Spec PyProof PyProof.Rows L2

/-! ### t[::-1] of a tuple -/
section
variable {prog : Program} {w : World} {A : Around} {E : Value → Shared → Prop} {s : Shared}
theorem places_rev (n : Nat) : Builtin.Slice.slicePlaces ((n : Int) - 1) (-1) (-1) = n := by
  unfold Builtin.Slice.slicePlaces
  have h1 : ¬ ((-1 : Int) > 0) := by omega
  simp only [h1, if_false]
  split <;> simp <;> omega
theorem applied_rev {sl : Addr} {vs : Value} {n : Nat} {Q : Int × Int × Nat → Shared → Prop} (hs : s.heap.IsSliceOf sl .none .none vs) (ps : IsPart vs (some (-1)))
    (h : Q ((n : Int) - 1, -1, n) s) : wpAny (model prog w) A (Builtin.Slice.sliceApplied (.ref sl) (pure (n : Int))) Q E s := by
  obtain ⟨os, hos, hcs, hds⟩ := id hs
  unfold Builtin.Slice.sliceApplied Builtin.Slice.sliceFields
  refine wpAny_bind (wpAny_bind (wpAny_field hos hds (x := .none) rfl (wpAny_bind (wpAny_field hos hds (x := .none) rfl (wpAny_bind (wpAny_field hos hds (x := vs) rfl (wpAny_pure ?_)))))))
  refine wpAny_bind (HT.slicePart_ ps ?_)
  show wpAny _ _ (if ((-1 : Int) == 0) = true then _ else _) _ _ s
  rw [if_neg (by decide)]
  refine wpAny_bind (slicePart_none (wpAny_bind (slicePart_none (wpAny_bind (wpAny_pure ?_)))))
  show wpAny _ _ (pure ((n : Int) - 1, (-1 : Int), Builtin.Slice.slicePlaces ((n : Int) - 1) (-1) (-1))) _ _ s
  rw [places_rev]
  exact wpAny_pure h
theorem pick_rev (xs : Array Value) : ((List.range xs.size).filterMap fun (m : Nat) => xs[(((xs.size : Int) - 1) + (m : Int) * (-1)).toNat]?).toArray = xs.toList.reverse.toArray := by
  congr 1
  have e : ∀ k, k ≤ xs.size → (List.range k).filterMap (fun (m : Nat) => xs[(((xs.size : Int) - 1) + (m : Int) * (-1)).toNat]?) = xs.toList.reverse.take k := by
    intro k
    induction k with
    | zero => intro _; rfl
    | succ k ih =>
      intro hk
      rw [List.range_succ, List.filterMap_append, ih (by omega), List.take_add_one]
      congr 1
      have h1 : (((xs.size : Int) - 1) + (k : Int) * (-1)).toNat = xs.size - 1 - k := by omega
      have h2 : xs.toList.reverse[k]? = xs[xs.size - 1 - k]? := by
        rw [List.getElem?_reverse (by simpa using (by omega : k < xs.size)), Array.length_toList, Array.getElem?_toList]
      rw [h2]
      simp only [List.filterMap_cons, List.filterMap_nil, h1]
      cases xs[xs.size - 1 - k]? <;> rfl
  rw [e xs.size (Nat.le_refl _), List.take_of_length_le (by simp)]
theorem getItem_rev {t sl : Addr} {items : Array Value} {vs : Value} {Q : Value → Shared → Prop} (ht : IsTup s.heap t items) (hs : s.heap.IsSliceOf sl .none .none vs) (ps : IsPart vs (some (-1)))
    (h : Q (.ref s.heap.objs.size) { s with heap := s.heap.push { cls := .type "tuple", data := .seq items.toList.reverse.toArray } })
    (hsz : items.size ≤ sizeLine) : wpAny (model prog w) A (getItem (.ref t) (.ref sl)) Q E s := by
  have hok : sizeOk (.seq items.toList.reverse.toArray) := by
    show items.toList.reverse.toArray.size ≤ sizeLine
    rw [List.size_toArray, List.length_reverse, Array.length_toList]
    exact hsz
  obtain ⟨os, hos, hcs, hds⟩ := id hs
  have hTs : s.TypeIs (.ref sl) "slice" := ⟨os, hos, hcs⟩
  unfold getItem
  try with_reducible refine wpAny_holding ?_
  first | refine wpAny_bind (wpAny_pure ?_) | skip
  refine wpAny_bind (wpAny_sequenceKey ht.typeIs (by decide) ?_)
  refine wpAny_bind (wpAny_callSpecial?_slot (name := Str.ofString "__getitem__") ht.typeIs PyProof.Rows.slot_tuple_getitem
    (wpAny_call_entry PyProof.Rows.slot_tuple_getitem ht.typeIs entry_tuple_getitem ?_ (args_tuple_getitem _ _)))
  show wpAny _ _ (Builtin.Tuple.tupleItemsOf (.ref t) >>= _) _ _ s
  refine wpAny_bind (tupleItemsOf_ ht ?_)
  refine wpAny_bind (wpAny_typeOf hTs ?_)
  rw [if_pos (by decide)]
  refine wpAny_bind (applied_rev hs ps ?_)
  have hno : ¬ (((items.size : Int) - 1 == 0 && (-1 : Int) == 1 && items.size == items.size) = true) := by
    intro q
    rw [Bool.and_eq_true, Bool.and_eq_true] at q
    exact absurd q.1.2 (by decide)
  show wpAny _ _ (if ((items.size : Int) - 1 == 0 && (-1 : Int) == 1 && items.size == items.size) = true then _ else _) _ _ s
  rw [if_neg hno, pick_rev]
  first
    | exact wpAny_bind (m := Builtin.Tuple.tupleExact _) (wpAny_newObj_type (wpAny_pure ⟨_, rfl, wpAny_pure h⟩) hok)
    | exact wpAny_bind (m := Builtin.Tuple.tupleExact _) (wpAny_newObj_type (wpAny_bind (wpAny_pure (wpAny_pure ⟨_, rfl, wpAny_pure h⟩))) hok)
    | exact wpAny_bind (wpAny_bind (m := Builtin.Tuple.tupleExact _) (wpAny_newObj_type (wpAny_pure (wpAny_pure ⟨_, rfl, wpAny_pure h⟩)) hok))
    | exact wpAny_bind (wpAny_bind (m := Builtin.Tuple.tupleExact _) (wpAny_newObj_type (wpAny_pure ⟨_, rfl, wpAny_pure h⟩) hok))
end
/-- t[::k], k = -1 -/
def tRsl (K : PySem.W.Frag) (te ts : TE) : TE := fun σ H Q => te σ H fun x H1 => ts σ H1 fun k H2 => ∃ a xs, x = .ref a ∧ k = .int (-1) ∧ SqT K H2 a xs ∧ ∀ p o, H2 p = none → PTo o → Q (.ref p) (upd H2 p (.frz o (.tup xs.reverse)))
theorem vals_reverse : ∀ {xs : List V} {us : List Value}, Vals xs us → Vals xs.reverse us.reverse
  | _, _, .nil => .nil
  | _ :: _, _ :: _, .cons r t => by
    rw [List.reverse_cons, List.reverse_cons]
    exact (vals_reverse t).append (.cons r .nil)
theorem pe_rsl {X : Cx} {e es : Expr} {te ts : TE} {pos p2 : Pos} (he : PE X e te) (hs : PE X es ts) : PE X (.Subscript e (.Slice none none (some es) p2) pos) (tRsl X.K te ts) := by
  refine ⟨fun pins s σ H Q I h => ?_⟩
  refine Subscript_ (thn (he.run pins s σ H _ I h) fun v s1 ⟨x, H1, I1, r1, q1⟩ => ?_)
  refine wpAny_Slice ?_
  rw [evalPart_none]
  refine wpAny_pure ?_
  refine wpAny_pure ?_
  rw [evalPart_some]
  refine thn (hs.run pins s1 σ H1 _ I1 q1) fun vk s3 ⟨k, H3, I3, rk, q3⟩ => ?_
  obtain ⟨a, xs, rfl, rfl, hx, q⟩ := q3
  cases r1
  obtain ⟨tk, rfl⟩ := rk
  have I4 : Inv X pins σ H3 { s3 with heap := s3.heap.push { cls := .type "slice", data := .fields #[.none, .none, .int (-1) tk] } } := I3.kept (t' := s3.toks) fun b ob q => Heap.get?_push_of_some _ q
  obtain ⟨its, r, ht, hz⟩ := I4.tuple hx
  have hlen : its.toArray.size = xs.length := by rw [List.size_toArray]; exact r.length.symm
  have hg : wpAny (model X.prog X.w) X.A (getItem (.ref a) (.ref s3.heap.objs.size)) (EP X pins σ Q) X.xe { s3 with heap := s3.heap.push { cls := .type "slice", data := .fields #[.none, .none, .int (-1) tk] } } := by
    refine getItem_rev ht (Heap.IsSliceOf.new ..) (.int _ _) ?_ (by rw [hlen]; exact hz)
    exact ⟨.ref _, _, laidT (t' := s3.toks) I4 (vals_reverse r) (by rw [List.length_reverse]; exact hz), rfl, q _ _ (I4.hok.fresh (Nat.le_refl _)) ⟨_, rfl⟩⟩
  show wpAny (model X.prog X.w) X.A (subscriptTail e (.Slice none none (some es) p2) (.ref a) (.ref s3.heap.objs.size)) (EP X pins σ Q) X.xe { s3 with heap := s3.heap.push { cls := .type "slice", data := .fields #[.none, .none, .int (-1) tk] } }
  exact tail_any (ops := [.ref a, .ref s3.heap.objs.size]) ht.typeIs PyProof.Rows.slot_tuple_getitem.lookup hg (by with_unfolding_all rfl)
end Dv

namespace Dv
open PySem PySem.Spec PyProof.Rows L2

/-! ### what the syntax asks -/
def noStar : Expr → Bool
  | .Starred .. => false
  | _ => true
theorem star1 {e : Expr} (h : noStar e = true) (es : List Expr) (env : Env) : starEach (e :: es) env = (false, eval e env) :: starEach es env := by
  cases e <;> first | rfl | cases h
theorem stars {pos : Pos} {env : Env} : ∀ {es : List Expr}, es.all noStar = true → (backTo pos (starEach es env)).any (·.1) = false
  | [], _ => rfl
  | e :: es, h => by
    rw [List.all_cons, Bool.and_eq_true] at h
    rw [star1 h.1]
    show (false || _) = false
    rw [Bool.false_or]
    exact stars h.2

section
variable {C : Cs}
/-! ### arguments -/
theorem da_nil : DA C [] (evL C.g .nil) := ⟨_, fun X ok => pa_nil, fun σ w ρ m Q o W E e p => by simp only [evL] at e; cases e; exact p w [] (Ext.refl _) W .nil⟩
theorem da_cons {e : Expr} {es : List Expr} {x : Dv.E} {xs : Es} (he : DE C e (evE C.g x)) (hes : DA C es (evL C.g xs)) (hs : noStar e = true) : DA C (e :: es) (evL C.g (.cons x xs)) := by
  obtain ⟨t, p, r⟩ := he
  obtain ⟨u, q, s⟩ := hes
  refine ⟨_, fun X ok => pa_cons (p X ok) (q X ok) (star1 hs es _), fun σ w ρ m Q o W E e pp => ?_⟩
  simp only [evL] at e
  unfold consL at e
  split at e
  · rename_i d m1 e1
    refine r σ w ρ m _ _ W E e1 fun w1 v1 x1 W1 r1 => ?_
    have E1 := E.on x1
    have p1 := pp.on x1 W1
    split at e
    · rename_i ds m2 e2
      cases e
      exact s σ w1 ρ m1 _ _ W1 E1 e2 fun w2 vs x2 W2 r2 => p1 w2 _ x2 W2 (.cons (r1.on x2) r2)
    · rename_i y m2 e2
      cases e
      exact s σ w1 ρ m1 _ _ W1 E1 e2 p1
    · cases e
  · rename_i y m1 e1
    cases e
    exact r σ w ρ m _ _ W E e1 pp
  · cases e

/-! ### truth -/
theorem de_and {a : Expr} {b : Expr} {rest : List Expr} {xa xb : Dv.E} {pos : Pos} (ha : DE C a (evE C.g xa)) (hb : DE C (.BoolOp .And (b :: rest) pos) (evE C.g xb)) : DE C (.BoolOp .And (a :: b :: rest) pos) (evE C.g (.and xa xb)) := by
  obtain ⟨ta, pa, ra⟩ := ha
  obtain ⟨tb, pb, rb⟩ := hb
  refine ⟨_, fun X ok => pe_and (pa X ok) (pb X ok), fun σ w ρ m Q oo W E e p => ?_⟩
  simp only [evE] at e
  refine ra.bnd W E e p fun d m1 w1 v1 e1 x1 W1 r1 E1 p1 => ?_
  split at e1
  · cases r1
    refine ⟨true, rfl, ?_⟩
    rw [if_pos rfl]
    exact rb σ w1 ρ m1 Q oo W1 E1 e1 p1
  · cases r1
    cases e1
    refine ⟨false, rfl, ?_⟩
    rw [if_neg Bool.false_ne_true]
    exact p1.here W1 (.bl _)
  · cases e1
theorem de_or {a : Expr} {b : Expr} {rest : List Expr} {xa xb : Dv.E} {pos : Pos} (ha : DE C a (evE C.g xa)) (hb : DE C (.BoolOp .Or (b :: rest) pos) (evE C.g xb)) : DE C (.BoolOp .Or (a :: b :: rest) pos) (evE C.g (.or xa xb)) := by
  obtain ⟨ta, pa, ra⟩ := ha
  obtain ⟨tb, pb, rb⟩ := hb
  refine ⟨_, fun X ok => pe_or (pa X ok) (pb X ok), fun σ w ρ m Q oo W E e p => ?_⟩
  simp only [evE] at e
  refine ra.bnd W E e p fun d m1 w1 v1 e1 x1 W1 r1 E1 p1 => ?_
  split at e1
  · cases r1
    refine ⟨false, rfl, ?_⟩
    rw [if_neg Bool.false_ne_true]
    exact rb σ w1 ρ m1 Q oo W1 E1 e1 p1
  · cases r1
    cases e1
    refine ⟨true, rfl, ?_⟩
    rw [if_pos rfl]
    exact p1.here W1 (.bl _)
  · cases e1
theorem de_one {op : BoolOp} {a : Expr} {f : Ro → List R → Option Rs} {pos : Pos} (ha : DE C a f) : DE C (.BoolOp op [a] pos) f := by
  obtain ⟨ta, pa, ra⟩ := ha
  exact ⟨_, fun X ok => pe_one (pa X ok), ra⟩
theorem de_not {a : Expr} {xa : Dv.E} {pos : Pos} (ha : DE C a (evE C.g xa)) : DE C (.UnaryOp .Not a pos) (evE C.g (.not xa)) := by
  obtain ⟨ta, pa, ra⟩ := ha
  refine ⟨_, fun X ok => pe_not (pa X ok), fun σ w ρ m Q oo W E e p => ?_⟩
  simp only [evE] at e
  refine ra.bnd W E e p fun d m1 w1 v1 e1 x1 W1 r1 E1 p1 => ?_
  split at e1
  · cases r1
    cases e1
    exact ⟨_, rfl, p1.here W1 (.bl _)⟩
  · cases e1
theorem de_ite {c a b : Expr} {xc xa xb : Dv.E} {pos : Pos} (hc : DT C c (evE C.g xc)) (ha : DE C a (evE C.g xa)) (hb : DE C b (evE C.g xb)) : DE C (.IfExp c a b pos) (evE C.g (.ite xc xa xb)) := by
  obtain ⟨tc, pc, rc⟩ := hc
  obtain ⟨ta, pa, ra⟩ := ha
  obtain ⟨tb, pb, rb⟩ := hb
  refine ⟨_, fun X ok => pe_ifExp (pc X ok) (pa X ok) (pb X ok), fun σ w ρ m Q oo W E e p => ?_⟩
  simp only [evE] at e
  refine rc.bnd (k := fun b m => if b = true then evE C.g xa ρ m else evE C.g xb ρ m) W E (Eq.trans (congrArg _ (funext fun x => funext fun m => ?_)) e) p fun k m1 w1 e1 x1 W1 E1 p1 => ?_
  · cases x <;> try rfl
    rename_i b
    cases b <;> rfl
  · cases k with
    | true => rw [if_pos rfl] at e1 ⊢; exact ra σ w1 ρ m1 Q oo W1 E1 e1 p1
    | false => rw [if_neg Bool.false_ne_true] at e1 ⊢; exact rb σ w1 ρ m1 Q oo W1 E1 e1 p1

/-! ### tests -/
theorem DW.dt {e : Expr} {f : Ro → List R → Option Rs} (h : DW C e f) : DT C e f := let ⟨t, p, r⟩ := h; ⟨t, fun X ok => (p X ok).pt, r⟩
theorem dt_val {e : Expr} {f : Ro → List R → Option Rs} (h : DE C e f) (he : ∀ (env : Env) whole, isTrue e env whole = (do let v ← whole; standAt e.pos; holding [v] (truthy v))) : DT C e f := by
  obtain ⟨t, p, r⟩ := h
  refine ⟨_, fun X ok => pt_val (p X ok) (he _), fun σ w ρ m Q oo W E e p => ?_⟩
  refine r σ w ρ m _ oo W E e ?_
  cases oo with
  | ok d m' =>
    obtain ⟨b, rfl, q⟩ := p
    exact fun w' v x' W' r' => by cases r'; exact ⟨b, rfl, q w' x' W'⟩
  | ex x m' => exact p
theorem dw_and1 {a : Expr} {f : Ro → List R → Option Rs} {pos : Pos} (h : DT C a f) : DW C (.BoolOp .And [a] pos) f := let ⟨t, p, r⟩ := h; ⟨t, fun X ok => pw_and1 (p X ok), r⟩
theorem dw_or1 {a : Expr} {f : Ro → List R → Option Rs} {pos : Pos} (h : DT C a f) : DW C (.BoolOp .Or [a] pos) f := let ⟨t, p, r⟩ := h; ⟨t, fun X ok => pw_or1 (p X ok), r⟩
theorem dw_and {a b : Expr} {rest : List Expr} {xa xb : Dv.E} {pos : Pos} (ha : DT C a (evE C.g xa)) (hb : DW C (.BoolOp .And (b :: rest) pos) (evE C.g xb)) : DW C (.BoolOp .And (a :: b :: rest) pos) (evE C.g (.and xa xb)) := by
  obtain ⟨ta, pa, ra⟩ := ha
  obtain ⟨tb, pb, rb⟩ := hb
  refine ⟨_, fun X ok => pw_and (pa X ok) (pb X ok), fun σ w ρ m Q oo W E e p => ?_⟩
  simp only [evE] at e
  refine ra.bndT (k := fun b m => if b = true then evE C.g xb ρ m else some (.ok (.bl false) m)) W E (Eq.trans (congrArg _ (funext fun x => funext fun m => ?_)) e) p fun k m1 w1 e1 x1 W1 E1 p1 => ?_
  · cases x <;> try rfl
    rename_i b
    cases b <;> rfl
  · cases k with
    | true => rw [if_pos rfl] at e1 ⊢; exact rb σ w1 ρ m1 Q oo W1 E1 e1 p1
    | false =>
      rw [if_neg Bool.false_ne_true] at e1 ⊢
      cases e1
      obtain ⟨b, eb, q⟩ := p1
      cases eb
      exact q w1 (Ext.refl _) W1
theorem dw_or {a b : Expr} {rest : List Expr} {xa xb : Dv.E} {pos : Pos} (ha : DT C a (evE C.g xa)) (hb : DW C (.BoolOp .Or (b :: rest) pos) (evE C.g xb)) : DW C (.BoolOp .Or (a :: b :: rest) pos) (evE C.g (.or xa xb)) := by
  obtain ⟨ta, pa, ra⟩ := ha
  obtain ⟨tb, pb, rb⟩ := hb
  refine ⟨_, fun X ok => pw_or (pa X ok) (pb X ok), fun σ w ρ m Q oo W E e p => ?_⟩
  simp only [evE] at e
  refine ra.bndT (k := fun b m => if b = true then some (.ok (.bl true) m) else evE C.g xb ρ m) W E (Eq.trans (congrArg _ (funext fun x => funext fun m => ?_)) e) p fun k m1 w1 e1 x1 W1 E1 p1 => ?_
  · cases x <;> try rfl
    rename_i b
    cases b <;> rfl
  · cases k with
    | false => rw [if_neg Bool.false_ne_true] at e1 ⊢; exact rb σ w1 ρ m1 Q oo W1 E1 e1 p1
    | true =>
      rw [if_pos rfl] at e1 ⊢
      cases e1
      obtain ⟨b, eb, q⟩ := p1
      cases eb
      exact q w1 (Ext.refl _) W1
theorem dt_not {a : Expr} {xa : Dv.E} {pos : Pos} (ha : DT C a (evE C.g xa)) : DT C (.UnaryOp .Not a pos) (evE C.g (.not xa)) := by
  obtain ⟨ta, pa, ra⟩ := ha
  refine ⟨_, fun X ok => pt_not (pa X ok), fun σ w ρ m Q oo W E e p => ?_⟩
  simp only [evE] at e
  refine ra.bndT (k := fun b m => some (.ok (.bl (!b)) m)) W E (Eq.trans (congrArg _ (funext fun x => funext fun m => ?_)) e) p fun k m1 w1 e1 x1 W1 E1 p1 => ?_
  · cases x <;> rfl
  · cases e1
    obtain ⟨b, eb, q⟩ := p1
    cases eb
    exact q w1 (Ext.refl _) W1
theorem dt_chn {o p : Cop} {a b c : Expr} {xa xb xc : Dv.E} {pos : Pos} (ha : DE C a (evE C.g xa)) (hb : DE C b (evE C.g xb)) (hc : DE C c (evE C.g xc)) (hm : lastMarks [oprC o, oprC p] [b, c] = false) :
    DT C (.Compare a [oprC o, oprC p] [b, c] pos) (evE C.g (.chn o p xa xb xc)) := by
  obtain ⟨ta, pa, ra⟩ := ha
  obtain ⟨tb, pb, rb⟩ := hb
  obtain ⟨tc, pc, rc⟩ := hc
  obtain ⟨r, hr, hs⟩ := cop_k C o
  obtain ⟨r', hr', hs'⟩ := cop_k C p
  refine ⟨_, fun X ok => pt_chain (hr X ok) (hr' X ok) (pa X ok) (pb X ok) (pc X ok) hm, fun σ w ρ m Q oo W E e pp => ?_⟩
  simp only [evE] at e
  refine ra.bndT W E e pp fun d m1 w1 v1 e1 x1 W1 r1 E1 p1 => ?_
  refine rb.bndT W1 E1 e1 p1 fun d2 m2 w2 v2 e2 x2 W2 r2 E2 p2 => ?_
  split at e2
  · rename_i h
    refine hs w2 m2 v1 v2 d d2 true _ W2 (r1.on x2) r2 h ⟨true, rfl, ?_⟩
    rw [if_pos rfl]
    refine rc.bndT W2 E2 e2 p2 fun d3 m3 w3 v3 e3 x3 W3 r3 E3 p3 => ?_
    obtain ⟨k, e4, rfl⟩ := okB_some e3
    refine hs' w3 m3 v2 v3 d2 d3 k _ W3 (r2.on x3) r3 e4 ?_
    obtain ⟨b', eb, q⟩ := p3
    cases eb
    exact ⟨_, rfl, q w3 (Ext.refl _) W3⟩
  · rename_i h
    cases e2
    refine hs w2 m2 v1 v2 d d2 false _ W2 (r1.on x2) r2 h ⟨false, rfl, ?_⟩
    rw [if_neg Bool.false_ne_true]
    obtain ⟨b', eb, q⟩ := p2
    cases eb
    exact ⟨_, rfl, q w2 (Ext.refl _) W2⟩
  · cases e2
theorem de_chn' {o p : Cop} {a b c : Expr} {xa xb xc : Dv.E} {pos : Pos} (ha : DE C a (evE C.g xa)) (hb : DE C b (evE C.g xb)) (hc : DE C c (evE C.g xc)) (hm : lastMarks [oprC o, oprC p] [b, c] = false) :
    DE C (.Compare a [oprC o, oprC p] [b, c] pos) (evE C.g (.chn o p xa xb xc)) := de_chn ha hb hc hm fun X ok r r' ta tb tc h1 h2 h3 h4 h5 => pe_chain h1 h2 h3 h4 h5 hm

/-! ### displays, subscripts -/
theorem de_tup {es : List Expr} {xs : Es} {k : Nat} {pos : Pos} (h : DA C es (evL C.g xs)) : DE C (.Tuple es k pos) (evE C.g (.tup xs)) := by
  obtain ⟨t, p, r⟩ := h
  refine ⟨_, fun X ok => pe_tupF (p X ok), fun σ w ρ m Q oo W E e pp => ?_⟩
  simp only [evE] at e
  refine r.bnd W E e pp fun d m1 w1 v1 e1 x1 W1 r1 E1 p1 => ?_
  split at e1
  · cases e1
    exact ⟨by rw [r1.length]; assumption, fun q o hq ho => new_tup W1 r1 hq ho fun w' v x' W' r' => p1 w' v x' W' r'⟩
  · cases e1
theorem de_lst {es : List Expr} {xs : Es} {mu : Bool} {pos : Pos} (h : DA C es (evL C.g xs)) : DE C (.List es pos) (evE C.g (.lst mu xs)) := by
  obtain ⟨t, p, r⟩ := h
  refine ⟨_, fun X ok => pe_lst (p X ok), fun σ w ρ m Q oo W E e pp => ?_⟩
  simp only [evE] at e
  refine r.bnd W E e pp fun d m1 w1 v1 e1 x1 W1 r1 E1 p1 => ?_
  split at e1
  · cases e1
    exact ⟨by rw [r1.length]; assumption, fun q hq => new_list W1 r1 hq fun w' v x' W' r' => p1 w' v x' W' r'⟩
  · cases e1
theorem RepL.atI {T : Tb} {Hs : Hp} {al : List Addr} {vs : List V} {ds : List D} (h : RepL T Hs al vs ds) {i : Int} {d : D} (e : atI ds i = some d) : ∃ v, L2.atI vs i = some v ∧ Rep T Hs al v d := by
  unfold L2.atI at e ⊢
  rw [h.length]
  cases h1 : ixN ds.length i with
  | none => rw [h1] at e; cases e
  | some j =>
    rw [h1] at e
    exact h.get e
def IxS (T : Tb) (r : R2) : Prop :=
  ∀ (w : Wd) (m : List R) (x y : V) (dx dy d : D) (Q : VK), Wf T w m → Rep T w.Hs w.al x dx → Rep T w.Hs w.al y dy → ixD m dx dy = some d → (∀ v, Rep T w.Hs w.al v d → Q v w.H) → r x y w.H Q
theorem ix_s {T : Tb} : IxS T (rIx T.K) := by
  intro w m x y dx dy d Q W hx hy e q
  unfold ixD at e
  split at e
  · rename_i i
    cases hy
    have gen : (sq m dx).bind (fun xs => atI xs i) = some d → rIx T.K x (.int i) w.H Q := fun e => by
      cases h : sq m dx with
      | none => rw [h] at e; cases e
      | some xs =>
        rw [h] at e
        obtain ⟨a, vs, rfl, hs, r⟩ := sq_rep W hx h
        obtain ⟨v, h1, h2⟩ := r.atI e
        rcases hs with hs | hs
        · exact .inl ⟨a, vs, i, v, rfl, rfl, hs, h1, q v h2⟩
        · exact .inr (.inl ⟨a, vs, i, v, rfl, rfl, hs, h1, q v h2⟩)
    split at e
    · rename_i z
      split at e
      · rename_i hz
        cases hx
        cases h : atI z.cps.toList i with
        | none => rw [h] at e; cases e
        | some c =>
          rw [h] at e
          cases e
          exact .inr (.inr ⟨z, i, c, rfl, rfl, hz, h, q _ (.str _)⟩)
      · cases e
    · exact gen e
  · cases e
theorem de_ix {a b : Expr} {xa xb : Dv.E} {pos : Pos} (ha : DE C a (evE C.g xa)) (hb : DE C b (evE C.g xb)) (hs : PlainIx b) : DE C (.Subscript a b pos) (evE C.g (.ix xa xb)) := by
  obtain ⟨ta, pa, ra⟩ := ha
  obtain ⟨tb, pb, rb⟩ := hb
  refine ⟨tOp (rIx C.T.K) ta tb, fun X ok => pe_ix (by have := ix_seq (X := X); rw [ok.K] at this; exact this) (pa X ok) (pb X ok) hs, fun σ w ρ m Q oo W E e p => ?_⟩
  simp only [evE] at e
  refine ra.bnd W E e p fun d m1 w1 v1 e1 x1 W1 r1 E1 p1 => ?_
  refine rb.bnd W1 E1 e1 p1 fun d2 m2 w2 v2 e2 x2 W2 r2 E2 p2 => ?_
  cases h : ixD m2 d d2 with
  | none => rw [h] at e2; cases e2
  | some k =>
    rw [h] at e2
    cases e2
    exact ix_s w2 m2 v1 v2 d d2 k Q W2 (r1.on x2) r2 h fun v r' => p2.here W2 r'
/-- slices -/
def DO (C : Cs) (e : Option Expr) (x : Oe) : Prop := ∃ t, (∀ X, C.Ok X → PO X e t) ∧
  ∀ (σ : L2.St) (w : Wd) (ρ : Ro) (m : List R) (Q : VK) (o : Rs) (k : Option Int → List R → Option Rs) (R' : Option Int → Hp → Prop), Wf C.T w m → ER C.T w σ ρ → evO C.g x ρ m k = some o → PostE C.T C.W σ w Q o →
    (∀ i m1 w1, k i m1 = some o → Ext w w1 → Wf C.T w1 m1 → R' i w1.H) → t σ w.H R'
theorem do_none : DO C none .non := ⟨_, fun X ok => po_none, fun σ w ρ m Q o k R' W E e p c => c none m w e (Ext.refl _) W⟩
theorem do_some {e : Expr} {x : Dv.E} (h : DE C e (evE C.g x)) : DO C (some e) (.some x) := by
  obtain ⟨t, p, r⟩ := h
  refine ⟨_, fun X ok => po_some (p X ok), fun σ w ρ m Q o k R' W E e pp c => ?_⟩
  simp only [evO] at e
  refine r.bnd W E e pp fun d m1 w1 v1 e1 x1 W1 r1 E1 p1 => ?_
  split at e1
  · cases r1
    exact ⟨_, rfl, c _ m1 w1 e1 x1 W1⟩
  · cases e1
theorem RepL.cut {T : Tb} {Hs : Hp} {al : List Addr} {vs : List V} {ds : List D} (h : RepL T Hs al vs ds) (lo hi : Option Int) : RepL T Hs al (cutV vs lo hi) (cutD ds lo hi) := by
  unfold cutV cutD
  rw [h.length]
  exact (h.drop _).take _
theorem cut_whole (xs : List D) (lo hi : Option Int) (h : HT.sIx xs.length 0 lo = 0 ∧ HT.sIx xs.length xs.length hi = xs.length) : cutD xs lo hi = xs := by
  unfold cutD
  rw [h.1, h.2]
  simp
def rSl2 (K : PySem.W.Frag) : V → Option Int → Option Int → Hp → VK → Prop := fun x lo hi H Q => rSlL K x lo hi H Q ∨ rSlF K x lo hi H Q
theorem de_sl {a : Expr} {lo hi : Option Expr} {xa : Dv.E} {xl xh : Oe} {mu : Bool} {p2 pos : Pos} (ha : DE C a (evE C.g xa)) (hl : DO C lo xl) (hh : DO C hi xh) : DE C (.Subscript a (.Slice lo hi none p2) pos) (evE C.g (.sl mu xa xl xh)) := by
  obtain ⟨ta, pa, ra⟩ := ha
  obtain ⟨tl, pl, rl⟩ := hl
  obtain ⟨th, ph, rh⟩ := hh
  refine ⟨tSl (rSl2 C.T.K) ta tl th, fun X ok => pe_slice (by have := SlR.or (sl_list (X := X)) sl_tupF; rw [ok.K] at this; exact this) (pa X ok) (pl X ok) (ph X ok), fun σ w ρ m Q oo W E e p => ?_⟩
  simp only [evE] at e
  refine ra.bnd W E e p fun d m1 w1 v1 e1 x1 W1 r1 E1 p1 => ?_
  refine rl σ w1 ρ m1 Q oo _ _ W1 E1 e1 p1 fun l m2 w2 e2 x2 W2 => ?_
  refine rh σ w2 ρ m2 Q oo _ _ W2 (E1.on x2) e2 (p1.on x2 W2) fun h m3 w3 e3 x3 W3 => ?_
  have p3 := (p1.on x2 W2).on x3 W3
  have r3 := (r1.on x2).on x3
  obtain ⟨q, e4, rfl⟩ := okP_some e3
  unfold slD at e4
  split at e4
  · rename_i xs
    cases e4
    cases r3 with
    | tup s r =>
      refine .inr ⟨_, _, rfl, (Le.sqN W3.sub s).sqT, fun hw => ?_, fun _ p o hp ho => new_tup W3 (r.cut l h) hp ho fun w' v x' W' r' => p3 w' v x' W' r'⟩
      rw [r.length] at hw
      refine p3.here W3 ?_
      show Rep _ _ _ _ (D.tup (cutD xs l h))
      rw [cut_whole xs l h hw]
      exact .tup s r
  · cases hq : lsq m3 d with
    | none => rw [hq] at e4; cases e4
    | some xs =>
      rw [hq] at e4
      cases e4
      obtain ⟨b, vs, rfl, hb, rb⟩ := lsq_rep W3 r3 hq
      exact .inl ⟨b, vs, rfl, SqL.of hb, fun p hp => new_list W3 (rb.cut l h) hp fun w' v x' W' r' => p3 w' v x' W' r'⟩
theorem RepL.rev {T : Tb} {Hs : Hp} {al : List Addr} : ∀ {vs : List V} {ds : List D}, RepL T Hs al vs ds → RepL T Hs al vs.reverse ds.reverse
  | _, _, .nil => .nil
  | _ :: _, _ :: _, .cons r t => by
    rw [List.reverse_cons, List.reverse_cons]
    exact t.rev.append (.cons r .nil)
theorem de_rsl {a k : Expr} {xa xk : Dv.E} {p2 pos : Pos} (ha : DE C a (evE C.g xa)) (hk : DE C k (evE C.g xk)) : DE C (.Subscript a (.Slice none none (some k) p2) pos) (evE C.g (.rsl xa xk)) := by
  obtain ⟨ta, pa, ra⟩ := ha
  obtain ⟨tk, pk, rk⟩ := hk
  refine ⟨tRsl C.T.K ta tk, fun X ok => by have := pe_rsl (p2 := p2) (pos := pos) (pa X ok) (pk X ok); rw [ok.K] at this; exact this, fun σ w ρ m Q oo W E e p => ?_⟩
  simp only [evE] at e
  refine ra.bnd W E e p fun d m1 w1 v1 e1 x1 W1 r1 E1 p1 => ?_
  refine rk.bnd W1 E1 e1 p1 fun d2 m2 w2 v2 e2 x2 W2 r2 E2 p2 => ?_
  obtain ⟨q, e4, rfl⟩ := okP_some e2
  have r3 := r1.on x2
  unfold rslD at e4
  split at e4
  · rename_i xs i
    split at e4
    · rename_i hi
      subst hi
      cases e4
      cases r2
      cases r3 with
      | tup s r =>
        exact ⟨_, _, rfl, rfl, (Le.sqN W2.sub s).sqT, fun pp o hp ho => new_tup W2 r.rev hp ho fun w' v x' W' r' => p2 w' v x' W' r'⟩
    · cases e4
  · cases e4
end
end Dv

namespace Dv
open PySem PySem.Spec PyProof.Rows L2

/-! ### the syntax of method calls and attributes -/
def plainO : Expr → Bool
  | .Call (.Name _ _) [] [] _ => false
  | _ => true
theorem base_of {o : Expr} (h : plainO o = true) (f : Str) (env : Env) (whole : Sem Value) : attributeBase o f env whole = whole := by
  unfold attributeBase
  split
  · cases h
  · rfl
theorem form_of {pos : Pos} {env : Env} {es : List Expr} (h : es.all noStar = true) (hl : es.length < 30) : methodCallForm (es.length + ([] : List Keyword).length) (backTo pos (starEach es env)) (backToKw pos (keywordEach [] env)) = true := by
  have a : ∀ (es : List Expr), es.all noStar = true → (backTo pos (starEach es env)).all (!·.1) = true := fun es h => by
    induction es with
    | nil => rfl
    | cons e es ih =>
      rw [List.all_cons, Bool.and_eq_true] at h
      rw [star1 h.1]
      show (true && _) = true
      rw [Bool.true_and]
      exact ih h.2
  unfold methodCallForm
  rw [a es h]
  have : es.length + ([] : List Keyword).length + (if (backToKw pos (keywordEach [] env)).isEmpty then 0 else 1) < 30 := by
    show es.length + 0 + 0 < 30
    omega
  simp only [Bool.true_and, Bool.and_eq_true]
  exact ⟨rfl, decide_eq_true this⟩
theorem meth_tree {o : Expr} {m : Str} {apos pos : Pos} {es : List Expr} {env : Env} (ho : plainO o = true) (h : es.all noStar = true) (hl : es.length < 30) (hp : (apos.endLine == pos.line) = true) :
    eval (.Call (.Attribute o m apos) es [] pos) env = (do
      let ov ← eval o env
      standAt apos.atName
      let (f, first) ← holding [ov] (getMethod ov m (do return (← importBound o env).getD true))
      callWith pos f first (backTo pos (starEach es env)) (backToKw pos (keywordEach [] env))) := by
  rw [arm_eval_Call, base_of ho]
  have hf : methodCallForm (es.length + ([] : List Keyword).length) (backTo pos (starEach es env)) (backToKw pos (keywordEach [] env)) = true := form_of h hl
  congr 1
  funext ov
  congr 1
  funext _
  unfold methodCall
  rw [hf]
  have h2 : methodCallPos true o env apos pos = pure pos := by unfold methodCallPos; simp [hp]
  rw [h2]
  rfl

/-! ### what a def promises on data -/
def spD (T : Tb) (f : List D → List R → Option Rs) : Sp := fun vs H Q E => ∃ w ds m o, w.H = H ∧ Wf T w m ∧ RepL T w.Hs w.al vs ds ∧ f ds m = some o ∧ PostC T w Q E o
/-- the def number i, under the name x, called with n arguments -/
def FnE (C : Cs) (x : Str) (n i : Nat) : Prop := ∃ (k : Nat) (f : Addr) (fd : FuncData) (ps : List Str) (sp : Sp) (ds : List Value) (dvs : List V), FnOk C.P C.w C.T.K C.mg C.base (L2.CX C.P C.w) k f fd ps sp ∧ k ≤ C.L ∧ C.mg x = some (.ref f) ∧ PySem.W.keepIn C.T.K (.ref f) = true ∧
  Binds C.T.K fd ps ds ∧ Vals dvs ds ∧ ∀ vs H Q E, vs.length = n → spD C.T (C.g.F i) vs H Q E → sp (vs ++ dvs) H Q E
/-- the method m of the class number c, called with n arguments -/
def MtE (C : Cs) (c : Nat) (m : Str) (n i : Nat) : Prop := ∃ (k : Nat) (f : Addr) (fd : FuncData) (ps : List Str) (sp : Sp) (ds : List Value) (dvs : List V), FnOk C.P C.w C.T.K C.mg C.base (L2.CX C.P C.w) k f fd ps sp ∧ k ≤ C.L ∧ Cls C.T.K (C.T.cl c) ∧ Meth C.T.K (C.T.cl c) m f ∧
  Binds C.T.K fd ps ds ∧ Vals dvs ds ∧ ∀ vs H Q E, vs.length = n + 1 → spD C.T (C.g.F i) vs H Q E → sp (vs ++ dvs) H Q E
/-- a property -/
def PrE (C : Cs) (c : Nat) (f : Str) (i : Nat) : Prop := ∃ (k : Nat) (p g : Addr) (fd : FuncData) (ps : List Str) (sp : Sp), FnOk C.P C.w C.T.K C.mg C.base (L2.CX C.P C.w) k g fd ps sp ∧ k + 1 ≤ C.L ∧ Cls C.T.K (C.T.cl c) ∧ PropOf C.T.K (C.T.cl c) f p g ∧
  Binds C.T.K fd ps [] ∧ ∀ vs H Q E, vs.length = 1 → spD C.T (C.g.F i) vs H Q E → sp vs H Q E
/-- a class made with n arguments -/
def MkE (C : Cs) (x : Str) (c n i : Nat) : Prop := ∃ (k : Nat) (f : Addr) (fd : FuncData) (ps : List Str) (sp : Sp) (ds : List Value) (dvs : List V), FnOk C.P C.w C.T.K C.mg C.base (L2.CX C.P C.w) k f fd ps sp ∧ k + 1 ≤ C.L ∧ C.mg x = some (.ref (C.T.cl c)) ∧ Mk C.T.K (C.T.cl c) f ∧
  Binds C.T.K fd ps ds ∧ Vals dvs ds ∧ ∀ vs H Q E, vs.length = n + 1 → spD C.T (C.g.F i) vs H Q E → sp (vs ++ dvs) H Q E

section
variable {C : Cs}
theorem spD_post {C : Cs} {i : Nat} {vs : List V} {ds : List D} {w : Wd} {m : List R} {o : Rs} {Q : VK} {σ : L2.St} (W : Wf C.T w m) (r : RepL C.T w.Hs w.al vs ds) (e : C.g.F i ds m = some o) (p : PostE C.T C.W σ w Q o) : spD C.T (C.g.F i) vs w.H Q (WE C.W σ) := ⟨w, ds, m, o, rfl, W, r, e, p⟩

theorem evL_len (g : Gt) : ∀ (xs : Es) (ρ : Ro) (m : List R) {ds : List D} {m' : List R}, evL g xs ρ m = some (.ok ds m') → ds.length = xs.len
  | .nil, _, _, _, _, e => by simp only [evL] at e; cases e; rfl
  | .cons x r, ρ, m, ds, m', e => by
    simp only [evL] at e
    unfold consL at e
    split at e
    · split at e
      · rename_i h
        cases e
        have := evL_len g r ρ _ h
        simp only [List.length_cons, Es.len, this]
      · cases e
      · cases e
    · cases e
    · cases e
/-- what is asked of the arguments' number is there -/
theorem RunsL.bndN {t : TA} {xs : Es} (h : RunsL C t (evL C.g xs)) {σ : L2.St} {w : Wd} {ρ : Ro} {m : List R} {Q : VK} {o : Rs} {k : List D → List R → Option Rs} (W : Wf C.T w m) (E : ER C.T w σ ρ) (e : bndL (evL C.g xs ρ m) k = some o) (p : PostE C.T C.W σ w Q o)
    {R' : List V → Hp → Prop} (c : ∀ d m1 w1 v1, v1.length = xs.len → k d m1 = some o → Ext w w1 → Wf C.T w1 m1 → RepL C.T w1.Hs w1.al v1 d → ER C.T w1 σ ρ → PostE C.T C.W σ w1 Q o → R' v1 w1.H) : t σ w.H R' := by
  rcases bndL_some e with ⟨d, m1, e1, e2⟩ | ⟨x, m1, e1, rfl⟩
  · exact h σ w ρ m R' _ W E e1 fun w1 v1 e' W1 r => c d m1 w1 v1 (r.length.trans (evL_len _ _ _ _ e1)) e2 e' W1 r (E.on e') (p.on e' W1)
  · exact h σ w ρ m R' _ W E e1 p
theorem de_cal {x : Str} {i : Nat} {e : Expr} {es : List Expr} {xs : Es} {p pos : Pos} (F : FnE C x xs.len i) (hg : C.sc.names.lookup x = some .globalImplicit) (ha : DA C (e :: es) (evL C.g xs)) (hs : (e :: es).all noStar = true) (hdb : (x == ("__debug__" : Str)) = false) :
    DE C (.Call (.Name x p) (e :: es) [] pos) (evE C.g (.cal i xs)) := by
  obtain ⟨k, f, fd, ps, sp, ds, dvs, F, hk, hm, kp, hb, hd, imp⟩ := F
  obtain ⟨t, pt, rt⟩ := ha
  rw [List.all_cons, Bool.and_eq_true] at hs
  refine ⟨tCallSD sp dvs (WE C.W) t, fun X ok => ?_, fun σ w ρ m Q oo W E e0 pp => ?_⟩
  · have F' : FnOk X.prog X.w X.K X.mg X.base (L2.CX X.prog X.w) k f fd ps sp := by rw [ok.prog, ok.w, ok.K, ok.mg, ok.base]; exact F
    exact pe_callSD (X := X) (pos := pos) (p := p) (t := t) F' (ok.room.mono hk) (show X.env.scope.names.lookup x = some .globalImplicit by rw [ok.sc]; exact hg) (by rw [ok.mg]; exact hm) (by rw [ok.K]; exact kp) (by rw [ok.K]; exact hb) hd (fun σ => passAt ok.tk σ) (pt X ok) hdb (star1 hs.1 es _) (stars hs.2)
  · simp only [evE] at e0
    exact rt.bndN W E e0 pp fun d m1 w1 v1 hl e1 x1 W1 r1 E1 p1 => imp v1 _ Q _ hl (spD_post W1 r1 e1 p1)

/-! ### methods of the text's own classes -/
/-- the reading of o.m(..): whatever the class -/
def tMet (C : Cs) (m : Str) (n : Nat) (ta : TE) (t : TA) : TE := fun σ H Q => ta σ H fun x H1 => ∃ c i a dx fs k f fd ps sp ds dvs, x = .ref a ∧ H1 a = some (.ins (C.T.cl c) dx fs) ∧ fs.lookup m = none ∧
  (FnOk C.P C.w C.T.K C.mg C.base (L2.CX C.P C.w) k f fd ps sp ∧ k ≤ C.L ∧ Cls C.T.K (C.T.cl c) ∧ Meth C.T.K (C.T.cl c) m f ∧
  Binds C.T.K fd ps ds ∧ Vals dvs ds ∧ ∀ vs H Q E, vs.length = n + 1 → spD C.T (C.g.F i) vs H Q E → sp (vs ++ dvs) H Q E) ∧ t σ H1 fun vs H2 => sp (x :: vs ++ dvs) H2 Q (WE C.W σ)
theorem pe_met {X : Cx} (ok : C.Ok X) {o : Expr} {m : Str} {n : Nat} {e : Expr} {es : List Expr} {apos pos : Pos} {ta : TE} {t : TA} (he : PE X o ta) (ha : PA X (e :: es) t) (ho : plainO o = true) (h : (e :: es).all noStar = true) (hl : (e :: es).length < 30) (hp : (apos.endLine == pos.line) = true) :
    PE X (.Call (.Attribute o m apos) (e :: es) [] pos) (tMet C m n ta t) := by
  refine ⟨fun pins s σ H Q I hh => ?_⟩
  refine PySem.W.methodCall_KW (thn (he.run pins s σ H _ I hh) fun u s1 ⟨x, H1, I1, rx, c, i, a, dx, fs, k, f, fd, ps, sp, ds, dvs, ex, ea, l, ⟨F, hk, hc, hm, hb, hd, imp⟩, q⟩ => ?_) (meth_tree ho h hl hp)
  subst ex
  obtain rfl : u = Value.ref a := rx
  have F' : FnOk X.prog X.w X.K X.mg X.base (L2.CX X.prog X.w) k f fd ps sp := by rw [ok.prog, ok.w, ok.K, ok.mg, ok.base]; exact F
  rw [← ok.K] at hc hm hb
  refine getmeth_ok I1 ea hc hm l ?_
  rw [List.all_cons, Bool.and_eq_true] at h
  refine PySem.W.callWith_K (first := [.ref a]) (h₀ := X.base) I.ok.mod.kin hm.kp (thn (ha.run pos pins s1 σ H1 _ I1 q) fun us s2 ⟨vs, H2, I2, r, q2⟩ => ⟨I2.kIn, ?_⟩) (star1 h.1 es _) (stars h.2)
  exact run_fnSD (us := .ref a :: us) (vs := .ref a :: vs) F' (ok.room.mono hk) hb hd (passAt ok.tk σ) I2 (.cons rfl r) q2
theorem pe_met0 {X : Cx} (ok : C.Ok X) {o : Expr} {m : Str} {n : Nat} {apos pos : Pos} {ta : TE} (he : PE X o ta) (ho : plainO o = true) (hp : (apos.endLine == pos.line) = true) :
    PE X (.Call (.Attribute o m apos) [] [] pos) (tMet C m n ta tNil) := by
  refine ⟨fun pins s σ H Q I hh => ?_⟩
  refine PySem.W.methodCall_KW (thn (he.run pins s σ H _ I hh) fun u s1 ⟨x, H1, I1, rx, c, i, a, dx, fs, k, f, fd, ps, sp, ds, dvs, ex, ea, l, ⟨F, hk, hc, hm, hb, hd, imp⟩, q⟩ => ?_) (meth_tree (es := []) ho rfl (by decide) hp)
  subst ex
  obtain rfl : u = Value.ref a := rx
  have F' : FnOk X.prog X.w X.K X.mg X.base (L2.CX X.prog X.w) k f fd ps sp := by rw [ok.prog, ok.w, ok.K, ok.mg, ok.base]; exact F
  rw [← ok.K] at hc hm hb
  refine getmeth_ok I1 ea hc hm l ?_
  refine PySem.W.callWith_K0 (first := [.ref a]) I1.kIn hm.kp ?_
  exact run_fnSD (us := [.ref a]) (vs := [.ref a]) F' (ok.room.mono hk) hb hd (passAt ok.tk σ) I1 (.cons rfl .nil) q
/-- an instance's class, on data -/
theorem Rep.inst {w : Wd} {m : List R} (W : Wf C.T w m) {v : V} {c : Nat} {xs : List D} (h : Rep C.T w.Hs w.al v (.obj c xs)) : ∃ a dx fs, v = .ref a ∧ w.H a = some (.ins (C.T.cl c) dx fs) ∧ fs.map (·.1) = C.T.nm c ∧ RepL C.T w.Hs w.al (fs.map (·.2)) xs := by
  cases h with
  | obj s n r => exact ⟨_, _, _, rfl, W.sub _ _ s, n, r⟩
theorem Rep.instR {w : Wd} {m : List R} (W : Wf C.T w m) {v : V} {k c : Nat} {gs : List (Str × D)} (h : Rep C.T w.Hs w.al v (.res k)) (e : m[k]? = some (.obj c gs)) :
    ∃ a dx fs, v = .ref a ∧ w.H a = some (.ins (C.T.cl c) dx fs) ∧ fs.map (·.1) = gs.map (·.1) ∧ RepL C.T w.Hs w.al (fs.map (·.2)) (gs.map (·.2)) := by
  cases h with
  | res hk =>
    obtain ⟨dx, fs, h1, h2, h3⟩ := W.ok k _ _ hk e
    exact ⟨_, dx, fs, rfl, h1, h2, h3⟩
theorem not_mem_of_lookup {α : Type} {f : Str} : ∀ {fs : List (Str × α)}, fs.lookup f = none → ∀ x, (f, x) ∉ fs
  | [], _, _, h => by cases h
  | (g, y) :: r, e, x, h => by
    rw [List.lookup_cons] at e
    by_cases z : f = g
    · subst z
      simp at e
    · have z2 : (f == g) = false := beq_eq_false_iff_ne.mpr z
      simp only [z2] at e
      rcases List.mem_cons.mp h with h | h
      · cases h; exact z rfl
      · exact not_mem_of_lookup e x h
theorem lookup_none {α : Type} {f : Str} : ∀ {fs : List (Str × α)}, f ∉ fs.map (·.1) → fs.lookup f = none
  | [], _ => rfl
  | (g, x) :: r, h => by
    rw [List.map_cons, List.mem_cons, not_or] at h
    rw [List.lookup_cons]
    have : (f == g) = false := beq_eq_false_iff_ne.mpr h.1
    rw [this]
    exact lookup_none h.2
/-- what the methods' table must say: no field bears the name -/
def MetOk (C : Cs) (m : Str) (n : Nat) : Prop := (∀ c i, C.g.meth c m n = some i → MtE C c m n i) ∧ ∀ c i, C.g.meth c m n = some i → m ∉ C.T.nm c
theorem insD_rep {w : Wd} {mm : List R} {m : Str} {n : Nat} {c i : Nat} {d : D} {v : V} (hM : MetOk C m n) (W : Wf C.T w mm) (r : Rep C.T w.Hs w.al v d) (h : insD mm m d = some c) (hm : C.g.meth c m n = some i) :
    ∃ a dx fs, v = .ref a ∧ w.H a = some (.ins (C.T.cl c) dx fs) ∧ fs.lookup m = none := by
  cases d with
  | obj c' ys =>
    cases h
    obtain ⟨a, dx, fs, ev, ea, hn, hr⟩ := Rep.inst W r
    exact ⟨a, dx, fs, ev, ea, lookup_none (by rw [hn]; exact hM.2 c i hm)⟩
  | res k =>
    simp only [insD] at h
    split at h
    · rename_i c' gs hk
      split at h
      · rename_i hl
        cases h
        obtain ⟨a, dx, fs, ev, ea, hn, hr⟩ := Rep.instR W r hk
        refine ⟨a, dx, fs, ev, ea, lookup_none ?_⟩
        rw [hn]
        intro hin
        obtain ⟨⟨f, x⟩, h1, h2⟩ := List.mem_map.mp hin
        cases h2
        exact absurd h1 (not_mem_of_lookup hl x)
      · cases h
    · cases h
  | _ => cases h
theorem de_met {o : Expr} {m : Str} {e : Expr} {es : List Expr} {xo : Dv.E} {xs : Es} {apos pos : Pos} (hM : MetOk C m xs.len) (ho : DE C o (evE C.g xo)) (ha : DA C (e :: es) (evL C.g xs)) (hpo : plainO o = true) (h : (e :: es).all noStar = true) (hl : (e :: es).length < 30) (hp : (apos.endLine == pos.line) = true) :
    DE C (.Call (.Attribute o m apos) (e :: es) [] pos) (evE C.g (.omt m xo xs)) := by
  obtain ⟨ta, pa, ra⟩ := ho
  obtain ⟨t, pt, rt⟩ := ha
  refine ⟨tMet C m xs.len ta t, fun X ok => pe_met ok (pa X ok) (pt X ok) hpo h hl hp, fun σ w ρ mm Q oo W E e0 pp => ?_⟩
  simp only [evE] at e0
  refine ra.bnd W E e0 pp fun d m1 w1 v1 e1 x1 W1 r1 E1 p1 => ?_
  split at e1
  · rename_i c hc
    split at e1
    · rename_i i hm
      obtain ⟨a, dx, fs, ev, ea, hf⟩ := insD_rep hM W1 r1 hc hm
      obtain ⟨k, f, fd, ps, sp, ds, dvs, z⟩ := hM.1 c i hm
      refine ⟨c, i, a, dx, fs, k, f, fd, ps, sp, ds, dvs, ev, ea, hf, z, ?_⟩
      obtain ⟨_, _, _, _, _, _, imp⟩ := z
      exact rt.bndN W1 E1 e1 p1 fun d2 m2 w2 v2 hl2 e3 x2 W2 r2 E2 p2 => imp (v1 :: v2) _ Q _ (by rw [List.length_cons, hl2]) (spD_post W2 (.cons (r1.on x2) r2) e3 p2)
    · cases e1
  · cases e1
theorem de_met0 {o : Expr} {m : Str} {xo : Dv.E} {apos pos : Pos} (hM : MetOk C m 0) (ho : DE C o (evE C.g xo)) (hpo : plainO o = true) (hp : (apos.endLine == pos.line) = true) :
    DE C (.Call (.Attribute o m apos) [] [] pos) (evE C.g (.omt m xo .nil)) := by
  obtain ⟨ta, pa, ra⟩ := ho
  refine ⟨tMet C m 0 ta tNil, fun X ok => pe_met0 ok (pa X ok) hpo hp, fun σ w ρ mm Q oo W E e0 pp => ?_⟩
  simp only [evE, evL, bndL_ok] at e0
  refine ra.bnd W E e0 pp fun d m1 w1 v1 e1 x1 W1 r1 E1 p1 => ?_
  split at e1
  · rename_i c hc
    split at e1
    · rename_i i hm
      obtain ⟨a, dx, fs, ev, ea, hf⟩ := insD_rep hM W1 r1 hc hm
      obtain ⟨k, f, fd, ps, sp, ds, dvs, z⟩ := hM.1 c i hm
      refine ⟨c, i, a, dx, fs, k, f, fd, ps, sp, ds, dvs, ev, ea, hf, z, ?_⟩
      obtain ⟨_, _, _, _, _, _, imp⟩ := z
      exact imp [v1] _ Q _ rfl (spD_post W1 (.one r1) e1 p1)
    · cases e1
  · cases e1

/-! ### attributes -/
def tAtt (C : Cs) (f : Str) (ta : TE) : TE := fun σ H Q => ta σ H fun x H1 => ∃ c a dx fs, x = .ref a ∧ H1 a = some (.ins (C.T.cl c) dx fs) ∧
  ((∃ v, Cls C.T.K (C.T.cl c) ∧ NoAttr C.T.K (C.T.cl c) f ∧ fs.lookup f = some v ∧ Q v H1) ∨
   ∃ i k p g fd ps sp, (FnOk C.P C.w C.T.K C.mg C.base (L2.CX C.P C.w) k g fd ps sp ∧ k + 1 ≤ C.L ∧ Cls C.T.K (C.T.cl c) ∧ PropOf C.T.K (C.T.cl c) f p g ∧
  Binds C.T.K fd ps [] ∧ ∀ vs H Q E, vs.length = 1 → spD C.T (C.g.F i) vs H Q E → sp vs H Q E) ∧ sp [x] H1 Q (fun _ _ _ => False))
theorem pe_att {X : Cx} (ok : C.Ok X) {o : Expr} {f : Str} {pos : Pos} {ta : TE} (he : PE X o ta) (ho : plainO o = true) : PE X (.Attribute o f pos) (tAtt C f ta) := by
  refine ⟨fun pins s σ H Q I hh => ?_⟩
  refine attr_of (base_of ho _ _ _) (thn (he.run pins s σ H _ I hh) fun u s1 ⟨x, H1, I1, rx, c, a, dx, fs, ex, ea, q⟩ => ?_)
  subst ex
  obtain rfl : u = Value.ref a := rx
  rcases q with ⟨v, hc, n, l, q⟩ | ⟨i, k, p, g, fd, ps, sp, ⟨F, hk, hc, hp, hb, imp⟩, q⟩
  · rw [← ok.K] at hc n
    exact getattr_ok I1 ea hc n l fun u' s2 I2 ru => ⟨v, H1, I2, ru, q⟩
  · have F' : FnOk X.prog X.w X.K X.mg X.base (L2.CX X.prog X.w) k g fd ps sp := by rw [ok.prog, ok.w, ok.K, ok.mg, ok.base]; exact F
    rw [← ok.K] at hc hp hb
    exact getprop_ok I1 ea hc hp F' (ok.room.mono hk) hb .nil (fun pins σ H s e s' I z => by
      obtain ⟨_, _, _, _, _, _, _, _, _, _, _, _, z⟩ := z
      exact z) q
def AttOk (C : Cs) (f : Str) : Prop := (∀ c i, C.g.prop c f = some i → PrE C c f i) ∧ (∀ c i d m x m', C.g.prop c f = some i → C.g.F i d m ≠ some (.ex x m')) ∧ ∀ c, C.g.prop c f = none → f ∈ C.T.nm c → Cls C.T.K (C.T.cl c) ∧ NoAttr C.T.K (C.T.cl c) f
theorem clsD_rep {w : Wd} {mm : List R} {c : Nat} {d : D} {v : V} (W : Wf C.T w mm) (r : Rep C.T w.Hs w.al v d) (h : clsD mm d = some c) : ∃ a dx fs, v = .ref a ∧ w.H a = some (.ins (C.T.cl c) dx fs) := by
  cases d with
  | obj c' ys =>
    cases h
    obtain ⟨a, dx, fs, ev, ea, hn, hr⟩ := Rep.inst W r
    exact ⟨a, dx, fs, ev, ea⟩
  | res k =>
    simp only [clsD] at h
    split at h
    · rename_i c' gs hk
      cases h
      obtain ⟨a, dx, fs, ev, ea, hn, hr⟩ := Rep.instR W r hk
      exact ⟨a, dx, fs, ev, ea⟩
    · cases h
  | _ => cases h
theorem lookup_idx {f : Str} : ∀ {fs : List (Str × V)} {v : V}, (fs.map (·.2))[(fs.map (·.1)).idxOf f]? = some v → fs.lookup f = some v
  | [], v, h => by simp at h
  | (g, x) :: r, v, h => by
    rw [List.map_cons, List.map_cons, List.idxOf_cons] at h
    rw [List.lookup_cons]
    by_cases e : g = f
    · subst e
      simp only [beq_self_eq_true, cond_true] at h ⊢
      exact h
    · have e1 : (g == f) = false := beq_eq_false_iff_ne.mpr e
      have e2 : (f == g) = false := beq_eq_false_iff_ne.mpr (Ne.symm e)
      rw [e1] at h
      simp only [cond_false, List.getElem?_cons_succ] at h
      simp only [e2]
      exact lookup_idx h
theorem lookup_pair {f : Str} : ∀ {gs : List (Str × D)} {fs : List (Str × V)} {w : Wd} {d : D}, fs.map (·.1) = gs.map (·.1) → RepL C.T w.Hs w.al (fs.map (·.2)) (gs.map (·.2)) → gs.lookup f = some d → ∃ v, fs.lookup f = some v ∧ Rep C.T w.Hs w.al v d
  | [], _, _, _, _, _, h => by cases h
  | (g, y) :: r, [], _, _, e, _, _ => by cases e
  | (g, y) :: r, (g', x) :: r', w, d, e, q, h => by
    rw [List.map_cons, List.map_cons] at e q
    injection e with e1 e2
    have e1 : g' = g := e1
    subst e1
    cases q with
    | cons q1 q2 =>
      rw [List.lookup_cons] at h ⊢
      by_cases z : f = g'
      · subst z
        simp only [beq_self_eq_true] at h ⊢
        cases h
        exact ⟨_, rfl, q1⟩
      · have z2 : (f == g') = false := beq_eq_false_iff_ne.mpr z
        simp only [z2] at h ⊢
        exact lookup_pair e2 q2 h
theorem fldD_rep {w : Wd} {mm : List R} {f : Str} {c : Nat} {d e : D} {v : V} (W : Wf C.T w mm) (r : Rep C.T w.Hs w.al v d) (hc : clsD mm d = some c) (h : fldD C.T.nm mm f d = some e) :
    ∃ a dx fs u, v = .ref a ∧ w.H a = some (.ins (C.T.cl c) dx fs) ∧ f ∈ C.T.nm c ∧ fs.lookup f = some u ∧ Rep C.T w.Hs w.al u e := by
  cases d with
  | obj c' ys =>
    cases hc
    obtain ⟨a, dx, fs, ev, ea, hn, hr⟩ := Rep.inst W r
    have h : ys[(C.T.nm c).idxOf f]? = some e := h
    obtain ⟨u, h1, h2⟩ := hr.get h
    have hl := (List.getElem?_eq_some_iff.mp h1).1
    rw [← hn] at h1
    refine ⟨a, dx, fs, u, ev, ea, ?_, lookup_idx h1, h2⟩
    rw [List.length_map] at hl
    have : (C.T.nm c).length = fs.length := by rw [← hn, List.length_map]
    exact List.idxOf_lt_length_iff.mp (by rw [this]; exact hl)
  | res k =>
    simp only [clsD] at hc
    split at hc
    · rename_i c' gs hk
      cases hc
      simp only [fldD, hk] at h
      split at h
      · rename_i hf
        obtain ⟨a, dx, fs, ev, ea, hn, hr⟩ := Rep.instR W r hk
        obtain ⟨u, h1, h2⟩ := lookup_pair hn hr h
        exact ⟨a, dx, fs, u, ev, ea, by simpa using hf, h1, h2⟩
      · cases h
    · cases hc
  | _ => cases hc
theorem de_att {o : Expr} {f : Str} {xo : Dv.E} {pos : Pos} (hA : AttOk C f) (hnm : C.g.nm = C.T.nm) (ho : DE C o (evE C.g xo)) (hpo : plainO o = true) : DE C (.Attribute o f pos) (evE C.g (.att xo f)) := by
  obtain ⟨ta, pa, ra⟩ := ho
  refine ⟨tAtt C f ta, fun X ok => pe_att ok (pa X ok) hpo, fun σ w ρ mm Q oo W E e0 pp => ?_⟩
  simp only [evE] at e0
  refine ra.bnd W E e0 pp fun d m1 w1 v1 e1 x1 W1 r1 E1 p1 => ?_
  split at e1
  · rename_i c hc
    split at e1
    · rename_i i hp
      obtain ⟨a, dx, fs, ev, ea⟩ := clsD_rep W1 r1 hc
      obtain ⟨k, p, g, fd, ps, sp, z⟩ := hA.1 c i hp
      refine ⟨c, a, dx, fs, ev, ea, .inr ⟨i, k, p, g, fd, ps, sp, z, ?_⟩⟩
      obtain ⟨_, _, _, _, _, imp⟩ := z
      refine imp [v1] _ Q _ rfl ⟨w1, [d], m1, oo, rfl, W1, .one r1, e1, ?_⟩
      cases oo with
      | ok d2 m2 => exact p1
      | ex x m2 => exact absurd e1 (hA.2.1 c i _ _ _ _ hp)
    · rename_i hp
      split at e1
      · rename_i y hy
        cases e1
        rw [hnm] at hy
        obtain ⟨a, dx, fs, u, ev, ea, hf, hu, ru⟩ := fldD_rep W1 r1 hc hy
        obtain ⟨c1, c2⟩ := hA.2.2 c hp hf
        exact ⟨c, a, dx, fs, ev, ea, .inl ⟨u, c1, c2, hu, p1.here W1 ru⟩⟩
      · cases e1
  · cases e1
end
end Dv

namespace Dv
open PySem PySem.Spec PyProof PyProof.Rows L2

/-! ### sorted of pairs (int, text), where the int tells the text -/
def IsIS (h : Heap) (v : Value) (x : Int) (y : Str) : Prop := ∃ a o t u n, v = .ref a ∧ h.get? a = some o ∧ o.cls = .type "tuple" ∧ o.data = .seq #[.int x t, .str y u] n
theorem IsIS.keeps {h h' : Heap} {v : Value} {x : Int} {y : Str} (p : IsIS h v x y) (k : ∀ b o, h.get? b = some o → o.cls = .type "tuple" → h'.get? b = some o) : IsIS h' v x y := by
  obtain ⟨a, o, t, u, n, e, ho, hc, hd⟩ := p
  exact ⟨a, o, t, u, n, e, k _ _ ho hc, hc, hd⟩
theorem IsIS.uniq {h : Heap} {v : Value} {x x' : Int} {y y' : Str} (p : IsIS h v x y) (q : IsIS h v x' y') : x = x' := by
  obtain ⟨a, o, t, u, n, e, ho, hc, hd⟩ := p
  obtain ⟨a', o', t', u', n', e', ho', hc', hd'⟩ := q
  rw [e] at e'
  cases e'
  rw [ho] at ho'
  cases ho'
  rw [hd] at hd'
  injection hd' with h1 h2
  injection (Array.mk.inj h1) with h3 h4
  injection h3
theorem firsts_IS {h : Heap} : ∀ {vs : List Value}, (∀ v ∈ vs, ∃ x y, IsIS h v x y) → ∃ fs : List Value, PySem.W.KatTups h vs fs ∧ fs.length = vs.length ∧ ∀ f ∈ fs, ∃ x t, f = Value.int x t
  | [], _ => ⟨[], PySem.W.KatTups.nil, rfl, fun _ hm => by simp at hm⟩
  | v :: vs, hp => by
    obtain ⟨fs, h1, h2, h3⟩ := firsts_IS (vs := vs) fun v' hm => hp v' (List.mem_cons_of_mem _ hm)
    obtain ⟨x, y, a, o, t, u, n, e, ho, hc, hd⟩ := hp v (List.mem_cons_self ..)
    subst e
    refine ⟨.int x t :: fs, PySem.W.KatTups.cons ho hc hd rfl h1, by rw [List.length_cons, List.length_cons, h2], fun f hm => ?_⟩
    rcases List.mem_cons.mp hm with rfl | hm
    · exact ⟨x, t, rfl⟩
    · exact h3 f hm
section
variable {prog : Program} {w : World} {A : Around} {E : Value → Shared → Prop} {s : Shared}
theorem swo_fst (k : Value → Int) : SrtO.Swo fun v u => decide (k v < k u) := by
  refine ⟨fun x y h => ?_, fun x y z h1 h2 => ?_⟩
  · have a := of_decide_eq_true h
    exact decide_eq_false (by omega)
  · have a := of_decide_eq_false h1
    have b := of_decide_eq_false h2
    exact decide_eq_false (by omega)
open SrtO in
theorem IS_cmp {vs : List Value} {k : Value → Int} {f : Int → Str} (hp : ∀ v ∈ vs, IsIS s.heap v (k v) (f (k v))) : Cmp prog w A s (tuples' true) (fun p => p.1 ∈ vs) (lt2 fun v u => decide (k v < k u)) := by
  intro p q hm hm'
  have h1 := hp _ hm
  have h2 := hp _ hm'
  show wpAny (model prog w) A (keyLt' (tuples' true) p.1 q.1) (fun r s' => s' = s ∧ r = decide (k p.1 < k q.1)) (fun _ _ => False) s
  generalize k p.1 = x at h1 ⊢
  generalize k q.1 = x' at h2 ⊢
  obtain ⟨a, o, t, u, n, e, ho, hc, hd⟩ := h1
  obtain ⟨a', o', t', u', n', e', ho', hc', hd'⟩ := h2
  rw [e, e']
  refine PySem.W.kat_lt ho hd ho' hd' ?_
  show PySem.W.KatLex prog w A true (decide (2 < 2)) _ [(.int x t, .int x' t'), (.str (f x) u, .str (f x') u')] 0 s
  refine PySem.W.kat_cons (SeqAt.EqAt.int_int x t x' t' prog w _ _ ?_)
  refine PySem.W.kat_go (fun e1 => ?_) (fun e1 => ?_)
  · have ex : x = x' := by simpa using e1
    subst ex
    refine PySem.W.kat_yes (PySem.W.kat_cons (SeqAt.EqAt.str_str (f x) u (f x) u' prog w _ _ ?_))
    refine PySem.W.kat_go (fun e2 => ?_) (fun e2 => ?_)
    · exact PySem.W.kat_yes (PySem.W.kat_nil ⟨rfl, (decide_eq_false (Int.lt_irrefl _)).symm⟩)
    · simp at e2
  · exact PySem.W.kat_no (oneLt_int ⟨rfl, rfl⟩)
open SrtO in
theorem IS_sortableO {a : Addr} {vs : List Value} {k : Value → Int} {f : Int → Str} (h0 : 0 < vs.length) (hp : ∀ v ∈ vs, IsIS s.heap v (k v) (f (k v))) (ha : ∀ o, s.heap.get? a = some o → o.cls ≠ .type "tuple") : SortableO prog w A s a vs fun v u => decide (k v < k u) := by
  intro h' keep
  have hp' : ∀ v ∈ vs, IsIS h' v (k v) (f (k v)) := fun v hm => (hp v hm).keeps fun b o e c => keep b o (fun z => by subst z; exact ha o e c) e
  obtain ⟨fs, h1, h2, h3⟩ := firsts_IS fun v hm => ⟨_, _, hp' v hm⟩
  refine ⟨tuples' true, fun Q E hq => ?_, IS_cmp hp'⟩
  refine PySem.W.kat_kind (T := .type "int") h1 (by omega) (fun f hm => ?_) (by rfl) ?_
  · obtain ⟨x, t, rfl⟩ := h3 f hm
    exact PySem.W.Looks.now
  · have e : (Value.type "int" != Value.type "tuple") = true := by first | decide +kernel | rfl | decide
    rw [e]
    exact hq
open SrtO in
theorem sorted_IS {l : Addr} {vs : List Value} {k : Value → Int} {f : Int → Str} {Q : Value → Shared → Prop} (hl : s.heap.IsList l vs.toArray) (hz : vs.length ≤ sizeLine) (hp : ∀ v ∈ vs, IsIS s.heap v (k v) (f (k v)))
    (h : ∀ (h' : Heap) (d : Addr) (out : List Value), out.Pairwise (fun v u => k v ≤ k u) → out.Perm vs → (∀ b o, s.heap.get? b = some o → h'.get? b = some o) → s.heap.objs.size ≤ d → (∃ n, h'.get? d = some (seqObj "list" out.toArray n)) → Q (.ref d) { s with heap := h' }) :
    wpAny (model prog w) A (call (.builtin "sorted") [.ref l]) Q E s := by
  refine sorted_ord (swo_fst k) hl hz (fun h2 h₁ a ha kk => ?_) fun out hs hb => ?_
  · refine IS_sortableO (f := f) (s := { s with heap := h₁ }) (by omega) (fun v hm => (hp v hm).keeps fun b o e _ => (kk b o e).2) fun o e => ?_
    have e' : some o = some (seqObj "list" vs.toArray 0) := e.symm.trans ha
    cases e'
    intro c
    exact absurd (Value.type.inj c) (by decide)
  · exact h _ _ out (List.Pairwise.imp (fun h => Int.not_lt.mp (of_decide_eq_false h)) hs) hb.perm (fun b o e => sortedAll_old e) (Nat.le_succ _) (sortedAll_at s.heap vs out.toArray)
end
def rSortedIS (K : PySem.W.Frag) : List V → Hp → VK → Prop := fun vs H Q => ∃ (a : Addr) (xs : List V) (f : Int → Str), vs = [V.ref a] ∧ SqL K H a xs ∧ (∀ x ∈ xs, ∃ t i, x = V.ref t ∧ SqT K H t [.int i, .str (f i)]) ∧
  ∀ ys p, ys.Perm xs → ys.Pairwise (fun x y => ∀ t u i j, x = V.ref t → y = V.ref u → SqT K H t [.int i, .str (f i)] → SqT K H u [.int j, .str (f j)] → i ≤ j) → H p = none → Q (.ref p) (upd H p (.lst ys))
theorem isIS_of {X : Cx} {pins : List (Addr × Obj)} {σ : L2.St} {H : Hp} {s : Shared} {t : Addr} {i : Int} {y : Str} (I : Inv X pins σ H s) (h : SqT X.K H t [.int i, .str y]) : IsIS s.heap (.ref t) i y := by
  obtain ⟨its, rv, ⟨o, ho, hc, n, hd⟩, hz⟩ := I.tuple h
  obtain ⟨u1, u2, rfl, ri, rj⟩ := vals2 rv
  obtain ⟨t1, rfl⟩ := ri
  obtain ⟨t2, rfl⟩ := rj
  exact ⟨t, o, t1, t2, _, rfl, ho, hc, hd⟩
open Classical in
theorem cr_sortedIS {X : Cx} : CallR X (.builtin "sorted") (rSortedIS X.K) := by
  intro pins s σ H vs us Q I r h
  obtain ⟨a, xs, f, rfl, hs, hx, q⟩ := h
  obtain ⟨its, rv, hl, hz⟩ := I.list hs
  obtain ⟨u, rfl, ru⟩ := vals1 r
  obtain rfl : u = Value.ref a := ru
  obtain ⟨e1, e2⟩ := refs_back rv fun x m => by
    obtain ⟨t, i, e, _⟩ := hx x m
    exact ⟨t, e⟩
  have hv0 : ∀ v ∈ its, ∃ i, IsIS s.heap v i (f i) := fun v hv => by
    obtain ⟨t, rfl⟩ := e2 v hv
    have hm : V.ref t ∈ xs := by rw [e1]; exact List.mem_map.mpr ⟨_, hv, rfl⟩
    obtain ⟨t', i, e, ht⟩ := hx _ hm
    cases e
    exact ⟨i, isIS_of I ht⟩
  let k : Value → Int := fun v => if h : ∃ i, IsIS s.heap v i (f i) then h.choose else 0
  have hk : ∀ v i, IsIS s.heap v i (f i) → k v = i := fun v i hi => by
    have hex : ∃ i, IsIS s.heap v i (f i) := ⟨i, hi⟩
    show (if h : ∃ i, IsIS s.heap v i (f i) then h.choose else 0) = i
    rw [dif_pos hex]
    exact IsIS.uniq hex.choose_spec hi
  refine sorted_IS (k := k) (f := f) hl.isList (by rw [← rv.length]; exact hz) (fun v hv => ?_) fun h' d out h1 h2 kp hd hn => ?_
  · obtain ⟨i, hi⟩ := hv0 v hv
    rw [hk v i hi]
    exact hi
  · have h3 : ∀ u ∈ out, ∃ a, u = Value.ref a := fun u hu => e2 u (h2.mem_iff.mp hu)
    obtain ⟨n, hn⟩ := hn
    have hb : (out.map backV).Perm xs := by
      rw [e1]
      exact h2.map _
    refine ⟨.ref d, upd H d (.lst (out.map backV)), I.laid (t' := s.toks) kp hd ⟨?_, out, n, vals_back h3, hn⟩, rfl, q _ d hb ?_ (I.hok.fresh hd)⟩
    · rw [hb.length_eq]
      exact hz
    · rw [List.pairwise_map]
      refine List.Pairwise.imp_of_mem (fun {x y} hx hy hxy t u i j ex ey ht hu => ?_) h1
      obtain ⟨t', rfl⟩ := h3 x hx
      obtain ⟨u', rfl⟩ := h3 y hy
      cases ex
      cases ey
      rw [hk _ i (isIS_of I ht), hk _ j (isIS_of I hu)] at hxy
      exact hxy
end Dv

namespace Dv
open PySem PySem.Spec PyProof.Rows L2

/-! ### sorted of a tuple -/
section
variable {X : Cx}
def rSortedTI (K : PySem.W.Frag) : List V → Hp → VK → Prop := fun vs H Q => ∃ (a : Addr) (ns : List Int), vs = [V.ref a] ∧ SqT K H a (ns.map V.int) ∧
  ∀ (ns' : List Int) (p : Addr), ns'.Perm ns → ns'.Pairwise (· ≤ ·) → H p = none → Q (.ref p) (upd H p (.lst (ns'.map V.int)))
theorem cr_sortedTI : CallR X (.builtin "sorted") (rSortedTI X.K) := by
  intro pins s σ H vs us Q I r h
  obtain ⟨a, ns, rfl, hs, q⟩ := h
  obtain ⟨its, rv, ⟨o, ho, hc, n, hd⟩, hz⟩ := I.tuple hs
  rw [Vals.ref1 r]
  have hi := rv.ints
  have hzz : its.toArray.size ≤ sizeLine := by rw [List.size_toArray, ← rv.length]; exact hz
  refine Calls.call_function_entry PyProof.Rows.kind_sorted PyProof.Rows.plain_sorted PyProof.Rows.entry_sorted (PyProof.Rows.args_sorted1 _) ?_
  unfold Builtin.«sorted»
  refine wpAny_bind (m := checkCount "sorted" 1 1 _) (wpAny_pure ?_)
  refine wpAny_bind (wpAny_collect_seq a (.inr rfl) ho hc hd (fun h' hk => ?_) hzz)
  have I1 : Inv X pins σ H { s with heap := h' } := I.kept (t' := s.toks) hk
  refine wpAny_bind (wpAny_newList ?_ (by simpa using hzz))
  have hoL : (h'.push (seqObj "list" its.toArray.toList.toArray 0)).get? h'.objs.size = some (seqObj "list" its.toArray.toList.toArray 0) := Heap.get?_push_size _ rfl
  refine wpAny_bind (wpAny_holding (wpAny_call_entry PyProof.Rows.slot_list_sort ⟨_, hoL, rfl⟩ PyProof.Rows.entry_list_sort
    (SrtO.list_sort_ord (s := { s with heap := h'.push (seqObj "list" its.toArray.toList.toArray 0) }) SrtO.swo_int hoL (by simpa using hzz) (fun h2 => SrtO.ints_sortable (by simpa using hi) h2) fun out h1 h2 => ⟨.none, rfl, ?_⟩) (PyProof.Rows.args_list_sort _)))
  obtain ⟨k1, k2, k3⟩ := SrtO.ints_out (by simpa using hi) h1 h2
  obtain ⟨ep, he'⟩ := PyProof.Rows.sortedHeap_at (vs := its.toArray.toList) (out := out.toArray) hoL
  have hlen : ((out.map SrtO.iv).map V.int).length ≤ sizeLine := by
    rw [List.length_map, k2.length_eq]
    rw [List.length_map] at hz
    exact hz
  refine wpAny_pure ⟨_, rfl, .ref h'.objs.size, upd H h'.objs.size (.lst ((out.map SrtO.iv).map V.int)), I1.laid (t' := s.toks) (fun b u e => ?_) (Nat.le_refl _) ⟨hlen, out, ep, vals_of_ints k1, he'⟩, rfl, q _ _ k2 k3 (I1.hok.fresh (Nat.le_refl _))⟩
  have hb : b ≠ h'.objs.size := Nat.ne_of_lt (Heap.lt_size e)
  rw [PyProof.Rows.sortedHeap_old hb (Heap.lt_size (Heap.get?_push_of_some _ e))]
  exact Heap.get?_push_of_some _ e
def rSortedTS (K : PySem.W.Frag) : List V → Hp → VK → Prop := fun vs H Q => ∃ (a : Addr) (xs : List Str), vs = [V.ref a] ∧ SqT K H a (xs.map V.str) ∧ xs.length < 64 ∧
  ∀ (ys : List Str) (p : Addr), ys.Perm xs → sortedS ys = true → H p = none → Q (.ref p) (upd H p (.lst (ys.map V.str)))
theorem cr_sortedTS : CallR X (.builtin "sorted") (rSortedTS X.K) := by
  intro pins s σ H vs us Q I r h
  obtain ⟨a, zs, rfl, hs, h64, q⟩ := h
  obtain ⟨its, rv, ⟨o, ho, hc, n, hd⟩, hz⟩ := I.tuple hs
  rw [Vals.ref1 r]
  have hS := rv.strs
  have hl : its.length = zs.length := by
    have z := rv.length
    rw [List.length_map] at z
    exact z.symm
  have hzz : its.toArray.size ≤ sizeLine := by rw [List.size_toArray, ← rv.length]; exact hz
  refine Calls.call_function_entry PyProof.Rows.kind_sorted PyProof.Rows.plain_sorted PyProof.Rows.entry_sorted (PyProof.Rows.args_sorted1 _) ?_
  unfold Builtin.«sorted»
  refine wpAny_bind (m := checkCount "sorted" 1 1 _) (wpAny_pure ?_)
  refine wpAny_bind (wpAny_collect_seq a (.inr rfl) ho hc hd (fun h' hk => ?_) hzz)
  have I1 : Inv X pins σ H { s with heap := h' } := I.kept (t' := s.toks) hk
  refine wpAny_bind (wpAny_newList ?_ (by simpa using hzz))
  have hoL : (h'.push (seqObj "list" its.toArray.toList.toArray 0)).get? h'.objs.size = some (seqObj "list" its.toArray.toList.toArray 0) := Heap.get?_push_size _ rfl
  have hS' : StrsAre its.toArray.toList zs := by simpa using hS
  refine wpAny_bind (wpAny_holding (wpAny_call_entry PyProof.Rows.slot_list_sort ⟨_, hoL, rfl⟩ PyProof.Rows.entry_list_sort
    (list_sort_treeK (s := { s with heap := h'.push (seqObj "list" its.toArray.toList.toArray 0) }) strKind_oneLt hoL hS'.keysOf (fun v₁ v₂ rest e => keyKind_strs (by rw [← e]; exact hS')) (by simpa [hl] using h64) fun st' hp hs => ?_) (PyProof.Rows.args_list_sort _)))
  obtain ⟨ys, g1, g2, g3⟩ := sorted_out_str hS' hp hs
  obtain ⟨ep, he'⟩ := PyProof.Rows.sortedHeap_at (vs := its.toArray.toList) (out := (arrOf st').map (·.2)) hoL
  have hlen : (ys.map V.str).length ≤ sizeLine := by
    rw [List.length_map, g2.length_eq]
    exact Nat.le_trans (Nat.le_of_lt h64) (by decide)
  refine ⟨_, rfl, wpAny_pure ⟨_, rfl, .ref h'.objs.size, upd H h'.objs.size (.lst (ys.map V.str)), I1.laid (t' := s.toks) (fun b u e => ?_) (Nat.le_refl _) ⟨hlen, ((arrOf st').map (·.2)).toList, ep, vals_of_strs g1, by rw [Array.toArray_toList]; exact he'⟩, rfl, q _ _ g2 g3 (I1.hok.fresh (Nat.le_refl _))⟩⟩
  have hb : b ≠ h'.objs.size := Nat.ne_of_lt (Heap.lt_size e)
  rw [PyProof.Rows.sortedHeap_old hb (Heap.lt_size (Heap.get?_push_of_some _ e))]
  exact Heap.get?_push_of_some _ e
end

/-! ### built-in calls -/
def CallS (T : Tb) (r : List V → Hp → VK → Prop) (g : List R → List D → Option (D × List R)) : Prop :=
  ∀ (w : Wd) (m : List R) (vs : List V) (ds : List D) (p : D × List R) (Q : VK), Wf T w m → RepL T w.Hs w.al vs ds → g m ds = some p →
    (∀ w' v, Ext w w' → Wf T w' p.2 → Rep T w'.Hs w'.al v p.1 → Q v w'.H) → r vs w.H Q
theorem asInts_map : ∀ {xs : List D} {ns : List Int}, asInts xs = some ns → xs = ns.map .int
  | [], ns, e => by cases e; rfl
  | .int i :: r, ns, e => by
    simp only [asInts] at e
    cases h : asInts r with
    | none => rw [h] at e; cases e
    | some q => rw [h] at e; cases e; rw [asInts_map h]; rfl
  | .non :: _, _, e | .bl _ :: _, _, e | .str _ :: _, _, e | .tup _ :: _, _, e | .lst _ :: _, _, e | .ext _ :: _, _, e | .obj _ _ :: _, _, e | .res _ :: _, _, e => by cases e
theorem asStrs_map : ∀ {xs : List D} {ns : List Str}, asStrs xs = some ns → xs = ns.map .str
  | [], ns, e => by cases e; rfl
  | .str i :: r, ns, e => by
    simp only [asStrs] at e
    cases h : asStrs r with
    | none => rw [h] at e; cases e
    | some q => rw [h] at e; cases e; rw [asStrs_map h]; rfl
  | .non :: _, _, e | .bl _ :: _, _, e | .int _ :: _, _, e | .tup _ :: _, _, e | .lst _ :: _, _, e | .ext _ :: _, _, e | .obj _ _ :: _, _, e | .res _ :: _, _, e => by cases e
theorem asBls_map : ∀ {xs : List D} {ns : List Bool}, asBls xs = some ns → xs = ns.map .bl
  | [], ns, e => by cases e; rfl
  | .bl i :: r, ns, e => by
    simp only [asBls] at e
    cases h : asBls r with
    | none => rw [h] at e; cases e
    | some q => rw [h] at e; cases e; rw [asBls_map h]; rfl
  | .non :: _, _, e | .str _ :: _, _, e | .int _ :: _, _, e | .tup _ :: _, _, e | .lst _ :: _, _, e | .ext _ :: _, _, e | .obj _ _ :: _, _, e | .res _ :: _, _, e => by cases e
theorem sortI_uniq {ns ys : List Int} (p : ys.Perm ns) (s : ys.Pairwise (· ≤ ·)) : ys = sortI ns := by
  refine List.Perm.eq_of_pairwise (le := (· ≤ ·)) (fun a b _ _ h1 h2 => Int.le_antisymm h1 h2) s ?_ (p.trans (List.mergeSort_perm _ _).symm)
  have := List.pairwise_mergeSort (le := fun a b => decide (a ≤ b)) (fun a b c h1 h2 => decide_eq_true (Int.le_trans (of_decide_eq_true h1) (of_decide_eq_true h2))) (fun a b => by
    rcases Int.le_total a b with h | h <;> simp [h]) ns
  exact this.imp fun h => of_decide_eq_true h
theorem leS_iff {a b : Str} : leS a b = true ↔ a.cps.toList ≤ b.cps.toList := by
  unfold leS
  rw [Bool.not_eq_true', decide_eq_false_iff_not]
  exact Iff.rfl
theorem sortedS_pw : ∀ {ys : List Str}, sortedS ys = true → ys.Pairwise (fun a b => a.cps.toList ≤ b.cps.toList)
  | [], _ => .nil
  | [x], _ => List.pairwise_singleton _ _
  | x :: y :: r, h => by
    have h : (!ltCps y.cps.toList x.cps.toList && risingS y r) = true := h
    rw [Bool.and_eq_true] at h
    have ih := sortedS_pw (ys := y :: r) h.2
    have hxy : x.cps.toList ≤ y.cps.toList := by
      have h1 := h.1
      rw [PyProof.Rows.ltCps_eq, Bool.not_eq_true', decide_eq_false_iff_not] at h1
      exact h1
    refine .cons (fun z hz => ?_) ih
    rcases List.mem_cons.mp hz with rfl | hz
    · exact hxy
    · exact List.le_trans hxy (List.rel_of_pairwise_cons ih hz)
theorem str_of_cps {a b : Str} (h : a.cps.toList = b.cps.toList) : a = b := by
  cases a; cases b
  simp only at h
  congr 1
  exact Array.toList_inj.mp h
theorem sortS_uniq {zs ys : List Str} (p : ys.Perm zs) (s : sortedS ys = true) : ys = sortS zs := by
  refine List.Perm.eq_of_pairwise (le := fun a b => a.cps.toList ≤ b.cps.toList) (fun a b _ _ h1 h2 => str_of_cps (List.le_antisymm h1 h2)) (sortedS_pw s) ?_ (p.trans (List.mergeSort_perm _ _).symm)
  have := List.pairwise_mergeSort (le := leS) (fun a b c h1 h2 => leS_iff.mpr (List.le_trans (leS_iff.mp h1) (leS_iff.mp h2))) (fun a b => by
    rcases List.le_total a.cps.toList b.cps.toList with h | h
    · rw [leS_iff.mpr h]; rfl
    · rw [leS_iff.mpr h, Bool.or_true]) zs
  exact this.imp fun h => leS_iff.mp h

section
variable {T : Tb}
def rLen2 (K : PySem.W.Frag) : List V → Hp → VK → Prop := fun xs H Q => (∃ p ys, xs = [.ref p] ∧ (SqL K H p ys ∨ SqT K H p ys) ∧ Q (.int ys.length) H) ∨ (∃ z, xs = [.str z] ∧ z.length ≤ sizeLine ∧ Q (.int z.length) H)
theorem len_s (mu : Bool) : CallS T (rLen2 T.K) (biD .len mu) := by
  intro w m vs ds p Q W r e q
  match ds, e with
  | [a], e =>
    obtain ⟨v, rfl, rv⟩ := r.inv1
    have gen : (sq m a).map (fun xs => ((.int xs.length, m) : D × List R)) = some p → rLen2 T.K [v] w.H Q := fun e => by
      cases h : sq m a with
      | none => rw [h] at e; cases e
      | some xs =>
        rw [h] at e
        cases e
        obtain ⟨b, us, rfl, hs, rs⟩ := sq_rep W rv h
        refine .inl ⟨b, us, rfl, hs, ?_⟩
        have := OpS.here W q (.int (xs.length : Int))
        rw [rs.length]; exact this
    cases a with
    | str x =>
      simp only [biD] at e
      split at e
      · cases e
        cases rv
        exact .inr ⟨x, rfl, by assumption, OpS.here W q (.int _)⟩
      · cases e
    | _ => exact gen e
  | [.int i, .int j], e => cases e
def rLst1 (K : PySem.W.Frag) : List V → Hp → VK → Prop := fun xs H Q => ∃ p ys, xs = [.ref p] ∧ (SqL K H p ys ∨ SqT K H p ys) ∧ ∀ l, H l = none → Q (.ref l) (upd H l (.lst ys))
theorem list_s (mu : Bool) : CallS T (rLst1 T.K) (biD .list mu) := by
  intro w m vs ds p Q W r e q
  match ds, e with
  | [a], e =>
    obtain ⟨v, rfl, rv⟩ := r.inv1
    simp only [biD] at e
    cases h : sq m a with
    | none => rw [h] at e; cases e
    | some xs =>
      rw [h] at e
      cases e
      obtain ⟨b, us, rfl, hs, rs⟩ := sq_rep W rv h
      exact ⟨b, us, rfl, hs, fun l hl => new_list W rs hl q⟩
  | [.int i, .int j], e => cases e
def rTup1 (K : PySem.W.Frag) : List V → Hp → VK → Prop := fun xs H Q => ∃ p ys, xs = [.ref p] ∧ ((SqL K H p ys ∧ ∀ l o, H l = none → PTo o → Q (.ref l) (upd H l (.frz o (.tup ys)))) ∨ (SqT K H p ys ∧ Q (.ref p) H))
theorem tuple_s (mu : Bool) : CallS T (rTup1 T.K) (biD .tuple mu) := by
  intro w m vs ds p Q W r e q
  match ds, e with
  | [a], e =>
    obtain ⟨v, rfl, rv⟩ := r.inv1
    simp only [biD] at e
    cases h : sq m a with
    | none => rw [h] at e; cases e
    | some xs =>
      rw [h] at e
      cases e
      have mk : ∀ b us, v = .ref b → SqL T.K w.H b us → RepL T w.Hs w.al us xs → rTup1 T.K [v] w.H Q := fun b us ev hs rs => ⟨b, us, by rw [ev], .inl ⟨hs, fun l o hl ho => new_tup W rs hl ho q⟩⟩
      cases rv with
      | tup s rs =>
        have e2 := Option.some.inj h
        subst e2
        exact ⟨_, _, rfl, .inr ⟨(Le.sqN W.sub s).sqT, OpS.here W q (.tup s rs)⟩⟩
      | lst s rs =>
        have e2 := Option.some.inj h
        subst e2
        exact mk _ _ rfl (SqL.of (W.sub _ _ s)) rs
      | ext s rs =>
        have e2 := Option.some.inj h
        subst e2
        exact mk _ _ rfl (Le.sqL W.sub s) rs
      | res hk =>
        obtain ⟨b, us, e1, h1, rs⟩ := lsq_rep W (.res hk) (xs := xs) h
        exact mk b us e1 (SqL.of h1) rs
      | _ => cases h
  | [.int i, .int j], e => cases e
theorem int_s1 (mu : Bool) : CallS T (fun xs H Q => (∃ i, xs = [.int i] ∧ Q (.int i) H) ∨ ∃ k, xs = [.bl k] ∧ Q (.int (if k then 1 else 0)) H) (biD .int mu) := by
  intro w m vs ds p Q W r e q
  match ds, e with
  | [a], e =>
    obtain ⟨v, rfl, rv⟩ := r.inv1
    cases a with
    | int i => cases e; cases rv; exact .inl ⟨i, rfl, OpS.here W q (.int _)⟩
    | bl k => cases e; cases rv; exact .inr ⟨k, rfl, OpS.here W q (.int _)⟩
    | _ => cases e
  | [.int i, .int j], e => cases e
theorem str_s1 (mu : Bool) : CallS T (fun xs H Q => ∃ i, xs = [.int i] ∧ i.natAbs.log2 < 1920 ∧ Q (.str (toString i)) H) (biD .str mu) := by
  intro w m vs ds p Q W r e q
  match ds, e with
  | [a], e =>
    obtain ⟨v, rfl, rv⟩ := r.inv1
    cases a with
    | int i =>
      simp only [biD] at e
      split at e
      · cases e; cases rv; exact ⟨i, rfl, by assumption, OpS.here W q (.str _)⟩
      · cases e
    | _ => cases e
  | [.int i, .int j], e => cases e
theorem abs_s1 (mu : Bool) : CallS T (fun xs H Q => ∃ i, xs = [.int i] ∧ Q (.int (if i < 0 then -i else i)) H) (biD .abs mu) := by
  intro w m vs ds p Q W r e q
  match ds, e with
  | [a], e =>
    obtain ⟨v, rfl, rv⟩ := r.inv1
    cases a with
    | int i => cases e; cases rv; exact ⟨i, rfl, OpS.here W q (.int _)⟩
    | _ => cases e
  | [.int i, .int j], e => cases e
theorem asIS_map : ∀ {xs : List D} {ps : List (Int × Str)}, asIS xs = some ps → xs = ps.map pairD
  | [], ps, e => by cases e; rfl
  | x :: r, ps, e => by
    unfold asIS at e
    split at e
    · rename_i h; cases h
    · rename_i i x r' h
      cases h
      cases hq : asIS r with
      | none => rw [hq] at e; cases e
      | some q => rw [hq] at e; cases e; rw [asIS_map hq]; rfl
    · cases e
def fIS (ps : List (Int × Str)) (i : Int) : Str := ((ps.find? fun p => decide (p.1 = i)).map (·.2)).getD ⟨#[]⟩
theorem conIS_eq {ps : List (Int × Str)} (h : conIS ps = true) {p q : Int × Str} (hp : p ∈ ps) (hq : q ∈ ps) (e : p.1 = q.1) : p.2 = q.2 := by
  unfold conIS at h
  have h1 := List.all_eq_true.mp (List.all_eq_true.mp h p hp) q hq
  rw [decide_eq_true e] at h1
  simpa using h1
theorem fIS_eq {ps : List (Int × Str)} (h : conIS ps = true) {p : Int × Str} (hp : p ∈ ps) : p.2 = fIS ps p.1 := by
  unfold fIS
  cases hf : ps.find? (fun q => decide (q.1 = p.1)) with
  | none =>
    have := List.find?_eq_none.mp hf p hp
    simp at this
  | some q =>
    have h1 := List.find?_some hf
    have h2 := List.mem_of_find?_eq_some hf
    exact conIS_eq h hp h2 (of_decide_eq_true h1).symm
theorem perm_of_map {ps : List (Int × Str)} {ds : List D} (h : ds.Perm (ps.map pairD)) : ∃ qs : List (Int × Str), ds = qs.map pairD ∧ qs.Perm ps := by
  have key : ∀ {l m : List D}, l.Perm m → ∀ ps : List (Int × Str), m = ps.map pairD → ∃ qs : List (Int × Str), l = qs.map pairD ∧ qs.Perm ps := by
    intro l m h
    induction h with
    | nil => intro ps e; exact ⟨ps, e, List.Perm.refl _⟩
    | cons x _ ih =>
      intro ps e
      cases ps with
      | nil => cases e
      | cons p ps =>
        injection e with e1 e2
        obtain ⟨qs, h1, h2⟩ := ih ps e2
        exact ⟨p :: qs, by rw [h1, e1]; rfl, h2.cons p⟩
    | swap x y l =>
      intro ps e
      match ps, e with
      | p :: q :: ps, e =>
        injection e with e1 e2
        injection e2 with e2 e3
        exact ⟨q :: p :: ps, by rw [e1, e2, e3]; rfl, List.Perm.swap _ _ _⟩
    | trans _ _ ih1 ih2 =>
      intro ps e
      obtain ⟨qs, h1, h2⟩ := ih2 ps e
      obtain ⟨rs, h3, h4⟩ := ih1 qs h1
      exact ⟨rs, h3, h4.trans h2⟩
  exact key h ps rfl
theorem sortIS_uniq {ps qs : List (Int × Str)} (hc : conIS ps = true) (p : qs.Perm ps) (s : qs.Pairwise fun a b => a.1 ≤ b.1) : qs = sortIS ps := by
  refine List.Perm.eq_of_pairwise (le := fun a b : Int × Str => a.1 ≤ b.1) (fun a b ha hb h1 h2 => ?_) s ?_ (p.trans (List.mergeSort_perm _ _).symm)
  · have e := Int.le_antisymm h1 h2
    exact Prod.ext e (conIS_eq hc (p.mem_iff.mp ha) ((List.mergeSort_perm _ _).mem_iff.mp hb) e)
  · have := List.pairwise_mergeSort (le := fun a b : Int × Str => decide (a.1 ≤ b.1)) (fun a b c h1 h2 => decide_eq_true (Int.le_trans (of_decide_eq_true h1) (of_decide_eq_true h2))) (fun a b => by
      rcases Int.le_total a.1 b.1 with h | h <;> simp [h]) ps
    exact this.imp fun h => of_decide_eq_true h
theorem RepL.memV {T : Tb} {Hs : Hp} {al : List Addr} : ∀ {vs : List V} {ds : List D} {v : V}, RepL T Hs al vs ds → v ∈ vs → ∃ d, d ∈ ds ∧ Rep T Hs al v d
  | _, _, _, .nil, h => by cases h
  | _, _, _, .cons r t, h => by
    rcases List.mem_cons.mp h with rfl | h
    · exact ⟨_, List.mem_cons_self, r⟩
    · obtain ⟨d, h1, h2⟩ := RepL.memV t h
      exact ⟨d, List.mem_cons_of_mem _ h1, h2⟩
theorem RepL.permV {T : Tb} {Hs : Hp} {al : List Addr} {vs us : List V} (h : us.Perm vs) : ∀ {ds : List D}, RepL T Hs al vs ds → ∃ ds' : List D, ds'.Perm ds ∧ RepL T Hs al us ds' := by
  induction h with
  | nil => intro ds r; exact ⟨ds, List.Perm.refl _, r⟩
  | cons x _ ih =>
    intro ds r
    cases r with
    | cons r t =>
      obtain ⟨ds', h1, h2⟩ := ih t
      exact ⟨_, h1.cons _, .cons r h2⟩
  | swap x y l =>
    intro ds r
    cases r with
    | cons r t =>
      cases t with
      | cons r2 t => exact ⟨_, List.Perm.swap _ _ _, .cons r2 (.cons r t)⟩
  | trans _ _ ih1 ih2 =>
    intro ds r
    obtain ⟨d2, h1, h2⟩ := ih2 r
    obtain ⟨d3, h3, h4⟩ := ih1 h2
    exact ⟨d3, h3.trans h1, h4⟩
theorem pair_rep {T : Tb} {w : Wd} {m : List R} {v : V} {p : Int × Str} (W : Wf T w m) (r : Rep T w.Hs w.al v (pairD p)) : ∃ t, v = .ref t ∧ SqT T.K w.H t [.int p.1, .str p.2] := by
  unfold pairD at r
  cases r with
  | tup s rl =>
    cases rl with
    | cons r1 t =>
      cases t with
      | cons r2 t2 =>
        cases t2
        cases r1
        cases r2
        exact ⟨_, rfl, Le.sqT W.sub (SqN.sqT s)⟩
theorem pairs_sorted {T : Tb} {w : Wd} {m : List R} (W : Wf T w m) {f : Int → Str} : ∀ {ys : List V} {qs : List (Int × Str)}, RepL T w.Hs w.al ys (qs.map pairD) → (∀ q ∈ qs, q.2 = f q.1) →
    ys.Pairwise (fun x y => ∀ t u i j, x = V.ref t → y = V.ref u → SqT T.K w.H t [.int i, .str (f i)] → SqT T.K w.H u [.int j, .str (f j)] → i ≤ j) → qs.Pairwise fun a b => a.1 ≤ b.1
  | [], [], _, _, _ => List.Pairwise.nil
  | _, [], _, _, _ => List.Pairwise.nil
  | [], _ :: _, r, _, _ => by cases r
  | y :: ys, q :: qs, r, hf, hp => by
    cases r with
    | cons r t =>
      have hp2 := List.pairwise_cons.mp hp
      refine List.pairwise_cons.mpr ⟨fun q' hq' => ?_, pairs_sorted W t (fun q hq => hf q (List.mem_cons_of_mem _ hq)) hp2.2⟩
      obtain ⟨i, hi, e⟩ := List.getElem_of_mem hq'
      have hi2 : (qs.map pairD)[i]? = some (pairD q') := by rw [List.getElem?_map, List.getElem?_eq_getElem hi, e]; rfl
      obtain ⟨v, hv, rv⟩ := t.get hi2
      obtain ⟨t1, e1, s1⟩ := pair_rep W r
      obtain ⟨t2, e2, s2⟩ := pair_rep W rv
      rw [hf q List.mem_cons_self] at s1
      rw [hf q' (List.mem_cons_of_mem _ hq')] at s2
      exact hp2.1 v (List.mem_of_getElem? hv) t1 t2 q.1 q'.1 e1 e2 s1 s2
def rSrt4 (K : PySem.W.Frag) : List V → Hp → VK → Prop := fun xs H Q => rSortedI K xs H Q ∨ rSortedTI K xs H Q ∨ rSortedS K xs H Q ∨ rSortedTS K xs H Q ∨ rSortedIS K xs H Q
theorem sorted_s (mu : Bool) : CallS T (rSrt4 T.K) (biD .sorted mu) := by
  intro w m vs ds p Q W r e q
  match ds, e with
  | [a], e =>
    obtain ⟨v, rfl, rv⟩ := r.inv1
    simp only [biD] at e
    split at e
    · rename_i xs h
      obtain ⟨b, us, rfl, hs, rs⟩ := sq_rep W rv h
      split at e
      · rename_i ns hn
        cases e
        have hx := asInts_map hn
        subst hx
        have hu := rs.ints
        subst hu
        have fin : ∀ (ns' : List Int) (p : Addr), ns'.Perm ns → ns'.Pairwise (· ≤ ·) → w.H p = none → Q (.ref p) (upd w.H p (.lst (ns'.map V.int))) := fun ns' p h1 h2 hp => by
          rw [sortI_uniq h1 h2]
          exact new_list W (RepL.ofInts _) hp q
        rcases hs with hs | hs
        · exact .inl ⟨b, ns, rfl, hs, fin⟩
        · exact .inr (.inl ⟨b, ns, rfl, hs, fin⟩)
      · split at e
        · rename_i zs hz
          split at e
          · rename_i h64
            cases e
            have hx := asStrs_map hz
            subst hx
            have hu := rs.strs
            subst hu
            have fin : ∀ (ys : List Str) (p : Addr), ys.Perm zs → sortedS ys = true → w.H p = none → Q (.ref p) (upd w.H p (.lst (ys.map V.str))) := fun ns' p h1 h2 hp => by
              rw [sortS_uniq h1 h2]
              exact new_list W (RepL.ofStrs _) hp q
            rcases hs with hs | hs
            · exact .inr (.inr (.inl ⟨b, zs, rfl, hs, h64, fin⟩))
            · exact .inr (.inr (.inr (.inl ⟨b, zs, rfl, hs, h64, fin⟩)))
          · cases e
        · split at e
          · rename_i zs hz
            obtain ⟨b2, us2, hb2, hs2, rs2⟩ := lsq_rep W rv hz
            split at e
            · rename_i ps hp
              split at e
              · rename_i hc
                cases e
                have hx := asIS_map hp
                subst hx
                refine .inr (.inr (.inr (.inr ⟨b2, us2, fIS ps, by rw [hb2], SqL.of hs2, fun x hx => ?_, fun ys p h1 h2 hp => ?_⟩)))
                · obtain ⟨d, hd, rd⟩ := RepL.memV rs2 hx
                  obtain ⟨pr, hpr, rfl⟩ := List.mem_map.mp hd
                  obtain ⟨t, rfl, ht⟩ := pair_rep W rd
                  refine ⟨t, pr.1, rfl, ?_⟩
                  rw [← fIS_eq hc hpr]
                  exact ht
                · obtain ⟨ds', h3, h4⟩ := RepL.permV h1 rs2
                  obtain ⟨qs, rfl, h5⟩ := perm_of_map h3
                  have h6 : qs = sortIS ps := sortIS_uniq hc h5 (pairs_sorted W h4 (fun q hq => fIS_eq hc (h5.mem_iff.mp hq)) h2)
                  rw [h6] at h4
                  exact new_list W h4 hp q
              · cases e
            · cases e
          · cases e
    · cases e
  | [.int i, .int j], e => cases e
def rMx (K : PySem.W.Frag) : List V → Hp → VK → Prop := fun xs H Q => (∃ i j, xs = [.int i, .int j] ∧ Q (.int (if j > i then j else i)) H) ∨ rMax K xs H Q
def rMn (K : PySem.W.Frag) : List V → Hp → VK → Prop := fun xs H Q => (∃ i j, xs = [.int i, .int j] ∧ Q (.int (if j < i then j else i)) H) ∨ rMin K xs H Q
theorem max_s (mu : Bool) : CallS T (rMx T.K) (biD .max mu) := by
  intro w m vs ds p Q W r e q
  match ds, e with
  | [a], e =>
    obtain ⟨v, rfl, rv⟩ := r.inv1
    simp only [biD] at e
    split at e
    · rename_i xs h
      obtain ⟨b, us, rfl, hs, rs⟩ := lsq_rep W rv h
      split at e
      · rename_i ns hn
        have hx := asInts_map hn
        subst hx
        have hu := rs.ints
        subst hu
        cases hm : ns.max? with
        | none => rw [hm] at e; cases e
        | some k =>
          rw [hm] at e
          cases e
          have hk := List.max?_eq_some_iff.mp hm
          refine .inr ⟨b, ns, rfl, SqL.of hs, List.length_pos_of_mem hk.1, fun m' h1 h2 => ?_⟩
          have : m' = k := Int.le_antisymm (hk.2 m' h1) (h2 k hk.1)
          rw [this]
          exact OpS.here W q (.int _)
      · cases e
    · cases e
  | [.int i, .int j], e =>
    cases e
    obtain ⟨v, u, rfl, r1, r2⟩ := r.two
    cases r1; cases r2
    exact .inl ⟨i, j, rfl, OpS.here W q (.int _)⟩
theorem min_s (mu : Bool) : CallS T (rMn T.K) (biD .min mu) := by
  intro w m vs ds p Q W r e q
  match ds, e with
  | [a], e =>
    obtain ⟨v, rfl, rv⟩ := r.inv1
    simp only [biD] at e
    split at e
    · rename_i xs h
      obtain ⟨b, us, rfl, hs, rs⟩ := lsq_rep W rv h
      split at e
      · rename_i ns hn
        have hx := asInts_map hn
        subst hx
        have hu := rs.ints
        subst hu
        cases hm : ns.min? with
        | none => rw [hm] at e; cases e
        | some k =>
          rw [hm] at e
          cases e
          have hk := List.min?_eq_some_iff.mp hm
          refine .inr ⟨b, ns, rfl, SqL.of hs, List.length_pos_of_mem hk.1, fun m' h1 h2 => ?_⟩
          have : m' = k := Int.le_antisymm (h2 k hk.1) (hk.2 m' h1)
          rw [this]
          exact OpS.here W q (.int _)
      · cases e
    · cases e
  | [.int i, .int j], e =>
    cases e
    obtain ⟨v, u, rfl, r1, r2⟩ := r.two
    cases r1; cases r2
    exact .inl ⟨i, j, rfl, OpS.here W q (.int _)⟩
theorem sum_s (mu : Bool) : CallS T (rSum T.K) (biD .sum mu) := by
  intro w m vs ds p Q W r e q
  match ds, e with
  | [a], e =>
    obtain ⟨v, rfl, rv⟩ := r.inv1
    simp only [biD] at e
    split at e
    · rename_i xs h
      obtain ⟨b, us, rfl, hs, rs⟩ := lsq_rep W rv h
      cases hn : asInts xs with
      | none => rw [hn] at e; cases e
      | some ns =>
        rw [hn] at e
        cases e
        have hx := asInts_map hn
        subst hx
        have hu := rs.ints
        subst hu
        exact ⟨b, ns, rfl, SqL.of hs, OpS.here W q (.int _)⟩
    · cases e
  | [.int i, .int j], e => cases e
theorem all_s (mu : Bool) : CallS T (rAll T.K) (biD .all mu) := by
  intro w m vs ds p Q W r e q
  match ds, e with
  | [a], e =>
    obtain ⟨v, rfl, rv⟩ := r.inv1
    simp only [biD] at e
    split at e
    · rename_i xs h
      obtain ⟨b, us, rfl, hs, rs⟩ := lsq_rep W rv h
      cases hn : asBls xs with
      | none => rw [hn] at e; cases e
      | some ns =>
        rw [hn] at e
        cases e
        have hx := asBls_map hn
        subst hx
        have hu := rs.bls
        subst hu
        exact ⟨b, ns, rfl, SqL.of hs, OpS.here W q (.bl _)⟩
    · cases e
  | [.int i, .int j], e => cases e
theorem any_s (mu : Bool) : CallS T (rAny T.K) (biD .any mu) := by
  intro w m vs ds p Q W r e q
  match ds, e with
  | [a], e =>
    obtain ⟨v, rfl, rv⟩ := r.inv1
    simp only [biD] at e
    split at e
    · rename_i xs h
      obtain ⟨b, us, rfl, hs, rs⟩ := lsq_rep W rv h
      cases hn : asBls xs with
      | none => rw [hn] at e; cases e
      | some ns =>
        rw [hn] at e
        cases e
        have hx := asBls_map hn
        subst hx
        have hu := rs.bls
        subst hu
        exact ⟨b, ns, rfl, SqL.of hs, OpS.here W q (.bl _)⟩
    · cases e
  | [.int i, .int j], e => cases e
end
end Dv

namespace Dv
open PySem PySem.Spec PyProof.Rows L2

section
variable {C : Cs}
/-! ### built-ins called by name -/
theorem de_fnB {x : Str} {id : String} {b : Bi} {mu : Bool} {r : List V → Hp → VK → Prop} {e : Expr} {es : List Expr} {xs : Es} {p pos : Pos} (hc : ∀ X, C.Ok X → CallR X (.builtin id) r) (hs : CallS C.T r (biD b mu)) (hg : C.sc.names.lookup x = some .globalImplicit)
    (hm : C.mg x = none) (hv : bootBuiltins x = some (.builtin id)) (hn : x ≠ "__name__") (hdb : (x == ("__debug__" : Str)) = false) (ha : DA C (e :: es) (evL C.g xs)) (hst : (e :: es).all noStar = true) : DE C (.Call (.Name x p) (e :: es) [] pos) (evE C.g (.bi b mu xs)) := by
  obtain ⟨t, pt, rt⟩ := ha
  rw [List.all_cons, Bool.and_eq_true] at hst
  refine ⟨tCB r t, fun X ok => pe_callB (hc X ok) (show X.env.scope.names.lookup x = some .globalImplicit by rw [ok.sc]; exact hg) (by rw [ok.mg]; exact hm) hv (pt X ok) hn hdb (star1 hst.1 es _) (stars hst.2), fun σ w ρ m Q oo W E e0 pp => ?_⟩
  simp only [evE] at e0
  refine rt.bnd W E e0 pp fun d m1 w1 v1 e1 x1 W1 r1 E1 p1 => ?_
  obtain ⟨q, e2, rfl⟩ := okP_some e1
  exact hs w1 m1 v1 d q Q W1 r1 e2 fun w' v x' W' r' => p1 w' v x' W' r'
theorem de_tyB {x : Str} {id : String} {b : Bi} {mu : Bool} {r : List V → Hp → VK → Prop} {e : Expr} {es : List Expr} {xs : Es} {p pos : Pos} (hc : ∀ X, C.Ok X → CallR X (.type id) r) (hs : CallS C.T r (biD b mu)) (hg : C.sc.names.lookup x = some .globalImplicit)
    (hm : C.mg x = none) (hv : bootBuiltins x = some (.type id)) (hn : x ≠ "__name__") (hdb : (x == ("__debug__" : Str)) = false) (ha : DA C (e :: es) (evL C.g xs)) (hst : (e :: es).all noStar = true) : DE C (.Call (.Name x p) (e :: es) [] pos) (evE C.g (.bi b mu xs)) := by
  obtain ⟨t, pt, rt⟩ := ha
  rw [List.all_cons, Bool.and_eq_true] at hst
  refine ⟨tCB r t, fun X ok => pe_callTy (hc X ok) (show X.env.scope.names.lookup x = some .globalImplicit by rw [ok.sc]; exact hg) (by rw [ok.mg]; exact hm) hv (pt X ok) hn hdb (star1 hst.1 es _) (stars hst.2), fun σ w ρ m Q oo W E e0 pp => ?_⟩
  simp only [evE] at e0
  refine rt.bnd W E e0 pp fun d m1 w1 v1 e1 x1 W1 r1 E1 p1 => ?_
  obtain ⟨q, e2, rfl⟩ := okP_some e1
  exact hs w1 m1 v1 d q Q W1 r1 e2 fun w' v x' W' r' => p1 w' v x' W' r'
def biName : Bi → Str
  | .len => "len" | .list => "list" | .tuple => "tuple" | .int => "int" | .str => "str" | .abs => "abs" | .max => "max" | .min => "min" | .sum => "sum" | .sorted => "sorted" | .all => "all" | .any => "any"
theorem de_bi {b : Bi} {mu : Bool} {e : Expr} {es : List Expr} {xs : Es} {p pos : Pos} (hg : C.sc.names.lookup (biName b) = some .globalImplicit) (hm : C.mg (biName b) = none) (ha : DA C (e :: es) (evL C.g xs)) (hst : (e :: es).all noStar = true) :
    DE C (.Call (.Name (biName b) p) (e :: es) [] pos) (evE C.g (.bi b mu xs)) := by
  cases b with
  | len => exact de_fnB (fun X ok => by have := CallR.or (call_len_seq (X := X)) call_len_str; rw [ok.K] at this; exact this) (len_s mu) hg hm PySem.boot_len (by decide) (by decide) ha hst
  | list => exact de_tyB (fun X ok => by have := call_list_of (X := X); rw [ok.K] at this; exact this) (list_s mu) hg hm (by decide +kernel) (by decide) (by decide) ha hst
  | tuple => exact de_tyB (fun X ok => by have := call_tupleF (X := X); rw [ok.K] at this; exact this) (tuple_s mu) hg hm (by decide +kernel) (by decide) (by decide) ha hst
  | int => exact de_tyB (fun X ok => call_int1) (int_s1 mu) hg hm (by decide +kernel) (by decide) (by decide) ha hst
  | str => exact de_tyB (fun X ok => call_str_int) (str_s1 mu) hg hm (by decide +kernel) (by decide) (by decide) ha hst
  | abs => exact de_fnB (fun X ok => call_abs) (abs_s1 mu) hg hm (by decide +kernel) (by decide) (by decide) ha hst
  | max => exact de_fnB (fun X ok => by have := CallR.or (call_max2 (X := X) ok.calm) (cr_max ok.calm); rw [ok.K] at this; exact this) (max_s mu) hg hm (by decide +kernel) (by decide) (by decide) ha hst
  | min => exact de_fnB (fun X ok => by have := CallR.or (call_min2 (X := X) ok.calm) (cr_min ok.calm); rw [ok.K] at this; exact this) (min_s mu) hg hm (by decide +kernel) (by decide) (by decide) ha hst
  | sum => exact de_fnB (fun X ok => by have := cr_sum (X := X) ok.calm; rw [ok.K] at this; exact this) (sum_s mu) hg hm (by decide +kernel) (by decide) (by decide) ha hst
  | sorted => exact de_fnB (fun X ok => by have := CallR.or (cr_sortedI (X := X)) (CallR.or cr_sortedTI (CallR.or cr_sortedS (CallR.or cr_sortedTS cr_sortedIS))); rw [ok.K] at this; exact this) (sorted_s mu) hg hm (by decide +kernel) (by decide) (by decide) ha hst
  | all => exact de_fnB (fun X ok => by have := cr_all (X := X) ok.calm; rw [ok.K] at this; exact this) (all_s mu) hg hm (by decide +kernel) (by decide) (by decide) ha hst
  | any => exact de_fnB (fun X ok => by have := cr_any (X := X) ok.calm; rw [ok.K] at this; exact this) (any_s mu) hg hm (by decide +kernel) (by decide) (by decide) ha hst

/-! ### isinstance -/
def tyName : Ty → String
  | .int => "int" | .bool => "bool" | .str => "str" | .tuple => "tuple" | .list => "list" | .dict => "dict" | .none => "NoneType"
theorem kit_tys (a b : Ty) : kitB (tyName a) (tyName b) = some (tyIs a b) := by
  cases a <;> cases b <;> decide +kernel
theorem tyD_rep {w : Wd} {m : List R} (W : Wf C.T w m) {v : V} {d : D} {t : Ty} (r : Rep C.T w.Hs w.al v d) (e : tyD m d = some t) : TyX C.T.K w.H v (.type (tyName t)) := by
  cases r with
  | non => cases e; exact .base .non
  | bl b => cases e; exact .base (.bl b)
  | int b => cases e; exact .base (.int b)
  | str b => cases e; exact .base (.str b)
  | tup s r =>
    cases e
    obtain ⟨o, h, _⟩ := Le.sqN W.sub s
    exact .fTuple h
  | lst s r => cases e; exact .base (.lst (W.sub _ _ s))
  | ext s r =>
    cases e
    rcases Le.sqL W.sub s with (h | ⟨o, h⟩) | ⟨o, its, n, h, hc, _⟩
    · exact .base (.lst h)
    · exact .base (.frz h)
    · exact .kList h hc
  | obj s n r => cases e
  | @res a k hk =>
    simp only [tyD] at e
    split at e
    · rename_i ys hm
      cases e
      obtain ⟨vs, h1, h2⟩ := W.ok k a _ hk hm
      exact .base (.lst h1)
    · cases e
theorem isiD_some {m : List R} {d : D} {ts : List Ty} {b : Bool} (e : isiD m d ts = some b) : ∃ t, tyD m d = some t ∧ b = ts.any (tyIs t) := by
  unfold isiD at e
  cases h : tyD m d with
  | none => rw [h] at e; cases e
  | some t => rw [h] at e; cases e; exact ⟨t, rfl, rfl⟩
theorem de_isi1 {e : Expr} {x : Dv.E} {t : Ty} {y : Str} {p p2 pos : Pos} (hg : C.sc.names.lookup ("isinstance" : Str) = some .globalImplicit) (hm : C.mg "isinstance" = none) (hg2 : C.sc.names.lookup y = some .globalImplicit) (hm2 : C.mg y = none) (hv : bootBuiltins y = some (.type (tyName t)))
    (hn : y ≠ "__name__") (hdb : (y == ("__debug__" : Str)) = false) (he : DE C e (evE C.g x)) (hs : noStar e = true) : DE C (.Call (.Name "isinstance" p) [e, .Name y p2] [] pos) (evE C.g (.isi x [t])) := by
  obtain ⟨te, pe, re⟩ := he
  refine ⟨tCB (rIsi C.T.K) (tCons te (tCons (tC (.ty (tyName t))) tNil)), fun X ok => pe_callB (by have := call_isi (X := X); rw [ok.K] at this; exact this) (show X.env.scope.names.lookup _ = some .globalImplicit by rw [ok.sc]; exact hg) (by rw [ok.mg]; exact hm) (by decide +kernel)
    (pa_cons (pe X ok) (pa_cons (pe_bltn (show X.env.scope.names.lookup _ = some .globalImplicit by rw [ok.sc]; exact hg2) (by rw [ok.mg]; exact hm2) hv rfl hn hdb) pa_nil) (star1 hs _ _)) (by decide) (by decide) (star1 hs _ _) (by rfl), fun σ w ρ m Q oo W E e0 pp => ?_⟩
  simp only [evE] at e0
  refine re.bnd W E e0 pp fun d m1 w1 v1 e1 x1 W1 r1 E1 p1 => ?_
  obtain ⟨b, e2, rfl⟩ := okB_some e1
  obtain ⟨ty, h1, rfl⟩ := isiD_some e2
  refine ⟨v1, .ty (tyName t), .type (tyName ty), .type (tyName t), _, rfl, .ty _, tyD_rep W1 r1 h1, kit_ty (kit_tys ty t), ?_⟩
  have := p1.here W1 (.bl _)
  simpa using this
theorem kitAny_tys {K : PySem.W.Frag} (a : Ty) : ∀ ts : List Ty, PySem.W.kitAny K (.type (tyName a)) (ts.map fun t => .type (tyName t)) = some (ts.any (tyIs a))
  | [] => rfl
  | t :: ts => by
    rw [List.map_cons, List.any_cons]
    refine kitAny_cons (kit_ty (kit_tys a t)) (fun h => ?_) (fun h => ?_)
    · rw [h, Bool.false_or]; exact kitAny_tys a ts
    · rw [h, Bool.true_or]
/-- the names of built-in types -/
def TyNames (C : Cs) : List Expr → List Ty → Prop
  | [], [] => True
  | .Name y _ :: r, t :: ts => C.sc.names.lookup y = some .globalImplicit ∧ C.mg y = none ∧ bootBuiltins y = some (.type (tyName t)) ∧ y ≠ "__name__" ∧ (y == ("__debug__" : Str)) = false ∧ TyNames C r ts
  | _, _ => False
def tTys : List Ty → TA
  | [] => tNil
  | t :: ts => tCons (tC (.ty (tyName t))) (tTys ts)
theorem pa_tys {X : Cx} (ok : C.Ok X) : ∀ {es : List Expr} {ts : List Ty}, TyNames C es ts → PA X es (tTys ts)
  | [], [], _ => pa_nil
  | .Name y p :: r, t :: ts, h => by
    obtain ⟨h1, h2, h3, h4, h5, h6⟩ := h
    exact pa_cons (pe_bltn (show X.env.scope.names.lookup _ = some .globalImplicit by rw [ok.sc]; exact h1) (by rw [ok.mg]; exact h2) h3 rfl h4 h5) (pa_tys ok h6)
theorem run_tys : ∀ (ts : List Ty) {σ : L2.St} {H : Hp} {Q : List V → Hp → Prop}, Q (ts.map fun t => V.ty (tyName t)) H → tTys ts σ H Q
  | [], _, _, _, h => h
  | t :: ts, σ, H, Q, h => run_tys ts (Q := fun xs H2 => Q (V.ty (tyName t) :: xs) H2) h
theorem cls_tys : ∀ ts : List Ty, Paired ClsV (ts.map fun t => V.ty (tyName t)) (ts.map fun t => Value.type (tyName t))
  | [] => .nil
  | t :: ts => .cons (.ty _) (cls_tys ts)
theorem de_isiT {e : Expr} {x : Dv.E} {ts : List Ty} {ys : List Expr} {k : Nat} {p p2 pos : Pos} (hg : C.sc.names.lookup ("isinstance" : Str) = some .globalImplicit) (hm : C.mg "isinstance" = none) (hy : TyNames C ys ts) (hl : ts.length ≤ 100) (he : DE C e (evE C.g x)) (hs : noStar e = true) :
    DE C (.Call (.Name "isinstance" p) [e, .Tuple ys k p2] [] pos) (evE C.g (.isi x ts)) := by
  obtain ⟨te, pe, re⟩ := he
  refine ⟨tCB (rIsiT C.T.K) (tCons te (tCons (tTup (tTys ts)) tNil)), fun X ok => pe_callB (by have := call_isiT (X := X); rw [ok.K] at this; exact this) (show X.env.scope.names.lookup _ = some .globalImplicit by rw [ok.sc]; exact hg) (by rw [ok.mg]; exact hm) (by decide +kernel)
    (pa_cons (pe X ok) (pa_cons (pe_tup (pa_tys ok hy)) pa_nil) (star1 hs _ _)) (by decide) (by decide) (star1 hs _ _) (by rfl), fun σ w ρ m Q oo W E e0 pp => ?_⟩
  simp only [evE] at e0
  refine re.bnd W E e0 pp fun d m1 w1 v1 e1 x1 W1 r1 E1 p1 => ?_
  obtain ⟨b, e2, rfl⟩ := okB_some e1
  obtain ⟨ty, h1, rfl⟩ := isiD_some e2
  refine run_tys ts (Q := fun xs H1 => xs.length ≤ sizeLine ∧ ∀ p, H1 p = none → _) ⟨by rw [List.length_map, sizeLine_eq]; omega, fun q hq => ?_⟩
  obtain ⟨W2, x2⟩ := W1.fz (.tup (ts.map fun t => V.ty (tyName t))) hq
  exact ⟨v1, q, _, .type (tyName ty), _, _, rfl, upd_same, cls_tys ts, tyD_rep W2 (r1.on x2) h1, kitAny_tys ty ts, (p1.on x2 W2).here W2 (.bl _)⟩
end
end Dv

namespace Dv
open PySem PySem.Spec PyProof.Rows L2

section
variable {C : Cs}
theorem few_of {pos : Pos} {env : Env} {e : Expr} {es : List Expr} (h : (e :: es).all noStar = true) (hl : (e :: es).length < 30) : ((backTo pos (starEach (e :: es) env)).all (fun x => !x.1) && (backToKw pos (keywordEach [] env)).all (fun x => x.1.isSome)
      && decide ((e :: es).length + ([] : List Keyword).length + (if ([] : List Keyword).isEmpty then 0 else 1) < 30)) = true := by
  have := form_of (pos := pos) (env := env) h hl
  unfold methodCallForm at this
  exact this
/-! ### methods of lists -/
def mtName : Mt → Str
  | .append => "append" | .pop => "pop" | .insert => "insert" | .extend => "extend" | .index => "index"
/-- a list's method: its reading does what mtD says -/
def MtS (T : Tb) (r : V → List V → Hp → VK → Prop) (f : Mt) : Prop :=
  ∀ (w : Wd) (m : List R) (x : V) (vs : List V) (d : D) (ds : List D) (p : D × List R) (Q : VK), Wf T w m → Rep T w.Hs w.al x d → RepL T w.Hs w.al vs ds → isTup d = false → mtD f m d ds = some p →
    (∀ w' v, Ext w w' → Wf T w' p.2 → Rep T w'.Hs w'.al v p.1 → Q v w'.H) → r x vs w.H Q
/-- the list at a changes -/
theorem put_list {T : Tb} {w : Wd} {m : List R} (W : Wf T w m) {k : Nat} {a : Addr} {vs : List V} {xs : List D} {Q : VK} {y : V} {d : D} (hk : w.al[k]? = some a) (r : RepL T w.Hs w.al vs xs) (ry : Rep T w.Hs w.al y d)
    (q : ∀ w' v, Ext w w' → Wf T w' (m.set k (.lst xs)) → Rep T w'.Hs w'.al v d → Q v w'.H) : Q y (upd w.H a (.lst vs)) := by
  obtain ⟨W', e⟩ := W.st hk (o := .lst vs) (r := .lst xs) ⟨vs, upd_same, r⟩
  exact q (w.st a (.lst vs)) y e W' (ry.on e)
theorem res_list {T : Tb} {w : Wd} {m : List R} (W : Wf T w m) {x : V} {d : D} {k : Nat} {xs : List D} (r : Rep T w.Hs w.al x d) (h : resL m d = some (k, xs)) : ∃ a vs, x = .ref a ∧ w.al[k]? = some a ∧ w.H a = some (.lst vs) ∧ RepL T w.Hs w.al vs xs := by
  cases r with
  | @res a j hk =>
    simp only [resL] at h
    split at h
    · rename_i ys hm
      cases h
      obtain ⟨vs, h1, h2⟩ := W.ok _ _ _ hk hm
      exact ⟨_, vs, rfl, hk, h1, h2⟩
    · cases h
  | _ => cases h
theorem append_s {T : Tb} : MtS T rAppend .append := by
  intro w m x vs d ds p Q W rx rs _ e q
  simp only [mtD] at e
  unfold appendD at e
  split at e
  · split at e
    · rename_i k ys hm
      split at e
      · rename_i hl
        cases e
        obtain ⟨a, us, rfl, hk, ha, r⟩ := res_list W rx hm
        obtain ⟨v, rfl, ry⟩ := rs.inv1
        exact ⟨a, us, v, rfl, rfl, ha, by rw [r.length]; exact hl, put_list W hk (r.append (.one ry)) .non q⟩
      · cases e
    · cases e
  · cases e
def rPop2 : V → List V → Hp → VK → Prop := fun x xs H Q => rPop x xs H Q ∨ rPopAt x xs H Q
theorem dropLast_rep {T : Tb} {Hs : Hp} {al : List Addr} {vs : List V} {ds : List D} (r : RepL T Hs al vs ds) : RepL T Hs al vs.dropLast ds.dropLast := by
  rw [List.dropLast_eq_take, List.dropLast_eq_take, r.length]
  exact r.take _
theorem pop_s {T : Tb} : MtS T rPop2 .pop := by
  intro w m x vs d ds p Q W rx rs _ e q
  simp only [mtD] at e
  unfold popD at e
  split at e
  · cases rs
    split at e
    · rename_i k ys hm
      split at e
      · rename_i y hy
        cases e
        obtain ⟨a, us, rfl, hk, ha, r⟩ := res_list W rx hm
        obtain ⟨v, h1, rv⟩ := r.get hy
        rw [← r.length] at h1
        exact .inl ⟨a, us, v, rfl, rfl, ha, h1, put_list W hk (dropLast_rep r) rv q⟩
      · cases e
    · cases e
  · rename_i i
    obtain ⟨v, rfl, rv⟩ := rs.inv1
    cases rv
    split at e
    · rename_i k ys hm
      split at e
      · rename_i hi
        split at e
        · rename_i y hy
          cases e
          obtain ⟨a, us, rfl, hk, ha, r⟩ := res_list W rx hm
          obtain ⟨v, h1, rv⟩ := r.get hy
          have hlt := (List.getElem?_eq_some_iff.mp h1).1
          have hs : seqIndex? i us.length = some i.toNat := (ixN_seq (n := us.length) (i := i) (j := i.toNat) (by
            unfold ixN
            rw [if_pos hi.1, if_pos (by omega)])).1
          exact .inr ⟨a, us, i, i.toNat, v, rfl, rfl, ha, by omega, hi.2, hs, h1, put_list W hk (r.erase _) rv q⟩
        · cases e
      · cases e
    · cases e
  · cases e
def rIns : V → List V → Hp → VK → Prop := fun x vs H Q => ∃ (l : Addr) (xs : List V) (i : Int) (y : V), x = .ref l ∧ vs = [.int i, y] ∧ H l = some (.lst xs) ∧ xs.length < sizeLine ∧ 0 ≤ i ∧ i < 2 ^ 63 ∧
    Q .non (upd H l (.lst (xs.take i.toNat ++ [y] ++ xs.drop i.toNat)))
theorem insert_s {T : Tb} : MtS T rIns .insert := by
  intro w m x vs d ds p Q W rx rs _ e q
  simp only [mtD] at e
  unfold insertD at e
  split at e
  · rename_i i y
    split at e
    · rename_i k ys hm
      split at e
      · rename_i hl
        cases e
        obtain ⟨a, us, rfl, hk, ha, r⟩ := res_list W rx hm
        obtain ⟨v, u, rfl, r1, r2⟩ := rs.two
        cases r1
        exact ⟨a, us, i, u, rfl, rfl, ha, by rw [r.length]; exact hl.1, hl.2.1, hl.2.2, put_list W hk (((r.take _).append (.one r2)).append (r.drop _)) .non q⟩
      · cases e
    · cases e
  · cases e
theorem extend_s {T : Tb} : MtS T rExtend .extend := by
  intro w m x vs d ds p Q W rx rs _ e q
  simp only [mtD] at e
  unfold extendD at e
  split at e
  · rename_i b
    split at e
    · rename_i k ys hm
      split at e
      · rename_i zs hz
        split at e
        · rename_i hl
          cases e
          obtain ⟨a, us, rfl, hk, ha, r⟩ := res_list W rx hm
          obtain ⟨v, rfl, rv⟩ := rs.inv1
          obtain ⟨c, ws, rfl, hc, rz⟩ := lsq_rep W rv hz
          exact ⟨a, c, us, ws, rfl, rfl, ha, hc, by rw [r.length, rz.length]; exact hl, put_list W hk (r.append rz) .non q⟩
        · cases e
      · cases e
    · cases e
  · cases e
theorem DpAll.get {K : PySem.W.Frag} {H : Hp} : ∀ {vs : List V} {ds : List PyData}, DpAll K H vs ds → vs.length = ds.length
  | _, _, .nil => rfl
  | _, _, .cons _ t => by rw [List.length_cons, List.length_cons, DpAll.get t]
theorem index_s {T : Tb} : MtS T (rIndexD T.K) .index := by
  intro w m x vs d ds p Q W rx rs ht e q
  simp only [mtD] at e
  unfold indexD at e
  split at e
  · rename_i y
    split at e
    · rename_i xs hxs
      split at e
      · rename_i ps py h1 h2
        split at e
        · rename_i hd
          split at e
          · rename_i j hj
            cases e
            obtain ⟨v, rfl, rv⟩ := rs.inv1
            obtain ⟨a, us, rfl, ha, r⟩ := lsq_rep W rx hxs
            obtain ⟨p1, c1⟩ := pdL_dp W r h1
            obtain ⟨p2, c2⟩ := pdR_dp W rv h2
            rw [List.findIdx?_eq_some_iff_getElem] at hj
            obtain ⟨hlt, hz, hno⟩ := hj
            refine ⟨a, v, py, ps, j, ps[j], rfl, rfl, .lst (SqL.of ha) p1, p2, shaped_of (by simp only [PyData.canLay0]; exact c1) hd.1, shaped_of c2 hd.2, List.getElem?_eq_getElem hlt, hz, fun k z hk hz' => ?_, OpS.here W q (.int _)⟩
            have := hno k hk
            obtain ⟨hk2, e2⟩ := List.getElem?_eq_some_iff.mp hz'
            rw [e2] at this
            simpa using this
          · cases e
        · cases e
      · cases e
    · split at e
      · cases ht
      · cases e
  · cases e
/-- a tuple's index -/
def tTix (K : PySem.W.Frag) (ta : TE) (t : TA) : TE := fun σ H Q => ta σ H fun x H1 => ∃ p ys, x = .ref p ∧ SqN H1 p ys ∧ t σ H1 fun xs H2 => ∃ (zs : List Str) (z : Str) (j : Nat), xs = [.str z] ∧ SqT K H2 p (zs.map V.str) ∧ zs[j]? = some z ∧ (∀ m, m < j → zs[m]? ≠ some z) ∧ Q (.int (j : Nat)) H2
theorem pe_tix {X : Cx} {o e : Expr} {es : List Expr} {ta : TE} {t : TA} {apos pos : Pos} (ho : PE X o ta) (ha : PA X (e :: es) t) (hpo : plainO o = true) (h : (e :: es).all noStar = true) (hl : (e :: es).length < 30) (hp : (apos.endLine == pos.line) = true) :
    PE X (.Call (.Attribute o "index" apos) (e :: es) [] pos) (tTix X.K ta t) := by
  refine ⟨fun pins s σ H Q I hh => ?_⟩
  have h1 := h
  rw [List.all_cons, Bool.and_eq_true] at h1
  refine wpAny_Call_method_late (base_of hpo _ _ _) (few_of h hl) hp rfl (thn (ho.run pins s σ H _ I hh) fun v s1 ⟨x, H1, I1, r1, p, ys, ex, ⟨ob, hob, its, hits⟩, q1⟩ => ?_)
  subst ex
  obtain rfl : v = Value.ref p := r1
  obtain ⟨hg, _⟩ := (show ObjOk X.prog X.w H1 s1.heap p (.frz ob (.tup ys)) from I1.hok p _ hob)
  subst hits
  refine ⟨"tuple", "tuple.index", PySem.F.plainAttrs_tuple, PySem.F.slot_tuple_index, PySem.F.type_tuple_index, ⟨_, hg, rfl⟩, fun a ea => by cases ea; exact ⟨_, hg, rfl⟩, ?_⟩
  have hA := ha.run pos pins s1 σ H1 _ I1 q1
  rw [star1 h1.1] at hA ⊢
  refine Calls.callWith_builtin (by show (false || (backTo pos (starEach es X.env)).any (·.1)) = false; rw [stars h1.2]; rfl) (Calls.evalArgs_plain ?_)
  refine thn hA fun us s2 ⟨vs, H2, I2, r2, zs, z, j, ev, hq, hy, hno, q2⟩ => ?_
  exact mt_tup_index pins s2 σ H2 (.ref p) vs (.ref p) us Q I2 rfl r2 ⟨p, zs, z, j, rfl, ev, hq, hy, hno, q2⟩
theorem run_tix {C : Cs} {xo : Dv.E} {xs : Es} {ta : TE} {t : TA} (ra : Runs C ta (evE C.g xo)) (rt : RunsL C t (evL C.g xs)) {σ : L2.St} {w : Wd} {ρ : Ro} {m m1 : List R} {d : D} {o : Rs} {Q : VK} (W : Wf C.T w m) (E : ER C.T w σ ρ) (e1 : evE C.g xo ρ m = some (.ok d m1)) (hd : isTup d = true)
    (e : bndL (evL C.g xs ρ m1) (fun ds m => okP (mtD .index m d ds)) = some o) (p : PostE C.T C.W σ w Q o) : tTix C.T.K ta t σ w.H Q := by
  refine ra σ w ρ m _ _ W E e1 fun w1 v1 x1 W1 r1 => ?_
  cases r1 <;> first | (cases hd; done) | skip
  rename_i a vs ys s r
  refine ⟨a, vs, rfl, Le.sqN W1.sub s, rt.bnd W1 (E.on x1) e (p.on x1 W1) fun ds m2 w2 us e2 x2 W2 r2 E2 p2 => ?_⟩
  obtain ⟨q, e3, rfl⟩ := okP_some e2
  simp only [mtD] at e3
  unfold indexD at e3
  split at e3
  · rename_i y
    cases y with
    | str z =>
      simp only [lsq] at e3
      split at e3
      · rename_i zs hz
        split at e3
        · rename_i hmem
          cases e3
          obtain ⟨u, rfl, ru⟩ := r2.inv1
          cases ru
          have hx := asStrs_map hz
          subst hx
          have hu := r.strs
          subst hu
          have hlt : zs.idxOf z < zs.length := List.idxOf_lt_length_iff.mpr hmem
          refine ⟨zs, z, zs.idxOf z, rfl, (Le.sqN (Le.trans x2.hs W2.sub) s).sqT, ?_, fun k hk hz' => ?_, p2.here W2 (.int _)⟩
          · rw [List.getElem?_eq_getElem hlt, List.getElem_idxOf hlt]
          · obtain ⟨hk2, e4⟩ := List.getElem?_eq_some_iff.mp hz'
            exact absurd (beq_iff_eq.mpr e4) (by simpa using List.not_of_lt_findIdx (p := (· == z)) (show k < zs.findIdx (· == z) from hk))
        · cases e3
      · cases e3
    | _ => cases e3
  · cases e3
theorem PE.or {X : Cx} {e : Expr} {t u : TE} (h : PE X e t) (k : PE X e u) : PE X e (fun σ H Q => t σ H Q ∨ u σ H Q) := ⟨fun pins s σ H Q I hh => hh.elim (h.run pins s σ H Q I) (k.run pins s σ H Q I)⟩
theorem lsq_kind {w : Wd} {m : List R} (W : Wf C.T w m) {v : V} {d : D} (r : Rep C.T w.Hs w.al v d) (h : (lsq m d).isSome = true) : tyV C.T.K "list" v w.H := by
  obtain ⟨xs, hx⟩ := Option.isSome_iff_exists.mp h
  obtain ⟨a, vs, rfl, ha, _⟩ := lsq_rep W r hx
  exact .inl ⟨rfl, vs, SqL.of ha⟩
/-- a method of a list, called with arguments -/
theorem lst_mth1 {f : Mt} {r : V → List V → Hp → VK → Prop} {o e : Expr} {es : List Expr} {xo : Dv.E} {xs : Es} {id : String} {apos pos : Pos} (slot : Slot "list" (mtName f) id) (hty : typeOf (.builtin id) = pure (.type "method_descriptor")) (hm : ∀ X, C.Ok X → MtR X id r) (hs : MtS C.T r f)
    (ho : DE C o (evE C.g xo)) (ha : DA C (e :: es) (evL C.g xs)) (hpo : plainO o = true) (h : (e :: es).all noStar = true) (hl : (e :: es).length < 30) (hp : (apos.endLine == pos.line) = true) :
    ∃ ta t, (∀ X, C.Ok X → PE X o ta) ∧ Runs C ta (evE C.g xo) ∧ (∀ X, C.Ok X → PA X (e :: es) t) ∧ RunsL C t (evL C.g xs) ∧ (∀ X, C.Ok X → PE X (.Call (.Attribute o (mtName f) apos) (e :: es) [] pos) (tBM C.T.K "list" r ta t)) ∧
      ∀ (σ : L2.St) (w : Wd) (ρ : Ro) (m m1 : List R) (d : D) (oo : Rs) (Q : VK), Wf C.T w m → ER C.T w σ ρ → evE C.g xo ρ m = some (.ok d m1) → (lsq m1 d).isSome = true → isTup d = false → bndL (evL C.g xs ρ m1) (fun ds m => okP (mtD f m d ds)) = some oo → PostE C.T C.W σ w Q oo → tBM C.T.K "list" r ta t σ w.H Q := by
  obtain ⟨ta, pa, ra⟩ := ho
  obtain ⟨t, pt, rt⟩ := ha
  have h1 := h
  rw [List.all_cons, Bool.and_eq_true] at h1
  refine ⟨ta, t, pa, ra, pt, rt, fun X ok => by
    have := pe_bm (X := X) (apos := apos) (cpos := pos) PySem.F.plainAttrs_list slot hty (hm X ok) (pa X ok) (pt X ok) (base_of hpo _ _ _) (few_of h hl) hp (star1 h1.1 es _) (stars h1.2)
    rw [ok.K] at this
    exact this, fun σ w ρ m m1 d oo Q W E e1 hk hd e2 pp => ?_⟩
  refine ra σ w ρ m _ _ W E e1 fun w1 v1 x1 W1 r1 => ?_
  refine ⟨lsq_kind W1 r1 hk, rt.bnd W1 (E.on x1) e2 (pp.on x1 W1) fun ds m2 w2 us e3 x2 W2 r2 E2 p2 => ?_⟩
  obtain ⟨q, e4, rfl⟩ := okP_some e3
  exact hs w2 m2 v1 us d ds q Q W2 (r1.on x2) r2 hd e4 fun w' v x' W' r' => p2 w' v x' W' r'
theorem lsq_notTup {m : List R} {d : D} (h : (lsq m d).isSome = true) : isTup d = false := by
  cases d <;> first | rfl | (simp [lsq] at h)
theorem de_mth1 {f : Mt} {o e : Expr} {es : List Expr} {xo : Dv.E} {xs : Es} {apos pos : Pos} (ho : DE C o (evE C.g xo)) (ha : DA C (e :: es) (evL C.g xs)) (hpo : plainO o = true) (h : (e :: es).all noStar = true) (hl : (e :: es).length < 30) (hp : (apos.endLine == pos.line) = true) :
    DE C (.Call (.Attribute o (mtName f) apos) (e :: es) [] pos) (evE C.g (.mth f xo xs)) := by
  have main : ∀ {r : V → List V → Hp → VK → Prop} {id : String}, f ≠ .index → Slot "list" (mtName f) id → typeOf (.builtin id) = pure (.type "method_descriptor") → (∀ X, C.Ok X → MtR X id r) → MtS C.T r f → DE C (.Call (.Attribute o (mtName f) apos) (e :: es) [] pos) (evE C.g (.mth f xo xs)) := fun hne slot hty hm hs => by
    obtain ⟨ta, t, pa, ra, pt, rt, hpe, run⟩ := lst_mth1 slot hty hm hs ho ha hpo h hl hp
    refine ⟨_, hpe, fun σ w ρ m Q oo W E e0 pp => ?_⟩
    simp only [evE] at e0
    rcases bnd_some e0 with ⟨d, m1, e1, e2⟩ | ⟨x, m1, e1, rfl⟩
    · split at e2
      · rename_i hk
        have hk2 : (lsq m1 d).isSome = true := by
          unfold mtOk at hk
          rw [decide_eq_false hne, Bool.false_and, Bool.or_false] at hk
          exact hk
        exact run σ w ρ m m1 d oo Q W E e1 hk2 (lsq_notTup hk2) e2 pp
      · cases e2
    · exact ra σ w ρ m _ _ W E e1 pp
  cases f with
  | append => exact main (by decide) PySem.F.slot_list_append PySem.F.type_list_append (fun X ok => mt_append) append_s
  | pop => exact main (by decide) PySem.F.slot_list_pop PySem.F.type_list_pop (fun X ok => MtR.or mt_pop mt_popAt) pop_s
  | insert => exact main (by decide) PySem.F.slot_list_insert PySem.F.type_list_insert (fun X ok => mt_insert) insert_s
  | extend => exact main (by decide) PySem.F.slot_list_extend PySem.F.type_list_extend (fun X ok => mt_extend) extend_s
  | index =>
    obtain ⟨ta, t, pa, ra, pt, rt, hpe, run⟩ := lst_mth1 (f := .index) PySem.F.slot_list_index PySem.F.type_list_index (fun X ok => by have := mt_indexD (X := X) ok.u65; rw [ok.K] at this; exact this) index_s ho ha hpo h hl hp
    refine ⟨_, fun X ok => PE.or (hpe X ok) (by have := pe_tix (X := X) (apos := apos) (pos := pos) (pa X ok) (pt X ok) hpo h hl hp; rw [ok.K] at this; exact this), fun σ w ρ m Q oo W E e0 pp => ?_⟩
    simp only [evE] at e0
    rcases bnd_some e0 with ⟨d, m1, e1, e2⟩ | ⟨x, m1, e1, rfl⟩
    · split at e2
      · rename_i hk
        cases hd : isTup d with
        | true => exact .inr (run_tix ra rt W E e1 hd e2 pp)
        | false =>
          have hk2 : (lsq m1 d).isSome = true := by
            unfold mtOk at hk
            rw [hd, Bool.and_false, Bool.or_false] at hk
            exact hk
          exact .inl (run σ w ρ m m1 d oo Q W E e1 hk2 hd e2 pp)
      · cases e2
    · exact .inr (ra σ w ρ m _ _ W E e1 pp)
/-- pop() -/
theorem de_pop0 {o : Expr} {xo : Dv.E} {apos pos : Pos} (ho : DE C o (evE C.g xo)) (hpo : plainO o = true) (hp : (apos.endLine == pos.line) = true) :
    DE C (.Call (.Attribute o "pop" apos) [] [] pos) (evE C.g (.mth .pop xo .nil)) := by
  obtain ⟨ta, pa, ra⟩ := ho
  refine ⟨tBM0 C.T.K "list" rPop2 ta, fun X ok => by
    have := pe_bm0 (X := X) (apos := apos) (cpos := pos) PySem.F.plainAttrs_list PySem.F.slot_list_pop PySem.F.type_list_pop (MtR.or mt_pop mt_popAt) (pa X ok) (base_of hpo _ _ _) hp
    rw [ok.K] at this
    exact this, fun σ w ρ m Q oo W E e0 pp => ?_⟩
  simp only [evE, evL, bndL_ok] at e0
  refine ra.bnd W E e0 pp fun d m1 w1 v1 e1 x1 W1 r1 E1 p1 => ?_
  split at e1
  · rename_i hk
    have hk2 : (lsq m1 d).isSome = true := by
      unfold mtOk at hk
      rw [decide_eq_false (by decide), Bool.false_and, Bool.or_false] at hk
      exact hk
    obtain ⟨q, e4, rfl⟩ := okP_some e1
    exact ⟨lsq_kind W1 r1 hk2, pop_s w1 m1 v1 [] d [] q Q W1 r1 .nil (lsq_notTup hk2) e4 fun w' v x' W' r' => p1 w' v x' W' r'⟩
  · cases e1
end
end Dv

namespace Dv
open PySem PySem.Spec PyProof.Rows L2

/-! ### enumerate of a list or a tuple, zip of two: the pairs told as they are laid -/
def itAt (b : Bool) (h : Heap) (it a : Addr) (i : Nat) : Prop := if b then h.IsListIter it a i else h.IsTupleIter it a i
def srcAt (b : Bool) (h : Heap) (a : Addr) (xs : Array Value) : Prop := if b then h.IsList a xs else h.IsTuple a xs
def SqX (b : Bool) (K : PySem.W.Frag) (H : Hp) (a : Addr) (xs : List V) : Prop := if b then SqL K H a xs else SqT K H a xs
def itObj (b : Bool) (a : Addr) : Obj := if b then { cls := .type "list_iterator", data := .fields #[.ref a, .int 0 0] } else { cls := .type "tuple_iterator", data := .fields #[.ref a, .int 0 0] }
theorem itAt_move {b : Bool} {h h' : Heap} {it a : Addr} {i : Nat} (x : itAt b h it a i) (k : ∀ o, h.get? it = some o → h'.get? it = some o) : itAt b h' it a i := by
  cases b
  · exact Heap.IsTupleIter.at x k
  · exact Heap.IsListIter.at x k
theorem itAt_obj {b : Bool} {h : Heap} {it a : Addr} {i : Nat} (x : itAt b h it a i) : ∃ o, h.get? it = some o ∧ ∀ v, o.data ≠ .cell v := by
  cases b
  · obtain ⟨o, e, _, d⟩ := x
    exact ⟨o, e, fun v z => by rw [d] at z; cases z⟩
  · obtain ⟨o, e, _, d⟩ := x
    exact ⟨o, e, fun v z => by rw [d] at z; cases z⟩
theorem itAt_new {b : Bool} {h : Heap} {it a : Addr} (x : h.get? it = some (itObj b a)) : itAt b h it a 0 := by
  cases b <;> exact ⟨_, x, rfl, rfl⟩
theorem draws_of {P : Program} {w : World} {A : Around} (b : Bool) (hh : A.handled = none) (it a : Addr) (hne : a ≠ it) (xs : Array Value) :
    Draws P w A it [it, a] xs.size (fun i v => xs[i]? = some v) (fun i h => itAt b h it a i ∧ srcAt b h a xs) := by
  cases b
  · exact Draws.tuple hh it a hne xs
  · exact Draws.list hh it a hne xs
theorem begins_of (b : Bool) (a : Addr) (xs : Array Value) : Begins (.ref a) (itObj b a) fun h => srcAt b h a xs := by
  cases b
  · exact begins_tuple a xs
  · exact begins_list a xs
theorem srcAt_lt {b : Bool} {h : Heap} {a : Addr} {xs : Array Value} (x : srcAt b h a xs) : a < h.objs.size := by
  cases b
  · obtain ⟨o, e, _⟩ := x; exact Heap.lt_size e
  · obtain ⟨o, e, _⟩ := x; exact Heap.lt_size e
theorem inv_src {X : Cx} {pins : List (Addr × Obj)} {σ : L2.St} {H : Hp} {s : Shared} {b : Bool} {a : Addr} {xs : List V} (I : Inv X pins σ H s) (h : SqX b X.K H a xs) : ∃ its : List Value, Vals xs its ∧ srcAt b s.heap a its.toArray := by
  cases b
  · obtain ⟨its, rv, p, _⟩ := I.tuple h
    exact ⟨its, rv, p⟩
  · obtain ⟨its, rv, p, _⟩ := I.list h
    exact ⟨its, rv, p.isList⟩
theorem inv_inj {X : Cx} {pins : List (Addr × Obj)} {σ : L2.St} {H : Hp} {s : Shared} {b : Bool} {a : Addr} {xs ys : List V} (I : Inv X pins σ H s) (h : SqX b X.K H a xs) (h' : SqX b X.K H a ys) : xs = ys := by
  cases b
  · exact I.tuple_inj h h'
  · exact I.list_inj h h'

set_option maxHeartbeats 4000000 in
theorem enum1_new {v : Value} {ob : Obj} {Hw : Heap → Prop} (B : Begins v ob Hw) : Meets (Builtin.«enumerate.__new__» ⟨[.type "enumerate", v], []⟩) (fun _ R s => Hw s.heap ∧
    R (.ok (.ret (.ref (s.heap.push ob).objs.size))) { s with heap := (s.heap.push ob).push { cls := .type "enumerate", data := .fields #[.none, .bool false, .ref s.heap.objs.size, rawInt 0, .none, .none] } }) :=
  .of_wp fun P w A R sh hyp => by
    obtain ⟨h0, g, dr, tk, os⟩ := sh
    obtain ⟨a1, fin⟩ := hyp
    have hsub := sub_enumerate
    have go1 : ∀ {B2 : Around} {E2 : Value → Shared → Prop} {Q2 : Value → Shared → Prop}, Q2 (.ref h0.objs.size) ⟨h0.push ob, g, dr, tk, os⟩ → wpAny (model P w) B2 (pyIter v) Q2 E2 ⟨h0, g, dr, tk, os⟩ := fun q => B.iter P w _ _ ⟨h0, g, dr, tk, os⟩ _ a1 q
    wp_walk using go1
    refine wpAny_stack_any fun _ => wpAny_pure ?_
    split
    · rename_i cl _ _ _ _ _
      cases (cl == Value.type "enumerate")
      · wp_walk using go1
        exact ⟨_, rfl, fin⟩
      · wp_walk using go1
        exact ⟨_, rfl, fin⟩
    · wp_walk using go1
      exact ⟨_, rfl, fin⟩
theorem enum1_begins {P : Program} {w : World} {A : Around} {E : Value → Shared → Prop} {s : Shared} {v : Value} {ob : Obj} {Hw : Heap → Prop} {Q : Value → Shared → Prop} (B : Begins v ob Hw) (h1 : Hw s.heap)
    (k : ∀ h', IsEnum h' (s.heap.objs.size + 1) s.heap.objs.size 0 .none → h'.get? s.heap.objs.size = some ob → (∀ b o, s.heap.get? b = some o → h'.get? b = some o) → Q (.ref (s.heap.objs.size + 1)) { s with heap := h' }) :
    wpAny (model P w) A (call (.type "enumerate") [v]) Q E s := by
  refine callType_new F.called_enumerate (by decide) (F.typeCall_enumerate_1 _) (F.newCall_enumerate_1 _) (fun o => F.args_object_init_2 o _) F.entry_enumerate_new (enum1_new B) ⟨h1, ?_⟩
  have z1 : (s.heap.push ob).objs.size = s.heap.objs.size + 1 := Heap.size_push ..
  have he := Heap.get?_push_size (s.heap.push ob) (o := { cls := .type "enumerate", data := .fields #[.none, .bool false, .ref s.heap.objs.size, rawInt 0, .none, .none] }) rfl
  rw [z1] at he
  show _ ∧ _
  rw [z1]
  exact ⟨⟨_, he, rfl⟩, k _ he (Heap.get?_push_of_some _ (Heap.get?_push_size _ B.free)) fun b o x => Heap.get?_push_of_some _ (Heap.get?_push_of_some _ x)⟩

/-- (i, x) for the items x that stand at a -/
def Iten (b : Bool) (K : PySem.W.Frag) (a : Addr) : L2.It where
  go := fun i H => ∃ (xs : List V) (x : V), SqX b K H a xs ∧ xs[i]? = some x
  yld := fun i H v H' => ∃ p o x, v = .ref p ∧ H p = none ∧ PTo o ∧ H' = upd H p (.frz o (.tup [.int (i : Nat), x])) ∧ ∀ xs, SqX b K H a xs → xs[i]? = some x
  stop := fun i H => ∃ xs : List V, SqX b K H a xs ∧ xs.length = i
theorem turn_en {P : Program} {w : World} {K : PySem.W.Frag} {elts : List Expr} {kk : Nat} {tpos : Pos} (b : Bool) (a e it : Addr) (he1 : e ≠ it) (he2 : e ≠ a) (he3 : a ≠ it) :
    Turn P w K (.Tuple elts kk tpos) (Iten b K a) [e, it] e (fun i h => (∃ old, IsEnum h e it ((i : Nat) : Int) old) ∧ itAt b h it a i) where
  mem := by simp
  obj := fun i h st c hc => by
    obtain ⟨⟨old, he⟩, hi⟩ := st
    rcases (by simpa using hc : c = e ∨ c = it) with z | z
    · rw [z]; exact ⟨_, he, fun v q => nomatch q⟩
    · rw [z]; exact itAt_obj hi
  keep := fun i h h' st k => ⟨st.1.imp fun old he => k e (by simp) _ he, itAt_move st.2 fun o q => k it (by simp) o q⟩
  item := by
    intro X hP hw hK hc i pins s σ H E I hf st hg
    subst hP hw hK
    obtain ⟨⟨old, he⟩, hit⟩ := st
    obtain ⟨xs, x, hq, hx⟩ := hg
    obtain ⟨its, rv, src⟩ := inv_src I hq
    have hl := rv.length
    have hlt : i < its.toArray.size := by
      have := (List.getElem?_eq_some_iff.mp hx).1
      simp only [List.size_toArray]
      omega
    have D := draws_of (P := X.prog) (w := X.w) (A := X.A.in1) b (I.ok.hd hc) it a he3 its.toArray
    refine wpAny_pyNext_enum_itemC D he ⟨hit, src⟩ hlt he1 (by simp [he1, he2]) fun u h1 tk hu out st1 lay hsz hk => ?_
    refine ⟨_, rfl, wpAny_letOwnedTupleGo_enum (s := { s with heap := h1, toks := tk + 1 }) out fun h2 en2 sb => ?_⟩
    have hel : e < s.heap.objs.size := Heap.lt_size he
    have hu2 : its[i]? = some u := by simpa using hu
    obtain ⟨u', hu', ru⟩ := rv.get hx
    obtain rfl : u' = u := Option.some.inj (hu'.symm.trans hu2)
    have lay2 : h2.get? s.heap.objs.size = some { cls := .type "tuple", data := .seq #[.int i tk, u'] } := (sb.2 _ (Nat.ne_of_gt hel)).trans lay
    have new : ObjOk X.prog X.w (upd H s.heap.objs.size (.frz { cls := .type "tuple", data := .seq #[.int i tk, u'] } (.tup [.int (i : Nat), x]))) h2 s.heap.objs.size (.frz { cls := .type "tuple", data := .seq #[.int i tk, u'] } (.tup [.int (i : Nat), x])) :=
      ⟨lay2, by show 2 ≤ sizeLine; decide, [.int i tk, u'], .cons ⟨_, rfl⟩ (.cons ru .nil), ⟨_, lay2, rfl, _, rfl⟩⟩
    have I1 := I.turnedNew (t' := tk + 1) (h' := h2) (ch := [e, it]) (fun c o hc q => (sb.2 c (fun z => hc (by simp [z]))).trans (hk c o (fun z => hc (by simp [z])) (fun z => hc (by simp [z])) q)) hf (Nat.le_refl _) new
    refine ⟨.ref s.heap.objs.size, _, I1, rfl, ⟨_, _, x, rfl, I.hok.fresh (Nat.le_refl _), ⟨[.int i tk, u'], rfl⟩, rfl, fun ys hy => by rw [inv_inj I hy hq]; exact hx⟩, ⟨⟨u', ?_⟩, itAt_move st1.1 fun o q => (sb.2 it (Ne.symm he1)).trans q⟩, fun c hc => ?_⟩
    · have e1 : ((i + 1 : Nat) : Int) = (i : Int) + 1 := by omega
      rw [e1]; exact en2
    · have hn : c ≠ s.heap.objs.size := by
        rcases (by simpa using hc : c = e ∨ c = it) with z | z
        · rw [z]; exact Nat.ne_of_lt hel
        · rw [z]
          obtain ⟨o, q, _⟩ := itAt_obj hit
          exact Nat.ne_of_lt (Heap.lt_size q)
      rw [upd_ne hn]
      exact (hf c hc).1
  done := by
    intro X hP hw hK hc i pins s σ H E I hf st hg
    subst hP hw hK
    obtain ⟨⟨old, he⟩, hit⟩ := st
    obtain ⟨xs, hq, hx⟩ := hg
    obtain ⟨its, rv, src⟩ := inv_src I hq
    have hl := rv.length
    have D := draws_of (P := X.prog) (w := X.w) (A := X.A.in1) b (I.ok.hd hc) it a he3 its.toArray
    have hn : its.toArray.size = i := by rw [List.size_toArray]; omega
    rw [hn] at D
    obtain ⟨f0, f1, f2, f3, f4, f5⟩ := hf it (by simp)
    exact wpAny_pyNext_enum_endD D he ⟨hit, src⟩ fun h' eb => ⟨rfl, I.turned (t' := s.toks) (fun c o hb q => eb c o hb q) f0 f1 f3 f4 f5⟩
  self := fun A i s Q E st h => let ⟨⟨_, he⟩, _⟩ := st; wpAny_pyIter_enum he h
def iEn (K : PySem.W.Frag) (ta : TA) : L2.TI := fun σ H R => ta σ H fun vs H1 => ∃ b a xs, vs = [.ref a] ∧ SqX b K H1 a xs ∧ R (Iten b K a) H1
theorem pi_en {X : Cx} {e : Expr} {ta : TA} {p pos tpos : Pos} {elts : List Expr} {kk : Nat} (hg : Gl X "enumerate") (hm : X.mg "enumerate" = none) (ha : PA X [e] ta) (hs : noStar e = true) :
    PI X (.Tuple elts kk tpos) (.Call (.Name "enumerate" p) [e] [] pos) (iEn X.K ta) := by
  refine ⟨fun pins s σ H R I h => ?_⟩
  refine Call_ (ld_blt I hg hm boot_enumerate (PyProof.Rows.callWith_type1 (thn (ha.run pos pins s σ H _ I h) fun us s1 ⟨vs, H1, I1, r1, q1⟩ => ?_) (star1 hs [] _) rfl))
  obtain ⟨b, a, xs, ex, hq, q⟩ := q1
  subst ex
  cases r1 with
  | cons r rr =>
    cases rr
    cases r
    obtain ⟨its, rv, src⟩ := inv_src I1 hq
    have hal := srcAt_lt src
    refine enum1_begins (begins_of b a its.toArray) src fun h' he hit hk => wpAny_pyIter_enum he ?_
    refine ⟨s1.heap.objs.size + 1, [s1.heap.objs.size + 1, s1.heap.objs.size], _, _, H1, rfl, I1.kept (t' := s1.toks) hk, turn_en b a (s1.heap.objs.size + 1) s1.heap.objs.size (Nat.succ_ne_self _) (Nat.ne_of_gt (Nat.lt_succ_of_lt hal)) (Nat.ne_of_lt hal), ⟨⟨.none, he⟩, itAt_new hit⟩, fun c hc => ?_, q⟩
    have hle : s1.heap.objs.size ≤ c := by
      rcases (by simpa using hc : c = s1.heap.objs.size + 1 ∨ c = s1.heap.objs.size) with z | z
      · rw [z]; exact Nat.le_add_right _ _
      · rw [z]; exact Nat.le_refl _
    exact I1.fpOk hle (I1.hok.fresh hle)

/-- (x, y) for the items that stand at a and at a2 -/
def Itzn (b b2 : Bool) (K : PySem.W.Frag) (a a2 : Addr) : L2.It where
  go := fun i H => ∃ (xs ys : List V) (x y : V), SqX b K H a xs ∧ SqX b2 K H a2 ys ∧ xs[i]? = some x ∧ ys[i]? = some y
  yld := fun i H v H' => ∃ p o x y, v = .ref p ∧ H p = none ∧ PTo o ∧ H' = upd H p (.frz o (.tup [x, y])) ∧ (∀ xs, SqX b K H a xs → xs[i]? = some x) ∧ ∀ ys, SqX b2 K H a2 ys → ys[i]? = some y
  stop := fun i H => ∃ xs ys : List V, SqX b K H a xs ∧ SqX b2 K H a2 ys ∧ i ≤ xs.length ∧ i ≤ ys.length ∧ (i = xs.length ∨ i = ys.length)
theorem mem5 {c z TI TO i1 i2 : Addr} (h : c ∈ [z, TI, TO, i1, i2]) : c = z ∨ c = TI ∨ c = TO ∨ c = i1 ∨ c = i2 := by simpa using h
theorem turn_zn {P : Program} {w : World} {K : PySem.W.Frag} {elts : List Expr} {kk : Nat} {tpos : Pos} (b b2 : Bool) {a a2 z TI TO i1 i2 : Addr} (S : ZipSep2 z TI TO i1 i2 [i1, a] [i2, a2]) (n1 : a ≠ i1) (n2 : a2 ≠ i2) :
    Turn P w K (.Tuple elts kk tpos) (Itzn b b2 K a a2) [z, TI, TO, i1, i2] z (fun i h => IsZip h z TI TO .none ∧ IsTupOf2 h TI (.ref i1) (.ref i2) ∧ (∃ x y, IsTupOf2 h TO x y) ∧ itAt b h i1 a i ∧ itAt b2 h i2 a2 i) where
  mem := by simp
  obj := fun i h st c hc => by
    obtain ⟨hz, hT, ⟨x, y, hO⟩, k1, k2⟩ := st
    rcases mem5 hc with q | q | q | q | q
    · rw [q]; exact ⟨_, hz, fun v q => nomatch q⟩
    · rw [q]; exact ⟨_, hT, fun v q => nomatch q⟩
    · rw [q]; exact ⟨_, hO, fun v q => nomatch q⟩
    · rw [q]; exact itAt_obj k1
    · rw [q]; exact itAt_obj k2
  keep := fun i h h' st k => by
    obtain ⟨hz, hT, ⟨x, y, hO⟩, k1, k2⟩ := st
    exact ⟨k z (by simp) _ hz, k TI (by simp) _ hT, ⟨x, y, k TO (by simp) _ hO⟩, itAt_move k1 fun o q => k i1 (by simp) o q, itAt_move k2 fun o q => k i2 (by simp) o q⟩
  item := by
    intro X hP hw hK hc i pins s σ H E I hf st hg
    subst hP hw hK
    obtain ⟨hz, hT, ⟨x0, y0, hO⟩, k1, k2⟩ := st
    obtain ⟨xs, ys, x, y, qx, qy, hx, hy⟩ := hg
    obtain ⟨its, rv, src⟩ := inv_src I qx
    obtain ⟨its2, rv2, src2⟩ := inv_src I qy
    have l1 := rv.length
    have l2 := rv2.length
    have lt1 : i < its.toArray.size := by
      have := (List.getElem?_eq_some_iff.mp hx).1
      simp only [List.size_toArray]; omega
    have lt2 : i < its2.toArray.size := by
      have := (List.getElem?_eq_some_iff.mp hy).1
      simp only [List.size_toArray]; omega
    have D1 := draws_of (P := X.prog) (w := X.w) (A := X.A.in1) b (I.ok.hd hc) i1 a n1 its.toArray
    have D2 := draws_of (P := X.prog) (w := X.w) (A := X.A.in1) b2 (I.ok.hd hc) i2 a2 n2 its2.toArray
    refine wpAny_pyNext_zipD2_item S D1 D2 hz hT hO ⟨k1, src⟩ ⟨k2, src2⟩ lt1 lt2 fun u u2 h1 tk hu hu2 zo to1 s1' s2' lay hsz hk => ?_
    refine ⟨_, rfl, wpAny_letOwnedTupleGo_zip (s := { s with heap := h1, toks := tk }) zo fun h2 z2 sb => ?_⟩
    have hzl : z < s.heap.objs.size := Heap.lt_size hz
    obtain ⟨v1, hv1, ru⟩ := rv.get hx
    obtain rfl : v1 = u := Option.some.inj (hv1.symm.trans (by simpa using hu))
    obtain ⟨v2, hv2, ru2⟩ := rv2.get hy
    obtain rfl : v2 = u2 := Option.some.inj (hv2.symm.trans (by simpa using hu2))
    have lay2 : h2.get? s.heap.objs.size = some { cls := .type "tuple", data := .seq #[v1, v2] } := (sb.2 _ (Nat.ne_of_gt hzl)).trans lay
    have new : ObjOk X.prog X.w (upd H s.heap.objs.size (.frz { cls := .type "tuple", data := .seq #[v1, v2] } (.tup [x, y]))) h2 s.heap.objs.size (.frz { cls := .type "tuple", data := .seq #[v1, v2] } (.tup [x, y])) :=
      ⟨lay2, by show 2 ≤ sizeLine; decide, [v1, v2], .cons ru (.cons ru2 .nil), ⟨_, lay2, rfl, _, rfl⟩⟩
    have I1 := I.turnedNew (t' := tk) (h' := h2) (ch := [z, TI, TO, i1, i2]) (fun c o hb q => (sb.2 c (fun q' => hb (by simp [q']))).trans (hk c o (fun q' => hb (by simp [q'])) (fun q' => hb (by simp [q'])) (fun q' => hb (by simp [q'])) (fun q' => hb (by simp [q'])) q)) hf (Nat.le_refl _) new
    refine ⟨.ref s.heap.objs.size, _, I1, rfl, ⟨_, _, x, y, rfl, I.hok.fresh (Nat.le_refl _), ⟨[v1, v2], rfl⟩, rfl, fun l hl => by rw [inv_inj I hl qx]; exact hx, fun l hl => by rw [inv_inj I hl qy]; exact hy⟩, ⟨z2, ?_, ⟨v1, v2, ?_⟩, ?_, ?_⟩, fun c hcm => ?_⟩
    · exact (sb.2 _ S.TIz).trans (hk _ _ S.TIz S.TITO S.TIi1 S.TIi2 hT)
    · exact (sb.2 _ S.TOz).trans to1
    · exact itAt_move s1'.1 fun o q => (sb.2 _ S.zi1.symm).trans q
    · exact itAt_move s2'.1 fun o q => (sb.2 _ S.zi2.symm).trans q
    · have hlt : c < s.heap.objs.size := by
        rcases mem5 hcm with q | q | q | q | q
        · rw [q]; exact hzl
        · rw [q]; exact Heap.lt_size hT
        · rw [q]; exact Heap.lt_size hO
        · rw [q]; obtain ⟨_, e1, _⟩ := itAt_obj k1; exact Heap.lt_size e1
        · rw [q]; obtain ⟨_, e2, _⟩ := itAt_obj k2; exact Heap.lt_size e2
      rw [upd_ne (Nat.ne_of_lt hlt)]
      exact (hf c hcm).1
  done := by
    intro X hP hw hK hc i pins s σ H E I hf st hg
    subst hP hw hK
    obtain ⟨hz, hT, ⟨x0, y0, hO⟩, k1, k2⟩ := st
    obtain ⟨xs, ys, qx, qy, le1, le2, fin⟩ := hg
    obtain ⟨its, rv, src⟩ := inv_src I qx
    obtain ⟨its2, rv2, src2⟩ := inv_src I qy
    have l1 := rv.length
    have l2 := rv2.length
    have D1 := draws_of (P := X.prog) (w := X.w) (A := X.A.in1) b (I.ok.hd hc) i1 a n1 its.toArray
    have D2 := draws_of (P := X.prog) (w := X.w) (A := X.A.in1) b2 (I.ok.hd hc) i2 a2 n2 its2.toArray
    exact wpAny_pyNext_zipD2_end S D1 D2 hz hT hO ⟨k1, src⟩ ⟨k2, src2⟩ (by simp only [List.size_toArray]; omega) (by simp only [List.size_toArray]; omega) (by simp only [List.size_toArray]; omega) fun h' tk hk => ⟨rfl, I.turnedL (t' := tk) (h' := h') (ch := [z, TI, TO, i1, i2]) (fun c o hb q =>
      hk c o (fun q' => hb (by simp [q'])) (fun q' => hb (by simp [q'])) (fun q' => hb (by simp [q'])) (fun q' => hb (by simp [q'])) q) hf⟩
  self := fun A i s Q E st h => wpAny_pyIter_zip st.1 h
def iZn (K : PySem.W.Frag) (ta : TA) : L2.TI := fun σ H R => ta σ H fun vs H1 => ∃ b b2 a a2 xs ys, vs = [.ref a, .ref a2] ∧ SqX b K H1 a xs ∧ SqX b2 K H1 a2 ys ∧ R (Itzn b b2 K a a2) H1
theorem pi_zn {X : Cx} {e e2 : Expr} {ta : TA} {p pos tpos : Pos} {elts : List Expr} {kk : Nat} (hg : Gl X "zip") (hm : X.mg "zip" = none) (ha : PA X [e, e2] ta) (hs : noStar e = true) (hs2 : noStar e2 = true) :
    PI X (.Tuple elts kk tpos) (.Call (.Name "zip" p) [e, e2] [] pos) (iZn X.K ta) := by
  refine ⟨fun pins s σ H R I h => ?_⟩
  refine Call_ (ld_blt I hg hm PyProof.Rows.boot_zip (PyProof.Rows.callWith_type1 (thn (ha.run pos pins s σ H _ I h) fun us s1 ⟨vs, H1, I1, r1, q1⟩ => ?_) (star1 hs [e2] _) (stars (by simp [hs2]))))
  obtain ⟨b, b2, a, a2, xs, ys, ex, qx, qy, q⟩ := q1
  subst ex
  cases r1 with
  | cons r rr =>
    cases rr with
    | cons r' rr =>
      cases rr
      cases r
      cases r'
      obtain ⟨its, rv, src⟩ := inv_src I1 qx
      obtain ⟨its2, rv2, src2⟩ := inv_src I1 qy
      have la := srcAt_lt src
      have lb := srcAt_lt src2
      refine zip_begins2 (begins_of b a its.toArray) (begins_of b2 a2 its2.toArray) src src2 fun h' hz hT hO o1 o2 hsz hk => wpAny_pyIter_zip hz ?_
      have sep := zip_sep2 (N := s1.heap.objs.size) (fp1 := [a]) (fp2 := [a2]) (by simpa using la) (by simpa using lb)
      refine ⟨s1.heap.objs.size + 4, [s1.heap.objs.size + 4, s1.heap.objs.size + 2, s1.heap.objs.size + 3, s1.heap.objs.size, s1.heap.objs.size + 1], _, _, H1, rfl, I1.kept (t' := s1.toks) hk,
        turn_zn b b2 sep (Nat.ne_of_lt la) (Nat.ne_of_lt (Nat.lt_succ_of_lt lb)), ⟨hz, hT, ⟨_, _, hO⟩, itAt_new o1, itAt_new o2⟩, fun c hc => ?_, q⟩
      have hle : s1.heap.objs.size ≤ c := by
        rcases mem5 hc with z | z | z | z | z
        · rw [z]; exact Nat.le_add_right _ _
        · rw [z]; exact Nat.le_add_right _ _
        · rw [z]; exact Nat.le_add_right _ _
        · rw [z]; exact Nat.le_refl _
        · rw [z]; exact Nat.le_add_right _ _
      exact I1.fpOk hle (I1.hok.fresh hle)
end Dv

namespace Dv
open PySem PySem.Spec PyProof PyProof.Rows L2

/-! ### enumerate of a zip: the zip's own pair is never given back, so that a new one is laid at each turn -/
/-- a zip; what it says of the pair handed out last -/
abbrev ZipO (h : Heap) (z TI TO : Addr) (mk : Value) (fl : Bool) : Prop :=
  h.get? z = some { cls := .type "zip", dict := none, data := .fields #[mk, .bool fl, .bool false, .ref TI, .ref TO], slots := #[] }
def MkOk (mk : Value) : Prop := mk = .none ∨ ∃ T : Nat, mk = rawInt (T : Nat)
theorem wpAny_ifAlive {M : Model} {A : Around} {E : Value → Shared → Prop} {s : Shared} {a : Addr} {Q : Option Obj → Shared → Prop} (h : Q (s.heap.get? a) s) : wpAny M A (loadIfAlive a) Q E s := fun Γ p _ => by
  unfold loadIfAlive
  rw [Sem.wp_loadIfAlive]
  exact h
section
variable {prog : Program} {w : World} {A : Around} {E : Value → Shared → Prop} {s : Shared} {z TI TO i1 i2 : Addr} {fp1 fp2 : List Addr} {n1 n2 i : Nat} {P1 P2 : Nat → Value → Prop} {St1 St2 : Nat → Heap → Prop} {a1 a2 mk : Value} {fl : Bool}
theorem zz_free (hz : ZipO s.heap z TI TO mk fl) (hm : MkOk mk) : wpAny (model prog w) A (Builtin.SmallTypes.ownedTupleIsFree (.ref z)) (fun b s' => (b = true ∧ s' = s) ∨ (b = false ∧ ∃ h', s' = { s with heap := h' } ∧ ZipO h' z TI TO mk true ∧ Heap.SameBut z s.heap h')) E s := by
  unfold Builtin.SmallTypes.ownedTupleIsFree
  rcases hm with rfl | ⟨T, rfl⟩
  · exact wpAny_bind (wpAny_field hz rfl (x := .none) rfl (wpAny_pure (.inl ⟨rfl, rfl⟩)))
  · refine wpAny_bind (wpAny_field hz rfl (x := .int (T : Nat) 0) rfl ?_)
    refine wpAny_bind (wpAny_ifAlive ?_)
    rw [Int.toNat_natCast]
    cases hT : s.heap.get? T with
    | none => exact wpAny_pure (.inl ⟨rfl, rfl⟩)
    | some o =>
      simp only [Option.isNone_some, Bool.false_eq_true, if_false]
      refine wpAny_bind (wpAny_field hz rfl (x := .bool fl) rfl ?_)
      cases fl with
      | true =>
        exact wpAny_pure (.inr ⟨rfl, _, rfl, hz, Heap.SameBut.refl ..⟩)
      | false =>
        refine wpAny_bind ?_
        refine wpAny_setField_rec hz (by simp) fun h1 hz1 hs1 => wpAny_pure (.inr ⟨rfl, h1, rfl, hz1, hs1⟩)
set_option maxHeartbeats 4000000 in
/-- the next pair -/
theorem zz_item {Q : Value → Shared → Prop} (S : ZipSep2 z TI TO i1 i2 fp1 fp2) (D1 : Draws prog w A i1 fp1 n1 P1 St1) (D2 : Draws prog w A i2 fp2 n2 P2 St2)
    (hz : ZipO s.heap z TI TO mk fl) (hm : MkOk mk) (hTI : IsTupOf2 s.heap TI (.ref i1) (.ref i2)) (hTO : IsTupOf2 s.heap TO a1 a2) (st1 : St1 i s.heap) (st2 : St2 i s.heap) (hlt1 : i < n1) (hlt2 : i < n2)
    (hQ : ∀ x1 x2 h' tk mk' fl' b1 b2, P1 i x1 → P2 i x2 → ZipO h' z TI TO mk' fl' → MkOk mk' → IsTupOf2 h' TO b1 b2 → St1 (i + 1) h' → St2 (i + 1) h' → IsTupOf2 h' s.heap.objs.size x1 x2 → h'.objs.size = s.heap.objs.size + 1 →
      (∀ c o, c ≠ z → c ≠ TO → c ≠ i1 → c ≠ i2 → s.heap.get? c = some o → h'.get? c = some o) → Q (.ref s.heap.objs.size) { s with heap := h', toks := tk }) :
    wpAny (model prog w) A (Builtin.«zip.__next__» ⟨[.ref z], []⟩) (fun fin s' => ∃ v, fin = .done (.ret v) ∧ Q v s') E s := by
  obtain ⟨hp, gn, dr, tk0, os⟩ := s
  show wpAny _ _ (field (.ref z) 2 >>= _) _ _ _
  refine wpAny_bind (wpAny_field hz rfl (x := .bool false) rfl ?_)
  show wpAny _ _ (field (.ref z) 3 >>= _) _ _ _
  refine wpAny_bind (wpAny_field hz rfl (x := .ref TI) rfl ?_)
  refine wpAny_bind (wpAny_seqItems hTI rfl ?_)
  show wpAny _ _ (Builtin.SmallTypes.ownedTupleIsFree (.ref z) >>= _) _ _ _
  refine wpAny_bind (wpAny_mono (zz_free hz hm) ?_ fun _ _ x => x)
  rintro b s' (⟨rfl, rfl⟩ | ⟨rfl, g0, rfl, hz0, hs0⟩)
  · simp only [if_true]
    refine wpAny_bind (wpAny_rule ?_)
    refine wpAny_bind (wpAny_field hz rfl (x := .ref TO) rfl ?_)
    refine wpAny_bind (wpAny_setField_rec hz (by simp) fun g0 hz0 hs0 => ?_)
    replace hz0 : ZipO g0 z TI TO .ellipsis fl := hz0
    replace hs0 : Heap.SameBut z hp g0 := hs0
    refine wpAny_bind ?_
    simp only [List.zipIdx_cons, List.zipIdx_nil, List.forIn_cons, List.forIn_nil]
    refine wpAny_bind (wpAny_bind (wpAny_onRaise ?_))
    show wpAny _ _ (Builtin.SmallTypes.nextOf (.ref i1) >>= _) _ _ ⟨g0, gn, dr, tk0, os⟩
    refine wpAny_bind (D1.item i _ _ _ hlt1 (D1.over st1 hs0 S.zf1) fun x1 q1 tk1 hx1 sn1 hq1 => wpAny_pure ?_)
    replace hq1 : Heap.SameBut i1 g0 q1 := hq1
    have u1 : IsTupOf2 q1 TO a1 a2 := hq1.extBut _ _ S.Ti1 (hs0.extBut _ _ S.TOz hTO)
    refine wpAny_bind (wpAny_seqItems (s := ⟨q1, gn, dr, tk1, os⟩) u1 rfl ?_)
    refine wpAny_bind (updateSeq_IsTupOf2 (s := ⟨q1, gn, dr, tk1, os⟩) u1 fun g1 t1 hs1 => ?_)
    replace t1 : IsTupOf2 g1 TO x1 a2 := t1
    replace hs1 : Heap.SameBut TO q1 g1 := hs1
    refine wpAny_bind (wpAny_letGo (wpAny_pure ?_))
    refine wpAny_bind (wpAny_bind (wpAny_onRaise ?_))
    show wpAny _ _ (Builtin.SmallTypes.nextOf (.ref i2) >>= _) _ _ ⟨g1, gn, dr, tk1, os⟩
    refine wpAny_bind (D2.item i _ _ _ hlt2 (D2.over (D2.over (D2.over st2 hs0 S.zf2) hq1 S.sep1_2) hs1 S.Tf2) fun x2 q2 tk2 hx2 sn2 hq2 => wpAny_pure ?_)
    replace hq2 : Heap.SameBut i2 g1 q2 := hq2
    have u2 : IsTupOf2 q2 TO x1 a2 := hq2.extBut _ _ S.Ti2 t1
    refine wpAny_bind (wpAny_seqItems (s := ⟨q2, gn, dr, tk2, os⟩) u2 rfl ?_)
    refine wpAny_bind (updateSeq_IsTupOf2 (s := ⟨q2, gn, dr, tk2, os⟩) u2 fun g2 t2 hs2 => ?_)
    replace t2 : IsTupOf2 g2 TO x1 x2 := t2
    replace hs2 : Heap.SameBut TO q2 g2 := hs2
    refine wpAny_bind (wpAny_letGo (wpAny_pure (wpAny_pure ?_)))
    refine wpAny_bind (wpAny_seqItems (s := ⟨g2, gn, dr, tk2, os⟩) t2 rfl ?_)
    refine wpAny_bind (wpAny_newTuple ?_)
    have hsz : g2.objs.size = hp.objs.size := by rw [hs2.1, hq2.1, hs1.1, hq1.1, hs0.1]
    have zz : ZipO g2 z TI TO .ellipsis fl := (hs2.extBut _ _ S.TOz.symm (hq2.extBut _ _ S.zi2 (hs1.extBut _ _ S.TOz.symm (hq1.extBut _ _ S.zi1 hz0))))
    have kk : ∀ c o, c ≠ z → c ≠ TO → c ≠ i1 → c ≠ i2 → hp.get? c = some o → g2.get? c = some o := fun c o cz cT c1 c2 e =>
      (hs2.extBut _ _ cT (hq2.extBut _ _ c2 (hs1.extBut _ _ cT (hq1.extBut _ _ c1 (hs0.extBut _ _ cz e)))))
    have j1 : St1 (i + 1) g2 := (D1.over (D1.over (D1.over sn1 hs1 S.Tf1) hq2 S.sep2_1) hs2 S.Tf1)
    have j2 : St2 (i + 1) g2 := (D2.over sn2 hs2 S.Tf2)
    have zl : z < g2.objs.size := Heap.lt_size zz
    show wpAny _ _ (Builtin.SmallTypes.ownedTupleHandOut (.ref z) (.ref g2.objs.size) >>= _) _ _ ⟨g2.push { cls := .type "tuple", data := .seq #[x1, x2] }, gn, dr, tk2, os⟩
    refine wpAny_bind ?_
    unfold Builtin.SmallTypes.ownedTupleHandOut
    have z6 : ZipO (g2.push { cls := .type "tuple", data := .seq #[x1, x2] }) z TI TO .ellipsis fl := Heap.get?_push_of_some _ zz
    refine wpAny_bind (wpAny_setField_rec z6 (by simp) fun h7 z7 e7 => ?_)
    replace z7 : ZipO h7 z TI TO (rawInt g2.objs.size) fl := z7
    refine wpAny_setField_rec z7 (by simp) fun h8 z8 e8 => ?_
    replace z8 : ZipO h8 z TI TO (rawInt g2.objs.size) false := z8
    replace e7 : Heap.SameBut z (g2.push { cls := .type "tuple", data := .seq #[x1, x2] }) h7 := e7
    replace e8 : Heap.SameBut z h7 h8 := e8
    have up : ∀ c o, c ≠ z → g2.get? c = some o → h8.get? c = some o := fun c o c1 e => e8.extBut _ _ c1 (e7.extBut _ _ c1 (Heap.get?_push_of_some _ e))
    have T8 : IsTupOf2 h8 g2.objs.size x1 x2 := e8.extBut _ _ (Nat.ne_of_gt zl) (e7.extBut _ _ (Nat.ne_of_gt zl) (Heap.get?_push_size _ rfl))
    have l8 : h8.objs.size = g2.objs.size + 1 := by rw [e8.1, e7.1, Heap.size_push]
    rw [hsz] at z8 T8 l8
    refine wpAny_pure ⟨_, rfl, ?_⟩
    show Q (.ref g2.objs.size) ⟨h8, gn, dr, tk2, os⟩
    rw [hsz]
    exact hQ x1 x2 h8 tk2 _ _ _ _ hx1 hx2 z8 (.inr ⟨_, rfl⟩) (up _ _ S.TOz t2) (D1.frame _ _ _ j1 fun b hb o e => up b o (fun q => S.zf1 (q ▸ hb)) e) (D2.frame _ _ _ j2 fun b hb o e => up b o (fun q => S.zf2 (q ▸ hb)) e) T8 l8 fun c o cz cT c1 c2 e => up c o cz (kk c o cz cT c1 c2 e)
  · simp only [Bool.false_eq_true, if_false]
    replace hs0 : Heap.SameBut z hp g0 := hs0
    refine wpAny_bind ?_
    rw [← Array.forIn_toList]
    simp only [List.forIn_cons, List.forIn_nil]
    refine wpAny_bind (wpAny_bind (wpAny_holding ?_))
    show wpAny _ _ (Builtin.SmallTypes.nextOf (.ref i1) >>= _) _ _ ⟨g0, gn, dr, tk0, os⟩
    refine wpAny_bind (D1.item i _ _ _ hlt1 (D1.over st1 hs0 S.zf1) fun x1 q1 tk1 hx1 sn1 hq1 => wpAny_pure (wpAny_pure ?_))
    replace hq1 : Heap.SameBut i1 g0 q1 := hq1
    refine wpAny_bind (wpAny_bind (wpAny_holding ?_))
    show wpAny _ _ (Builtin.SmallTypes.nextOf (.ref i2) >>= _) _ _ ⟨q1, gn, dr, tk1, os⟩
    refine wpAny_bind (D2.item i _ _ _ hlt2 (D2.over (D2.over st2 hs0 S.zf2) hq1 S.sep1_2) fun x2 q2 tk2 hx2 sn2 hq2 => wpAny_pure (wpAny_pure ?_))
    replace hq2 : Heap.SameBut i2 q1 q2 := hq2
    refine wpAny_pure ?_
    have hsz : q2.objs.size = hp.objs.size := by rw [hq2.1, hq1.1, hs0.1]
    show wpAny _ _ (newTuple [x1, x2] >>= _) _ _ ⟨q2, gn, dr, tk2, os⟩
    refine wpAny_bind (wpAny_newTuple ?_)
    have up : ∀ c o, q2.get? c = some o → (q2.push { cls := .type "tuple", data := .seq #[x1, x2] }).get? c = some o := fun c o e => Heap.get?_push_of_some _ e
    refine wpAny_pure ⟨_, rfl, ?_⟩
    show Q (.ref q2.objs.size) ⟨q2.push { cls := .type "tuple", data := .seq #[x1, x2] }, gn, dr, tk2, os⟩
    have tn : IsTupOf2 (q2.push { cls := .type "tuple", data := .seq #[x1, x2] }) q2.objs.size x1 x2 := Heap.get?_push_size _ rfl
    have ln : (q2.push { cls := .type "tuple", data := .seq #[x1, x2] }).objs.size = q2.objs.size + 1 := Heap.size_push ..
    rw [hsz] at tn ln
    rw [hsz]
    exact hQ x1 x2 _ tk2 _ _ _ _ hx1 hx2 (up _ _ (hq2.extBut _ _ S.zi2 (hq1.extBut _ _ S.zi1 hz0))) hm (up _ _ (hq2.extBut _ _ S.Ti2 (hq1.extBut _ _ S.Ti1 (hs0.extBut _ _ S.TOz hTO))))
      (D1.frame _ _ _ (D1.over sn1 hq2 S.sep2_1) fun b _ o e => up b o e) (D2.frame _ _ _ sn2 fun b _ o e => up b o e) tn ln fun c o cz cT c1 c2 e => up c o (hq2.extBut _ _ c2 (hq1.extBut _ _ c1 (hs0.extBut _ _ cz e)))
set_option maxHeartbeats 4000000 in
theorem zz_end {Q : Fin → Shared → Prop} (S : ZipSep2 z TI TO i1 i2 fp1 fp2) (D1 : Draws prog w A i1 fp1 n1 P1 St1) (D2 : Draws prog w A i2 fp2 n2 P2 St2)
    (hz : ZipO s.heap z TI TO mk fl) (hm : MkOk mk) (hTI : IsTupOf2 s.heap TI (.ref i1) (.ref i2)) (hTO : IsTupOf2 s.heap TO a1 a2) (st1 : St1 i s.heap) (st2 : St2 i s.heap) (hle1 : i ≤ n1) (hle2 : i ≤ n2) (hend : i = n1 ∨ i = n2)
    (hE : ∀ h' tk e, (∀ c o, c ≠ z → c ≠ TO → c ≠ i1 → c ≠ i2 → s.heap.get? c = some o → h'.get? c = some o) → (∃ o, h'.get? e = some o ∧ o.cls = .type "StopIteration") → E (.ref e) { s with heap := h', toks := tk }) :
    wpAny (model prog w) A (Builtin.«zip.__next__» ⟨[.ref z], []⟩) Q E s := by
  obtain ⟨hp, gn, dr, tk0, os⟩ := s
  show wpAny _ _ (field (.ref z) 2 >>= _) _ _ _
  refine wpAny_bind (wpAny_field hz rfl (x := .bool false) rfl ?_)
  show wpAny _ _ (field (.ref z) 3 >>= _) _ _ _
  refine wpAny_bind (wpAny_field hz rfl (x := .ref TI) rfl ?_)
  refine wpAny_bind (wpAny_seqItems hTI rfl ?_)
  show wpAny _ _ (Builtin.SmallTypes.ownedTupleIsFree (.ref z) >>= _) _ _ _
  refine wpAny_bind (wpAny_mono (zz_free hz hm) ?_ fun _ _ x => x)
  rintro b s' (⟨rfl, rfl⟩ | ⟨rfl, g0, rfl, hz0, hs0⟩)
  · simp only [if_true]
    refine wpAny_bind (wpAny_rule ?_)
    refine wpAny_bind (wpAny_field hz rfl (x := .ref TO) rfl ?_)
    refine wpAny_bind (wpAny_setField_rec hz (by simp) fun g0 hz0 hs0 => ?_)
    replace hz0 : ZipO g0 z TI TO .ellipsis fl := hz0
    replace hs0 : Heap.SameBut z hp g0 := hs0
    refine wpAny_bind ?_
    simp only [List.zipIdx_cons, List.zipIdx_nil, List.forIn_cons, List.forIn_nil]
    refine wpAny_bind (wpAny_bind (wpAny_onRaise ?_))
    show wpAny _ _ (Builtin.SmallTypes.nextOf (.ref i1) >>= _) _ _ ⟨g0, gn, dr, tk0, os⟩
    by_cases hlt1 : i < n1
    · refine wpAny_bind (D1.item i _ _ _ hlt1 (D1.over st1 hs0 S.zf1) fun x1 q1 tk1 hx1 sn1 hq1 => wpAny_pure ?_)
      replace hq1 : Heap.SameBut i1 g0 q1 := hq1
      have u1 : IsTupOf2 q1 TO a1 a2 := hq1.extBut _ _ S.Ti1 (hs0.extBut _ _ S.TOz hTO)
      refine wpAny_bind (wpAny_seqItems (s := ⟨q1, gn, dr, tk1, os⟩) u1 rfl ?_)
      refine wpAny_bind (updateSeq_IsTupOf2 (s := ⟨q1, gn, dr, tk1, os⟩) u1 fun g1 t1 hs1 => ?_)
      replace t1 : IsTupOf2 g1 TO x1 a2 := t1
      replace hs1 : Heap.SameBut TO q1 g1 := hs1
      refine wpAny_bind (wpAny_letGo (wpAny_pure ?_))
      have hi2 : i = n2 := by omega
      refine wpAny_bind (wpAny_bind (wpAny_onRaise ?_))
      show wpAny _ _ (Builtin.SmallTypes.nextOf (.ref i2) >>= _) _ _ ⟨g1, gn, dr, tk1, os⟩
      refine wpAny_bind (D2.done ⟨g1, gn, dr, tk1, os⟩ _ _ (by rw [← hi2]; exact (D2.over (D2.over (D2.over st2 hs0 S.zf2) hq1 S.sep1_2) hs1 S.Tf2)) fun q e hq he => ?_)
      replace hq : Heap.ExtBut i2 g1 q := hq
      obtain ⟨oe, hoe, hce⟩ := he
      replace hoe : q.get? e = some oe := hoe
      have hzq : ZipO q z TI TO .ellipsis fl := hq _ _ S.zi2 (hs1.extBut _ _ S.TOz.symm (hq1.extBut _ _ S.zi1 hz0))
      have hez : e ≠ z := fun x => by subst x; rw [hzq] at hoe; cases hoe; simp at hce
      refine wpAny_setField_rec (s := ⟨q, gn, dr, tk1, os⟩) hzq (by simp) fun q' _ hq' => ?_
      replace hq' : Heap.SameBut z q q' := hq'
      exact hE q' tk1 e (fun c o cz cT c1 c2 x => hq'.extBut _ _ cz (hq _ _ c2 (hs1.extBut _ _ cT (hq1.extBut _ _ c1 (hs0.extBut _ _ cz x))))) ⟨oe, hq'.extBut _ _ hez hoe, hce⟩
    · have hi1 : i = n1 := by omega
      refine wpAny_bind (D1.done ⟨g0, gn, dr, tk0, os⟩ _ _ (by rw [← hi1]; exact (D1.over st1 hs0 S.zf1)) fun q e hq he => ?_)
      replace hq : Heap.ExtBut i1 g0 q := hq
      obtain ⟨oe, hoe, hce⟩ := he
      replace hoe : q.get? e = some oe := hoe
      have hzq : ZipO q z TI TO .ellipsis fl := hq _ _ S.zi1 hz0
      have hez : e ≠ z := fun x => by subst x; rw [hzq] at hoe; cases hoe; simp at hce
      refine wpAny_setField_rec (s := ⟨q, gn, dr, tk0, os⟩) hzq (by simp) fun q' _ hq' => ?_
      replace hq' : Heap.SameBut z q q' := hq'
      exact hE q' tk0 e (fun c o cz cT c1 c2 x => hq'.extBut _ _ cz (hq _ _ c1 (hs0.extBut _ _ cz x))) ⟨oe, hq'.extBut _ _ hez hoe, hce⟩
  · simp only [Bool.false_eq_true, if_false]
    replace hs0 : Heap.SameBut z hp g0 := hs0
    refine wpAny_bind ?_
    rw [← Array.forIn_toList]
    simp only [List.forIn_cons, List.forIn_nil]
    refine wpAny_bind (wpAny_bind (wpAny_holding ?_))
    show wpAny _ _ (Builtin.SmallTypes.nextOf (.ref i1) >>= _) _ _ ⟨g0, gn, dr, tk0, os⟩
    by_cases hlt1 : i < n1
    · refine wpAny_bind (D1.item i _ _ _ hlt1 (D1.over st1 hs0 S.zf1) fun x1 q1 tk1 hx1 sn1 hq1 => wpAny_pure (wpAny_pure ?_))
      replace hq1 : Heap.SameBut i1 g0 q1 := hq1
      have hi2 : i = n2 := by omega
      refine wpAny_bind (wpAny_bind (wpAny_holding ?_))
      show wpAny _ _ (Builtin.SmallTypes.nextOf (.ref i2) >>= _) _ _ ⟨q1, gn, dr, tk1, os⟩
      refine wpAny_bind (D2.done ⟨q1, gn, dr, tk1, os⟩ _ _ (by rw [← hi2]; exact (D2.over (D2.over st2 hs0 S.zf2) hq1 S.sep1_2)) fun q e hq he => ?_)
      replace hq : Heap.ExtBut i2 q1 q := hq
      exact hE q tk1 e (fun c o cz cT c1 c2 x => hq _ _ c2 (hq1.extBut _ _ c1 (hs0.extBut _ _ cz x))) he
    · have hi1 : i = n1 := by omega
      refine wpAny_bind (D1.done ⟨g0, gn, dr, tk0, os⟩ _ _ (by rw [← hi1]; exact (D1.over st1 hs0 S.zf1)) fun q e hq he => ?_)
      replace hq : Heap.ExtBut i1 g0 q := hq
      exact hE q tk0 e (fun c o cz cT c1 c2 x => hq _ _ c1 (hs0.extBut _ _ cz x)) he
set_option maxHeartbeats 4000000 in
/-- next(enumerate over a zip): the pair at the heap's end, (count, pair) behind it -/
theorem ez_item {e : Addr} {c : Int} {old : Value} {Q : Option Value → Shared → Prop} (S : ZipSep2 z TI TO i1 i2 fp1 fp2) (D1 : Draws prog w A.in1.in1 i1 fp1 n1 P1 St1) (D2 : Draws prog w A.in1.in1 i2 fp2 n2 P2 St2)
    (he : IsEnum s.heap e z c old) (n1' : e ≠ z) (n2' : e ≠ TO) (n3' : e ≠ i1) (n4' : e ≠ i2)
    (hz : ZipO s.heap z TI TO mk fl) (hm : MkOk mk) (hTI : IsTupOf2 s.heap TI (.ref i1) (.ref i2)) (hTO : IsTupOf2 s.heap TO a1 a2) (st1 : St1 i s.heap) (st2 : St2 i s.heap) (hlt1 : i < n1) (hlt2 : i < n2)
    (hQ : ∀ x1 x2 h1 tk mk' fl' b1 b2, P1 i x1 → P2 i x2 → ZipO h1 z TI TO mk' fl' → MkOk mk' → IsTupOf2 h1 TO b1 b2 → St1 (i + 1) h1 → St2 (i + 1) h1 → IsTupOf2 h1 s.heap.objs.size x1 x2 → h1.objs.size = s.heap.objs.size + 1 →
      (∀ c o, c ≠ z → c ≠ TO → c ≠ i1 → c ≠ i2 → s.heap.get? c = some o → h1.get? c = some o) → ∀ h2, IsEnumOut h2 e z (c + 1) (.ref s.heap.objs.size) (s.heap.objs.size + 1) → h2.get? (s.heap.objs.size + 1) = some { cls := .type "tuple", data := .seq #[.int c tk, .ref s.heap.objs.size] } →
      (∀ b o, b ≠ e → h1.get? b = some o → h2.get? b = some o) → Q (some (.ref (s.heap.objs.size + 1))) { s with heap := h2, toks := tk + 1 }) :
    wpAny (model prog w) A (pyNext (.ref e)) Q E s := by
  have hT : s.TypeIs (.ref e) "enumerate" := ⟨_, he, rfl⟩
  have hTz : s.TypeIs (.ref z) "zip" := ⟨_, hz, rfl⟩
  unfold pyNext
  refine wpAny_bind (wpAny_attempt (wpAny_callSpecial?_slot (name := Str.ofString "__next__") hT F.slot_enumerate_next
    (wpAny_call_entry F.slot_enumerate_next hT F.entry_enumerate_next ?_ (F.args_enumerate_next_1 _))))
  show wpAny _ _ (field (.ref e) 2 >>= _) _ _ _
  refine wpAny_bind (wpAny_field he rfl (x := .ref z) rfl ?_)
  refine wpAny_bind ?_
  unfold Builtin.SmallTypes.nextOf
  refine wpAny_bind (wpAny_callSpecial?_slot (name := Str.ofString "__next__") hTz F.slot_zip_next
    (wpAny_call_entry F.slot_zip_next hTz F.entry_zip_next
      (zz_item S D1 D2 hz hm hTI hTO st1 st2 hlt1 hlt2 fun x1 x2 h1 tk mk' fl' b1 b2 y1 y2 y3 y4 y5 y6 y7 y8 y9 y10 => wpAny_pure ?_) (F.args_zip_next_1 _)))
  obtain ⟨hp, gn, dr, tk0, os⟩ := s
  have e1 : IsEnum h1 e z c old := y10 e _ n1' n2' n3' n4' he
  have el : e < hp.objs.size := Heap.lt_size he
  replace y9 : h1.objs.size = hp.objs.size + 1 := y9
  refine wpAny_bind (wpAny_field (s := ⟨h1, gn, dr, tk, os⟩) e1 rfl (x := rawInt c) rfl ?_)
  show wpAny _ _ (field (.ref e) 4 >>= _) _ _ ⟨h1, gn, dr, tk, os⟩
  refine wpAny_bind (wpAny_field e1 rfl (x := .none) rfl ?_)
  show wpAny _ _ (mkInt c >>= _) _ _ ⟨h1, gn, dr, tk, os⟩
  refine wpAny_bind (wpAny_mkInt ?_)
  show wpAny _ _ (setField (.ref e) 3 (rawInt (c + 1)) >>= _) _ _ ⟨h1, gn, dr, tk + 1, os⟩
  refine wpAny_bind (wpAny_setField_rec e1 (by simp) fun g2 e2 k2 => ?_)
  replace k2 : Heap.SameBut e h1 g2 := k2
  replace e2 : IsEnum g2 e z (c + 1) old := e2
  show wpAny _ _ (setField (.ref e) 4 .none >>= _) _ _ ⟨g2, gn, dr, tk + 1, os⟩
  refine wpAny_bind (wpAny_setField_rec e2 (by simp) fun g3 e3 k3 => ?_)
  replace k3 : Heap.SameBut e g2 g3 := k3
  replace e3 : IsEnum g3 e z (c + 1) old := e3
  show wpAny _ _ (newTuple [.int c tk, .ref hp.objs.size] >>= _) _ _ ⟨g3, gn, dr, tk + 1, os⟩
  refine wpAny_bind (wpAny_newTuple ?_)
  have e4 : IsEnum (g3.push { cls := .type "tuple", data := .seq #[.int c tk, .ref hp.objs.size] }) e z (c + 1) old := Heap.get?_push_of_some _ e3
  generalize hg4 : g3.push { cls := .type "tuple", data := .seq #[.int c tk, .ref hp.objs.size] } = g4 at e4
  have hsz : g3.objs.size = hp.objs.size + 1 := by rw [k3.1, k2.1, y9]
  have t4 : g4.get? (hp.objs.size + 1) = some { cls := .type "tuple", data := .seq #[.int c tk, .ref hp.objs.size] } := by rw [← hg4, ← hsz]; exact Heap.get?_push_size _ rfl
  have kk : ∀ b o, b ≠ e → h1.get? b = some o → g4.get? b = some o := fun b o hb q => by
    rw [← hg4]; exact Heap.get?_push_of_some _ (k3.extBut b o hb (k2.extBut b o hb q))
  show wpAny _ _ (Builtin.SmallTypes.ownedTupleIsFree (.ref e) >>= _) _ _ ⟨g4, gn, dr, tk + 1, os⟩
  rw [hsz]
  refine wpAny_bind ?_
  unfold Builtin.SmallTypes.ownedTupleIsFree
  refine wpAny_bind (wpAny_field e4 rfl (x := .none) rfl (wpAny_pure ?_))
  simp only [if_true]
  refine wpAny_bind (wpAny_rule ?_)
  refine wpAny_bind (wpAny_field e4 rfl (x := old) rfl ?_)
  refine wpAny_bind (wpAny_setField_rec e4 (by simp) fun g5 e5 k5 => ?_)
  replace k5 : Heap.SameBut e g4 g5 := k5
  replace e5 : IsEnum g5 e z (c + 1) (.ref hp.objs.size) := e5
  show wpAny _ _ (Builtin.SmallTypes.ownedTupleHandOut (.ref e) (.ref (hp.objs.size + 1)) >>= _) _ _ ⟨g5, gn, dr, tk + 1, os⟩
  refine wpAny_bind ?_
  unfold Builtin.SmallTypes.ownedTupleHandOut
  refine wpAny_bind (wpAny_setField_rec e5 (by simp) fun g6 e6 k6 => ?_)
  replace k6 : Heap.SameBut e g5 g6 := k6
  replace e6 : IsEnumOut g6 e z (c + 1) (.ref hp.objs.size) (hp.objs.size + 1) := e6
  refine wpAny_setField_rec e6 (by simp) fun g7 e7 k7 => ?_
  replace k7 : Heap.SameBut e g6 g7 := k7
  replace e7 : IsEnumOut g7 e z (c + 1) (.ref hp.objs.size) (hp.objs.size + 1) := e7
  have up : ∀ b o, b ≠ e → g4.get? b = some o → g7.get? b = some o := fun b o hb q => k7.extBut b o hb (k6.extBut b o hb (k5.extBut b o hb q))
  refine wpAny_bind (wpAny_letGo (wpAny_pure ⟨_, rfl, wpAny_pure ?_⟩))
  exact hQ x1 x2 h1 tk mk' fl' b1 b2 y1 y2 y3 y4 y5 y6 y7 y8 y9 y10 g7 e7 (up _ _ (Nat.ne_of_gt (Nat.lt_succ_of_lt el)) t4) fun b o hb q => up b o hb (kk b o hb q)
set_option maxHeartbeats 4000000 in
theorem ez_end {e : Addr} {c : Int} {old : Value} {Q : Option Value → Shared → Prop} (S : ZipSep2 z TI TO i1 i2 fp1 fp2) (D1 : Draws prog w A.in1.in1 i1 fp1 n1 P1 St1) (D2 : Draws prog w A.in1.in1 i2 fp2 n2 P2 St2)
    (he : IsEnum s.heap e z c old)
    (hz : ZipO s.heap z TI TO mk fl) (hm : MkOk mk) (hTI : IsTupOf2 s.heap TI (.ref i1) (.ref i2)) (hTO : IsTupOf2 s.heap TO a1 a2) (st1 : St1 i s.heap) (st2 : St2 i s.heap) (hle1 : i ≤ n1) (hle2 : i ≤ n2) (hend : i = n1 ∨ i = n2)
    (hQ : ∀ h' tk, (∀ c o, c ≠ z → c ≠ TO → c ≠ i1 → c ≠ i2 → s.heap.get? c = some o → h'.get? c = some o) → Q none { s with heap := h', toks := tk }) :
    wpAny (model prog w) A (pyNext (.ref e)) Q E s := by
  have hT : s.TypeIs (.ref e) "enumerate" := ⟨_, he, rfl⟩
  have hTz : s.TypeIs (.ref z) "zip" := ⟨_, hz, rfl⟩
  unfold pyNext
  refine wpAny_bind (wpAny_attempt (wpAny_callSpecial?_slot (name := Str.ofString "__next__") hT F.slot_enumerate_next
    (wpAny_call_entry F.slot_enumerate_next hT F.entry_enumerate_next ?_ (F.args_enumerate_next_1 _))))
  show wpAny _ _ (field (.ref e) 2 >>= _) _ _ _
  refine wpAny_bind (wpAny_field he rfl (x := .ref z) rfl ?_)
  refine wpAny_bind ?_
  unfold Builtin.SmallTypes.nextOf
  refine wpAny_bind (wpAny_callSpecial?_slot (name := Str.ofString "__next__") hTz F.slot_zip_next
    (wpAny_call_entry F.slot_zip_next hTz F.entry_zip_next
      (zz_end S D1 D2 hz hm hTI hTO st1 st2 hle1 hle2 hend fun h' tk x hk hx => ?_) (F.args_zip_next_1 _)))
  obtain ⟨o, ho, hc⟩ := hx
  refine wpAny_bind (wpAny_isInstance (T := "StopIteration") (b := true) ⟨o, ho, hc⟩ isSubtype_stop ?_)
  exact wpAny_pure (hQ _ _ hk)
end
/-- (i, (x, y)) for the items that stand at a and at a2 -/
def Itez (b b2 : Bool) (K : PySem.W.Frag) (a a2 : Addr) : L2.It where
  go := fun i H => ∃ (xs ys : List V) (x y : V), SqX b K H a xs ∧ SqX b2 K H a2 ys ∧ xs[i]? = some x ∧ ys[i]? = some y
  yld := fun i H v H' => ∃ p o q o2 x y, v = .ref p ∧ H q = none ∧ PTo o2 ∧ upd H q (.frz o2 (.tup [x, y])) p = none ∧ PTo o ∧ H' = upd (upd H q (.frz o2 (.tup [x, y]))) p (.frz o (.tup [.int (i : Nat), .ref q])) ∧ (∀ xs, SqX b K H a xs → xs[i]? = some x) ∧ ∀ ys, SqX b2 K H a2 ys → ys[i]? = some y
  stop := fun i H => ∃ xs ys : List V, SqX b K H a xs ∧ SqX b2 K H a2 ys ∧ i ≤ xs.length ∧ i ≤ ys.length ∧ (i = xs.length ∨ i = ys.length)
theorem mem6 {c e z TI TO i1 i2 : Addr} (h : c ∈ [e, z, TI, TO, i1, i2]) : c = e ∨ c = z ∨ c = TI ∨ c = TO ∨ c = i1 ∨ c = i2 := by simpa using h
theorem fp_on {X : Cx} {pins : List (Addr × Obj)} {H H' : Hp} {b : Addr} (h : FpOk X pins H b) (e : H' b = none) : FpOk X pins H' b := ⟨e, h.2⟩
set_option maxHeartbeats 4000000 in
theorem turn_ez {P : Program} {w : World} {K : PySem.W.Frag} {elts : List Expr} {kk : Nat} {tpos : Pos} (b b2 : Bool) {a a2 e z TI TO i1 i2 : Addr} (S : ZipSep2 z TI TO i1 i2 [i1, a] [i2, a2]) (n1 : a ≠ i1) (n2 : a2 ≠ i2) (ez : e ≠ z) (eI : e ≠ TI) (eO : e ≠ TO) (e1' : e ≠ i1) (e2' : e ≠ i2) :
    Turn P w K (.Tuple elts kk tpos) (Itez b b2 K a a2) [e, z, TI, TO, i1, i2] e (fun i h => (∃ old, IsEnum h e z ((i : Nat) : Int) old) ∧ (∃ mk fl, ZipO h z TI TO mk fl ∧ MkOk mk) ∧ IsTupOf2 h TI (.ref i1) (.ref i2) ∧ (∃ x y, IsTupOf2 h TO x y) ∧ itAt b h i1 a i ∧ itAt b2 h i2 a2 i) where
  mem := by simp
  obj := fun i h st c hc => by
    obtain ⟨⟨old, he⟩, ⟨mk, fl, hz, hm⟩, hT, ⟨x, y, hO⟩, k1, k2⟩ := st
    rcases mem6 hc with q | q | q | q | q | q
    · rw [q]; exact ⟨_, he, fun v q => nomatch q⟩
    · rw [q]; exact ⟨_, hz, fun v q => nomatch q⟩
    · rw [q]; exact ⟨_, hT, fun v q => nomatch q⟩
    · rw [q]; exact ⟨_, hO, fun v q => nomatch q⟩
    · rw [q]; exact itAt_obj k1
    · rw [q]; exact itAt_obj k2
  keep := fun i h h' st k => by
    obtain ⟨⟨old, he⟩, ⟨mk, fl, hz, hm⟩, hT, ⟨x, y, hO⟩, k1, k2⟩ := st
    exact ⟨⟨old, k e (by simp) _ he⟩, ⟨mk, fl, k z (by simp) _ hz, hm⟩, k TI (by simp) _ hT, ⟨x, y, k TO (by simp) _ hO⟩, itAt_move k1 fun o q => k i1 (by simp) o q, itAt_move k2 fun o q => k i2 (by simp) o q⟩
  item := by
    intro X hP hw hK hc i pins s σ H E I hf st hg
    subst hP hw hK
    obtain ⟨⟨old, he⟩, ⟨mk, fl, hz, hm⟩, hT, ⟨x0, y0, hO⟩, k1, k2⟩ := st
    obtain ⟨xs, ys, x, y, qx, qy, hx, hy⟩ := hg
    obtain ⟨its, rv, src⟩ := inv_src I qx
    obtain ⟨its2, rv2, src2⟩ := inv_src I qy
    have l1 := rv.length
    have l2 := rv2.length
    have lt1 : i < its.toArray.size := by
      have := (List.getElem?_eq_some_iff.mp hx).1
      simp only [List.size_toArray]; omega
    have lt2 : i < its2.toArray.size := by
      have := (List.getElem?_eq_some_iff.mp hy).1
      simp only [List.size_toArray]; omega
    have D1 := draws_of (P := X.prog) (w := X.w) (A := X.A.in1.in1) b (I.ok.hd hc) i1 a n1 its.toArray
    have D2 := draws_of (P := X.prog) (w := X.w) (A := X.A.in1.in1) b2 (I.ok.hd hc) i2 a2 n2 its2.toArray
    refine ez_item S D1 D2 he ez eO e1' e2' hz hm hT hO ⟨k1, src⟩ ⟨k2, src2⟩ lt1 lt2 fun u u2 h1 tk mk' fl' b1 b2 hu hu2 z1 m1 o1 s1' s2' lay hsz hk h2 en t2 up => ?_
    refine ⟨_, rfl, wpAny_letOwnedTupleGo_enum (s := { s with heap := h2, toks := tk + 1 }) en fun h3 e3 sb => ?_⟩
    have hel : e < s.heap.objs.size := Heap.lt_size he
    have ne0 : s.heap.objs.size ≠ e := Nat.ne_of_gt hel
    have ne1 : s.heap.objs.size + 1 ≠ e := Nat.ne_of_gt (Nat.lt_succ_of_lt hel)
    obtain ⟨v1, hv1, ru⟩ := rv.get hx
    obtain rfl : v1 = u := Option.some.inj (hv1.symm.trans (by simpa using hu))
    obtain ⟨v2, hv2, ru2⟩ := rv2.get hy
    obtain rfl : v2 = u2 := Option.some.inj (hv2.symm.trans (by simpa using hu2))
    have new : ObjOk X.prog X.w (upd H s.heap.objs.size (.frz { cls := .type "tuple", data := .seq #[v1, v2] } (.tup [x, y]))) h1 s.heap.objs.size (.frz { cls := .type "tuple", data := .seq #[v1, v2] } (.tup [x, y])) :=
      ⟨lay, by show 2 ≤ sizeLine; decide, [v1, v2], .cons ru (.cons ru2 .nil), ⟨_, lay, rfl, _, rfl⟩⟩
    have I1 := I.turnedNew (t' := tk) (h' := h1) (ch := [z, TO, i1, i2]) (fun c o hb q => hk c o (fun q' => hb (by simp [q'])) (fun q' => hb (by simp [q'])) (fun q' => hb (by simp [q'])) (fun q' => hb (by simp [q'])) q) (fun c hc => hf c (by
      rcases (by simpa using hc : c = z ∨ c = TO ∨ c = i1 ∨ c = i2) with q | q | q | q <;> simp [q])) (Nat.le_refl _) new
    have lay3 : h3.get? (s.heap.objs.size + 1) = some { cls := .type "tuple", data := .seq #[.int i tk, .ref s.heap.objs.size] } := (sb.2 _ ne1).trans t2
    have new2 : ObjOk X.prog X.w (upd (upd H s.heap.objs.size (.frz { cls := .type "tuple", data := .seq #[v1, v2] } (.tup [x, y]))) (s.heap.objs.size + 1) (.frz { cls := .type "tuple", data := .seq #[.int i tk, .ref s.heap.objs.size] } (.tup [.int (i : Nat), .ref s.heap.objs.size]))) h3 (s.heap.objs.size + 1) (.frz { cls := .type "tuple", data := .seq #[.int i tk, .ref s.heap.objs.size] } (.tup [.int (i : Nat), .ref s.heap.objs.size])) :=
      ⟨lay3, by show 2 ≤ sizeLine; decide, [.int i tk, .ref s.heap.objs.size], .cons ⟨_, rfl⟩ (.cons rfl .nil), ⟨_, lay3, rfl, _, rfl⟩⟩
    have up3 : ∀ c o, c ≠ e → h1.get? c = some o → h3.get? c = some o := fun c o hce q => (sb.2 c hce).trans (up c o hce q)
    have hs1 : h1.objs.size ≤ s.heap.objs.size + 1 := Nat.le_of_eq hsz
    have I2 := I1.turnedNew (t' := tk + 1) (h' := h3) (ch := [e]) (fun c o hb q => up3 c o (fun q' => hb (by simp [q'])) q) (fun c hc => by
      have ec : c = e := by simpa using hc
      subst ec
      exact fp_on (hf c (by simp)) (by rw [upd_ne (Ne.symm ne0)]; exact (hf c (by simp)).1)) hs1 new2
    have fr1 : upd H s.heap.objs.size (.frz { cls := .type "tuple", data := .seq #[v1, v2] } (.tup [x, y])) (s.heap.objs.size + 1) = none := I1.hok.fresh hs1
    refine ⟨.ref (s.heap.objs.size + 1), _, I2, rfl, ⟨_, _, _, _, x, y, rfl, I.hok.fresh (Nat.le_refl _), ⟨[v1, v2], rfl⟩, fr1, ⟨[.int i tk, .ref s.heap.objs.size], rfl⟩, rfl, fun l hl => by rw [inv_inj I hl qx]; exact hx, fun l hl => by rw [inv_inj I hl qy]; exact hy⟩, ⟨⟨.ref s.heap.objs.size, ?_⟩, ⟨mk', fl', up3 _ _ (Ne.symm ez) z1, m1⟩, up3 _ _ (Ne.symm eI) (hk _ _ S.TIz S.TITO S.TIi1 S.TIi2 hT), ⟨_, _, up3 _ _ (Ne.symm eO) o1⟩, itAt_move s1'.1 fun o q => up3 _ _ (Ne.symm e1') q, itAt_move s2'.1 fun o q => up3 _ _ (Ne.symm e2') q⟩, fun c hcm => ?_⟩
    · have e1 : ((i + 1 : Nat) : Int) = (i : Int) + 1 := by omega
      rw [e1]; exact e3
    · have hlt : c < s.heap.objs.size := by
        rcases mem6 hcm with q | q | q | q | q | q
        · rw [q]; exact hel
        · rw [q]; exact Heap.lt_size hz
        · rw [q]; exact Heap.lt_size hT
        · rw [q]; exact Heap.lt_size hO
        · rw [q]; obtain ⟨_, e1, _⟩ := itAt_obj k1; exact Heap.lt_size e1
        · rw [q]; obtain ⟨_, e2, _⟩ := itAt_obj k2; exact Heap.lt_size e2
      rw [upd_ne (Nat.ne_of_lt (Nat.lt_succ_of_lt hlt)), upd_ne (Nat.ne_of_lt hlt)]
      exact (hf c hcm).1
  done := by
    intro X hP hw hK hc i pins s σ H E I hf st hg
    subst hP hw hK
    obtain ⟨⟨old, he⟩, ⟨mk, fl, hz, hm⟩, hT, ⟨x0, y0, hO⟩, k1, k2⟩ := st
    obtain ⟨xs, ys, qx, qy, le1, le2, fin⟩ := hg
    obtain ⟨its, rv, src⟩ := inv_src I qx
    obtain ⟨its2, rv2, src2⟩ := inv_src I qy
    have l1 := rv.length
    have l2 := rv2.length
    have D1 := draws_of (P := X.prog) (w := X.w) (A := X.A.in1.in1) b (I.ok.hd hc) i1 a n1 its.toArray
    have D2 := draws_of (P := X.prog) (w := X.w) (A := X.A.in1.in1) b2 (I.ok.hd hc) i2 a2 n2 its2.toArray
    exact ez_end S D1 D2 he hz hm hT hO ⟨k1, src⟩ ⟨k2, src2⟩ (by simp only [List.size_toArray]; omega) (by simp only [List.size_toArray]; omega) (by simp only [List.size_toArray]; omega) fun h' tk hk => ⟨rfl, I.turnedL (t' := tk) (h' := h') (ch := [z, TO, i1, i2]) (fun c o hb q =>
      hk c o (fun q' => hb (by simp [q'])) (fun q' => hb (by simp [q'])) (fun q' => hb (by simp [q'])) (fun q' => hb (by simp [q'])) q) (fun c hc => hf c (by
      rcases (by simpa using hc : c = z ∨ c = TO ∨ c = i1 ∨ c = i2) with q | q | q | q <;> simp [q]))⟩
  self := fun A i s Q E st h => let ⟨⟨_, he⟩, _⟩ := st; wpAny_pyIter_enum he h
set_option maxHeartbeats 4000000 in
theorem enumS_new (z TI TO : Addr) : Meets (Builtin.«enumerate.__new__» ⟨[.type "enumerate", .ref z], []⟩) (fun _ R s => IsZip s.heap z TI TO .none ∧
    R (.ok (.ret (.ref s.heap.objs.size))) { s with heap := s.heap.push { cls := .type "enumerate", data := .fields #[.none, .bool false, .ref z, rawInt 0, .none, .none] } }) :=
  .of_wp fun P w A R sh hyp => by
    obtain ⟨h0, g, dr, tk, os⟩ := sh
    obtain ⟨a1, fin⟩ := hyp
    have hsub := sub_enumerate
    have go1 : ∀ {B2 : Around} {E2 : Value → Shared → Prop} {Q2 : Value → Shared → Prop}, Q2 (.ref z) ⟨h0, g, dr, tk, os⟩ → wpAny (model P w) B2 (pyIter (.ref z)) Q2 E2 ⟨h0, g, dr, tk, os⟩ := fun q => wpAny_pyIter_zip a1 q
    wp_walk using go1
    refine wpAny_stack_any fun _ => wpAny_pure ?_
    split
    · rename_i cl _ _ _ _ _
      cases (cl == Value.type "enumerate")
      · wp_walk using go1
        exact ⟨_, rfl, fin⟩
      · wp_walk using go1
        exact ⟨_, rfl, fin⟩
    · wp_walk using go1
      exact ⟨_, rfl, fin⟩
theorem enumS_begins {P : Program} {w : World} {A : Around} {E : Value → Shared → Prop} {s : Shared} {z TI TO : Addr} {Q : Value → Shared → Prop} (hz : IsZip s.heap z TI TO .none)
    (k : ∀ h', IsEnum h' s.heap.objs.size z 0 .none → (∀ b o, s.heap.get? b = some o → h'.get? b = some o) → Q (.ref s.heap.objs.size) { s with heap := h' }) :
    wpAny (model P w) A (call (.type "enumerate") [.ref z]) Q E s := by
  refine callType_new F.called_enumerate (by decide) (F.typeCall_enumerate_1 _) (F.newCall_enumerate_1 _) (fun o => F.args_object_init_2 o _) F.entry_enumerate_new (enumS_new z TI TO) ⟨hz, ?_⟩
  have he := Heap.get?_push_size s.heap (o := { cls := .type "enumerate", data := .fields #[.none, .bool false, .ref z, rawInt 0, .none, .none] }) rfl
  exact ⟨⟨_, he, rfl⟩, k _ he fun b o x => Heap.get?_push_of_some _ x⟩
def iEz (K : PySem.W.Frag) (ta : TA) : L2.TI := fun σ H R => ta σ H fun vs H1 => ∃ b b2 a a2 xs ys, vs = [.ref a, .ref a2] ∧ SqX b K H1 a xs ∧ SqX b2 K H1 a2 ys ∧ R (Itez b b2 K a a2) H1
theorem pi_ez {X : Cx} {e e2 : Expr} {ta : TA} {p p2 pos pos2 tpos : Pos} {elts : List Expr} {kk : Nat} (hg : Gl X "enumerate") (hm : X.mg "enumerate" = none) (hg2 : Gl X "zip") (hm2 : X.mg "zip" = none) (ha : PA X [e, e2] ta) (hs : noStar e = true) (hs2 : noStar e2 = true) :
    PI X (.Tuple elts kk tpos) (.Call (.Name "enumerate" p) [.Call (.Name "zip" p2) [e, e2] [] pos2] [] pos) (iEz X.K ta) := by
  refine ⟨fun pins s σ H R I h => ?_⟩
  have hst := star1 (e := .Call (.Name "zip" p2) [e, e2] [] pos2) rfl [] X.env
  refine Call_ (ld_blt I hg hm boot_enumerate (PyProof.Rows.callWith_type1 ?_ hst rfl))
  rw [hst]
  refine Calls.spliced_cons ?_
  refine Call_ (ld_blt I hg2 hm2 PyProof.Rows.boot_zip (PyProof.Rows.callWith_type1 (thn (ha.run pos2 pins s σ H _ I h) fun us s1 ⟨vs, H1, I1, r1, q1⟩ => ?_) (star1 hs [e2] _) (stars (by simp [hs2]))))
  obtain ⟨b, b2, a, a2, xs, ys, ex, qx, qy, q⟩ := q1
  subst ex
  cases r1 with
  | cons r rr =>
    cases rr with
    | cons r' rr =>
      cases rr
      cases r
      cases r'
      obtain ⟨its, rv, src⟩ := inv_src I1 qx
      obtain ⟨its2, rv2, src2⟩ := inv_src I1 qy
      have la := srcAt_lt src
      have lb := srcAt_lt src2
      refine zip_begins2 (begins_of b a its.toArray) (begins_of b2 a2 its2.toArray) src src2 fun h' hz hT hO o1 o2 hsz hk => ?_
      refine Calls.spliced_nil ?_
      refine enumS_begins (s := { s1 with heap := h' }) hz fun h2 he hk2 => wpAny_pyIter_enum he ?_
      have sep := zip_sep2 (N := s1.heap.objs.size) (fp1 := [a]) (fp2 := [a2]) (by simpa using la) (by simpa using lb)
      have he : IsEnum h2 h'.objs.size (s1.heap.objs.size + 4) 0 .none := he
      rw [hsz] at he
      have hk3 : ∀ c o, s1.heap.get? c = some o → h2.get? c = some o := fun c o x => hk2 c o (hk c o x)
      show PIE X pins σ (.Tuple elts kk tpos) R (.ref h'.objs.size) _
      rw [hsz]
      have ne : ∀ j, j < 5 → s1.heap.objs.size + 5 ≠ s1.heap.objs.size + j := fun j hj => by omega
      refine ⟨s1.heap.objs.size + 5, [s1.heap.objs.size + 5, s1.heap.objs.size + 4, s1.heap.objs.size + 2, s1.heap.objs.size + 3, s1.heap.objs.size, s1.heap.objs.size + 1], _, _, H1, rfl, I1.kept (t' := s1.toks) hk3,
        turn_ez b b2 sep (Nat.ne_of_lt la) (Nat.ne_of_lt (Nat.lt_succ_of_lt lb)) (ne 4 (by decide)) (ne 2 (by decide)) (ne 3 (by decide)) (ne 0 (by decide)) (ne 1 (by decide)), ⟨⟨.none, he⟩, ⟨.none, false, hk2 _ _ hz, .inl rfl⟩, hk2 _ _ hT, ⟨_, _, hk2 _ _ hO⟩, itAt_new (hk2 _ _ o1), itAt_new (hk2 _ _ o2)⟩, fun c hc => ?_, q⟩
      have hle : s1.heap.objs.size ≤ c := by
        rcases mem6 hc with z | z | z | z | z | z
        · rw [z]; exact Nat.le_add_right _ _
        · rw [z]; exact Nat.le_add_right _ _
        · rw [z]; exact Nat.le_add_right _ _
        · rw [z]; exact Nat.le_add_right _ _
        · rw [z]; exact Nat.le_refl _
        · rw [z]; exact Nat.le_add_right _ _
      exact I1.fpOk hle (I1.hok.fresh hle)
end Dv

namespace Dv
open PySem PySem.Spec PyProof.Rows L2

/-! ### what is walked -/
/-- the turns' items, from a world on -/
def Turns (T : Tb) (J : L2.It) (w : Wd) (m : List R) (i : Nat) (d : D) : Prop :=
  J.go i w.H ∧ ∀ v H', J.yld i w.H v H' → ∃ w', w'.H = H' ∧ Ext w w' ∧ Wf T w' m ∧ Rep T w'.Hs w'.al v d
def SrcOk (T : Tb) (J : L2.It) (w1 : Wd) : Src → Prop
  | .fix xs => ∀ i w m, Ext w1 w → Wf T w m → (i = xs.length → J.stop i w.H) ∧ ∀ d, xs[i]? = some d → Turns T J w m i d
  | .live k _ => ∀ i w m ys, Ext w1 w → Wf T w m → m[k]? = some (.lst ys) → (ys[i]? = none → J.stop i w.H) ∧ ∀ d, ys[i]? = some d → Turns T J w m i d
def PostI (T : Tb) (W : WX) (σ : L2.St) (w : Wd) (R' : L2.It → Hp → Prop) : RsI → Prop
  | .ok s m' => ∀ w' J, Ext w w' → Wf T w' m' → SrcOk T J w' s → R' J w'.H
  | .ex x m' => ∀ w' cls dd, Ext w w' → Wf T w' m' → RepX T w' cls dd x → W cls dd σ w'.H
theorem PostI.on {T : Tb} {W : WX} {σ : L2.St} {w w1 : Wd} {m : List R} {Q : L2.It → Hp → Prop} {o : RsI} (h : PostI T W σ w Q o) (e : Ext w w1) (V : Wf T w1 m) : PostI T W σ w1 Q o := by
  cases o with
  | ok s m' => exact fun w' J e' W' r => h w' J (e.trans e' V) W' r
  | ex x m' => exact fun w' c d e' W' r => h w' c d (e.trans e' V) W' r
def RunsI (C : Cs) (t : L2.TI) (f : Ro → List R → Option RsI) : Prop :=
  ∀ (σ : L2.St) (w : Wd) (ρ : Ro) (m : List R) (Q : L2.It → Hp → Prop) (o : RsI), Wf C.T w m → ER C.T w σ ρ → f ρ m = some o → PostI C.T C.W σ w Q o → t σ w.H Q
def DI (C : Cs) (tg e : Expr) (f : Ro → List R → Option RsI) : Prop := ∃ t, (∀ X, C.Ok X → PI X tg e t) ∧ RunsI C t f

theorem toI_some {r : Option Rs} {k : D → List R → Option RsI} {o : RsI} (e : toI r k = some o) : (∃ d m, r = some (.ok d m) ∧ k d m = some o) ∨ ∃ x m, r = some (.ex x m) ∧ o = .ex x m := by
  cases r with
  | none => cases e
  | some q =>
    cases q with
    | ok d m => exact .inl ⟨d, m, rfl, e⟩
    | ex x m => cases e; exact .inr ⟨x, m, rfl, rfl⟩
theorem bndI_some {r : Option RsI} {k : Src → List R → Option Rs} {o : Rs} (e : bndI r k = some o) : (∃ d m, r = some (.ok d m) ∧ k d m = some o) ∨ ∃ x m, r = some (.ex x m) ∧ o = .ex x m := by
  cases r with
  | none => cases e
  | some q =>
    cases q with
    | ok d m => exact .inl ⟨d, m, rfl, e⟩
    | ex x m => cases e; exact .inr ⟨x, m, rfl, rfl⟩
section
variable {C : Cs}
theorem Runs.toI {t : TE} {f : Ro → List R → Option Rs} (h : Runs C t f) {σ : L2.St} {w : Wd} {ρ : Ro} {m : List R} {Q : L2.It → Hp → Prop} {o : RsI} {k : D → List R → Option RsI} (W : Wf C.T w m) (E : ER C.T w σ ρ) (e : Dv.toI (f ρ m) k = some o) (p : PostI C.T C.W σ w Q o)
    {R' : VK} (c : ∀ d m1 w1 v1, k d m1 = some o → Ext w w1 → Wf C.T w1 m1 → Rep C.T w1.Hs w1.al v1 d → ER C.T w1 σ ρ → PostI C.T C.W σ w1 Q o → R' v1 w1.H) : t σ w.H R' := by
  rcases toI_some e with ⟨d, m1, e1, e2⟩ | ⟨x, m1, e1, rfl⟩
  · exact h σ w ρ m R' _ W E e1 fun w1 v1 e' W1 r => c d m1 w1 v1 e2 e' W1 r (E.on e') (p.on e' W1)
  · exact h σ w ρ m R' _ W E e1 p
theorem PI.or {X : Cx} {tg e : Expr} {t u : L2.TI} (h : PI X tg e t) (k : PI X tg e u) : PI X tg e (fun σ H Q => t σ H Q ∨ u σ H Q) := ⟨fun pins s σ H Q I hh => hh.elim (h.run pins s σ H Q I) (k.run pins s σ H Q I)⟩
theorem get_len {α : Type} {xs : List α} {i : Nat} (h : xs[i]? = none) : xs.length ≤ i := List.getElem?_eq_none_iff.mp h
/-- a frozen list, walked -/
theorem src_fixL {w1 : Wd} {a : Addr} {vs : List V} {xs : List D} (hs : SqL C.T.K w1.Hs a vs) (r : RepL C.T w1.Hs w1.al vs xs) : SrcOk C.T (Itl C.T.K a) w1 (.fix xs) := by
  intro i w m x W
  have hs' := Le.sqL (Le.trans x.hs W.sub) hs
  have r' := r.on x
  refine ⟨fun e => ⟨vs, hs', by rw [r.length, e]; exact Nat.le_refl _⟩, fun d hd => ?_⟩
  obtain ⟨v, hv, rv⟩ := r'.get hd
  refine ⟨⟨vs, v, hs', hv⟩, fun u H' ⟨eH, hu⟩ => ⟨w, eH.symm, Ext.refl _, W, ?_⟩⟩
  have : v = u := Option.some.inj (hv.symm.trans (hu vs hs'))
  rw [← this]; exact rv
theorem src_fixT {w1 : Wd} {a : Addr} {vs : List V} {xs : List D} (hs : SqT C.T.K w1.Hs a vs) (r : RepL C.T w1.Hs w1.al vs xs) : SrcOk C.T (Itt C.T.K a) w1 (.fix xs) := by
  intro i w m x W
  have hs' := Le.sqT (Le.trans x.hs W.sub) hs
  have r' := r.on x
  refine ⟨fun e => ⟨vs, hs', by rw [r.length, e]; exact Nat.le_refl _⟩, fun d hd => ?_⟩
  obtain ⟨v, hv, rv⟩ := r'.get hd
  refine ⟨⟨vs, v, hs', hv⟩, fun u H' ⟨eH, hu⟩ => ⟨w, eH.symm, Ext.refl _, W, ?_⟩⟩
  have : v = u := Option.some.inj (hv.symm.trans (hu vs hs'))
  rw [← this]; exact rv
theorem src_str {w1 : Wd} {z : Str} : SrcOk C.T (Its z) w1 (.fix (signsD z)) := by
  intro i w m x W
  have hl : (signsD z).length = z.cps.size := by unfold signsD; rw [List.length_map, Array.length_toList]
  refine ⟨fun e => by show z.cps.size ≤ i; omega, fun d hd => ?_⟩
  have hi : i < z.cps.size := by rw [← hl]; exact (List.getElem?_eq_some_iff.mp hd).1
  refine ⟨hi, fun u H' ⟨eH, c, hc, hu⟩ => ⟨w, eH.symm, Ext.refl _, W, ?_⟩⟩
  have : d = .str ⟨#[c]⟩ := by
    unfold signsD at hd
    rw [List.getElem?_map, Array.getElem?_toList, hc] at hd
    exact (Option.some.inj hd).symm
  rw [this, hu]
  exact .str _
theorem src_live {w1 : Wd} {m1 : List R} {a : Addr} {k n : Nat} (hk : w1.al[k]? = some a) : SrcOk C.T (Itl C.T.K a) w1 (.live k n) := by
  intro i w m ys x W hm
  obtain ⟨vs, hv, rv⟩ := W.ok k a _ (x.leA k a hk) hm
  have hs : SqL C.T.K w.H a vs := .inl (.inl hv)
  refine ⟨fun e => ⟨vs, hs, by rw [rv.length]; exact get_len e⟩, fun d hd => ?_⟩
  obtain ⟨v, hv', r⟩ := rv.get hd
  refine ⟨⟨vs, v, hs, hv'⟩, fun u H' ⟨eH, hu⟩ => ⟨w, eH.symm, Ext.refl _, W, ?_⟩⟩
  have : v = u := Option.some.inj (hv'.symm.trans (hu vs hs))
  rw [← this]; exact r
theorem src_rng {w1 : Wd} {lo hi : Int} : SrcOk C.T (Itr lo (hi - lo).toNat) w1 (.fix (rngD lo hi)) := by
  intro i w m x W
  have hl : (rngD lo hi).length = (hi - lo).toNat := by unfold rngD; rw [List.length_map, List.length_range]
  refine ⟨fun e => by show (hi - lo).toNat ≤ i; omega, fun d hd => ?_⟩
  have hi' : i < (hi - lo).toNat := by rw [← hl]; exact (List.getElem?_eq_some_iff.mp hd).1
  refine ⟨hi', fun u H' ⟨eH, hu⟩ => ⟨w, eH.symm, Ext.refl _, W, ?_⟩⟩
  have : d = .int (lo + (i : Int)) := by
    unfold rngD at hd
    rw [List.getElem?_map, List.getElem?_range hi'] at hd
    exact (Option.some.inj hd).symm
  rw [this, hu]
  exact .int _
theorem sqX_of {T : Tb} {w : Wd} {m : List R} (W : Wf T w m) {v : V} {d : D} {xs : List D} (r : Rep T w.Hs w.al v d) (h : fsq d = some xs) : ∃ b a vs, v = .ref a ∧ SqX b T.K w.Hs a vs ∧ RepL T w.Hs w.al vs xs := by
  cases r with
  | tup s r =>
    cases h
    exact ⟨false, _, _, rfl, SqN.sqT s, r⟩
  | lst s r =>
    cases h
    exact ⟨true, _, _, rfl, .inl (.inl s), r⟩
  | ext s r =>
    cases h
    exact ⟨true, _, _, rfl, s, r⟩
  | _ => cases h
theorem Le.sqX {H H' : Hp} (h : Le H H') {b : Bool} {K : PySem.W.Frag} {a : Addr} {vs : List V} (r : SqX b K H a vs) : SqX b K H' a vs := by
  cases b
  · exact h.sqT r
  · exact h.sqL r
theorem src_en {w1 : Wd} {b : Bool} {a : Addr} {vs : List V} {xs : List D} (hs : SqX b C.T.K w1.Hs a vs) (r : RepL C.T w1.Hs w1.al vs xs) : SrcOk C.T (Iten b C.T.K a) w1 (.fix (enuD xs)) := by
  intro i w m x W
  have hs' := Le.sqX (Le.trans x.hs W.sub) hs
  have r' := r.on x
  have hl : (enuD xs).length = xs.length := by unfold enuD; rw [List.length_map, List.length_zipIdx]
  refine ⟨fun e => ⟨vs, hs', by rw [r.length, e, hl]⟩, fun d hd => ?_⟩
  have hi : i < xs.length := by rw [← hl]; exact (List.getElem?_eq_some_iff.mp hd).1
  have hx : xs[i]? = some xs[i] := List.getElem?_eq_getElem hi
  have ed : d = .tup [.int (i : Int), xs[i]] := by
    unfold enuD at hd
    rw [List.getElem?_map, List.getElem?_zipIdx, hx] at hd
    have := Option.some.inj hd
    simpa using this.symm
  subst ed
  obtain ⟨v, hv, rv⟩ := r'.get hx
  refine ⟨⟨vs, v, hs', hv⟩, fun u H' ⟨p, o, y, eu, hp, ho, eH, hy⟩ => ?_⟩
  obtain rfl : v = y := Option.some.inj (hv.symm.trans (hy vs hs'))
  obtain ⟨W', x'⟩ := W.fz (.frz o (.tup [.int (i : Nat), v])) hp
  subst eu
  exact ⟨_, eH.symm, x', W', .tup ⟨o, by show upd w.Hs p _ p = _; rw [upd_same], ho⟩ (.cons (.int _) (.cons (rv.on x') .nil))⟩
theorem src_zn {w1 : Wd} {b b2 : Bool} {a a2 : Addr} {vs us : List V} {xs ys : List D} (hs : SqX b C.T.K w1.Hs a vs) (r : RepL C.T w1.Hs w1.al vs xs) (hs2 : SqX b2 C.T.K w1.Hs a2 us) (r2 : RepL C.T w1.Hs w1.al us ys) : SrcOk C.T (Itzn b b2 C.T.K a a2) w1 (.fix (zipD xs ys)) := by
  intro i w m x W
  have hs' := Le.sqX (Le.trans x.hs W.sub) hs
  have r' := r.on x
  have hs2' := Le.sqX (Le.trans x.hs W.sub) hs2
  have r2' := r2.on x
  have l1 := r.length
  have l2 := r2.length
  have hl : (zipD xs ys).length = min xs.length ys.length := by unfold zipD; rw [List.length_map, List.length_zip]
  refine ⟨fun e => ⟨vs, us, hs', hs2', by omega, by omega, by omega⟩, fun d hd => ?_⟩
  have hi : i < min xs.length ys.length := by rw [← hl]; exact (List.getElem?_eq_some_iff.mp hd).1
  have hx : xs[i]? = some (xs[i]'(by omega)) := List.getElem?_eq_getElem (by omega)
  have hy : ys[i]? = some (ys[i]'(by omega)) := List.getElem?_eq_getElem (by omega)
  have ed : d = .tup [xs[i]'(by omega), ys[i]'(by omega)] := by
    unfold zipD at hd
    rw [List.getElem?_map, (List.getElem?_zip_eq_some (z := (xs[i]'(by omega), ys[i]'(by omega)))).mpr ⟨hx, hy⟩] at hd
    exact (Option.some.inj hd).symm
  subst ed
  obtain ⟨v, hv, rv⟩ := r'.get hx
  obtain ⟨v2, hv2, rv2⟩ := r2'.get hy
  refine ⟨⟨vs, us, v, v2, hs', hs2', hv, hv2⟩, fun u H' ⟨p, o, y1, y2, eu, hp, ho, eH, h1, h2⟩ => ?_⟩
  obtain rfl : v = y1 := Option.some.inj (hv.symm.trans (h1 vs hs'))
  obtain rfl : v2 = y2 := Option.some.inj (hv2.symm.trans (h2 us hs2'))
  obtain ⟨W', x'⟩ := W.fz (.frz o (.tup [v, v2])) hp
  subst eu
  exact ⟨_, eH.symm, x', W', .tup ⟨o, by show upd w.Hs p _ p = _; rw [upd_same], ho⟩ (.cons (rv.on x') (.cons (rv2.on x') .nil))⟩

theorem src_ez {w1 : Wd} {b b2 : Bool} {a a2 : Addr} {vs us : List V} {xs ys : List D} (hs : SqX b C.T.K w1.Hs a vs) (r : RepL C.T w1.Hs w1.al vs xs) (hs2 : SqX b2 C.T.K w1.Hs a2 us) (r2 : RepL C.T w1.Hs w1.al us ys) : SrcOk C.T (Itez b b2 C.T.K a a2) w1 (.fix (enuD (zipD xs ys))) := by
  intro i w m x W
  have hs' := Le.sqX (Le.trans x.hs W.sub) hs
  have r' := r.on x
  have hs2' := Le.sqX (Le.trans x.hs W.sub) hs2
  have r2' := r2.on x
  have l1 := r.length
  have l2 := r2.length
  have hl0 : (zipD xs ys).length = min xs.length ys.length := by unfold zipD; rw [List.length_map, List.length_zip]
  have hl : (enuD (zipD xs ys)).length = min xs.length ys.length := by unfold enuD; rw [List.length_map, List.length_zipIdx, hl0]
  refine ⟨fun e => ⟨vs, us, hs', hs2', by omega, by omega, by omega⟩, fun d hd => ?_⟩
  have hi : i < min xs.length ys.length := by rw [← hl]; exact (List.getElem?_eq_some_iff.mp hd).1
  have hx : xs[i]? = some (xs[i]'(by omega)) := List.getElem?_eq_getElem (by omega)
  have hy : ys[i]? = some (ys[i]'(by omega)) := List.getElem?_eq_getElem (by omega)
  have hzi : (zipD xs ys)[i]? = some (.tup [xs[i]'(by omega), ys[i]'(by omega)]) := by
    unfold zipD
    rw [List.getElem?_map, (List.getElem?_zip_eq_some (z := (xs[i]'(by omega), ys[i]'(by omega)))).mpr ⟨hx, hy⟩]
    rfl
  have ed : d = .tup [.int (i : Int), .tup [xs[i]'(by omega), ys[i]'(by omega)]] := by
    unfold enuD at hd
    rw [List.getElem?_map, List.getElem?_zipIdx, hzi] at hd
    have := Option.some.inj hd
    simpa using this.symm
  subst ed
  obtain ⟨v, hv, rv⟩ := r'.get hx
  obtain ⟨v2, hv2, rv2⟩ := r2'.get hy
  refine ⟨⟨vs, us, v, v2, hs', hs2', hv, hv2⟩, fun u H' ⟨p, o, q, o2, y1, y2, eu, hq, ho2, hp, ho, eH, h1, h2⟩ => ?_⟩
  obtain rfl : v = y1 := Option.some.inj (hv.symm.trans (h1 vs hs'))
  obtain rfl : v2 = y2 := Option.some.inj (hv2.symm.trans (h2 us hs2'))
  obtain ⟨W', x'⟩ := W.fz (.frz o2 (.tup [v, v2])) hq
  obtain ⟨W2, x2⟩ := W'.fz (.frz o (.tup [.int (i : Nat), .ref q])) hp
  subst eu
  have rq : Rep C.T (upd w.Hs q (.frz o2 (.tup [v, v2]))) w.al (.ref q) (.tup [xs[i]'(by omega), ys[i]'(by omega)]) := .tup ⟨o2, by rw [upd_same], ho2⟩ (.cons (rv.on x') (.cons (rv2.on x') .nil))
  exact ⟨_, eH.symm, x'.trans x2 W', W2, .tup ⟨o, by show upd _ p _ p = _; rw [upd_same], ho⟩ (.cons (.int _) (.cons (rq.on x2) .nil))⟩
theorem di_seq {tg e : Expr} {x : Dv.E} (h : DE C e (evE C.g x)) : DI C tg e (evI C.g (.seq x)) := by
  obtain ⟨t, p, r⟩ := h
  refine ⟨fun σ H R' => iList C.T.K t σ H R' ∨ iTup C.T.K t σ H R' ∨ iStr t σ H R', fun X ok => by
    have h1 := pi_list (tg := tg) (p X ok)
    have h2 := pi_tup (tg := tg) (p X ok)
    rw [ok.K] at h1 h2
    exact Dv.PI.or h1 (Dv.PI.or h2 (pi_str (p X ok))), fun σ w ρ m Q o W E e pp => ?_⟩
  simp only [evI] at e
  have e0 := e
  rcases toI_some e with ⟨d, m1, e1, e2⟩ | ⟨y, m1, e1, rfl⟩
  · cases d with
    | tup xs =>
      cases e2
      refine .inr (.inl (r σ w ρ m _ _ W E e1 fun w1 v1 x1 W1 r1 => ?_))
      cases r1 with
      | tup s rr => exact ⟨_, rfl, ⟨_, Le.sqT W1.sub (SqN.sqT s)⟩, pp w1 _ x1 W1 (src_fixT (SqN.sqT s) rr)⟩
    | lst xs =>
      cases e2
      refine .inl (r σ w ρ m _ _ W E e1 fun w1 v1 x1 W1 r1 => ?_)
      cases r1 with
      | lst s rr => exact ⟨_, rfl, ⟨_, .inl (.inl (W1.sub _ _ s))⟩, pp w1 _ x1 W1 (src_fixL (.inl (.inl s)) rr)⟩
    | ext xs =>
      cases e2
      refine .inl (r σ w ρ m _ _ W E e1 fun w1 v1 x1 W1 r1 => ?_)
      cases r1 with
      | ext s rr => exact ⟨_, rfl, ⟨_, Le.sqL W1.sub s⟩, pp w1 _ x1 W1 (src_fixL s rr)⟩
    | str z =>
      cases e2
      refine .inr (.inr (r σ w ρ m _ _ W E e1 fun w1 v1 x1 W1 r1 => ?_))
      cases r1
      exact ⟨_, rfl, pp w1 _ x1 W1 src_str⟩
    | res k =>
      simp only at e2
      split at e2
      · rename_i ys hm
        cases e2
        refine .inl (r σ w ρ m _ _ W E e1 fun w1 v1 x1 W1 r1 => ?_)
        cases r1 with
        | res hk =>
          obtain ⟨vs, hv, rv⟩ := W1.ok k _ _ hk hm
          exact ⟨_, rfl, ⟨_, .inl (.inl hv)⟩, pp w1 _ x1 W1 (src_live (m1 := m1) hk)⟩
      · cases e2
    | _ => cases e2
  · exact .inl (r σ w ρ m _ _ W E e1 pp)
theorem smallI_iff {i : Int} (h : smallI i = true) : -(2 ^ 62) ≤ i ∧ i < 2 ^ 62 := by simpa [smallI] using h
theorem di_rg1 {tg a : Expr} {x : Dv.E} {p pos : Pos} (hg : C.sc.names.lookup ("range" : Str) = some .globalImplicit) (hm : C.mg "range" = none) (h : DE C a (evE C.g x)) (hs : noStar a = true) : DI C tg (.Call (.Name "range" p) [a] [] pos) (evI C.g (.rg1 x)) := by
  obtain ⟨t, pt, r⟩ := h
  refine ⟨iRng1 (tCons t tNil), fun X ok => pi_range1 (show X.env.scope.names.lookup ("range" : Str) = _ by rw [ok.sc]; exact hg) (by rw [ok.mg]; exact hm) (pa_cons (pt X ok) pa_nil (star1 hs [] _)) (star1 hs [] _), fun σ w ρ m Q o W E e pp => ?_⟩
  simp only [evI] at e
  refine r.toI W E e pp fun d m1 w1 v1 e1 x1 W1 r1 E1 p1 => ?_
  split at e1
  · split at e1
    · rename_i i hi
      cases e1
      cases r1
      obtain ⟨b1, b2⟩ := smallI_iff hi
      have := p1 w1 _ (Ext.refl _) W1 (src_rng (lo := 0) (hi := i))
      rw [Int.sub_zero] at this
      exact ⟨i, rfl, b1, b2, this⟩
    · cases e1
  · cases e1
theorem di_rg2 {tg a b : Expr} {x y : Dv.E} {p pos : Pos} (hg : C.sc.names.lookup ("range" : Str) = some .globalImplicit) (hm : C.mg "range" = none) (h : DE C a (evE C.g x)) (h2 : DE C b (evE C.g y)) (hs : noStar a = true) (hs2 : noStar b = true) :
    DI C tg (.Call (.Name "range" p) [a, b] [] pos) (evI C.g (.rg2 x y)) := by
  obtain ⟨t, pt, r⟩ := h
  obtain ⟨t2, pt2, r2⟩ := h2
  refine ⟨iRng2 (tCons t (tCons t2 tNil)), fun X ok => pi_range2 (show X.env.scope.names.lookup ("range" : Str) = _ by rw [ok.sc]; exact hg) (by rw [ok.mg]; exact hm) (pa_cons (pt X ok) (pa_cons (pt2 X ok) pa_nil (star1 hs2 [] _)) (star1 hs _ _)) (by rw [star1 hs, star1 hs2]; rfl) (star1 hs2 [] _), fun σ w ρ m Q o W E e pp => ?_⟩
  simp only [evI] at e
  refine r.toI W E e pp fun d m1 w1 v1 e1 x1 W1 r1 E1 p1 => ?_
  refine r2.toI W1 E1 e1 p1 fun d2 m2 w2 v2 e2 x2 W2 r2' E2 p2 => ?_
  split at e2
  · split at e2
    · rename_i i j hij
      cases e2
      cases r1
      cases r2'
      rw [Bool.and_eq_true] at hij
      obtain ⟨b1, b2⟩ := smallI_iff hij.1
      obtain ⟨b3, b4⟩ := smallI_iff hij.2
      exact ⟨i, j, rfl, ⟨b1, b2, b3, b4⟩, p2 w2 _ (Ext.refl _) W2 src_rng⟩
    · cases e2
  · cases e2
theorem di_enu {elts : List Expr} {kk : Nat} {tpos : Pos} {a : Expr} {x : Dv.E} {p pos : Pos} (hg : C.sc.names.lookup ("enumerate" : Str) = some .globalImplicit) (hm : C.mg "enumerate" = none) (h : DE C a (evE C.g x)) (hs : noStar a = true) :
    DI C (.Tuple elts kk tpos) (.Call (.Name "enumerate" p) [a] [] pos) (evI C.g (.enu x)) := by
  obtain ⟨t, pt, r⟩ := h
  refine ⟨iEn C.T.K (tCons t tNil), fun X ok => by
    have := pi_en (X := X) (p := p) (pos := pos) (tpos := tpos) (elts := elts) (kk := kk) (show X.env.scope.names.lookup ("enumerate" : Str) = _ by rw [ok.sc]; exact hg) (by rw [ok.mg]; exact hm) (pa_cons (pt X ok) pa_nil (star1 hs [] _)) hs
    rw [ok.K] at this
    exact this, fun σ w ρ m Q o W E e pp => ?_⟩
  simp only [evI] at e
  refine r.toI W E e pp fun d m1 w1 v1 e1 x1 W1 r1 E1 p1 => ?_
  split at e1
  · rename_i xs hx
    cases e1
    obtain ⟨b, q, vs, rfl, hsq, rr⟩ := sqX_of W1 r1 hx
    exact ⟨b, q, vs, rfl, Le.sqX W1.sub hsq, p1 w1 _ (Ext.refl _) W1 (src_en hsq rr)⟩
  · cases e1
theorem di_zip {elts : List Expr} {kk : Nat} {tpos : Pos} {a b : Expr} {x y : Dv.E} {p pos : Pos} (hg : C.sc.names.lookup ("zip" : Str) = some .globalImplicit) (hm : C.mg "zip" = none) (h : DE C a (evE C.g x)) (h2 : DE C b (evE C.g y)) (hs : noStar a = true) (hs2 : noStar b = true) :
    DI C (.Tuple elts kk tpos) (.Call (.Name "zip" p) [a, b] [] pos) (evI C.g (.zip x y)) := by
  obtain ⟨t, pt, r⟩ := h
  obtain ⟨t2, pt2, r2⟩ := h2
  refine ⟨iZn C.T.K (tCons t (tCons t2 tNil)), fun X ok => by
    have := pi_zn (X := X) (p := p) (pos := pos) (tpos := tpos) (elts := elts) (kk := kk) (show X.env.scope.names.lookup ("zip" : Str) = _ by rw [ok.sc]; exact hg) (by rw [ok.mg]; exact hm) (pa_cons (pt X ok) (pa_cons (pt2 X ok) pa_nil (star1 hs2 [] _)) (star1 hs _ _)) hs hs2
    rw [ok.K] at this
    exact this, fun σ w ρ m Q o W E e pp => ?_⟩
  simp only [evI] at e
  refine r.toI W E e pp fun d m1 w1 v1 e1 x1 W1 r1 E1 p1 => ?_
  refine r2.toI W1 E1 e1 p1 fun d2 m2 w2 v2 e2 x2 W2 r2' E2 p2 => ?_
  split at e2
  · rename_i xs ys hx hy
    cases e2
    obtain ⟨b, q, vs, rfl, hsq, rr⟩ := sqX_of W1 r1 hx
    obtain ⟨b', q', vs', rfl, hsq', rr'⟩ := sqX_of W2 r2' hy
    exact ⟨b, b', q, q', vs, vs', rfl, Le.sqX (Le.trans x2.hs W2.sub) hsq, Le.sqX W2.sub hsq', p2 w2 _ (Ext.refl _) W2 (src_zn (Le.sqX x2.hs hsq) (rr.on x2) hsq' rr')⟩
  · cases e2
theorem di_ezp {elts : List Expr} {kk : Nat} {tpos : Pos} {a b : Expr} {x y : Dv.E} {p p2 pos pos2 : Pos} (hg0 : C.sc.names.lookup ("enumerate" : Str) = some .globalImplicit) (hm0 : C.mg "enumerate" = none) (hg : C.sc.names.lookup ("zip" : Str) = some .globalImplicit) (hm : C.mg "zip" = none) (h : DE C a (evE C.g x)) (h2 : DE C b (evE C.g y)) (hs : noStar a = true) (hs2 : noStar b = true) :
    DI C (.Tuple elts kk tpos) (.Call (.Name "enumerate" p) [.Call (.Name "zip" p2) [a, b] [] pos2] [] pos) (evI C.g (.ezp x y)) := by
  obtain ⟨t, pt, r⟩ := h
  obtain ⟨t2, pt2, r2⟩ := h2
  refine ⟨iEz C.T.K (tCons t (tCons t2 tNil)), fun X ok => by
    have := pi_ez (X := X) (p := p) (p2 := p2) (pos := pos) (pos2 := pos2) (tpos := tpos) (elts := elts) (kk := kk) (show X.env.scope.names.lookup ("enumerate" : Str) = _ by rw [ok.sc]; exact hg0) (by rw [ok.mg]; exact hm0) (show X.env.scope.names.lookup ("zip" : Str) = _ by rw [ok.sc]; exact hg) (by rw [ok.mg]; exact hm) (pa_cons (pt X ok) (pa_cons (pt2 X ok) pa_nil (star1 hs2 [] _)) (star1 hs _ _)) hs hs2
    rw [ok.K] at this
    exact this, fun σ w ρ m Q o W E e pp => ?_⟩
  simp only [evI] at e
  refine r.toI W E e pp fun d m1 w1 v1 e1 x1 W1 r1 E1 p1 => ?_
  refine r2.toI W1 E1 e1 p1 fun d2 m2 w2 v2 e2 x2 W2 r2' E2 p2 => ?_
  split at e2
  · rename_i xs ys hx hy
    cases e2
    obtain ⟨b, q, vs, rfl, hsq, rr⟩ := sqX_of W1 r1 hx
    obtain ⟨b', q', vs', rfl, hsq', rr'⟩ := sqX_of W2 r2' hy
    exact ⟨b, b', q, q', vs, vs', rfl, Le.sqX (Le.trans x2.hs W2.sub) hsq, Le.sqX W2.sub hsq', p2 w2 _ (Ext.refl _) W2 (src_ez (Le.sqX x2.hs hsq) (rr.on x2) hsq' rr')⟩
  · cases e2
end
end Dv

namespace Dv
open PySem PySem.Spec PyProof PyProof.Rows L2

/-! ### (a, b, ..) = a list -/
section
variable {prog : Program} {w : World} {A : Around} {E : Value → Shared → Prop} {s : Shared}
theorem draw_lst {it t : Addr} {items : Array Value} (hne : t ≠ it) : ∀ (n i : Nat) (s : Shared) (Q : List Value → Shared → Prop), s.heap.IsListIter it t i → s.heap.IsList t items → i + n ≤ items.size →
    (∀ h', h'.IsListIter it t (i + n) → Heap.SameBut it s.heap h' → Q ((items.toList.drop i).take n) { s with heap := h' }) → wpAny (model prog w) A (draw (.ref it) n) Q E s
  | 0, i, s, Q, hit, _, _, hQ => by
    show wpAny _ _ (pure []) Q E s
    exact wpAny_pure (by simpa using hQ s.heap hit (Heap.SameBut.refl ..))
  | n + 1, i, s, Q, hit, ht, hle, hQ => by
    have hlt : i < items.size := by omega
    show wpAny _ _ (pyNext (.ref it) >>= _) Q E s
    refine wpAny_bind (wpAny_pyNext_list_item hit ht (x := items[i]) (by simp [hlt]) fun h₁ hit₁ hs₁ => ?_)
    refine wpAny_bind (wpAny_holding (draw_lst hne n (i + 1) _ _ hit₁ (ht.extBut hs₁.extBut hne) (by omega) fun h₂ hit₂ hs₂ => wpAny_pure ?_))
    have hd : items.toList.drop i = items[i] :: items.toList.drop (i + 1) := by simp [List.drop_eq_getElem_cons, hlt]
    have := hQ h₂ (by rw [show i + (n + 1) = i + 1 + n by omega]; exact hit₂) (hs₁.trans hs₂)
    rw [hd, List.take_succ_cons] at this
    exact this
theorem unpack_lst {t : Addr} {items : Array Value} {targets : List (Bool × (Value → Sem Unit))} {Q : Unit → Shared → Prop} (hh : A.handled = none) (ht : s.heap.IsList t items)
    (hn : targets.length = items.size) (hstar : targets.findIdx? (·.1) = none)
    (h : ∀ h', Heap.ExtBut s.heap.objs.size s.heap h' → wpAny (model prog w) A (assignInOrder (targets.map (·.2)) items.toList) Q E { s with heap := h' }) :
    wpAny (model prog w) A (unpack (.ref t) targets) Q E s := by
  have hlt : t ≠ s.heap.objs.size := by obtain ⟨o, ho, _⟩ := ht; exact Nat.ne_of_lt (Heap.lt_size ho)
  unfold unpack
  rw [hn, hstar]
  refine wpAny_bind (wpAny_holding ?_)
  unfold unpackItems
  refine wpAny_bind ?_
  unfold notIterableAtAll
  refine wpAny_bind (wpAny_specialOf ht.typeIs slot_list_iter.lookup ?_)
  refine wpAny_pure ?_
  simp only [Bool.false_eq_true, if_false]
  refine wpAny_bind (wpAny_holding (wpAny_pyIter_list ht ?_))
  refine wpAny_bind (wpAny_holding (draw_lst hlt items.size 0 _ _ ⟨_, Heap.get?_push_size _ rfl, rfl, rfl⟩ (ht.push _) (by omega) fun h₁ hit₁ hs₁ => ?_))
  have hall : List.take items.size (List.drop 0 items.toList) = items.toList := by
    rw [List.drop_zero]; exact List.take_of_length_le (by simp)
  rw [hall]
  rw [if_neg (by simp)]
  have ht₁ : h₁.IsList t items := (ht.push _).extBut hs₁.extBut hlt
  refine wpAny_bind (wpAny_holding (wpAny_pyNext_list_end hh hit₁ ht₁ (by simp) fun h₂ he₂ => ?_))
  simp only [Option.isSome_none, Bool.false_eq_true, if_false]
  exact wpAny_pure (h _ fun b o hb e => he₂ b o hb (hs₁.extBut b o hb (Heap.get?_push_of_some _ e)))
end
/-- (a, b, ..) = a tuple or a list of that length -/
def gSeq (K : PySem.W.Frag) (n : Nat) (t : TGs) : TG := fun v σ H Q => ∃ a xs, v = .ref a ∧ (SqT K H a xs ∨ SqL K H a xs) ∧ xs.length = n ∧ t xs σ H Q
theorem pg_seq {X : Cx} {pos : Pos} {es : List Expr} {k : Nat} {t : TGs} {n : Nat} (hc : X.calm = true) (h : PGs X es t)
    (hn : (assignEach es X.env).length = n) (hst : (assignEach es X.env).findIdx? (·.1) = none) : PG X (.Tuple es k pos) (gSeq X.K n t) := by
  refine ⟨fun pins s σ H v u Q I r hw => ?_⟩
  obtain ⟨a, xs, e1, hq | hq, hl, hw⟩ := hw
  · exact (pg_tup (pos := pos) (k := k) hc h hn hst).run pins s σ H v u Q I r ⟨a, xs, e1, hq, hl, hw⟩
  · subst e1
    cases r
    obtain ⟨its, rv, ht, hz⟩ := I.list hq
    rw [assign_Tuple]
    refine wpAny_bind (wpAny_standAt (unpack_lst (I.ok.hd hc) ht.isList (by simp [hn, ← hl, rv.length]) hst fun h' hx => ?_))
    have I1 : Inv X pins σ H { s with heap := h' } := I.kept (t' := s.toks) fun b o e => hx b o (Nat.ne_of_lt (Heap.lt_size e)) e
    exact h.run pins _ σ H xs _ Q I1 (by simpa using rv) hw
end Dv

namespace Dv
open PySem PySem.Spec PyProof.Rows L2

/-! ### targets -/
mutual
def G.ix : G → List Nat
  | .nm i => [i]
  | .tp gs => gs.ix
def Gs.ix : Gs → List Nat
  | .nil => []
  | .cons g r => g.ix ++ r.ix
end
def Gs.len : Gs → Nat
  | .nil => 0
  | .cons _ r => r.len + 1
theorem wipe_set {σ : L2.St} {i : Nat} {x : Option V} : ∀ {vs : List Nat}, i ∈ vs → wipe (σ.set i x) vs = wipe σ vs
  | [], h => by cases h
  | v :: vs, h => by
    show (wipe (σ.set i x) vs).set v none = (wipe σ vs).set v none
    by_cases hi : i ∈ vs
    · rw [wipe_set hi]
    · have e : i = v := by
        rcases List.mem_cons.mp h with h | h
        · exact h
        · exact absurd h hi
      subst e
      have c : ∀ (us : List Nat) (τ : L2.St), i ∉ us → wipe (τ.set i x) us = (wipe τ us).set i x := fun us => by
        induction us with
        | nil => intro τ _; rfl
        | cons u us ih =>
          intro τ hu
          rw [List.mem_cons, not_or] at hu
          show (wipe (τ.set i x) us).set u none = ((wipe τ us).set u none).set i x
          rw [ih τ hu.2, List.set_comm _ _ hu.1]
      rw [c vs σ hi, List.set_set]
theorem wipe_idem {σ : L2.St} : ∀ {vs : List Nat}, wipe (wipe σ vs) vs = wipe σ vs := by
  intro vs
  have key : ∀ us : List Nat, (∀ u ∈ us, u ∈ vs) → wipe (wipe σ us) vs = wipe σ vs := fun us => by
    induction us with
    | nil => intro _; rfl
    | cons u us ih =>
      intro h
      show wipe ((wipe σ us).set u none) vs = _
      rw [wipe_set (h u List.mem_cons_self)]
      exact ih fun x hx => h x (List.mem_cons_of_mem _ hx)
  exact key vs fun _ h => h
def DG (C : Cs) (tg : Expr) (g : G) : Prop := ∃ t, (∀ X, C.Ok X → PG X tg t) ∧
  ∀ (σ : L2.St) (w : Wd) (ρ ρ' : Ro) (m : List R) (v : V) (d : D) (Q : L2.St → Hp → Prop), Wf C.T w m → ER C.T w σ ρ → Rep C.T w.Hs w.al v d → setG g d ρ = some ρ' → (∀ σ', ER C.T w σ' ρ' → (∀ vs : List Nat, (∀ i ∈ g.ix, i ∈ vs) → wipe σ' vs = wipe σ vs) → Q σ' w.H) → t v σ w.H Q
def DGs (C : Cs) (es : List Expr) (g : Gs) : Prop := ∃ t, (∀ X, C.Ok X → PGs X es t) ∧
  ∀ (σ : L2.St) (w : Wd) (ρ ρ' : Ro) (m : List R) (vs : List V) (ds : List D) (Q : L2.St → Hp → Prop), Wf C.T w m → ER C.T w σ ρ → RepL C.T w.Hs w.al vs ds → setGs g ds ρ = some ρ' → (∀ σ', ER C.T w σ' ρ' → (∀ us : List Nat, (∀ i ∈ g.ix, i ∈ us) → wipe σ' us = wipe σ us) → Q σ' w.H) → t vs σ w.H Q
section
variable {C : Cs}
theorem dg_name {i : Nat} {x : Str} {pos : Pos} (hN : C.N[i]? = some x) (hx : Loc C.sc x) (hf : C.fn x = true ∨ C.sc.names.lookup x = some .local) : DG C (.Name x pos) (.nm i) := by
  refine ⟨gName i, fun X ok => pg_name (by rw [ok.N]; exact ok.nd) (by rw [ok.N]; exact hN) (by rw [ok.sc]; exact hx) (by rw [ok.fn, ok.sc]; exact hf), fun σ w ρ ρ' m v d Q W E r e q => ?_⟩
  simp only [setG] at e
  cases e
  exact q _ (E.set i r) fun vs h => wipe_set (h i (by simp [G.ix]))
theorem dgs_nil : DGs C [] .nil := by
  refine ⟨gNil, fun X ok => pgs_nil, fun σ w ρ ρ' m vs ds Q W E r e q => ?_⟩
  cases r with
  | nil =>
    simp only [setGs] at e
    cases e
    exact ⟨rfl, q _ E fun _ _ => rfl⟩
  | cons a b => simp only [setGs] at e; cases e
theorem dgs_cons {e : Expr} {es : List Expr} {g : G} {gs : Gs} (h1 : DG C e g) (h2 : DGs C es gs) (hs : ∀ env, (assignEach (e :: es) env).map (·.2) = assign e env :: (assignEach es env).map (·.2)) : DGs C (e :: es) (.cons g gs) := by
  obtain ⟨t, p, r⟩ := h1
  obtain ⟨u, q, s⟩ := h2
  refine ⟨gCons t u, fun X ok => pgs_cons (p X ok) (q X ok) (hs _), fun σ w ρ ρ' m vs ds Q W E rr e0 k => ?_⟩
  cases rr with
  | nil => simp only [setGs] at e0; cases e0
  | cons a b =>
    simp only [setGs] at e0
    split at e0
    · rename_i ρ1 e1
      refine ⟨_, _, rfl, r σ w ρ ρ1 m _ _ _ W E a e1 fun σ1 E1 w1 => ?_⟩
      refine s σ1 w ρ1 ρ' m _ _ _ W E1 b e0 fun σ2 E2 w2 => k σ2 E2 fun us hu => ?_
      rw [w2 us fun i hi => hu i (by simp [Gs.ix, hi]), w1 us fun i hi => hu i (by simp [Gs.ix, hi])]
    · cases e0
theorem setGs_len : ∀ {g : Gs} {ds : List D} {ρ ρ' : Ro}, setGs g ds ρ = some ρ' → ds.length = g.len
  | .nil, [], _, _, _ => rfl
  | .nil, _ :: _, _, _, e => by simp only [setGs] at e; cases e
  | .cons _ _, [], _, _, e => by simp only [setGs] at e; cases e
  | .cons g r, d :: ds, ρ, ρ', e => by
    simp only [setGs] at e
    split at e
    · rw [List.length_cons, setGs_len e]; rfl
    · cases e
theorem dg_tup {es : List Expr} {gs : Gs} {k : Nat} {pos : Pos} (h : DGs C es gs) (hn : ∀ env, (assignEach es env).length = gs.len) (hst : ∀ env, (assignEach es env).findIdx? (·.1) = none) : DG C (.Tuple es k pos) (.tp gs) := by
  obtain ⟨t, p, r⟩ := h
  refine ⟨gSeq C.T.K gs.len t, fun X ok => by
    have := pg_seq (X := X) (pos := pos) (k := k) ok.calm (p X ok) (hn _) (hst _)
    rw [ok.K] at this
    exact this, fun σ w ρ ρ' m v d Q W E rr e k => ?_⟩
  cases rr with
  | tup s rl =>
    simp only [setG] at e
    exact ⟨_, _, rfl, .inl (Le.sqT W.sub (SqN.sqT s)), by rw [rl.length]; exact setGs_len e, r σ w ρ ρ' m _ _ Q W E rl e k⟩
  | lst s rl =>
    simp only [setG] at e
    exact ⟨_, _, rfl, .inr (SqL.of (W.sub _ _ s)), by rw [rl.length]; exact setGs_len e, r σ w ρ ρ' m _ _ Q W E rl e k⟩
  | _ => simp only [setG] at e; cases e

/-! ### list(range(..)), tuple(range(..)) -/
theorem rgV_rep {T : Tb} {Hs : Hp} {al : List Addr} (a b : Int) : RepL T Hs al (rgV a b) (rngD a b) := by
  unfold rgV rngD
  generalize (b - a).toNat = n
  have : ∀ l : List Nat, RepL T Hs al (l.map fun i => V.int (a + (i : Nat))) (l.map fun (i : Nat) => D.int (a + (i : Int))) := fun l => by
    induction l with
    | nil => exact .nil
    | cons x l ih => exact .cons (.int _) ih
  exact this _
theorem rgOk_of {a b : Int} (h1 : smallI a = true) (h2 : smallI b = true) (h : (rngD a b).length ≤ 4000) : RgOk a b := by
  obtain ⟨p1, p2⟩ := smallI_iff h1
  obtain ⟨p3, p4⟩ := smallI_iff h2
  unfold rngD at h
  rw [List.length_map, List.length_range] at h
  exact ⟨p1, p2, p3, p4, by omega⟩
def DR (C : Cs) (e : Expr) (f : Ro → List R → Option RsI) : Prop := ∃ t, (∀ X, C.Ok X → PRg X e t) ∧
  ∀ (σ : L2.St) (w : Wd) (ρ : Ro) (m : List R) (o : RsI) (R' : Int → Int → Hp → Prop), Wf C.T w m → ER C.T w σ ρ → f ρ m = some o →
    (match o with
      | .ok s m' => ∀ w' a b, Ext w w' → Wf C.T w' m' → s = .fix (rngD a b) → smallI a = true → smallI b = true → R' a b w'.H
      | .ex x m' => ∀ w' cls dd, Ext w w' → Wf C.T w' m' → RepX C.T w' cls dd x → C.W cls dd σ w'.H) → t σ w.H R'
theorem dr_1 {a : Expr} {x : Dv.E} {p pos : Pos} (hg : C.sc.names.lookup ("range" : Str) = some .globalImplicit) (hm : C.mg "range" = none) (h : DE C a (evE C.g x)) (hs : noStar a = true) : DR C (.Call (.Name "range" p) [a] [] pos) (evI C.g (.rg1 x)) := by
  obtain ⟨t, pt, r⟩ := h
  refine ⟨tRg1 t, fun X ok => prg_1 (show X.env.scope.names.lookup ("range" : Str) = _ by rw [ok.sc]; exact hg) (by rw [ok.mg]; exact hm) (pt X ok) (star1 hs [] _), fun σ w ρ m o R' W E e pp => ?_⟩
  simp only [evI] at e
  rcases toI_some e with ⟨d, m1, e1, e2⟩ | ⟨y, m1, e1, rfl⟩
  · split at e2
    · split at e2
      · rename_i i hi
        cases e2
        exact r σ w ρ m _ _ W E e1 fun w1 v1 x1 W1 r1 => by
          cases r1
          exact ⟨i, rfl, pp w1 0 i x1 W1 rfl (by decide) hi⟩
      · cases e2
    · cases e2
  · exact r σ w ρ m _ _ W E e1 pp
theorem dr_2 {a b : Expr} {x y : Dv.E} {p pos : Pos} (hg : C.sc.names.lookup ("range" : Str) = some .globalImplicit) (hm : C.mg "range" = none) (h : DE C a (evE C.g x)) (h2 : DE C b (evE C.g y)) (hs : noStar a = true) (hs2 : noStar b = true) :
    DR C (.Call (.Name "range" p) [a, b] [] pos) (evI C.g (.rg2 x y)) := by
  obtain ⟨t, pt, r⟩ := h
  obtain ⟨t2, pt2, r2⟩ := h2
  refine ⟨tRg2 t t2, fun X ok => prg_2 (show X.env.scope.names.lookup ("range" : Str) = _ by rw [ok.sc]; exact hg) (by rw [ok.mg]; exact hm) (pt X ok) (pt2 X ok) (star1 hs _ _) (star1 hs2 [] _) (stars (by simp [hs2])), fun σ w ρ m o R' W E e pp => ?_⟩
  simp only [evI] at e
  rcases toI_some e with ⟨d, m1, e1, e2⟩ | ⟨z, m1, e1, rfl⟩
  · refine r σ w ρ m _ _ W E e1 fun w1 v1 x1 W1 r1 => ?_
    rcases toI_some e2 with ⟨d2, m2, e3, e4⟩ | ⟨z, m2, e3, rfl⟩
    · split at e4
      · split at e4
        · rename_i i j hij
          cases e4
          rw [Bool.and_eq_true] at hij
          exact r2 σ w1 ρ m1 _ _ W1 (E.on x1) e3 fun w2 v2 x2 W2 r2' => by
            cases r1
            cases r2'
            exact ⟨i, j, rfl, rfl, pp w2 i j (x1.trans x2 W1) W2 rfl hij.1 hij.2⟩
        · cases e4
      · cases e4
    · exact r2 σ w1 ρ m1 _ _ W1 (E.on x1) e3 fun w2 cls dd x2 W2 r2' => pp w2 cls dd (x1.trans x2 W1) W2 r2'
  · exact r σ w ρ m _ _ W E e1 pp
/-- .. the tuple told as it is laid -/
def tTupRgF (te : L2.St → Hp → (Int → Int → Hp → Prop) → Prop) : TE := fun σ H Q => te σ H fun a b H1 => RgOk a b ∧ ∀ q o, H1 q = none → PTo o → Q (.ref q) (upd H1 q (.frz o (.tup (rgV a b))))
theorem pe_tupRgF {X : Cx} {e : Expr} {te : L2.St → Hp → (Int → Int → Hp → Prop) → Prop} {p pos : Pos} (hc : X.calm = true) (hg : Gl X "tuple") (hm : X.mg "tuple" = none) (he : PRg X e te) (na : starEach [e] X.env = (false, eval e X.env) :: starEach [] X.env) : PE X (.Call (.Name "tuple" p) [e] [] pos) (tTupRgF te) := by
  refine ⟨fun pins s σ H Q I hh => ?_⟩
  refine Call_ (ld_blt I hg hm boot_tuple (PyProof.Rows.callWith_type1 (args_cons (thn (he pins s σ H _ I hh) fun x s1 ⟨r, a, b, t, u, v, H1, ex, hr, I1, ok, q⟩ => args_nil ?_) na) na))
  subst ex
  obtain ⟨b1, b2, b3, b4, b5⟩ := ok
  refine call_tuple_range (n := (b - a).toNat) (I1.ok.hd hc) hr (small_one b1 b2 b3 b4) (rangeSize_nat a b) b5 fun h2 tk acc hk hi => ?_
  have I2 : Inv X pins σ H1 { s1 with heap := h2, toks := tk } := I1.kept hk
  have ln : (rgV a b).length ≤ sizeLine := by rw [rgV_length, sizeLine_eq]; omega
  have lay := IsTup.new h2 acc
  have vr := vals_rg hi
  have hl : (h2.push { cls := .type "tuple", data := .seq acc }).get? h2.objs.size = some { cls := .type "tuple", data := .seq acc } := Heap.get?_push_size _ rfl
  have I3 := I2.laid (a := h2.objs.size) (o := .frz { cls := .type "tuple", data := .seq acc } (.tup (rgV a b))) (t' := tk) (fun c o e => Heap.get?_push_of_some _ e) (Nat.le_refl _)
    ⟨hl, ln, acc.toList, vr, by rw [Array.toArray_toList]; exact lay⟩
  exact ⟨.ref h2.objs.size, _, I3, rfl, q _ _ (I2.hok.fresh (Nat.le_refl _)) ⟨acc.toList, by rw [Array.toArray_toList]⟩⟩
theorem new_listW {w : Wd} {m : List R} (W : Wf C.T w m) {vs : List V} {xs : List D} (mu : Bool) (r : RepL C.T w.Hs w.al vs xs) {σ : L2.St} {Q : VK} {p : Addr} (hp : w.H p = none) (q : PostE C.T C.W σ w Q (.ok (newL mu m xs).1 (newL mu m xs).2)) : Q (.ref p) (upd w.H p (.lst vs)) :=
  new_list W r hp q
theorem de_listRg {mu : Bool} {e : Expr} {it : It} {p pos : Pos} (hg : C.sc.names.lookup ("list" : Str) = some .globalImplicit) (hm : C.mg "list" = none) (h : DR C e (evI C.g it)) (hs : noStar e = true) : DE C (.Call (.Name "list" p) [e] [] pos) (evE C.g (.rgl true mu it)) := by
  obtain ⟨t, pt, r⟩ := h
  refine ⟨tLstRg t, fun X ok => pe_listRg ok.calm (show X.env.scope.names.lookup ("list" : Str) = _ by rw [ok.sc]; exact hg) (by rw [ok.mg]; exact hm) (pt X ok) (star1 hs _ _), fun σ w ρ m Q oo W E e0 pp => ?_⟩
  simp only [evE] at e0
  rcases bndI_some e0 with ⟨s, m1, e1, e2⟩ | ⟨x, m1, e1, rfl⟩
  · refine r σ w ρ m _ _ W E e1 fun w1 a b x1 W1 es sa sb => ?_
    subst es
    simp only at e2
    split at e2
    · rename_i hl
      cases e2
      exact ⟨rgOk_of sa sb hl, fun q hq => new_list W1 (rgV_rep a b) hq fun w' v x' W' r' => pp w' v (x1.trans x' W1) W' r'⟩
    · cases e2
  · exact r σ w ρ m _ _ W E e1 pp
theorem de_tupRg {mu : Bool} {e : Expr} {it : It} {p pos : Pos} (hg : C.sc.names.lookup ("tuple" : Str) = some .globalImplicit) (hm : C.mg "tuple" = none) (h : DR C e (evI C.g it)) (hs : noStar e = true) : DE C (.Call (.Name "tuple" p) [e] [] pos) (evE C.g (.rgl false mu it)) := by
  obtain ⟨t, pt, r⟩ := h
  refine ⟨tTupRgF t, fun X ok => pe_tupRgF ok.calm (show X.env.scope.names.lookup ("tuple" : Str) = _ by rw [ok.sc]; exact hg) (by rw [ok.mg]; exact hm) (pt X ok) (star1 hs _ _), fun σ w ρ m Q oo W E e0 pp => ?_⟩
  simp only [evE] at e0
  rcases bndI_some e0 with ⟨s, m1, e1, e2⟩ | ⟨x, m1, e1, rfl⟩
  · refine r σ w ρ m _ _ W E e1 fun w1 a b x1 W1 es sa sb => ?_
    subst es
    simp only at e2
    split at e2
    · rename_i hl
      cases e2
      exact ⟨rgOk_of sa sb hl, fun q o hq ho => new_tup W1 (rgV_rep a b) hq ho fun w' v x' W' r' => pp w' v (x1.trans x' W1) W' r'⟩
    · cases e2
  · exact r σ w ρ m _ _ W E e1 pp
end
end Dv

namespace Dv
open PySem PySem.Spec PyProof.Rows L2

/-! ### comprehensions -/
def Cs.blk (C : Cs) (scope : Scope) : Cs := { C with sc := relS scope C.sc, W := fun _ _ _ _ => False, fn := fun x => scope.names.lookup x == some .cell }
theorem takesF {X : Cx} : Takes X (fun _ _ _ _ => False) := fun _ _ x => by
  obtain ⟨_, _, _, _, _, _, _, _, _, _, _, _, _, _, _, _, z⟩ := x
  exact z.elim
theorem Cs.Ok.blk {C : Cs} {X : Cx} (ok : C.Ok X) {scope : Scope} {s : Shared} {H : Hp} {c : Addr} {cl : List (Str × Addr)} {fp : List Addr} : (C.blk scope).Ok (X.blk s H scope (compEnvC scope cl c X.env) fp) where
  prog := ok.prog
  w := ok.w
  K := ok.K
  mg := ok.mg
  base := ok.base
  N := ok.N
  sc := by
    show relabel scope X.env = relS scope C.sc
    rw [← ok.sc]
    rfl
  nd := ok.nd
  calm := ok.calm
  room := ok.room
  tk := takesF
  fn := rfl
/-- the tests of a comprehension -/
def DTs (C : Cs) (es : List Expr) (f : Ro → List R → Option Rs) : Prop := ∃ t, (∀ X, C.Ok X → PTs X es t) ∧ RunsT C t f
section
variable {C : Cs}
theorem dts_nil : DTs C [] (evE C.g (.cst (.bl true))) := ⟨tYes, fun X ok => pts_nil, fun σ w ρ m Q o W E e p => by
  simp only [evE] at e
  cases e
  obtain ⟨b, hb, q⟩ := p
  cases hb
  exact q w (Ext.refl _) W⟩
theorem dts_one {e : Expr} {f : Ro → List R → Option Rs} (h : DT C e f) : DTs C [e] f := let ⟨t, p, r⟩ := h; ⟨t, fun X ok => pts_one (p X ok), r⟩

/-- a list that is being made, not yet told -/
structure Mak (T : Tb) (w1 w : Wd) (m : List R) (a : Addr) (xs : List D) : Prop where
  ext : Ext w1 w
  wf : Wf T w m
  nal : a ∉ w.al
  nhs : w.Hs a = none
  at_ : ∃ vs, w.H a = some (.lst vs) ∧ RepL T w.Hs w.al vs xs
theorem Mak.start {w1 : Wd} {m : List R} (W : Wf C.T w1 m) {a : Addr} (h : w1.H a = none) : Mak C.T w1 ⟨upd w1.H a (.lst []), w1.Hs, w1.al⟩ m a [] := by
  have hs := W.newS h
  have hn := W.new h
  refine ⟨⟨Le.refl _, ⟨[], by simp, by simp⟩, fun x hx => .inl hx, fun x o hx _ => le_upd h x o hx⟩, ⟨fun x u e => le_upd h x u (W.sub _ _ e), W.len, W.nd, W.off, fun k x r hk hr => ?_⟩, hn, hs, ⟨[], upd_same, .nil⟩⟩
  exact RO.mono (w' := ⟨upd w1.H a (.lst []), w1.Hs, w1.al⟩) (W.ok k x r hk hr) (Le.refl _) (LeA.refl _) fun o e => le_upd h x o e
theorem Mak.on {w1 w w' : Wd} {m m' : List R} {a : Addr} {xs : List D} (M : Mak C.T w1 w m a xs) (e : Ext w w') (W : Wf C.T w' m') : Mak C.T w1 w' m' a xs := by
  obtain ⟨vs, hv, r⟩ := M.at_
  have na : a ∉ w'.al := by
    obtain ⟨l, hl, fl⟩ := e.al
    rw [hl]
    intro hm
    rcases List.mem_append.mp hm with z | z
    · exact M.nal z
    · rw [fl a z] at hv; cases hv
  refine ⟨M.ext.trans e M.wf, W, na, ?_, ⟨vs, e.keep a _ hv M.nal, r.on e⟩⟩
  cases q : w'.Hs a with
  | none => rfl
  | some o =>
    rcases e.fr a (by rw [q]; simp) with z | z
    · exact absurd M.nhs z
    · rw [z] at hv; cases hv
theorem Mak.step {w1 w : Wd} {m : List R} {a : Addr} {xs : List D} {d : D} {v : V} {vs : List V} (M : Mak C.T w1 w m a xs) (h1 : w1.H a = none) (hv : w.H a = some (.lst vs)) (rl : RepL C.T w.Hs w.al vs xs) (r : Rep C.T w.Hs w.al v d) :
    Mak C.T w1 ⟨upd w.H a (.lst (vs ++ [v])), w.Hs, w.al⟩ m a (xs ++ [d]) := by
  have W := M.wf
  refine ⟨⟨M.ext.hs, M.ext.al, M.ext.fr, fun x o hx hn => ?_⟩, ⟨fun x u e => ?_, W.len, W.nd, W.off, fun k x q hk hq => ?_⟩, M.nal, M.nhs, ⟨vs ++ [v], upd_same, rl.append (.one r)⟩⟩
  · have : x ≠ a := fun z => by rw [z, h1] at hx; cases hx
    show upd w.H a _ x = _
    rw [upd_ne this]
    exact M.ext.keep x o hx hn
  · have e : w.Hs x = some u := e
    have : x ≠ a := fun z => by rw [z, M.nhs] at e; cases e
    show upd w.H a _ x = _
    rw [upd_ne this]
    exact W.sub _ _ e
  · have hk : w.al[k]? = some x := hk
    have : x ≠ a := fun z => M.nal (by rw [← z]; exact List.mem_of_getElem? hk)
    exact RO.mono (w' := ⟨upd w.H a (.lst (vs ++ [v])), w.Hs, w.al⟩) (W.ok k x q hk hq) (Le.refl _) (LeA.refl _) fun o e => by
      show upd w.H a _ x = _
      rw [upd_ne this]; exact e
theorem Mak.done {w1 w : Wd} {m : List R} {a : Addr} {xs : List D} {mu : Bool} {Q : VK} (M : Mak C.T w1 w m a xs) (h1 : w1.H a = none)
    (q : ∀ w' v, Ext w1 w' → Wf C.T w' (newL mu m xs).2 → Rep C.T w'.Hs w'.al v (newL mu m xs).1 → Q v w'.H) : Q (.ref a) w.H := by
  have W := M.wf
  obtain ⟨vs, hv, rl⟩ := M.at_
  cases mu
  · have lh : Le w.Hs (upd w.Hs a (.lst vs)) := le_upd M.nhs
    refine q ⟨w.H, upd w.Hs a (.lst vs), w.al⟩ _ ⟨M.ext.hs.trans lh, M.ext.al, fun x hx => ?_, M.ext.keep⟩ ⟨fun x u e => ?_, W.len, W.nd, fun x hx => ?_, fun k x r hk hr => RO.mono (w' := ⟨w.H, upd w.Hs a (.lst vs), w.al⟩) (W.ok k x r hk hr) lh (LeA.refl _) fun o e => e⟩ (.lst (vs := vs) upd_same (rl.mono lh (LeA.refl _)))
    · by_cases z : x = a
      · rw [z]; exact .inr h1
      · have hx : upd w.Hs a (.lst vs) x ≠ none := hx
        rw [upd_ne z] at hx
        exact M.ext.fr x hx
    · have e : upd w.Hs a (.lst vs) x = some u := e
      by_cases z : x = a
      · subst z
        rw [upd_same] at e
        cases e
        exact hv
      · rw [upd_ne z] at e
        exact W.sub _ _ e
    · show upd w.Hs a _ x = none
      rw [upd_ne (fun z => M.nal (by rw [← z]; exact hx))]
      exact W.off x hx
  · obtain ⟨l, hl, fl⟩ := M.ext.al
    refine q ⟨w.H, w.Hs, w.al ++ [a]⟩ _ ⟨M.ext.hs, ⟨l ++ [a], by show w.al ++ [a] = _; rw [hl, List.append_assoc], fun x hx => ?_⟩, M.ext.fr, M.ext.keep⟩ ⟨W.sub, by show (w.al ++ [a]).length = (m ++ [R.lst xs]).length; simp [W.len], ?_, fun x hx => ?_, fun k x r hk hr => ?_⟩ ?_
    · rcases List.mem_append.mp hx with z | z
      · exact fl x z
      · have : x = a := by simpa using z
        rw [this]; exact h1
    · show (w.al ++ [a]).Nodup
      exact List.nodup_append.mpr ⟨W.nd, by simp, fun x hx y hy e => by
        have hy : y = a := by simpa using hy
        subst hy; subst e; exact M.nal hx⟩
    · have hx : x ∈ w.al ++ [a] := hx
      rcases List.mem_append.mp hx with z | z
      · exact W.off x z
      · have : x = a := by simpa using z
        rw [this]; exact M.nhs
    · have hk : (w.al ++ [a])[k]? = some x := hk
      have hr : (m ++ [R.lst xs])[k]? = some r := hr
      by_cases z : k < w.al.length
      · rw [List.getElem?_append_left z] at hk
        rw [List.getElem?_append_left (by rw [← W.len]; exact z)] at hr
        exact RO.mono (w' := ⟨w.H, w.Hs, w.al ++ [a]⟩) (W.ok k x r hk hr) (Le.refl _) (LeA.app _ _) fun o e => e
      · rw [List.getElem?_append_right (by omega)] at hk
        rw [List.getElem?_append_right (by rw [← W.len]; omega)] at hr
        rw [W.len] at hk
        generalize k - m.length = j at hk hr
        cases j with
        | zero =>
          have e1 : a = x := Option.some.inj hk
          have e2 : R.lst xs = r := Option.some.inj hr
          subst e1; subst e2
          exact ⟨vs, hv, rl.mono (Le.refl _) (LeA.app _ _)⟩
        | succ j => simp at hk
    · refine .res (k := m.length) ?_
      show (w.al ++ [a])[m.length]? = some a
      rw [← W.len]
      simp

/-- the item of the next turn -/
def Item (s : Src) (m : List R) (i : Nat) (x : Option D) : Prop := match s with
  | .fix xs => i ≤ xs.length ∧ xs[i]? = x
  | .live k _ => ∃ ys, m[k]? = some (.lst ys) ∧ ys[i]? = x
theorem SrcOk.none {J : L2.It} {w1 w : Wd} {s : Src} {m : List R} {i : Nat} (S : SrcOk C.T J w1 s) (x : Ext w1 w) (W : Wf C.T w m) (h : Item s m i none) : J.stop i w.H := by
  cases s with
  | fix xs =>
    have := List.getElem?_eq_none_iff.mp h.2
    exact (S i w m x W).1 (Nat.le_antisymm h.1 this)
  | live k n =>
    obtain ⟨ys, h1, h2⟩ := h
    exact (S i w m ys x W h1).1 h2
theorem SrcOk.some {J : L2.It} {w1 w : Wd} {s : Src} {m : List R} {i : Nat} {d : D} (S : SrcOk C.T J w1 s) (x : Ext w1 w) (W : Wf C.T w m) (h : Item s m i (some d)) : Turns C.T J w m i d := by
  cases s with
  | fix xs => exact (S i w m x W).2 d h.2
  | live k n =>
    obtain ⟨ys, h1, h2⟩ := h
    exact (S i w m ys x W h1).2 d h2
/-- what is left of a comprehension: i turns gone, n at most to come -/
def CompGo (f : D → List R → Option (Option D × List R)) (s : Src) (i n : Nat) (acc : List D) (m : List R) (o : List D × List R) : Prop := match s with
  | .fix xs => i ≤ xs.length ∧ n = xs.length - i ∧ compL f (xs.drop i) acc m = some o
  | .live k _ => compV f k n i acc m = some o
theorem CompGo.start {f : D → List R → Option (Option D × List R)} {s : Src} {m : List R} {o : List D × List R} (h : compD f s m = some o) : ∃ n, CompGo f s 0 n [] m o := by
  cases s with
  | fix xs => exact ⟨xs.length, Nat.zero_le _, rfl, h⟩
  | live k n => exact ⟨n, h⟩
theorem CompGo.next {f : D → List R → Option (Option D × List R)} {s : Src} {i n : Nat} {acc : List D} {m : List R} {o : List D × List R} (h : CompGo f s i n acc m o) :
    (Item s m i none ∧ o = (acc, m)) ∨ ∃ d n', Item s m i (some d) ∧ n = n' + 1 ∧ ((∃ y m', f d m = some (some y, m') ∧ acc.length < sizeLine ∧ CompGo f s (i + 1) n' (acc ++ [y]) m' o) ∨ ∃ m', f d m = some (none, m') ∧ CompGo f s (i + 1) n' acc m' o) := by
  cases s with
  | fix xs =>
    obtain ⟨hi, hn, h⟩ := h
    cases e : xs[i]? with
    | none =>
      have hl := List.getElem?_eq_none_iff.mp e
      rw [List.drop_eq_nil_of_le hl] at h
      simp only [compL] at h
      cases h
      exact .inl ⟨⟨hi, e⟩, rfl⟩
    | some d =>
      obtain ⟨hl, e'⟩ := List.getElem?_eq_some_iff.mp e
      rw [List.drop_eq_getElem_cons hl, e'] at h
      simp only [compL] at h
      refine .inr ⟨d, xs.length - (i + 1), ⟨hi, e⟩, by omega, ?_⟩
      split at h
      · rename_i y m' e1
        split at h
        · exact .inl ⟨y, m', e1, by assumption, hl, rfl, h⟩
        · cases h
      · rename_i m' e1
        exact .inr ⟨m', e1, hl, rfl, h⟩
      · cases h
  | live k n0 =>
    have h : compV f k n i acc m = some o := h
    unfold compV at h
    split at h
    · rename_i ys hm
      split at h
      · rename_i e
        cases h
        exact .inl ⟨⟨ys, hm, e⟩, rfl⟩
      · rename_i d e
        cases n with
        | zero => cases h
        | succ n' =>
          simp only at h
          refine .inr ⟨d, n', ⟨ys, hm, e⟩, rfl, ?_⟩
          split at h
          · rename_i y m' e1
            split at h
            · exact .inl ⟨y, m', e1, by assumption, h⟩
            · cases h
          · rename_i m' e1
            exact .inr ⟨m', e1, h⟩
          · cases h
    · cases h
theorem de_lc {elt tg iter : Expr} {ifs : List Expr} {scope : Scope} {own : List (Str × Nat)} {pos : Pos} {mu : Bool} {xe xc : Dv.E} {gt : G} {it : It} (hb : blkC C.N C.sc scope own = true) (hi : DI C tg iter (evI C.g it)) (hg : DG (C.blk scope) tg gt) (ht : DTs (C.blk scope) ifs (evE C.g xc)) (he : DE (C.blk scope) elt (evE C.g xe))
    (hix : ∀ i ∈ gt.ix, i ∈ own.map (·.2)) :
    ∃ t, (∀ X, C.Ok X → X.N.Nodup ∧ BlkOk X.N X.env.scope scope own ∧ ∃ wi g tt te, t = tLc wi g tt te (own.map (·.2)) ∧ PI X tg iter wi ∧ (∀ (s : Shared) (H : Hp) (c : Addr) (cl : List (Str × Addr)) (fp : List Addr), PG (X.blk s H scope (compEnvC scope cl c X.env) fp) tg g) ∧
        (∀ (s : Shared) (H : Hp) (c : Addr) (cl : List (Str × Addr)) (fp : List Addr), PTs (X.blk s H scope (compEnvC scope cl c X.env) fp) ifs tt) ∧ ∀ (s : Shared) (H : Hp) (c : Addr) (cl : List (Str × Addr)) (fp : List Addr), PE (X.blk s H scope (compEnvC scope cl c X.env) fp) elt te) ∧
      Runs C t (evE C.g (.cmpr mu xe gt it xc (own.map (·.2)))) := by
  obtain ⟨wi, pi, ri⟩ := hi
  obtain ⟨g, pg, rg⟩ := hg
  obtain ⟨tt, pt, rt⟩ := ht
  obtain ⟨te, pe, re⟩ := he
  refine ⟨tLc wi g tt te (own.map (·.2)), fun X ok => ⟨by rw [ok.N]; exact ok.nd, by rw [ok.N, ok.sc]; exact blkOk_by hb, wi, g, tt, te, rfl, pi X ok, fun s H c cl fp => pg _ ok.blk, fun s H c cl fp => pt _ ok.blk, fun s H c cl fp => pe _ ok.blk⟩, fun σ w ρ m Q oo W E e p => ?_⟩
  simp only [evE] at e
  rcases bndI_some e with ⟨s, m1, e1, e2⟩ | ⟨x, m1, e1, rfl⟩
  · refine ri σ w ρ m _ _ W E e1 fun w1 J x1 W1 S a ha => ?_
    have E1 := E.on x1
    have p1 := p.on x1 W1
    generalize hf : compT gt (own.map (·.2)) (evE C.g xc) (evE C.g xe) ρ = f at e2
    split at e2
    · rename_i ys m2 e3
      obtain ⟨q, eq, rfl⟩ := okP_some e2
      cases eq
      obtain ⟨n0, g0⟩ := CompGo.start e3
      refine ⟨fun i n H => ∃ w2 mm acc, w2.H = H ∧ Mak C.T w1 w2 mm a acc ∧ CompGo f s i n acc mm (ys, m2), ⟨n0, _, m1, [], rfl, Mak.start W1 ha, g0⟩, ?_⟩
      rintro i n H ⟨w2, mm, acc, rfl, M, go⟩
      rcases go.next with ⟨it0, eo⟩ | ⟨d, n', itm, rfl, step⟩
      · cases eo
        exact .inl ⟨S.none M.ext M.wf it0, M.done ha fun w' v x' W' r' => p1 w' v x' W' r'⟩
      · obtain ⟨jgo, jy⟩ := S.some M.ext M.wf itm
        refine .inr ⟨jgo, fun H' => ∃ w2 mm acc, w2.H = H' ∧ Mak C.T w1 w2 mm a acc ∧ CompGo f s (i + 1) n' acc mm (ys, m2), fun H' h => ⟨n', Nat.lt_succ_self _, h⟩, fun v H' hy => ?_⟩
        obtain ⟨w3, rfl, x3, W3, r3⟩ := jy v H' hy
        have M3 := M.on x3 W3
        have E3 : ER C.T w3 (wipe σ (own.map (·.2))) (wipeD ρ (own.map (·.2))) := (E1.on M3.ext).wipe _
        rw [← hf] at step
        simp only [compT] at step
        cases e4 : setG gt d (wipeD ρ (own.map (·.2))) with
        | none => simp [e4] at step
        | some ρ' =>
          simp only [e4] at step
          refine rg _ w3 _ ρ' mm v d _ W3 E3 r3 e4 fun σ2 E4 hw => ⟨?_, ?_⟩
          · rw [hw _ hix]; exact wipe_idem
          cases e5 : evE C.g xc ρ' mm with
          | none => simp [e5] at step
          | some o5 =>
            cases o5 with
            | ex x5 m5 => simp [e5] at step
            | ok d5 m5 =>
              cases d5 with
              | bl b5 =>
                refine rt σ2 w3 ρ' mm _ _ W3 E4 e5 ⟨b5, rfl, fun w5 x5 W5 => ?_⟩
                have M5 := M3.on x5 W5
                cases b5 with
                | false =>
                  simp only [e5] at step
                  show if false = true then _ else _
                  rw [if_neg Bool.false_ne_true]
                  rcases step with ⟨y, m', z, _⟩ | ⟨m', z, k⟩
                  · cases z
                  · cases z
                    exact ⟨w5, _, acc, rfl, M5, by rw [← hf]; exact k⟩
                | true =>
                  simp only [e5] at step
                  show if true = true then _ else _
                  rw [if_pos rfl]
                  cases e6 : evE C.g xe ρ' m5 with
                  | none => simp [e6] at step
                  | some o6 =>
                    cases o6 with
                    | ex x6 m6 => simp [e6] at step
                    | ok d6 m6 =>
                      simp only [e6] at step
                      refine re σ2 w5 ρ' m5 _ _ W5 (E4.on x5) e6 fun w6 v6 x6 W6 r6 => ?_
                      have M6 := M5.on x6 W6
                      obtain ⟨vs, hv, rl⟩ := M6.at_
                      rcases step with ⟨y, m', z, hl, k⟩ | ⟨m', z, _⟩
                      · cases z
                        exact ⟨vs, hv, by rw [rl.length]; exact hl, _, _, _, rfl, M6.step ha hv rl r6, by rw [← hf]; exact k⟩
                      · cases z
              | _ => simp [e5] at step
    · cases e2
  · exact ri σ w ρ m _ _ W E e1 p
/-- .. as a value -/
theorem de_lcE {elt tg iter : Expr} {ifs : List Expr} {scope : Scope} {own : List (Str × Nat)} {pos : Pos} {mu : Bool} {xe xc : Dv.E} {gt : G} {it : It} (hb : blkC C.N C.sc scope own = true) (hi : DI C tg iter (evI C.g it)) (hg : DG (C.blk scope) tg gt) (ht : DTs (C.blk scope) ifs (evE C.g xc)) (he : DE (C.blk scope) elt (evE C.g xe))
    (hix : ∀ i ∈ gt.ix, i ∈ own.map (·.2)) (hs : ∀ env x, foldedSetIterable iter env x = pure x) : DE C (.ListComp elt [⟨tg, iter, ifs, 0⟩] scope pos) (evE C.g (.cmpr mu xe gt it xc (own.map (·.2)))) := by
  obtain ⟨t, p, r⟩ := de_lc (pos := pos) (mu := mu) hb hi hg ht he hix
  refine ⟨t, fun X ok => ?_, r⟩
  obtain ⟨nd, bo, wi, g, tt, te, rfl, h1, h2, h3, h4⟩ := p X ok
  exact pe_lc ok.calm nd h1 bo h2 h3 h4 (hs _)
end
end Dv

namespace Dv
open PySem PySem.Spec PyProof.Rows L2

theorem env_of {env : Env} {sc : Scope} {p : Env → Prop} (h : env.scope = sc) (k : p { env with scope := sc }) : p env := by subst h; exact k
/-! ### statements -/
def PostS (T : Tb) (W : WX) (w : Wd) (D : Ends) : SO → Prop
  | .nx ρ m => ∀ w' σ, Ext w w' → Wf T w' m → ER T w' σ ρ → D.nx σ w'.H
  | .rt d m => ∀ w' v, Ext w w' → Wf T w' m → Rep T w'.Hs w'.al v d → D.rt v w'.H
  | .bk ρ m => ∀ w' σ, Ext w w' → Wf T w' m → ER T w' σ ρ → D.bk σ w'.H
  | .ct ρ m => ∀ w' σ, Ext w w' → Wf T w' m → ER T w' σ ρ → D.ct σ w'.H
  | .ex x ρ m => ∀ w' σ cls dd, Ext w w' → Wf T w' m → ER T w' σ ρ → RepX T w' cls dd x → W cls dd σ w'.H
theorem PostS.on {T : Tb} {W : WX} {w w1 : Wd} {m : List R} {D : Ends} {o : SO} (h : PostS T W w D o) (e : Ext w w1) (V : Wf T w1 m) : PostS T W w1 D o := by
  cases o with
  | nx ρ m' => exact fun w' s e' W' r => h w' s (e.trans e' V) W' r
  | rt ρ m' => exact fun w' s e' W' r => h w' s (e.trans e' V) W' r
  | bk ρ m' => exact fun w' s e' W' r => h w' s (e.trans e' V) W' r
  | ct ρ m' => exact fun w' s e' W' r => h w' s (e.trans e' V) W' r
  | ex x ρ m' => exact fun w' s c d e' W' r k => h w' s c d (e.trans e' V) W' r k
def RunsS (C : Cs) (t : TS) (f : Ro → List R → Option SO) : Prop :=
  ∀ (σ : L2.St) (w : Wd) (ρ : Ro) (m : List R) (D : Ends) (o : SO), Wf C.T w m → ER C.T w σ ρ → f ρ m = some o → PostS C.T C.W w D o → t D σ w.H
def DS (C : Cs) (st : Stmt) (f : Ro → List R → Option SO) : Prop := ∃ t, (∀ X, C.OkS X → PS X st t) ∧ RunsS C t f
def DSs (C : Cs) (sts : List Stmt) (f : Ro → List R → Option SO) : Prop := ∃ t, (∀ X, C.OkS X → PSs X sts t) ∧ RunsS C t f
theorem bndS_some {r : Option Rs} {ρ : Ro} {k : D → List R → Option SO} {o : SO} (e : bndS r ρ k = some o) : (∃ d m, r = some (.ok d m) ∧ k d m = some o) ∨ ∃ x m, r = some (.ex x m) ∧ o = .ex x ρ m := by
  cases r with
  | none => cases e
  | some q =>
    cases q with
    | ok d m => exact .inl ⟨d, m, rfl, e⟩
    | ex x m => cases e; exact .inr ⟨x, m, rfl, rfl⟩
theorem bndSI_some {r : Option RsI} {ρ : Ro} {k : Src → List R → Option SO} {o : SO} (e : bndSI r ρ k = some o) : (∃ d m, r = some (.ok d m) ∧ k d m = some o) ∨ ∃ x m, r = some (.ex x m) ∧ o = .ex x ρ m := by
  cases r with
  | none => cases e
  | some q =>
    cases q with
    | ok d m => exact .inl ⟨d, m, rfl, e⟩
    | ex x m => cases e; exact .inr ⟨x, m, rfl, rfl⟩
section
variable {C : Cs}
theorem Runs.bndS {t : TE} {f : Ro → List R → Option Rs} (h : Runs C t f) {σ : L2.St} {w : Wd} {ρ : Ro} {m : List R} {D : Ends} {o : SO} {k : Dv.D → List R → Option SO} (W : Wf C.T w m) (E : ER C.T w σ ρ) (e : Dv.bndS (f ρ m) ρ k = some o) (p : PostS C.T C.W w D o)
    {R' : VK} (c : ∀ d m1 w1 v1, k d m1 = some o → Ext w w1 → Wf C.T w1 m1 → Rep C.T w1.Hs w1.al v1 d → ER C.T w1 σ ρ → PostS C.T C.W w1 D o → R' v1 w1.H) : t σ w.H R' := by
  rcases bndS_some e with ⟨d, m1, e1, e2⟩ | ⟨x, m1, e1, rfl⟩
  · exact h σ w ρ m R' _ W E e1 fun w1 v1 e' W1 r => c d m1 w1 v1 e2 e' W1 r (E.on e') (p.on e' W1)
  · exact h σ w ρ m R' _ W E e1 fun w1 cls dd e' W1 r => p w1 σ cls dd e' W1 (E.on e') r
theorem RunsT.bndS {t : TT} {f : Ro → List R → Option Rs} (h : RunsT C t f) {σ : L2.St} {w : Wd} {ρ : Ro} {m : List R} {D : Ends} {o : SO} {k : Dv.D → List R → Option SO} (W : Wf C.T w m) (E : ER C.T w σ ρ) (hk : ∀ d m, k d m ≠ none → ∃ b, d = .bl b) (e : Dv.bndS (f ρ m) ρ k = some o) (p : PostS C.T C.W w D o)
    {R' : Bool → Hp → Prop} (c : ∀ b m1 w1, k (.bl b) m1 = some o → Ext w w1 → Wf C.T w1 m1 → ER C.T w1 σ ρ → PostS C.T C.W w1 D o → R' b w1.H) : t σ w.H R' := by
  rcases bndS_some e with ⟨d, m1, e1, e2⟩ | ⟨x, m1, e1, rfl⟩
  · obtain ⟨b, rfl⟩ := hk d m1 (by rw [e2]; simp)
    exact h σ w ρ m R' _ W E e1 ⟨b, rfl, fun w1 e' W1 => c b m1 w1 e2 e' W1 (E.on e') (p.on e' W1)⟩
  · exact h σ w ρ m R' _ W E e1 fun w1 cls dd e' W1 r => p w1 σ cls dd e' W1 (E.on e') r

theorem dss_nil : DSs C [] (evSs C.g .nil) := ⟨tNext, fun X ok => pss_nil, fun σ w ρ m D o W E e p => by
  simp only [evSs] at e
  cases e
  exact p w σ (Ext.refl _) W E⟩
theorem dss_cons {st : Stmt} {sts : List Stmt} {s : S} {r : Ss} (h1 : DS C st (evS C.g s)) (h2 : DSs C sts (evSs C.g r)) : DSs C (st :: sts) (evSs C.g (.cons s r)) := by
  obtain ⟨t, p, k⟩ := h1
  obtain ⟨u, q, j⟩ := h2
  refine ⟨tSeq t u, fun X ok => pss_cons (p X ok) (q X ok), fun σ w ρ m D o W E e pp => ?_⟩
  simp only [evSs] at e
  cases e1 : evS C.g s ρ m with
  | none => rw [e1] at e; cases e
  | some o1 =>
    rw [e1] at e
    refine k σ w ρ m _ o1 W E e1 ?_
    cases o1 with
    | nx ρ1 m1 => exact fun w1 σ1 x1 W1 E1 => j σ1 w1 ρ1 m1 D o W1 E1 e (pp.on x1 W1)
    | rt d m1 => cases e; exact pp
    | bk d m1 => cases e; exact pp
    | ct d m1 => cases e; exact pp
    | ex x d m1 => cases e; exact pp
theorem ds_never {st : Stmt} : DS C st (evS C.g .never) := ⟨tNever, fun X ok => ps_never, fun σ w ρ m D o W E e p => by simp only [evS] at e; cases e⟩
theorem dss_never {sts : List Stmt} : DSs C sts (evSs C.g (.cons .never .nil)) := ⟨tNever, fun X ok => pss_never, fun σ w ρ m D o W E e p => by simp only [evSs, evS] at e; cases e⟩
theorem ds_doc {x : Str} {j : Nat} {p pos : Pos} : DS C (.Expr (.Constant (.str x) j p) pos) (evS C.g .pass) := ⟨tNext, fun X ok => ps_doc, fun σ w ρ m D o W E e p => by
  simp only [evS] at e
  cases e
  exact p w σ (Ext.refl _) W E⟩
theorem ds_pass {pos : Pos} : DS C (.Pass pos) (evS C.g .pass) := ⟨tNext, fun X ok => ps_pass, fun σ w ρ m D o W E e p => by
  simp only [evS] at e
  cases e
  exact p w σ (Ext.refl _) W E⟩
theorem ds_brk {pos : Pos} : DS C (.Break pos) (evS C.g .brk) := ⟨tBreak, fun X ok => ps_break, fun σ w ρ m D o W E e p => by
  simp only [evS] at e
  cases e
  exact p w σ (Ext.refl _) W E⟩
theorem ds_cnt {pos : Pos} : DS C (.Continue pos) (evS C.g .cnt) := ⟨tCont, fun X ok => ps_continue, fun σ w ρ m D o W E e p => by
  simp only [evS] at e
  cases e
  exact p w σ (Ext.refl _) W E⟩
theorem ds_expr {e : Expr} {x : Dv.E} {pos : Pos} (h : DE C e (evE C.g x)) (hs : ∀ env, swapsWith e none pos.line env = pure false) : DS C (.Expr e pos) (evS C.g (.expr x)) := by
  obtain ⟨t, p, r⟩ := h
  refine ⟨tDrop t, fun X ok => ps_expr (p X ok.toOk) (hs _), fun σ w ρ m D o W E e pp => ?_⟩
  simp only [evS] at e
  refine r.bndS W E e pp fun d m1 w1 v1 e1 x1 W1 r1 E1 p1 => ?_
  cases e1
  exact p1 w1 σ (Ext.refl _) W1 E1
theorem ds_ret {e : Expr} {x : Dv.E} {pos : Pos} (h : DE C e (evE C.g x)) : DS C (.Return (some e) pos) (evS C.g (.ret x)) := by
  obtain ⟨t, p, r⟩ := h
  refine ⟨tRet t, fun X ok => ps_ret (p X ok.toOk), fun σ w ρ m D o W E e pp => ?_⟩
  simp only [evS] at e
  refine r.bndS W E e pp fun d m1 w1 v1 e1 x1 W1 r1 E1 p1 => ?_
  cases e1
  exact p1 w1 v1 (Ext.refl _) W1 r1
theorem ds_retN {pos : Pos} : DS C (.Return none pos) (evS C.g .retN) := ⟨tRetN, fun X ok => ps_retN, fun σ w ρ m D o W E e p => by
  simp only [evS] at e
  cases e
  exact p w _ (Ext.refl _) W .non⟩
theorem ds_set {i : Nat} {y : Str} {py pos : Pos} {e : Expr} {x : Dv.E} (hN : C.N[i]? = some y) (hx : Loc C.sc y) (hf : C.fn y = true ∨ C.sc.names.lookup y = some .local) (h : DE C e (evE C.g x)) (hs : ∀ env : Env, swapsWith e (some (.Name y py)) pos.line { env with scope := C.sc } = pure false) :
    DS C (.Assign [.Name y py] e pos) (evS C.g (.asg (.nm i) x)) := by
  obtain ⟨t, p, r⟩ := h
  refine ⟨tAsg t (gName i), fun X ok => ps_set (by rw [ok.N]; exact ok.nd) (by rw [ok.N]; exact hN) (by rw [ok.sc]; exact hx) (p X ok.toOk) (env_of (p := fun e => swapsWith _ _ _ e = pure _) ok.sc (hs _)) (by rw [ok.fn, ok.sc]; exact hf), fun σ w ρ m D o W E e pp => ?_⟩
  simp only [evS] at e
  refine r.bndS W E e pp fun d m1 w1 v1 e1 x1 W1 r1 E1 p1 => ?_
  simp only [setG, Option.map_some] at e1
  cases e1
  exact p1 w1 _ (Ext.refl _) W1 (E1.set i r1)
theorem ds_setLc {i : Nat} {y : Str} {py pos spos : Pos} {elt tg iter : Expr} {ifs : List Expr} {scope : Scope} {own : List (Str × Nat)} {mu : Bool} {xe xc : Dv.E} {gt : G} {it : It} (hN : C.N[i]? = some y) (hy : C.sc.names.lookup y = some .local)
    (hsw : ∀ env : Env, swapsWith (.ListComp elt [⟨tg, iter, ifs, 0⟩] scope pos) (some (.Name y py)) spos.line { env with scope := C.sc } = pure true) (hb : blkC C.N C.sc scope own = true) (hi : DI C tg iter (evI C.g it)) (hg : DG (C.blk scope) tg gt) (ht : DTs (C.blk scope) ifs (evE C.g xc)) (he : DE (C.blk scope) elt (evE C.g xe))
    (hix : ∀ i ∈ gt.ix, i ∈ own.map (·.2)) (hs : ∀ env x, foldedSetIterable iter env x = pure x) : DS C (.Assign [.Name y py] (.ListComp elt [⟨tg, iter, ifs, 0⟩] scope pos) spos) (evS C.g (.asg (.nm i) (.cmpr mu xe gt it xc (own.map (·.2))))) := by
  obtain ⟨t, p, r⟩ := de_lc (pos := pos) (mu := mu) hb hi hg ht he hix
  refine ⟨tAsg t (gName i), fun X ok => ?_, fun σ w ρ m D o W E e pp => ?_⟩
  · obtain ⟨nd, bo, wi, g, tt, te, rfl, h1, h2, h3, h4⟩ := p X ok.toOk
    exact ps_setLc ok.calm nd (by rw [ok.N]; exact hN) (by rw [ok.sc]; exact hy) (env_of (p := fun e => swapsWith _ _ _ e = pure _) ok.sc (hsw _)) h1 bo h2 h3 h4 (hs _)
  · simp only [evS] at e
    refine r.bndS W E e pp fun d m1 w1 v1 e1 x1 W1 r1 E1 p1 => ?_
    simp only [setG, Option.map_some] at e1
    cases e1
    exact p1 w1 _ (Ext.refl _) W1 (E1.set i r1)
theorem ds_asg {tg e : Expr} {x : Dv.E} {g : G} {pos : Pos} (h : DE C e (evE C.g x)) (hg : DG C tg g) (hs : ∀ env : Env, swapsWithSole [tg] e pos.line { env with scope := C.sc } = pure false) (hw : ∀ env : Env, swappedStores [tg] e { env with scope := C.sc } = pure none) (h1 : ∀ env, (assignEach [tg] env).map (·.2) = [assign tg env]) :
    DS C (.Assign [tg] e pos) (evS C.g (.asg g x)) := by
  obtain ⟨t, p, r⟩ := h
  obtain ⟨u, q, k⟩ := hg
  refine ⟨tAsg t u, fun X ok => ps_asg (p X ok.toOk) (q X ok.toOk) (env_of (p := fun e => swapsWithSole _ _ _ e = pure _) ok.sc (hs _)) (env_of (p := fun e => swappedStores _ _ e = pure _) ok.sc (hw _)) (h1 _), fun σ w ρ m D o W E e pp => ?_⟩
  simp only [evS] at e
  refine r.bndS W E e pp fun d m1 w1 v1 e1 x1 W1 r1 E1 p1 => ?_
  cases e2 : setG g d ρ with
  | none => rw [e2] at e1; cases e1
  | some ρ' =>
    rw [e2] at e1
    cases e1
    exact k σ w1 ρ ρ' m1 v1 d _ W1 E1 r1 e2 fun σ' E' _ => p1 w1 σ' (Ext.refl _) W1 E'
theorem ds_par {i j : Nat} {x y : Str} {a b : Expr} {xa xb : Dv.E} {px py pt pos : Pos} {kt k2 : Nat} {pt2 : Pos} (hi : C.N[i]? = some x) (hj : C.N[j]? = some y) (hij : i ≠ j) (hx : C.sc.names.lookup x = some .local) (hy : C.sc.names.lookup y = some .local)
    (ha : DE C a (evE C.g xa)) (hb : DE C b (evE C.g xb)) (hsa : noStar a = true) (hsb : noStar b = true) (hw : ∀ env : Env, swappedStores [.Tuple [.Name x px, .Name y py] kt pt] (.Tuple [a, b] k2 pt2) { env with scope := C.sc } = pure (some [x, y])) (hs : ∀ env : Env, swapsWithSole [.Tuple [.Name x px, .Name y py] kt pt] (.Tuple [a, b] k2 pt2) pos.line { env with scope := C.sc } = pure false) :
    DS C (.Assign [.Tuple [.Name x px, .Name y py] kt pt] (.Tuple [a, b] k2 pt2) pos) (evS C.g (.asg (.tp (.cons (.nm i) (.cons (.nm j) .nil))) (.tup (.cons xa (.cons xb .nil))))) := by
  obtain ⟨t, pt, r⟩ := da_cons ha (da_cons hb da_nil hsb) hsa
  refine ⟨tPar i j t, fun X ok => ps_par ok.calm (by rw [ok.N]; exact ok.nd) (by rw [ok.N]; exact hi) (by rw [ok.N]; exact hj) hij (by rw [ok.sc]; exact hx) (by rw [ok.sc]; exact hy) (pt X ok.toOk) (env_of (p := fun e => swappedStores _ _ e = pure _) ok.sc (hw _)) (env_of (p := fun e => swapsWithSole _ _ _ e = pure _) ok.sc (hs _)), fun σ w ρ m D o W E e pp => ?_⟩
  simp only [evS] at e
  have key : ∃ ol, evL C.g (.cons xa (.cons xb .nil)) ρ m = some ol ∧ match ol with
      | .ok ds m1 => ∃ d1 d2, ds = [d1, d2] ∧ o = .nx ((ρ.set i (some d1)).set j (some d2)) m1
      | .ex z m1 => o = .ex z ρ m1 := by
    rcases bndS_some e with ⟨d, m1, e1, e2⟩ | ⟨z, m1, e1, rfl⟩
    · simp only [evE] at e1
      rcases bndL_some e1 with ⟨ds, m2, e3, e4⟩ | ⟨z, m2, e3, e4⟩
      · refine ⟨_, e3, ?_⟩
        split at e4
        · cases e4
          have hl := evL_len _ _ _ _ e3
          match ds, hl with
          | [d1, d2], _ =>
            simp only [setG, setGs, Option.map_some] at e2
            cases e2
            exact ⟨d1, d2, rfl, rfl⟩
        · cases e4
      · cases e4
    · simp only [evE] at e1
      rcases bndL_some e1 with ⟨ds, m2, e3, e4⟩ | ⟨z2, m2, e3, e4⟩
      · split at e4 <;> cases e4
      · cases e4
        exact ⟨_, e3, rfl⟩
  obtain ⟨ol, e1, e2⟩ := key
  refine r σ w ρ m _ ol W E e1 ?_
  cases ol with
  | ok ds m1 =>
    obtain ⟨d1, d2, rfl, rfl⟩ := e2
    intro w1 vs x1 W1 rl
    obtain ⟨v1, v2, rfl, r1, r2⟩ := rl.two
    exact ⟨v1, v2, rfl, pp w1 _ x1 W1 (((E.on x1).set i r1).set j r2)⟩
  | ex z m1 =>
    subst e2
    exact fun w1 cls dd x1 W1 rx => pp w1 σ cls dd x1 W1 (E.on x1) rx
theorem ds_aug {i : Nat} {y : Str} {e : Expr} {x : Dv.E} {py pos : Pos} {o : Bop} (ho : o = .add ∨ o = .sub) (hN : C.N[i]? = some y) (hx : Loc C.sc y) (hf : C.fn y = true ∨ C.sc.names.lookup y = some .local) (h : DE C e (evE C.g x)) : DS C (.AugAssign (.Name y py) (oprB o) e pos) (evS C.g (.aug i o x)) := by
  obtain ⟨t, p, r⟩ := h
  have key : ∃ f : Int → Int → Int, (∀ X, PIp X (oprB o) (ipI f)) ∧ ∀ a b z, augD o a b = some z → ∃ i j, a = .int i ∧ b = .int j ∧ z = .int (f i j) := by
    rcases ho with rfl | rfl
    · refine ⟨_, fun X => ip_add, fun a b z hz => ?_⟩
      cases a <;> cases b <;> simp only [augD] at hz <;> first | cases hz | skip
      exact ⟨_, _, rfl, rfl, rfl⟩
    · refine ⟨_, fun X => ip_sub, fun a b z hz => ?_⟩
      cases a <;> cases b <;> simp only [augD] at hz <;> first | cases hz | skip
      exact ⟨_, _, rfl, rfl, rfl⟩
  obtain ⟨f, hp, hd⟩ := key
  refine ⟨tAug i t (ipI f), fun X ok => ps_aug (by rw [ok.N]; exact ok.nd) (by rw [ok.N]; exact hN) (by rw [ok.sc]; exact hx) (p X ok.toOk) (hp X) (by rw [ok.fn, ok.sc]; exact hf), fun σ w ρ m D oo W E e pp => ?_⟩
  simp only [evS] at e
  split at e
  · rename_i a ha
    obtain ⟨v, hv, rv⟩ := E.2 i a ha
    refine ⟨v, hv, r.bndS W E e pp fun d m1 w1 v1 e1 x1 W1 r1 E1 p1 => ?_⟩
    cases hz : augD o a d with
    | none => rw [hz] at e1; cases e1
    | some z =>
      rw [hz] at e1
      cases e1
      obtain ⟨i1, j1, rfl, rfl, rfl⟩ := hd _ _ _ hz
      cases rv
      cases r1
      exact ⟨_, _, rfl, rfl, p1 w1 _ (Ext.refl _) W1 (E1.set i (.int _))⟩
  · cases e
theorem ds_if {c : Expr} {a b : List Stmt} {xc : Dv.E} {xa xb : Ss} {pos : Pos} (hc : DT C c (evE C.g xc)) (ha : DSs C a (evSs C.g xa)) (hb : DSs C b (evSs C.g xb)) : DS C (.If c a b pos) (evS C.g (.ifs xc xa xb)) := by
  obtain ⟨tc, pc, rc⟩ := hc
  obtain ⟨ta, pa, ra⟩ := ha
  obtain ⟨tb, pb, rb⟩ := hb
  refine ⟨tIfS tc ta tb, fun X ok => ps_if (pc X ok.toOk) (pa X ok) (pb X ok), fun σ w ρ m D o W E e pp => ?_⟩
  simp only [evS] at e
  refine rc.bndS W E (fun d m hd => ?_) e pp fun b m1 w1 e1 x1 W1 E1 p1 => ?_
  · split at hd
    · exact ⟨_, rfl⟩
    · exact ⟨_, rfl⟩
    · exact absurd rfl hd
  · cases b with
    | true => exact ra σ w1 ρ m1 D o W1 E1 e1 p1
    | false => exact rb σ w1 ρ m1 D o W1 E1 e1 p1
theorem ds_while {n : Nat} {c : Expr} {b : List Stmt} {xc : Dv.E} {xb : Ss} {pos : Pos} (hc : DT C c (evE C.g xc)) (hb : DSs C b (evSs C.g xb)) : DS C (.While c b [] pos) (evS C.g (.whl n xc xb)) := by
  obtain ⟨tc, pc, rc⟩ := hc
  obtain ⟨tb, pb, rb⟩ := hb
  refine ⟨tWhile tc tb, fun X ok => ps_while ok.own (pc X ok.toOk) (pb X ok), fun σ w ρ m D o W E e pp => ?_⟩
  simp only [evS] at e
  refine ⟨fun k σ H => ∃ w1 ρ1 m1, w1.H = H ∧ Ext w w1 ∧ Wf C.T w1 m1 ∧ ER C.T w1 σ ρ1 ∧ whlD (evE C.g xc) (evSs C.g xb) k ρ1 m1 = some o, ⟨n, w, ρ, m, rfl, Ext.refl _, W, E, e⟩, ?_⟩
  rintro k σ1 H1 ⟨w1, ρ1, m1, rfl, x1, W1, E1, e1⟩
  have p1 := pp.on x1 W1
  cases k with
  | zero => simp only [whlD] at e1; cases e1
  | succ k =>
    simp only [whlD] at e1
    refine rc.bndS W1 E1 (fun d m hd => ?_) e1 p1 fun b m2 w2 e2 x2 W2 E2 p2 => ?_
    · split at hd
      · exact ⟨_, rfl⟩
      · exact ⟨_, rfl⟩
      · exact absurd rfl hd
    · cases b with
      | false =>
        simp only at e2
        cases e2
        show if false = true then _ else _
        rw [if_neg Bool.false_ne_true]
        exact p2 w2 σ1 (Ext.refl _) W2 E2
      | true =>
        simp only at e2
        show if true = true then _ else _
        rw [if_pos rfl]
        refine ⟨fun σ H => ∃ w1 ρ1 m1, w1.H = H ∧ Ext w w1 ∧ Wf C.T w1 m1 ∧ ER C.T w1 σ ρ1 ∧ whlD (evE C.g xc) (evSs C.g xb) k ρ1 m1 = some o, fun σ' H' h => ⟨k, Nat.lt_succ_self _, h⟩, ?_⟩
        cases e3 : evSs C.g xb ρ1 m2 with
        | none => rw [e3] at e2; cases e2
        | some o3 =>
          rw [e3] at e2
          refine rb σ1 w2 ρ1 m2 _ o3 W2 E2 e3 ?_
          cases o3 with
          | nx ρ3 m3 => exact fun w3 σ3 x3 W3 E3 => ⟨w3, ρ3, m3, rfl, x1.trans (x2.trans x3 W2) W1, W3, E3, e2⟩
          | ct ρ3 m3 => exact fun w3 σ3 x3 W3 E3 => ⟨w3, ρ3, m3, rfl, x1.trans (x2.trans x3 W2) W1, W3, E3, e2⟩
          | bk ρ3 m3 => cases e2; exact p2
          | rt d m3 => cases e2; exact p2
          | ex z ρ3 m3 => cases e2; exact p2
/-- what is left of a loop -/
def ForGo (f : Dv.D → Ro → List R → Option SO) (s : Src) (i n : Nat) (ρ : Ro) (m : List R) (o : SO) : Prop := match s with
  | .fix xs => i ≤ xs.length ∧ n = xs.length - i ∧ forF f (xs.drop i) ρ m = some o
  | .live k _ => forV f k n i ρ m = some o
theorem ForGo.start {f : Dv.D → Ro → List R → Option SO} {s : Src} {ρ : Ro} {m : List R} {o : SO} (h : forD f s ρ m = some o) : ∃ n, ForGo f s 0 n ρ m o := by
  cases s with
  | fix xs => exact ⟨xs.length, Nat.zero_le _, rfl, h⟩
  | live k n => exact ⟨n, h⟩
/-- .. after a turn -/
def ForAft (f : Dv.D → Ro → List R → Option SO) (s : Src) (i n : Nat) (o : SO) : SO → Prop
  | .nx ρ m => ForGo f s i n ρ m o
  | .ct ρ m => ForGo f s i n ρ m o
  | .bk ρ m => o = .nx ρ m
  | .rt d m => o = .rt d m
  | .ex x ρ m => o = .ex x ρ m
theorem ForGo.next {f : Dv.D → Ro → List R → Option SO} {s : Src} {i n : Nat} {ρ : Ro} {m : List R} {o : SO} (h : ForGo f s i n ρ m o) :
    (Item s m i none ∧ o = .nx ρ m) ∨ ∃ d n' o1, Item s m i (some d) ∧ n = n' + 1 ∧ f d ρ m = some o1 ∧ ForAft f s (i + 1) n' o o1 := by
  cases s with
  | fix xs =>
    obtain ⟨hi, hn, h⟩ := h
    cases e : xs[i]? with
    | none =>
      have hl := List.getElem?_eq_none_iff.mp e
      rw [List.drop_eq_nil_of_le hl] at h
      simp only [forF] at h
      cases h
      exact .inl ⟨⟨hi, e⟩, rfl⟩
    | some d =>
      obtain ⟨hl, e'⟩ := List.getElem?_eq_some_iff.mp e
      rw [List.drop_eq_getElem_cons hl, e'] at h
      simp only [forF] at h
      cases e1 : f d ρ m with
      | none => rw [e1] at h; cases h
      | some o1 =>
        rw [e1] at h
        refine .inr ⟨d, xs.length - (i + 1), o1, ⟨hi, e⟩, by omega, e1, ?_⟩
        cases o1 with
        | nx ρ1 m1 => exact ⟨hl, rfl, h⟩
        | ct ρ1 m1 => exact ⟨hl, rfl, h⟩
        | bk ρ1 m1 => cases h; rfl
        | rt d1 m1 => cases h; rfl
        | ex z ρ1 m1 => cases h; rfl
  | live k n0 =>
    have h : forV f k n i ρ m = some o := h
    unfold forV at h
    split at h
    · rename_i ys hm
      split at h
      · rename_i e
        cases h
        exact .inl ⟨⟨ys, hm, e⟩, rfl⟩
      · rename_i d e
        cases n with
        | zero => cases h
        | succ n' =>
          simp only at h
          cases e1 : f d ρ m with
          | none => rw [e1] at h; cases h
          | some o1 =>
            rw [e1] at h
            refine .inr ⟨d, n', o1, ⟨ys, hm, e⟩, rfl, e1, ?_⟩
            cases o1 with
            | nx ρ1 m1 => exact h
            | ct ρ1 m1 => exact h
            | bk ρ1 m1 => cases h; rfl
            | rt d1 m1 => cases h; rfl
            | ex z ρ1 m1 => cases h; rfl
    · cases h
theorem ds_for {tg iter : Expr} {b : List Stmt} {g : G} {it : It} {xb : Ss} {pos : Pos} (hi : DI C tg iter (evI C.g it)) (hg : DG C tg g) (hb : DSs C b (evSs C.g xb)) (hs : ∀ env x, foldedSetIterable iter env x = pure x) : DS C (.For tg iter b [] pos) (evS C.g (.forr g it xb)) := by
  obtain ⟨wi, pi, ri⟩ := hi
  obtain ⟨tg', pg, rg⟩ := hg
  obtain ⟨tb, pb, rb⟩ := hb
  refine ⟨tFor wi tg' tb, fun X ok => ps_for ok.own ok.calm (pi X ok.toOk) (pg X ok.toOk) (pb X ok) (hs _), fun σ w ρ m D o W E e pp => ?_⟩
  simp only [evS] at e
  rcases bndSI_some e with ⟨s, m1, e1, e2⟩ | ⟨z, m1, e1, rfl⟩
  · refine ri σ w ρ m _ _ W E e1 fun w1 J x1 W1 S => ?_
    obtain ⟨n0, g0⟩ := ForGo.start e2
    refine ⟨fun i n σ H => ∃ w2 ρ2 m2, w2.H = H ∧ Ext w1 w2 ∧ Wf C.T w2 m2 ∧ ER C.T w2 σ ρ2 ∧ ForGo _ s i n ρ2 m2 o, ⟨n0, w1, ρ, m1, rfl, Ext.refl _, W1, E.on x1, g0⟩, ?_⟩
    rintro i n σ2 H2 ⟨w2, ρ2, m2, rfl, x2, W2, E2, go⟩
    have p2 := pp.on (x1.trans x2 W1) W2
    rcases go.next with ⟨it0, rfl⟩ | ⟨d, n', o1, itm, rfl, e3, aft⟩
    · exact .inl ⟨S.none x2 W2 it0, p2 w2 σ2 (Ext.refl _) W2 E2⟩
    · obtain ⟨jgo, jy⟩ := S.some x2 W2 itm
      refine .inr ⟨jgo, fun σ H => ∃ w2 ρ2 m2, w2.H = H ∧ Ext w1 w2 ∧ Wf C.T w2 m2 ∧ ER C.T w2 σ ρ2 ∧ ForGo _ s (i + 1) n' ρ2 m2 o, fun σ' H' h => ⟨n', Nat.lt_succ_self _, h⟩, fun v H' hy => ?_⟩
      obtain ⟨w3, rfl, x3, W3, r3⟩ := jy v H' hy
      unfold bodyD at e3
      split at e3
      · rename_i ρ' e4
        refine rg σ2 w3 ρ2 ρ' m2 v d _ W3 (E2.on x3) r3 e4 fun σ4 E4 _ => ?_
        refine rb σ4 w3 ρ' m2 _ o1 W3 E4 e3 ?_
        cases o1 with
        | nx ρ5 m5 => exact fun w5 σ5 x5 W5 E5 => ⟨w5, ρ5, m5, rfl, x2.trans (x3.trans x5 W3) W2, W5, E5, aft⟩
        | ct ρ5 m5 => exact fun w5 σ5 x5 W5 E5 => ⟨w5, ρ5, m5, rfl, x2.trans (x3.trans x5 W3) W2, W5, E5, aft⟩
        | bk ρ5 m5 => cases aft; exact p2.on x3 W3
        | rt d m5 => cases aft; exact p2.on x3 W3
        | ex z ρ5 m5 => cases aft; exact p2.on x3 W3
      · cases e3
  · exact ri σ w ρ m _ _ W E e1 fun w1 cls dd x1 W1 rx => pp w1 σ cls dd x1 W1 (E.on x1) rx
theorem resL_rep {T : Tb} {w : Wd} {m : List R} (W : Wf T w m) {v : V} {d : Dv.D} {k : Nat} {ys : List Dv.D} (r : Rep T w.Hs w.al v d) (h : resL m d = some (k, ys)) : ∃ a vs, v = .ref a ∧ w.al[k]? = some a ∧ w.H a = some (.lst vs) ∧ RepL T w.Hs w.al vs ys ∧ m[k]? = some (.lst ys) := by
  cases r with
  | res hk =>
    simp only [resL] at h
    split at h
    · rename_i zs hm
      cases h
      obtain ⟨vs, hv, rl⟩ := W.ok _ _ _ hk hm
      exact ⟨_, vs, rfl, hk, hv, rl, hm⟩
    · cases h
  | _ => simp only [resL] at h; cases h
theorem ds_sti {o i e : Expr} {xo xi x : Dv.E} {p pos : Pos} (h : DE C e (evE C.g x)) (ho : DE C o (evE C.g xo)) (hi : DE C i (evE C.g xi)) (ha : ∀ env v, assign (.Subscript o i p) env v = (do
      let ov ← holding [v] (eval o env)
      let iv ← holding [v, ov] (eval i env)
      standAt p
      holding [v, ov, iv] (setItem ov iv v)
      release [v, ov, iv] [])) (hs : ∀ env : Env, swapsWithSole [.Subscript o i p] e pos.line { env with scope := C.sc } = pure false) (hw : ∀ env : Env, swappedStores [.Subscript o i p] e { env with scope := C.sc } = pure none) (h1 : ∀ env, (assignEach [.Subscript o i p] env).map (·.2) = [assign (.Subscript o i p) env]) :
    DS C (.Assign [.Subscript o i p] e pos) (evS C.g (.sti xo xi x)) := by
  obtain ⟨t, pt, r⟩ := h
  obtain ⟨to, po, ro⟩ := ho
  obtain ⟨ti, pi, ri⟩ := hi
  refine ⟨tAsg t (gSub to ti rSetL), fun X ok => ps_asg (pt X ok.toOk) (pg_sub (po X ok.toOk) (pi X ok.toOk) set_list (ha _)) (env_of (p := fun e => swapsWithSole _ _ _ e = pure _) ok.sc (hs _)) (env_of (p := fun e => swappedStores _ _ e = pure _) ok.sc (hw _)) (h1 _), fun σ w ρ m D oo W E e pp => ?_⟩
  simp only [evS] at e
  refine r.bndS W E e pp fun d m1 w1 v1 e1 x1 W1 r1 E1 p1 => ?_
  refine ro.bndS W1 E1 e1 p1 fun d2 m2 w2 v2 e2 x2 W2 r2 E2 p2 => ?_
  refine ri.bndS W2 E2 e2 p2 fun d3 m3 w3 v3 e3 x3 W3 r3 E3 p3 => ?_
  cases hz : stiD m3 d2 d3 d with
  | none => rw [hz] at e3; cases e3
  | some m4 =>
    rw [hz] at e3
    cases e3
    unfold stiD at hz
    split at hz
    · rename_i z
      split at hz
      · rename_i k ys hk
        split at hz
        · rename_i j hj
          cases hz
          cases r3
          obtain ⟨a, vs, rfl, hal, hH, rl, hm⟩ := resL_rep W3 (r2.on x3) hk
          refine ⟨a, vs, z, j, rfl, rfl, hH, by rw [rl.length]; exact hj, ?_⟩
          have r1' := (r1.on x2).on x3
          obtain ⟨W4, x4⟩ := W3.st (o := .lst (vs.set j v1)) (r := .lst (ys.set j d)) hal ⟨vs.set j v1, by show upd w3.H a _ a = _; rw [upd_same], rl.set j r1'⟩
          exact p3 _ σ x4 W4 (E3.on x4)
        · cases hz
      · cases hz
    · cases hz
theorem putF_keys {f : Str} {v : V} {d : Dv.D} : ∀ {fs : List (Str × V)} {gs : List (Str × Dv.D)}, fs.map (·.1) = gs.map (·.1) → (L2.putF f v fs).map (·.1) = (putD f d gs).map (·.1)
  | [], [], _ => rfl
  | [], _ :: _, h => by cases h
  | _ :: _, [], h => by cases h
  | (a, x) :: fs, (b, y) :: gs, h => by
    rw [List.map_cons, List.map_cons] at h
    injection h with h1 h2
    have h1 : a = b := h1
    subst h1
    unfold L2.putF putD
    by_cases e : a = f
    · rw [if_pos e, if_pos e, List.map_cons, List.map_cons, h2]
    · rw [if_neg e, if_neg e, List.map_cons, List.map_cons, putF_keys h2]
theorem putF_vals {T : Tb} {Hs : Hp} {al : List Addr} {f : Str} {v : V} {d : Dv.D} (rv : Rep T Hs al v d) : ∀ {fs : List (Str × V)} {gs : List (Str × Dv.D)}, fs.map (·.1) = gs.map (·.1) → RepL T Hs al (fs.map (·.2)) (gs.map (·.2)) → RepL T Hs al ((L2.putF f v fs).map (·.2)) ((putD f d gs).map (·.2))
  | [], [], _, _ => .one rv
  | [], _ :: _, h, _ => by cases h
  | _ :: _, [], h, _ => by cases h
  | (a, x) :: fs, (b, y) :: gs, h, r => by
    rw [List.map_cons, List.map_cons] at h r
    injection h with h1 h2
    have h1 : a = b := h1
    subst h1
    cases r with
    | cons r1 r2 =>
      unfold L2.putF putD
      by_cases e : a = f
      · rw [if_pos e, if_pos e]
        exact .cons rv r2
      · rw [if_neg e, if_neg e]
        exact .cons r1 (putF_vals rv h2 r2)
theorem ds_stf {o e : Expr} {f : Str} {xo x : Dv.E} {p pos : Pos} (hA : AttOk C f) (hnm : C.g.nm = C.T.nm) (h : DE C e (evE C.g x)) (ho : DE C o (evE C.g xo)) (hs : ∀ env : Env, swapsWith e (some (.Attribute o f p)) pos.line { env with scope := C.sc } = pure false) :
    DS C (.Assign [.Attribute o f p] e pos) (evS C.g (.stf xo f x)) := by
  obtain ⟨t, pt, r⟩ := h
  obtain ⟨to, po, ro⟩ := ho
  refine ⟨sFld C.T.K to t f, fun X ok => by
    have := ps_fld (pos := pos) (f := f) (pos' := p) (po X ok.toOk) (pt X ok.toOk) (env_of (p := fun e => swapsWith _ _ _ e = pure _) ok.sc (hs _))
    rw [ok.K] at this
    exact this, fun σ w ρ m D oo W E e pp => ?_⟩
  simp only [evS] at e
  refine r.bndS W E e pp fun d m1 w1 v1 e1 x1 W1 r1 E1 p1 => ?_
  refine ro.bndS W1 E1 e1 p1 fun d2 m2 w2 v2 e2 x2 W2 r2 E2 p2 => ?_
  cases hz : stfD C.g m2 d2 f d with
  | none => rw [hz] at e2; cases e2
  | some m4 =>
    rw [hz] at e2
    cases e2
    unfold stfD at hz
    split at hz
    · rename_i k
      split at hz
      · rename_i c gs hm
        split at hz
        · rename_i hc
          cases hz
          obtain ⟨h1, h2, h3⟩ := hc
          cases r2 with
          | res hk =>
            rename_i a
            obtain ⟨dx, fs, hH, hn, hr⟩ := W2.ok k _ _ hk hm
            rw [hnm] at h2
            obtain ⟨c1, c2⟩ := hA.2.2 c (by simpa using h3) (by simpa using h2)
            have hl : fs.length = gs.length := by simpa using congrArg List.length hn
            refine ⟨a, C.T.cl c, dx, fs, rfl, hH, c1, c2, by omega, ?_⟩
            have r1' := r1.on x2
            obtain ⟨W4, x4⟩ := W2.st (o := .ins (C.T.cl c) dx (L2.putF f v1 fs)) (r := .obj c (putD f d gs)) hk ⟨dx, L2.putF f v1 fs, by show upd w2.H a _ a = _; rw [upd_same], putF_keys hn, putF_vals r1' hn hr⟩
            exact p2 _ σ x4 W4 (E2.on x4)
        · cases hz
      · cases hz
    · cases hz
end
end Dv

namespace Dv
open PySem PySem.Spec PyProof.Rows L2

/-! ### what a def gives back: its own things let go -/
mutual
/-- only things below n are named -/
def okD (n : Nat) : D → Bool
  | .res k => decide (k < n)
  | .tup xs => okDL n xs
  | .lst xs => okDL n xs
  | .ext xs => okDL n xs
  | .obj _ xs => okDL n xs
  | _ => true
def okDL (n : Nat) : List D → Bool
  | [] => true
  | x :: xs => okD n x && okDL n xs
end
def okR (n : Nat) : R → Bool
  | .lst xs => okDL n xs
  | .obj _ fs => okDL n (fs.map (·.2))
def okM (n : Nat) : List R → Bool
  | [] => true
  | r :: rs => okR n r && okM n rs
def allO (f : D → Option D) : List D → Option (List D)
  | [] => some []
  | x :: xs => match f x, allO f xs with
    | some y, some ys => some (y :: ys)
    | _, _ => none
/-- own lists and instances told as what no longer changes -/
def conv (nm : Nat → List Str) (n : Nat) (m : List R) : Nat → D → Option D
  | 0, d => if okD n d then some d else none
  | f + 1, d => if okD n d then some d else match d with
    | .res k => match m[k]? with
      | some (.lst xs) => (allO (conv nm n m f) xs).map .lst
      | some (.obj c fs) => if fs.map (·.1) = nm c then (allO (conv nm n m f) (fs.map (·.2))).map (.obj c) else none
      | none => none
    | .tup xs => (allO (conv nm n m f) xs).map .tup
    | .lst xs => (allO (conv nm n m f) xs).map .lst
    | .obj c xs => (allO (conv nm n m f) xs).map (.obj c)
    | _ => none
/-- m: what stood at the start (n things); m': at the end -/
noncomputable def fin (nm : Nat → List Str) (m m' : List R) (d : D) : Option Rs :=
  open Classical in if m'.take m.length = m ∨ okM m.length (m'.take m.length) = true then (conv nm m.length m' 6 d).map fun d' => .ok d' (m'.take m.length) else none

mutual
theorem Rep.okD {T : Tb} {Hs : Hp} {al : List Addr} : ∀ {v : V} {d : D}, Rep T Hs al v d → Dv.okD al.length d = true
  | _, _, .non => by simp only [Dv.okD]
  | _, _, .bl b => by simp only [Dv.okD]
  | _, _, .int b => by simp only [Dv.okD]
  | _, _, .str b => by simp only [Dv.okD]
  | _, _, .tup s r => by simp only [Dv.okD]; exact RepL.okDL r
  | _, _, .lst s r => by simp only [Dv.okD]; exact RepL.okDL r
  | _, _, .ext s r => by simp only [Dv.okD]; exact RepL.okDL r
  | _, _, .obj s n r => by simp only [Dv.okD]; exact RepL.okDL r
  | _, _, .res e => by simp only [Dv.okD]; exact decide_eq_true (List.getElem?_eq_some_iff.mp e).1
theorem RepL.okDL {T : Tb} {Hs : Hp} {al : List Addr} : ∀ {v : List V} {d : List D}, RepL T Hs al v d → Dv.okDL al.length d = true
  | _, _, .nil => by simp only [Dv.okDL]
  | _, _, .cons r t => by simp only [Dv.okDL, Bool.and_eq_true]; exact ⟨Rep.okD r, RepL.okDL t⟩
end
mutual
theorem Rep.cut {T : Tb} {Hs Hs' : Hp} {al : List Addr} {n : Nat} (h : Le Hs Hs') : ∀ {v : V} {d : D}, Rep T Hs al v d → Dv.okD n d = true → Rep T Hs' (al.take n) v d
  | _, _, .non, _ => .non
  | _, _, .bl b, _ => .bl b
  | _, _, .int b, _ => .int b
  | _, _, .str b, _ => .str b
  | _, _, .tup s r, o => .tup (h.sqN s) (RepL.cut' h r (by simpa only [Dv.okD] using o))
  | _, _, .lst s r, o => .lst (h _ _ s) (RepL.cut' h r (by simpa only [Dv.okD] using o))
  | _, _, .ext s r, o => .ext (h.sqL s) (RepL.cut' h r (by simpa only [Dv.okD] using o))
  | _, _, .obj s n r, o => .obj (h _ _ s) n (RepL.cut' h r (by simpa only [Dv.okD] using o))
  | _, _, .res e, o => .res (by
    have : _ < n := of_decide_eq_true (by simpa only [Dv.okD] using o)
    rw [List.getElem?_take, if_pos this]; exact e)
theorem RepL.cut' {T : Tb} {Hs Hs' : Hp} {al : List Addr} {n : Nat} (h : Le Hs Hs') : ∀ {v : List V} {d : List D}, RepL T Hs al v d → Dv.okDL n d = true → RepL T Hs' (al.take n) v d
  | _, _, .nil, _ => .nil
  | _, _, .cons r t, o => by
    simp only [Dv.okDL, Bool.and_eq_true] at o
    exact .cons (Rep.cut h r o.1) (RepL.cut' h t o.2)
end
theorem okM_get {n : Nat} : ∀ {m : List R} {k : Nat} {r : R}, okM n m = true → m[k]? = some r → okR n r = true
  | [], _, _, _, e => by simp at e
  | r :: rs, 0, _, h, e => by
    simp only [okM, Bool.and_eq_true] at h
    cases e
    exact h.1
  | r :: rs, k + 1, _, h, e => by
    simp only [okM, Bool.and_eq_true] at h
    exact okM_get h.2 (k := k) e
theorem Wf.okM {T : Tb} {w : Wd} {m : List R} (W : Wf T w m) : ∀ (k : Nat) (r : R), m[k]? = some r → okR m.length r = true := fun k r hr => by
  obtain ⟨a, ha, ro⟩ := W.at hr
  have hl := W.len
  cases r with
  | lst xs =>
    obtain ⟨vs, _, rl⟩ := ro
    have := rl.okDL
    rw [hl] at this
    exact this
  | obj c fs =>
    obtain ⟨dx, vfs, _, _, rl⟩ := ro
    have := rl.okDL
    rw [hl] at this
    exact this
/-- the world with what the def made told as frozen -/
def Wd.drop (w : Wd) (n : Nat) : Wd := ⟨w.H, fun a => if a ∈ w.al.drop n then w.H a else w.Hs a, w.al.take n⟩
theorem Wd.drop_le {T : Tb} {w : Wd} {m : List R} (W : Wf T w m) (n : Nat) : Le w.Hs (w.drop n).Hs := fun a o e => by
  show (if a ∈ w.al.drop n then w.H a else w.Hs a) = some o
  split
  · exact W.sub _ _ e
  · exact e
theorem RO.cut {T : Tb} {w : Wd} {m : List R} (W : Wf T w m) {n : Nat} {a : Addr} {r : R} (h : RO T w a r) (o : okR n r = true) : RO T (w.drop n) a r := by
  cases r with
  | lst xs =>
    obtain ⟨vs, e, q⟩ := h
    exact ⟨vs, e, RepL.cut' (Wd.drop_le W n) q o⟩
  | obj c fs =>
    obtain ⟨dx, vfs, e, k, q⟩ := h
    exact ⟨dx, vfs, e, k, RepL.cut' (Wd.drop_le W n) q o⟩
theorem allO_rep {T : Tb} {Hs Hs' : Hp} {al al' : List Addr} {f : D → Option D} (h : ∀ v d d', Rep T Hs al v d → f d = some d' → Rep T Hs' al' v d') : ∀ {vs : List V} {ds ds' : List D}, RepL T Hs al vs ds → allO f ds = some ds' → RepL T Hs' al' vs ds'
  | _, _, _, .nil, e => by cases e; exact .nil
  | _, _, _, .cons r t, e => by
    simp only [allO] at e
    split at e
    · rename_i y ys h1 h2
      cases e
      exact .cons (h _ _ _ r h1) (allO_rep h t h2)
    · cases e
theorem conv_rep {T : Tb} {w : Wd} {m : List R} (W : Wf T w m) {n : Nat} : ∀ (f : Nat) (v : V) (d d' : D), Rep T w.Hs w.al v d → conv T.nm n m f d = some d' → Rep T (w.drop n).Hs (w.drop n).al v d'
  | 0, v, d, d', r, e => by
    simp only [conv] at e
    split at e
    · cases e
      exact Rep.cut (Wd.drop_le W n) r (by assumption)
    · cases e
  | f + 1, v, d, d', r, e => by
    simp only [conv] at e
    split at e
    · cases e
      exact Rep.cut (Wd.drop_le W n) r (by assumption)
    · rename_i hno
      have ih : ∀ {vs : List V} {ds ds' : List D}, RepL T w.Hs w.al vs ds → allO (conv T.nm n m f) ds = some ds' → RepL T (w.drop n).Hs (w.drop n).al vs ds' := fun r e => allO_rep (fun v d d' => conv_rep W f v d d') r e
      cases r with
      | @res a k hk =>
        simp only at e
        have hin : a ∈ w.al.drop n := by
          have hkn : n ≤ k := by simpa [Dv.okD] using hno
          refine List.mem_of_getElem? (i := k - n) ?_
          rw [List.getElem?_drop]
          rw [show n + (k - n) = k by omega]
          exact hk
        have hH : (w.drop n).Hs a = w.H a := if_pos hin
        split at e
        · rename_i xs hm
          obtain ⟨vs, hv, rl⟩ := W.ok k a _ hk hm
          cases h2 : allO (conv T.nm n m f) xs with
          | none => rw [h2] at e; cases e
          | some ys =>
            rw [h2] at e
            cases e
            exact .lst (hH.trans hv) (ih rl h2)
        · rename_i c fs hm
          obtain ⟨dx, vfs, hv, hn, rl⟩ := W.ok k a _ hk hm
          split at e
          · rename_i hnm
            cases h2 : allO (conv T.nm n m f) (fs.map (·.2)) with
            | none => rw [h2] at e; cases e
            | some ys =>
              rw [h2] at e
              cases e
              exact .obj (hH.trans hv) (hn.trans hnm) (ih rl h2)
          · cases e
        · cases e
      | tup s rl =>
        simp only at e
        cases h2 : allO (conv T.nm n m f) _ with
        | none => rw [h2] at e; cases e
        | some ys =>
          rw [h2] at e
          cases e
          exact .tup ((Wd.drop_le W n).sqN s) (ih rl h2)
      | lst s rl =>
        simp only at e
        cases h2 : allO (conv T.nm n m f) _ with
        | none => rw [h2] at e; cases e
        | some ys =>
          rw [h2] at e
          cases e
          exact .lst ((Wd.drop_le W n) _ _ s) (ih rl h2)
      | obj s hn rl =>
        simp only at e
        cases h2 : allO (conv T.nm n m f) _ with
        | none => rw [h2] at e; cases e
        | some ys =>
          rw [h2] at e
          cases e
          exact .obj ((Wd.drop_le W n) _ _ s) hn (ih rl h2)
      | _ => cases e
theorem drop_wf {T : Tb} {w w' : Wd} {m m' : List R} (W : Wf T w m) (x : Ext w w') (W' : Wf T w' m') (h : m'.take m.length = m ∨ Dv.okM m.length (m'.take m.length) = true) : Wf T (w'.drop m.length) (m'.take m.length) ∧ Ext w (w'.drop m.length) := by
  obtain ⟨l, hl, fl⟩ := x.al
  have ht : w'.al.take m.length = w.al := by
    rw [hl, ← W.len]
    simp
  have hd : w'.al.drop m.length = l := by
    rw [hl, ← W.len]
    simp
  have hlen : m.length ≤ m'.length := by
    rw [← W.len, ← W'.len, hl]; simp
  refine ⟨⟨fun a o e => ?_, ?_, ?_, fun a ha => ?_, fun k a r hk hr => ?_⟩, ⟨x.hs.trans (Wd.drop_le W' _), ⟨[], by show w'.al.take m.length = _; rw [ht]; simp, by simp⟩, fun a ha => ?_, x.keep⟩⟩
  · have e : (if a ∈ w'.al.drop m.length then w'.H a else w'.Hs a) = some o := e
    split at e
    · exact e
    · exact W'.sub _ _ e
  · show (w'.al.take m.length).length = _
    rw [ht, W.len, List.length_take]
    omega
  · show (w'.al.take m.length).Nodup
    rw [ht]; exact W.nd
  · have ha : a ∈ w'.al.take m.length := ha
    show (if a ∈ w'.al.drop m.length then w'.H a else w'.Hs a) = none
    have hn : a ∉ w'.al.drop m.length := fun z => by
      have nd := W'.nd
      rw [← List.take_append_drop m.length w'.al] at nd
      exact (List.nodup_append.mp nd).2.2 a ha a z rfl
    rw [if_neg hn]
    exact W'.off a (List.mem_of_mem_take ha)
  · have hk : (w'.al.take m.length)[k]? = some a := hk
    rw [List.getElem?_take] at hk hr
    split at hk
    · rename_i hkn
      rw [if_pos hkn] at hr
      refine RO.cut W' (W'.ok k a r hk hr) ?_
      rcases h with h | h
      · refine W.okM k r ?_
        rw [← h, List.getElem?_take, if_pos hkn]
        exact hr
      · exact okM_get h (k := k) (by rw [List.getElem?_take, if_pos hkn]; exact hr)
    · cases hk
  · have ha : (if a ∈ w'.al.drop m.length then w'.H a else w'.Hs a) ≠ none := ha
    split at ha
    · rename_i z
      rw [hd] at z
      exact .inr (fl a z)
    · exact x.fr a ha
theorem fin_rep {T : Tb} {w w' : Wd} {m m' : List R} {d : D} {o : Rs} {v : V} (W : Wf T w m) (x : Ext w w') (W' : Wf T w' m') (r : Rep T w'.Hs w'.al v d) (h : fin T.nm m m' d = some o) : ∃ d' m2 w2, o = .ok d' m2 ∧ w2.H = w'.H ∧ Ext w w2 ∧ Wf T w2 m2 ∧ Rep T w2.Hs w2.al v d' := by
  unfold fin at h
  split at h
  · rename_i hc
    cases e : conv T.nm m.length m' 6 d with
    | none => rw [e] at h; cases h
    | some d' =>
      rw [e] at h
      cases h
      obtain ⟨W2, x2⟩ := drop_wf W x W' hc
      exact ⟨d', _, w'.drop m.length, rfl, rfl, x2, W2, conv_rep W' 6 v d d' r e⟩
  · cases h

/-! ### defs -/
/-- what a def's body gives: fz, whether its own things are told as frozen at its end -/
noncomputable def runD (g : Gt) (N : Nat) (b : Ss) (fz : Bool) (ds : List D) (m : List R) : Option Rs := match evSs g b (ds.map some ++ List.replicate (N - ds.length) none) m with
  | some (.rt d m') => if fz then fin g.nm m m' d else some (.ok d m')
  | some (.nx _ m') => if fz then fin g.nm m m' .non else some (.ok .non m')
  | some (.ex x _ m') => some (.ex x m')
  | _ => none
theorem start_er {T : Tb} {w : Wd} {N : List Str} {vs : List V} {ds : List D} (r : RepL T w.Hs w.al vs ds) : ER T w (L2.start N vs) (ds.map some ++ List.replicate (N.length - ds.length) none) := by
  have hl := r.length
  refine ⟨by unfold L2.start; simp [hl], fun i d hd => ?_⟩
  have hi : i < ds.length := by
    by_cases h : i < ds.length
    · exact h
    · rw [List.getElem?_append_right (by rw [List.length_map]; omega), List.getElem?_replicate] at hd
      split at hd <;> cases hd
  rw [List.getElem?_append_left (by rw [List.length_map]; exact hi), List.getElem?_map] at hd
  cases h2 : ds[i]? with
  | none => rw [h2] at hd; cases hd
  | some e =>
    rw [h2] at hd
    cases hd
    obtain ⟨v, h3, h4⟩ := r.get h2
    refine ⟨v, ?_, h4⟩
    unfold L2.start
    rw [List.getElem?_append_left (by rw [List.length_map]; exact (List.getElem?_eq_some_iff.mp h3).1), List.getElem?_map, h3]
    rfl
/-- where a def's body stands, of level L -/
def Cs.at (C : Cs) (N : List Str) (sc : Scope) (E : XK) : Cs := { C with N := N, sc := sc, W := fun cls d _ H => E cls d H, fn := fun _ => true }
/-- a def as it stands behind the top, whatever its defaults -/
structure FnD (K : PySem.W.Frag) (x qual : Str) (st : Stmt) (f : Addr) (fd : FuncData) : Prop where
  ex : ∃ (oc : Value) (od : Option Addr) (dV kV doc pm : Value) (an : Option Addr) (cdv ct : Value) (osl : Array (Option Value)),
    fd = PySem.W.fnOf x qual (defArgs st) (defBody st) (defScope st) dV kV doc pm an cdv ct ∧ K.lookup f = some ⟨oc, od, .func fd, osl⟩ ∧ PySem.W.codeIn K cdv qual = true
theorem FnD.okX {P : Program} {w : World} {K : PySem.W.Frag} {mg : Str → Option Value} {base : Heap} {x qual : Str} {st : Stmt} {f : Addr} {fd : FuncData} {N ps : List Str} {k : Nat} {sp : Sp} (F : FnD K x qual st f fd) (S : FnScope N ps (defScope st)) (len : ∀ vs H Q E, sp vs H Q E → vs.length = ps.length)
    (hbody : ∀ (cdv : Value) (A : Around) (outer : List Env) (s : Shared) (H : Hp) (vs : List V) (Q : VK) (E : XK), Room k (A.deeper (envOfC qual (defScope st) s.heap.objs.size f cdv)) → sp vs H Q E →
      ∃ t, PSs (cxOf (L2.CX P w) P w K mg base N qual (defScope st) f cdv A outer s H E) (defBody st) t ∧ t { nx := fun _ H' => Q .non H', rt := Q } (start N vs) H) : FnOk P w K mg base (L2.CX P w) (k + 1) f fd ps sp := by
  obtain ⟨oc, od, dV, kV, doc, pm, an, cdv, ct, osl, rfl, lk, hcd⟩ := F.ex
  exact fn_of lk hcd S len fun A outer s H vs Q E hr hsp => hbody cdv A outer s H vs Q E hr hsp
theorem fun_d {K : PySem.W.Frag} {x qual : Str} {st : Stmt} {f : Addr} {fd : FuncData} (F : L2.Fun K x qual st f fd) : FnD K x qual st f fd :=
  let ⟨oc, od, kV, doc, pm, an, cdv, ct, osl, e, lk, hcd⟩ := F.ex
  ⟨⟨oc, od, .none, kV, doc, pm, an, cdv, ct, osl, e, lk, hcd⟩⟩
/-- a def by its body: its own things told as frozen at its end (fz), or not -/
theorem def_ok (C : Cs) {x qual : Str} {st : Stmt} {f : Addr} {fd : FuncData} {N ps : List Str} {b : Ss} {fz : Bool} (F : FnD C.T.K x qual st f fd) (S : FnScope N ps (defScope st)) (hnm : C.g.nm = C.T.nm) (hb : ∀ E : XK, DSs (C.at N (defScope st) E) (defBody st) (evSs C.g b)) :
    FnOk C.P C.w C.T.K C.mg C.base (L2.CX C.P C.w) (C.L + 1) f fd ps (fun vs H Q E => vs.length = ps.length ∧ spD C.T (runD C.g N.length b fz) vs H Q E) := by
  refine F.okX S (fun vs H Q E h => h.1) fun cdv A outer s H vs Q E hr h => ?_
  obtain ⟨t, pt, rt⟩ := hb E
  obtain ⟨hl, w, ds, m, o, rfl, W, r, e, p⟩ := h
  refine ⟨t, pt _ ⟨⟨rfl, rfl, rfl, rfl, rfl, rfl, rfl, S.nd, rfl, hr, takes_of rfl rfl rfl rfl, rfl⟩, passes_of rfl⟩, ?_⟩
  unfold runD at e
  cases e1 : evSs C.g b (ds.map some ++ List.replicate (N.length - ds.length) none) m with
  | none => rw [e1] at e; cases e
  | some o1 =>
    rw [e1] at e
    refine rt _ w _ m _ o1 W (start_er r) e1 ?_
    have go : ∀ (d : D) (m' : List R) (w' : Wd) (v : V), (if fz then fin C.g.nm m m' d else some (Rs.ok d m')) = some o → Ext w w' → Wf C.T w' m' → Rep C.T w'.Hs w'.al v d → Q v w'.H := fun d m' w' v e x' W' r' => by
      cases fz with
      | true =>
        rw [if_pos rfl, hnm] at e
        obtain ⟨d2, m2, w2, rfl, hH, x2, W2, r2⟩ := fin_rep W x' W' r' e
        rw [← hH]
        exact p w2 v x2 W2 r2
      | false =>
        rw [if_neg Bool.false_ne_true] at e
        cases e
        exact p w' v x' W' r'
    cases o1 with
    | rt d m' => exact fun w' v x' W' r' => go d m' w' v e x' W' r'
    | nx ρ m' => exact fun w' σ x' W' _ => go .non m' w' .non e x' W' .non
    | ex x ρ m' =>
      cases e
      exact fun w' σ cls dd x' W' _ rx => p w' cls dd x' W' rx
    | bk ρ m' => cases e
    | ct ρ m' => cases e
/-- .. as a def that is called: its defaults told by dvs, dds -/
theorem fnE_of {C : Cs} {x : Str} {k n i : Nat} {f : Addr} {fd : FuncData} {ps : List Str} {F : List D → List R → Option Rs} {ds : List Value} {dvs : List V} {dds : List D} (G : FnOk C.P C.w C.T.K C.mg C.base (L2.CX C.P C.w) k f fd ps (fun vs H Q E => vs.length = ps.length ∧ spD C.T F vs H Q E)) (hk : k ≤ C.L) (hm : C.mg x = some (.ref f))
    (kp : PySem.W.keepIn C.T.K (.ref f) = true) (hb : Binds C.T.K fd ps ds) (hd : Vals dvs ds) (hdd : ∀ Hs al, RepL C.T Hs al dvs dds) (hn : n + dds.length = ps.length) (hg : ∀ as m, as.length = n → C.g.F i as m = F (as ++ dds) m) : FnE C x n i := by
  refine ⟨k, f, fd, ps, _, ds, dvs, G, hk, hm, kp, hb, hd, fun vs H Q E hl h => ?_⟩
  obtain ⟨w, as, m, o, rfl, W, r, e, p⟩ := h
  have l1 := r.length
  have l2 := (hdd w.Hs w.al).length
  refine ⟨by rw [List.length_append]; omega, w, as ++ dds, m, o, rfl, W, r.append (hdd _ _), ?_, p⟩
  rw [← hg as m (by omega)]
  exact e
theorem fnE_0 {C : Cs} {x : Str} {k n i : Nat} {f : Addr} {fd : FuncData} {ps : List Str} (G : FnOk C.P C.w C.T.K C.mg C.base (L2.CX C.P C.w) k f fd ps (fun vs H Q E => vs.length = ps.length ∧ spD C.T (C.g.F i) vs H Q E)) (hk : k ≤ C.L) (hm : C.mg x = some (.ref f))
    (kp : PySem.W.keepIn C.T.K (.ref f) = true) (hb : Binds C.T.K fd ps []) (hn : n = ps.length) : FnE C x n i :=
  fnE_of (dds := []) G hk hm kp hb .nil (fun _ _ => .nil) (by simpa using hn) fun as m _ => by rw [List.append_nil]
end Dv

namespace Dv
open PySem PySem.Spec PyProof.Rows L2

/-! ### names of the module, constants of a class -/
inductive Fixed : D → V → Prop
  | non : Fixed .non .non
  | bl (b : Bool) : Fixed (.bl b) (.bl b)
  | int (i : Int) : Fixed (.int i) (.int i)
  | str (x : Str) : Fixed (.str x) (.str x)
theorem Fixed.rep {T : Tb} {Hs : Hp} {al : List Addr} {d : D} {v : V} (h : Fixed d v) : Rep T Hs al v d := by
  cases h
  · exact .non
  · exact .bl _
  · exact .int _
  · exact .str _
section
variable {C : Cs}
theorem de_glob {x : Str} {d : D} {v : V} {u : Value} {pos : Pos} (hg : C.sc.names.lookup x = some .globalImplicit) (hm : C.mg x = some u) (r : RelV v u) (f : Fixed d v) (hd : (x == ("__debug__" : Str)) = false) : DE C (.Name x pos) (evE C.g (.cst d)) :=
  ⟨_, fun X ok => pe_glob (show X.env.scope.names.lookup x = _ by rw [ok.sc]; exact hg) (by rw [ok.mg]; exact hm) r hd, fun σ w ρ m Q o W E e p => by simp only [evE] at e; cases e; exact p.here W f.rep⟩
/-- C.f, a constant of a class of the text -/
def CvE (C : Cs) (x f : Str) (d : D) : Prop := ∃ a mc v u, C.mg x = some (.ref a) ∧ ClX.CRead C.T.K a mc ∧ ClX.CVal C.T.K a mc f v u ∧ Fixed d v
theorem de_cval {x f : Str} {d : D} {p pos : Pos} (hg : C.sc.names.lookup x = some .globalImplicit) (h : CvE C x f d) (hd : (x == ("__debug__" : Str)) = false) : DE C (.Attribute (.Name x p) f pos) (evE C.g (.cst d)) := by
  obtain ⟨a, mc, v, u, hm, h1, h2, h3⟩ := h
  refine ⟨_, fun X ok => by
    have := ClX.pe_cval (X := X) (f := f) (pos := pos) (pe_glob (pos := p) (show X.env.scope.names.lookup x = _ by rw [ok.sc]; exact hg) (by rw [ok.mg]; exact hm) (v := .ref a) rfl hd) rfl
    rw [ok.K] at this
    exact this, fun σ w ρ m Q o W E e p => ?_⟩
  simp only [evE] at e
  cases e
  exact ⟨a, mc, v, u, rfl, h1, h2, p.here W h3.rep⟩

/-! ### instances -/
/-- an instance made: its __init__ runs, then (fz) it is told as frozen -/
noncomputable def mkD (nm : Nat → List Str) (fz : Bool) (F : List D → List R → Option Rs) (c : Nat) (ds : List D) (m : List R) : Option Rs := match F (.res m.length :: ds) (m ++ [.obj c []]) with
  | some (.ok .non m') => if fz then fin nm m m' (.res m.length) else some (.ok (.res m.length) m')
  | some (.ex x m') => some (.ex x m')
  | _ => none
theorem Wf.un {T : Tb} {w : Wd} {m : List R} (W : Wf T w m) {p : Addr} (o : HO) (h : w.H p = none) : Wf T ⟨upd w.H p o, w.Hs, w.al⟩ m ∧ Ext w ⟨upd w.H p o, w.Hs, w.al⟩ :=
  ⟨⟨fun x u e => le_upd h x u (W.sub _ _ e), W.len, W.nd, W.off, fun k x r hk hr => RO.mono (w' := ⟨upd w.H p o, w.Hs, w.al⟩) (W.ok k x r hk hr) (Le.refl _) (LeA.refl _) fun u e => le_upd h x u e⟩,
    ⟨Le.refl _, ⟨[], by simp, by simp⟩, fun x hx => .inl hx, fun x u hx _ => le_upd h x u hx⟩⟩
theorem run_mkSD {X : Cx} {CX : CXT} {k : Nat} {f c : Addr} {fd : FuncData} {ps : List Str} {sp : Sp} {dvs : List V} {ds : List Value} {E : L2.St → XK} {pins : List (Addr × Obj)} {σ : L2.St} {H : Hp} {s : Shared} {Q : VK} {us : List Value} {vs : List V} (M : Mk X.K c f)
    (F : FnOk X.prog X.w X.K X.mg X.base CX k f fd ps sp) (hr : Room (k + 1) X.A) (hb : Binds X.K fd ps ds) (hd : Vals dvs ds) (hx : PassesAt CX X σ (E σ)) (I : Inv X pins σ H s) (r : Vals vs us)
    (h : ∀ x dx, H x = none → H dx = none → dx ≠ x → sp (.ref x :: (vs ++ dvs)) (upd (upd H dx (.own x)) x (.ins c dx [])) (fun v H2 => v = .non ∧ Q (.ref x) H2) (E σ)) :
    wpAny (model X.prog X.w) X.A (call (.ref c) us) (EP X pins σ Q) X.xe s := by
  have n1 : H (s.heap.objs.size + 1) = none := I.hok.fresh (Nat.le_succ _)
  have n2 : H s.heap.objs.size = none := I.hok.fresh (Nat.le_refl _)
  have q0 := h _ _ n1 n2 (Nat.ne_of_lt (Nat.lt_succ_self _))
  have J := Inv.made (C := c) I
  have rr : Vals (V.ref (s.heap.objs.size + 1) :: (vs ++ dvs)) (Value.ref (s.heap.objs.size + 1) :: (us ++ ds)) := .cons rfl (r.append hd)
  have ln := F.len _ _ _ _ q0
  rw [rr.length] at ln
  refine wpAny_call (make_map (f := f) I.kIn M.makes M.init (beq_iff_eq.mp M.fn) (codeAny_mono (F.run _ X.stack _ _ ⟨Value.ref (s.heap.objs.size + 1) :: us, []⟩ (Value.ref (s.heap.objs.size + 1) :: us ++ ds) _ _ (E σ) (hr.make c us []) (J.env0.make c us []) (hb _ _ J.kIn ln) rr q0) fun res s2 hq => ?_))
  cases res with
  | error e => exact hx pins _ _ e s2 J hq
  | ok fl =>
    cases fl with
    | ret u =>
      obtain ⟨v, H2, J2, rv, ev, q⟩ := J.after hq
      subst ev
      exact ⟨rv, .ref (s.heap.objs.size + 1), H2, J2, rfl, q⟩
    | next => exact hq.elim
    | brk => exact hq.elim
    | cont => exact hq.elim
def tMkSD (c : Addr) (sp : Sp) (dvs : List V) (E : L2.St → XK) (t : TA) : TE := fun σ H Q => t σ H fun vs H1 => ∀ x dx, H1 x = none → H1 dx = none → dx ≠ x →
  sp (.ref x :: (vs ++ dvs)) (upd (upd H1 dx (.own x)) x (.ins c dx [])) (fun v H2 => v = .non ∧ Q (.ref x) H2) (E σ)
theorem pe_mkSD {X : Cx} {CX : CXT} {k : Nat} {f c : Addr} {fd : FuncData} {ps : List Str} {sp : Sp} {dvs : List V} {ds : List Value} {E : L2.St → XK} {x : Str} {p pos : Pos} {e : Expr} {es : List Expr} {t : TA} (M : Mk X.K c f) (F : FnOk X.prog X.w X.K X.mg X.base CX k f fd ps sp) (hr : Room (k + 1) X.A)
    (hg : Gl X x) (hm : X.mg x = some (.ref c)) (hb : Binds X.K fd ps ds) (hd : Vals dvs ds) (hx : ∀ σ, PassesAt CX X σ (E σ)) (ha : PA X (e :: es) t) (hdb : (x == ("__debug__" : Str)) = false) (he : starEach (e :: es) X.env = (false, eval e X.env) :: starEach es X.env) (hpl : (backTo pos (starEach es X.env)).any (·.1) = false) :
    PE X (.Call (.Name x p) (e :: es) [] pos) (tMkSD c sp dvs E t) := by
  refine ⟨fun pins s σ H Q I hh => ?_⟩
  refine wpAny_Call_Name_kw (ld_glob I hg hm ?_ hdb)
  exact PySem.W.callWith_K (h₀ := X.base) I.ok.mod.kin M.kp (thn (ha.run pos pins s σ H _ I hh) fun us s1 ⟨vs, H1, I1, r, q⟩ => ⟨I1.kIn, run_mkSD M F hr hb hd (hx σ) I1 r q⟩) he hpl
theorem mk_post {T : Tb} {g : Gt} {F : List D → List R → Option Rs} {fz : Bool} {nm : Nat → List Str} (hnm : nm = T.nm) {c : Nat} {w : Wd} {vs : List V} {ds : List D} {m : List R} {o : Rs} {Q : VK} {E : XK} (W : Wf T w m) (r : RepL T w.Hs w.al vs ds) (e : mkD nm fz F c ds m = some o) (p : PostC T w Q E o) {x dx : Addr} (hx : w.H x = none) (hdx : w.H dx = none) (ne : dx ≠ x) :
    spD T F (.ref x :: vs) (upd (upd w.H dx (.own x)) x (.ins (T.cl c) dx [])) (fun v H2 => v = .non ∧ Q (.ref x) H2) E := by
  obtain ⟨W1, x1⟩ := W.un (.own x) hdx
  have hx1 : (⟨upd w.H dx (.own x), w.Hs, w.al⟩ : Wd).H x = none := by
    show upd w.H dx _ x = none
    rw [upd_ne (Ne.symm ne)]; exact hx
  obtain ⟨W2, x2⟩ := W1.mu (o := .ins (T.cl c) dx []) (r := .obj c []) hx1 ⟨dx, [], by show upd (upd w.H dx _) x _ x = _; rw [upd_same], rfl, .nil⟩
  have x12 := x1.trans x2 W1
  have hal : (w.al ++ [x])[m.length]? = some x := by rw [← W.len]; simp
  unfold mkD at e
  cases e1 : F (.res m.length :: ds) (m ++ [.obj c []]) with
  | none => rw [e1] at e; cases e
  | some o1 =>
    rw [e1] at e
    refine ⟨_, .res m.length :: ds, m ++ [.obj c []], o1, rfl, W2, .cons (.res hal) (r.on x12), e1, ?_⟩
    cases o1 with
    | ex z m' =>
      cases e
      exact fun w' cls dd x' W' rx => p w' cls dd (x12.trans x' W2) W' rx
    | ok d m' =>
      cases d with
      | non =>
        intro w' v x' W' rv
        cases rv
        refine ⟨rfl, ?_⟩
        have rx : Rep T w'.Hs w'.al (.ref x) (.res m.length) := .res (x'.leA _ _ hal)
        have x3 := x12.trans x' W2
        cases fz with
        | true =>
          simp only [if_true] at e
          rw [hnm] at e
          obtain ⟨d2, m2, w2, rfl, hH, x4, W4, r4⟩ := fin_rep W x3 W' rx e
          rw [← hH]
          exact p w2 _ x4 W4 r4
        | false =>
          simp only [Bool.false_eq_true, if_false] at e
          cases e
          exact p w' _ x3 W' rx
      | _ => cases e
theorem de_mk {x : Str} {c i : Nat} {fz : Bool} {e : Expr} {es : List Expr} {xs : Es} {p pos : Pos} (M : MkE C x c xs.len i) (hnm : C.g.nm = C.T.nm) (hn : ∀ ds m, C.g.new c ds m = mkD C.g.nm fz (C.g.F i) c ds m) (hg : C.sc.names.lookup x = some .globalImplicit) (ha : DA C (e :: es) (evL C.g xs)) (hs : (e :: es).all noStar = true) (hdb : (x == ("__debug__" : Str)) = false) :
    DE C (.Call (.Name x p) (e :: es) [] pos) (evE C.g (.mk c xs)) := by
  obtain ⟨k, f, fd, ps, sp, ds, dvs, F, hk, hm, M, hb, hd, imp⟩ := M
  obtain ⟨t, pt, rt⟩ := ha
  rw [List.all_cons, Bool.and_eq_true] at hs
  refine ⟨tMkSD (C.T.cl c) sp dvs (WE C.W) t, fun X ok => ?_, fun σ w ρ m Q oo W E e0 pp => ?_⟩
  · have F' : FnOk X.prog X.w X.K X.mg X.base (L2.CX X.prog X.w) k f fd ps sp := by rw [ok.prog, ok.w, ok.K, ok.mg, ok.base]; exact F
    exact pe_mkSD (X := X) (pos := pos) (p := p) (t := t) (by rw [ok.K]; exact M) F' (ok.room.mono hk) (show X.env.scope.names.lookup x = some .globalImplicit by rw [ok.sc]; exact hg) (by rw [ok.mg]; exact hm) (by rw [ok.K]; exact hb) hd (fun σ => passAt ok.tk σ) (pt X ok) hdb (star1 hs.1 es _) (stars hs.2)
  · simp only [evE] at e0
    refine rt.bndN W E e0 pp fun d m1 w1 v1 hl e1 x1 W1 r1 E1 p1 => fun x dx hx hdx ne => ?_
    rw [hn] at e1
    exact imp (.ref x :: v1) _ _ _ (by rw [List.length_cons, hl]) (mk_post (g := C.g) hnm W1 r1 e1 p1 hx hdx ne)
end
end Dv

namespace Dv
open PySem PySem.Spec PyProof.Rows L2

theorem RepL.three {T : Tb} {Hs : Hp} {al : List Addr} {vs : List V} {d e f : D} (h : RepL T Hs al vs [d, e, f]) : ∃ u v w, vs = [u, v, w] ∧ Rep T Hs al u d ∧ Rep T Hs al v e ∧ Rep T Hs al w f := by
  cases h with
  | cons r t =>
    obtain ⟨v, w, rfl, r2, r3⟩ := t.two
    exact ⟨_, v, w, rfl, r, r2, r3⟩
section
variable {C : Cs}
theorem ds_par3 {i j l : Nat} {x y z : Str} {a b c : Expr} {xa xb xc : Dv.E} {px py pz pt pos : Pos} {kt k2 : Nat} {pt2 : Pos} (hi : C.N[i]? = some x) (hj : C.N[j]? = some y) (hl : C.N[l]? = some z) (hij : i ≠ j) (hil : i ≠ l) (hjl : j ≠ l) (hx : C.sc.names.lookup x = some .local) (hy : C.sc.names.lookup y = some .local) (hz : C.sc.names.lookup z = some .local)
    (ha : DE C a (evE C.g xa)) (hb : DE C b (evE C.g xb)) (hc : DE C c (evE C.g xc)) (hsa : noStar a = true) (hsb : noStar b = true) (hsc : noStar c = true) (hw : ∀ env : Env, swappedStores [.Tuple [.Name x px, .Name y py, .Name z pz] kt pt] (.Tuple [a, b, c] k2 pt2) { env with scope := C.sc } = pure (some [x, y, z]))
    (hs : ∀ env : Env, swapsWithSole [.Tuple [.Name x px, .Name y py, .Name z pz] kt pt] (.Tuple [a, b, c] k2 pt2) pos.line { env with scope := C.sc } = pure false) :
    DS C (.Assign [.Tuple [.Name x px, .Name y py, .Name z pz] kt pt] (.Tuple [a, b, c] k2 pt2) pos) (evS C.g (.asg (.tp (.cons (.nm i) (.cons (.nm j) (.cons (.nm l) .nil)))) (.tup (.cons xa (.cons xb (.cons xc .nil)))))) := by
  obtain ⟨t, pt, r⟩ := da_cons ha (da_cons hb (da_cons hc da_nil hsc) hsb) hsa
  refine ⟨tPar3 i j l t, fun X ok => ps_par3 ok.calm (by rw [ok.N]; exact ok.nd) (by rw [ok.N]; exact hi) (by rw [ok.N]; exact hj) (by rw [ok.N]; exact hl) hij hil hjl (by rw [ok.sc]; exact hx) (by rw [ok.sc]; exact hy) (by rw [ok.sc]; exact hz) (pt X ok.toOk) (env_of (p := fun e => swappedStores _ _ e = pure _) ok.sc (hw _)) (env_of (p := fun e => swapsWithSole _ _ _ e = pure _) ok.sc (hs _)), fun σ w ρ m D o W E e pp => ?_⟩
  simp only [evS] at e
  have key : ∃ ol, evL C.g (.cons xa (.cons xb (.cons xc .nil))) ρ m = some ol ∧ match ol with
      | .ok ds m1 => ∃ d1 d2 d3, ds = [d1, d2, d3] ∧ o = .nx (((ρ.set i (some d1)).set j (some d2)).set l (some d3)) m1
      | .ex z m1 => o = .ex z ρ m1 := by
    rcases bndS_some e with ⟨d, m1, e1, e2⟩ | ⟨z, m1, e1, rfl⟩
    · simp only [evE] at e1
      rcases bndL_some e1 with ⟨ds, m2, e3, e4⟩ | ⟨z, m2, e3, e4⟩
      · refine ⟨_, e3, ?_⟩
        split at e4
        · cases e4
          have hl := evL_len _ _ _ _ e3
          match ds, hl with
          | [d1, d2, d3], _ =>
            simp only [setG, setGs, Option.map_some] at e2
            cases e2
            exact ⟨d1, d2, d3, rfl, rfl⟩
        · cases e4
      · cases e4
    · simp only [evE] at e1
      rcases bndL_some e1 with ⟨ds, m2, e3, e4⟩ | ⟨z2, m2, e3, e4⟩
      · split at e4 <;> cases e4
      · cases e4
        exact ⟨_, e3, rfl⟩
  obtain ⟨ol, e1, e2⟩ := key
  refine r σ w ρ m _ ol W E e1 ?_
  cases ol with
  | ok ds m1 =>
    obtain ⟨d1, d2, d3, rfl, rfl⟩ := e2
    intro w1 vs x1 W1 rl
    obtain ⟨v1, v2, v3, rfl, r1, r2, r3⟩ := rl.three
    exact ⟨v1, v2, v3, rfl, pp w1 _ x1 W1 ((((E.on x1).set i r1).set j r2).set l r3)⟩
  | ex z m1 =>
    subst e2
    exact fun w1 cls dd x1 W1 rx => pp w1 σ cls dd x1 W1 (E.on x1) rx
end
section
variable {C : Cs}
theorem de_v (i : Nat) {x : Str} {pos : Pos} (hN : C.N[i]? = some x := by rfl) (hv : Vis C.sc x := by first | exact Or.inl rfl | exact Or.inr (Or.inl rfl) | exact Or.inr (Or.inr rfl)) (hd : (x == ("__debug__" : Str)) = false := by decide) (hcd : (x == ("__classdict__" : Str)) = false := by decide) : DE C (.Name x pos) (evE C.g (.var i)) := de_var hN hv hd hcd
theorem dg_n (i : Nat) {x : Str} {pos : Pos} (hN : C.N[i]? = some x := by rfl) (hx : Loc C.sc x := by first | exact Or.inl rfl | exact Or.inr rfl) (hf : C.fn x = true ∨ C.sc.names.lookup x = some .local := by first | exact Or.inl rfl | exact Or.inr rfl) : DG C (.Name x pos) (.nm i) := dg_name hN hx hf
theorem ds_s (i : Nat) {y : Str} {py pos : Pos} {e : Expr} {x : Dv.E} (h : DE C e (evE C.g x)) (hN : C.N[i]? = some y := by rfl) (hx : Loc C.sc y := by first | exact Or.inl rfl | exact Or.inr rfl) (hf : C.fn y = true ∨ C.sc.names.lookup y = some .local := by first | exact Or.inl rfl | exact Or.inr rfl)
    (hs : ∀ env : Env, swapsWith e (some (.Name y py)) pos.line { env with scope := C.sc } = pure false := by intro _; rfl) : DS C (.Assign [.Name y py] e pos) (evS C.g (.asg (.nm i) x)) := ds_set hN hx hf h hs
theorem ds_a (i : Nat) {y : Str} {e : Expr} {x : Dv.E} {py pos : Pos} (o : Bop) (h : DE C e (evE C.g x)) (ho : o = .add ∨ o = .sub := by decide) (hN : C.N[i]? = some y := by rfl) (hx : Loc C.sc y := by first | exact Or.inl rfl | exact Or.inr rfl) (hf : C.fn y = true ∨ C.sc.names.lookup y = some .local := by first | exact Or.inl rfl | exact Or.inr rfl) :
    DS C (.AugAssign (.Name y py) (oprB o) e pos) (evS C.g (.aug i o x)) := ds_aug ho hN hx hf h
end
/-- what raises is told as nothing -/
def noX : Option Rs → Option Rs
  | some (.ok d m) => some (.ok d m)
  | _ => none
theorem noX_some {r : Option Rs} {o : Rs} (h : noX r = some o) : r = some o := by
  cases r with
  | none => cases h
  | some q => cases q with
    | ok d m => exact h
    | ex x m => cases h
theorem noX_noex {r : Option Rs} {x : Exn} {m : List R} : noX r ≠ some (.ex x m) := by
  cases r with
  | none => intro h; cases h
  | some q => cases q with
    | ok d m' => intro h; cases h
    | ex y m' => intro h; cases h
theorem spD_imp {T : Tb} {f g : List D → List R → Option Rs} (h : ∀ ds m o, g ds m = some o → f ds m = some o) {vs : List V} {H : Hp} {Q : VK} {E : XK} (s : spD T g vs H Q E) : spD T f vs H Q E := by
  obtain ⟨w, ds, m, o, e, W, r, e1, p⟩ := s
  exact ⟨w, ds, m, o, e, W, r, h _ _ _ e1, p⟩
/-- another promise for a def -/
theorem def_imp {P : Program} {w : World} {K : PySem.W.Frag} {mg : Str → Option Value} {base : Heap} {CX : CXT} {k : Nat} {f : Addr} {fd : FuncData} {ps : List Str} {T : Tb} {F G : List D → List R → Option Rs} {n : Nat} (A : FnOk P w K mg base CX k f fd ps (fun vs H Q E => vs.length = n ∧ spD T F vs H Q E)) (h : ∀ ds m o, G ds m = some o → F ds m = some o) :
    FnOk P w K mg base CX k f fd ps (fun vs H Q E => vs.length = n ∧ spD T G vs H Q E) := A.imp fun vs H Q E z => ⟨z.1, spD_imp h z.2⟩
/-- the same def at a place of a higher level, in a place that knows more -/
theorem fnE_at {C : Cs} {x : Str} {k n i : Nat} {f : Addr} {fd : FuncData} {ps : List Str} {F : List D → List R → Option Rs} (G : FnOk C.P C.w C.T.K C.mg C.base (L2.CX C.P C.w) k f fd ps (fun vs H Q E => vs.length = ps.length ∧ spD C.T F vs H Q E)) (hk : k ≤ C.L) (hm : C.mg x = some (.ref f))
    (kp : PySem.W.keepIn C.T.K (.ref f) = true) (hb : Binds C.T.K fd ps []) (hn : n = ps.length) (hF : C.g.F i = F) : FnE C x n i := by
  subst hF
  exact fnE_0 G hk hm kp hb hn
theorem prE_at {C : Cs} {c i k : Nat} {x : Str} {p f : Addr} {fd : FuncData} {ps : List Str} {F : List D → List R → Option Rs} (G : FnOk C.P C.w C.T.K C.mg C.base (L2.CX C.P C.w) k f fd ps (fun vs H Q E => vs.length = ps.length ∧ spD C.T F vs H Q E)) (hk : k + 1 ≤ C.L) (hc : Cls C.T.K (C.T.cl c)) (hp : PropOf C.T.K (C.T.cl c) x p f)
    (hb : Binds C.T.K fd ps []) (hn : ps.length = 1) (hF : ∀ ds m o, C.g.F i ds m = some o → F ds m = some o) : PrE C c x i :=
  ⟨k, p, f, fd, ps, _, G, hk, hc, hp, hb, fun vs H Q E hl h => ⟨hl.trans hn.symm, spD_imp hF h⟩⟩
theorem mkE_at {C : Cs} {c i k n : Nat} {x : Str} {f : Addr} {fd : FuncData} {ps : List Str} {F : List D → List R → Option Rs} (G : FnOk C.P C.w C.T.K C.mg C.base (L2.CX C.P C.w) k f fd ps (fun vs H Q E => vs.length = ps.length ∧ spD C.T F vs H Q E)) (hk : k + 1 ≤ C.L) (hm : C.mg x = some (.ref (C.T.cl c))) (M : Mk C.T.K (C.T.cl c) f)
    (hb : Binds C.T.K fd ps []) (hn : n + 1 = ps.length) (hF : C.g.F i = F) : MkE C x c n i := by
  subst hF
  refine ⟨k, f, fd, ps, _, [], [], G, hk, hm, M, hb, .nil, fun vs H Q E hl h => ?_⟩
  rw [List.append_nil]
  exact ⟨hl.trans hn, h⟩
theorem mtE_at {C : Cs} {c i k n : Nat} {x : Str} {f : Addr} {fd : FuncData} {ps : List Str} {F : List D → List R → Option Rs} (G : FnOk C.P C.w C.T.K C.mg C.base (L2.CX C.P C.w) k f fd ps (fun vs H Q E => vs.length = ps.length ∧ spD C.T F vs H Q E)) (hk : k ≤ C.L) (hc : Cls C.T.K (C.T.cl c)) (hm : Meth C.T.K (C.T.cl c) x f)
    (hb : Binds C.T.K fd ps []) (hn : n + 1 = ps.length) (hF : C.g.F i = F) : MtE C c x n i := by
  subst hF
  refine ⟨k, f, fd, ps, _, [], [], G, hk, hc, hm, hb, .nil, fun vs H Q E hl h => ?_⟩
  rw [List.append_nil]
  exact ⟨hl.trans hn, h⟩
/-- the law's own promise, from its answer on data -/
theorem law_end {T : Tb} {F : List D → List R → Option Rs} {n : Nat} (h : ∀ ns : List Int, ns.length ≤ n → ∃ m, F [.ext (ns.map .int)] [] = some (.ok (.bl true) m)) {H : Hp} {a : Addr} {ns : List Int} (hn : ns.length ≤ n) (hS : SqL T.K H a (ns.map V.int)) {Q : VK} {E : XK} (hq : ∀ H', Q (.bl true) H') : spD T F [.ref a] H Q E := by
  obtain ⟨m, e⟩ := h ns hn
  refine ⟨⟨H, H, []⟩, [.ext (ns.map .int)], [], _, rfl, ⟨Le.refl _, rfl, .nil, fun a h => (List.not_mem_nil h).elim, fun k a r h _ => by simp at h⟩, .one (.ext hS (RepL.ofInts ns)), e, fun w' v x' W' r => ?_⟩
  cases r
  exact hq _
/-- a property of one class, no field anywhere -/
theorem attOk_prop {C : Cs} {f : Str} {c0 i : Nat} (hp : ∀ c, C.g.prop c f = if c = c0 then some i else none) (p : PrE C c0 f i) (nx : ∀ d m x m', C.g.F i d m ≠ some (.ex x m')) (hf : ∀ c, f ∉ C.T.nm c) : AttOk C f := by
  refine ⟨fun c j h => ?_, fun c j d m x m' h => ?_, fun c _ h => absurd h (hf c)⟩
  · rw [hp] at h
    split at h
    · rename_i e
      cases h
      rw [e]; exact p
    · cases h
  · rw [hp] at h
    split at h
    · cases h
      exact nx d m x m'
    · cases h
/-- a field of one class, no property anywhere -/
theorem attOk_fld {C : Cs} {f : Str} {c0 : Nat} (hp : ∀ c, C.g.prop c f = none) (hf : ∀ c, f ∈ C.T.nm c → c = c0) (hc : Cls C.T.K (C.T.cl c0)) (hn : NoAttr C.T.K (C.T.cl c0) f) : AttOk C f :=
  ⟨fun c i h => (by rw [hp] at h; cases h), fun c i d m x m' h => (by rw [hp] at h; cases h), fun c _ h => (by rw [hf c h]; exact ⟨hc, hn⟩)⟩
theorem metOk_of {C : Cs} {m : Str} {n c0 i : Nat} (hp : ∀ c, C.g.meth c m n = if c = c0 then some i else none) (p : MtE C c0 m n i) (hf : ∀ c, m ∉ C.T.nm c) : MetOk C m n := by
  refine ⟨fun c j h => ?_, fun c _ _ => hf c⟩
  rw [hp] at h
  split at h
  · rename_i e
    cases h
    rw [e]; exact p
  · cases h
/-- a def that nobody may call: no promise -/
theorem def_none {P : Program} {w : World} {K : PySem.W.Frag} {mg : Str → Option Value} {base : Heap} {CX : CXT} {k : Nat} {f : Addr} {fd : FuncData} {ps : List Str} {T : Tb} : FnOk P w K mg base CX k f fd ps (fun vs H Q E => vs.length = ps.length ∧ spD T (fun _ _ => none) vs H Q E) :=
  ⟨fun _ _ _ _ h => h.1, fun A outer s H args us vs Q E _ _ _ _ h => by obtain ⟨_, _, _, _, _, _, _, _, e, _⟩ := h; cases e⟩
/-- what the law promises: True at every script -/
def spLaw (K : PySem.W.Frag) : Sp := fun vs H Q _ => vs.length = 1 ∧ ∃ (a : Addr) (ns : List Int), vs = [.ref a] ∧ SqL K H a (ns.map V.int) ∧ ns.length ≤ 63 ∧ ∀ H', Q (.bl true) H'
theorem law_ok {P : Program} {w : World} {K : PySem.W.Frag} {mg : Str → Option Value} {base : Heap} {CX : CXT} {k : Nat} {f : Addr} {fd : FuncData} {ps : List Str} {T : Tb} {F : List D → List R → Option Rs} (A : FnOk P w K mg base CX k f fd ps (fun vs H Q E => vs.length = 1 ∧ spD T F vs H Q E)) (hT : T.K = K)
    (pl : ∀ ns : List Int, ns.length ≤ 63 → ∃ m, F [.ext (ns.map .int)] [] = some (.ok (.bl true) m)) : FnOk P w K mg base CX k f fd ps (spLaw K) := A.imp fun vs H Q E z => by
  obtain ⟨_, a, ns, rfl, hS, hl, hq⟩ := z
  subst hT
  exact ⟨rfl, law_end pl hl hS hq⟩
end Dv

namespace Dv
open PySem PySem.Spec PyProof.Rows L2

/-! ### plain: what a def's end does -/
theorem okDL_map {α : Type} {n : Nat} {f : α → D} (h : ∀ x, okD n (f x) = true) : ∀ xs : List α, okDL n (xs.map f) = true
  | [] => by simp only [List.map_nil, okDL]
  | x :: xs => by simp only [List.map_cons, okDL, h, okDL_map h xs, Bool.and_self]
@[simp] theorem okDL_ints (n : Nat) (xs : List Int) : okDL n (xs.map D.int) = true := okDL_map (fun x => by simp only [okD]) xs
@[simp] theorem okDL_strs (n : Nat) (xs : List Str) : okDL n (xs.map D.str) = true := okDL_map (fun x => by simp only [okD]) xs
@[simp] theorem okD_non (n : Nat) : okD n .non = true := by simp only [okD]
@[simp] theorem okD_bl (n : Nat) (b : Bool) : okD n (.bl b) = true := by simp only [okD]
@[simp] theorem okD_int (n : Nat) (b : Int) : okD n (.int b) = true := by simp only [okD]
@[simp] theorem okD_str (n : Nat) (b : Str) : okD n (.str b) = true := by simp only [okD]
@[simp] theorem okD_tup (n : Nat) (xs : List D) : okD n (.tup xs) = okDL n xs := by simp only [okD]
@[simp] theorem okD_lst (n : Nat) (xs : List D) : okD n (.lst xs) = okDL n xs := by simp only [okD]
@[simp] theorem okD_ext (n : Nat) (xs : List D) : okD n (.ext xs) = okDL n xs := by simp only [okD]
@[simp] theorem okD_obj (n c : Nat) (xs : List D) : okD n (.obj c xs) = okDL n xs := by simp only [okD]
@[simp] theorem okD_res (n k : Nat) : okD n (.res k) = decide (k < n) := by simp only [okD]
@[simp] theorem okDL_nil (n : Nat) : okDL n [] = true := by simp only [okDL]
@[simp] theorem okDL_cons (n : Nat) (x : D) (xs : List D) : okDL n (x :: xs) = (okD n x && okDL n xs) := by simp only [okDL]
theorem okDL_all {n : Nat} : ∀ {xs : List D}, (∀ x ∈ xs, okD n x = true) → okDL n xs = true
  | [], _ => by simp only [okDL]
  | x :: xs, h => by
    simp only [okDL, Bool.and_eq_true]
    exact ⟨h x List.mem_cons_self, okDL_all fun y hy => h y (List.mem_cons_of_mem _ hy)⟩
theorem conv_ok {nm : Nat → List Str} {n : Nat} {m : List R} {f : Nat} {d : D} (h : okD n d = true) : conv nm n m f d = some d := by
  cases f <;> simp only [conv, h, if_true]
theorem fin_self {nm : Nat → List Str} {m : List R} {d : D} (h : okD m.length d = true) : fin nm m m d = some (.ok d m) := by
  unfold fin
  rw [if_pos (.inl (List.take_length)), conv_ok h, List.take_length]
  rfl
theorem fin_app {nm : Nat → List Str} {m l : List R} {d : D} (h : okD m.length d = true) : fin nm m (m ++ l) d = some (.ok d m) := by
  unfold fin
  have e : (m ++ l).take m.length = m := List.take_left
  rw [if_pos (.inl e), conv_ok h, e]
  rfl
theorem conv_res {nm : Nat → List Str} {n : Nat} {m : List R} {f k : Nat} {xs : List D} (h : okD n (.res k) = false) (hg : m[k]? = some (.lst xs)) : conv nm n m (f + 1) (.res k) = (allO (conv nm n m f) xs).map .lst := by
  show (if okD n (.res k) = true then _ else _) = _
  rw [h, if_neg Bool.false_ne_true]
  show (match m[k]? with | some (.lst xs) => _ | some (.obj c fs) => _ | none => _) = _
  rw [hg]
/-- the def's own list, given back -/
theorem fin_lst {nm : Nat → List Str} {m l : List R} {k : Nat} {xs : List D} (hk : m.length ≤ k) (hg : (m ++ l)[k]? = some (.lst xs)) (h : okDL m.length xs = true) : fin nm m (m ++ l) (.res k) = some (.ok (.lst xs) m) := by
  unfold fin
  have e : (m ++ l).take m.length = m := List.take_left
  have hno : okD m.length (.res k) = false := by simp only [okD]; exact decide_eq_false (by omega)
  have ha : ∀ (f : Nat) (ys : List D), okDL m.length ys = true → allO (conv nm m.length (m ++ l) f) ys = some ys := fun f ys => by
    induction ys with
    | nil => intro _; rfl
    | cons y ys ih =>
      intro h
      simp only [okDL, Bool.and_eq_true] at h
      simp only [allO, conv_ok h.1, ih h.2]
  rw [if_pos (.inl e), e]
  rw [conv_res hno hg, ha _ xs h]
  rfl
theorem get_app0 {m : List R} {r : R} {l : List R} : (m ++ r :: l)[m.length]? = some r := by simp
theorem get_app1 {m : List R} {r s : R} {l : List R} : (m ++ r :: s :: l)[m.length + 1]? = some s := by
  rw [List.getElem?_append_right (by omega)]
  simp
theorem set_app0 {m : List R} {r s : R} {l : List R} : (m ++ r :: l).set m.length s = m ++ s :: l := by simp
/-- a loop, by an invariant -/
theorem forF_inv {t : D → Ro → List R → Option SO} : ∀ (xs : List D) (P : Nat → Ro → List R → Prop) {ρ : Ro} {m : List R}, P 0 ρ m → (∀ i x ρ m, xs[i]? = some x → P i ρ m → ∃ ρ' m', (t x ρ m = some (.nx ρ' m') ∨ t x ρ m = some (.ct ρ' m')) ∧ P (i + 1) ρ' m') → ∃ ρ' m', forF t xs ρ m = some (.nx ρ' m') ∧ P xs.length ρ' m'
  | [], P, ρ, m, h0, _ => ⟨ρ, m, rfl, h0⟩
  | x :: xs, P, ρ, m, h0, hs => by
    obtain ⟨ρ1, m1, e1, p1⟩ := hs 0 x ρ m rfl h0
    obtain ⟨ρ2, m2, e2, p2⟩ := forF_inv xs (fun i => P (i + 1)) p1 (fun i y ρ m hy p => hs (i + 1) y ρ m hy p)
    refine ⟨ρ2, m2, ?_, p2⟩
    rcases e1 with e1 | e1 <;> simp only [forF, e1, e2]
/-- a comprehension whose turns change nothing -/
theorem compL_map {f : D → List R → Option (Option D × List R)} {m : List R} {h : D → D} : ∀ (xs acc : List D), (∀ x ∈ xs, f x m = some (some (h x), m)) → acc.length + xs.length ≤ sizeLine → compL f xs acc m = some (acc ++ xs.map h, m)
  | [], acc, _, _ => by simp [compL]
  | x :: xs, acc, hx, hl => by
    rw [List.length_cons] at hl
    simp only [compL, hx x List.mem_cons_self]
    rw [if_pos (by omega), compL_map xs (acc ++ [h x]) (fun y hy => hx y (List.mem_cons_of_mem _ hy)) (by rw [List.length_append, List.length_singleton]; omega)]
    simp
/-- .. or keep some items -/
theorem compL_filter {f : D → List R → Option (Option D × List R)} {m : List R} {h : D → Option D} : ∀ (xs acc : List D), (∀ x ∈ xs, f x m = some (h x, m)) → acc.length + xs.length ≤ sizeLine → compL f xs acc m = some (acc ++ xs.filterMap h, m)
  | [], acc, _, _ => by simp [compL]
  | x :: xs, acc, hx, hl => by
    rw [List.length_cons] at hl
    cases e : h x with
    | none =>
      simp only [compL, hx x List.mem_cons_self, e]
      rw [compL_filter xs acc (fun y hy => hx y (List.mem_cons_of_mem _ hy)) (by omega), List.filterMap_cons_none e]
    | some y =>
      simp only [compL, hx x List.mem_cons_self, e]
      rw [if_pos (by omega), compL_filter xs (acc ++ [y]) (fun z hz => hx z (List.mem_cons_of_mem _ hz)) (by rw [List.length_append, List.length_singleton]; omega), List.filterMap_cons_some e]
      simp
/-- a small number -/
def iN (n : Nat) : D := .int (n : Int)
@[simp] theorem okDL_iN (n : Nat) (xs : List Nat) : okDL n (xs.map iN) = true := okDL_map (fun x => by simp only [iN, okD]) xs
theorem okDL_mem {n : Nat} : ∀ {xs : List D} {x : D}, okDL n xs = true → x ∈ xs → okD n x = true
  | [], _, _, h => by cases h
  | y :: ys, x, h, hx => by
    simp only [okDL, Bool.and_eq_true] at h
    rcases List.mem_cons.mp hx with e | e
    · rw [e]; exact h.1
    · exact okDL_mem h.2 e
theorem forF_gen {t : D → Ro → List R → Option SO} {xs : List D} {ρ : Ro} {m : List R} {X : Option SO} (hX : forF t xs ρ m = X) (P : Nat → Ro → List R → Prop) (h0 : P 0 ρ m) (hs : ∀ i x ρ m, xs[i]? = some x → P i ρ m → ∃ ρ' m', (t x ρ m = some (.nx ρ' m') ∨ t x ρ m = some (.ct ρ' m')) ∧ P (i + 1) ρ' m') : ∃ ρ' m', X = some (.nx ρ' m') ∧ P xs.length ρ' m' := by
  rw [← hX]
  exact forF_inv xs P h0 hs
@[simp] theorem sq_tup (m : List R) (xs : List D) : sq m (.tup xs) = some xs := rfl
@[simp] theorem sq_lst (m : List R) (xs : List D) : sq m (.lst xs) = some xs := rfl
@[simp] theorem sq_ext (m : List R) (xs : List D) : sq m (.ext xs) = some xs := rfl
theorem sq_res {m : List R} {k : Nat} {xs : List D} (h : m[k]? = some (.lst xs)) : sq m (.res k) = some xs := by simp only [sq, h]
@[simp] theorem lsq_lst (m : List R) (xs : List D) : lsq m (.lst xs) = some xs := rfl
@[simp] theorem lsq_tup (m : List R) (xs : List D) : lsq m (.tup xs) = none := rfl
theorem lsq_res {m : List R} {k : Nat} {xs : List D} (h : m[k]? = some (.lst xs)) : lsq m (.res k) = some xs := by simp only [lsq, h]
@[simp] theorem fsq_tup (xs : List D) : fsq (.tup xs) = some xs := rfl
@[simp] theorem fsq_lst (xs : List D) : fsq (.lst xs) = some xs := rfl
@[simp] theorem fsq_ext (xs : List D) : fsq (.ext xs) = some xs := rfl
theorem resL_res {m : List R} {k : Nat} {xs : List D} (h : m[k]? = some (.lst xs)) : resL m (.res k) = some (k, xs) := by simp only [resL, h]
@[simp] theorem sq_top (m l : List R) (xs : List D) : sq (m ++ R.lst xs :: l) (.res m.length) = some xs := sq_res get_app0
@[simp] theorem lsq_top (m l : List R) (xs : List D) : lsq (m ++ R.lst xs :: l) (.res m.length) = some xs := lsq_res get_app0
@[simp] theorem resL_top (m l : List R) (xs : List D) : resL (m ++ R.lst xs :: l) (.res m.length) = some (m.length, xs) := resL_res get_app0
theorem compL_mapA {α : Type} {f : D → List R → Option (Option D × List R)} {m : List R} {g h : α → D} : ∀ (xs : List α) (acc : List D), (∀ x ∈ xs, f (g x) m = some (some (h x), m)) → acc.length + xs.length ≤ sizeLine → compL f (xs.map g) acc m = some (acc ++ xs.map h, m)
  | [], acc, _, _ => by simp [compL]
  | x :: xs, acc, hx, hl => by
    rw [List.length_cons] at hl
    simp only [List.map_cons, compL, hx x List.mem_cons_self]
    rw [if_pos (by omega), compL_mapA xs (acc ++ [h x]) (fun y hy => hx y (List.mem_cons_of_mem _ hy)) (by rw [List.length_append, List.length_singleton]; omega)]
    simp
theorem compL_filA {α : Type} {f : D → List R → Option (Option D × List R)} {m : List R} {g : α → D} {h : α → Option D} : ∀ (xs : List α) (acc : List D), (∀ x ∈ xs, f (g x) m = some (h x, m)) → acc.length + xs.length ≤ sizeLine → compL f (xs.map g) acc m = some (acc ++ xs.filterMap h, m)
  | [], acc, _, _ => by simp [compL]
  | x :: xs, acc, hx, hl => by
    rw [List.length_cons] at hl
    cases e : h x with
    | none =>
      simp only [List.map_cons, compL, hx x List.mem_cons_self, e]
      rw [compL_filA xs acc (fun y hy => hx y (List.mem_cons_of_mem _ hy)) (by omega), List.filterMap_cons_none e]
    | some y =>
      simp only [List.map_cons, compL, hx x List.mem_cons_self, e]
      rw [if_pos (by omega), compL_filA xs (acc ++ [y]) (fun z hz => hx z (List.mem_cons_of_mem _ hz)) (by rw [List.length_append, List.length_singleton]; omega), List.filterMap_cons_some e]
      simp
theorem atI_N {α : Type} {xs : List α} {i : Nat} (h : i < xs.length) : L2.atI xs (i : Int) = some xs[i] := by
  have e : L2.ixN xs.length (i : Int) = some i := by
    unfold L2.ixN
    have h1 : (0 : Int) ≤ (i : Int) := by omega
    simp [h1, h]
  unfold L2.atI
  rw [e]
  exact List.getElem?_eq_getElem h
@[simp] theorem ixD_tup (m : List R) (xs : List D) (i : Int) : ixD m (.tup xs) (.int i) = L2.atI xs i := rfl
@[simp] theorem ixD_lst (m : List R) (xs : List D) (i : Int) : ixD m (.lst xs) (.int i) = L2.atI xs i := rfl
@[simp] theorem ixD_ext (m : List R) (xs : List D) (i : Int) : ixD m (.ext xs) (.int i) = L2.atI xs i := rfl
theorem ixD_res {m : List R} {k : Nat} {xs : List D} (i : Int) (h : m[k]? = some (.lst xs)) : ixD m (.res k) (.int i) = L2.atI xs i := by
  show (sq m (.res k)).bind (fun xs => L2.atI xs i) = _
  rw [sq_res h]
  rfl
@[simp] theorem ixD_top (m l : List R) (xs : List D) (i : Int) : ixD (m ++ R.lst xs :: l) (.res m.length) (.int i) = L2.atI xs i := ixD_res i get_app0
theorem atI_at {α : Type} {xs : List α} {i : Nat} {x : α} (h : xs[i]? = some x) : L2.atI xs (i : Int) = some x := L2.atI_nat h
theorem atI_map {α : Type} {xs : List α} {g : α → D} {i : Nat} {x : α} (h : xs[i]? = some x) : L2.atI (xs.map g) (i : Int) = some (g x) := L2.atI_nat (by rw [List.getElem?_map, h]; rfl)
theorem getD_some {xs : List Nat} {i : Nat} (h : i < xs.length) : xs[i]? = some (xs[i]?.getD 0) := by
  rw [List.getElem?_eq_getElem h]
  rfl
theorem rngD_iN (a b : Nat) : rngD (a : Int) (b : Int) = (List.range' a (b - a)).map iN := by
  unfold rngD
  have : ((b : Int) - (a : Int)).toNat = b - a := by omega
  rw [this, List.range'_eq_map_range, List.map_map]
  refine List.map_congr_left fun x _ => ?_
  simp only [Function.comp_apply, iN]
  congr 1
theorem rngD_0 (b : Nat) : rngD 0 (b : Int) = (List.range b).map iN := by
  have := rngD_iN 0 b
  rw [List.range_eq_range']
  simpa using this
theorem flat_rep (x : D) : ∀ n : Nat, (List.replicate n [x]).flatten = List.replicate n x
  | 0 => rfl
  | n + 1 => by
    rw [List.replicate_succ, List.flatten_cons, flat_rep x n]
    rfl
theorem mulD_lst {m : List R} {xs : List D} {k : Int} (c : -(2 ^ 63) ≤ k ∧ k < 2 ^ 63 ∧ xs.length * k.toNat ≤ sizeLine) : mulD true m (.lst xs) (.int k) = some (newL true m (List.replicate k.toNat xs).flatten) := by
  simp only [mulD, lsq, if_pos c]
theorem mulD_rep {m : List R} {x : D} {n : Nat} (h : n ≤ 1000) : mulD true m (.lst [x]) (.int (n : Int)) = some (.res m.length, m ++ [.lst (List.replicate n x)]) := by
  have c : -(2 ^ 63) ≤ (n : Int) ∧ (n : Int) < 2 ^ 63 ∧ [x].length * (n : Int).toNat ≤ sizeLine := by
    refine ⟨by omega, by omega, ?_⟩
    rw [sizeLine_eq, List.length_singleton, Int.toNat_natCast]
    omega
  rw [mulD_lst c, Int.toNat_natCast, flat_rep]
  simp only [newL, if_true]
end Dv

namespace Dv
open PySem PySem.Spec PyProof.Rows L2

/-! ### reckoning step by step: what simp is given -/
theorem q_okP (d : D) (m : List R) : okP (some (d, m)) = some (.ok d m) := rfl
theorem q_okB (b : Bool) (m : List R) : okB m (some b) = some (.ok (.bl b) m) := rfl
def consK (d : D) : Option RsL → Option RsL
  | some (.ok ds m') => some (.ok (d :: ds) m')
  | some (.ex x m') => some (.ex x m')
  | none => none
theorem q_consL (d : D) (m : List R) (f : List R → Option RsL) : consL (some (.ok d m)) f = consK d (f m) := rfl
theorem q_consLx (x : Exn) (m : List R) (f : List R → Option RsL) : consL (some (.ex x m)) f = some (.ex x m) := rfl
theorem q_consK (d : D) (ds : List D) (m : List R) : consK d (some (.ok ds m)) = some (.ok (d :: ds) m) := rfl
theorem q_consKx (d : D) (x : Exn) (m : List R) : consK d (some (.ex x m)) = some (.ex x m) := rfl
theorem q_newT (m : List R) (xs : List D) : newL true m xs = (.res m.length, m ++ [.lst xs]) := rfl
theorem q_newF (m : List R) (xs : List D) : newL false m xs = (.lst xs, m) := rfl
theorem q_le {n : Nat} (h : n ≤ 16000000) : (n ≤ sizeLine) = True := by
  rw [sizeLine_eq]
  exact eq_true (by omega)
theorem q_lt {n : Nat} (h : n ≤ 16000000) : (n < sizeLine) = True := by
  rw [sizeLine_eq]
  exact eq_true (by omega)
/-! operators -/
theorem q_add (mu : Bool) (m : List R) (a b : Int) : bopD .add mu m (.int a) (.int b) = some (.int (a + b), m) := rfl
theorem q_sub (mu : Bool) (m : List R) (a b : Int) : bopD .sub mu m (.int a) (.int b) = some (.int (a - b), m) := rfl
theorem q_mulr {mu : Bool} {m : List R} {a b : Int} (h1 : -18446744073709551616 < b) (h2 : b < 18446744073709551616) : bopD .mul mu m (.int a) (.int b) = some (.int (a * b), m) := by
  show mulD mu m (.int a) (.int b) = _
  exact if_pos (.inr ⟨h1, h2⟩)
theorem q_mull {mu : Bool} {m : List R} {a b : Int} (h1 : -18446744073709551616 < a) (h2 : a < 18446744073709551616) : bopD .mul mu m (.int a) (.int b) = some (.int (a * b), m) := by
  show mulD mu m (.int a) (.int b) = _
  exact if_pos (.inl ⟨h1, h2⟩)
theorem q_fdiv {mu : Bool} {m : List R} {a b : Int} (h1 : 0 < b) (h2 : b < 18446744073709551616) : bopD .fdiv mu m (.int a) (.int b) = some (.int (a / b), m) := if_pos ⟨h1, h2⟩
theorem q_mod {mu : Bool} {m : List R} {a b : Int} (h1 : 0 < b) : bopD .mod mu m (.int a) (.int b) = some (.int (a % b), m) := if_pos h1
theorem powD {mu : Bool} {m : List R} {x y z : Int} (h : 0 ≤ y ∧ y ≤ 1000000 ∧ x.natAbs < 2 ^ 64) (e : x ^ y.toNat = z) : bopD .pow mu m (.int x) (.int y) = some (.int z, m) := by
  subst e
  exact if_pos h
theorem q_pow18 (mu : Bool) (m : List R) : bopD .pow mu m (.int 10) (.int 18) = some (.int 1000000000000000000, m) := powD (by decide) (by decide)
theorem q_pow9 (mu : Bool) (m : List R) : bopD .pow mu m (.int 10) (.int 9) = some (.int 1000000000, m) := powD (by decide) (by decide)
theorem q_pow15 (mu : Bool) (m : List R) : bopD .pow mu m (.int 10) (.int 15) = some (.int 1000000000000000, m) := powD (by decide) (by decide)
theorem q_addTT {mu : Bool} {m : List R} {a b : List D} (h : a.length + b.length ≤ 16000000) : bopD .add mu m (.tup a) (.tup b) = some (.tup (a ++ b), m) := by
  show addD mu m (.tup a) (.tup b) = _
  exact if_pos (by rw [sizeLine_eq]; omega)
/-- lists: a, b told by their items -/
theorem q_addLL {mu : Bool} {m : List R} {a b : List D} (h : a.length + b.length ≤ 16000000) : bopD .add mu m (.lst a) (.lst b) = some (newL mu m (a ++ b)) := by
  show addD mu m (.lst a) (.lst b) = _
  simp only [addD, lsq]
  exact if_pos (by rw [sizeLine_eq]; omega)
theorem q_addRL {mu : Bool} {m : List R} {k : Nat} {a b : List D} (hk : m[k]? = some (.lst a)) (h : a.length + b.length ≤ 16000000) : bopD .add mu m (.res k) (.lst b) = some (newL mu m (a ++ b)) := by
  show addD mu m (.res k) (.lst b) = _
  simp only [addD, lsq, hk]
  exact if_pos (by rw [sizeLine_eq]; omega)
theorem q_addLR {mu : Bool} {m : List R} {k : Nat} {a b : List D} (hk : m[k]? = some (.lst b)) (h : a.length + b.length ≤ 16000000) : bopD .add mu m (.lst a) (.res k) = some (newL mu m (a ++ b)) := by
  show addD mu m (.lst a) (.res k) = _
  simp only [addD, lsq, hk]
  exact if_pos (by rw [sizeLine_eq]; omega)
theorem q_addRR {mu : Bool} {m : List R} {k j : Nat} {a b : List D} (hk : m[k]? = some (.lst a)) (hj : m[j]? = some (.lst b)) (h : a.length + b.length ≤ 16000000) : bopD .add mu m (.res k) (.res j) = some (newL mu m (a ++ b)) := by
  show addD mu m (.res k) (.res j) = _
  simp only [addD, lsq, hk, hj]
  exact if_pos (by rw [sizeLine_eq]; omega)
theorem q_addS {mu : Bool} {m : List R} {a b : Str} (h : a.length + b.length ≤ 16000000) : bopD .add mu m (.str a) (.str b) = some (.str (a ++ b), m) := by
  show addD mu m (.str a) (.str b) = _
  exact if_pos (by rw [sizeLine_eq]; omega)
/-- one item many times -/
theorem q_rep1 {mu : Bool} {m : List R} {x : D} {n : Int} (h1 : 0 ≤ n) (h : n ≤ 16000000) : bopD .mul mu m (.lst [x]) (.int n) = some (newL mu m (List.replicate n.toNat x)) := by
  show mulD mu m (.lst [x]) (.int n) = _
  have c : -(2 ^ 63) ≤ (n : Int) ∧ (n : Int) < 2 ^ 63 ∧ [x].length * (n : Int).toNat ≤ sizeLine := by
    refine ⟨by omega, by omega, ?_⟩
    rw [sizeLine_eq, List.length_singleton]
    omega
  simp only [mulD, lsq, if_pos c]
  rw [flat_rep]
/-! comparisons -/
theorem beq_dec {α : Type} [BEq α] [LawfulBEq α] [DecidableEq α] (a b : α) : (a == b) = decide (a = b) := by
  rw [Bool.eq_iff_iff, beq_iff_eq, decide_eq_true_eq]
theorem q_cmpLt (m : List R) (a b : Int) : copD .lt m (.int a) (.int b) = some (decide (a < b)) := rfl
theorem q_cmpLe (m : List R) (a b : Int) : copD .le m (.int a) (.int b) = some (decide (a ≤ b)) := rfl
theorem q_cmpGt (m : List R) (a b : Int) : copD .gt m (.int a) (.int b) = some (decide (b < a)) := rfl
theorem q_cmpGe (m : List R) (a b : Int) : copD .ge m (.int a) (.int b) = some (decide (b ≤ a)) := rfl
theorem q_isN (m : List R) (a : D) : copD .isN m a .non = some (isNon a) := rfl
theorem q_notN (m : List R) (a : D) : copD .notN m a .non = some (!isNon a) := rfl
theorem q_nonN : isNon .non = true := rfl
theorem q_nonI (i : Int) : isNon (.int i) = false := rfl
theorem q_nonS (i : Str) : isNon (.str i) = false := rfl
theorem q_nonT (i : List D) : isNon (.tup i) = false := rfl
theorem q_nonL (i : List D) : isNon (.lst i) = false := rfl
theorem q_nonR (i : Nat) : isNon (.res i) = false := rfl
theorem q_nonB (i : Bool) : isNon (.bl i) = false := rfl
theorem q_nonO (c : Nat) (i : List D) : isNon (.obj c i) = false := rfl
theorem q_eq (m : List R) (a b : D) : copD .eq m a b = eqD m a b := rfl
theorem q_ne (m : List R) (a b : D) : copD .ne m a b = (eqD m a b).map (!·) := rfl
theorem q_inn (m : List R) (a b : D) : copD .inn m a b = inD m a b := rfl
theorem q_nin (m : List R) (a b : D) : copD .nin m a b = (inD m a b).map (!·) := rfl
theorem q_eqI (m : List R) (a b : Int) : eqD m (.int a) (.int b) = some (decide (a = b)) := by
  have h : eqD m (.int a) (.int b) = some (PyData.eqv (.int a) (.int b)) := by
    show (if (PyData.int a).depth ≤ 64 ∧ (PyData.int b).depth ≤ 64 then some (PyData.eqv (.int a) (.int b)) else none) = _
    exact if_pos ⟨Nat.zero_le _, Nat.zero_le _⟩
  rw [h]
  simp only [PyData.eqv, beq_dec]
theorem q_eqB (m : List R) (a b : Bool) : eqD m (.bl a) (.bl b) = some (decide (a = b)) := by
  have h : eqD m (.bl a) (.bl b) = some (PyData.eqv (.bool a) (.bool b)) := by
    show (if (PyData.bool a).depth ≤ 64 ∧ (PyData.bool b).depth ≤ 64 then some (PyData.eqv (.bool a) (.bool b)) else none) = _
    exact if_pos ⟨Nat.zero_le _, Nat.zero_le _⟩
  rw [h]
  simp only [PyData.eqv, beq_dec]

/-! ### data that == compares as it stands -/
mutual
/-- numbers (no truth values), texts, None, and tuples and lists of these; at most n deep -/
def pl : Nat → D → Bool
  | _, .non => true
  | _, .int _ => true
  | _, .str x => PyData.strOk x
  | n, .tup xs => decide (0 < n) && plL (n - 1) xs
  | n, .lst xs => decide (0 < n) && plL (n - 1) xs
  | _, _ => false
def plL : Nat → List D → Bool
  | _, [] => true
  | n, x :: xs => pl n x && plL n xs
end
mutual
theorem pl_pd {m : List R} : ∀ {n : Nat} {d : D}, pl n d = true → ∃ p, pd m d = some p ∧ p.depth ≤ n
  | n, .non, _ => ⟨_, rfl, Nat.zero_le _⟩
  | n, .int i, _ => ⟨_, rfl, Nat.zero_le _⟩
  | n, .str x, h => by
    simp only [pl] at h
    exact ⟨.str x, by simp only [pd, h, if_true], Nat.zero_le _⟩
  | n, .tup xs, h => by
    simp only [pl, Bool.and_eq_true, decide_eq_true_eq] at h
    obtain ⟨p, e, k⟩ := plL_pd (m := m) h.2
    refine ⟨.tuple p, by simp only [pd, e, Option.map_some], ?_⟩
    simp only [PyData.depth]
    omega
  | n, .lst xs, h => by
    simp only [pl, Bool.and_eq_true, decide_eq_true_eq] at h
    obtain ⟨p, e, k⟩ := plL_pd (m := m) h.2
    refine ⟨.list p, by simp only [pd, e, Option.map_some], ?_⟩
    simp only [PyData.depth]
    omega
  | n, .bl b, h => by simp only [pl] at h; cases h
  | n, .ext b, h => by simp only [pl] at h; cases h
  | n, .obj c b, h => by simp only [pl] at h; cases h
  | n, .res c, h => by simp only [pl] at h; cases h
theorem plL_pd {m : List R} : ∀ {n : Nat} {ds : List D}, plL n ds = true → ∃ p, pdL m ds = some p ∧ PyData.depthAll p ≤ n
  | n, [], _ => ⟨_, rfl, Nat.zero_le _⟩
  | n, x :: xs, h => by
    simp only [plL, Bool.and_eq_true] at h
    obtain ⟨p, e, k⟩ := pl_pd (m := m) h.1
    obtain ⟨q, f, l⟩ := plL_pd (m := m) h.2
    refine ⟨p :: q, by simp only [pdL, e, f], ?_⟩
    simp only [PyData.depthAll]
    omega
end
theorem pl_pdR {m : List R} {n : Nat} {d : D} (h : pl n d = true) : ∃ p, pdR m d = some p ∧ p.depth ≤ n := by
  obtain ⟨p, e, k⟩ := pl_pd (m := m) h
  refine ⟨p, ?_, k⟩
  cases d <;> first | exact e | (simp only [pl] at h; cases h)
mutual
theorem eqv_pl {m : List R} : ∀ {n : Nat} {a b : D} {p q : PyData}, pl n a = true → pl n b = true → pd m a = some p → pd m b = some q → (PyData.eqv p q = true ↔ a = b)
  | n, .non, b, p, q, ha, hb, hp, hq => by
    cases hp
    cases b <;> simp only [pl, pd] at hb hq <;> first | cases hb | skip
    · cases hq; simp [PyData.eqv]
    · cases hq; simp [PyData.eqv]
    · rw [if_pos hb] at hq; cases hq; simp [PyData.eqv]
    · simp only [Bool.and_eq_true] at hb
      obtain ⟨p, e, k⟩ := plL_pd (m := m) hb.2
      rw [e] at hq; cases hq; simp [PyData.eqv]
    · simp only [Bool.and_eq_true] at hb
      obtain ⟨p, e, k⟩ := plL_pd (m := m) hb.2
      rw [e] at hq; cases hq; simp [PyData.eqv]
  | n, .int i, b, p, q, ha, hb, hp, hq => by
    simp only [pd] at hp
    cases hp
    cases b <;> simp only [pl, pd] at hb hq <;> first | cases hb | skip
    · cases hq; simp [PyData.eqv]
    · cases hq; simp [PyData.eqv]
    · rw [if_pos hb] at hq; cases hq; simp [PyData.eqv]
    · simp only [Bool.and_eq_true] at hb
      obtain ⟨p, e, k⟩ := plL_pd (m := m) hb.2
      rw [e] at hq; cases hq; simp [PyData.eqv]
    · simp only [Bool.and_eq_true] at hb
      obtain ⟨p, e, k⟩ := plL_pd (m := m) hb.2
      rw [e] at hq; cases hq; simp [PyData.eqv]
  | n, .str x, b, p, q, ha, hb, hp, hq => by
    simp only [pl] at ha
    simp only [pd, ha, if_true] at hp
    cases hp
    cases b <;> simp only [pl, pd] at hb hq <;> first | cases hb | skip
    · cases hq; simp [PyData.eqv]
    · cases hq; simp [PyData.eqv]
    · rw [if_pos hb] at hq; cases hq; simp [PyData.eqv]
    · simp only [Bool.and_eq_true] at hb
      obtain ⟨p, e, k⟩ := plL_pd (m := m) hb.2
      rw [e] at hq; cases hq; simp [PyData.eqv]
    · simp only [Bool.and_eq_true] at hb
      obtain ⟨p, e, k⟩ := plL_pd (m := m) hb.2
      rw [e] at hq; cases hq; simp [PyData.eqv]
  | n, .tup xs, b, p, q, ha, hb, hp, hq => by
    simp only [pl, Bool.and_eq_true] at ha
    obtain ⟨ps, e, k⟩ := plL_pd (m := m) ha.2
    simp only [pd, e, Option.map_some] at hp
    cases hp
    cases b <;> simp only [pl, pd] at hb hq <;> first | cases hb | skip
    · cases hq; simp [PyData.eqv]
    · cases hq; simp [PyData.eqv]
    · rw [if_pos hb] at hq; cases hq; simp [PyData.eqv]
    · simp only [Bool.and_eq_true] at hb
      obtain ⟨p', e', k⟩ := plL_pd (m := m) hb.2
      rw [e'] at hq; cases hq
      simp only [PyData.eqv]
      rw [eqv_plL ha.2 hb.2 e e']
      exact ⟨fun h => by rw [h], fun h => by cases h; rfl⟩
    · simp only [Bool.and_eq_true] at hb
      obtain ⟨p, e, k⟩ := plL_pd (m := m) hb.2
      rw [e] at hq; cases hq; simp [PyData.eqv]
  | n, .lst xs, b, p, q, ha, hb, hp, hq => by
    simp only [pl, Bool.and_eq_true] at ha
    obtain ⟨ps, e, k⟩ := plL_pd (m := m) ha.2
    simp only [pd, e, Option.map_some] at hp
    cases hp
    cases b <;> simp only [pl, pd] at hb hq <;> first | cases hb | skip
    · cases hq; simp [PyData.eqv]
    · cases hq; simp [PyData.eqv]
    · rw [if_pos hb] at hq; cases hq; simp [PyData.eqv]
    · simp only [Bool.and_eq_true] at hb
      obtain ⟨p, e, k⟩ := plL_pd (m := m) hb.2
      rw [e] at hq; cases hq; simp [PyData.eqv]
    · simp only [Bool.and_eq_true] at hb
      obtain ⟨p', e', k⟩ := plL_pd (m := m) hb.2
      rw [e'] at hq; cases hq
      simp only [PyData.eqv]
      rw [eqv_plL ha.2 hb.2 e e']
      exact ⟨fun h => by rw [h], fun h => by cases h; rfl⟩
  | n, .bl i, b, p, q, ha, hb, hp, hq => by simp only [pl] at ha; cases ha
  | n, .ext i, b, p, q, ha, hb, hp, hq => by simp only [pl] at ha; cases ha
  | n, .obj c i, b, p, q, ha, hb, hp, hq => by simp only [pl] at ha; cases ha
  | n, .res c, b, p, q, ha, hb, hp, hq => by simp only [pl] at ha; cases ha
theorem eqv_plL {m : List R} : ∀ {n : Nat} {a b : List D} {p q : List PyData}, plL n a = true → plL n b = true → pdL m a = some p → pdL m b = some q → (PyData.eqvAll p q = true ↔ a = b)
  | n, [], [], p, q, _, _, hp, hq => by cases hp; cases hq; simp [PyData.eqvAll]
  | n, [], y :: ys, p, q, _, hb, hp, hq => by
    cases hp
    simp only [plL, Bool.and_eq_true] at hb
    obtain ⟨p1, e1, _⟩ := pl_pd (m := m) hb.1
    obtain ⟨p2, e2, _⟩ := plL_pd (m := m) hb.2
    simp only [pdL, e1, e2] at hq
    cases hq
    simp [PyData.eqvAll]
  | n, x :: xs, [], p, q, ha, _, hp, hq => by
    cases hq
    simp only [plL, Bool.and_eq_true] at ha
    obtain ⟨p1, e1, _⟩ := pl_pd (m := m) ha.1
    obtain ⟨p2, e2, _⟩ := plL_pd (m := m) ha.2
    simp only [pdL, e1, e2] at hp
    cases hp
    simp [PyData.eqvAll]
  | n, x :: xs, y :: ys, p, q, ha, hb, hp, hq => by
    simp only [plL, Bool.and_eq_true] at ha hb
    obtain ⟨p1, e1, _⟩ := pl_pd (m := m) ha.1
    obtain ⟨p2, e2, _⟩ := plL_pd (m := m) ha.2
    obtain ⟨p3, e3, _⟩ := pl_pd (m := m) hb.1
    obtain ⟨p4, e4, _⟩ := plL_pd (m := m) hb.2
    simp only [pdL, e1, e2] at hp
    simp only [pdL, e3, e4] at hq
    cases hp
    cases hq
    simp only [PyData.eqvAll, Bool.and_eq_true]
    rw [eqv_pl ha.1 hb.1 e1 e3, eqv_plL ha.2 hb.2 e2 e4]
    constructor
    · rintro ⟨rfl, rfl⟩; rfl
    · intro h; cases h; exact ⟨rfl, rfl⟩
end
theorem eqD_iff {m : List R} {a b : D} (ha : pl 60 a = true) (hb : pl 60 b = true) : ∃ c, eqD m a b = some c ∧ (c = true ↔ a = b) := by
  obtain ⟨p, e, k⟩ := pl_pdR (m := m) ha
  obtain ⟨q, f, l⟩ := pl_pdR (m := m) hb
  refine ⟨PyData.eqv p q, ?_, ?_⟩
  · simp only [eqD, e, f]
    exact if_pos ⟨by omega, by omega⟩
  · refine eqv_pl (m := m) ha hb ?_ ?_
    · cases a <;> first | exact e | (simp only [pl] at ha; cases ha)
    · cases b <;> first | exact f | (simp only [pl] at hb; cases hb)
theorem eqD_t {m : List R} {a : D} (ha : pl 60 a = true) : eqD m a a = some true := by
  obtain ⟨c, e, k⟩ := eqD_iff (m := m) ha ha
  rw [e, k.mpr rfl]
theorem eqD_f {m : List R} {a b : D} (ha : pl 60 a = true) (hb : pl 60 b = true) (h : a ≠ b) : eqD m a b = some false := by
  obtain ⟨c, e, k⟩ := eqD_iff (m := m) ha hb
  rw [e]
  cases c with
  | false => rfl
  | true => exact absurd (k.mp rfl) h
theorem eqD_resl {m : List R} {k : Nat} {xs : List D} {b : D} (h : m[k]? = some (.lst xs)) : eqD m (.res k) b = eqD m (.lst xs) b := by
  have e : pdR m (.res k) = pdR m (.lst xs) := by simp only [pdR, h, pd]
  simp only [eqD, e]
theorem eqD_resr {m : List R} {k : Nat} {xs : List D} {a : D} (h : m[k]? = some (.lst xs)) : eqD m a (.res k) = eqD m a (.lst xs) := by
  have e : pdR m (.res k) = pdR m (.lst xs) := by simp only [pdR, h, pd]
  simp only [eqD, e]
theorem pl_int (n : Nat) (i : Int) : pl n (.int i) = true := by simp only [pl]
theorem pl_iN (n : Nat) (i : Nat) : pl n (iN i) = true := by simp only [pl, iN]
theorem pl_non (n : Nat) : pl n .non = true := by simp only [pl]
theorem pl_str {n : Nat} {x : Str} (h : PyData.strOk x = true) : pl n (.str x) = true := by simp only [pl, h]
theorem pl_tup {n : Nat} {xs : List D} (h : plL n xs = true) : pl (n + 1) (.tup xs) = true := by simp [pl, h]
theorem pl_lst {n : Nat} {xs : List D} (h : plL n xs = true) : pl (n + 1) (.lst xs) = true := by simp [pl, h]
theorem plL_all {n : Nat} : ∀ {xs : List D}, (∀ x ∈ xs, pl n x = true) → plL n xs = true
  | [], _ => by simp only [plL]
  | x :: xs, h => by
    simp only [plL, Bool.and_eq_true]
    exact ⟨h x List.mem_cons_self, plL_all fun y hy => h y (List.mem_cons_of_mem _ hy)⟩
theorem plL_map {α : Type} {n : Nat} {f : α → D} {xs : List α} (h : ∀ x ∈ xs, pl n (f x) = true) : plL n (xs.map f) = true := plL_all fun y hy => by
  obtain ⟨x, hx, rfl⟩ := List.mem_map.mp hy
  exact h x hx
theorem plL_iN (n : Nat) (xs : List Nat) : plL n (xs.map iN) = true := plL_map fun x _ => pl_iN n x
theorem plL_ints (n : Nat) (xs : List Int) : plL n (xs.map .int) = true := plL_map fun x _ => pl_int n x
theorem plL_mem {n : Nat} : ∀ {xs : List D} {x : D}, plL n xs = true → x ∈ xs → pl n x = true
  | [], _, _, h => by cases h
  | y :: ys, x, h, hx => by
    simp only [plL, Bool.and_eq_true] at h
    rcases List.mem_cons.mp hx with e | e
    · rw [e]; exact h.1
    · exact plL_mem h.2 e
mutual
theorem pl_mono : ∀ {n k : Nat} {d : D}, n ≤ k → pl n d = true → pl k d = true
  | n, k, .non, _, _ => by simp only [pl]
  | n, k, .int _, _, _ => by simp only [pl]
  | n, k, .str _, _, h => by simp only [pl] at h ⊢; exact h
  | n, k, .tup xs, l, h => by
    simp only [pl, Bool.and_eq_true, decide_eq_true_eq] at h ⊢
    exact ⟨by omega, plL_mono (by omega) h.2⟩
  | n, k, .lst xs, l, h => by
    simp only [pl, Bool.and_eq_true, decide_eq_true_eq] at h ⊢
    exact ⟨by omega, plL_mono (by omega) h.2⟩
  | n, k, .bl b, _, h => by simp only [pl] at h; cases h
  | n, k, .ext b, _, h => by simp only [pl] at h; cases h
  | n, k, .obj c b, _, h => by simp only [pl] at h; cases h
  | n, k, .res c, _, h => by simp only [pl] at h; cases h
theorem plL_mono : ∀ {n k : Nat} {d : List D}, n ≤ k → plL n d = true → plL k d = true
  | n, k, [], _, _ => by simp only [plL]
  | n, k, x :: xs, l, h => by
    simp only [plL, Bool.and_eq_true] at h ⊢
    exact ⟨pl_mono l h.1, plL_mono l h.2⟩
end
mutual
theorem okD_pl {k : Nat} : ∀ {n : Nat} {d : D}, pl n d = true → okD k d = true
  | n, .non, _ => by simp only [okD]
  | n, .int i, _ => by simp only [okD]
  | n, .str x, h => by simp only [okD]
  | n, .tup xs, h => by
    simp only [pl, Bool.and_eq_true] at h
    simp only [okD]
    exact okDL_pl h.2
  | n, .lst xs, h => by
    simp only [pl, Bool.and_eq_true] at h
    simp only [okD]
    exact okDL_pl h.2
  | n, .bl b, h => by simp only [pl] at h; cases h
  | n, .ext b, h => by simp only [pl] at h; cases h
  | n, .obj c b, h => by simp only [pl] at h; cases h
  | n, .res c, h => by simp only [pl] at h; cases h
theorem okDL_pl {k : Nat} : ∀ {n : Nat} {d : List D}, plL n d = true → okDL k d = true
  | n, [], _ => by simp only [okDL]
  | n, x :: xs, h => by
    simp only [plL, Bool.and_eq_true] at h
    simp only [okDL, Bool.and_eq_true]
    exact ⟨okD_pl h.1, okDL_pl h.2⟩
end
end Dv

namespace Dv
open PySem PySem.Spec PyProof.Rows L2

/-! ### the code, step by step, without a match in sight -/
def varK (m : List R) : Option (Option D) → Option Rs
  | some (some d) => some (.ok d m)
  | _ => none
theorem varK_ok (m : List R) (d : D) : varK m (some (some d)) = some (.ok d m) := rfl
def negK (x : D) (m : List R) : Option Rs := match x with
  | .int i => some (.ok (.int (-i)) m)
  | _ => none
theorem negK_ok (i : Int) (m : List R) : negK (.int i) m = some (.ok (.int (-i)) m) := rfl
def chnK (m : List R) (k : Option Rs) : Option Bool → Option Rs
  | some true => k
  | some false => some (.ok (.bl false) m)
  | none => none
theorem chnK_t (m : List R) (k : Option Rs) : chnK m k (some true) = k := rfl
theorem chnK_f (m : List R) (k : Option Rs) : chnK m k (some false) = some (.ok (.bl false) m) := rfl
def andK (k : List R → Option Rs) (x : D) (m : List R) : Option Rs := match x with
  | .bl true => k m
  | .bl false => some (.ok (.bl false) m)
  | _ => none
theorem andK_t (k : List R → Option Rs) (m : List R) : andK k (.bl true) m = k m := rfl
theorem andK_f (k : List R → Option Rs) (m : List R) : andK k (.bl false) m = some (.ok (.bl false) m) := rfl
def orK (k : List R → Option Rs) (x : D) (m : List R) : Option Rs := match x with
  | .bl false => k m
  | .bl true => some (.ok (.bl true) m)
  | _ => none
theorem orK_t (k : List R → Option Rs) (m : List R) : orK k (.bl false) m = k m := rfl
theorem orK_f (k : List R → Option Rs) (m : List R) : orK k (.bl true) m = some (.ok (.bl true) m) := rfl
def notK (x : D) (m : List R) : Option Rs := match x with
  | .bl b => some (.ok (.bl (!b)) m)
  | _ => none
theorem notK_ok (b : Bool) (m : List R) : notK (.bl b) m = some (.ok (.bl (!b)) m) := rfl
def iteK (a b : List R → Option Rs) (x : D) (m : List R) : Option Rs := match x with
  | .bl true => a m
  | .bl false => b m
  | _ => none
theorem iteK_t (a b : List R → Option Rs) (m : List R) : iteK a b (.bl true) m = a m := rfl
theorem iteK_f (a b : List R → Option Rs) (m : List R) : iteK a b (.bl false) m = b m := rfl
def rglK (b mu : Bool) (s : Src) (m : List R) : Option Rs := match s with
  | .fix xs => if xs.length ≤ 4000 then (if b then okP (some (newL mu m xs)) else some (.ok (.tup xs) m)) else none
  | _ => none
theorem rglK_t {mu : Bool} {xs : List D} {m : List R} (h : xs.length ≤ 4000) : rglK true mu (.fix xs) m = okP (some (newL mu m xs)) := if_pos h
theorem rglK_f {mu : Bool} {xs : List D} {m : List R} (h : xs.length ≤ 4000) : rglK false mu (.fix xs) m = some (.ok (.tup xs) m) := if_pos h
def mthK (f : Mt) (x : D) (m : List R) (k : List R → Option Rs) : Bool → Option Rs
  | true => k m
  | false => none
theorem mthK_t (f : Mt) (x : D) (m : List R) (k : List R → Option Rs) : mthK f x m k true = k m := rfl
def omtK (g : Gt) (n : Str) (k : Nat) (c : Nat → Option Rs) : Option Nat → Option Rs
  | some cl => match g.meth cl n k with
    | some f => c f
    | none => none
  | none => none
def smK (c : Nat → Option Rs) : Option Nat → Option Rs
  | some f => c f
  | none => none
theorem smK_ok (c : Nat → Option Rs) (f : Nat) : smK c (some f) = c f := rfl
theorem omtK_ok (g : Gt) (n : Str) (k : Nat) (c : Nat → Option Rs) (cl : Nat) : omtK g n k c (some cl) = smK c (g.meth cl n k) := by
  unfold omtK smK
  rfl
def fldK (m : List R) : Option D → Option Rs
  | some d => some (.ok d m)
  | none => none
theorem fldK_ok (m : List R) (d : D) : fldK m (some d) = some (.ok d m) := rfl
def attK (g : Gt) (f : Str) (x : D) (m : List R) : Option Nat → Option Rs
  | some c => match g.prop c f with
    | some p => g.F p [x] m
    | none => fldK m (fldD g.nm m f x)
  | none => none
def att2 (g : Gt) (f : Str) (x : D) (m : List R) : Option Nat → Option Rs
  | some p => g.F p [x] m
  | none => fldK m (fldD g.nm m f x)
theorem attK_ok (g : Gt) (f : Str) (x : D) (m : List R) (c : Nat) : attK g f x m (some c) = att2 g f x m (g.prop c f) := rfl
theorem att2_p (g : Gt) (f : Str) (x : D) (m : List R) (p : Nat) : att2 g f x m (some p) = g.F p [x] m := rfl
theorem att2_f (g : Gt) (f : Str) (x : D) (m : List R) : att2 g f x m none = fldK m (fldD g.nm m f x) := rfl
def cprK (mu : Bool) : Option (List D × List R) → Option Rs
  | some (ys, m) => okP (some (newL mu m ys))
  | none => none
theorem cprK_ok (mu : Bool) (ys : List D) (m : List R) : cprK mu (some (ys, m)) = okP (some (newL mu m ys)) := rfl
def ioK (k : Option Int → List R → Option Rs) (x : D) (m : List R) : Option Rs := match x with
  | .int i => k (some i) m
  | _ => none
theorem ioK_ok (k : Option Int → List R → Option Rs) (i : Int) (m : List R) : ioK k (.int i) m = k (some i) m := rfl
def liveK (j : Nat) (m : List R) : Option R → Option RsI
  | some (.lst xs) => some (.ok (.live j xs.length) m)
  | _ => none
theorem liveK_ok (j : Nat) (m : List R) (xs : List D) : liveK j m (some (.lst xs)) = some (.ok (.live j xs.length) m) := rfl
def seqK (x : D) (m : List R) : Option RsI := match x with
  | .tup xs => some (.ok (.fix xs) m)
  | .lst xs => some (.ok (.fix xs) m)
  | .ext xs => some (.ok (.fix xs) m)
  | .str z => some (.ok (.fix (signsD z)) m)
  | .res j => liveK j m m[j]?
  | _ => none
theorem seqK_t (xs : List D) (m : List R) : seqK (.tup xs) m = some (.ok (.fix xs) m) := rfl
theorem seqK_l (xs : List D) (m : List R) : seqK (.lst xs) m = some (.ok (.fix xs) m) := rfl
theorem seqK_e (xs : List D) (m : List R) : seqK (.ext xs) m = some (.ok (.fix xs) m) := rfl
theorem seqK_s (xs : Str) (m : List R) : seqK (.str xs) m = some (.ok (.fix (signsD xs)) m) := rfl
theorem seqK_r (j : Nat) (m : List R) : seqK (.res j) m = liveK j m m[j]? := rfl
def rg1K (x : D) (m : List R) : Option RsI := match x with
  | .int i => if smallI i then some (.ok (.fix (rngD 0 i)) m) else none
  | _ => none
theorem rg1K_ok {i : Int} {m : List R} (h1 : -4611686018427387904 ≤ i) (h2 : i < 4611686018427387904) : rg1K (.int i) m = some (.ok (.fix (rngD 0 i)) m) := if_pos (decide_eq_true ⟨h1, h2⟩)
def rg2K (x y : D) (m : List R) : Option RsI := match x, y with
  | .int i, .int j => if smallI i && smallI j then some (.ok (.fix (rngD i j)) m) else none
  | _, _ => none
theorem rg2K_ok {i j : Int} {m : List R} (h1 : -4611686018427387904 ≤ i) (h2 : i < 4611686018427387904) (h3 : -4611686018427387904 ≤ j) (h4 : j < 4611686018427387904) : rg2K (.int i) (.int j) m = some (.ok (.fix (rngD i j)) m) :=
  if_pos (by rw [Bool.and_eq_true]; exact ⟨decide_eq_true ⟨h1, h2⟩, decide_eq_true ⟨h3, h4⟩⟩)
def enuK (m : List R) : Option (List D) → Option RsI
  | some xs => some (.ok (.fix (enuD xs)) m)
  | none => none
theorem enuK_ok (m : List R) (xs : List D) : enuK m (some xs) = some (.ok (.fix (enuD xs)) m) := rfl
def zipK (m : List R) : Option (List D) → Option (List D) → Option RsI
  | some xs, some ys => some (.ok (.fix (zipD xs ys)) m)
  | _, _ => none
theorem zipK_ok (m : List R) (xs ys : List D) : zipK m (some xs) (some ys) = some (.ok (.fix (zipD xs ys)) m) := rfl
def ezpK (m : List R) : Option (List D) → Option (List D) → Option RsI
  | some xs, some ys => some (.ok (.fix (enuD (zipD xs ys))) m)
  | _, _ => none
theorem ezpK_ok (m : List R) (xs ys : List D) : ezpK m (some xs) (some ys) = some (.ok (.fix (enuD (zipD xs ys))) m) := rfl
section
variable (g : Gt) (ρ : Ro) (m : List R)
theorem x_var (i : Nat) : evE g (.var i) ρ m = varK m ρ[i]? := by
  rw [evE]; unfold varK; rfl
theorem x_cst (d : D) : evE g (.cst d) ρ m = some (.ok d m) := by rw [evE]
theorem x_bop (o : Bop) (mu : Bool) (a b : E) : evE g (.bop o mu a b) ρ m = bnd (evE g a ρ m) fun x m => bnd (evE g b ρ m) fun y m => okP (bopD o mu m x y) := by rw [evE]
theorem x_neg (a : E) : evE g (.neg a) ρ m = bnd (evE g a ρ m) negK := by rw [evE]; rfl
theorem x_cmp (o : Cop) (a b : E) : evE g (.cmp o a b) ρ m = bnd (evE g a ρ m) fun x m => bnd (evE g b ρ m) fun y m => okB m (copD o m x y) := by rw [evE]
theorem x_chn (o p : Cop) (a b c : E) : evE g (.chn o p a b c) ρ m = bnd (evE g a ρ m) fun x m => bnd (evE g b ρ m) fun y m => chnK m (bnd (evE g c ρ m) fun z m => okB m (copD p m y z)) (copD o m x y) := by
  rw [evE]
  rfl
theorem x_and (a b : E) : evE g (.and a b) ρ m = bnd (evE g a ρ m) (andK (evE g b ρ)) := by rw [evE]; rfl
theorem x_or (a b : E) : evE g (.or a b) ρ m = bnd (evE g a ρ m) (orK (evE g b ρ)) := by rw [evE]; rfl
theorem x_not (a : E) : evE g (.not a) ρ m = bnd (evE g a ρ m) notK := by rw [evE]; rfl
theorem x_ite (c a b : E) : evE g (.ite c a b) ρ m = bnd (evE g c ρ m) (iteK (evE g a ρ) (evE g b ρ)) := by rw [evE]; rfl
theorem x_tup (es : Es) : evE g (.tup es) ρ m = bndL (evL g es ρ m) fun ds m => if ds.length ≤ sizeLine then some (.ok (.tup ds) m) else none := by rw [evE]
theorem x_lst (mu : Bool) (es : Es) : evE g (.lst mu es) ρ m = bndL (evL g es ρ m) fun ds m => if ds.length ≤ sizeLine then okP (some (newL mu m ds)) else none := by rw [evE]
theorem x_ix (a b : E) : evE g (.ix a b) ρ m = bnd (evE g a ρ m) fun x m => bnd (evE g b ρ m) fun y m => fldK m (ixD m x y) := by
  rw [evE]
  congr 1
  funext x m
  congr 1
  funext y m
  unfold fldK
  cases ixD m x y <;> rfl
theorem x_sl (mu : Bool) (a : E) (lo hi : Oe) : evE g (.sl mu a lo hi) ρ m = bnd (evE g a ρ m) fun x m => evO g lo ρ m fun l m => evO g hi ρ m fun h m => okP (slD mu m x l h) := by rw [evE]
theorem x_rsl (a k : E) : evE g (.rsl a k) ρ m = bnd (evE g a ρ m) fun x m => bnd (evE g k ρ m) fun y m => okP (rslD m x y) := by rw [evE]
theorem q_rslT (m : List R) (xs : List D) : rslD m (.tup xs) (.int (-1)) = some (.tup xs.reverse, m) := rfl
theorem x_cal (f : Nat) (es : Es) : evE g (.cal f es) ρ m = bndL (evL g es ρ m) fun ds m => g.F f ds m := by rw [evE]
theorem x_mk (f : Nat) (es : Es) : evE g (.mk f es) ρ m = bndL (evL g es ρ m) fun ds m => g.new f ds m := by rw [evE]
theorem x_bi (b : Bi) (mu : Bool) (es : Es) : evE g (.bi b mu es) ρ m = bndL (evL g es ρ m) fun ds m => okP (biD b mu m ds) := by rw [evE]
theorem x_rgl (b mu : Bool) (it : It) : evE g (.rgl b mu it) ρ m = bndI (evI g it ρ m) (rglK b mu) := by rw [evE]; rfl
theorem x_isi (a : E) (ts : List Ty) : evE g (.isi a ts) ρ m = bnd (evE g a ρ m) fun x m => okB m (isiD m x ts) := by rw [evE]
theorem x_mth (f : Mt) (a : E) (es : Es) : evE g (.mth f a es) ρ m = bnd (evE g a ρ m) fun x m => mthK f x m (fun m => bndL (evL g es ρ m) fun ds m => okP (mtD f m x ds)) (mtOk f m x) := by
  rw [evE]
  congr 1
  funext x m
  cases h : mtOk f m x <;> rfl
theorem x_omt (n : Str) (a : E) (es : Es) : evE g (.omt n a es) ρ m = bnd (evE g a ρ m) fun x m => omtK g n es.len (fun f => bndL (evL g es ρ m) fun ds m => g.F f (x :: ds) m) (insD m n x) := by
  rw [evE]
  congr 1
theorem x_att (a : E) (f : Str) : evE g (.att a f) ρ m = bnd (evE g a ρ m) fun x m => attK g f x m (clsD m x) := by
  rw [evE]
  congr 1
theorem x_sst (mu : Bool) (a : E) : evE g (.sst mu a) ρ m = bnd (evE g a ρ m) fun x m => okP (sstD mu m x) := by rw [evE]
theorem x_cpr (mu : Bool) (elt : E) (tg : G) (it : It) (cond : E) (own : List Nat) : evE g (.cmpr mu elt tg it cond own) ρ m = bndI (evI g it ρ m) fun s m => cprK mu (compD (compT tg own (evE g cond) (evE g elt) ρ) s m) := by
  rw [evE]
  congr 1
theorem x_nilL : evL g .nil ρ m = some (.ok [] m) := by rw [evL]
theorem x_consL (e : E) (r : Es) : evL g (.cons e r) ρ m = consL (evE g e ρ m) fun m => evL g r ρ m := by rw [evL]
theorem x_non (k : Option Int → List R → Option Rs) : evO g .non ρ m k = k none m := by rw [evO]
theorem x_some (e : E) (k : Option Int → List R → Option Rs) : evO g (.some e) ρ m k = bnd (evE g e ρ m) (ioK k) := by rw [evO]; rfl
theorem x_seq (e : E) : evI g (.seq e) ρ m = toI (evE g e ρ m) seqK := by
  rw [evI]
  congr 1
theorem x_rg1 (e : E) : evI g (.rg1 e) ρ m = toI (evE g e ρ m) rg1K := by rw [evI]; rfl
theorem x_rg2 (a b : E) : evI g (.rg2 a b) ρ m = toI (evE g a ρ m) fun x m => toI (evE g b ρ m) fun y m => rg2K x y m := by rw [evI]; rfl
theorem x_enu (a : E) : evI g (.enu a) ρ m = toI (evE g a ρ m) fun x m => enuK m (fsq x) := by rw [evI]; rfl
theorem x_zip (a b : E) : evI g (.zip a b) ρ m = toI (evE g a ρ m) fun x m => toI (evE g b ρ m) fun y m => zipK m (fsq x) (fsq y) := by rw [evI]; rfl
theorem x_ezp (a b : E) : evI g (.ezp a b) ρ m = toI (evE g a ρ m) fun x m => toI (evE g b ρ m) fun y m => ezpK m (fsq x) (fsq y) := by rw [evI]; rfl
end
/-! statements -/
def sqK (k : Ro → List R → Option SO) : Option SO → Option SO
  | some (.nx ρ m) => k ρ m
  | o => o
theorem sqK_nx (k : Ro → List R → Option SO) (ρ : Ro) (m : List R) : sqK k (some (.nx ρ m)) = k ρ m := rfl
theorem sqK_rt (k : Ro → List R → Option SO) (d : D) (m : List R) : sqK k (some (.rt d m)) = some (.rt d m) := rfl
theorem sqK_bk (k : Ro → List R → Option SO) (ρ : Ro) (m : List R) : sqK k (some (.bk ρ m)) = some (.bk ρ m) := rfl
theorem sqK_ct (k : Ro → List R → Option SO) (ρ : Ro) (m : List R) : sqK k (some (.ct ρ m)) = some (.ct ρ m) := rfl
theorem sqK_ex (k : Ro → List R → Option SO) (x : Exn) (ρ : Ro) (m : List R) : sqK k (some (.ex x ρ m)) = some (.ex x ρ m) := rfl
theorem sqK_none (k : Ro → List R → Option SO) : sqK k none = none := rfl
def ifK (a b : List R → Option SO) (x : D) (m : List R) : Option SO := match x with
  | .bl true => a m
  | .bl false => b m
  | _ => none
theorem ifK_t (a b : List R → Option SO) (m : List R) : ifK a b (.bl true) m = a m := rfl
theorem ifK_f (a b : List R → Option SO) (m : List R) : ifK a b (.bl false) m = b m := rfl
def augK (k : D → Option SO) : Option (Option D) → Option SO
  | some (some x) => k x
  | _ => none
theorem augK_ok (k : D → Option SO) (x : D) : augK k (some (some x)) = k x := rfl
section
variable (g : Gt) (ρ : Ro) (m : List R)
theorem y_pass : evS g .pass ρ m = some (.nx ρ m) := by rw [evS]
theorem y_brk : evS g .brk ρ m = some (.bk ρ m) := by rw [evS]
theorem y_cnt : evS g .cnt ρ m = some (.ct ρ m) := by rw [evS]
theorem y_never : evS g .never ρ m = none := by rw [evS]
theorem y_expr (e : E) : evS g (.expr e) ρ m = bndS (evE g e ρ m) ρ fun _ m => some (.nx ρ m) := by rw [evS]
theorem y_ret (e : E) : evS g (.ret e) ρ m = bndS (evE g e ρ m) ρ fun d m => some (.rt d m) := by rw [evS]
theorem y_retN : evS g .retN ρ m = some (.rt .non m) := by rw [evS]
theorem y_asg (t : G) (e : E) : evS g (.asg t e) ρ m = bndS (evE g e ρ m) ρ fun d m => (setG t d ρ).map fun ρ' => .nx ρ' m := by rw [evS]
theorem y_aug (i : Nat) (o : Bop) (e : E) : evS g (.aug i o e) ρ m = augK (fun x => bndS (evE g e ρ m) ρ fun y m => (augD o x y).map fun z => .nx (ρ.set i (some z)) m) ρ[i]? := by
  rw [evS]; unfold augK; rfl
theorem y_ifs (c : E) (a b : Ss) : evS g (.ifs c a b) ρ m = bndS (evE g c ρ m) ρ (ifK (evSs g a ρ) (evSs g b ρ)) := by rw [evS]; rfl
theorem y_whl (n : Nat) (c : E) (b : Ss) : evS g (.whl n c b) ρ m = whlD (evE g c) (evSs g b) n ρ m := by rw [evS]
theorem y_forr (t : G) (it : It) (b : Ss) : evS g (.forr t it b) ρ m = bndSI (evI g it ρ m) ρ fun s m => forD (bodyD t (evSs g b)) s ρ m := by rw [evS]
theorem y_sti (o i e : E) : evS g (.sti o i e) ρ m = bndS (evE g e ρ m) ρ fun d m => bndS (evE g o ρ m) ρ fun x m => bndS (evE g i ρ m) ρ fun j m => (stiD m x j d).map fun m => .nx ρ m := by rw [evS]
theorem y_stf (o e : E) (f : Str) : evS g (.stf o f e) ρ m = bndS (evE g e ρ m) ρ fun d m => bndS (evE g o ρ m) ρ fun x m => (stfD g m x f d).map fun m => .nx ρ m := by rw [evS]
theorem y_nil : evSs g .nil ρ m = some (.nx ρ m) := by rw [evSs]
theorem y_cons (s : S) (r : Ss) : evSs g (.cons s r) ρ m = sqK (evSs g r) (evS g s ρ m) := by
  rw [evSs]; unfold sqK
  cases evS g s ρ m with
  | none => rfl
  | some o => cases o <;> rfl
end
theorem forD_fix (t : D → Ro → List R → Option SO) (xs : List D) (ρ : Ro) (m : List R) : forD t (.fix xs) ρ m = forF t xs ρ m := rfl
theorem forD_live (t : D → Ro → List R → Option SO) (k n : Nat) (ρ : Ro) (m : List R) : forD t (.live k n) ρ m = forV t k n 0 ρ m := rfl
theorem compD_fix (f : D → List R → Option (Option D × List R)) (xs : List D) (m : List R) : compD f (.fix xs) m = compL f xs [] m := rfl
theorem compD_live (f : D → List R → Option (Option D × List R)) (k n : Nat) (m : List R) : compD f (.live k n) m = compV f k n 0 [] m := rfl
/-! a turn -/
def envK (k : Ro → Option SO) : Option Ro → Option SO
  | some ρ => k ρ
  | none => none
theorem envK_ok (k : Ro → Option SO) (ρ : Ro) : envK k (some ρ) = k ρ := rfl
theorem y_body (t : G) (k : Ro → List R → Option SO) (d : D) (ρ : Ro) (m : List R) : bodyD t k d ρ m = envK (fun ρ' => k ρ' m) (setG t d ρ) := by
  unfold bodyD envK; rfl
def cndK (e : List R → Option Rs) : Option Rs → Option (Option D × List R)
  | some (.ok (.bl true) m) => match e m with
    | some (.ok d m) => some (some d, m)
    | _ => none
  | some (.ok (.bl false) m) => some (none, m)
  | _ => none
def eltK : Option Rs → Option (Option D × List R)
  | some (.ok d m) => some (some d, m)
  | _ => none
theorem eltK_ok (d : D) (m : List R) : eltK (some (.ok d m)) = some (some d, m) := rfl
theorem cndK_t (e : List R → Option Rs) (m : List R) : cndK e (some (.ok (.bl true) m)) = eltK (e m) := by
  unfold cndK eltK; rfl
theorem cndK_f (e : List R → Option Rs) (m : List R) : cndK e (some (.ok (.bl false) m)) = some (none, m) := rfl
def envC (k : Ro → Option (Option D × List R)) : Option Ro → Option (Option D × List R)
  | some ρ => k ρ
  | none => none
theorem envC_ok (k : Ro → Option (Option D × List R)) (ρ : Ro) : envC k (some ρ) = k ρ := rfl
theorem x_turn (tg : G) (own : List Nat) (c e : Ro → List R → Option Rs) (ρ : Ro) (x : D) (m : List R) : compT tg own c e ρ x m = envC (fun ρ' => cndK (fun m => e ρ' m) (c ρ' m)) (setG tg x (wipeD ρ own)) := by
  unfold compT envC
  cases setG tg x (wipeD ρ own) with
  | none => rfl
  | some ρ' =>
    simp only
    cases c ρ' m with
    | none => rfl
    | some o =>
      cases o with
      | ex x m => rfl
      | ok d m =>
        cases d with
        | bl b => cases b <;> rfl
        | _ => rfl
theorem w_nm (i : Nat) (d : D) (ρ : Ro) : setG (.nm i) d ρ = some (ρ.set i (some d)) := by rw [setG]
theorem w_tp (gs : Gs) (ds : List D) (ρ : Ro) : setG (.tp gs) (.tup ds) ρ = setGs gs ds ρ := by rw [setG]
theorem w_tpL (gs : Gs) (ds : List D) (ρ : Ro) : setG (.tp gs) (.lst ds) ρ = setGs gs ds ρ := by rw [setG]
theorem w_nil (ρ : Ro) : setGs .nil [] ρ = some ρ := by rw [setGs]
def setK (gs : Gs) (ds : List D) : Option Ro → Option Ro
  | some ρ => setGs gs ds ρ
  | none => none
theorem setK_ok (gs : Gs) (ds : List D) (ρ : Ro) : setK gs ds (some ρ) = setGs gs ds ρ := rfl
theorem w_cons (g : G) (r : Gs) (d : D) (ds : List D) (ρ : Ro) : setGs (.cons g r) (d :: ds) ρ = setK r ds (setG g d ρ) := by
  rw [setGs]; unfold setK; rfl
theorem w_wipe0 (ρ : Ro) : wipeD ρ [] = ρ := rfl
theorem w_wipe (ρ : Ro) (v : Nat) (vs : List Nat) : wipeD ρ (v :: vs) = (wipeD ρ vs).set v none := rfl
theorem w_len0 : Es.len .nil = 0 := rfl
theorem w_len (e : E) (r : Es) : Es.len (.cons e r) = r.len + 1 := rfl
end Dv

namespace Dv
open PySem PySem.Spec PyProof.Rows L2

/-! ### set of a list of numbers, in order -/
/-- an empty set as it is laid -/
def nSet (w : World) : Obj := { cls := .type "set", dict := none, data := .set #[] 0 (.fresh 0 0 (!w.params.followText "set-order")) }
section
variable {P : Program} {w : World} {A : Around} {E : Value → Shared → Prop} {s : Shared}
set_option maxHeartbeats 3200000 in
theorem set_of_list {ad : Addr} {its : Array Value} (ns : List Int) {Q : Value → Shared → Prop} (calm : A.handled = none) (pl : s.heap.IsList ad its) (areI : IntsAre its.toList ns) (room : ns.length + 1 < scanBound)
    (go : ∀ (h2 : Heap) (tk c : Nat), SetR w h2 s.heap.objs.size (fun j => decide (j ∈ ns)) c → c ≤ ns.length → (∀ b o, s.heap.get? b = some o → h2.get? b = some o) → Q (.ref s.heap.objs.size) { s with heap := h2, toks := tk }) :
    wpAny (model P w) A (call (.type "set") [.ref ad]) Q E s := by
  have size_eq : its.size = ns.length := by have z := IntsAre.length areI; rwa [Array.length_toList] at z
  obtain ⟨base, rest, mro_is⟩ := F.called_set.mro; have made_is := F.called_set.made; have sub_is := F.called_set.sub
  refine wpAny_call (codeAny_of_tree ?_); show wpAny _ _ (callAny (.type "set") _) _ _ _
  refine wpAny_pure ⟨Code.quiet_builtin _ (by decide +kernel), codeAny_builtin F.entry_type_call ?_⟩; rw [Around.under_plain (weight_type_call_type "set" [.ref ad] []) rfl]
  have f1 := F.called_set.notType; have f2 := F.called_set.canCreate; have f3 := F.typeCall_set_1 (.ref ad)
  repeat (any_goals (first | assumption | wp_step))
  refine codeAny_mono (code_set_led1 (.ref ad) (E := E) (Q₁ := fun ob t => ob = .ref s.heap.objs.size ∧ t = { s with heap := s.heap.push (nSet w) }) ⟨rfl, rfl⟩) fun r t hr => ?_
  cases r with
  | error e => exact hr
  | ok fl =>
    cases fl with
    | ret ob =>
      obtain ⟨rfl, rfl⟩ := hr
      have at0 : (s.heap.push (nSet w)).get? s.heap.objs.size = some (nSet w) := Heap.get?_push_size _ rfl
      have ty0 : Shared.TypeIs { s with heap := s.heap.push (nSet w) } (.ref s.heap.objs.size) "set" := ⟨_, at0, rfl⟩
      have g1 := F.called_set.init.lookup; have g2 := F.called_set.init.bind (.ref s.heap.objs.size)
      repeat (any_goals (first | assumption | wp_step))
      refine codeAny_mono (codeAny_call_builtin (R := wants (fun r t => r = .none ∧ ∃ h2 tk c, t = { s with heap := h2, toks := tk } ∧ SetR w h2 s.heap.objs.size (fun j => decide (j ∈ ns)) c ∧ c ≤ ns.length ∧ (∀ b o, s.heap.get? b = some o → h2.get? b = some o)) E) F.called_set.init.plain F.entry_set_init (check_set_init_1 ty0 ?_)) fun r2 t2 hr2 => ?_
      · obtain ⟨ol, hol, hcl, nl, hdl⟩ := pl
        obtain ⟨oc, od, odat, osl⟩ := ol
        simp only at hcl hdl; subst hcl; subst hdl
        have hol2 : (s.heap.push (nSet w)).get? ad = some { cls := .type "list", dict := od, data := .seq its nl, slots := osl } := Heap.get?_push_of_some _ hol
        have k1 := F.sub_list_set; have k2 := F.sub_list_frozenset
        have k3 : (Value.type "list" == Value.type "dict") = false := by decide
        have pl2 : (s.heap.push (nSet w)).IsList ad its := ⟨_, hol2, rfl, nl, rfl⟩
        unfold Builtin.«set.__init__» noKeywords Builtin.Frozenset.updateFrom
        generalize hPI : pyIter = PI
        wp_walk
        subst hPI
        refine wpAny_pyIter_list pl2 ?_
        refine wpAny_bind (wpAny_runValue ?_)
        have lt0 : ad < s.heap.objs.size := Heap.lt_size hol
        have calm3 : A.in1.in1.in1.handled = none := by simp [calm]
        have ne1 : ad ≠ (s.heap.push (nSet w)).objs.size := by rw [Heap.size_push]; exact Nat.ne_of_lt (Nat.lt_succ_of_lt lt0)
        have ne2 : s.heap.objs.size ∉ [(s.heap.push (nSet w)).objs.size, ad] := by
          rw [Heap.size_push]; simp only [List.mem_cons, List.mem_singleton, List.not_mem_nil, or_false, not_or]
          exact ⟨Nat.ne_of_lt (Nat.lt_succ_self _), Nat.ne_of_gt lt0⟩
        have vals : ∀ (i : Nat) (v : Value), its[i]? = some v → ∃ k t, ns[i]? = some k ∧ v = .int k t := fun i v hv => by
          have hi : i < ns.length := by rw [← size_eq]; exact (Array.getElem?_eq_some_iff.mp hv).1
          obtain ⟨t, e⟩ := PyProof.Rows.IntsAre.int_at areI i v (by rw [Array.getElem?_toList]; exact hv)
          refine ⟨ns[i], t, List.getElem?_eq_getElem hi, ?_⟩
          rw [e, List.getD_eq_getElem?_getD, List.getElem?_eq_getElem hi]; rfl
        refine set_update_ints ((Walks.list calm3 _ ad ne1 its).toS) s.heap.objs.size ne2 ns size_eq room vals (its.size - 0) 0 _ (by omega) (Nat.zero_le _) ⟨⟨_, Heap.get?_push_size _ rfl, rfl, rfl⟩, (pl2.push _)⟩ ?k1 ?k2
        case k1 =>
          have at1 : ((s.heap.push (nSet w)).push { cls := .type "list_iterator", data := .fields #[.ref ad, .int 0 0] }).get? s.heap.objs.size = some (nSet w) := Heap.get?_push_of_some _ at0
          exact ⟨0, Nat.le_refl 0, setR_new_at at1⟩
        case k2 =>
          intro t3 c3 hm hc3 hS3
          obtain ⟨h3, g3, d3, tk3, os3⟩ := t3
          obtain rfl : g3 = s.gens := hm.gens
          obtain rfl : d3 = s.drawn := hm.drawn
          obtain rfl : os3 = s.os := hm.os
          show wpAny _ _ _ _ _ _
          refine wpAny_pure ?_
          show wpAny _ _ (ret Value.none) _ _ _
          rw [size_eq] at hc3
          refine wpAny_pure ⟨rfl, h3, tk3, c3, rfl, hS3, hc3, fun b o e => ?_⟩
          have b0 : b < s.heap.objs.size := Heap.lt_size e
          refine hm.heap b o ?_ (Heap.get?_push_of_some _ (Heap.get?_push_of_some _ e))
          rw [Heap.size_push]; simp only [List.mem_cons, List.mem_singleton, List.not_mem_nil, or_false, not_or]
          exact ⟨Nat.ne_of_lt b0, Nat.ne_of_lt (Nat.lt_succ_of_lt b0)⟩
      · cases r2 with
        | error e => exact hr2
        | ok fl2 =>
          cases fl2 with
          | ret r =>
            obtain ⟨rfl, h2, tk, c2, rfl, hS2, hc2, hk2⟩ := hr2
            repeat (any_goals (first | assumption | wp_step))
            exact go _ _ _ hS2 hc2 hk2
          | _ => exact hr2.elim
    | _ => exact hr.elim
end
theorem nodup_perm {l k : List Int} (hl : l.Nodup) (hk : k.Nodup) (h : ∀ x, x ∈ l ↔ x ∈ k) : l.Perm k := (List.perm_ext_iff_of_nodup hl hk).mpr h
def rSetL (K : PySem.W.Frag) (w : World) : List V → Hp → VK → Prop := fun xs H Q => ∃ (a : Addr) (ns : List Int), xs = [V.ref a] ∧ SqL K H a (ns.map V.int) ∧ ns.length ≤ 4000 ∧ ∀ p, H p = none → Q (.ref p) (upd H p (SetO w p (fun j => decide (j ∈ ns)) (dd ns).length))
theorem cr_setL {X : Cx} (hc : X.calm = true) : CallR X (.type "set") (rSetL X.K X.w) := by
  intro pins s σ H xs us Q I r h
  obtain ⟨a, ns, rfl, hq, hl, q⟩ := h
  rw [Vals.ref1 r]
  obtain ⟨its, rv, pl, hz⟩ := I.list hq
  have e : its.toArray.toList = its := by simp
  refine set_of_list ns (I.ok.hd hc) pl.isList (by rw [e]; exact rv.ints) (by unfold scanBound; omega) fun h2 tk c hS hc' hk => ?_
  have hc2 : c = (dd ns).length := by
    obtain ⟨o, es, ep, t, _, _, _, _, nd, hm, _, _, hn, _, _⟩ := hS
    have pp : (es.toList.map keyOf).Perm (dd ns) := nodup_perm nd (nodup_dd _) fun x => by
      rw [← hm x, mem_dd]
      exact decide_eq_true_iff
    rw [← pp.length_eq, List.length_map, Array.length_toList, hn]
  rw [hc2] at hS
  exact ⟨.ref _, upd H s.heap.objs.size (SetO X.w s.heap.objs.size (fun j => decide (j ∈ ns)) (dd ns).length), I.laid (t' := tk) hk (Nat.le_refl _) (setO_new hS), rfl, q _ (I.hok.fresh (Nat.le_refl _))⟩
theorem ssI_of {ns ys : List Int} (h1 : ys.Pairwise (· < ·)) (h2 : ∀ k, k ∈ ys ↔ k ∈ ns) : ys = ssI ns := by
  unfold ssI
  refine sortI_uniq (nodup_perm (h1.imp fun {a b} h => Int.ne_of_lt h) (nodup_dd _) fun x => ?_) (h1.imp fun {a b} h => Int.le_of_lt h)
  rw [h2 x, mem_dd]
section
variable {C : Cs}
theorem de_sst {mu : Bool} {e : Expr} {x : Dv.E} {p p2 pos pos2 : Pos} (hg1 : C.sc.names.lookup ("sorted" : Str) = some .globalImplicit) (hm1 : C.mg "sorted" = none) (hg2 : C.sc.names.lookup ("set" : Str) = some .globalImplicit) (hm2 : C.mg "set" = none) (ha : DE C e (evE C.g x)) (hs : noStar e = true) :
    DE C (.Call (.Name "sorted" p) [.Call (.Name "set" p2) [e] [] pos2] [] pos) (evE C.g (.sst mu x)) := by
  obtain ⟨ta, pa, ra⟩ := da_cons ha da_nil hs
  refine ⟨tCB (rSortedSet C.w) (tCons (tCB (rSetL C.T.K C.w) ta) tNil), fun X ok => ?_, fun σ w ρ m Q oo W E e0 pp => ?_⟩
  · rw [← ok.w, ← ok.K]
    exact pe_callB (cr_sortedSet (X := X) ok.calm) (show X.env.scope.names.lookup ("sorted" : Str) = some .globalImplicit by rw [ok.sc]; exact hg1) (by rw [ok.mg]; exact hm1) PyProof.Rows.boot_sorted (pa_cons (pe_callTy (cr_setL (X := X) ok.calm) (show X.env.scope.names.lookup ("set" : Str) = some .globalImplicit by rw [ok.sc]; exact hg2) (by rw [ok.mg]; exact hm2) PyProof.Rows.boot_set (pa X ok) (by decide) (by decide) (star1 hs _ _) rfl) pa_nil rfl) (by decide) (by decide) rfl rfl
  · simp only [evE] at e0
    have e1 : bndL (evL C.g (.cons x .nil) ρ m) (fun ds m => match ds with | [d] => okP (sstD mu m d) | _ => none) = some oo := by
      rw [← e0]
      simp only [evL]
      cases evE C.g x ρ m with
      | none => rfl
      | some o => cases o <;> rfl
    refine ra.bnd W E e1 pp fun d m1 w1 v1 e2 x1 W1 r1 E1 p1 => ?_
    match d, e2, r1 with
    | [d], e2, r1 =>
      obtain ⟨v, rfl, r2⟩ := r1.inv1
      have e2 : okP (sstD mu m1 d) = some oo := e2
      obtain ⟨q, e3, rfl⟩ := okP_some e2
      unfold sstD at e3
      split at e3
      · rename_i xs hx
        split at e3
        · rename_i ns hn
          split at e3
          · rename_i hlen
            cases e3
            obtain ⟨a, vs, rfl, hq, rl⟩ := lsq_rep W1 r2 hx
            have hi := asInts_map hn
            subst hi
            have hv := rl.ints
            subst hv
            refine ⟨a, ns, rfl, SqL.of hq, hlen.1, fun p hp => ?_⟩
            refine ⟨p, _, _, rfl, upd_same, hlen.2, fun ys p' h1 h2 h3 hp' => ?_⟩
            have hys := ssI_of (ns := ns) h1 fun k => (h2 k).trans decide_eq_true_iff
            subst hys
            obtain ⟨W2, x2⟩ := W1.fz (SetO C.w p (fun j => decide (j ∈ ns)) (dd ns).length) hp
            exact new_list W2 (RepL.ofInts (ssI ns)) hp' fun w' v x' W' r' => p1 w' v (x2.trans x' W2) W' r'
          · cases e3
        · cases e3
      · cases e3
end
end Dv

namespace Dv
open PySem PySem.Spec PyProof.Rows L2 GenW

/-! ### for, in a generator's body -/
section
variable {prog : Program} {w : World} {A : Around} {R : GenEnd} {Y : Protocol} {n : Nat} {s₀ : Shared} {c : Code} {fs : List PySem.Frame} {s : Shared} {env : Env} {K : Flow → Sem PySem.Fin} {J : Value → Sem PySem.Fin} {gd : Bool → Bool} {lv : List Value → List Value} {M : Model}
theorem seg_For {tg iter : Expr} {body : List Stmt} {pos : Pos}
    (h : wpAny M (A.over c fs) (eval iter env) (fun x s1 => wpAny M (A.over c fs) (pyIter x) (fun it s2 => ∀ p, Seg M A R Y n s₀ (.forLoop tg it body [] env) (M.den (.forLoop tg it body [] env))
      (.ret (fun r => ((match r with | .ok f => (.pure f : Sem Flow) | .error e => .raise e).onRaise (cameBack env)).wrap K J gd lv) none (gd false) (lv []) c p [] :: fs) s2) (fun e s' => Seg M A R Y n s₀ c (J e) fs s') s1) (fun e s' => Seg M A R Y n s₀ c (J e) fs s') s)
    (hs : ∀ x, foldedSetIterable iter env x = pure x) :
    Seg M A R Y n s₀ c ((exec (.For tg iter body [] pos) env).wrap K J gd lv) fs s := by
  rw [exec_For]
  refine seg_at ?_
  show Seg M A R Y n s₀ c ((eval iter env >>= fun v => (foldedSetIterable iter env v >>= fun x => (standAt iter.pos >>= fun _ => (holding [x] (pyIter x) >>= fun it => runOwn (.forLoop tg it body [] env) env)))).wrap K J gd lv) fs s
  refine seg_bind_wrap (wpAny_mono h (fun x s1 h1 => ?_) fun _ _ e => e)
  rw [hs]
  refine seg_at ?_
  show Seg M A R Y n s₀ c ((holding [x] (pyIter x) >>= fun it => runOwn (.forLoop tg it body [] env) env).wrap K J gd lv) fs s1
  refine seg_bind_wrap (wpAny_holding (wpAny_mono h1 (fun it s2 h2 => ?_) fun _ _ e => e))
  exact seg_call h2
end
section
variable {prog : Program} {w : World} {A : Around} {R : GenEnd} {Y : Protocol} {n : Nat} {s₀ : Shared} {fs : List PySem.Frame} {s : Shared} {env : Env}
/-- what a loop's code does with an exception -/
def noted (env : Env) (x : Value) : Sem PySem.Fin := (do noteFrame x env; theTreesLotGoes x : Sem Unit).wrap (fun _ => .raise x) .raise id id
theorem seg_forLoop {tg : Expr} {it : Value} {body : List Stmt}
    (h : wpAny (model prog w) (A.over (.forLoop tg it body [] env) fs) (pyNext it) (fun r s1 => match r with
      | none => Seg (model prog w) A R Y n s₀ (.forLoop tg it body [] env) (.pure (.again (.block [] env))) fs s1
      | some v => wpAny (model prog w) (A.over (.forLoop tg it body [] env) fs) (letOwnedTupleGo tg it v) (fun _ s2 => wpAny (model prog w) (A.over (.forLoop tg it body [] env) fs) (assign tg env v) (fun _ s3 =>
          Seg (model prog w) A R Y n s₀ (.forLoop tg it body [] env) ((execs body env).wrap (fun f => match f with
            | .next | .cont => .pure (.again (.forLoop tg it body [] env))
            | .brk => .pure (.done .next)
            | .ret v => .pure (.done (.ret v))) (noted env) id id) fs s3)
          (fun x s' => Seg (model prog w) A R Y n s₀ (.forLoop tg it body [] env) (noted env x) fs s') s2)
        (fun x s' => Seg (model prog w) A R Y n s₀ (.forLoop tg it body [] env) (noted env x) fs s') s1)
      (fun x s' => Seg (model prog w) A R Y n s₀ (.forLoop tg it body [] env) (noted env x) fs s') s) :
    Seg (model prog w) A R Y n s₀ (.forLoop tg it body [] env) ((model prog w).den (.forLoop tg it body [] env)) fs s := by
  show Seg _ A R Y n s₀ _ ((forTurn tg it body [] env).onRaise (fun x => do noteFrame x env; theTreesLotGoes x)) fs s
  have hN : ∀ x : Value, ((do noteFrame x env; theTreesLotGoes x : Sem Unit).bind fun _ => (.raise x : Sem PySem.Fin)) = noted env x := fun x => by
    unfold noted
    exact Sem.bind_eq_wrap _ _
  rw [Sem.onRaise_eq_wrap]
  unfold forTurn
  refine seg_at ?_
  have go : Seg (model prog w) A R Y n s₀ (.forLoop tg it body [] env) ((((pyNext it).onRaise fun _ => standAt { tg.pos with line := 0 }) >>= fun r => match r with
    | none => again (.block [] env)
    | some v => (letOwnedTupleGo tg it v >>= fun _ => (assign tg env v >>= fun _ => (execs body env >>= fun f => match f with
      | .next | .cont => again (.forLoop tg it body [] env)
      | .brk => pure (.done .next)
      | .ret v => pure (.done (.ret v)))))).wrap .pure (fun x => (do noteFrame x env; theTreesLotGoes x : Sem Unit).bind fun _ => .raise x) id id) fs s := by
    refine seg_bind_wrap (wpAny_onRaise (wpAny_mono h (fun r s1 h1 => ?_) fun x s' hx => wpAny_standAt ?_))
    · cases r with
      | none => exact h1
      | some v =>
        refine seg_bind_wrap (wpAny_mono h1 (fun _ s2 h2 => ?_) fun x s' hx => by rw [hN]; exact hx)
        refine seg_bind_wrap (wpAny_mono h2 (fun _ s3 h3 => ?_) fun x s' hx => by rw [hN]; exact hx)
        rw [Sem.bind_eq_wrap', Sem.wrap_wrap]
        rw [Sem.wrap_congr (execs body env) _ _ (K' := fun f => match f with
            | .next | .cont => .pure (.again (.forLoop tg it body [] env))
            | .brk => .pure (.done .next)
            | .ret v => .pure (.done (.ret v))) (H' := noted env)
          (fun f => by cases f <;> rfl) (fun e => show Sem.wrap .pure (fun x => (do noteFrame x env; theTreesLotGoes x : Sem Unit).bind fun _ => (.raise x : Sem PySem.Fin)) id id (.raise e) = noted env e from hN e)]
        exact h3
    · rw [hN]; exact hx
  exact go
end
def tGFor (wi : L2.TI) (g : TG) (tb : TGn) : TGn := fun D ys σ H => wi σ H fun J H1 => ∃ W : Nat → Nat → List V → L2.St → Hp → Prop, (∃ m, W 0 m ys σ H1) ∧ ∀ i m ys σ H, W i m ys σ H →
  (J.stop i H ∧ D.nx ys σ H) ∨ (J.go i H ∧ ∃ N : List V → L2.St → Hp → Prop, (∀ ys' σ' H', N ys' σ' H' → ∃ m', m' < m ∧ W (i + 1) m' ys' σ' H') ∧ ∀ x H', J.yld i H x H' → g x σ H' fun σ2 H2 => tb { D with nx := N, ct := N, bk := D.nx } ys σ2 H2)
theorem gs_for {X : Cx} {tg iter : Expr} {body : List Stmt} {pos : Pos} {wi : L2.TI} {g : TG} {tb : TGn} (hp : PassesOwn (model X.prog X.w) X.A X.env X.xe) (hc : X.calm = true) (hi : PI X tg iter wi) (hg : PG X tg g) (hb : GSs X body tb) (hs : ∀ x, foldedSetIterable iter X.env x = pure x) :
    GS X (.For tg iter body [] pos) (tGFor wi g tb) := by
  refine ⟨fun A S ip R n ys s₀ c fs K J gd lv s σ H D gc hn k hI ht => ?_⟩
  obtain ⟨acc, cc, r, I⟩ := hI
  refine seg_For ?_ hs
  rw [gc.over]
  refine wpAny_mono (hi.run _ s σ H _ I ht) (fun v s1 h1 => wpAny_mono h1 (fun itv s2 h2 p => ?_) fun x s' hx => k.exc n s₀ x s' hx) fun x s' hx => k.exc n s₀ x s' hx
  obtain ⟨it, fp, tn, Jt, H2, e, I2, T, st2, f2, W, ⟨m0, w0⟩, turn⟩ := h2
  subst e
  have gl := fun (kk : Result → Sem PySem.Fin) => gc_loop (k := kk) (c' := .forLoop tg (.ref it) body [] X.env) (l := lv []) (kp := []) (p := p) gc rfl rfl
  have stat : ∀ {acc' : Array Value} {c' : Nat} {H' : Hp}, (∀ b ∈ fp, H' b = none) → ∀ b ∈ fp, FpOk X ((S, lstObj acc' c') :: ip) H' b := fun {acc' c' H'} hn b hb => by
    obtain ⟨_, q2, q3, q4, q5, q6⟩ := f2 b hb
    refine ⟨hn b hb, q2, q3, q4, q5, fun q hq => ?_⟩
    rcases List.mem_append.mp hq with z | z
    · exact q6 q (List.mem_append_left _ z)
    · rcases List.mem_cons.mp z with z | z
      · rw [z]
        exact q6 (S, lstObj acc cc) (List.mem_append_right _ List.mem_cons_self)
      · exact q6 q (List.mem_append_right _ (List.mem_cons_of_mem _ z))
  have loop : ∀ (m i n : Nat) (ys : List V) (s₀ s : Shared) (σ : L2.St) (H : Hp), n + ys.length = sizeLine → W i m ys σ H → GI X S ip ys σ H s → tn i s.heap → (∀ b ∈ fp, H b = none) →
      Seg (model X.prog X.w) A R (GY X S) n s₀ (.forLoop tg (.ref it) body [] X.env) ((model X.prog X.w).den (.forLoop tg (.ref it) body [] X.env))
        (.ret (fun r => ((match r with | .ok f => (.pure f : Sem Flow) | .error e => .raise e).onRaise (cameBack X.env)).wrap K J gd lv) none (gd false) (lv []) c p [] :: fs) s := by
    intro m
    induction m using Nat.strongRecOn with
    | ind m ih =>
      intro i n ys s₀ s σ H hn w hI st hfr
      have ee : ∀ (n : Nat) (s₀ : Shared) (x : Value) (s' : Shared), X.xe x s' → Seg (model X.prog X.w) A R (GY X S) n s₀ (.forLoop tg (.ref it) body [] X.env) (noted X.env x)
          (.ret (fun r => ((match r with | .ok f => (.pure f : Sem Flow) | .error e => .raise e).onRaise (cameBack X.env)).wrap K J gd lv) none (gd false) (lv []) c p [] :: fs) s' := fun n s₀ x s' hx => by
        refine seg_wrap ?_
        rw [(gl _).over]
        refine wpAny_bind (wpAny_mono (hp x s' hx) (fun _ s'' hcb => wpAny_theTreesLotGoes ?_) fun y s'' hcb => ?_)
        · exact seg_leaf (.error x) (seg_cameBack gc k hcb)
        · exact seg_leaf (.error y) (seg_cameBack gc k hcb)
      refine seg_forLoop ?_
      rw [(gl _).over]
      obtain ⟨acc, cc, r, I⟩ := hI
      rcases turn i m ys σ H w with ⟨stop, qn⟩ | ⟨go, N, hN, step⟩
      · refine wpAny_mono (T.done X rfl rfl rfl hc i _ s σ H X.xe I (stat hfr) st stop) (fun r s4 ⟨hr, I4⟩ => ?_) fun x s' hx => ee n s₀ x s' hx
        subst hr
        refine seg_again rfl ?_
        exact seg_leaf (.ok .next) (k.ok n ys s₀ s4 .next hn ⟨σ, H, ⟨acc, cc, by assumption, I4⟩, qn⟩)
      · refine wpAny_mono (T.item X rfl rfl rfl hc i _ s σ H X.xe I (stat hfr) st go) (fun r s4 ⟨u, hr, h4⟩ => ?_) fun x s' hx => ee n s₀ x s' hx
        subst hr
        refine wpAny_mono h4 (fun _ s5 ⟨x, H5, I5, r5, y5, st5, fr5⟩ => ?_) fun x s' hx => ee n s₀ x s' hx
        have I5' := I5.pinned (stat fr5) (T.obj _ _ st5)
        refine wpAny_mono (hg.run _ s5 σ H5 x u _ I5' r5 (step x H5 y5)) (fun _ s6 ⟨σ6, H6, I6, q6⟩ => ?_) fun x s' hx => ee n s₀ x s' hx
        have gip : ∀ q ∈ ip ++ pinsAt fp s5.heap, q.1 ≠ S := fun q hq => by
          rcases List.mem_append.mp hq with z | z
          · exact gc.ip q z
          · intro e
            have hm : q.1 ∈ fp := by
              unfold pinsAt at z
              obtain ⟨b, hb, hq⟩ := List.mem_filterMap.mp z
              cases hh : s5.heap.get? b with
              | none => rw [hh] at hq; cases hq
              | some o =>
                rw [hh] at hq
                cases hq
                exact hb
            obtain ⟨_, _, _, _, _, q6'⟩ := f2 _ hm
            exact q6' (S, lstObj _ _) (List.mem_append_right _ List.mem_cons_self) e.symm
        refine hb.run A S (ip ++ pinsAt fp s5.heap) R n ys s₀ _ _ _ _ id id s6 σ6 H6 { D with nx := N, ct := N, bk := D.nx } ⟨gc.pn, gip, gc.apart, (gl _).over, (gl _).split, (gl _).guard, rfl⟩ hn ⟨fun n' ys' s₀' s7 f hn' hs' => ?_, fun n' s₀' x s' hx => ee n' s₀' x s' hx⟩ ⟨acc, cc, by assumption, I6⟩ q6
        have again : ∀ {σ7 : L2.St} {H7 : Hp}, GI X S (ip ++ pinsAt fp s5.heap) ys' σ7 H7 s7 → N ys' σ7 H7 → Seg (model X.prog X.w) A R (GY X S) n' s₀' (.forLoop tg (.ref it) body [] X.env) (.pure (.again (.forLoop tg (.ref it) body [] X.env)))
            (.ret (fun r => ((match r with | .ok f => (.pure f : Sem Flow) | .error e => .raise e).onRaise (cameBack X.env)).wrap K J gd lv) none (gd false) (lv []) c p [] :: fs) s7 := fun {σ7 H7} ⟨acc7, c7, r7, I7⟩ n7 => by
          obtain ⟨m', hm, w7⟩ := hN ys' σ7 H7 n7
          have I7 : Inv X (((S, lstObj acc7 c7) :: ip) ++ pinsAt fp s5.heap) σ7 H7 s7 := I7
          refine seg_again rfl (ih m' hm (i + 1) n' ys' s₀' s7 σ7 H7 hn' w7 ⟨acc7, c7, r7, I7.unpinned⟩ (T.keep _ _ _ st5 fun b hb o e => (I7.pin (b, o) (List.mem_append_right _ (List.mem_append_right _ (mem_pinsAt hb e)))).1) fun b hb => ?_)
          obtain ⟨o, e, d⟩ := T.obj _ _ st5 b hb
          exact (I7.pin (b, o) (List.mem_append_right _ (List.mem_append_right _ (mem_pinsAt hb e)))).2.1
        have un : ∀ {σ7 : L2.St} {H7 : Hp}, GI X S (ip ++ pinsAt fp s5.heap) ys' σ7 H7 s7 → GI X S ip ys' σ7 H7 s7 := fun {σ7 H7} ⟨acc7, c7, r7, I7⟩ => by
          have I7 : Inv X (((S, lstObj acc7 c7) :: ip) ++ pinsAt fp s5.heap) σ7 H7 s7 := I7
          exact ⟨acc7, c7, r7, I7.unpinned⟩
        cases f with
        | next => obtain ⟨σ7, H7, G7, n7⟩ := hs'; exact again G7 n7
        | cont => obtain ⟨σ7, H7, G7, n7⟩ := hs'; exact again G7 n7
        | brk => obtain ⟨σ7, H7, G7, q7⟩ := hs'; exact seg_leaf (.ok .next) (k.ok n' ys' s₀' s7 .next hn' ⟨σ7, H7, un G7, q7⟩)
        | ret v => obtain ⟨x7, σ7, H7, G7, r7, q7⟩ := hs'; exact seg_leaf (.ok (.ret v)) (k.ok n' ys' s₀' s7 (.ret v) hn' ⟨x7, σ7, H7, un G7, r7, q7⟩)
  exact loop m0 0 n ys s₀ s2 σ H2 hn w0 ⟨acc, cc, r, I2⟩ st2 fun b hb => (f2 b hb).1
end Dv

namespace Dv
open PySem PySem.Spec PyProof.Rows L2 GenW

/-! ### the code of a generator's body -/
inductive GB where
  | nil
  | plain (s : S) (r : GB)
  | yld (e : E) (r : GB)
  | forr (g : G) (it : It) (b : GB) (r : GB)
  | whl (n : Nat) (c : E) (b : GB) (r : GB)
inductive GO where
  | nx (ρ : Ro) (m : List R) (ys : List D) | rt (m : List R) (ys : List D) | bk (ρ : Ro) (m : List R) (ys : List D) | ct (ρ : Ro) (m : List R) (ys : List D)
/-- a loop over items that stand still -/
def forG (t : D → Ro → List R → List D → Option GO) : List D → Ro → List R → List D → Option GO
  | [], ρ, m, ys => some (.nx ρ m ys)
  | x :: xs, ρ, m, ys => match t x ρ m ys with
    | some (.nx ρ m ys) => forG t xs ρ m ys
    | some (.ct ρ m ys) => forG t xs ρ m ys
    | some (.bk ρ m ys) => some (.nx ρ m ys)
    | o => o
def whlG (c : Ro → List R → Option Rs) (t : Ro → List R → List D → Option GO) : Nat → Ro → List R → List D → Option GO
  | 0, _, _, _ => none
  | n + 1, ρ, m, ys => match c ρ m with
    | some (.ok (.bl true) m) => match t ρ m ys with
      | some (.nx ρ m ys) => whlG c t n ρ m ys
      | some (.ct ρ m ys) => whlG c t n ρ m ys
      | some (.bk ρ m ys) => some (.nx ρ m ys)
      | o => o
    | some (.ok (.bl false) m) => some (.nx ρ m ys)
    | _ => none
/-- what a plain statement leaves to what follows -/
def plnG (k : Ro → List R → List D → Option GO) (ys : List D) : Option SO → Option GO
  | some (.nx ρ m) => k ρ m ys
  | some (.rt .non m) => some (.rt m ys)
  | some (.bk ρ m) => some (.bk ρ m ys)
  | some (.ct ρ m) => some (.ct ρ m ys)
  | _ => none
def yldG (k : Ro → List R → List D → Option GO) (ρ : Ro) (ys : List D) : Option Rs → Option GO
  | some (.ok d m) => if ys.length < sizeLine then k ρ m (ys ++ [d]) else none
  | _ => none
def thnG (k : Ro → List R → List D → Option GO) : Option GO → Option GO
  | some (.nx ρ m ys) => k ρ m ys
  | o => o
def itG (k : List D → List R → Option GO) : Option RsI → Option GO
  | some (.ok (.fix xs) m) => k xs m
  | _ => none
def bodyG (t : G) (k : Ro → List R → List D → Option GO) (d : D) (ρ : Ro) (m : List R) (ys : List D) : Option GO := match setG t d ρ with
  | some ρ' => k ρ' m ys
  | none => none
def evG (g : Gt) : GB → Ro → List R → List D → Option GO
  | .nil, ρ, m, ys => some (.nx ρ m ys)
  | .plain s r, ρ, m, ys => plnG (evG g r) ys (evS g s ρ m)
  | .yld e r, ρ, m, ys => yldG (evG g r) ρ ys (evE g e ρ m)
  | .forr tg it b r, ρ, m, ys => thnG (evG g r) (itG (fun xs m => forG (bodyG tg (evG g b)) xs ρ m ys) (evI g it ρ m))
  | .whl n c b r, ρ, m, ys => thnG (evG g r) (whlG (evE g c) (evG g b) n ρ m ys)

/-! ### what is wanted -/
def PostG (T : Tb) (w : Wd) (D : GEnds) : GO → Prop
  | .nx ρ m ys => ∀ w' σ vs, Ext w w' → Wf T w' m → ER T w' σ ρ → RepL T w'.Hs w'.al vs ys → D.nx vs σ w'.H
  | .rt m ys => ∀ w' vs, Ext w w' → Wf T w' m → RepL T w'.Hs w'.al vs ys → D.rt vs .non w'.H
  | .bk ρ m ys => ∀ w' σ vs, Ext w w' → Wf T w' m → ER T w' σ ρ → RepL T w'.Hs w'.al vs ys → D.bk vs σ w'.H
  | .ct ρ m ys => ∀ w' σ vs, Ext w w' → Wf T w' m → ER T w' σ ρ → RepL T w'.Hs w'.al vs ys → D.ct vs σ w'.H
theorem PostG.on {T : Tb} {w w1 : Wd} {m : List R} {D : GEnds} {o : GO} (h : PostG T w D o) (e : Ext w w1) (V : Wf T w1 m) : PostG T w1 D o := by
  cases o with
  | nx ρ m' ys => exact fun w' s vs e' W' r q => h w' s vs (e.trans e' V) W' r q
  | rt m' ys => exact fun w' vs e' W' q => h w' vs (e.trans e' V) W' q
  | bk ρ m' ys => exact fun w' s vs e' W' r q => h w' s vs (e.trans e' V) W' r q
  | ct ρ m' ys => exact fun w' s vs e' W' r q => h w' s vs (e.trans e' V) W' r q
def RunsG (C : Cs) (t : TGn) (f : Ro → List R → List D → Option GO) : Prop :=
  ∀ (σ : L2.St) (w : Wd) (ρ : Ro) (m : List R) (ys : List D) (vs : List V) (D : GEnds) (o : GO), Wf C.T w m → ER C.T w σ ρ → RepL C.T w.Hs w.al vs ys → f ρ m ys = some o → PostG C.T w D o → t D vs σ w.H
def DGB (C : Cs) (sts : List Stmt) (f : Ro → List R → List D → Option GO) : Prop := ∃ t, (∀ X, C.OkS X → GSs X sts t) ∧ RunsG C t f
section
variable {C : Cs}
theorem dgb_nil : DGB C [] (evG C.g .nil) := ⟨tG0, fun X ok => gss_nil, fun σ w ρ m ys vs D o W E r e p => by
  cases e
  exact p w σ vs (Ext.refl _) W E r⟩
theorem dgb_plain {st : Stmt} {sts : List Stmt} {s : S} {r : GB} (h1 : DS C st (evS C.g s)) (h2 : DGB C sts (evG C.g r)) : DGB C (st :: sts) (evG C.g (.plain s r)) := by
  obtain ⟨t, p, k⟩ := h1
  obtain ⟨u, q, j⟩ := h2
  refine ⟨tGThen (tPlain t) u, fun X ok => gss_cons (gs_ps (p X ok)) (q X ok), fun σ w ρ m ys vs D o W E rl e pp => ?_⟩
  simp only [evG] at e
  cases e1 : evS C.g s ρ m with
  | none => rw [e1] at e; cases e
  | some o1 =>
    rw [e1] at e
    refine k σ w ρ m _ o1 W E e1 ?_
    cases o1 with
    | nx ρ1 m1 => exact fun w1 σ1 x1 W1 E1 => j σ1 w1 ρ1 m1 ys vs D o W1 E1 (rl.on x1) e (pp.on x1 W1)
    | rt d m1 =>
      cases d <;> first | cases e | skip
      exact fun w1 v x1 W1 r1 => by
        cases r1
        exact pp w1 vs x1 W1 (rl.on x1)
    | bk ρ1 m1 => cases e; exact fun w1 σ1 x1 W1 E1 => pp w1 σ1 vs x1 W1 E1 (rl.on x1)
    | ct ρ1 m1 => cases e; exact fun w1 σ1 x1 W1 E1 => pp w1 σ1 vs x1 W1 E1 (rl.on x1)
    | ex x d m1 => cases e
theorem dgb_yld {e : Expr} {x : Dv.E} {yp pos : Pos} {sts : List Stmt} {r : GB} (hco : C.sc.isCoroutine = false) (hk : C.sc.kind = .function) (h1 : DE C e (evE C.g x)) (h2 : DGB C sts (evG C.g r)) : DGB C (.Expr (.Yield (some e) yp) pos :: sts) (evG C.g (.yld x r)) := by
  obtain ⟨t, p, k⟩ := h1
  obtain ⟨u, q, j⟩ := h2
  refine ⟨tGThen (tGYield t) u, fun X ok => gss_cons (gs_yield (p X ok.toOk) (by rw [ok.sc]; exact hco) (by unfold interactive; rw [ok.sc, hk]; rfl)) (q X ok), fun σ w ρ m ys vs D o W E rl e pp => ?_⟩
  simp only [evG] at e
  cases e1 : evE C.g x ρ m with
  | none => rw [e1] at e; cases e
  | some o1 =>
    rw [e1] at e
    cases o1 with
    | ex x m1 => cases e
    | ok d m1 =>
      have e : (if ys.length < sizeLine then evG C.g r ρ m1 (ys ++ [d]) else none) = some o := e
      split at e
      · rename_i hl
        refine ⟨by rw [rl.length]; exact hl, ?_⟩
        refine k σ w ρ m _ _ W E e1 ?_
        exact fun w1 v x1 W1 r1 => j σ w1 ρ m1 _ _ D o W1 (E.on x1) ((rl.on x1).append (.one r1)) e (pp.on x1 W1)
      · cases e
theorem forG_some {t : D → Ro → List R → List D → Option GO} {x : D} {xs : List D} {ρ : Ro} {m : List R} {ys : List D} {o : GO} (e : forG t (x :: xs) ρ m ys = some o) :
    (∃ ρ1 m1 ys1, (t x ρ m ys = some (.nx ρ1 m1 ys1) ∨ t x ρ m ys = some (.ct ρ1 m1 ys1)) ∧ forG t xs ρ1 m1 ys1 = some o) ∨ (∃ ρ1 m1 ys1, t x ρ m ys = some (.bk ρ1 m1 ys1) ∧ o = .nx ρ1 m1 ys1) ∨ ∃ m1 ys1, t x ρ m ys = some (.rt m1 ys1) ∧ o = .rt m1 ys1 := by
  simp only [forG] at e
  cases h : t x ρ m ys with
  | none => rw [h] at e; cases e
  | some o1 =>
    rw [h] at e
    cases o1 with
    | nx ρ1 m1 ys1 => exact .inl ⟨_, _, _, .inl rfl, e⟩
    | ct ρ1 m1 ys1 => exact .inl ⟨_, _, _, .inr rfl, e⟩
    | bk ρ1 m1 ys1 => cases e; exact .inr (.inl ⟨_, _, _, rfl, rfl⟩)
    | rt m1 ys1 => cases e; exact .inr (.inr ⟨_, _, rfl, rfl⟩)
/-- the outcome of a statement that hands out, for what follows it -/
theorem PostG.thn {w : Wd} {m : List R} {ys : List D} {D : GEnds} {u : TGn} {r : GB} {o1 o : GO} (j : RunsG C u (evG C.g r)) (e : thnG (evG C.g r) (some o1) = some o) (pp : PostG C.T w D o) (V : ∀ w', Ext w w' → ∀ m', Wf C.T w' m' → PostG C.T w' D o) : PostG C.T w { D with nx := fun ys' σ' H' => u D ys' σ' H' } o1 := by
  cases o1 with
  | nx ρ1 m1 ys1 => exact fun w1 σ1 vs1 x1 W1 E1 r1 => j σ1 w1 ρ1 m1 ys1 vs1 D o W1 E1 r1 e (V w1 x1 m1 W1)
  | rt m1 ys1 => cases e; exact pp
  | bk ρ1 m1 ys1 => cases e; exact pp
  | ct ρ1 m1 ys1 => cases e; exact pp
theorem dgb_for {tg iter : Expr} {b sts : List Stmt} {g : G} {it : It} {xb r : GB} {pos : Pos} (hi : DI C tg iter (evI C.g it)) (hg : DG C tg g) (hb : DGB C b (evG C.g xb)) (h2 : DGB C sts (evG C.g r)) (hs : ∀ env x, foldedSetIterable iter env x = pure x) : DGB C (.For tg iter b [] pos :: sts) (evG C.g (.forr g it xb r)) := by
  obtain ⟨wi, pi, ri⟩ := hi
  obtain ⟨tg', pg, rg⟩ := hg
  obtain ⟨tb, pb, rb⟩ := hb
  obtain ⟨u, q, j⟩ := h2
  refine ⟨tGThen (tGFor wi tg' tb) u, fun X ok => gss_cons (gs_for ok.own ok.calm (pi X ok.toOk) (pg X ok.toOk) (pb X ok) (hs _)) (q X ok), fun σ w ρ m ys vs D o W E rl e pp => ?_⟩
  simp only [evG] at e
  cases e1 : evI C.g it ρ m with
  | none => rw [e1] at e; cases e
  | some oi =>
    rw [e1] at e
    cases oi with
    | ex x m1 => cases e
    | ok s m1 =>
      cases s with
      | live k n => cases e
      | fix xs =>
        have e : thnG (evG C.g r) (forG (bodyG g (evG C.g xb)) xs ρ m1 ys) = some o := e
        cases e2 : forG (bodyG g (evG C.g xb)) xs ρ m1 ys with
        | none => rw [e2] at e; cases e
        | some o1 =>
          rw [e2] at e
          have P1 : ∀ w', Ext w w' → ∀ m', Wf C.T w' m' → PostG C.T w' { D with nx := fun ys' σ' H' => u D ys' σ' H' } o1 := fun w' x' m' W' =>
            PostG.thn (m := m') (ys := ys) j e (pp.on x' W') fun w'' x'' m'' W'' => pp.on (x'.trans x'' W') W''
          refine ri σ w ρ m _ _ W E e1 fun w1 J x1 W1 S => ?_
          have hd0 : xs.drop 0 = xs := rfl
          refine ⟨fun i n vs' σ' H' => ∃ w2 ρ2 m2 ys2, w2.H = H' ∧ Ext w1 w2 ∧ Wf C.T w2 m2 ∧ ER C.T w2 σ' ρ2 ∧ RepL C.T w2.Hs w2.al vs' ys2 ∧ n = xs.length - i ∧ i ≤ xs.length ∧ forG (bodyG g (evG C.g xb)) (xs.drop i) ρ2 m2 ys2 = some o1, ⟨xs.length, w1, ρ, m1, ys, rfl, Ext.refl _, W1, E.on x1, rl.on x1, rfl, Nat.zero_le _, e2⟩, ?_⟩
          rintro i n vs' σ' H' ⟨w2, ρ2, m2, ys2, rfl, x2, W2, E2, r2, rfl, hi, go⟩
          have S' := S i w2 m2 x2 W2
          have p2 := P1 w2 (x1.trans x2 W1) m2 W2
          by_cases hc : i = xs.length
          · subst hc
            rw [List.drop_length] at go
            cases go
            exact .inl ⟨S'.1 rfl, p2 w2 σ' vs' (Ext.refl _) W2 E2 r2⟩
          · have hlt : i < xs.length := by omega
            have ex : xs[i]? = some xs[i] := List.getElem?_eq_getElem hlt
            obtain ⟨jgo, jy⟩ := S'.2 xs[i] ex
            rw [List.drop_eq_getElem_cons hlt] at go
            refine .inr ⟨jgo, fun vs' σ' H' => ∃ w2 ρ2 m2 ys2, w2.H = H' ∧ Ext w1 w2 ∧ Wf C.T w2 m2 ∧ ER C.T w2 σ' ρ2 ∧ RepL C.T w2.Hs w2.al vs' ys2 ∧ forG (bodyG g (evG C.g xb)) (xs.drop (i + 1)) ρ2 m2 ys2 = some o1, fun vs'' σ'' H'' ⟨w5, ρ5, m5, ys5, a1, a2, a3, a4, a5, a6⟩ => ⟨xs.length - (i + 1), by omega, w5, ρ5, m5, ys5, a1, a2, a3, a4, a5, rfl, by omega, a6⟩, fun v H' hy => ?_⟩
            obtain ⟨w3, rfl, x3, W3, r3⟩ := jy v H' hy
            have stp : ∃ ρ' ob, setG g xs[i] ρ2 = some ρ' ∧ evG C.g xb ρ' m2 ys2 = some ob := by
              have : ∃ ob, bodyG g (evG C.g xb) xs[i] ρ2 m2 ys2 = some ob := by
                rcases forG_some go with ⟨_, _, _, h | h, _⟩ | ⟨_, _, _, h, _⟩ | ⟨_, _, h, _⟩ <;> exact ⟨_, h⟩
              obtain ⟨ob, hob⟩ := this
              unfold bodyG at hob
              split at hob
              · exact ⟨_, ob, by assumption, hob⟩
              · cases hob
            obtain ⟨ρ', ob, e4, e5⟩ := stp
            have e6 : bodyG g (evG C.g xb) xs[i] ρ2 m2 ys2 = some ob := by
              unfold bodyG
              rw [e4]
              exact e5
            refine rg σ' w3 ρ2 ρ' m2 v _ _ W3 (E2.on x3) r3 e4 fun σ4 E4 _ => ?_
            refine rb σ4 w3 ρ' m2 ys2 vs' _ ob W3 E4 (r2.on x3) e5 ?_
            rcases forG_some go with ⟨ρ1, m1', ys1, h | h, aft⟩ | ⟨ρ1, m1', ys1, h, rfl⟩ | ⟨m1', ys1, h, rfl⟩
            · rw [e6] at h
              cases h
              exact fun w5 σ5 vs5 x5 W5 E5 q5 => ⟨w5, _, _, _, rfl, x2.trans (x3.trans x5 W3) W2, W5, E5, q5, aft⟩
            · rw [e6] at h
              cases h
              exact fun w5 σ5 vs5 x5 W5 E5 q5 => ⟨w5, _, _, _, rfl, x2.trans (x3.trans x5 W3) W2, W5, E5, q5, aft⟩
            · rw [e6] at h
              cases h
              exact fun w5 σ5 vs5 x5 W5 E5 q5 => p2 w5 σ5 vs5 (x3.trans x5 W3) W5 E5 q5
            · rw [e6] at h
              cases h
              exact fun w5 vs5 x5 W5 q5 => p2 w5 vs5 (x3.trans x5 W3) W5 q5
theorem whlG_some {c : Ro → List R → Option Rs} {t : Ro → List R → List D → Option GO} {n : Nat} {ρ : Ro} {m : List R} {ys : List D} {o : GO} (e : whlG c t n ρ m ys = some o) : ∃ k b m1, n = k + 1 ∧ c ρ m = some (.ok (.bl b) m1) ∧
    (b = false ∧ o = .nx ρ m1 ys ∨ b = true ∧ ((∃ ρ1 m2 ys1, (t ρ m1 ys = some (.nx ρ1 m2 ys1) ∨ t ρ m1 ys = some (.ct ρ1 m2 ys1)) ∧ whlG c t k ρ1 m2 ys1 = some o) ∨ (∃ ρ1 m2 ys1, t ρ m1 ys = some (.bk ρ1 m2 ys1) ∧ o = .nx ρ1 m2 ys1) ∨ ∃ m2 ys1, t ρ m1 ys = some (.rt m2 ys1) ∧ o = .rt m2 ys1)) := by
  cases n with
  | zero => cases e
  | succ k =>
    simp only [whlG] at e
    cases h : c ρ m with
    | none => rw [h] at e; cases e
    | some r =>
      rw [h] at e
      cases r with
      | ex x m1 => cases e
      | ok d m1 =>
        cases d with
        | bl b =>
          cases b with
          | false => cases e; exact ⟨k, false, m1, rfl, rfl, .inl ⟨rfl, rfl⟩⟩
          | true =>
            refine ⟨k, true, m1, rfl, rfl, .inr ⟨rfl, ?_⟩⟩
            simp only at e
            cases h2 : t ρ m1 ys with
            | none => rw [h2] at e; cases e
            | some o1 =>
              rw [h2] at e
              cases o1 with
              | nx ρ1 m2 ys1 => exact .inl ⟨_, _, _, .inl rfl, e⟩
              | ct ρ1 m2 ys1 => exact .inl ⟨_, _, _, .inr rfl, e⟩
              | bk ρ1 m2 ys1 => cases e; exact .inr (.inl ⟨_, _, _, rfl, rfl⟩)
              | rt m2 ys1 => cases e; exact .inr (.inr ⟨_, _, rfl, rfl⟩)
        | _ => cases e
theorem dgb_whl {n : Nat} {test : Expr} {b sts : List Stmt} {c : Dv.E} {xb r : GB} {pos : Pos} (hc : DT C test (evE C.g c)) (hb : DGB C b (evG C.g xb)) (h2 : DGB C sts (evG C.g r)) : DGB C (.While test b [] pos :: sts) (evG C.g (.whl n c xb r)) := by
  obtain ⟨tc, pc, rc⟩ := hc
  obtain ⟨tb, pb, rb⟩ := hb
  obtain ⟨u, q, j⟩ := h2
  refine ⟨tGThen (tGWhile tc tb) u, fun X ok => gss_cons (gs_while ok.own (pc X ok.toOk) (pb X ok)) (q X ok), fun σ w ρ m ys vs D o W E rl e pp => ?_⟩
  simp only [evG] at e
  cases e2 : whlG (evE C.g c) (evG C.g xb) n ρ m ys with
  | none => rw [e2] at e; cases e
  | some o1 =>
    rw [e2] at e
    have P1 : ∀ w', Ext w w' → ∀ m', Wf C.T w' m' → PostG C.T w' { D with nx := fun ys' σ' H' => u D ys' σ' H' } o1 := fun w' x' m' W' =>
      PostG.thn (m := m') (ys := ys) j e (pp.on x' W') fun w'' x'' m'' W'' => pp.on (x'.trans x'' W') W''
    refine ⟨fun n vs' σ' H' => ∃ w2 ρ2 m2 ys2, w2.H = H' ∧ Ext w w2 ∧ Wf C.T w2 m2 ∧ ER C.T w2 σ' ρ2 ∧ RepL C.T w2.Hs w2.al vs' ys2 ∧ whlG (evE C.g c) (evG C.g xb) n ρ2 m2 ys2 = some o1, ⟨n, w, ρ, m, ys, rfl, Ext.refl _, W, E, rl, e2⟩, ?_⟩
    rintro n vs' σ' H' ⟨w2, ρ2, m2, ys2, rfl, x2, W2, E2, r2, go⟩
    obtain ⟨k, b, m3, rfl, e3, aft⟩ := whlG_some go
    refine rc σ' w2 ρ2 m2 _ _ W2 E2 e3 ⟨b, rfl, fun w3 x3 W3 => ?_⟩
    have p3 := P1 w3 (x2.trans x3 W2) m3 W3
    rcases aft with ⟨rfl, rfl⟩ | ⟨rfl, aft⟩
    · exact iteF (p3 w3 σ' vs' (Ext.refl _) W3 (E2.on x3) (r2.on x3))
    · refine iteT ?_
      refine ⟨fun vs' σ' H' => ∃ w2 ρ2 m2 ys2, w2.H = H' ∧ Ext w w2 ∧ Wf C.T w2 m2 ∧ ER C.T w2 σ' ρ2 ∧ RepL C.T w2.Hs w2.al vs' ys2 ∧ whlG (evE C.g c) (evG C.g xb) k ρ2 m2 ys2 = some o1, fun vs'' σ'' H'' h => ⟨k, Nat.lt_succ_self _, h⟩, ?_⟩
      rcases aft with ⟨ρ1, m1', ys1, h, aft⟩ | ⟨ρ1, m1', ys1, h, rfl⟩ | ⟨m1', ys1, h, rfl⟩
      · rcases h with h | h
        · refine rb σ' w3 ρ2 m3 ys2 vs' _ _ W3 (E2.on x3) (r2.on x3) h ?_
          exact fun w5 σ5 vs5 x5 W5 E5 q5 => ⟨w5, _, _, _, rfl, x2.trans (x3.trans x5 W3) W2, W5, E5, q5, aft⟩
        · refine rb σ' w3 ρ2 m3 ys2 vs' _ _ W3 (E2.on x3) (r2.on x3) h ?_
          exact fun w5 σ5 vs5 x5 W5 E5 q5 => ⟨w5, _, _, _, rfl, x2.trans (x3.trans x5 W3) W2, W5, E5, q5, aft⟩
      · refine rb σ' w3 ρ2 m3 ys2 vs' _ _ W3 (E2.on x3) (r2.on x3) h ?_
        exact fun w5 σ5 vs5 x5 W5 E5 q5 => p3 w5 σ5 vs5 x5 W5 E5 q5
      · refine rb σ' w3 ρ2 m3 ys2 vs' _ _ W3 (E2.on x3) (r2.on x3) h ?_
        exact fun w5 vs5 x5 W5 q5 => p3 w5 vs5 x5 W5 q5

/-! ### generator defs -/
/-- the promise -/
def spG (T : Tb) (F : List D → List R → Option (List D × List R)) : SpG := fun vs H Q _ => ∃ w ds m ys m', H = w.H ∧ Wf T w m ∧ RepL T w.Hs w.al vs ds ∧ F ds m = some (ys, m') ∧ ∀ w' us, Ext w w' → Wf T w' m' → RepL T w'.Hs w'.al us ys → Q us w'.H
/-- what a generator def hands out (its own things stay changeable) -/
def runG (g : Gt) (N : Nat) (b : GB) (ds : List D) (m : List R) : Option (List D × List R) := match evG g b (ds.map some ++ List.replicate (N - ds.length) none) m [] with
  | some (.nx _ m' ys) => some (ys, m')
  | some (.rt m' ys) => some (ys, m')
  | _ => none
theorem gdef_ok {x qual : Str} {st : Stmt} {f : Addr} {fd : FuncData} {N ps : List Str} {b : GB} (F : FnD C.T.K x qual st f fd) (S : GScope N ps (defScope st)) (hb : DGB (C.at N (defScope st) fun _ _ _ => False) (defBody st) (evG C.g b)) :
    GFn C.P C.w C.T.K C.mg C.base (C.L + 1) f fd ps (fun vs H Q E => vs.length = ps.length ∧ spG C.T (runG C.g N.length b) vs H Q E) := by
  obtain ⟨oc, od, dV, kV, doc, pm, an, cdv, ct, osl, rfl, lk, hcd⟩ := F.ex
  refine gfn_of (N := N) lk hcd S (fun vs H Q E h => h.1) fun A outer s H vs Q E pn hr h => ?_
  obtain ⟨t, pt, rt⟩ := hb
  obtain ⟨hl, w, ds, m, ys, m', rfl, W, r, e, p⟩ := h
  refine ⟨t, pt _ ⟨⟨rfl, rfl, rfl, rfl, rfl, rfl, rfl, S.nd, rfl, hr, fun u s' x => ?_, rfl⟩, owns_gcx⟩, ?_⟩
  · obtain ⟨_, _, _, _, _, _, _, _, _, _, _, _, _, _, _, _, z⟩ := x
    exact z.elim
  unfold runG at e
  cases e1 : evG C.g b (ds.map some ++ List.replicate (N.length - ds.length) none) m [] with
  | none => rw [e1] at e; cases e
  | some o1 =>
    rw [e1] at e
    refine rt _ w _ m [] [] _ o1 W (start_er r) .nil e1 ?_
    cases o1 with
    | nx ρ m1 ys1 => cases e; exact fun w1 σ1 vs1 x1 W1 E1 q1 => p w1 vs1 x1 W1 q1
    | rt m1 ys1 => cases e; exact fun w1 vs1 x1 W1 q1 => ⟨rfl, p w1 vs1 x1 W1 q1⟩
    | bk ρ m1 ys1 => cases e
    | ct ρ m1 ys1 => cases e
/-- a generator def, called (dds: what its defaults are) -/
def GnE (C : Cs) (x : Str) (n i : Nat) : Prop := ∃ (k : Nat) (f : Addr) (fd : FuncData) (ps : List Str) (F : List D → List R → Option (List D × List R)) (ds : List Value) (dvs : List V) (dds : List D), GFn C.P C.w C.T.K C.mg C.base k f fd ps (fun vs H Q E => vs.length = ps.length ∧ spG C.T F vs H Q E) ∧ k + 3 ≤ C.L ∧ C.mg x = some (.ref f) ∧ PySem.W.keepIn C.T.K (.ref f) = true ∧ Binds C.T.K fd ps ds ∧
  Vals dvs ds ∧ (∀ Hs al, RepL C.T Hs al dvs dds) ∧ n + dds.length = ps.length ∧ ∀ as m, C.g.gen i as m = F (as ++ dds) m
theorem de_lgn {x : Str} {i : Nat} {mu : Bool} {e : Expr} {es : List Expr} {xs : Es} {p0 p pos0 pos : Pos} (F : GnE C x xs.len i) (hgl : C.sc.names.lookup ("list" : Str) = some .globalImplicit) (hml : C.mg "list" = none) (hg : C.sc.names.lookup x = some .globalImplicit) (ha : DA C (e :: es) (evL C.g xs)) (hs : (e :: es).all noStar = true)
    (hdb : (x == ("__debug__" : Str)) = false) :
    DE C (.Call (.Name "list" p0) [.Call (.Name x p) (e :: es) [] pos] [] pos0) (evE C.g (.lgn i mu xs)) := by
  obtain ⟨k, f, fd, ps, FF, dvl, dvs, dds, F, hk, hm, kp, hb, hdv, hdd, hn, hgi⟩ := F
  obtain ⟨t, pt, rt⟩ := ha
  rw [List.all_cons, Bool.and_eq_true] at hs
  refine ⟨tListG (tCallG (fun vs H Q E => vs.length = ps.length ∧ spG C.T FF vs H Q E) dvs (fun _ _ _ => False) t), fun X ok => ?_, fun σ w ρ m Q oo W E e0 pp => ?_⟩
  · have F' : GFn X.prog X.w X.K X.mg X.base k f fd ps (fun vs H Q E => vs.length = ps.length ∧ spG C.T FF vs H Q E) := by rw [ok.prog, ok.w, ok.K, ok.mg, ok.base]; exact F
    have pg : PGen X k (.Call (.Name x p) (e :: es) [] pos) (tCallG (fun vs H Q E => vs.length = ps.length ∧ spG C.T FF vs H Q E) dvs (fun _ _ _ => False) t) (fun _ _ _ => False) :=
      pgen_call F' (ok.room.mono (Nat.le_trans (Nat.le_add_right _ _) hk)) (show X.env.scope.names.lookup x = some .globalImplicit by rw [ok.sc]; exact hg) (by rw [ok.mg]; exact hm) (by rw [ok.K]; exact kp) (by rw [ok.K]; exact hb) hdv (pt X ok) hdb (star1 hs.1 es _) (stars hs.2)
    refine pe_listG (nm := "list") pg (fun pins σ H s e s' I c => ?_) (fun _ _ _ z => z.elim) (ok.room.mono hk) (show X.env.scope.names.lookup ("list" : Str) = some .globalImplicit by rw [ok.sc]; exact hgl) (by rw [ok.mg]; exact hml) rfl
    obtain ⟨_, _, _, _, _, _, _, _, _, _, _, _, z⟩ := c
    exact z.elim
  · simp only [evE] at e0
    refine rt.bndN W E e0 pp fun d m1 w1 v1 hl e1 x1 W1 r1 E1 p1 => ?_
    have l2 := (hdd w1.Hs w1.al).length
    refine ⟨by rw [List.length_append]; omega, ?_⟩
    cases e2 : C.g.gen i d m1 with
    | none => rw [e2] at e1; cases e1
    | some q =>
      obtain ⟨ys, m2⟩ := q
      rw [e2] at e1
      refine ⟨w1, d ++ dds, m1, ys, m2, rfl, W1, r1.append (hdd _ _), by rw [← hgi]; exact e2, fun w2 us x2 W2 r2 q hq => ?_⟩
      have e1 : okP (some (newL mu m2 ys)) = some oo := e1
      cases e1
      exact new_list W2 r2 hq fun w' v x' W' r' => (p1.on x2 W2) w' v x' W' r'
end
end Dv

namespace Dv
open PySem PySem.Spec PyProof.Rows L2

theorem iN_eq (n : Nat) : iN n = .int (n : Int) := rfl
theorem atI_nn {α : Type} {xs : List α} {i : Int} (h : 0 ≤ i) : L2.atI xs i = xs[i.toNat]? := by
  unfold L2.atI L2.ixN
  rw [if_pos h]
  by_cases h2 : i < xs.length
  · rw [if_pos h2]; rfl
  · rw [if_neg h2, List.getElem?_eq_none (by omega)]; rfl
theorem atI_lastN {α : Type} {xs : List α} : L2.atI xs (-1) = xs.getLast? := by
  unfold L2.atI L2.ixN
  rw [if_neg (by omega)]
  by_cases h2 : xs = []
  · subst h2; rfl
  · have hl : 0 < xs.length := List.length_pos_iff.mpr h2
    rw [if_pos (by omega), List.getLast?_eq_getElem?]
    show xs[((-1 : Int) + xs.length).toNat]? = _
    congr 1
    omega
theorem atI_natN {α : Type} {xs : List α} (i : Nat) : L2.atI xs (i : Int) = xs[i]? := by
  rw [atI_nn (by omega)]; rfl
theorem ixN_nn {n : Nat} {i : Int} (h : 0 ≤ i) (h2 : i < n) : L2.ixN n i = some i.toNat := by
  unfold L2.ixN
  rw [if_pos h, if_pos h2]
theorem cut_lo {xs : List D} {a : Int} (h : 0 ≤ a) : cutD xs (some a) none = xs.drop a.toNat := by
  unfold cutD
  obtain ⟨k, rfl⟩ : ∃ k : Nat, a = k := ⟨a.toNat, by omega⟩
  rw [HT.sIx_nat, HT.sIx_none, Int.toNat_natCast]
  by_cases hk : k ≤ xs.length
  · rw [Nat.min_eq_left hk]
    exact List.take_of_length_le (by rw [List.length_drop]; omega)
  · rw [Nat.min_eq_right (by omega), List.drop_of_length_le (Nat.le_refl _), List.drop_of_length_le (by omega)]
    simp
theorem cut_hi {xs : List D} {a : Int} (h : 0 ≤ a) : cutD xs none (some a) = xs.take a.toNat := by
  unfold cutD
  obtain ⟨k, rfl⟩ : ∃ k : Nat, a = k := ⟨a.toNat, by omega⟩
  rw [HT.sIx_nat, HT.sIx_none, Int.toNat_natCast]
  show (xs.drop 0).take (min k xs.length - 0) = _
  rw [List.drop_zero, Nat.sub_zero]
  by_cases hk : k ≤ xs.length
  · rw [Nat.min_eq_left hk]
  · rw [Nat.min_eq_right (by omega), List.take_of_length_le (Nat.le_refl _), List.take_of_length_le (by omega)]
theorem cut_lohi {xs : List D} {a b : Int} (h : 0 ≤ a) (h2 : 0 ≤ b) : cutD xs (some a) (some b) = (xs.take b.toNat).drop a.toNat := by
  unfold cutD
  obtain ⟨k, rfl⟩ : ∃ k : Nat, a = k := ⟨a.toNat, by omega⟩
  obtain ⟨j, rfl⟩ : ∃ k : Nat, b = k := ⟨b.toNat, by omega⟩
  rw [HT.sIx_nat, HT.sIx_nat, Int.toNat_natCast, Int.toNat_natCast, List.drop_take]
  by_cases hk : k ≤ xs.length
  · rw [Nat.min_eq_left hk]
    by_cases hj : j ≤ xs.length
    · rw [Nat.min_eq_left hj]
    · rw [Nat.min_eq_right (by omega)]
      rw [List.take_of_length_le (by rw [List.length_drop]; omega), List.take_of_length_le (by rw [List.length_drop]; omega)]
  · rw [Nat.min_eq_right (by omega : xs.length ≤ k), List.drop_of_length_le (Nat.le_refl _), List.drop_of_length_le (by omega)]
    simp
theorem cut_all {xs : List D} : cutD xs none none = xs := by
  unfold cutD
  show (xs.drop 0).take (xs.length - 0) = _
  simp
theorem cut_him1 {xs : List D} : cutD xs none (some (-1)) = xs.dropLast := by
  unfold cutD
  have e : HT.sIx xs.length xs.length (some (-1)) = xs.length - 1 := by
    show (if (-1 : Int) < 0 then ((-1 : Int) + (xs.length : Int)).toNat else min (-1 : Int).toNat xs.length) = _
    rw [if_pos (by omega)]; omega
  rw [e]
  show (xs.drop 0).take (xs.length - 1 - 0) = _
  rw [List.drop_zero, Nat.sub_zero, List.dropLast_eq_take]
theorem q_slT (mu : Bool) (m : List R) (xs : List D) (lo hi : Option Int) : slD mu m (.tup xs) lo hi = some (.tup (cutD xs lo hi), m) := rfl
theorem q_slL (mu : Bool) (m : List R) (xs : List D) (lo hi : Option Int) : slD mu m (.lst xs) lo hi = some (newL mu m (cutD xs lo hi)) := rfl
theorem q_slR {mu : Bool} {m : List R} {k : Nat} {xs : List D} {lo hi : Option Int} (h : m[k]? = some (.lst xs)) : slD mu m (.res k) lo hi = some (newL mu m (cutD xs lo hi)) := by
  simp only [slD, lsq, h, Option.map_some]
theorem q_ixR {m : List R} {k : Nat} {xs : List D} {i : Int} (h : m[k]? = some (.lst xs)) : ixD m (.res k) (.int i) = L2.atI xs i := ixD_res i h
theorem q_lenS {mu : Bool} {m : List R} {x : Str} (h : x.length ≤ 16000000) : biD .len mu m [.str x] = some (.int x.length, m) := by
  show (if x.length ≤ sizeLine then some (D.int x.length, m) else none) = _
  rw [if_pos (by rw [sizeLine_eq]; omega)]
theorem q_lenT (mu : Bool) (m : List R) (xs : List D) : biD .len mu m [.tup xs] = some (.int xs.length, m) := rfl
theorem q_lenL (mu : Bool) (m : List R) (xs : List D) : biD .len mu m [.lst xs] = some (.int xs.length, m) := rfl
theorem q_lenE (mu : Bool) (m : List R) (xs : List D) : biD .len mu m [.ext xs] = some (.int xs.length, m) := rfl
theorem q_lenR {mu : Bool} {m : List R} {k : Nat} {xs : List D} (h : m[k]? = some (.lst xs)) : biD .len mu m [.res k] = some (.int xs.length, m) := by
  simp only [biD, sq, h, Option.map_some]
theorem q_listT (mu : Bool) (m : List R) (xs : List D) : biD .list mu m [.tup xs] = some (newL mu m xs) := rfl
theorem q_listL (mu : Bool) (m : List R) (xs : List D) : biD .list mu m [.lst xs] = some (newL mu m xs) := rfl
theorem q_listE (mu : Bool) (m : List R) (xs : List D) : biD .list mu m [.ext xs] = some (newL mu m xs) := rfl
theorem q_listR {mu : Bool} {m : List R} {k : Nat} {xs : List D} (h : m[k]? = some (.lst xs)) : biD .list mu m [.res k] = some (newL mu m xs) := by
  simp only [biD, sq, h, Option.map_some]
theorem q_listQ {mu : Bool} {m : List R} {d : D} {xs : List D} (h : sq m d = some xs) : biD .list mu m [d] = some (newL mu m xs) := by
  simp only [biD, h, Option.map_some]
theorem q_tupT (mu : Bool) (m : List R) (xs : List D) : biD .tuple mu m [.tup xs] = some (.tup xs, m) := rfl
theorem q_tupL (mu : Bool) (m : List R) (xs : List D) : biD .tuple mu m [.lst xs] = some (.tup xs, m) := rfl
theorem q_tupR {mu : Bool} {m : List R} {k : Nat} {xs : List D} (h : m[k]? = some (.lst xs)) : biD .tuple mu m [.res k] = some (.tup xs, m) := by
  simp only [biD, sq, h, Option.map_some]
theorem q_intI (mu : Bool) (m : List R) (i : Int) : biD .int mu m [.int i] = some (.int i, m) := rfl
theorem q_intB (mu : Bool) (m : List R) (i : Bool) : biD .int mu m [.bl i] = some (.int (if i then 1 else 0), m) := rfl
theorem q_absI (mu : Bool) (m : List R) (i : Int) : biD .abs mu m [.int i] = some (.int (if i < 0 then -i else i), m) := rfl
theorem q_maxII (mu : Bool) (m : List R) (i j : Int) : biD .max mu m [.int i, .int j] = some (.int (if j > i then j else i), m) := rfl
theorem q_minII (mu : Bool) (m : List R) (i j : Int) : biD .min mu m [.int i, .int j] = some (.int (if j < i then j else i), m) := rfl
theorem asIntsM : ∀ xs : List Int, asInts (xs.map .int) = some xs
  | [] => rfl
  | x :: xs => by simp only [List.map_cons, asInts, asIntsM xs, Option.map_some]
theorem asInts_iN (xs : List Nat) : asInts (xs.map iN) = some (xs.map fun (n : Nat) => (n : Int)) := by
  have := asIntsM (xs.map fun (n : Nat) => (n : Int))
  rw [List.map_map] at this
  exact this
theorem asStrsM : ∀ xs : List Str, asStrs (xs.map .str) = some xs
  | [] => rfl
  | x :: xs => by simp only [List.map_cons, asStrs, asStrsM xs, Option.map_some]
theorem asBlsM : ∀ xs : List Bool, asBls (xs.map .bl) = some xs
  | [] => rfl
  | x :: xs => by simp only [List.map_cons, asBls, asBlsM xs, Option.map_some]
theorem asInts_strs : ∀ {xs : List Str}, xs ≠ [] → asInts (xs.map .str) = none
  | [], h => absurd rfl h
  | x :: xs, _ => rfl
theorem q_sortI {mu : Bool} {m : List R} {a : D} {xs : List D} {ns : List Int} (h : sq m a = some xs) (h2 : asInts xs = some ns) : biD .sorted mu m [a] = some (newL mu m ((sortI ns).map .int)) := by
  simp only [biD, h, h2]
theorem q_allL {mu : Bool} {m : List R} {bs : List Bool} : biD .all mu m [.lst (bs.map .bl)] = some (.bl (bs.all id), m) := by
  simp only [biD, lsq, asBlsM, Option.map_some]
theorem q_append {m : List R} {k : Nat} {ys : List D} {x : D} (h : m[k]? = some (.lst ys)) (h2 : ys.length ≤ 16000000) : mtD .append m (.res k) [x] = some (.non, m.set k (.lst (ys ++ [x]))) := by
  show appendD m (.res k) [x] = _
  simp only [appendD, resL, h]
  exact if_pos (by rw [sizeLine_eq]; omega)
theorem q_extend {m : List R} {k : Nat} {ys zs : List D} {a : D} (h : m[k]? = some (.lst ys)) (h1 : lsq m a = some zs) (h2 : ys.length + zs.length ≤ 16000000) : mtD .extend m (.res k) [a] = some (.non, m.set k (.lst (ys ++ zs))) := by
  show extendD m (.res k) [a] = _
  simp only [extendD, resL, h, h1]
  exact if_pos (by rw [sizeLine_eq]; omega)
theorem q_insert {m : List R} {k : Nat} {ys : List D} {x : D} {i : Int} (h : m[k]? = some (.lst ys)) (h0 : 0 ≤ i) (h1 : i < 9000000000000000000) (h2 : ys.length ≤ 16000000) : mtD .insert m (.res k) [.int i, x] = some (.non, m.set k (.lst (ys.take i.toNat ++ [x] ++ ys.drop i.toNat))) := by
  show insertD m (.res k) [.int i, x] = _
  simp only [insertD, resL, h]
  exact if_pos ⟨by rw [sizeLine_eq]; omega, h0, by omega⟩
theorem q_pop {m : List R} {k : Nat} {ys : List D} {y : D} {i : Int} (h : m[k]? = some (.lst ys)) (h0 : 0 ≤ i) (h1 : i < 9000000000000000000) (h2 : ys[i.toNat]? = some y) : mtD .pop m (.res k) [.int i] = some (y, m.set k (.lst (ys.eraseIdx i.toNat))) := by
  show popD m (.res k) [.int i] = _
  simp only [popD, resL, h]
  rw [if_pos ⟨h0, by omega⟩, h2]
theorem q_mtR {f : Mt} {m : List R} {k : Nat} {ys : List D} (h : m[k]? = some (.lst ys)) : mtOk f m (.res k) = true := by
  simp [mtOk, lsq, h]
theorem q_mtL {f : Mt} {m : List R} {ys : List D} : mtOk f m (.lst ys) = true := by
  simp [mtOk, lsq]
theorem q_mtT {m : List R} {ys : List D} : mtOk .index m (.tup ys) = true := by
  simp [mtOk, lsq, isTup]
theorem q_sti {m : List R} {k : Nat} {ys : List D} {i : Int} {d : D} (h : m[k]? = some (.lst ys)) (h0 : 0 ≤ i) (h1 : i < ys.length) : stiD m (.res k) (.int i) d = some (m.set k (.lst (ys.set i.toNat d))) := by
  simp only [stiD, resL, h, ixN_nn h0 h1]
theorem q_augA (a b : Int) : augD .add (.int a) (.int b) = some (.int (a + b)) := rfl
theorem q_augS (a b : Int) : augD .sub (.int a) (.int b) = some (.int (a - b)) := rfl
theorem q_rg {i : Int} (h1 : -4611686018427387904 ≤ i) (h2 : i < 4611686018427387904) : smallI i = true := decide_eq_true ⟨h1, h2⟩
theorem q_rngN (n : Nat) : rngD 0 (n : Int) = (List.range n).map iN := rngD_0 n

/-- what stands at k -/
def atR (m : List R) (k : Nat) (f : List D → Option (D × List R)) : Option (D × List R) := match m[k]? with
  | some (.lst xs) => f xs
  | _ => none
def gtK {α : Type} (f : List D → Option α) : Option R → Option α
  | some (.lst xs) => f xs
  | _ => none
theorem gtK_ok {α : Type} (f : List D → Option α) (xs : List D) : gtK f (some (.lst xs)) = f xs := rfl
theorem atR_g (m : List R) (k : Nat) (f : List D → Option (D × List R)) : atR m k f = gtK f m[k]? := by
  unfold atR gtK; rfl
theorem atR_some {m : List R} {k : Nat} {xs : List D} {f : List D → Option (D × List R)} (h : m[k]? = some (.lst xs)) : atR m k f = f xs := by
  unfold atR
  rw [h]
theorem z_addRL (mu : Bool) (m : List R) (k : Nat) (b : List D) : bopD .add mu m (.res k) (.lst b) = atR m k fun a => if a.length + b.length ≤ sizeLine then some (newL mu m (a ++ b)) else none := by
  show addD mu m (.res k) (.lst b) = _
  unfold atR
  simp only [addD, lsq]
  cases m[k]? with
  | none => rfl
  | some r => cases r <;> rfl
theorem z_addLR (mu : Bool) (m : List R) (k : Nat) (a : List D) : bopD .add mu m (.lst a) (.res k) = atR m k fun b => if a.length + b.length ≤ sizeLine then some (newL mu m (a ++ b)) else none := by
  show addD mu m (.lst a) (.res k) = _
  unfold atR
  simp only [addD, lsq]
  cases m[k]? with
  | none => rfl
  | some r => cases r <;> rfl
theorem z_addRR (mu : Bool) (m : List R) (k j : Nat) : bopD .add mu m (.res k) (.res j) = atR m k fun a => atR m j fun b => if a.length + b.length ≤ sizeLine then some (newL mu m (a ++ b)) else none := by
  show addD mu m (.res k) (.res j) = _
  unfold atR
  simp only [addD, lsq]
  cases m[k]? with
  | none => rfl
  | some r =>
    cases r with
    | obj c fs => rfl
    | lst a =>
      cases m[j]? with
      | none => rfl
      | some r => cases r <;> rfl
theorem z_addLL (mu : Bool) (m : List R) (a b : List D) : bopD .add mu m (.lst a) (.lst b) = if a.length + b.length ≤ sizeLine then some (newL mu m (a ++ b)) else none := rfl
theorem z_addTT (mu : Bool) (m : List R) (a b : List D) : bopD .add mu m (.tup a) (.tup b) = if a.length + b.length ≤ sizeLine then some (.tup (a ++ b), m) else none := rfl
theorem z_addSS (mu : Bool) (m : List R) (a b : Str) : bopD .add mu m (.str a) (.str b) = if a.length + b.length ≤ sizeLine then some (.str (a ++ b), m) else none := rfl
theorem z_slR (mu : Bool) (m : List R) (k : Nat) (lo hi : Option Int) : slD mu m (.res k) lo hi = atR m k fun xs => some (newL mu m (cutD xs lo hi)) := by
  unfold atR
  simp only [slD, lsq]
  cases m[k]? with
  | none => rfl
  | some r => cases r <;> rfl
/-- an item of what stands at k -/
def atX (m : List R) (k : Nat) (f : List D → Option D) : Option D := match m[k]? with
  | some (.lst xs) => f xs
  | _ => none
theorem atX_g (m : List R) (k : Nat) (f : List D → Option D) : atX m k f = gtK f m[k]? := by
  unfold atX gtK; rfl
theorem atX_some {m : List R} {k : Nat} {xs : List D} {f : List D → Option D} (h : m[k]? = some (.lst xs)) : atX m k f = f xs := by
  unfold atX
  rw [h]
theorem z_ixR (m : List R) (k : Nat) (i : Int) : ixD m (.res k) (.int i) = atX m k fun xs => L2.atI xs i := by
  show (sq m (.res k)).bind (fun xs => L2.atI xs i) = _
  unfold atX
  simp only [sq]
  cases m[k]? with
  | none => rfl
  | some r => cases r <;> rfl
theorem z_lenR (mu : Bool) (m : List R) (k : Nat) : biD .len mu m [.res k] = atR m k fun xs => some (.int xs.length, m) := by
  unfold atR
  simp only [biD, sq]
  cases m[k]? with
  | none => rfl
  | some r => cases r <;> rfl
theorem z_listR (mu : Bool) (m : List R) (k : Nat) : biD .list mu m [.res k] = atR m k fun xs => some (newL mu m xs) := by
  unfold atR
  simp only [biD, sq]
  cases m[k]? with
  | none => rfl
  | some r => cases r <;> rfl
theorem z_tupR (mu : Bool) (m : List R) (k : Nat) : biD .tuple mu m [.res k] = atR m k fun xs => some (.tup xs, m) := by
  unfold atR
  simp only [biD, sq]
  cases m[k]? with
  | none => rfl
  | some r => cases r <;> rfl
theorem z_append (m : List R) (k : Nat) (x : D) : mtD .append m (.res k) [x] = atR m k fun ys => if ys.length < sizeLine then some (.non, m.set k (.lst (ys ++ [x]))) else none := by
  show appendD m (.res k) [x] = _
  unfold atR
  simp only [appendD, resL]
  cases m[k]? with
  | none => rfl
  | some r => cases r <;> rfl
theorem z_extR (m : List R) (k j : Nat) : mtD .extend m (.res k) [.res j] = atR m k fun ys => atR m j fun zs => if ys.length + zs.length ≤ sizeLine then some (.non, m.set k (.lst (ys ++ zs))) else none := by
  show extendD m (.res k) [.res j] = _
  unfold atR
  simp only [extendD, resL, lsq]
  cases m[k]? with
  | none => rfl
  | some r =>
    cases r with
    | obj c fs => rfl
    | lst a =>
      cases m[j]? with
      | none => rfl
      | some r => cases r <;> rfl
theorem z_extL (m : List R) (k : Nat) (zs : List D) : mtD .extend m (.res k) [.lst zs] = atR m k fun ys => if ys.length + zs.length ≤ sizeLine then some (.non, m.set k (.lst (ys ++ zs))) else none := by
  show extendD m (.res k) [.lst zs] = _
  unfold atR
  simp only [extendD, resL, lsq]
  cases m[k]? with
  | none => rfl
  | some r => cases r <;> rfl
theorem z_insert {m : List R} {k : Nat} {x : D} {i : Int} (h0 : 0 ≤ i) (h1 : i < 9000000000000000000) : mtD .insert m (.res k) [.int i, x] = atR m k fun ys => if ys.length < sizeLine then some (.non, m.set k (.lst (ys.take i.toNat ++ [x] ++ ys.drop i.toNat))) else none := by
  show insertD m (.res k) [.int i, x] = _
  unfold atR
  simp only [insertD, resL]
  cases m[k]? with
  | none => rfl
  | some r =>
    cases r with
    | obj c fs => rfl
    | lst a =>
      by_cases hl : a.length < sizeLine
      · simp only [hl, h0, true_and, if_true]
        exact if_pos (by omega)
      · simp only [hl, false_and, if_false]
def popK (f : D → Option (D × List R)) : Option D → Option (D × List R)
  | some y => f y
  | none => none
theorem popK_ok (f : D → Option (D × List R)) (y : D) : popK f (some y) = f y := rfl
theorem z_pop {m : List R} {k : Nat} {i : Int} (h0 : 0 ≤ i) (h1 : i < 9000000000000000000) : mtD .pop m (.res k) [.int i] = atR m k fun ys => popK (fun y => some (y, m.set k (.lst (ys.eraseIdx i.toNat)))) ys[i.toNat]? := by
  show popD m (.res k) [.int i] = _
  unfold atR
  simp only [popD, resL]
  have c : 0 ≤ i ∧ i < 2 ^ 63 := ⟨h0, by omega⟩
  cases m[k]? with
  | none => rfl
  | some r =>
    cases r with
    | obj c fs => rfl
    | lst a =>
      simp only [if_pos c]
      cases a[i.toNat]? <;> rfl
theorem z_pop0 (m : List R) (k : Nat) : mtD .pop m (.res k) [] = atR m k fun ys => popK (fun y => some (y, m.set k (.lst ys.dropLast))) ys[ys.length - 1]? := by
  show popD m (.res k) [] = _
  unfold atR
  simp only [popD, resL]
  cases m[k]? with
  | none => rfl
  | some r => cases r <;> rfl
/-- a test that asks for a list at k -/
def isR (m : List R) (k : Nat) : Bool := match m[k]? with
  | some (.lst _) => true
  | _ => false
def isK : Option R → Bool
  | some (.lst _) => true
  | _ => false
theorem isK_ok (xs : List D) : isK (some (.lst xs)) = true := rfl
theorem isR_g (m : List R) (k : Nat) : isR m k = isK m[k]? := by
  unfold isR isK; rfl
theorem isR_some {m : List R} {k : Nat} {xs : List D} (h : m[k]? = some (.lst xs)) : isR m k = true := by
  unfold isR
  rw [h]
theorem z_mtR (f : Mt) (m : List R) (k : Nat) : mtOk f m (.res k) = isR m k := by
  unfold mtOk isR isTup
  simp only [lsq]
  cases m[k]? with
  | none => simp
  | some r => cases r <;> simp
def atSt (m : List R) (k : Nat) (f : List D → Option (List R)) : Option (List R) := match m[k]? with
  | some (.lst xs) => f xs
  | _ => none
theorem atSt_g (m : List R) (k : Nat) (f : List D → Option (List R)) : atSt m k f = gtK f m[k]? := by
  unfold atSt gtK; rfl
theorem atSt_some {m : List R} {k : Nat} {xs : List D} {f : List D → Option (List R)} (h : m[k]? = some (.lst xs)) : atSt m k f = f xs := by
  unfold atSt
  rw [h]
def stiK (f : Nat → Option (List R)) : Option Nat → Option (List R)
  | some j => f j
  | none => none
theorem stiK_ok (f : Nat → Option (List R)) (j : Nat) : stiK f (some j) = f j := rfl
theorem z_sti (m : List R) (k : Nat) (i : Int) (d : D) : stiD m (.res k) (.int i) d = atSt m k fun ys => stiK (fun j => some (m.set k (.lst (ys.set j d)))) (L2.ixN ys.length i) := by
  unfold atSt
  simp only [stiD, resL]
  cases m[k]? with
  | none => rfl
  | some r => cases r <;> rfl
theorem enuD_map {α : Type} (f : α → D) (xs : List α) : enuD (xs.map f) = xs.zipIdx.map fun p => .tup [.int (p.2 : Int), f p.1] := by
  unfold enuD
  rw [List.zipIdx_map, List.map_map]
  rfl
theorem enuD_get {xs : List D} {i : Nat} {x : D} (h : (enuD xs)[i]? = some x) : ∃ y, xs[i]? = some y ∧ x = .tup [.int (i : Int), y] := by
  unfold enuD at h
  rw [List.getElem?_map, List.getElem?_zipIdx] at h
  cases e : xs[i]? with
  | none => rw [e] at h; cases h
  | some y =>
    rw [e] at h
    refine ⟨y, rfl, ?_⟩
    have := (Option.some.inj h).symm
    simpa using this
theorem enuD_len (xs : List D) : (enuD xs).length = xs.length := by simp [enuD]
theorem any_eqv {m : List R} {n : Nat} {a : D} {p : PyData} (ha : pl n a = true) (hp : pd m a = some p) : ∀ {xs : List D} {ps : List PyData}, plL n xs = true → pdL m xs = some ps → (ps.any (fun z => PyData.eqv z p) = true ↔ a ∈ xs)
  | [], ps, _, e => by cases e; simp
  | x :: xs, ps, h, e => by
    simp only [plL, Bool.and_eq_true] at h
    obtain ⟨p1, e1, _⟩ := pl_pd (m := m) h.1
    obtain ⟨p2, e2, _⟩ := plL_pd (m := m) h.2
    simp only [pdL, e1, e2] at e
    cases e
    rw [List.any_cons, Bool.or_eq_true, List.mem_cons, any_eqv ha hp h.2 e2, eqv_pl h.1 ha e1 hp]
    constructor
    · rintro (h | h)
      · exact .inl h.symm
      · exact .inr h
    · rintro (h | h)
      · exact .inl h.symm
      · exact .inr h
theorem inD_iff {m : List R} {a : D} {xs : List D} (ha : pl 60 a = true) (hx : plL 60 xs = true) : ∃ c, inD m a (.tup xs) = some c ∧ (c = true ↔ a ∈ xs) := by
  obtain ⟨p, e, k⟩ := pl_pdR (m := m) ha
  obtain ⟨ps, f, l⟩ := plL_pd (m := m) hx
  have e' : pd m a = some p := by
    cases a <;> first | exact e | (simp only [pl] at ha; cases ha)
  refine ⟨ps.any fun z => PyData.eqv z p, ?_, any_eqv ha e' hx f⟩
  have g : pdR m (.tup xs) = some (.tuple ps) := by
    show pd m (.tup xs) = _
    simp only [pd, f, Option.map_some]
  have c : p.depth ≤ 64 ∧ (PyData.tuple ps).depth ≤ 64 := ⟨by omega, by simp only [PyData.depth]; omega⟩
  unfold inD
  split
  · rename_i x y h1 h2
    cases h2
  · simp only [e, g]
    exact if_pos c
theorem in_t {m : List R} {a : D} {xs : List D} (ha : pl 60 a = true) (hx : plL 60 xs = true) (h : a ∈ xs) : inD m a (.tup xs) = some true := by
  obtain ⟨c, e, k⟩ := inD_iff (m := m) ha hx
  rw [e, k.mpr h]
theorem in_f {m : List R} {a : D} {xs : List D} (ha : pl 60 a = true) (hx : plL 60 xs = true) (h : a ∉ xs) : inD m a (.tup xs) = some false := by
  obtain ⟨c, e, k⟩ := inD_iff (m := m) ha hx
  rw [e]
  cases c with
  | false => rfl
  | true => exact absurd (k.mp rfl) h
theorem plL_strs {n : Nat} {xs : List Str} (h : ∀ x ∈ xs, PyData.strOk x = true) : plL n (xs.map .str) = true := plL_map fun x hx => pl_str (h x hx)
/-- a loop whose turns leave everything but the names i.. as it was: by an invariant on the names -/
theorem forF_keep {t : D → Ro → List R → Option SO} {xs : List D} {ρ : Ro} {m : List R} (P : Ro → Prop) (h0 : P ρ) (hs : ∀ x ∈ xs, ∀ ρ, P ρ → ∃ ρ', t x ρ m = some (.nx ρ' m) ∧ P ρ') : ∃ ρ', forF t xs ρ m = some (.nx ρ' m) ∧ P ρ' := by
  obtain ⟨ρ', m', e, h1, rfl⟩ := forF_inv (t := t) xs (fun _ ρ m' => P ρ ∧ m' = m) ⟨h0, rfl⟩ (fun i x ρ m' hx ⟨hp, hm⟩ => by
    subst hm
    obtain ⟨ρ', e, p⟩ := hs x (List.mem_of_getElem? hx) ρ hp
    exact ⟨ρ', _, .inl e, p, rfl⟩)
  exact ⟨ρ', e, h1⟩
theorem noX_okk (d : D) (m : List R) : noX (some (.ok d m)) = some (.ok d m) := rfl
/-- a while loop of K turns -/
theorem whlD_run {c : Ro → List R → Option Rs} {t : Ro → List R → Option SO} (P : Nat → Ro → List R → Prop) (K : Nat) (hs : ∀ i ρ m, i < K → P i ρ m → c ρ m = some (.ok (.bl true) m) ∧ ∃ ρ' m', (t ρ m = some (.nx ρ' m') ∨ t ρ m = some (.ct ρ' m')) ∧ P (i + 1) ρ' m') (he : ∀ ρ m, P K ρ m → c ρ m = some (.ok (.bl false) m)) :
    ∀ (n i : Nat) {ρ : Ro} {m : List R}, i ≤ K → K < n + i → P i ρ m → ∃ ρ' m', whlD c t n ρ m = some (.nx ρ' m') ∧ P K ρ' m'
  | 0, i, ρ, m, h1, h2, _ => by omega
  | n + 1, i, ρ, m, h1, h2, p => by
    by_cases hi : i = K
    · subst hi
      refine ⟨ρ, m, ?_, p⟩
      unfold whlD
      rw [he ρ m p]
      rfl
    · obtain ⟨e1, ρ1, m1, e2, p1⟩ := hs i ρ m (by omega) p
      obtain ⟨ρ2, m2, e3, p2⟩ := whlD_run P K hs he n (i + 1) (by omega) (by omega) p1
      refine ⟨ρ2, m2, ?_, p2⟩
      unfold whlD
      rw [e1]
      rcases e2 with e2 | e2 <;> simp only [bndS_ok, e2, e3]
theorem whlD_gen {c : Ro → List R → Option Rs} {t : Ro → List R → Option SO} {n : Nat} {ρ : Ro} {m : List R} {X : Option SO} (hX : whlD c t n ρ m = X) (P : Nat → Ro → List R → Prop) (K : Nat) (hn : K < n) (h0 : P 0 ρ m) (hs : ∀ i ρ m, i < K → P i ρ m → c ρ m = some (.ok (.bl true) m) ∧ ∃ ρ' m', (t ρ m = some (.nx ρ' m') ∨ t ρ m = some (.ct ρ' m')) ∧ P (i + 1) ρ' m') (he : ∀ ρ m, P K ρ m → c ρ m = some (.ok (.bl false) m)) :
    ∃ ρ' m', X = some (.nx ρ' m') ∧ P K ρ' m' := by
  rw [← hX]
  exact whlD_run P K hs he n 0 (Nat.zero_le _) (by omega) h0
theorem cls_obj (m : List R) (c : Nat) (xs : List D) : clsD m (.obj c xs) = some c := rfl
def clK : Option R → Option Nat
  | some (.obj c _) => some c
  | _ => none
theorem clK_ok (c : Nat) (fs : List (Str × D)) : clK (some (.obj c fs)) = some c := rfl
theorem cls_res (m : List R) (k : Nat) : clsD m (.res k) = clK m[k]? := by
  unfold clsD clK; rfl
theorem fld_obj (nm : Nat → List Str) (m : List R) (f : Str) (c : Nat) (xs : List D) : fldD nm m f (.obj c xs) = xs[(nm c).idxOf f]? := rfl
def flK (nm : Nat → List Str) (f : Str) : Option R → Option D
  | some (.obj c gs) => if (nm c).contains f then gs.lookup f else none
  | _ => none
theorem flK_ok {nm : Nat → List Str} {f : Str} {c : Nat} {gs : List (Str × D)} (h : (nm c).contains f = true) : flK nm f (some (.obj c gs)) = gs.lookup f := if_pos h
theorem fld_res (nm : Nat → List Str) (m : List R) (f : Str) (k : Nat) : fldD nm m f (.res k) = flK nm f m[k]? := by
  unfold fldD flK; rfl
theorem ins_obj (m : List R) (n : Str) (c : Nat) (xs : List D) : insD m n (.obj c xs) = some c := rfl
def inK (n : Str) : Option R → Option Nat
  | some (.obj c gs) => match gs.lookup n with
    | none => some c
    | some _ => none
  | _ => none
theorem inK_ok {n : Str} {c : Nat} {gs : List (Str × D)} (h : gs.lookup n = none) : inK n (some (.obj c gs)) = some c := by
  unfold inK
  simp only [h]
theorem ins_res (m : List R) (n : Str) (k : Nat) : insD m n (.res k) = inK n m[k]? := by
  unfold insD inK; rfl
def sfK (g : Gt) (m : List R) (k : Nat) (f : Str) (d : D) : Option R → Option (List R)
  | some (.obj c fs) => if fs.length < 20 ∧ (g.nm c).contains f ∧ (g.prop c f).isNone then some (m.set k (.obj c (putD f d fs))) else none
  | _ => none
theorem sfK_ok {g : Gt} {m : List R} {k : Nat} {f : Str} {d : D} {c : Nat} {fs : List (Str × D)} (h1 : fs.length < 20) (h2 : (g.nm c).contains f = true) (h3 : g.prop c f = none) : sfK g m k f d (some (.obj c fs)) = some (m.set k (.obj c (putD f d fs))) :=
  if_pos ⟨h1, h2, by rw [h3]; rfl⟩
theorem stf_res (g : Gt) (m : List R) (k : Nat) (f : Str) (d : D) : stfD g m (.res k) f d = sfK g m k f d m[k]? := by
  unfold stfD sfK; rfl
theorem allO_map {α : Type} {f : D → Option D} {g h : α → D} : ∀ {xs : List α}, (∀ x ∈ xs, f (g x) = some (h x)) → allO f (xs.map g) = some (xs.map h)
  | [], _ => rfl
  | x :: xs, e => by
    simp only [List.map_cons, allO, e x List.mem_cons_self, allO_map (xs := xs) fun y hy => e y (List.mem_cons_of_mem _ hy)]
theorem allO_ok {nm : Nat → List Str} {n : Nat} {m : List R} {f : Nat} : ∀ {ys : List D}, okDL n ys = true → allO (conv nm n m f) ys = some ys
  | [], _ => rfl
  | y :: ys, h => by
    simp only [okDL, Bool.and_eq_true] at h
    simp only [allO, conv_ok h.1, allO_ok h.2]
/-- own lists of own lists, given back -/
theorem fin_lst2 {nm : Nat → List Str} {α : Type} {m l : List R} {k : Nat} {as : List α} {f : α → Nat} {g : α → List D} (hk : m.length ≤ k) (hg : (m ++ l)[k]? = some (.lst (as.map fun a => .res (f a)))) (h1 : ∀ a ∈ as, m.length ≤ f a) (h2 : ∀ a ∈ as, (m ++ l)[f a]? = some (.lst (g a))) (h3 : ∀ a ∈ as, okDL m.length (g a) = true) :
    fin nm m (m ++ l) (.res k) = some (.ok (.lst (as.map fun a => .lst (g a))) m) := by
  unfold fin
  have e : (m ++ l).take m.length = m := List.take_left
  have hno : okD m.length (.res k) = false := by simp only [okD]; exact decide_eq_false (by omega)
  rw [if_pos (.inl e), e, conv_res hno hg, allO_map (h := fun a => .lst (g a))]
  · rfl
  · intro a ha
    have hno : okD m.length (.res (f a)) = false := by simp only [okD]; exact decide_eq_false (by have := h1 a ha; omega)
    rw [conv_res hno (h2 a ha), allO_ok (h3 a ha)]
    rfl
theorem set_last {α : Type} {l : List α} {x y : α} {i : Nat} (h : l.length = i) : (l ++ [x]).set i y = l ++ [y] := by
  subst h
  rw [List.set_append_right _ _ (Nat.le_refl _), Nat.sub_self]
  rfl
theorem get_last {α : Type} {l : List α} {x : α} {i : Nat} (h : l.length = i) : (l ++ [x])[i]? = some x := by
  subst h
  rw [List.getElem?_append_right (Nat.le_refl _), Nat.sub_self]
  rfl
theorem compL_fil {α : Type} {f : D → List R → Option (Option D × List R)} {m : List R} {g h : α → D} {b : α → Bool} : ∀ (xs : List α) (acc : List D), (∀ x ∈ xs, f (g x) m = some (if b x = true then some (h x) else none, m)) → acc.length + xs.length ≤ sizeLine → compL f (xs.map g) acc m = some (acc ++ (xs.filter b).map h, m)
  | [], acc, _, _ => by simp [compL]
  | x :: xs, acc, hx, hl => by
    rw [List.length_cons] at hl
    have e := hx x List.mem_cons_self
    cases hb : b x with
    | false =>
      rw [hb, if_neg Bool.false_ne_true] at e
      simp only [List.map_cons, compL, e]
      rw [compL_fil xs acc (fun y hy => hx y (List.mem_cons_of_mem _ hy)) (by omega), List.filter_cons_of_neg (by simp [hb])]
    | true =>
      rw [hb, if_pos rfl] at e
      simp only [List.map_cons, compL, e]
      rw [if_pos (by omega), compL_fil xs (acc ++ [h x]) (fun z hz => hx z (List.mem_cons_of_mem _ hz)) (by rw [List.length_append, List.length_singleton]; omega), List.filter_cons_of_pos hb]
      simp
theorem sortI_N (xs : List Nat) : sortI (xs.map fun (n : Nat) => (n : Int)) = (xs.mergeSort fun a b => decide (a ≤ b)).map fun (n : Nat) => (n : Int) := by
  unfold sortI
  refine (List.map_mergeSort ?_).symm
  intro a _ b _
  simp
theorem q_sortT (mu : Bool) (m : List R) (xs : List Nat) : biD .sorted mu m [.tup (xs.map iN)] = some (newL mu m ((xs.mergeSort fun a b => decide (a ≤ b)).map iN)) := by
  rw [q_sortI (xs := xs.map iN) rfl (asInts_iN xs), sortI_N, List.map_map]
  rfl
theorem q_sortL (mu : Bool) (m : List R) (xs : List Nat) : biD .sorted mu m [.lst (xs.map iN)] = some (newL mu m ((xs.mergeSort fun a b => decide (a ≤ b)).map iN)) := by
  rw [q_sortI (xs := xs.map iN) rfl (asInts_iN xs), sortI_N, List.map_map]
  rfl
theorem q_sortR {mu : Bool} {m : List R} {k : Nat} {xs : List Nat} (h : m[k]? = some (.lst (xs.map iN))) : biD .sorted mu m [.res k] = some (newL mu m ((xs.mergeSort fun a b => decide (a ≤ b)).map iN)) := by
  rw [q_sortI (xs := xs.map iN) (sq_res h) (asInts_iN xs), sortI_N, List.map_map]
  rfl
theorem sort_range {n : Nat} {ps : List Nat} (h : ps.Perm (List.range n)) : ps.mergeSort (fun a b => decide (a ≤ b)) = List.range n := by
  refine List.Perm.eq_of_pairwise (le := fun a b => a ≤ b) (fun a b _ _ h1 h2 => by omega) ?_ ?_ ((List.mergeSort_perm _ _).trans h)
  · exact (List.pairwise_mergeSort (le := fun a b => decide (a ≤ b)) (fun a b c h1 h2 => by simp at *; omega) (fun a b => by simp; omega) ps).imp (by simp)
  · exact List.pairwise_le_range
theorem sort_same {l : List Nat} (h : l.Pairwise (· < ·)) : l.mergeSort (fun a b => decide (a ≤ b)) = l := by
  refine List.mergeSort_of_pairwise (h.imp ?_)
  intro a b hab
  simp; omega
theorem sort_other {l : List Nat} (nd : l.Nodup) (h : ¬ l.Pairwise (· < ·)) : l.mergeSort (fun a b => decide (a ≤ b)) ≠ l := fun e => by
  refine h ?_
  have p := (List.pairwise_mergeSort (le := fun a b => decide (a ≤ b)) (fun a b c h1 h2 => by simp at *; omega) (fun a b => by simp; omega) l)
  rw [e] at p
  refine (List.Pairwise.and p nd).imp ?_
  intro a b hab
  have h1 : a ≤ b := by simpa using hab.1
  have h2 : a ≠ b := hab.2
  omega
theorem iN_inj {a b : Nat} (h : iN a = iN b) : a = b := by
  have : (a : Int) = (b : Int) := D.int.inj h
  omega
theorem map_iN_inj {a b : List Nat} (h : a.map iN = b.map iN) : a = b := (List.map_inj_right fun _ _ e => iN_inj e).mp h
theorem compL_inv {f : D → List R → Option (Option D × List R)} : ∀ (xs : List D) (P : Nat → List D → List R → Prop) {acc : List D} {m : List R}, P 0 acc m → (∀ i x acc m, xs[i]? = some x → P i acc m → ∃ y m', f x m = some (some y, m') ∧ P (i + 1) (acc ++ [y]) m') → acc.length + xs.length ≤ sizeLine → ∃ acc' m', compL f xs acc m = some (acc', m') ∧ P xs.length acc' m'
  | [], P, acc, m, h0, _, _ => ⟨acc, m, rfl, h0⟩
  | x :: xs, P, acc, m, h0, hs, hl => by
    rw [List.length_cons] at hl
    obtain ⟨y, m1, e1, p1⟩ := hs 0 x acc m rfl h0
    obtain ⟨acc2, m2, e2, p2⟩ := compL_inv xs (fun i => P (i + 1)) p1 (fun i y acc m hy p => hs (i + 1) y acc m hy p) (by rw [List.length_append, List.length_singleton]; omega)
    refine ⟨acc2, m2, ?_, p2⟩
    simp only [compL, e1]
    rw [if_pos (by omega), e2]
theorem compL_gen {f : D → List R → Option (Option D × List R)} {xs : List D} {m : List R} {X : Option (List D × List R)} (hX : compL f xs [] m = X) (hl : xs.length ≤ 16000000) (P : Nat → List D → List R → Prop) (h0 : P 0 [] m) (hs : ∀ i x acc m, xs[i]? = some x → P i acc m → ∃ y m', f x m = some (some y, m') ∧ P (i + 1) (acc ++ [y]) m') : ∃ acc' m', X = some (acc', m') ∧ P xs.length acc' m' := by
  rw [← hX]
  exact compL_inv xs P h0 hs (by rw [sizeLine_eq, List.length_nil]; omega)
theorem emod_bd (a : Int) {b : Int} (h : 0 < b) : 0 ≤ a % b ∧ a % b < b := ⟨Int.emod_nonneg _ (by omega), Int.emod_lt_of_pos _ h⟩
/-! isinstance -/
theorem isi_non (m : List R) (ts : List Ty) : isiD m (.non) ts = some (ts.any (tyIs .none)) := rfl
theorem isi_bl (m : List R) (b : Bool) (ts : List Ty) : isiD m (.bl b) ts = some (ts.any (tyIs .bool)) := rfl
theorem isi_int (m : List R) (b : Int) (ts : List Ty) : isiD m (.int b) ts = some (ts.any (tyIs .int)) := rfl
theorem isi_str (m : List R) (b : Str) (ts : List Ty) : isiD m (.str b) ts = some (ts.any (tyIs .str)) := rfl
theorem isi_tup (m : List R) (b : List D) (ts : List Ty) : isiD m (.tup b) ts = some (ts.any (tyIs .tuple)) := rfl
theorem isi_lst (m : List R) (b : List D) (ts : List Ty) : isiD m (.lst b) ts = some (ts.any (tyIs .list)) := rfl
theorem isi_ext (m : List R) (b : List D) (ts : List Ty) : isiD m (.ext b) ts = some (ts.any (tyIs .list)) := rfl
theorem isi_res {m : List R} {k : Nat} {xs : List D} {ts : List Ty} (h : m[k]? = some (.lst xs)) : isiD m (.res k) ts = some (ts.any (tyIs .list)) := by
  simp only [isiD, tyD, h, Option.map_some]
theorem ty_int_int : tyIs .int .int = true := rfl
theorem ty_int_bool : tyIs .int .bool = false := rfl
theorem ty_int_str : tyIs .int .str = false := rfl
theorem ty_int_tuple : tyIs .int .tuple = false := rfl
theorem ty_int_list : tyIs .int .list = false := rfl
theorem ty_int_dict : tyIs .int .dict = false := rfl
theorem ty_int_none : tyIs .int .none = false := rfl
theorem ty_bool_int : tyIs .bool .int = true := rfl
theorem ty_bool_bool : tyIs .bool .bool = true := rfl
theorem ty_bool_str : tyIs .bool .str = false := rfl
theorem ty_bool_tuple : tyIs .bool .tuple = false := rfl
theorem ty_bool_list : tyIs .bool .list = false := rfl
theorem ty_bool_dict : tyIs .bool .dict = false := rfl
theorem ty_bool_none : tyIs .bool .none = false := rfl
theorem ty_str_int : tyIs .str .int = false := rfl
theorem ty_str_bool : tyIs .str .bool = false := rfl
theorem ty_str_str : tyIs .str .str = true := rfl
theorem ty_str_tuple : tyIs .str .tuple = false := rfl
theorem ty_str_list : tyIs .str .list = false := rfl
theorem ty_str_dict : tyIs .str .dict = false := rfl
theorem ty_str_none : tyIs .str .none = false := rfl
theorem ty_tuple_int : tyIs .tuple .int = false := rfl
theorem ty_tuple_bool : tyIs .tuple .bool = false := rfl
theorem ty_tuple_str : tyIs .tuple .str = false := rfl
theorem ty_tuple_tuple : tyIs .tuple .tuple = true := rfl
theorem ty_tuple_list : tyIs .tuple .list = false := rfl
theorem ty_tuple_dict : tyIs .tuple .dict = false := rfl
theorem ty_tuple_none : tyIs .tuple .none = false := rfl
theorem ty_list_int : tyIs .list .int = false := rfl
theorem ty_list_bool : tyIs .list .bool = false := rfl
theorem ty_list_str : tyIs .list .str = false := rfl
theorem ty_list_tuple : tyIs .list .tuple = false := rfl
theorem ty_list_list : tyIs .list .list = true := rfl
theorem ty_list_dict : tyIs .list .dict = false := rfl
theorem ty_list_none : tyIs .list .none = false := rfl
theorem ty_dict_int : tyIs .dict .int = false := rfl
theorem ty_dict_bool : tyIs .dict .bool = false := rfl
theorem ty_dict_str : tyIs .dict .str = false := rfl
theorem ty_dict_tuple : tyIs .dict .tuple = false := rfl
theorem ty_dict_list : tyIs .dict .list = false := rfl
theorem ty_dict_dict : tyIs .dict .dict = true := rfl
theorem ty_dict_none : tyIs .dict .none = false := rfl
theorem ty_none_int : tyIs .none .int = false := rfl
theorem ty_none_bool : tyIs .none .bool = false := rfl
theorem ty_none_str : tyIs .none .str = false := rfl
theorem ty_none_tuple : tyIs .none .tuple = false := rfl
theorem ty_none_list : tyIs .none .list = false := rfl
theorem ty_none_dict : tyIs .none .dict = false := rfl
theorem ty_none_none : tyIs .none .none = true := rfl
mutual
/-- short everywhere -/
def shD : D → Bool
  | .tup xs => decide (xs.length ≤ 4000) && shDL xs
  | .lst xs => decide (xs.length ≤ 4000) && shDL xs
  | _ => true
def shDL : List D → Bool
  | [] => true
  | x :: xs => shD x && shDL xs
end
theorem shDL_mem : ∀ {xs : List D} {x : D}, shDL xs = true → x ∈ xs → shD x = true
  | y :: ys, x, h, hx => by
    simp only [shDL, Bool.and_eq_true] at h
    rcases List.mem_cons.mp hx with e | e
    · rw [e]; exact h.1
    · exact shDL_mem h.2 e
theorem shDL_all : ∀ {xs : List D}, (∀ x ∈ xs, shD x = true) → shDL xs = true
  | [], _ => by simp only [shDL]
  | x :: xs, h => by
    simp only [shDL, Bool.and_eq_true]
    exact ⟨h x List.mem_cons_self, shDL_all fun y hy => h y (List.mem_cons_of_mem _ hy)⟩
theorem shD_tup {xs : List D} (h1 : xs.length ≤ 4000) (h : ∀ x ∈ xs, shD x = true) : shD (.tup xs) = true := by
  simp only [shD, Bool.and_eq_true, decide_eq_true_eq]
  exact ⟨h1, shDL_all h⟩
theorem shD_iN (n : Nat) : shD (iN n) = true := by simp only [iN, shD]
theorem shD_str (n : Str) : shD (.str n) = true := by simp only [shD]
theorem shD_tN {xs : List Nat} (h : xs.length ≤ 4000) : shD (.tup (xs.map iN)) = true := shD_tup (by simpa using h) fun x hx => by
  obtain ⟨y, _, rfl⟩ := List.mem_map.mp hx
  exact shD_iN y
theorem filter_no {α : Type} (l : List α) : l.filter (fun _ => false) = [] := by simp
theorem erase_map {α β : Type} (f : α → β) : ∀ (l : List α) (k : Nat), (l.map f).eraseIdx k = (l.eraseIdx k).map f
  | [], _ => rfl
  | x :: l, 0 => rfl
  | x :: l, k + 1 => by
    show f x :: (l.map f).eraseIdx k = _
    rw [erase_map f l k]
    rfl
theorem pdL_iN (m : List R) : ∀ xs : List Nat, pdL m (xs.map iN) = some (xs.map fun (n : Nat) => PyData.int (n : Int))
  | [] => rfl
  | x :: xs => by
    have e : pd m (iN x) = some (.int (x : Int)) := rfl
    simp only [List.map_cons, pdL, e, pdL_iN m xs]
theorem depth_ints : ∀ xs : List Nat, PyData.depthAll (xs.map fun (n : Nat) => PyData.int (n : Int)) = 0
  | [] => rfl
  | x :: xs => by simp only [List.map_cons, PyData.depthAll, PyData.depth, depth_ints xs, Nat.max_self]
theorem find_ints (p : Nat) : ∀ xs : List Nat, p ∈ xs → (xs.map fun (n : Nat) => PyData.int (n : Int)).findIdx? (fun z => PyData.eqv z (.int (p : Int))) = some (xs.idxOf p)
  | [], h => by cases h
  | x :: xs, h => by
    rw [List.map_cons, List.findIdx?_cons, List.idxOf_cons]
    have e : PyData.eqv (.int (x : Int)) (.int (p : Int)) = (x == p) := by
      simp only [PyData.eqv]
      rw [Bool.eq_iff_iff, beq_iff_eq, beq_iff_eq]
      omega
    rw [e]
    by_cases c : x = p
    · have : (x == p) = true := beq_iff_eq.mpr c
      rw [this]
      rfl
    · have : (x == p) = false := beq_eq_false_iff_ne.mpr c
      rw [this]
      have hm : p ∈ xs := by
        rcases List.mem_cons.mp h with e | e
        · exact absurd e.symm c
        · exact e
      rw [find_ints p xs hm]
      rfl
theorem z_indexL {m : List R} {xs : List Nat} {p : Nat} (h : p ∈ xs) : mtD .index m (.lst (xs.map iN)) [.int (p : Int)] = some (.int (xs.idxOf p : Nat), m) := by
  show indexD m (.lst (xs.map iN)) [.int (p : Int)] = _
  have e : pdR m (.int (p : Int)) = some (.int (p : Int)) := rfl
  simp only [indexD, lsq, pdL_iN, e]
  have c : (PyData.list (xs.map fun (n : Nat) => PyData.int (n : Int))).depth ≤ 64 ∧ (PyData.int (p : Int)).depth ≤ 64 := by
    simp only [PyData.depth, depth_ints]
    omega
  rw [if_pos c, find_ints p xs h]
theorem fin_nil {nm : Nat → List Str} {m : List R} {d : D} (h : okD 0 d = true) : fin nm [] m d = some (.ok d []) := by
  have := fin_app (nm := nm) (m := []) (l := m) h
  exact this
theorem lk_hd {α : Type} (f : Str) (a : α) (r : List (Str × α)) : List.lookup f ((f, a) :: r) = some a := by
  rw [List.lookup_cons, beq_self_eq_true]
theorem lk_tl {α : Type} {f g : Str} (a : α) (r : List (Str × α)) (h : (f == g) = false) : List.lookup f ((g, a) :: r) = List.lookup f r := by
  rw [List.lookup_cons, h]
theorem put_hd (f : Str) (a d : D) (r : List (Str × D)) : putD f d ((f, a) :: r) = (f, d) :: r := by
  unfold putD
  rw [if_pos rfl]
theorem put_tl {f g : Str} (a d : D) (r : List (Str × D)) (h : (f == g) = false) : putD f d ((g, a) :: r) = (g, a) :: putD f d r := by
  conv => lhs; unfold putD
  rw [if_neg]
  intro e
  rw [e, beq_self_eq_true] at h
  cases h
theorem put_nil (f : Str) (d : D) : putD f d [] = [(f, d)] := rfl
theorem idx_get {α : Type} [BEq α] [LawfulBEq α] : ∀ {l : List α} {i : Nat} {p : α}, l.Nodup → l[i]? = some p → l.idxOf p = i
  | [], _, _, _, h => by simp at h
  | x :: l, 0, p, _, h => by
    have : x = p := by simpa using h
    rw [this]
    exact List.idxOf_cons_self
  | x :: l, i + 1, p, nd, h => by
    have h' : l[i]? = some p := by simpa using h
    have hm := List.mem_of_getElem? h'
    have hne : x ≠ p := fun e => (List.nodup_cons.mp nd).1 (by rw [e]; exact hm)
    rw [List.idxOf_cons, idx_get (List.nodup_cons.mp nd).2 h']
    have : (x == p) = false := beq_eq_false_iff_ne.mpr hne
    rw [this]
    rfl
theorem z_indexT {m : List R} {ns : List Str} {x : Str} {i : Nat} (nd : ns.Nodup) (h : ns[i]? = some x) : mtD .index m (.tup (ns.map .str)) [.str x] = some (.int (i : Int), m) := by
  show indexD m (.tup (ns.map .str)) [.str x] = _
  simp only [indexD, lsq, asStrsM]
  rw [if_pos (List.mem_of_getElem? h), idx_get nd h]
theorem z_sumL {mu : Bool} {m : List R} {xs : List D} {ns : List Int} (h : asInts xs = some ns) : biD .sum mu m [.lst xs] = some (.int ns.sum, m) := by
  simp only [biD, lsq, h, Option.map_some]
/-! generators -/
def endG : Option GO → Option (List D × List R)
  | some (.nx _ m' ys) => some (ys, m')
  | some (.rt m' ys) => some (ys, m')
  | _ => none
theorem runG_eq (g : Gt) (N : Nat) (b : GB) (ds : List D) (m : List R) : runG g N b ds m = endG (evG g b (ds.map some ++ List.replicate (N - ds.length) none) m []) := by
  unfold runG endG
  cases evG g b (ds.map some ++ List.replicate (N - ds.length) none) m [] with
  | none => rfl
  | some o => cases o <;> rfl
theorem endG_nx (ρ : Ro) (m : List R) (ys : List D) : endG (some (.nx ρ m ys)) = some (ys, m) := rfl
theorem endG_rt (m : List R) (ys : List D) : endG (some (.rt m ys)) = some (ys, m) := rfl
section
variable (g : Gt) (ρ : Ro) (m : List R) (ys : List D)
theorem v_nil : evG g .nil ρ m ys = some (.nx ρ m ys) := rfl
theorem v_plain (s : S) (r : GB) : evG g (.plain s r) ρ m ys = plnG (evG g r) ys (evS g s ρ m) := rfl
theorem v_yld (e : E) (r : GB) : evG g (.yld e r) ρ m ys = yldG (evG g r) ρ ys (evE g e ρ m) := rfl
theorem v_forr (tg : G) (it : It) (b r : GB) : evG g (.forr tg it b r) ρ m ys = thnG (evG g r) (itG (fun xs m => forG (bodyG tg (evG g b)) xs ρ m ys) (evI g it ρ m)) := rfl
theorem v_whl (n : Nat) (c : E) (b r : GB) : evG g (.whl n c b r) ρ m ys = thnG (evG g r) (whlG (evE g c) (evG g b) n ρ m ys) := rfl
theorem plnG_nx (k : Ro → List R → List D → Option GO) : plnG k ys (some (.nx ρ m)) = k ρ m ys := rfl
theorem plnG_rt (k : Ro → List R → List D → Option GO) : plnG k ys (some (.rt .non m)) = some (.rt m ys) := rfl
theorem thnG_nx (k : Ro → List R → List D → Option GO) : thnG k (some (.nx ρ m ys)) = k ρ m ys := rfl
theorem itG_fix (k : List D → List R → Option GO) (xs : List D) : itG k (some (.ok (.fix xs) m)) = k xs m := rfl
end
theorem yldG_ok {k : Ro → List R → List D → Option GO} {ρ : Ro} {ys : List D} {d : D} {m : List R} (h : ys.length ≤ 16000000) : yldG k ρ ys (some (.ok d m)) = k ρ m (ys ++ [d]) := if_pos (by rw [sizeLine_eq]; omega)
def envG (k : Ro → Option GO) : Option Ro → Option GO
  | some ρ => k ρ
  | none => none
theorem envG_ok (k : Ro → Option GO) (ρ : Ro) : envG k (some ρ) = k ρ := rfl
theorem v_body (t : G) (k : Ro → List R → List D → Option GO) (d : D) (ρ : Ro) (m : List R) (ys : List D) : bodyG t k d ρ m ys = envG (fun ρ' => k ρ' m ys) (setG t d ρ) := by
  unfold bodyG envG
  cases setG t d ρ <;> rfl
theorem x_lgn (g : Gt) (ρ : Ro) (m : List R) (f : Nat) (mu : Bool) (es : Es) : evE g (.lgn f mu es) ρ m = bndL (evL g es ρ m) fun ds m => lgnK mu (g.gen f ds m) := by rw [evE]
theorem lgnK_ok (mu : Bool) (xs : List D) (m : List R) : lgnK mu (some (xs, m)) = okP (some (newL mu m xs)) := rfl
theorem forG_inv {t : D → Ro → List R → List D → Option GO} : ∀ (xs : List D) (P : Nat → Ro → List R → List D → Prop) {ρ : Ro} {m : List R} {ys : List D}, P 0 ρ m ys → (∀ i x ρ m ys, xs[i]? = some x → P i ρ m ys → ∃ ρ' m' ys', (t x ρ m ys = some (.nx ρ' m' ys') ∨ t x ρ m ys = some (.ct ρ' m' ys')) ∧ P (i + 1) ρ' m' ys') → ∃ ρ' m' ys', forG t xs ρ m ys = some (.nx ρ' m' ys') ∧ P xs.length ρ' m' ys'
  | [], P, ρ, m, ys, h0, _ => ⟨ρ, m, ys, rfl, h0⟩
  | x :: xs, P, ρ, m, ys, h0, hs => by
    obtain ⟨ρ1, m1, ys1, e1, p1⟩ := hs 0 x ρ m ys rfl h0
    obtain ⟨ρ2, m2, ys2, e2, p2⟩ := forG_inv xs (fun i => P (i + 1)) p1 (fun i y ρ m ys hy p => hs (i + 1) y ρ m ys hy p)
    refine ⟨ρ2, m2, ys2, ?_, p2⟩
    rcases e1 with e1 | e1 <;> simp only [forG, e1, e2]
theorem forG_gen {t : D → Ro → List R → List D → Option GO} {xs : List D} {ρ : Ro} {m : List R} {ys : List D} {X : Option GO} (hX : forG t xs ρ m ys = X) (P : Nat → Ro → List R → List D → Prop) (h0 : P 0 ρ m ys) (hs : ∀ i x ρ m ys, xs[i]? = some x → P i ρ m ys → ∃ ρ' m' ys', (t x ρ m ys = some (.nx ρ' m' ys') ∨ t x ρ m ys = some (.ct ρ' m' ys')) ∧ P (i + 1) ρ' m' ys') : ∃ ρ' m' ys', X = some (.nx ρ' m' ys') ∧ P xs.length ρ' m' ys' := by
  rw [← hX]
  exact forG_inv xs P h0 hs
/-- two own lists in a tuple, given back -/
theorem fin_tup2 {nm : Nat → List Str} {m l : List R} {j k : Nat} {xs ys : List D} (hj : m.length ≤ j) (hk : m.length ≤ k) (gj : (m ++ l)[j]? = some (.lst xs)) (gk : (m ++ l)[k]? = some (.lst ys)) (h1 : okDL m.length xs = true) (h2 : okDL m.length ys = true) :
    fin nm m (m ++ l) (.tup [.res j, .res k]) = some (.ok (.tup [.lst xs, .lst ys]) m) := by
  unfold fin
  have e : (m ++ l).take m.length = m := List.take_left
  rw [if_pos (.inl e), e]
  have nj : okD m.length (.res j) = false := by simp only [okD]; exact decide_eq_false (by omega)
  have nk : okD m.length (.res k) = false := by simp only [okD]; exact decide_eq_false (by omega)
  have c : conv nm m.length (m ++ l) 6 (.tup [.res j, .res k]) = some (.tup [.lst xs, .lst ys]) := by
    unfold conv
    rw [if_neg (by simp only [okD_tup, okDL_cons, nj, Bool.false_and]; decide)]
    show (allO _ _).map _ = _
    simp only [allO]
    rw [conv_res nj gj, conv_res nk gk, allO_ok h1, allO_ok h2]
    rfl
  rw [c]
  rfl
theorem inL_iff {m : List R} {a : D} {xs : List D} (ha : pl 60 a = true) (hx : plL 60 xs = true) : ∃ c, inD m a (.lst xs) = some c ∧ (c = true ↔ a ∈ xs) := by
  obtain ⟨p, e, k⟩ := pl_pdR (m := m) ha
  obtain ⟨ps, f, l⟩ := plL_pd (m := m) hx
  have e' : pd m a = some p := by
    cases a <;> first | exact e | (simp only [pl] at ha; cases ha)
  refine ⟨ps.any fun z => PyData.eqv z p, ?_, any_eqv ha e' hx f⟩
  have g : pdR m (.lst xs) = some (.list ps) := by
    show pd m (.lst xs) = _
    simp only [pd, f, Option.map_some]
  have c : p.depth ≤ 64 ∧ (PyData.list ps).depth ≤ 64 := ⟨by omega, by simp only [PyData.depth]; omega⟩
  unfold inD
  split
  · rename_i x y h1 h2
    cases h2
  · simp only [e, g]
    exact if_pos c
theorem inL_t {m : List R} {a : D} {xs : List D} (ha : pl 60 a = true) (hx : plL 60 xs = true) (h : a ∈ xs) : inD m a (.lst xs) = some true := by
  obtain ⟨c, e, k⟩ := inL_iff (m := m) ha hx
  rw [e, k.mpr h]
theorem inL_f {m : List R} {a : D} {xs : List D} (ha : pl 60 a = true) (hx : plL 60 xs = true) (h : a ∉ xs) : inD m a (.lst xs) = some false := by
  obtain ⟨c, e, k⟩ := inL_iff (m := m) ha hx
  rw [e]
  cases c with
  | false => rfl
  | true => exact absurd (k.mp rfl) h
theorem q_eqS {m : List R} {a b : Str} (ha : PyData.strOk a = true) (hb : PyData.strOk b = true) : eqD m (.str a) (.str b) = some (decide (a = b)) := by
  by_cases h : a = b
  · subst h
    rw [eqD_t (pl_str ha), decide_eq_true rfl]
  · rw [eqD_f (pl_str ha) (pl_str hb) (fun e => h (D.str.inj e)), decide_eq_false h]
theorem sum_cast : ∀ l : List Nat, (l.map fun (n : Nat) => (n : Int)).sum = ((l.sum : Nat) : Int)
  | [] => rfl
  | x :: l => by
    rw [List.map_cons, List.sum_cons, List.sum_cons, sum_cast l]
    simp
/-! the source of draws: what stands first in the store -/
def Hdr (a b : R) : Prop := ∃ (cs : List Int) (s i : Int), a = .lst (cs.map .int) ∧ b = .lst [.int s, .res 0, .int i] ∧ cs.length ≤ 63 ∧ 0 ≤ i
/-- a def's end -/
noncomputable def endD (nm : Nat → List Str) (fz : Bool) (m : List R) : Option SO → Option Rs
  | some (.rt d m') => if fz then fin nm m m' d else some (.ok d m')
  | some (.nx _ m') => if fz then fin nm m m' .non else some (.ok .non m')
  | some (.ex x _ m') => some (.ex x m')
  | _ => none
theorem runD_eq (g : Gt) (N : Nat) (b : Ss) (fz : Bool) (ds : List D) (m : List R) : runD g N b fz ds m = endD g.nm fz m (evSs g b (ds.map some ++ List.replicate (N - ds.length) none) m) := by
  unfold runD endD
  cases evSs g b (ds.map some ++ List.replicate (N - ds.length) none) m with
  | none => rfl
  | some o => cases o <;> rfl
theorem end_rtT (nm : Nat → List Str) (m : List R) (d : D) (m' : List R) : endD nm true m (some (.rt d m')) = fin nm m m' d := rfl
theorem end_rtF (nm : Nat → List Str) (m : List R) (d : D) (m' : List R) : endD nm false m (some (.rt d m')) = some (.ok d m') := rfl
theorem end_nxT (nm : Nat → List Str) (m : List R) (d : Ro) (m' : List R) : endD nm true m (some (.nx d m')) = fin nm m m' .non := rfl
theorem end_nxF (nm : Nat → List Str) (m : List R) (d : Ro) (m' : List R) : endD nm false m (some (.nx d m')) = some (.ok .non m') := rfl
theorem end_ex (nm : Nat → List Str) (fz : Bool) (m : List R) (x : Exn) (d : Ro) (m' : List R) : endD nm fz m (some (.ex x d m')) = some (.ex x m') := rfl
/-! the store -/
theorem q_get0 {m l : List R} : (m ++ l)[m.length]? = l[0]? := by
  rw [List.getElem?_append_right (Nat.le_refl _), Nat.sub_self]
theorem q_getk {m l : List R} {k : Nat} : (m ++ l)[m.length + k]? = l[k]? := by
  rw [List.getElem?_append_right (by omega)]
  congr 1
  omega
theorem q_set0 {m l : List R} {r : R} : (m ++ l).set m.length r = m ++ l.set 0 r := by
  rw [List.set_append_right _ _ (Nat.le_refl _), Nat.sub_self]
theorem q_setk {m l : List R} {k : Nat} {r : R} : (m ++ l).set (m.length + k) r = m ++ l.set k r := by
  rw [List.set_append_right _ _ (by omega)]
  congr 2
  omega
theorem q_dT {p : Prop} [Decidable p] (h : p) : decide p = true := decide_eq_true h
theorem q_dF {p : Prop} [Decidable p] (h : ¬ p) : decide p = false := decide_eq_false h
end Dv

namespace Dv
open PySem PySem.Spec PyProof.Rows L2 GenW

/-! ### sleeping generators are not touched by what does not wake them -/
def poison : GenState → GenState
  | .suspended _ l c p fs cl => .suspended (fun _ => .unsupported "") l c p fs cl
  | x => x
theorem poison_seen (x : GenState) : (poison x).seen = x.seen := by cases x <;> rfl
theorem poison_bare (x : GenState) : (poison x).bare = x.bare := by cases x <;> rfl
def OkRet (fs : List Frame) : Prop := ∀ F ∈ fs, ∃ k h g l c p kp, F = .ret k h g l c p kp
theorem okRet_nil : OkRet [] := fun F h => by cases h
theorem okRet_split : ∀ {fs : List Frame}, OkRet fs → splitAtGen fs = none
  | [], _ => rfl
  | F :: fs, h => by
    obtain ⟨k, hh, g, l, c, p, kp, rfl⟩ := h F List.mem_cons_self
    show (splitAtGen fs).map _ = none
    rw [okRet_split fun G hG => h G (List.mem_cons_of_mem _ hG)]
    rfl
def ERet : End → Prop
  | .ret _ => True
  | .susp _ _ _ _ _ _ fs => OkRet fs
structure Sw (D : Nat → Option GenState) (a b : Array GenState) : Prop where
  size : b.size = a.size
  dom : ∀ i G, D i = some G → (∃ k l c p fs cl, G = .suspended k l c p fs cl) ∧ a[i]? = some (poison G) ∧ b[i]? = some G
  off : ∀ i, D i = none → b[i]? = a[i]? ∧ ∀ k l c p fs cl, a[i]? = some (.suspended k l c p fs cl) → OkRet fs
theorem Sw.none_of {D : Nat → Option GenState} {a b : Array GenState} (h : Sw D a b) {g : Nat} {x : GenState} (e : a[g]? = some x) (n : ∀ k l c p fs cl, x ≠ .suspended k l c p fs cl) : D g = none := by
  cases hd : D g with
  | none => rfl
  | some G =>
    obtain ⟨⟨k, l, c, p, fs, cl, rfl⟩, e1, _⟩ := h.dom g G hd
    rw [e] at e1
    exact absurd (Option.some.inj e1) (n _ _ _ _ _ _)
theorem Sw.set {D : Nat → Option GenState} {a b : Array GenState} (h : Sw D a b) {g : Nat} {x : GenState} (hg : D g = none) (hx : ∀ k l c p fs cl, x = .suspended k l c p fs cl → OkRet fs) : Sw D (a.setIfInBounds g x) (b.setIfInBounds g x) := by
  refine ⟨by simp [h.size], fun i G hd => ?_, fun i hd => ?_⟩
  · have ne : g ≠ i := fun e => by rw [e, hd] at hg; cases hg
    obtain ⟨h1, h2, h3⟩ := h.dom i G hd
    exact ⟨h1, by rw [Array.getElem?_setIfInBounds_ne ne]; exact h2, by rw [Array.getElem?_setIfInBounds_ne ne]; exact h3⟩
  · obtain ⟨h1, h2⟩ := h.off i hd
    by_cases e : g = i
    · subst e
      by_cases hl : g < a.size
      · rw [Array.getElem?_setIfInBounds_self_of_lt hl, Array.getElem?_setIfInBounds_self_of_lt (by rw [h.size]; exact hl)]
        exact ⟨rfl, fun k l c p fs cl e => hx k l c p fs cl (Option.some.inj e)⟩
      · rw [Array.getElem?_eq_none (by simp [h.size]; omega), Array.getElem?_eq_none (by simp; omega)]
        exact ⟨rfl, fun k l c p fs cl e => by cases e⟩
    · rw [Array.getElem?_setIfInBounds_ne e, Array.getElem?_setIfInBounds_ne e]
      exact ⟨h1, h2⟩
theorem Sw.push {D : Nat → Option GenState} {a b : Array GenState} (h : Sw D a b) (c : Code) : Sw D (a.push (.fresh c)) (b.push (.fresh c)) := by
  refine ⟨by simp [h.size], fun i G hd => ?_, fun i hd => ?_⟩
  · obtain ⟨h1, h2, h3⟩ := h.dom i G hd
    have l1 := (Array.getElem?_eq_some_iff.mp h2).1
    have l2 := (Array.getElem?_eq_some_iff.mp h3).1
    exact ⟨h1, by rw [Array.getElem?_push, if_neg (by omega)]; exact h2, by rw [Array.getElem?_push, if_neg (by omega)]; exact h3⟩
  · obtain ⟨h1, h2⟩ := h.off i hd
    rw [Array.getElem?_push, Array.getElem?_push, h.size]
    by_cases e : i = a.size
    · rw [if_pos e, if_pos e]
      exact ⟨rfl, fun k l c p fs cl e => by cases e⟩
    · rw [if_neg e, if_neg e]
      exact ⟨h1, h2⟩
theorem Sw.seen {D : Nat → Option GenState} {a b : Array GenState} (w : Sw D a b) {g : Nat} {st : GenState} (q : a[g]? = some st) : ∃ st', b[g]? = some st' ∧ st'.seen = st.seen := by
  cases hd : D g with
  | none => exact ⟨st, (w.off g hd).1.trans q, rfl⟩
  | some Y =>
    obtain ⟨_, h2, h3⟩ := w.dom g Y hd
    have e1 : st = poison Y := Option.some.inj (q.symm.trans h2)
    exact ⟨Y, h3, by rw [e1, poison_seen]⟩
theorem unsup_nil {M : Model} {Γ : PySem.Ctx} {p : Pos} {x : String} {s s' : Shared} {e : End} (h : PySem.Runs M Γ p (.unsupported x) [] s e s') : False := by cases h
theorem unsup {M : Model} {Γ : PySem.Ctx} {p : Pos} {x : String} {fs : List Frame} {s s' : Shared} {e : End} (h : PySem.Runs M Γ p (.unsupported x) fs s e s') : False := by
  cases fs with
  | nil => exact unsup_nil h
  | cons F fs =>
    cases h with
    | segRet h1 _ => exact unsup_nil h1
    | segGen h1 _ => exact unsup_nil h1
    | segSuspOut _ h1 => exact unsup_nil h1
    | segSuspGen _ h1 _ _ => exact unsup_nil h1
theorem ERet.gst {e : End} (h : ERet e) : ∀ k l c p fs cl, e.genState = .suspended k l c p fs cl → OkRet fs := by
  intro k l c p fs cl q
  cases e with
  | ret r => cases q
  | susp v g l' k' c' p' fs' => cases q; exact h
theorem runs_sw {M : Model} {D : Nat → Option GenState} {Γ : PySem.Ctx} {p : Pos} {t : Sem PySem.Fin} {fs : List Frame} {a a' : Shared} {e : End} (h : PySem.Runs M Γ p t fs a e a') :
    OkRet fs → ∀ G, Sw D a.gens G → ∃ G', PySem.Runs M Γ p t fs { a with gens := G } e { a' with gens := G' } ∧ Sw D a'.gens G' ∧ ERet e := by
  induction h with
  | done => exact fun _ G w => ⟨G, .done, w, trivial⟩
  | raise => exact fun _ G w => ⟨G, .raise, w, trivial⟩
  | again q _ ih => exact fun o G w => let ⟨G', r, w', x⟩ := ih o G w; ⟨G', .again q r, w', x⟩
  | rule _ ih => exact fun o G w => let ⟨G', r, w', x⟩ := ih o G w; ⟨G', .rule r, w', x⟩
  | «at» _ ih => exact fun o G w => let ⟨G', r, w', x⟩ := ih o G w; ⟨G', .at r, w', x⟩
  | load q _ ih => exact fun o G w => let ⟨G', r, w', x⟩ := ih o G w; ⟨G', .load q r, w', x⟩
  | update q _ ih => exact fun o G w => let ⟨G', r, w', x⟩ := ih o G w; ⟨G', .update q r, w', x⟩
  | loadIfAlive _ ih => exact fun o G w => let ⟨G', r, w', x⟩ := ih o G w; ⟨G', .loadIfAlive r, w', x⟩
  | point _ ih => exact fun o G w => let ⟨G', r, w', x⟩ := ih o G w; ⟨G', .point r, w', x⟩
  | alloc _ ih => exact fun o G w => let ⟨G', r, w', x⟩ := ih o G w; ⟨G', .alloc r, w', x⟩
  | fresh _ ih => exact fun o G w => let ⟨G', r, w', x⟩ := ih o G w; ⟨G', .fresh r, w', x⟩
  | ask _ ih => exact fun o G w => let ⟨G', r, w', x⟩ := ih o G w; ⟨G', .ask r, w', x⟩
  | choose q _ ih => exact fun o G w => let ⟨G', r, w', x⟩ := ih o G w; ⟨G', .choose q r, w', x⟩
  | os _ ih => exact fun o G w => let ⟨G', r, w', x⟩ := ih o G w; ⟨G', .os r, w', x⟩
  | handled _ ih => exact fun o G w => let ⟨G', r, w', x⟩ := ih o G w; ⟨G', .handled r, w', x⟩
  | stack _ ih => exact fun o G w => let ⟨G', r, w', x⟩ := ih o G w; ⟨G', .stack r, w', x⟩
  | thread _ ih => exact fun o G w => let ⟨G', r, w', x⟩ := ih o G w; ⟨G', .thread r, w', x⟩
  | genState q _ ih =>
    intro o G w
    obtain ⟨G', r, w', x⟩ := ih o G w
    obtain ⟨st', q', e⟩ := w.seen q
    rw [← e] at r
    exact ⟨G', .genState q' r, w', x⟩
  | @newGen _ _ k s _ _ c q ih =>
    intro o G w
    obtain ⟨G', r, w', x⟩ := ih o (G.push (.fresh c)) (w.push c)
    refine ⟨G', .newGen ?_, w', x⟩
    rw [← w.size] at r
    exact r
  | call _ _ ih1 ih2 =>
    intro o G w
    obtain ⟨G1, r1, w1, _⟩ := ih1 okRet_nil G w
    obtain ⟨G2, r2, w2, x⟩ := ih2 o G1 w1
    exact ⟨G2, .call r1 r2, w2, x⟩
  | callSusp _ ih1 =>
    intro o G w
    obtain ⟨G1, r1, w1, x⟩ := ih1 okRet_nil G w
    refine ⟨G1, .callSusp r1, w1, fun F hF => ?_⟩
    rcases List.mem_append.mp hF with q | q
    · exact x F q
    · rw [List.mem_singleton.mp q]
      exact ⟨_, _, _, _, _, _, _, rfl⟩
  | yield => exact fun o G w => ⟨G, .yield, w, okRet_nil⟩
  | @resumeFresh Γ p g l k s c e₁ s₁ e s' q h1 hq h2 ih1 ih2 =>
    intro o G w
    have hn := w.none_of q (fun _ _ _ _ _ _ z => by cases z)
    obtain ⟨G1, r1, w1, x1⟩ := ih1 okRet_nil _ (w.set (x := .running) hn (fun _ _ _ _ _ _ z => by cases z))
    obtain ⟨G2, r2, w2, x2⟩ := ih2 o _ (w1.set (x := e₁.genState) hn x1.gst)
    exact ⟨G2, .resumeFresh ((w.off g hn).1.trans q) r1 hq r2, w2, x2⟩
  | @resumeSuspended Γ p g r l k s k₀ l₀ c₀ p₀ fs cl e₁ s₁ e s' q h1 hq h2 ih1 ih2 =>
    intro o G w
    cases hd : D g with
    | some Y =>
      obtain ⟨⟨k, l, c, p, fs, cl, rfl⟩, h2, _⟩ := w.dom g Y hd
      rw [q] at h2
      cases h2
      exact (unsup h1).elim
    | none =>
      have hf := w.off g hd
      obtain ⟨G1, r1, w1, x1⟩ := ih1 (hf.2 _ _ _ _ _ _ q) _ (w.set (x := .running) hd (fun _ _ _ _ _ _ z => by cases z))
      obtain ⟨G2, r2, w2, x2⟩ := ih2 o _ (w1.set (x := e₁.genState) hd x1.gst)
      exact ⟨G2, .resumeSuspended (hf.1.trans q) r1 hq r2, w2, x2⟩
  | resumeJustStarted q nv _ ih =>
    intro o G w
    have hn := w.none_of q (fun _ _ _ _ _ _ z => by cases z)
    obtain ⟨G', r, w', x⟩ := ih o G w
    exact ⟨G', .resumeJustStarted ((w.off _ hn).1.trans q) nv r, w', x⟩
  | resumeThrowFresh q _ ih =>
    intro o G w
    have hn := w.none_of q (fun _ _ _ _ _ _ z => by cases z)
    obtain ⟨G', r, w', x⟩ := ih o _ (w.set (x := .finished) hn (fun _ _ _ _ _ _ z => by cases z))
    exact ⟨G', .resumeThrowFresh ((w.off _ hn).1.trans q) r, w', x⟩
  | resumeRunning q _ ih =>
    intro o G w
    have hn := w.none_of q (fun _ _ _ _ _ _ z => by cases z)
    obtain ⟨G', r, w', x⟩ := ih o G w
    exact ⟨G', .resumeRunning ((w.off _ hn).1.trans q) r, w', x⟩
  | resumeFinished q _ ih =>
    intro o G w
    have hn := w.none_of q (fun _ _ _ _ _ _ z => by cases z)
    obtain ⟨G', r, w', x⟩ := ih o G w
    exact ⟨G', .resumeFinished ((w.off _ hn).1.trans q) r, w', x⟩
  | segRet _ _ ih1 ih2 =>
    intro o G w
    obtain ⟨G1, r1, w1, _⟩ := ih1 okRet_nil G w
    obtain ⟨G2, r2, w2, x⟩ := ih2 (fun F hF => o F (List.mem_cons_of_mem _ hF)) G1 w1
    exact ⟨G2, .segRet r1 r2, w2, x⟩
  | segGen _ _ ih1 ih2 =>
    intro o G w
    obtain ⟨k, h, g, l, c, p, kp, z⟩ := o _ List.mem_cons_self
    cases z
  | segSuspOut q _ ih1 =>
    intro o G w
    obtain ⟨G1, r1, w1, x⟩ := ih1 okRet_nil G w
    refine ⟨G1, .segSuspOut q r1, w1, fun F hF => ?_⟩
    rcases List.mem_append.mp hF with z | z
    · exact x F z
    · exact o F z
  | segSuspGen q _ _ _ _ _ =>
    intro o G w
    rw [okRet_split o] at q
    cases q
theorem wp_sw {α : Type} {M : Model} {Γ : PySem.Ctx} {D : Nat → Option GenState} (t : Sem α) : ∀ (Q : α → Pos → Shared → Prop) (E : Value → Pos → Shared → Prop) (p : Pos) (a : Shared) (G : Array GenState), Sw D a.gens G → Sem.wp M Γ t Q E p a →
    Sem.wp M Γ t (fun x p b => ∃ ga, Sw D ga b.gens ∧ Q x p { b with gens := ga }) (fun x p b => ∃ ga, Sw D ga b.gens ∧ E x p { b with gens := ga }) p { a with gens := G } := by
  induction t with
  | pure x => intro Q E p a G w h; exact ⟨a.gens, w, h⟩
  | raise e => intro Q E p a G w h; exact ⟨a.gens, w, h⟩
  | unsupported _ => intro Q E p a G w h; exact h.elim
  | finish _ => intro Q E p a G w h; exact h.elim
  | rule _ k ih => intro Q E p a G w h; exact ih () Q E p a G w h
  | «at» p' k ih => intro Q E p a G w h; exact ih () Q E p' a G w h
  | load b _ k ih => intro Q E p a G w h; obtain ⟨o, ho, h⟩ := h; exact ⟨o, ho, ih o Q E p a G w h⟩
  | update b _ f k ih => intro Q E p a G w h; exact ⟨h.1, ih () Q E p { a with heap := a.heap.update b f } G w h.2⟩
  | loadIfAlive b k ih => intro Q E p a G w h; exact ih _ Q E p a G w h
  | point _ k ih => intro Q E p a G w h; exact ih () Q E p a G w h
  | register _ _ => intro Q E p a G w h; exact h.elim
  | alloc o k ih => intro Q E p a G w h; exact ih _ Q E p { a with heap := a.heap.push o } G w h
  | fresh k ih => intro Q E p a G w h; exact ih _ Q E p { a with toks := a.toks + 1 } G w h
  | ask k ih => intro Q E p a G w h; exact ih _ Q E p a G w h
  | choose src m k ih => intro Q E p a G w h; exact ⟨h.1, ih _ Q E p { a with drawn := a.drawn.bump src } G w h.2⟩
  | os q _ k ih => intro Q E p a G w h; exact ih _ Q E p { a with os := (Os.step a.os q).1 } G w h
  | call c hd _ _ k ih =>
    intro Q E p a G w h
    obtain ⟨r, a', hr, h⟩ := h
    obtain ⟨G', r', w', _⟩ := runs_sw hr okRet_nil G w
    exact ⟨r, { a' with gens := G' }, r', ih r Q E p a' G' w' h⟩
  | handled own k ih => intro Q E p a G w h; exact ih _ Q E p a G w h
  | genState g k ih =>
    intro Q E p a G w h
    obtain ⟨st, hs, h⟩ := h
    obtain ⟨st', q', e⟩ := w.seen hs
    refine ⟨st', q', ?_⟩
    rw [e]
    exact ih _ Q E p a G w h
  | newGen c k ih =>
    intro Q E p a G w h
    have := ih a.gens.size Q E p { a with gens := a.gens.push (.fresh c) } (G.push (.fresh c)) (w.push c) h
    show Sem.wp M Γ (k G.size) _ _ p _
    rw [w.size]
    exact this
  | resume g r _ k ih =>
    intro Q E p a G w h
    obtain ⟨res, a', hw, h⟩ := h
    have key : ∃ G', Wakes M Γ p g r { a with gens := G } res { a' with gens := G' } ∧ Sw D a'.gens G' := by
      unfold Wakes at hw ⊢
      split at hw
      · exact hw.elim
      · rename_i c q
        have hn := w.none_of q (fun _ _ _ _ _ _ z => by cases z)
        have q2 := (w.off g hn).1.trans q
        simp only [q2]
        split at hw
        · obtain ⟨e₁, s₁, h1, hq, rfl, rfl⟩ := hw
          obtain ⟨G1, r1, w1, x1⟩ := runs_sw h1 okRet_nil _ (w.set (x := .running) hn (fun _ _ _ _ _ _ z => by cases z))
          exact ⟨_, ⟨e₁, { s₁ with gens := G1 }, r1, hq, rfl, rfl⟩, w1.set (x := e₁.genState) hn x1.gst⟩
        · obtain ⟨rfl, rfl⟩ := hw
          exact ⟨G, ⟨rfl, rfl⟩, w⟩
        · obtain ⟨rfl, rfl⟩ := hw
          exact ⟨_, ⟨rfl, rfl⟩, w.set (x := .finished) hn (fun _ _ _ _ _ _ z => by cases z)⟩
      · rename_i k₀ l₀ c₀ p₀ fs cl q
        obtain ⟨e₁, s₁, h1, hq, rfl, rfl⟩ := hw
        cases hd : D g with
        | some Y =>
          obtain ⟨⟨k, l, c, p, fs, cl, rfl⟩, h2, _⟩ := w.dom g Y hd
          rw [q] at h2
          cases h2
          exact (unsup h1).elim
        | none =>
          have hf := w.off g hd
          have q2 := hf.1.trans q
          simp only [q2]
          obtain ⟨G1, r1, w1, x1⟩ := runs_sw h1 (hf.2 _ _ _ _ _ _ q) _ (w.set (x := .running) hd (fun _ _ _ _ _ _ z => by cases z))
          exact ⟨_, ⟨e₁, { s₁ with gens := G1 }, r1, hq, rfl, rfl⟩, w1.set (x := e₁.genState) hd x1.gst⟩
      · rename_i q
        have hn := w.none_of q (fun _ _ _ _ _ _ z => by cases z)
        have q2 := (w.off g hn).1.trans q
        simp only [q2]
        obtain ⟨rfl, rfl⟩ := hw
        exact ⟨G, ⟨rfl, rfl⟩, w⟩
      · rename_i q
        have hn := w.none_of q (fun _ _ _ _ _ _ z => by cases z)
        have q2 := (w.off g hn).1.trans q
        simp only [q2]
        obtain ⟨rfl, rfl⟩ := hw
        exact ⟨G, ⟨rfl, rfl⟩, w⟩
    obtain ⟨G', hw', w'⟩ := key
    exact ⟨res, { a' with gens := G' }, hw', ih res Q E p a' G' w' h⟩
  | yield _ _ _ _ => intro Q E p a G w h; exact h.elim
  | stack k ih => intro Q E p a G w h; exact ih _ Q E p a G w h
  | fork _ _ => intro Q E p a G w h; exact h.elim
  | thread k ih => intro Q E p a G w h; exact ih _ Q E p a G w h
  | await _ _ _ _ _ => intro Q E p a G w h; exact h.elim
/-- who sleeps, by a table -/
def asleep (G : Array GenState) (i : Nat) : Option GenState := match G[i]? with
  | some (.suspended k l c p fs cl) => some (.suspended k l c p fs cl)
  | _ => none
theorem sw_poison (G : Array GenState) : Sw (asleep G) (G.map poison) G := by
  refine ⟨by simp, fun i Y hd => ?_, fun i hd => ?_⟩
  · unfold asleep at hd
    split at hd
    · rename_i k l c p fs cl q
      cases hd
      exact ⟨⟨_, _, _, _, _, _, rfl⟩, by rw [Array.getElem?_map, q]; rfl, q⟩
    · cases hd
  · rw [Array.getElem?_map]
    unfold asleep at hd
    cases q : G[i]? with
    | none => exact ⟨rfl, fun _ _ _ _ _ _ z => by cases z⟩
    | some x =>
      rw [q] at hd
      cases x with
      | suspended => cases hd
      | fresh => exact ⟨rfl, fun _ _ _ _ _ _ z => by cases z⟩
      | running => exact ⟨rfl, fun _ _ _ _ _ _ z => by cases z⟩
      | finished => exact ⟨rfl, fun _ _ _ _ _ _ z => by cases z⟩
theorem bare_poison {G : Array GenState} (h : AllBare G) : AllBare (G.map poison) := fun y hy => by
  obtain ⟨x, hx, rfl⟩ := Array.mem_map.mp hy
  rw [poison_bare]
  exact h x hx
theorem bare_sw {D : Nat → Option GenState} {a b : Array GenState} (w : Sw D a b) (h : AllBare a) : AllBare b := fun y hy => by
  obtain ⟨i, hi, e⟩ := Array.mem_iff_getElem.mp hy
  have e2 : b[i]? = some y := by rw [Array.getElem?_eq_getElem hi, e]
  cases hd : D i with
  | none => exact h y (Array.mem_of_getElem? ((w.off i hd).1.symm.trans e2))
  | some Y =>
    obtain ⟨_, h2, h3⟩ := w.dom i Y hd
    rw [e2] at h3
    cases h3
    have := h _ (Array.mem_of_getElem? h2)
    rw [poison_bare] at this
    exact this
/-- what goes from the table in which no sleeper can be woken goes from this one, and the sleepers sleep on -/
theorem wpAny_sleep {α : Type} {M : Model} {A : Around} {t : Sem α} {Q : α → Shared → Prop} {E : Value → Shared → Prop} {s : Shared} (h : wpAny M A t Q E { s with gens := s.gens.map poison }) :
    wpAny M A t (fun x b => ∃ ga, Sw (asleep s.gens) ga b.gens ∧ Q x { b with gens := ga }) (fun x b => ∃ ga, Sw (asleep s.gens) ga b.gens ∧ E x { b with gens := ga }) s :=
  fun Γ p hΓ => wp_sw (a := { s with gens := s.gens.map poison }) t _ _ p s.gens (sw_poison s.gens) (h Γ p hΓ)
end Dv

namespace Dv
open PySem PySem.Spec PyProof.Rows L2 GenW

/-! ### a generator's frame, woken at another state -/
def cutH (h : Heap) (L : Nat) : Heap := { h with objs := h.objs.extract 0 L }
theorem cut_lt {h : Heap} {L b : Nat} (hb : b < L) : (cutH h L).get? b = h.get? b := by
  unfold cutH Heap.get?
  have : (h.objs.extract 0 L)[b]? = h.objs[b]? := by
    rw [Array.getElem?_extract]
    simp
    intro hl
    by_cases hs : b < h.objs.size
    · omega
    · omega
  rw [this]
theorem cut_size {h : Heap} {L : Nat} (hL : L ≤ h.objs.size) : (cutH h L).objs.size = L := by
  unfold cutH
  simp
  omega
theorem cut_some {h : Heap} {L b : Nat} {o : Obj} (hL : L ≤ h.objs.size) (e : (cutH h L).get? b = some o) : b < L ∧ h.get? b = some o := by
  have hl := Heap.lt_size e
  rw [cut_size hL] at hl
  exact ⟨hl, by rw [← cut_lt hl]; exact e⟩
theorem cut_funs {h base : Heap} {L : Nat} : ∀ {l : List Env}, h.FunFrames base l → (∀ b ∈ frs l, b < L) → (cutH h L).FunFrames base l
  | [], _, _ => trivial
  | env :: r, hl, hb => by
    obtain ⟨hk, ⟨a, o, hf, hn, ho, hd⟩, hr⟩ := hl
    have ha : a ∈ frs (env :: r) := by unfold frs; rw [List.filterMap_cons, hf]; exact List.mem_cons_self
    exact ⟨hk, ⟨a, o, hf, hn, (cut_lt (hb a ha)).trans ho, hd⟩, cut_funs hr fun b hb' => hb b (by unfold frs at hb' ⊢; rw [List.filterMap_cons, hf]; exact List.mem_cons_of_mem _ hb')⟩
/-- the same frame, seen from another state; no exception leaves -/
def reX (X : Cx) (s : Shared) (H : Hp) : Cx := { X with s_0 := { s with heap := cutH s.heap X.env.locals }, H_0 := H, xe := fun _ _ => False }
/-- of a generator's frame: no cells, nothing turns -/
structure GFr (X : Cx) : Prop where
  ex : X.ex = []
  cells : X.env.cells = []
  nocell : ∀ x, X.env.kindOf x ≠ some .cell ∧ X.env.kindOf x ≠ some .free
theorem GFr.re {X : Cx} (g : GFr X) (s : Shared) (H : Hp) : GFr (reX X s H) := ⟨g.ex, g.cells, g.nocell⟩
theorem re_ok {X : Cx} {A : Around} {s : Shared} {H : Hp} (g : GFr X) (ok : X.Ok) (e0 : Env0 X.prog X.w X.K X.mg X.base A X.outer s H) (hL : X.env.locals ≤ s.heap.objs.size) : (reX X s H).Ok := by
  have noex : ∀ b, b ∉ (reX X s H).ex := fun b z => by
    have z : b ∈ X.ex := z
    rw [g.ex] at z
    cases z
  have nocl : ∀ x c, (reX X s H).env.cells.lookup x = some c → False := fun x c e => by
    have e : X.env.cells.lookup x = some c := e
    rw [g.cells] at e
    cases e
  have hbl : ∀ b o, X.base.get? b = some o → b < X.env.locals := fun b o e => Nat.lt_of_lt_of_le (Heap.lt_size e) (Nat.le_trans ok.bsz ok.above)
  have hfl : ∀ b ∈ frs X.outer, b < X.env.locals := fun b hb => by
    obtain ⟨_, o, ho, _⟩ := ok.funs.mem hb
    exact Nat.lt_of_lt_of_le (Heap.lt_size ho) ok.above
  refine ⟨ok.mod, ok.kind, ok.glob, ok.blt, ?_, ok.inj, ok.has, fun x c _ e => (nocl x c e).elim, ok.hd, ok.frames, ok.stk, fun b hb => (noex b hb).elim, fun b o e => ⟨(cut_lt (hbl b o e)).trans (e0.bs b o e).1, (e0.bs b o e).2⟩, ?_, fun b o _ => noex b, fun b hb => (noex b hb).elim, ?_, e0.frf⟩
  · show (cutH s.heap X.env.locals).objs.size ≤ X.env.locals
    rw [cut_size hL]
    exact Nat.le_refl _
  · show X.base.objs.size ≤ (cutH s.heap X.env.locals).objs.size
    rw [cut_size hL]
    exact Nat.le_trans ok.bsz ok.above
  · exact cut_funs e0.funs hfl
/-- woken at s2: what is pinned stands as it stood -/
theorem re_inv {X : Cx} {A : Around} {ip : List (Addr × Obj)} {σ : L2.St} {H1 H2 : Hp} {s1 s2 : Shared} {oL : Obj} (g : GFr X) (I : Inv X ip σ H1 s1) (e0 : Env0 X.prog X.w X.K X.mg X.base A X.outer s2 H2) (h1 : s1.heap.get? X.env.locals = some oL)
    (h2 : s2.heap.get? X.env.locals = some oL ∧ H2 X.env.locals = none) (hp : ∀ p ∈ X.pn ++ ip, s2.heap.get? p.1 = some p.2 ∧ H2 p.1 = none) : Inv (reX X s2 H2) ip σ H2 s2 := by
  have hlt := Heap.lt_size h2.1
  have hL : X.env.locals ≤ s2.heap.objs.size := Nat.le_of_lt hlt
  have nocl : ∀ x c, (reX X s2 H2).env.cells.lookup x = some c → False := fun x c e => by
    have e : X.env.cells.lookup x = some c := e
    rw [g.cells] at e
    cases e
  refine ⟨re_ok g I.ok e0 hL, rfl, e0.bare, ⟨fun b o e _ _ _ => (cut_some hL e).2, fun b o e _ _ _ => ⟨o.slots, (cut_some hL e).2⟩, fun b o _ n _ => n, fun b o e _ => ⟨o, (cut_some hL e).2⟩, fun _ _ e => e, fun _ _ _ e => e, fun b ps e => ⟨#[], by have e : H2 b = some (.tbl ps) := e; rw [e]; simp⟩⟩, ?_, fun x c e => (nocl x c e).elim, h2.2, fun x c e => (nocl x c e).elim, fun p hp' => ?_, e0.hok, I.len⟩
  · obtain ⟨m, ⟨o, es, ep, ho, r⟩, hl⟩ := I.loc
    rw [h1] at ho
    cases ho
    refine ⟨m, ⟨oL, es, ep, h2.1, r⟩, fun i x v e1 e2 e3 => ?_⟩
    obtain ⟨u, ru, lk⟩ := hl i x v e1 e2 e3
    refine ⟨u, ru, ?_⟩
    rcases lk with lk | ⟨k, _⟩
    · exact .inl lk
    · rcases k with k | k
      · exact absurd k (g.nocell x).1
      · exact absurd k (g.nocell x).2
  · obtain ⟨_, _, q3, q4, q5⟩ := I.pin p hp'
    exact ⟨(hp p hp').1, (hp p hp').2, q3, q4, q5⟩
/-- the consumer behind a stretch of the generator's run -/
theorem across {X Y : Cx} {pins ip : List (Addr × Obj)} {σ σg : L2.St} {H H1 : Hp} {s s1 : Shared} (I : Inv Y pins σ H s) (hs : X.outer = Y.stack) (hP : X.prog = Y.prog) (hw : X.w = Y.w) (hL : X.env.locals ≤ s.heap.objs.size) (g : GFr X)
    (hy : Y.s_0.heap.objs.size ≤ X.env.locals) (hyl : Y.env.locals < X.env.locals) (hyc : ∀ x c, Y.env.cells.lookup x = some c → c < X.env.locals) (hyp : ∀ p ∈ Y.pn ++ pins, p.1 < X.env.locals)
    (J : Inv (reX X s H) ip σg H1 s1) : Inv Y pins σ H1 s1 := by
  have b := J.base
  have hex : ∀ c, c ∉ (reX X s H).ex := fun c z => by
    have z : c ∈ X.ex := z
    rw [g.ex] at z
    cases z
  have nch : ∀ c o, s.heap.get? c = some o → c ∉ (List.range' X.env.locals (s.heap.objs.size - X.env.locals)) → c < X.env.locals := fun c o e hn => by
    have := Heap.lt_size e
    apply Classical.byContradiction
    intro h
    exact hn (List.mem_range'_1.mpr ⟨Nat.not_lt.mp h, by rw [Nat.add_sub_cancel' hL]; exact this⟩)
  have hfs : (reX X s H).fs = frs Y.stack := by show frs X.outer = _; rw [hs]
  have hge : ∀ c ∈ (List.range' X.env.locals (s.heap.objs.size - X.env.locals)), X.env.locals ≤ c := fun c hc => (List.mem_range'_1.mp hc).1
  refine I.call' (ch := List.range' X.env.locals (s.heap.objs.size - X.env.locals)) J.os ⟨fun c o e n hf hc => ?_, fun c o e n hf hc => ?_, fun c o e n hc => ?_, fun c o e hc => ?_, b.tups, b.frzs, b.tbls⟩ (by rw [← hP, ← hw]; exact J.hok) J.bare fun c hc => ⟨.inr (Nat.le_trans hy (hge c hc)), fun z => ?_, fun x d e z => ?_, fun p hp z => ?_⟩
  · exact b.keep c o ((cut_lt (nch c o e hc)).trans e) n (by rw [hfs]; exact hf) (hex c)
  · exact b.slot c o ((cut_lt (nch c o e hc)).trans e) n (by rw [hfs]; exact hf) (hex c)
  · exact b.free c o ((cut_lt (nch c o e hc)).trans e) n (hex c)
  · exact b.there c o ((cut_lt (nch c o e hc)).trans e) (hex c)
  · have q := hge c hc
    rw [z] at q
    exact absurd (Nat.lt_of_lt_of_le hyl q) (Nat.lt_irrefl _)
  · have q := hge c hc
    have q2 := hyc x d e
    rw [z] at q2
    exact absurd (Nat.lt_of_lt_of_le q2 q) (Nat.lt_irrefl _)
  · have q := hge c hc
    have q2 := hyp p hp
    rw [z] at q2
    exact absurd (Nat.lt_of_lt_of_le q2 q) (Nat.lt_irrefl _)
end Dv

namespace Dv
open PySem PySem.Spec PyProof.Rows L2 GenW

/-! ### a generator's code with its consumer: cb is the consumer's turn, κ the consumer's names, c how many items are out -/
abbrev CB := D → Ro → List R → Option SO
inductive GCO where
  | nx (ρ κ : Ro) (m : List R) (c : Nat) | rt (κ : Ro) (m : List R) (c : Nat) | bk (ρ κ : Ro) (m : List R) (c : Nat) | ct (ρ κ : Ro) (m : List R) (c : Nat) | st (o : SO)
abbrev GF := Ro → Ro → List R → Nat → Option GCO
def plnC (k : GF) (κ : Ro) (c : Nat) : Option SO → Option GCO
  | some (.nx ρ m) => k ρ κ m c
  | some (.rt .non m) => some (.rt κ m c)
  | some (.bk ρ m) => some (.bk ρ κ m c)
  | some (.ct ρ m) => some (.ct ρ κ m c)
  | _ => none
/-- behind the consumer's turn -/
def outC (k : GF) (ρ : Ro) (c : Nat) : Option SO → Option GCO
  | some (.nx κ m) => k ρ κ m c
  | some (.ct κ m) => k ρ κ m c
  | some (.bk κ m) => some (.st (.nx κ m))
  | some (.rt d m) => some (.st (.rt d m))
  | _ => none
def yldC (cb : CB) (k : GF) (ρ κ : Ro) (c : Nat) : Option Rs → Option GCO
  | some (.ok d m) => if c < sizeLine then outC k ρ (c + 1) (cb d κ m) else none
  | _ => none
def thnC (k : GF) : Option GCO → Option GCO
  | some (.nx ρ κ m c) => k ρ κ m c
  | o => o
def itC (k : List D → List R → Option GCO) : Option RsI → Option GCO
  | some (.ok (.fix xs) m) => k xs m
  | _ => none
def forC (t : D → GF) : List D → GF
  | [], ρ, κ, m, c => some (.nx ρ κ m c)
  | x :: xs, ρ, κ, m, c => match t x ρ κ m c with
    | some (.nx ρ κ m c) => forC t xs ρ κ m c
    | some (.ct ρ κ m c) => forC t xs ρ κ m c
    | some (.bk ρ κ m c) => some (.nx ρ κ m c)
    | o => o
def whlC (cnd : Ro → List R → Option Rs) (t : GF) : Nat → GF
  | 0, _, _, _, _ => none
  | n + 1, ρ, κ, m, c => match cnd ρ m with
    | some (.ok (.bl true) m) => match t ρ κ m c with
      | some (.nx ρ κ m c) => whlC cnd t n ρ κ m c
      | some (.ct ρ κ m c) => whlC cnd t n ρ κ m c
      | some (.bk ρ κ m c) => some (.nx ρ κ m c)
      | o => o
    | some (.ok (.bl false) m) => some (.nx ρ κ m c)
    | _ => none
def bodyC (t : G) (k : GF) (d : D) : GF := fun ρ κ m c => match setG t d ρ with
  | some ρ' => k ρ' κ m c
  | none => none
def evC (g : Gt) (cb : CB) : GB → GF
  | .nil, ρ, κ, m, c => some (.nx ρ κ m c)
  | .plain s r, ρ, κ, m, c => plnC (evC g cb r) κ c (evS g s ρ m)
  | .yld e r, ρ, κ, m, c => yldC cb (evC g cb r) ρ κ c (evE g e ρ m)
  | .forr tg it b r, ρ, κ, m, c => thnC (evC g cb r) (itC (fun xs m => forC (bodyC tg (evC g cb b)) xs ρ κ m c) (evI g it ρ m))
  | .whl n cnd b r, ρ, κ, m, c => thnC (evC g cb r) (whlC (evE g cnd) (evC g cb b) n ρ κ m c)

/-! ### the two frames -/
structure Pair (T : Tb) where
  X : Cx
  Y : Cx
  pins : List (Addr × Obj)
  cb : CB
  o : SO
  w0 : Wd
structure PairOk (C : Cs) (p : Pair C.T) : Prop where
  g : GFr p.X
  outer : p.X.outer = p.Y.stack
  prog : p.X.prog = p.Y.prog
  w : p.X.w = p.Y.w
  K : p.X.K = p.Y.K
  mg : p.X.mg = p.Y.mg
  base : p.X.base = p.Y.base
  ok : ∀ s H, C.OkS (reX p.X s H)
  hy : p.Y.s_0.heap.objs.size ≤ p.X.env.locals
  hyl : p.Y.env.locals < p.X.env.locals
  hyc : ∀ x c, p.Y.env.cells.lookup x = some c → c < p.X.env.locals
  hyp : ∀ q ∈ p.Y.pn ++ p.pins, q.1 < p.X.env.locals
  pn : ∀ q ∈ p.X.pn, p.X.env.locals < q.1
section
variable {C : Cs}
/-- running: the consumer sleeps since it woke us at sw -/
def GSt (p : Pair C.T) (ip : List (Addr × Obj)) (σ : L2.St) (κ : Ro) (w : Wd) (m : List R) (s : Shared) : Prop :=
  ∃ sw Hw σc, Inv p.Y p.pins σc Hw sw ∧ p.X.env.locals ≤ sw.heap.objs.size ∧ ER C.T w σc κ ∧ Inv (reX p.X sw Hw) ip σ w.H s ∧ Wf C.T w m ∧ Ext p.w0 w
/-- what the consumer asks of an item that comes -/
def YC (p : Pair C.T) (a : Addr) (go : Obj) : Protocol := fun n s₀ v s kap =>
  ∃ (c : Nat) (d : D) (x : V) (w : Wd) (m : List R) (κ : Ro) (σc : L2.St) (gp : List (Addr × Obj)) (oc : SO), n + 1 + c = sizeLine ∧ RelV x v ∧ Rep C.T w.Hs w.al x d ∧ Wf C.T w m ∧ Ext p.w0 w ∧ Inv p.Y (p.pins ++ gp) σc w.H s ∧ ER C.T w σc κ ∧ (a, go) ∈ gp ∧
    p.cb d κ m = some oc ∧ match oc with
      | .nx κ' m' => ∀ s' w' σc', Ext w w' → Wf C.T w' m' → Inv p.Y (p.pins ++ gp) σc' w'.H s' → ER C.T w' σc' κ' → kap (.send .none) s'
      | .ct κ' m' => ∀ s' w' σc', Ext w w' → Wf C.T w' m' → Inv p.Y (p.pins ++ gp) σc' w'.H s' → ER C.T w' σc' κ' → kap (.send .none) s'
      | .bk κ' m' => p.o = .nx κ' m'
      | .rt d' m' => p.o = .rt d' m'
      | .ex _ _ _ => False
/-- .. of the end -/
def RC (p : Pair C.T) : GenEnd := fun n s₀ r s =>
  ((r = .ok (.ret .none) ∨ r = .ok .next) ∧ ∃ κ m w σc, Wf C.T w m ∧ Ext p.w0 w ∧ Inv p.Y p.pins σc w.H s ∧ ER C.T w σc κ ∧ p.o = .nx κ m) ∨ ∃ e, r = .error e ∧ False
/-- where the code stands -/
structure GCc (p : Pair C.T) (ip : List (Addr × Obj)) (A : Around) (c : Code) (fs : List Frame) (gd : Bool → Bool) : Prop where
  ip : ∀ q ∈ ip, p.X.env.locals < q.1
  over : A.over c fs = p.X.A
  split : splitAtGen fs = none
  guard : fs.any Frame.guarded = false
  gd : gd false = false
/-- what follows -/
def GKc (p : Pair C.T) (a : Addr) (go : Obj) (ip : List (Addr × Obj)) (A : Around) (code : Code) (fs : List Frame) (K : Flow → Sem PySem.Fin) (w : Wd) : GCO → Prop
  | .nx ρ κ m c => ∀ n s₀ s w' σ, Ext w w' → n + c = sizeLine → GSt p ip σ κ w' m s → ER C.T w' σ ρ → Seg (model p.X.prog p.X.w) A (RC p) (YC p a go) n s₀ code (K .next) fs s
  | .bk ρ κ m c => ∀ n s₀ s w' σ, Ext w w' → n + c = sizeLine → GSt p ip σ κ w' m s → ER C.T w' σ ρ → Seg (model p.X.prog p.X.w) A (RC p) (YC p a go) n s₀ code (K .brk) fs s
  | .ct ρ κ m c => ∀ n s₀ s w' σ, Ext w w' → n + c = sizeLine → GSt p ip σ κ w' m s → ER C.T w' σ ρ → Seg (model p.X.prog p.X.w) A (RC p) (YC p a go) n s₀ code (K .cont) fs s
  | .rt κ m c => ∀ n s₀ s w' σ, Ext w w' → n + c = sizeLine → GSt p ip σ κ w' m s → Seg (model p.X.prog p.X.w) A (RC p) (YC p a go) n s₀ code (K (.ret .none)) fs s
  | .st o => o = p.o
theorem GKc.on {p : Pair C.T} {a : Addr} {go : Obj} {ip : List (Addr × Obj)} {A : Around} {code : Code} {fs : List Frame} {K : Flow → Sem PySem.Fin} {w w1 : Wd} {m : List R} {oc : GCO} (h : GKc p a go ip A code fs K w oc) (e : Ext w w1) (V : Wf C.T w1 m) : GKc p a go ip A code fs K w1 oc := by
  cases oc with
  | nx ρ κ m c => exact fun n s₀ s w' σ x => h n s₀ s w' σ (e.trans x V)
  | bk ρ κ m c => exact fun n s₀ s w' σ x => h n s₀ s w' σ (e.trans x V)
  | ct ρ κ m c => exact fun n s₀ s w' σ x => h n s₀ s w' σ (e.trans x V)
  | rt κ m c => exact fun n s₀ s w' σ x => h n s₀ s w' σ (e.trans x V)
  | st o => exact h
/-- a generator's suite does what the code says, its consumer between -/
def DGC (C : Cs) (sts : List Stmt) (f : CB → GF) : Prop :=
  ∀ (p : Pair C.T) (a : Addr) (go : Obj) (A : Around) (ip : List (Addr × Obj)) (n c : Nat) (s₀ s : Shared) (code : Code) (fs : List Frame) (K : Flow → Sem PySem.Fin) (J : Value → Sem PySem.Fin) (gd : Bool → Bool) (lv : List Value → List Value) (σ : L2.St) (ρ κ : Ro) (w : Wd) (m : List R) (oc : GCO),
    PairOk C p → (a, go) ∈ p.X.pn → GCc p ip A code fs gd → n + c = sizeLine → GSt p ip σ κ w m s → ER C.T w σ ρ → f p.cb ρ κ m c = some oc → GKc p a go ip A code fs K w oc →
    Seg (model p.X.prog p.X.w) A (RC p) (YC p a go) n s₀ code ((execs sts p.X.env).wrap K J gd lv) fs s
theorem dgc_nil : DGC C [] (fun cb => evC C.g cb .nil) := fun p a go A ip n c s₀ s code fs K J gd lv σ ρ κ w m oc P ha g hn st E e k => by
  cases e
  exact seg_execs_nil (k n s₀ s w σ (Ext.refl _) hn st E)
/-- a stretch of code that hands out nothing, from the one state to the other -/
theorem GSt.next {p : Pair C.T} {ip : List (Addr × Obj)} {σ' : L2.St} {κ : Ro} {w w' : Wd} {m m' : List R} {s' sw : Shared} {Hw : Hp} {σc : L2.St} (I : Inv p.Y p.pins σc Hw sw) (hL : p.X.env.locals ≤ sw.heap.objs.size) (E : ER C.T w σc κ) (x0 : Ext p.w0 w) (V : Wf C.T w m)
    (J : Inv (reX p.X sw Hw) ip σ' w'.H s') (x : Ext w w') (W : Wf C.T w' m') : GSt p ip σ' κ w' m' s' := ⟨sw, Hw, σc, I, hL, E.on x, J, W, x0.trans x V⟩
theorem dgc_plain {st : Stmt} {sts : List Stmt} {sd : S} {r : GB} (h1 : DS C st (evS C.g sd)) (h2 : DGC C sts (fun cb => evC C.g cb r)) : DGC C (st :: sts) (fun cb => evC C.g cb (.plain sd r)) := by
  obtain ⟨t, pt, rt⟩ := h1
  intro p a go A ip n c s₀ s code fs K J gd lv σ ρ κ w m oc P ha g hn st E e k
  obtain ⟨sw, Hw, σc, I, hL, Ec, JX, W, x0⟩ := st
  have e : plnC (evC C.g p.cb r) κ c (evS C.g sd ρ m) = some oc := e
  cases e1 : evS C.g sd ρ m with
  | none => rw [e1] at e; cases e
  | some o1 =>
    rw [e1] at e
    refine seg_execs_cons (seg_wrap ?_)
    rw [g.over]
    refine wpAny_mono ((pt _ (P.ok sw Hw)).run ip s σ w.H
      { nx := fun σ' H' => ∃ w1 ρ1 m1, w1.H = H' ∧ Ext w w1 ∧ Wf C.T w1 m1 ∧ ER C.T w1 σ' ρ1 ∧ o1 = .nx ρ1 m1
        rt := fun v H' => ∃ w1 d m1, w1.H = H' ∧ Ext w w1 ∧ Wf C.T w1 m1 ∧ Rep C.T w1.Hs w1.al v d ∧ o1 = .rt d m1
        bk := fun σ' H' => ∃ w1 ρ1 m1, w1.H = H' ∧ Ext w w1 ∧ Wf C.T w1 m1 ∧ ER C.T w1 σ' ρ1 ∧ o1 = .bk ρ1 m1
        ct := fun σ' H' => ∃ w1 ρ1 m1, w1.H = H' ∧ Ext w w1 ∧ Wf C.T w1 m1 ∧ ER C.T w1 σ' ρ1 ∧ o1 = .ct ρ1 m1 } JX (rt σ w ρ m _ o1 W E e1 ?_)) (fun f s' hf => ?_) fun x s' hx => hx.elim
    · cases o1 with
      | nx ρ1 m1 => exact fun w1 σ1 x1 W1 E1 => ⟨w1, _, _, rfl, x1, W1, E1, rfl⟩
      | rt d m1 => exact fun w1 v x1 W1 r1 => ⟨w1, _, _, rfl, x1, W1, r1, rfl⟩
      | bk ρ1 m1 => exact fun w1 σ1 x1 W1 E1 => ⟨w1, _, _, rfl, x1, W1, E1, rfl⟩
      | ct ρ1 m1 => exact fun w1 σ1 x1 W1 E1 => ⟨w1, _, _, rfl, x1, W1, E1, rfl⟩
      | ex x ρ1 m1 => cases e
    · cases f with
      | next =>
        obtain ⟨σ', H', I', w1, ρ1, m1, rfl, x1, W1, E1, rfl⟩ := hf
        exact h2 p a go A ip n c s₀ s' code fs K J gd lv σ' ρ1 κ w1 m1 oc P ha g hn (.next I hL Ec x0 W I' x1 W1) E1 e (k.on x1 W1)
      | brk =>
        obtain ⟨σ', H', I', w1, ρ1, m1, rfl, x1, W1, E1, rfl⟩ := hf
        cases e
        exact k n s₀ s' w1 σ' x1 hn (.next I hL Ec x0 W I' x1 W1) E1
      | cont =>
        obtain ⟨σ', H', I', w1, ρ1, m1, rfl, x1, W1, E1, rfl⟩ := hf
        cases e
        exact k n s₀ s' w1 σ' x1 hn (.next I hL Ec x0 W I' x1 W1) E1
      | ret u =>
        obtain ⟨v, σ', H', I', rv, w1, d, m1, rfl, x1, W1, r1, rfl⟩ := hf
        cases d <;> first | cases e | skip
        cases r1
        obtain rfl : u = Value.none := rv
        exact k n s₀ s' w1 σ' x1 hn (.next I hL Ec x0 W I' x1 W1)
/-- the consumer, with all that is the generator's pinned -/
theorem GSt.sleeps {p : Pair C.T} {ip : List (Addr × Obj)} {σ : L2.St} {H1 Hw : Hp} {s s1 sw : Shared} {σc : L2.St} (P : PairOk C p) (I : Inv p.Y p.pins σc Hw sw) (hL : p.X.env.locals ≤ sw.heap.objs.size) (J : Inv (reX p.X sw Hw) ip σ H1 s1) (hip : ∀ q ∈ ip, p.X.env.locals < q.1) :
    ∃ oL, s1.heap.get? p.X.env.locals = some oL ∧ Inv p.Y p.pins σc H1 s1 ∧ Inv p.Y (p.pins ++ ((p.X.env.locals, oL) :: (p.X.pn ++ ip))) σc H1 s1 := by
  have A := across I P.outer P.prog P.w hL P.g P.hy P.hyl P.hyc P.hyp J
  obtain ⟨m, ⟨oL, es, ep, ho, hd, hr⟩, hl⟩ := id J.loc
  have ho : s1.heap.get? p.X.env.locals = some oL := ho
  have young : ∀ b, p.X.env.locals ≤ b → b ≠ p.Y.env.locals ∧ b ∉ p.Y.fs := fun b hb => by
    refine ⟨fun z => ?_, fun z => ?_⟩
    · have := P.hyl
      rw [z] at hb
      exact absurd (Nat.lt_of_lt_of_le this hb) (Nat.lt_irrefl _)
    · obtain ⟨_, o, hob, _⟩ := I.ok.funs.mem z
      have := Heap.lt_size hob
      exact absurd (Nat.lt_of_lt_of_le this (Nat.le_trans P.hy hb)) (Nat.lt_irrefl _)
  refine ⟨oL, ho, A, A.pins_of fun q hq => ?_⟩
  rcases List.mem_append.mp hq with z | z
  · exact A.pin q (List.mem_append_right _ z)
  · rcases List.mem_cons.mp z with z | z
    · rw [z]
      obtain ⟨y1, y2⟩ := young p.X.env.locals (Nat.le_refl _)
      exact ⟨ho, J.free, y1, y2, fun v e => by rw [hd] at e; cases e⟩
    · obtain ⟨q1, q2, _, _, q5⟩ := J.pin q z
      have hlt : p.X.env.locals ≤ q.1 := Nat.le_of_lt (by
        rcases List.mem_append.mp z with z | z
        · exact P.pn q z
        · exact hip q z)
      obtain ⟨y1, y2⟩ := young q.1 hlt
      exact ⟨q1, q2, y1, y2, q5⟩
/-- woken -/
theorem GSt.wakes {p : Pair C.T} {ip gp : List (Addr × Obj)} {σ : L2.St} {H1 Hw : Hp} {s1 s2 sw : Shared} {σc2 : L2.St} {κ : Ro} {w2 : Wd} {m2 : List R} {oL : Obj} (P : PairOk C p) (J : Inv (reX p.X sw Hw) ip σ H1 s1) (h1 : s1.heap.get? p.X.env.locals = some oL)
    (I2 : Inv p.Y (p.pins ++ ((p.X.env.locals, oL) :: (p.X.pn ++ ip))) σc2 w2.H s2) (E2 : ER C.T w2 σc2 κ) (W2 : Wf C.T w2 m2) (x0 : Ext p.w0 w2) : GSt p ip σ κ w2 m2 s2 := by
  have e0 : Env0 p.X.prog p.X.w p.X.K p.X.mg p.X.base p.Y.A p.X.outer s2 w2.H := by
    rw [P.prog, P.w, P.K, P.mg, P.base, P.outer]
    exact I2.env0
  have pn : ∀ q ∈ ((p.X.env.locals, oL) :: (p.X.pn ++ ip)), s2.heap.get? q.1 = some q.2 ∧ w2.H q.1 = none := fun q hq => by
    obtain ⟨q1, q2, _⟩ := I2.pin q (List.mem_append_right _ (List.mem_append_right _ hq))
    exact ⟨q1, q2⟩
  have hL := pn _ List.mem_cons_self
  have R : Inv (reX p.X s2 w2.H) ip σ w2.H s2 := re_inv (X := reX p.X sw Hw) (P.g.re _ _) J e0 h1 hL fun q hq => pn q (List.mem_cons_of_mem _ hq)
  exact ⟨s2, w2.H, σc2, I2.pins_of fun q hq => I2.pin q (List.mem_append_right _ (List.mem_append_left _ hq)), Nat.le_of_lt (Heap.lt_size hL.1), E2, R, W2, x0⟩
theorem dgc_yld {e : Expr} {x : Dv.E} {yp pos : Pos} {sts : List Stmt} {r : GB} (hco : C.sc.isCoroutine = false) (hk : C.sc.kind = .function) (h1 : DE C e (evE C.g x)) (h2 : DGC C sts (fun cb => evC C.g cb r)) : DGC C (.Expr (.Yield (some e) yp) pos :: sts) (fun cb => evC C.g cb (.yld x r)) := by
  obtain ⟨t, pt, rt⟩ := h1
  intro p a go A ip n c s₀ s code fs K J gd lv σ ρ κ w m oc P ha g hn st E e k
  obtain ⟨sw, Hw, σc, I, hL, Ec, JX, W, x0⟩ := st
  have e : yldC p.cb (evC C.g p.cb r) ρ κ c (evE C.g x ρ m) = some oc := e
  cases e1 : evE C.g x ρ m with
  | none => rw [e1] at e; cases e
  | some o1 =>
    rw [e1] at e
    cases o1 with
    | ex x m1 => cases e
    | ok d m1 =>
      have e : (if c < sizeLine then outC (evC C.g p.cb r) ρ (c + 1) (p.cb d κ m1) else none) = some oc := e
      by_cases hc : c < sizeLine
      · rw [if_pos hc] at e
        cases e2 : p.cb d κ m1 with
        | none => rw [e2] at e; cases e
        | some ocb =>
          rw [e2] at e
          obtain ⟨n, rfl⟩ : ∃ m, n = m + 1 := ⟨n - 1, by omega⟩
          have scq : p.X.env.scope = C.sc := (P.ok sw Hw).sc
          refine seg_execs_cons (seg_Expr_Yield g.split g.gd g.guard ?_ (by rw [scq]; exact hco) (by unfold interactive; rw [scq, hk]; rfl))
          rw [g.over]
          refine wpAny_mono ((pt _ (P.ok sw Hw).toOk).run ip s σ w.H (fun v H' => ∃ w1, w1.H = H' ∧ Ext w w1 ∧ Wf C.T w1 m1 ∧ Rep C.T w1.Hs w1.al v d) JX (rt σ w ρ m _ _ W E e1 fun w1 v x1 W1 r1 => ⟨w1, rfl, x1, W1, r1⟩)) (fun v s' hv => ?_) fun x s' hx => hx.elim
          obtain ⟨xv, H1, I1, rv, w1, rfl, x1, W1, r1⟩ := hv
          intro kap hkap
          obtain ⟨oL, ho, A1, A2⟩ := GSt.sleeps (s := s) P I hL I1 g.ip
          refine ⟨c, d, xv, w1, m1, κ, σc, _, ocb, hn, rv, r1, W1, x0.trans x1 W, A2, Ec.on x1, List.mem_cons_of_mem _ (List.mem_append_left _ ha), e2, ?_⟩
          have go2 : ∀ κ' m', evC C.g p.cb r ρ κ' m' (c + 1) = some oc → ∀ s2 w2 σc2, Ext w1 w2 → Wf C.T w2 m' → Inv p.Y (p.pins ++ ((p.X.env.locals, oL) :: (p.X.pn ++ ip))) σc2 w2.H s2 → ER C.T w2 σc2 κ' → kap (.send .none) s2 := fun κ' m' e' s2 w2 σc2 x2 W2 I2 E2 => by
            refine hkap .none s2 ?_
            exact h2 p a go A ip n (c + 1) s2 s2 code fs K J gd lv σ ρ κ' w2 m' oc P ha g (by omega) (GSt.wakes (gp := []) P I1 ho I2 E2 W2 ((x0.trans x1 W).trans x2 W1)) ((E.on x1).on x2) e' ((k.on x1 W1).on x2 W2)
          cases ocb with
          | nx κ' m' => exact go2 κ' m' e
          | ct κ' m' => exact go2 κ' m' e
          | bk κ' m' => cases e; exact k.symm
          | rt d' m' => cases e; exact k.symm
          | ex x ρ' m' => cases e
      · rw [if_neg hc] at e; cases e
end
end Dv

namespace Dv
open PySem PySem.Spec PyProof.Rows L2 GenW
section
variable {C : Cs}
theorem gcc_loop {p : Pair C.T} {ip : List (Addr × Obj)} {A : Around} {c c' : Code} {fs : List Frame} {gd : Bool → Bool} {k : Result → Sem PySem.Fin} {l kp : List Value} {q : Pos} (g : GCc p ip A c fs gd) (hw : c'.weight = 0) (hu : c'.cUnits = 0) :
    GCc p ip A c' (.ret k none (gd false) l c q kp :: fs) id where
  ip := g.ip
  over := (over_loop hw hu).trans g.over
  split := by
    show (splitAtGen fs).map _ = none
    rw [g.split]; rfl
  guard := by
    show (gd false || fs.any Frame.guarded) = false
    rw [g.gd, g.guard]; rfl
  gd := rfl
theorem whlC_some {cnd : Ro → List R → Option Rs} {t : GF} {n : Nat} {ρ κ : Ro} {m : List R} {c : Nat} {o : GCO} (e : whlC cnd t n ρ κ m c = some o) : ∃ k b m1, n = k + 1 ∧ cnd ρ m = some (.ok (.bl b) m1) ∧
    (b = false ∧ o = .nx ρ κ m1 c ∨ b = true ∧ ∃ ob, t ρ κ m1 c = some ob ∧ match ob with
      | .nx ρ1 κ1 m2 c1 => whlC cnd t k ρ1 κ1 m2 c1 = some o
      | .ct ρ1 κ1 m2 c1 => whlC cnd t k ρ1 κ1 m2 c1 = some o
      | .bk ρ1 κ1 m2 c1 => o = .nx ρ1 κ1 m2 c1
      | .rt κ1 m2 c1 => o = .rt κ1 m2 c1
      | .st so => o = .st so) := by
  cases n with
  | zero => cases e
  | succ k =>
    simp only [whlC] at e
    cases h : cnd ρ m with
    | none => rw [h] at e; cases e
    | some r =>
      rw [h] at e
      cases r with
      | ex x m1 => cases e
      | ok d m1 =>
        cases d with
        | bl b =>
          cases b with
          | false => cases e; exact ⟨k, false, m1, rfl, rfl, .inl ⟨rfl, rfl⟩⟩
          | true =>
            refine ⟨k, true, m1, rfl, rfl, .inr ⟨rfl, ?_⟩⟩
            simp only at e
            cases h2 : t ρ κ m1 c with
            | none => rw [h2] at e; cases e
            | some o1 =>
              rw [h2] at e
              refine ⟨o1, rfl, ?_⟩
              cases o1 with
              | nx ρ1 κ1 m2 c1 => exact e
              | ct ρ1 κ1 m2 c1 => exact e
              | bk ρ1 κ1 m2 c1 => cases e; rfl
              | rt κ1 m2 c1 => cases e; rfl
              | st so => cases e; rfl
        | _ => cases e
/-- what follows a statement, from what follows the suite -/
theorem GKc.thn {p : Pair C.T} {a : Addr} {go : Obj} {A : Around} {ip : List (Addr × Obj)} {code : Code} {fs : List Frame} {K : Flow → Sem PySem.Fin} {J : Value → Sem PySem.Fin} {gd : Bool → Bool} {lv : List Value → List Value} {w : Wd} {m : List R} {o1 oc : GCO} {sts : List Stmt} {r : GB}
    (P : PairOk C p) (ha : (a, go) ∈ p.X.pn) (g : GCc p ip A code fs gd) (h2 : DGC C sts (fun cb => evC C.g cb r)) (e : thnC (evC C.g p.cb r) (some o1) = some oc) (k : GKc p a go ip A code fs K w oc) (V : Wf C.T w m) (x0 : Ext p.w0 w)
    {K' : Flow → Sem PySem.Fin} (hn : K' .next = (execs sts p.X.env).wrap K J gd lv) (hr : ∀ u, K' (.ret u) = K (.ret u)) (hb : K' .brk = K .brk) (hct : K' .cont = K .cont) : GKc p a go ip A code fs K' w o1 := by
  cases o1 with
  | nx ρ κ m' c =>
    intro n s₀ s w' σ x hnn st E
    rw [hn]
    obtain ⟨_, _, _, _, _, _, _, V', _⟩ := id st
    exact h2 p a go A ip n c s₀ s code fs K J gd lv σ ρ κ w' m' oc P ha g hnn st E e (k.on x V')
  | bk ρ κ m c => cases e; exact fun n s₀ s w' σ x hnn st E => by rw [hb]; exact k n s₀ s w' σ x hnn st E
  | ct ρ κ m c => cases e; exact fun n s₀ s w' σ x hnn st E => by rw [hct]; exact k n s₀ s w' σ x hnn st E
  | rt κ m c => cases e; exact fun n s₀ s w' σ x hnn st => by rw [hr]; exact k n s₀ s w' σ x hnn st
  | st o => cases e; exact k
theorem dgc_whl {N : Nat} {test : Expr} {b sts : List Stmt} {cnd : Dv.E} {xb r : GB} {pos : Pos} (hc : DT C test (evE C.g cnd)) (hb : DGC C b (fun cb => evC C.g cb xb)) (h2 : DGC C sts (fun cb => evC C.g cb r)) : DGC C (.While test b [] pos :: sts) (fun cb => evC C.g cb (.whl N cnd xb r)) := by
  obtain ⟨tc, pc, rc⟩ := hc
  intro p a go A ip n c s₀ s code fs K J gd lv σ ρ κ w m oc P ha g hn st E e k
  have e : thnC (evC C.g p.cb r) (whlC (evE C.g cnd) (evC C.g p.cb xb) N ρ κ m c) = some oc := e
  cases e2 : whlC (evE C.g cnd) (evC C.g p.cb xb) N ρ κ m c with
  | none => rw [e2] at e; cases e
  | some o1 =>
    rw [e2] at e
    obtain ⟨sw, Hw, σc, I, hL, Ec, JX, W, x0⟩ := id st
    have k1 := GKc.thn (J := J) (lv := lv) P ha g h2 e k W x0 (K' := fun f : Flow => match f with
      | .next => (execs sts p.X.env).wrap K J gd lv
      | f => K f) rfl (fun u => rfl) rfl rfl
    refine seg_execs_cons (seg_While fun q => ?_)
    have gl := fun (kk : Result → Sem PySem.Fin) => gcc_loop (k := kk) (c' := .whileLoop test b [] p.X.env) (l := lv []) (kp := []) (q := q) g rfl rfl
    have loop : ∀ (N n c : Nat) (s₀ s : Shared) (σ : L2.St) (ρ κ : Ro) (w1 : Wd) (m1 : List R), Ext w w1 → n + c = sizeLine → whlC (evE C.g cnd) (evC C.g p.cb xb) N ρ κ m1 c = some o1 → GSt p ip σ κ w1 m1 s → ER C.T w1 σ ρ →
        Seg (model p.X.prog p.X.w) A (RC p) (YC p a go) n s₀ (.whileLoop test b [] p.X.env) ((model p.X.prog p.X.w).den (.whileLoop test b [] p.X.env))
          (.ret (fun r => ((match r with | .ok f => (.pure f : Sem Flow) | .error e => .raise e).onRaise (cameBack p.X.env)).wrap (fun f : Flow => match f with
      | .next => (execs sts p.X.env).wrap K J gd lv
      | f => K f) J gd lv) none (gd false) (lv []) code q [] :: fs) s := by
      intro N
      induction N with
      | zero => intro n c s₀ s σ ρ κ w1 m1 x1 hn e3 st E; cases e3
      | succ N ih =>
        intro n c s₀ s σ ρ κ w1 m1 x1 hn e3 st E
        obtain ⟨k', bb, m2, ek, e4, aft⟩ := whlC_some e3
        cases ek
        obtain ⟨sw, Hw, σc, I, hL, Ec, JX, W1, x0⟩ := st
        refine seg_whileLoop ?_
        rw [(gl _).over]
        refine wpAny_mono ((pc _ (P.ok sw Hw).toOk).run ip s σ w1.H (fun b' H' => b' = bb ∧ ∃ w2, w2.H = H' ∧ Ext w1 w2 ∧ Wf C.T w2 m2) JX (rc σ w1 ρ m1 _ _ W1 E e4 ⟨bb, rfl, fun w2 x2 W2 => ⟨rfl, w2, rfl, x2, W2⟩⟩)) (fun b' s' hb' => ?_) fun x s' hx => hx.elim
        obtain ⟨H2, I2, rfl, w2, rfl, x2, W2⟩ := hb'
        have st2 : GSt p ip σ κ w2 m2 s' := .next I hL Ec x0 W1 I2 x2 W2
        rcases aft with ⟨rfl, rfl⟩ | ⟨rfl, ob, e5, aft⟩
        · rw [if_neg Bool.false_ne_true]
          refine seg_execs_nil ?_
          exact seg_leaf (.ok .next) (k1 n s₀ s' w2 σ (x1.trans x2 W1) hn st2 (E.on x2))
        · rw [if_pos rfl]
          refine hb p a go A ip n c s₀ s' _ _ _ _ id id σ ρ κ w2 m2 ob P ha (gl _) hn st2 (E.on x2) e5 ?_
          cases ob with
          | nx ρ1 κ1 m3 c1 => exact fun n' s₀' s3 w3 σ3 x3 hn3 st3 E3 => seg_again rfl (ih n' c1 s₀' s3 σ3 ρ1 κ1 w3 m3 ((x1.trans x2 W1).trans x3 W2) hn3 aft st3 E3)
          | ct ρ1 κ1 m3 c1 => exact fun n' s₀' s3 w3 σ3 x3 hn3 st3 E3 => seg_again rfl (ih n' c1 s₀' s3 σ3 ρ1 κ1 w3 m3 ((x1.trans x2 W1).trans x3 W2) hn3 aft st3 E3)
          | bk ρ1 κ1 m3 c1 => cases aft; exact fun n' s₀' s3 w3 σ3 x3 hn3 st3 E3 => seg_leaf (.ok .next) (k1 n' s₀' s3 w3 σ3 ((x1.trans x2 W1).trans x3 W2) hn3 st3 E3)
          | rt κ1 m3 c1 => cases aft; exact fun n' s₀' s3 w3 σ3 x3 hn3 st3 => seg_leaf (.ok (.ret .none)) (k1 n' s₀' s3 w3 σ3 ((x1.trans x2 W1).trans x3 W2) hn3 st3)
          | st so => cases aft; exact k1
    exact loop N n c s₀ s σ ρ κ w m (Ext.refl _) hn e2 st E
theorem forC_some {t : D → GF} {x : D} {xs : List D} {ρ κ : Ro} {m : List R} {c : Nat} {o : GCO} (e : forC t (x :: xs) ρ κ m c = some o) : ∃ ob, t x ρ κ m c = some ob ∧ match ob with
      | .nx ρ1 κ1 m2 c1 => forC t xs ρ1 κ1 m2 c1 = some o
      | .ct ρ1 κ1 m2 c1 => forC t xs ρ1 κ1 m2 c1 = some o
      | .bk ρ1 κ1 m2 c1 => o = .nx ρ1 κ1 m2 c1
      | .rt κ1 m2 c1 => o = .rt κ1 m2 c1
      | .st so => o = .st so := by
  simp only [forC] at e
  cases h2 : t x ρ κ m c with
  | none => rw [h2] at e; cases e
  | some o1 =>
    rw [h2] at e
    refine ⟨o1, rfl, ?_⟩
    cases o1 with
    | nx ρ1 κ1 m2 c1 => exact e
    | ct ρ1 κ1 m2 c1 => exact e
    | bk ρ1 κ1 m2 c1 => cases e; rfl
    | rt κ1 m2 c1 => cases e; rfl
    | st so => cases e; rfl
theorem dgc_for {tg iter : Expr} {b sts : List Stmt} {gt : G} {it : It} {xb r : GB} {pos : Pos} (hi : DI C tg iter (evI C.g it)) (hg : DG C tg gt) (hb : DGC C b (fun cb => evC C.g cb xb)) (h2 : DGC C sts (fun cb => evC C.g cb r)) (hs : ∀ env x, foldedSetIterable iter env x = pure x) : DGC C (.For tg iter b [] pos :: sts) (fun cb => evC C.g cb (.forr gt it xb r)) := by
  obtain ⟨wi, pi, ri⟩ := hi
  obtain ⟨tgt, pg, rg⟩ := hg
  intro p a go A ip n c s₀ s code fs K J gd lv σ ρ κ w m oc P ha g hn st E e k
  obtain ⟨sw, Hw, σc, I, hL, Ec, JX, W, x0⟩ := id st
  have e : thnC (evC C.g p.cb r) (itC (fun xs m => forC (bodyC gt (evC C.g p.cb xb)) xs ρ κ m c) (evI C.g it ρ m)) = some oc := e
  cases e1 : evI C.g it ρ m with
  | none => rw [e1] at e; cases e
  | some oi =>
    rw [e1] at e
    cases oi with
    | ex x m1 => cases e
    | ok src m1 =>
      cases src with
      | live k n => cases e
      | fix xs =>
        have e : thnC (evC C.g p.cb r) (forC (bodyC gt (evC C.g p.cb xb)) xs ρ κ m1 c) = some oc := e
        cases e2 : forC (bodyC gt (evC C.g p.cb xb)) xs ρ κ m1 c with
        | none => rw [e2] at e; cases e
        | some o1 =>
          rw [e2] at e
          have k1 := GKc.thn (J := J) (lv := lv) P ha g h2 e k W x0 (K' := fun f : Flow => match f with
            | .next => (execs sts p.X.env).wrap K J gd lv
            | f => K f) rfl (fun u => rfl) rfl rfl
          refine seg_execs_cons (seg_For ?_ (hs _))
          rw [g.over]
          refine wpAny_mono ((pi _ (P.ok sw Hw).toOk).run ip s σ w.H (fun Jt H1 => ∃ w1, w1.H = H1 ∧ Ext w w1 ∧ Wf C.T w1 m1 ∧ SrcOk C.T Jt w1 (.fix xs)) JX (ri σ w ρ m _ _ W E e1 fun w1 Jt x1 W1 S => ⟨w1, rfl, x1, W1, S⟩)) (fun v s1 h1 => wpAny_mono h1 (fun itv s2 hit q => ?_) fun x s' hx => hx.elim) fun x s' hx => hx.elim
          obtain ⟨ita, fp, tn, Jt, H2, ev, I2, T, st2, f2, w1, rfl, x1, W1, S⟩ := hit
          subst ev
          have gl := fun (kk : Result → Sem PySem.Fin) => gcc_loop (k := kk) (c' := .forLoop tg (.ref ita) b [] p.X.env) (l := lv []) (kp := []) (q := q) g rfl rfl
          have fst : ∀ b ∈ fp, b ≠ p.X.env.locals ∧ b ∉ frs p.X.outer ∧ p.X.env.locals ≤ b ∧ ∀ q ∈ p.X.pn ++ ip, q.1 ≠ b := fun b hb => by
            obtain ⟨_, q1, q2, q3, _, q5⟩ := f2 b hb
            refine ⟨q1, q2, ?_, q5⟩
            rcases q3 with z | z
            · have z : b ∈ p.X.ex := z
              rw [P.g.ex] at z
              cases z
            · have z : (cutH sw.heap p.X.env.locals).objs.size ≤ b := z
              rw [cut_size hL] at z
              exact z
          have fpk : ∀ {sw' : Shared} {Hw' H' : Hp}, p.X.env.locals ≤ sw'.heap.objs.size → (∀ b ∈ fp, H' b = none) → ∀ b ∈ fp, FpOk (reX p.X sw' Hw') ip H' b := fun {sw' Hw' H'} hL' hn' b hb => by
            obtain ⟨q1, q2, q3, q4⟩ := fst b hb
            refine ⟨hn' b hb, q1, q2, .inr ?_, fun x c e => ?_, q4⟩
            · show (cutH sw'.heap p.X.env.locals).objs.size ≤ b
              rw [cut_size hL']
              exact q3
            · have e : p.X.env.cells.lookup x = some c := e
              rw [P.g.cells] at e
              cases e
          have loop : ∀ (r' i n c : Nat) (s₀ s : Shared) (σ : L2.St) (ρ κ : Ro) (w2 : Wd) (m2 : List R), i + r' = xs.length → Ext w1 w2 → n + c = sizeLine → forC (bodyC gt (evC C.g p.cb xb)) (xs.drop i) ρ κ m2 c = some o1 → GSt p ip σ κ w2 m2 s → ER C.T w2 σ ρ → tn i s.heap → (∀ b ∈ fp, w2.H b = none) →
              Seg (model p.X.prog p.X.w) A (RC p) (YC p a go) n s₀ (.forLoop tg (.ref ita) b [] p.X.env) ((model p.X.prog p.X.w).den (.forLoop tg (.ref ita) b [] p.X.env))
                (.ret (fun r => ((match r with | .ok f => (.pure f : Sem Flow) | .error e => .raise e).onRaise (cameBack p.X.env)).wrap (fun f : Flow => match f with
            | .next => (execs sts p.X.env).wrap K J gd lv
            | f => K f) J gd lv) none (gd false) (lv []) code q [] :: fs) s := by
            intro r'
            induction r' with
            | zero =>
              intro i n c s₀ s σ ρ κ w2 m2 hi x2 hn e3 st E tni hfr
              obtain ⟨sw, Hw, σc, I, hL, Ec, JX, W2, x0⟩ := id st
              have hi : i = xs.length := by omega
              subst hi
              rw [List.drop_length] at e3
              cases e3
              refine seg_forLoop ?_
              rw [(gl _).over]
              refine wpAny_mono (T.done (reX p.X sw Hw) rfl rfl rfl (P.ok sw Hw).calm _ ip s σ w2.H (fun _ _ => False) JX (fpk hL hfr) tni ((S _ w2 m2 x2 W2).1 rfl)) (fun r s4 ⟨hr, I4⟩ => ?_) fun x s' hx => hx.elim
              subst hr
              refine seg_again rfl ?_
              exact seg_leaf (.ok .next) (k1 n s₀ s4 w2 σ (x1.trans x2 W1) hn (.next I hL Ec x0 W2 I4 (Ext.refl _) W2) E)
            | succ r' ih =>
              intro i n c s₀ s σ ρ κ w2 m2 hi x2 hn e3 st E tni hfr
              obtain ⟨sw, Hw, σc, I, hL, Ec, JX, W2, x0⟩ := id st
              have hlt : i < xs.length := by omega
              have ex : xs[i]? = some xs[i] := List.getElem?_eq_getElem hlt
              obtain ⟨jgo, jy⟩ := (S i w2 m2 x2 W2).2 xs[i] ex
              rw [List.drop_eq_getElem_cons hlt] at e3
              obtain ⟨ob, e4, aft⟩ := forC_some e3
              have stp : ∃ ρ', setG gt xs[i] ρ = some ρ' ∧ evC C.g p.cb xb ρ' κ m2 c = some ob := by
                unfold bodyC at e4
                split at e4
                · exact ⟨_, by assumption, e4⟩
                · cases e4
              obtain ⟨ρ', e5, e6⟩ := stp
              refine seg_forLoop ?_
              rw [(gl _).over]
              refine wpAny_mono (T.item (reX p.X sw Hw) rfl rfl rfl (P.ok sw Hw).calm i ip s σ w2.H (fun _ _ => False) JX (fpk hL hfr) tni jgo) (fun rr s4 ⟨u, hr, h4⟩ => ?_) fun x s' hx => hx.elim
              subst hr
              refine wpAny_mono h4 (fun _ s5 ⟨x, H5, I5, r5, y5, st5, fr5⟩ => ?_) fun x s' hx => hx.elim
              obtain ⟨w3, rfl, x3, W3, r3⟩ := jy x H5 y5
              have I5' := I5.pinned (fpk hL fr5) (T.obj _ _ st5)
              refine wpAny_mono ((pg _ (P.ok sw Hw).toOk).run _ s5 σ w3.H x u (fun σ' H' => ∃ w4, w4.H = H' ∧ Ext w3 w4 ∧ Wf C.T w4 m2 ∧ ER C.T w4 σ' ρ') I5' r5 (rg σ w3 ρ ρ' m2 x _ _ W3 (E.on x3) r3 e5 fun σ4 E4 _ => ⟨w3, rfl, Ext.refl _, W3, E4⟩)) (fun _ s6 ⟨σ6, H6, I6, w4, hw4, x4, W4, E6⟩ => ?_) fun x s' hx => hx.elim
              subst hw4
              have gip : ∀ q ∈ ip ++ pinsAt fp s5.heap, p.X.env.locals < q.1 := fun q hq => by
                rcases List.mem_append.mp hq with z | z
                · exact g.ip q z
                · obtain ⟨q1, _, q3, _⟩ := fst q.1 (of_pinsAt z).1
                  exact Nat.lt_of_le_of_ne q3 (Ne.symm q1)
              have st6 : GSt p (ip ++ pinsAt fp s5.heap) σ6 κ w4 m2 s6 := .next I hL Ec x0 W2 I6 (x3.trans x4 W3) W4
              refine hb p a go A (ip ++ pinsAt fp s5.heap) n c s₀ s6 _ _ _ _ id id σ6 ρ' κ w4 m2 ob P ha ⟨gip, (gl _).over, (gl _).split, (gl _).guard, rfl⟩ hn st6 E6 e6 ?_
              have xx : Ext w1 w4 := x2.trans (x3.trans x4 W3) W2
              have un : ∀ {σ7 : L2.St} {κ7 : Ro} {w7 : Wd} {m7 : List R} {s7 : Shared}, GSt p (ip ++ pinsAt fp s5.heap) σ7 κ7 w7 m7 s7 → GSt p ip σ7 κ7 w7 m7 s7 ∧ tn (i + 1) s7.heap ∧ ∀ b ∈ fp, w7.H b = none := fun {σ7 κ7 w7 m7 s7} ⟨a1, a2, a3, b1, b2, b3, b4, b5, b6⟩ => by
                refine ⟨⟨a1, a2, a3, b1, b2, b3, b4.unpinned, b5, b6⟩, T.keep _ _ _ st5 fun b hb o e => (b4.pin (b, o) (List.mem_append_right _ (List.mem_append_right _ (mem_pinsAt hb e)))).1, fun b hb => ?_⟩
                obtain ⟨o, e, d⟩ := T.obj _ _ st5 b hb
                exact (b4.pin (b, o) (List.mem_append_right _ (List.mem_append_right _ (mem_pinsAt hb e)))).2.1
              cases ob with
              | nx ρ1 κ1 m3 c1 => exact fun n' s₀' s7 w7 σ7 x7 hn7 st7 E7 => let ⟨u1, u2, u3⟩ := un st7; seg_again rfl (ih (i + 1) n' c1 s₀' s7 σ7 ρ1 κ1 w7 m3 (by omega) (xx.trans x7 W4) hn7 aft u1 E7 u2 u3)
              | ct ρ1 κ1 m3 c1 => exact fun n' s₀' s7 w7 σ7 x7 hn7 st7 E7 => let ⟨u1, u2, u3⟩ := un st7; seg_again rfl (ih (i + 1) n' c1 s₀' s7 σ7 ρ1 κ1 w7 m3 (by omega) (xx.trans x7 W4) hn7 aft u1 E7 u2 u3)
              | bk ρ1 κ1 m3 c1 => cases aft; exact fun n' s₀' s7 w7 σ7 x7 hn7 st7 E7 => seg_leaf (.ok .next) (k1 n' s₀' s7 w7 σ7 (x1.trans (xx.trans x7 W4) W1) hn7 (un st7).1 E7)
              | rt κ1 m3 c1 => cases aft; exact fun n' s₀' s7 w7 σ7 x7 hn7 st7 => seg_leaf (.ok (.ret .none)) (k1 n' s₀' s7 w7 σ7 (x1.trans (xx.trans x7 W4) W1) hn7 (un st7).1)
              | st so => cases aft; exact k1
          exact loop xs.length 0 n c s₀ s2 σ ρ κ w1 m1 (Nat.zero_add _) (Ext.refl _) hn e2 (.next I hL Ec x0 W I2 x1 W1) (E.on x1) st2 fun b hb => (f2 b hb).1
end
end Dv

namespace Dv
open PySem PySem.Spec PyProof.Rows L2 GenW

/-! ### the call of a generator def, for a consumer that turns -/
theorem Inv.regen {X : Cx} {pins : List (Addr × Obj)} {σ : L2.St} {H : Hp} {s : Shared} {G : Array GenState} (I : Inv X pins σ H s) (hG : AllBare G) : Inv X pins σ H { s with gens := G } :=
  I.call' (s' := { s with gens := G }) (ch := []) rfl Un.refl I.hok hG fun b z => by cases z
theorem Inv.regen' {X : Cx} {pins : List (Addr × Obj)} {σ : L2.St} {H : Hp} {b : Shared} {ga : Array GenState} (I : Inv X pins σ H { b with gens := ga }) (hG : AllBare b.gens) : Inv X pins σ H b :=
  Inv.regen (s := { b with gens := ga }) I hG
/-- a stretch of the consumer's run, the generator g asleep -/
theorem keepsG {α : Type} {M : Model} {A : Around} {t : Sem α} {Q Q' : α → Shared → Prop} {E E' : Value → Shared → Prop} {s : Shared} {g : Nat} {k : Resume → Sem PySem.Fin} {l : List Value} {c : Code} {p : Pos} {fs : List Frame} {cl : Bool} (hg : s.gens[g]? = some (.suspended k l c p fs cl))
    (h : wpAny M A t Q E { s with gens := s.gens.map poison }) (hQ : ∀ x b ga, Q x { b with gens := ga } → (AllBare ga → AllBare b.gens) → b.gens[g]? = some (.suspended k l c p fs cl) → Q' x b) (hE : ∀ x b ga, E x { b with gens := ga } → (AllBare ga → AllBare b.gens) → E' x b) : wpAny M A t Q' E' s := by
  refine wpAny_mono (wpAny_sleep h) (fun x b ⟨ga, w, q⟩ => hQ x b ga q (bare_sw w) ?_) fun x b ⟨ga, w, q⟩ => hE x b ga q (bare_sw w)
  refine (w.dom g _ ?_).2.2
  unfold asleep
  rw [hg]
theorem cells_none : ∀ (l : List (Str × NameKind)) (n : Nat), (∀ y ∈ l, y.2 ≠ .cell) → cellsFrom n l [] = []
  | [], _, _ => rfl
  | (x, k) :: l, n, h => by
    have hk : (k == NameKind.cell) = false := beq_eq_false_iff_ne.mpr (h (x, k) List.mem_cons_self)
    unfold cellsFrom
    rw [hk]
    exact cells_none l n fun y hy => h y (List.mem_cons_of_mem _ hy)
/-- a generator that has not begun, and its frame -/
structure GNew (C : Cs) (N : List Str) (sc : Scope) (body : List Stmt) (vs : List V) (Aw : Around) (outer : List Env) (s : Shared) (H : Hp) (a : Addr) (g : Nat) (go : Obj) (X : Cx) (oL : Obj) (s' : Shared) : Prop where
  loc : X.env.locals = s.heap.objs.size
  prog : X.prog = C.P
  w : X.w = C.w
  K : X.K = C.T.K
  mg : X.mg = C.mg
  base : X.base = C.base
  outer : X.outer = outer
  gfr : GFr X
  ok : ∀ s H, (C.at N sc fun _ _ _ => False).OkS (reX X s H)
  pn : X.pn = [(a, go)]
  young : X.env.locals < a
  over : Aw.over (.func body X.env) [] = X.A
  gen : s'.gens[g]? = some (.fresh (.func body X.env))
  at_ : s'.heap.get? a = some go
  isGen : ∀ h : Heap, h.get? a = some go → h.IsGen a g
  cls : go.cls = .type "generator"
  dat : ∃ vs, go.data = .fields vs
  oL : s'.heap.get? X.env.locals = some oL
  inv : Inv X [] (start N vs) H s'
  os : s'.os = s.os
  bare : AllBare s'.gens
  kept : ∀ b o, s.heap.get? b = some o → s'.heap.get? b = some o
theorem gen_made {C : Cs} {x qual : Str} {st : Stmt} {f : Addr} {fd : FuncData} {N ps : List Str} (F : FnD C.T.K x qual st f fd) (S : GScope N ps (defScope st)) (noc : ∀ y ∈ (defScope st).names, y.2 ≠ .cell) {A Aw : Around} {outer : List Env} {s : Shared} {H : Hp} {args : Args} {us : List Value} {vs : List V}
    (hr : Room (C.L + 1) A) (hw : Room (C.L + 1) Aw) (hfw : Aw.frames = some outer) (e0 : Env0 C.P C.w C.T.K C.mg C.base A outer s H) (hb : BindsTo s fd args (ps.zip us)) (r : Vals vs us) (hl : vs.length = ps.length) :
    codeAny (model C.P C.w) A (.call (.ref f) args) (fun r s' => ∃ a g go X oL, r = .ok (.ret (.ref a)) ∧ GNew C N (defScope st) (defBody st) vs Aw outer s H a g go X oL s') s := by
  obtain ⟨oc, od, dV, kV, doc, pm, an, cdv, ct, osl, rfl, lk, hcd⟩ := F.ex
  have KX : C.T.K.In s.heap := e0.mod.kin.keeps fun b o e => (e0.bs b o e).1
  have lim : s.heap.NoLimit := e0.mod.nolimit.keeps fun b o e => (e0.bs b o e).1
  have hkind : ∀ y ∈ ps.zip us, (defScope st).names.lookup y.1 = some .local ∨ ((defScope st).names.lookup y.1 = some .cell ∧ ((cellsFrom (s.heap.objs.size + 1) (defScope st).names []).lookup y.1).isSome = true) := fun ⟨n, v⟩ hy => by
    rcases S.par n (List.of_mem_zip hy).1 with q | q
    · exact .inl q
    · exact .inr ⟨q, PySem.W.cellsFrom_some _ _ _ (.inl q)⟩
  refine codeAny_call_generator hr.depth (KX _ _ lk) rfl S.co S.gen rfl (PySem.W.codeRec_of KX hcd) (hb _ _ _ _ ?_)
  refine wpAny_newFunctionEnv_cells S.kind hkind fun env he s1 x => ?_
  subst he
  have lim1 : s1.heap.NoLimit := lim.keeps x.toInCall.keep
  refine ⟨lim1, ?_⟩
  obtain ⟨h1, tk, es1, hk1⟩ := x.done
  have os1 : s1.os = s.os := by rw [es1]
  have gen1 : s1.gens = s.gens := by rw [es1]
  have lt1 : s.heap.objs.size < s1.heap.objs.size := x.toInCall.ns.lt
  have sz1 : s.heap.objs.size ≤ s1.heap.objs.size := Nat.le_of_lt lt1
  have kp1 : ∀ b o, s.heap.get? b = some o → s1.heap.get? b = some o := x.toInCall.keep
  have e0w : Env0 C.P C.w C.T.K C.mg C.base Aw outer s H := ⟨hfw, e0.mod, e0.bs, e0.bsz, e0.funs, e0.frf, e0.hok, e0.bare⟩
  have hcn := cells_none (defScope st).names (s.heap.objs.size + 1) noc
  have main : ∀ (go : Obj) (nm qn : Value) (tk2 : Nat), go.cls = .type "generator" → go.data = .fields #[.int s1.gens.size 0, nm, qn] → go.slots = #[] → (∀ h : Heap, (h.push go).get? h.objs.size = some go) →
      ∃ a g go' X oL, (Except.ok (Flow.ret (.ref s1.heap.objs.size)) : Result) = .ok (.ret (.ref a)) ∧ GNew C N (defScope st) (defBody st) vs Aw outer s H a g go' X oL { s1 with gens := s1.gens.push (.fresh (.func (defBody st) (envOfC qual (defScope st) s.heap.objs.size f cdv))), toks := tk2, heap := s1.heap.push go } := by
    intro go nm qn tk2 hgc hgd0 hgs hgp
    have hgen : ∀ h : Heap, h.get? s1.heap.objs.size = some go → h.IsGen s1.heap.objs.size s1.gens.size := fun h e => ⟨go, nm, qn, e, hgc, hgd0, hgs⟩
    have hpushed : (s1.heap.push go).get? s1.heap.objs.size = some go := hgp _
    have I1 : Inv (gcxOf C.P C.w C.T.K C.mg C.base N qual (defScope st) f cdv Aw outer s H (fun _ _ _ => False) []) [] (start N vs) H s1 := inv_startG S hw.hd e0w hl r x
    have hbare : AllBare (s1.gens.push (.fresh (.func (defBody st) (envOfC qual (defScope st) s.heap.objs.size f cdv)))) := AllBare.push (by rw [gen1]; exact e0.bare) rfl
    have kp2 : ∀ b o, s1.heap.get? b = some o → (s1.heap.push go).get? b = some o := fun b o e => Heap.get?_push_of_some _ e
    have I2 : Inv (gcxOf C.P C.w C.T.K C.mg C.base N qual (defScope st) f cdv Aw outer s H (fun _ _ _ => False) []) [] (start N vs) H { s1 with gens := s1.gens.push (.fresh (.func (defBody st) (envOfC qual (defScope st) s.heap.objs.size f cdv))), toks := tk2, heap := s1.heap.push go } :=
      I1.call' (ch := []) rfl (Un.kept kp2) (I1.hok.kept kp2) hbare fun b z => by simp at z
    obtain ⟨m, ⟨oL, es, ep, ho, hd, hr'⟩, _⟩ := id I2.loc
    refine ⟨s1.heap.objs.size, s1.gens.size, go, gcxOf C.P C.w C.T.K C.mg C.base N qual (defScope st) f cdv Aw outer s H (fun _ _ _ => False) [(s1.heap.objs.size, go)], oL, rfl, ⟨rfl, rfl, rfl, rfl, rfl, rfl, rfl, ⟨rfl, hcn, fun x => ?_⟩, fun s' H' => ⟨⟨rfl, rfl, rfl, rfl, rfl, rfl, rfl, S.nd, rfl, hw.deeper _, fun u s'' xx => ?_, rfl⟩, fun _ _ z => z.elim⟩, rfl, lt1, over_func, Array.getElem?_push_size .., hpushed, hgen, hgc, ⟨_, hgd0⟩, ho, Inv.pinnedG I2 fun q hq => ?_, os1, hbare, fun b o e => kp2 b o (kp1 b o e)⟩⟩
    · refine ⟨fun e => ?_, fun e => ?_⟩
      · exact noc _ (PySem.mem_of_lookup e) rfl
      · exact S.nofree _ (PySem.mem_of_lookup e) rfl
    · obtain ⟨_, _, _, _, _, _, _, _, _, _, _, _, _, _, _, _, z⟩ := xx
      exact z.elim
    · rw [List.append_nil] at hq
      rw [List.mem_singleton.mp hq]
      refine ⟨hpushed, I1.hok.fresh (Nat.le_refl _), Nat.ne_of_gt lt1, I1.nofs (Nat.le_refl _), fun v q => by rw [hgd0] at q; cases q⟩
  exact main _ _ _ _ rfl rfl rfl fun h => Heap.get?_push_size _ rfl
end Dv

namespace Dv
open PySem PySem.Spec PyProof.Rows L2 GenW

/-! ### a generator is woken: behind an item it sleeps -/
def Asleep (gs : GenState) : Prop := ∃ k l c p fs cl, gs = .suspended k l c p fs cl
theorem set_get {s : Shared} {g : Nat} {x : GenState} (h : g < s.gens.size) : (s.setGen g x).gens[g]? = some x := setGen_at h
theorem resumeS {M : Model} {A : Around} {R : GenEnd} {Y : Protocol} {n : Nat} {E : Value → Shared → Prop} {s : Shared} {g : Nat} {gs : GenState} {r : Resume} {l : List Value} {α : Type} {k : GenResult → Sem α} {Q : α → Shared → Prop} (hg : s.gens[g]? = some gs)
    (hgo : gs.Goes M A R Y n r (s.setGen g .running)) (hR : ∀ x s₁, R n (s.setGen g .running) x s₁ → wpAny M A (k (End.ret x).result) Q E (s₁.setGen g .finished))
    (hY : ∀ v s₁ gs', Asleep gs' → gs'.bare = true → Y (n - 1) (s.setGen g .running) v s₁ (fun r' s'' => match (generalizing := false) n with | 0 => False | m + 1 => gs'.Goes M A R Y m r' s'') → wpAny M A (k (.yielded v)) Q E (s₁.setGen g gs')) :
    wpAny M A (.resume g r l k) Q E s := by
  have hsz : g < s.gens.size := (Array.getElem?_eq_some_iff.mp hg).1
  have base := wpAny_resumeQ (M := M) (A := A) (R := R) (Y := Y) (n := n) (E := fun _ _ => False) (l := l) (k := fun x => (.pure x : Sem GenResult))
    (Q := fun res s' => (∃ x s₁, R n (s.setGen g .running) x s₁ ∧ res = (End.ret x).result ∧ s' = s₁.setGen g .finished) ∨
      ∃ v s₁ gs', gs'.bare = true ∧ Y (n - 1) (s.setGen g .running) v s₁ (fun r' s'' => match (generalizing := false) n with | 0 => False | m + 1 => gs'.Goes M A R Y m r' s'') ∧ res = .yielded v ∧ s' = s₁.setGen g gs') hg hgo
    (fun x s₁ hx => wpAny_pure (.inl ⟨x, s₁, hx, rfl, rfl⟩)) (fun v s₁ gs' hb hv => wpAny_pure (.inr ⟨v, s₁, gs', hb, hv, rfl, rfl⟩))
  intro Γ p hΓ
  have b := base Γ p hΓ
  rw [Sem.wp_resume] at b ⊢
  obtain ⟨res, s', hw, hq⟩ := b
  refine ⟨res, s', hw, ?_⟩
  have hs' : g < s'.gens.size := Nat.lt_of_lt_of_le hsz (wakes_gsz hw)
  rcases hq with ⟨x, s₁, hx, rfl, rfl⟩ | ⟨v, s₁, gs', hb, hv, rfl, rfl⟩
  · exact hR x s₁ hx Γ p hΓ
  · rw [setGen_size] at hs'
    have e1 := set_get (x := gs') hs'
    refine hY v s₁ gs' ?_ hb hv Γ p hΓ
    have fin : ∀ (e₁ : End) (s₂ : Shared), GenResult.yielded v = e₁.result → s₁.setGen g gs' = s₂.setGen g e₁.genState → Asleep gs' := fun e₁ s₂ h1 h2 => by
      have hs2 : g < s₂.gens.size := by
        have := congrArg (fun z : Shared => z.gens.size) h2
        simp only [setGen_size] at this
        omega
      have e2 := set_get (x := e₁.genState) hs2
      rw [← h2, e1] at e2
      cases e₁ with
      | ret x =>
        cases x with
        | ok f => cases h1
        | error e => cases h1
      | susp v' g' l' k' c' p' fs' => exact ⟨_, _, _, _, _, _, Option.some.inj e2⟩
    unfold Wakes at hw
    rw [hg] at hw
    cases gs with
    | fresh c =>
      simp only at hw
      split at hw
      · obtain ⟨e₁, s₂, _, _, h1, h2⟩ := hw
        exact fin e₁ s₂ h1 h2
      · cases hw.1
      · cases hw.1
    | suspended k₀ l₀ c₀ p₀ fs₀ cl₀ =>
      obtain ⟨e₁, s₂, _, _, h1, h2⟩ := hw
      exact fin e₁ s₂ h1 h2
    | running => cases hw.1
    | finished => cases hw.1
end Dv

namespace Dv
open PySem PySem.Spec PyProof.Rows L2 GenW

/-- the end that no exception makes -/
def Quiet (F : Nat → Shared → Shared → Prop) : GenEnd := fun n s₀ r s => ((r = .ok (.ret .none) ∨ r = .ok .next) ∧ F n s₀ s) ∨ ∃ e, r = .error e ∧ False
/-- the next item of a generator; behind it the generator sleeps -/
theorem nextG {P : Program} {w : World} {A : Around} {E : Value → Shared → Prop} {s : Shared} {a : Addr} {g n : Nat} {gs : GenState} {F : Nat → Shared → Shared → Prop} {Y : Protocol} {Q : Option Value → Shared → Prop} (hh : A.handled = none) (hl : s.heap.NoLimit) (hroom : A.depth < recursionLimit)
    (hg : s.heap.IsGen a g) (hgs : s.gens[g]? = some gs) (hgo : gs.Goes (model P w) A.in1 (Quiet F) Y n (.send .none) (s.setGen g .running))
    (hY : ∀ v s₁ gs', Asleep gs' → gs'.bare = true → g < s₁.gens.size → Y (n - 1) (s.setGen g .running) v s₁ (fun r' s'' => match (generalizing := false) n with | 0 => False | m + 1 => gs'.Goes (model P w) A.in1 (Quiet F) Y m r' s'') → Q (some v) (s₁.setGen g gs'))
    (hP : ∀ s₁, F n (s.setGen g .running) s₁ → ∀ h', (∀ b o, s₁.heap.get? b = some o → h'.get? b = some o) → Q none { s₁.setGen g .finished with heap := h' }) :
    wpAny (model P w) A (pyNext (.ref a)) Q E s := by
  have hgl : g < s.gens.size := (Array.getElem?_eq_some_iff.mp hgs).1
  refine wpAny_gsz (n := g + 1) hgl ?_
  unfold pyNext
  have ht := hg.typeIs
  refine wpAny_bind (wpAny_attempt (wpAny_callSpecial?_slot (name := Str.ofString "__next__") ht slot_gen_next (wpAny_call_entry slot_gen_next ht entry_gen_next ?_ (args_gen_next _))))
  show wpAny _ A.in1 (Builtin.Generator.genWake (.ref a) (.send .none)) _ _ s
  unfold Builtin.Generator.genWake
  refine wpAny_bind (wpAny_holding (wpAny_genNumber hg (wpAny_bind (wpAny_genState hgs ?_))))
  cases gs with
  | running => exact hgo.elim
  | finished => exact hgo.elim
  | _ =>
    refine wpAny_bind (wpAny_roomToWake hl hroom ?_)
    show wpAny _ A.in1 (.resume g (.send .none) [] _) _ _ s
    refine resumeS hgs hgo (fun x s₁ hx => ?_) fun v s₁ gs' ha hb hv => ?_
    · rcases hx with ⟨hr, hp⟩ | ⟨e, _, z⟩
      · have hres : End.result (.ret x) = .returned .none := by
          rcases hr with rfl | rfl <;> rfl
        first | rw [hres] | simp only [hres]
        show wpAny _ A.in1 (newExc (.type "StopIteration") [] >>= _) _ _ _
        refine wpAny_bind ?_
        simp only [newExc, newTuple]
        refine wpAny_bind (wpAny_newObj_type ?_ (by size_fits))
        refine wpAny_bind (m := firstArgMember _ _) (wpAny_of_eq (a := Value.none) (by first | rfl | (simp only [firstArgMember]; rfl)) ?_)
        refine wpAny_newObj_type ?_ (by size_fits)
        simp only [raiseNew]
        refine wpAny_bind (wpAny_bind (wpAny_handled ?_))
        first | rw [show A.in1.handled = none from hh] | rw [hh]
        refine wpAny_throw ?_
        refine wpAny_bind (wpAny_isInstance (T := "StopIteration") (b := true) ⟨_, Heap.get?_push_size _ rfl, rfl⟩ isSubtype_stop ?_)
        exact wpAny_pure fun _ => hP s₁ hp _ fun b o hb' => Heap.get?_push_of_some _ (Heap.get?_push_of_some _ hb')
      · exact z.elim
    · refine wpAny_pure ⟨v, rfl, wpAny_pure fun hsz => hY v s₁ gs' ha hb ?_ hv⟩
      have : g + 1 ≤ (s₁.setGen g gs').gens.size := hsz
      rw [setGen_size] at this
      exact this
end Dv

namespace Dv
open PySem PySem.Spec PyProof.Rows L2 GenW

/-! ### for over the call of a generator def -/
def endF : Option GCO → Option SO
  | some (.nx _ κ m _) => some (.nx κ m)
  | some (.rt κ m _) => some (.nx κ m)
  | some (.st o) => some o
  | _ => none
/-- a generator def's code from its start, the consumer's turn cb between -/
def runFor (g : Gt) (N : Nat) (b : GB) (cb : CB) (ds : List D) (κ : Ro) (m : List R) : Option SO :=
  endF (evC g cb b (ds.map some ++ List.replicate (N - ds.length) none) κ m 0)
/-- a generator def, for a consumer that turns -/
def GnC (C : Cs) (x : Str) (n i : Nat) : Prop := ∃ (gg : Gt) (k : Nat) (qual : Str) (st : Stmt) (f : Addr) (fd : FuncData) (N ps : List Str) (b : GB) (dvl : List Value) (dvs : List V) (dds : List D),
  FnD C.T.K x qual st f fd ∧ GScope N ps (defScope st) ∧ (∀ y ∈ (defScope st).names, y.2 ≠ .cell) ∧ DGC (({ C with g := gg, L := k } : Cs).at N (defScope st) fun _ _ _ => False) (defBody st) (fun cb => evC gg cb b) ∧
  (∀ cb as κ m, C.g.gfr i cb as κ m = runFor gg N.length b cb (as ++ dds) κ m) ∧ k + 3 ≤ C.L ∧ C.mg x = some (.ref f) ∧ PySem.W.keepIn C.T.K (.ref f) = true ∧ Binds C.T.K fd ps dvl ∧
  Vals dvs dvl ∧ (∀ Hs al, RepL C.T Hs al dvs dds) ∧ n + dds.length = ps.length
/-- no exception leaves -/
def Cs.calm (C : Cs) : Cs := { C with W := fun _ _ _ _ => False }
theorem Cs.Ok.calm' {C : Cs} {X : Cx} (ok : C.Ok X) : C.calm.Ok X.nox := ⟨ok.prog, ok.w, ok.K, ok.mg, ok.base, ok.N, ok.sc, ok.nd, ok.calm, ok.room, takesF, ok.fn⟩
theorem Cs.OkS.calm' {C : Cs} {X : Cx} (ok : C.OkS X) : C.calm.OkS X.nox := ⟨ok.toOk.calm', fun _ _ z => z.elim⟩
theorem Inv.kept {X : Cx} {pins : List (Addr × Obj)} {σ : L2.St} {H : Hp} {s s' : Shared} (I : Inv X pins σ H s) (ho : s'.os = s.os) (hg : AllBare s'.gens) (hk : ∀ b o, s.heap.get? b = some o → s'.heap.get? b = some o) : Inv X pins σ H s' :=
  I.call' (ch := []) ho (Un.kept hk) (I.hok.kept hk) hg fun b z => by cases z
theorem ds_forg {C : Cs} {x : Str} {i : Nat} {e : Expr} {es : List Expr} {xs : Es} {tg : Expr} {body : List Stmt} {gt : G} {b : Ss} {pn pos fpos : Pos} (F : GnC C x xs.len i) (hg : C.sc.names.lookup x = some .globalImplicit) (ha : DA C (e :: es) (evL C.g xs)) (hs : (e :: es).all noStar = true)
    (ht : DG C.calm tg gt) (hb : DSs C.calm body (evSs C.g b)) (hfs : ∀ env x', foldedSetIterable (.Call (.Name x pn) (e :: es) [] pos) env x' = pure x') (hdb : (x == ("__debug__" : Str)) = false) :
    DS C (.For tg (.Call (.Name x pn) (e :: es) [] pos) body [] fpos) (evS C.g (.forg i xs gt b)) := by
  obtain ⟨gg, k, qual, st, f, fd, N, ps, gb, dvl, dvs, dds, F, S, noc, dg, hgf, hk, hm, kp, hbd, hdv, hdd, hn⟩ := F
  obtain ⟨t, pt, rt⟩ := ha
  rw [List.all_cons, Bool.and_eq_true] at hs
  obtain ⟨tgt, pg, rg⟩ := ht
  obtain ⟨tb, pb, rb⟩ := hb
  refine ⟨fun D σ H => ∀ X pins s, C.OkS X → Inv X pins σ H s → wpAny (model X.prog X.w) X.A (exec (.For tg (.Call (.Name x pn) (e :: es) [] pos) body [] fpos) X.env) (SP X pins D) X.xe s, fun X ok => ⟨fun pins s σ H D I h => h X pins s ok I⟩, fun σ w ρ m D o W E e0 pp X pins s ok I => ?_⟩
  simp only [evS] at e0
  refine wpAny_For ?_ (hfs _)
  refine wpAny_Call_Name_kw (ld_glob I (show X.env.scope.names.lookup x = some .globalImplicit by rw [ok.sc]; exact hg) (by rw [ok.mg]; exact hm) ?_ hdb)
  refine PySem.W.callWith_K (h₀ := X.base) I.ok.mod.kin (by rw [ok.K]; exact kp) ?_ (star1 hs.1 es _) (stars hs.2)
  refine thn ((pt X ok.toOk).run pos pins s σ w.H (fun vs H' => ∃ w1 ds m1, w1.H = H' ∧ Ext w w1 ∧ Wf C.T w1 m1 ∧ RepL C.T w1.Hs w1.al vs ds ∧ ds.length = xs.len ∧ C.g.gfr i (bodyD gt (evSs C.g b)) ds ρ m1 = some o) I ?args) fun us s1 hq => ?_
  case args =>
    cases e1 : evL C.g xs ρ m with
    | none => rw [e1] at e0; cases e0
    | some ol =>
      rw [e1] at e0
      cases ol with
      | ok ds m1 => exact rt σ w ρ m _ _ W E e1 fun w' vs x' W' r' => ⟨w', ds, m1, rfl, x', W', r', evL_len _ _ _ _ e1, e0⟩
      | ex z m1 =>
        cases e0
        exact rt σ w ρ m _ _ W E e1 fun w' cls dd x' W' r' => pp w' σ cls dd x' W' (E.on x') r'
  obtain ⟨vs, H1, I1, r, w1, ds, m1, rfl, x1, W1, r1, hdl, e1⟩ := hq
  refine ⟨I1.kIn, ?_⟩
  rw [hgf] at e1
  have hdl2 := (hdd w1.Hs w1.al).length
  replace r := r.append hdv
  replace r1 := r1.append (hdd w1.Hs w1.al)
  have hvl : (vs ++ dvs).length = ps.length := by rw [r1.length, List.length_append, hdl]; exact hn
  have hus : (us ++ dvl).length = ps.length := by rw [← r.length]; exact hvl
  have hr1 : Room (k + 1) X.A := ok.room.mono (by omega)
  have hr2 : Room (k + 1) X.A.in1 := (ok.room.mono (show k + 2 ≤ C.L by omega)).in1
  have hbd' : BindsTo s1 fd ⟨us, []⟩ (ps.zip (us ++ dvl)) := hbd s1 us (by rw [← ok.K]; exact I1.kIn) hus
  have hfr : X.A.in1.frames = some X.stack := I.ok.frames
  have e0' : Env0 C.P C.w C.T.K C.mg C.base X.A X.stack s1 w1.H := by
    rw [← ok.prog, ← ok.w, ← ok.K, ← ok.mg, ← ok.base]
    exact I1.env0
  have gm := gen_made (C := { C with g := gg, L := k }) F S noc hr1 hr2 hfr e0' hbd' r hvl
  rw [show model (({ C with g := gg, L := k } : Cs).P) (({ C with g := gg, L := k } : Cs).w) = model X.prog X.w by rw [ok.prog, ok.w]] at gm
  refine wpAny_call (codeAny_mono gm fun rr s2 hq => ?_)
  obtain ⟨a, g, go, Xg, oL, rfl, G⟩ := hq
  refine wpAny_pyIter_gen (G.isGen _ G.at_) ?_
  have I2 : Inv X pins σ w1.H s2 := Inv.kept I1 G.os G.bare G.kept
  let p : Pair C.T := { X := Xg, Y := X, pins := pins, cb := bodyD gt (evSs C.g b), o := o, w0 := w1 }
  have lt1 : ∀ {q : Addr} {ob : Obj}, s1.heap.get? q = some ob → q < Xg.env.locals := fun hq => by rw [G.loc]; exact Heap.lt_size hq
  have P : PairOk (({ C with g := gg, L := k } : Cs).at N (defScope st) fun _ _ _ => False) p := {
    g := G.gfr
    outer := G.outer
    prog := G.prog.trans ok.prog.symm
    w := G.w.trans ok.w.symm
    K := G.K.trans ok.K.symm
    mg := G.mg.trans ok.mg.symm
    base := G.base.trans ok.base.symm
    ok := G.ok
    hy := by show X.s_0.heap.objs.size ≤ Xg.env.locals; rw [G.loc]; exact I1.sz
    hyl := by show X.env.locals < Xg.env.locals; rw [G.loc]; exact I1.lt
    hyc := fun y c e => by
      obtain ⟨v, ob, ho, _⟩ := I1.cell y c e
      exact lt1 ho
    hyp := fun q hq => lt1 (I1.pin q hq).1
    pn := fun q hq => by
      have hq : q ∈ Xg.pn := hq
      rw [G.pn] at hq
      rw [List.mem_singleton.mp hq]
      exact G.young }
  have mdl : model Xg.prog Xg.w = model X.prog X.w := by rw [G.prog, G.w, ok.prog, ok.w]
  obtain ⟨hgc, hgd⟩ := And.intro G.cls G.dat
  obtain ⟨gvs, hgd⟩ := hgd
  have hh : X.A.handled = none := I.ok.hd ok.calm
  refine codeAny_forLoop_any (fun n s' => s'.heap.IsGen a g ∧ s'.heap.NoLimit ∧ ∃ gs, s'.gens[g]? = some gs ∧ gs.Goes (model X.prog X.w) X.A.in1 (RC p) (YC p a go) n (.send .none) (s'.setGen g .running)) ?_ sizeLine
    ⟨G.isGen _ G.at_, I2.nolimit, .fresh (.func (defBody st) Xg.env), G.gen, rfl, ?first⟩
  case first =>
    have bare2 : AllBare (s2.setGen g .running).gens := allBare_setGen G.bare rfl
    have I3 : Inv X pins σ w1.H (s2.setGen g .running) := Inv.regen I2 bare2
    have hL : Xg.env.locals ≤ s2.heap.objs.size := Nat.le_of_lt (Heap.lt_size G.oL)
    have e03 : Env0 Xg.prog Xg.w Xg.K Xg.mg Xg.base X.A Xg.outer (s2.setGen g .running) w1.H := by
      rw [P.prog, P.w, P.K, P.mg, P.base, P.outer]
      exact I3.env0
    have J : Inv (reX Xg (s2.setGen g .running) w1.H) [] (start N (vs ++ dvs)) w1.H (s2.setGen g .running) :=
      re_inv G.gfr G.inv e03 G.oL ⟨G.oL, G.inv.free⟩ fun q hq => ⟨(G.inv.pin q hq).1, (G.inv.pin q hq).2.1⟩
    have stg : GSt p [] (start N (vs ++ dvs)) ρ w1 m1 (s2.setGen g .running) := ⟨s2.setGen g .running, w1.H, σ, I3, hL, E.on x1, J, W1, Ext.refl _⟩
    rw [← mdl]
    refine seg_func ?_
    unfold runFor at e1
    cases e2 : evC gg (bodyD gt (evSs C.g b)) gb ((ds ++ dds).map some ++ List.replicate (N.length - (ds ++ dds).length) none) ρ m1 0 with
    | none => rw [e2] at e1; cases e1
    | some oc =>
      rw [e2] at e1
      refine dg p a go X.A.in1 [] sizeLine 0 (s2.setGen g .running) (s2.setGen g .running) (.func (defBody st) Xg.env) [] (fun f => .pure (.done (.ret (match f with | .ret v => v | _ => .none)))) (fun e => (leaving Xg.env e).wrap (fun _ => .raise e) .raise id id) id id (start N (vs ++ dvs)) _ ρ w1 m1 oc P (by show (a, go) ∈ Xg.pn; rw [G.pn]; exact List.mem_singleton.mpr rfl)
        ⟨fun q hq => (by cases hq), G.over, rfl, rfl, rfl⟩ rfl stg (start_er r1) e2 ?_
      have done : ∀ {n : Nat} {s₀ s' : Shared} {w' : Wd} {σ' : L2.St} {κ : Ro} {m' : List R} {v : Value}, v = .none → GSt p [] σ' κ w' m' s' → o = .nx κ m' → RC p n s₀ (.ok (.ret v)) s' := fun {n s₀ s' w' σ' κ m' v} ev hst ho => by
        subst ev
        obtain ⟨sw, Hw, σc, Iw, hLw, Ec, Jw, Ww, xw⟩ := hst
        exact .inl ⟨.inl rfl, κ, m', w', σc, Ww, xw, across Iw P.outer P.prog P.w hLw P.g P.hy P.hyl P.hyc P.hyp Jw, Ec, ho⟩
      cases oc with
      | nx ρ' κ m' c => cases e1; exact fun n s₀ s' w' σ' x' hn' hst _ => seg_end (.ok (.ret .none)) (done (n := n) (s₀ := s₀) rfl hst rfl)
      | rt κ m' c => cases e1; exact fun n s₀ s' w' σ' x' hn' hst => seg_end (.ok (.ret .none)) (done (n := n) (s₀ := s₀) rfl hst rfl)
      | bk ρ' κ m' c => cases e1
      | ct ρ' κ m' c => cases e1
      | st so => cases e1; rfl
  rintro n s3 ⟨hg3, hl3, gs, hgs, hgo⟩
  refine nextG (F := fun _ _ s => ∃ κ m w σc, Wf C.T w m ∧ Ext w1 w ∧ Inv X pins σc w.H s ∧ ER C.T w σc κ ∧ o = .nx κ m) hh hl3 ok.room.depth hg3 hgs hgo (fun v s₁ gs' hA hbare hlt hY => ?_) fun s₁ hF h' hkk => ?_
  · obtain ⟨c, d, xv, w', m', κ, σc, gp, oc, hnn, rv, rd, W', x', I', E', hgp, hcb, hoc⟩ := hY
    obtain ⟨kk, ll, cc, pp', fs, cl, rfl⟩ := hA
    have gat : ∀ {s' : Shared} {σ' : L2.St} {H' : Hp}, Inv X (pins ++ gp) σ' H' s' → s'.heap.get? a = some go := fun I => (I.pin (a, go) (List.mem_append_right _ (List.mem_append_right _ hgp))).1
    have b4 : AllBare (s₁.setGen g (.suspended kk ll cc pp' fs cl)).gens := allBare_setGen I'.bare hbare
    have I4 : Inv X (pins ++ gp) σc w'.H (s₁.setGen g (.suspended kk ll cc pp' fs cl)) := Inv.regen I' b4
    have hgs4 : (s₁.setGen g (.suspended kk ll cc pp' fs cl)).gens[g]? = some (.suspended kk ll cc pp' fs cl) := set_get hlt
    refine go_of (gat I4) hgc hgd (by decide) ?_
    have stp : ∃ ρ', setG gt d κ = some ρ' ∧ evSs C.g b ρ' m' = some oc := by
      have hcb : bodyD gt (evSs C.g b) d κ m' = some oc := hcb
      unfold bodyD at hcb
      split at hcb
      · exact ⟨_, by assumption, hcb⟩
      · cases hcb
    obtain ⟨ρ', e4, e5⟩ := stp
    have I5 : Inv X.nox (pins ++ gp) σc w'.H { s₁.setGen g (.suspended kk ll cc pp' fs cl) with gens := (s₁.setGen g (.suspended kk ll cc pp' fs cl)).gens.map poison } := (Inv.regen I4 (bare_poison b4)).wish _
    refine keepsG hgs4 ((pg X.nox ok.toOk.calm').run _ _ σc w'.H xv v (fun σ' H' => ∃ w4, w4.H = H' ∧ Ext w' w4 ∧ Wf C.T w4 m' ∧ ER C.T w4 σ' ρ') I5 rv (rg σc w' κ ρ' m' xv d _ W' E' rd e4 fun σ4 E4 _ => ⟨w', rfl, Ext.refl _, W', E4⟩)) (fun _ b ga hq hbb hgb => ?_) fun _ _ _ z => z.elim
    obtain ⟨σ6, H6, I6, w4, rfl, x4, W4, E6⟩ := hq
    have bb : AllBare b.gens := hbb I6.bare
    have I6' : Inv X (pins ++ gp) σ6 w4.H b := Inv.regen' I6.unwish bb
    have I7 : Inv X.nox (pins ++ gp) σ6 w4.H { b with gens := b.gens.map poison } := (Inv.regen I6' (bare_poison bb)).wish _
    refine keepsG hgb ((pb X.nox ok.calm').run _ _ σ6 w4.H
      { nx := fun σ' H' => ∃ w5 ρ1 m5, w5.H = H' ∧ Ext w4 w5 ∧ Wf C.T w5 m5 ∧ ER C.T w5 σ' ρ1 ∧ oc = .nx ρ1 m5
        rt := fun v H' => ∃ w5 d m5, w5.H = H' ∧ Ext w4 w5 ∧ Wf C.T w5 m5 ∧ Rep C.T w5.Hs w5.al v d ∧ oc = .rt d m5
        bk := fun σ' H' => ∃ w5 ρ1 m5, w5.H = H' ∧ Ext w4 w5 ∧ Wf C.T w5 m5 ∧ ER C.T w5 σ' ρ1 ∧ oc = .bk ρ1 m5
        ct := fun σ' H' => ∃ w5 ρ1 m5, w5.H = H' ∧ Ext w4 w5 ∧ Wf C.T w5 m5 ∧ ER C.T w5 σ' ρ1 ∧ oc = .ct ρ1 m5 } I7 (rb σ6 w4 ρ' m' _ oc W4 E6 e5 ?_)) (fun fl b2 ga2 hq2 hbb2 hgb2 => ?_) fun _ _ _ z => z.elim
    · cases oc with
      | nx ρ1 m5 => exact fun w5 σ5 x5 W5 E5 => ⟨w5, _, _, rfl, x5, W5, E5, rfl⟩
      | rt d5 m5 => exact fun w5 v5 x5 W5 r5 => ⟨w5, _, _, rfl, x5, W5, r5, rfl⟩
      | bk ρ1 m5 => exact fun w5 σ5 x5 W5 E5 => ⟨w5, _, _, rfl, x5, W5, E5, rfl⟩
      | ct ρ1 m5 => exact fun w5 σ5 x5 W5 E5 => ⟨w5, _, _, rfl, x5, W5, E5, rfl⟩
      | ex z ρ1 m5 => exact hoc.elim
    have hx5 : ∀ {w5 : Wd}, Ext w4 w5 → Ext w1 w5 := fun x5 => (x'.trans (x4.trans x5 W4) W')
    have fin : ∀ {σ5 : L2.St} {w5 : Wd}, Inv X.nox (pins ++ gp) σ5 w5.H { b2 with gens := ga2 } → AllBare b2.gens ∧ Inv X (pins ++ gp) σ5 w5.H b2 ∧ Inv X pins σ5 w5.H b2 := fun {σ5 w5} J => by
      have q1 := hbb2 J.bare
      have q2 : Inv X (pins ++ gp) σ5 w5.H b2 := Inv.regen' J.unwish q1
      exact ⟨q1, q2, q2.unpinned⟩
    have on : ∀ {σ5 : L2.St} {w5 : Wd}, Inv X.nox (pins ++ gp) σ5 w5.H { b2 with gens := ga2 } → (∀ I : Inv X (pins ++ gp) σ5 w5.H (b2.setGen g .running), (match (generalizing := false) n with | 0 => False | m + 1 => (GenState.suspended kk ll cc pp' fs cl).Goes (model X.prog X.w) X.A.in1 (RC p) (YC p a go) m (.send .none) (b2.setGen g .running))) →
        ∃ m, m < n ∧ b2.heap.IsGen a g ∧ b2.heap.NoLimit ∧ ∃ gs, b2.gens[g]? = some gs ∧ gs.Goes (model X.prog X.w) X.A.in1 (RC p) (YC p a go) m (.send .none) (b2.setGen g .running) := fun {σ5 w5} J hgo => by
      obtain ⟨q1, q2, q3⟩ := fin J
      have hgo := hgo (Inv.regen q2 (allBare_setGen q1 rfl))
      cases n with
      | zero => exact hgo.elim
      | succ n => exact ⟨n, Nat.lt_succ_self _, G.isGen _ (gat q2), q3.nolimit, _, hgb2, hgo⟩
    cases fl with
    | next =>
      obtain ⟨σ5, H5, J, w5, ρ1, m5, rfl, x5, W5, E5, rfl⟩ := hq2
      exact on J fun I => hoc _ w5 σ5 (x4.trans x5 W4) W5 I E5
    | cont =>
      obtain ⟨σ5, H5, J, w5, ρ1, m5, rfl, x5, W5, E5, rfl⟩ := hq2
      exact on J fun I => hoc _ w5 σ5 (x4.trans x5 W4) W5 I E5
    | brk =>
      obtain ⟨σ5, H5, J, w5, ρ1, m5, rfl, x5, W5, E5, rfl⟩ := hq2
      have ho : o = .nx ρ1 m5 := hoc
      subst ho
      exact ⟨σ5, w5.H, (fin J).2.2, pp w5 σ5 (x1.trans (hx5 x5) W1) W5 E5⟩
    | ret u =>
      obtain ⟨v5, σ5, H5, J, rv5, w5, d5, m5, rfl, x5, W5, r5, rfl⟩ := hq2
      have ho : o = .rt d5 m5 := hoc
      subst ho
      exact ⟨v5, σ5, w5.H, (fin J).2.2, rv5, pp w5 v5 (x1.trans (hx5 x5) W1) W5 r5⟩
  · obtain ⟨κ, m', w', σc, W', x', I', E', rfl⟩ := hF
    refine wpAny_execs_nil ⟨σc, w'.H, ?_, pp w' σc (x1.trans x' W1) W' E'⟩
    have I'' : Inv X pins σc w'.H (s₁.setGen g .finished) := Inv.regen I' (allBare_setGen I'.bare rfl)
    exact Inv.kept (s' := { s₁.setGen g .finished with heap := h' }) I'' rfl I''.bare hkk
end Dv

namespace Dv
open PySem PySem.Spec PyProof.Rows L2

/-! ### generators with their consumers, step by step -/
theorem runFor_eq (g : Gt) (N : Nat) (b : GB) (cb : CB) (ds : List D) (κ : Ro) (m : List R) : runFor g N b cb ds κ m = endF (evC g cb b (ds.map some ++ List.replicate (N - ds.length) none) κ m 0) := rfl
theorem endF_nx (ρ κ : Ro) (m : List R) (c : Nat) : endF (some (.nx ρ κ m c)) = some (.nx κ m) := rfl
theorem endF_rt (κ : Ro) (m : List R) (c : Nat) : endF (some (.rt κ m c)) = some (.nx κ m) := rfl
theorem endF_st (o : SO) : endF (some (.st o)) = some o := rfl
section
variable (g : Gt) (cb : CB) (ρ κ : Ro) (m : List R) (c : Nat)
theorem c_nil : evC g cb .nil ρ κ m c = some (.nx ρ κ m c) := rfl
theorem c_plain (s : S) (r : GB) : evC g cb (.plain s r) ρ κ m c = plnC (evC g cb r) κ c (evS g s ρ m) := rfl
theorem c_yld (e : E) (r : GB) : evC g cb (.yld e r) ρ κ m c = yldC cb (evC g cb r) ρ κ c (evE g e ρ m) := rfl
theorem c_forr (tg : G) (it : It) (b r : GB) : evC g cb (.forr tg it b r) ρ κ m c = thnC (evC g cb r) (itC (fun xs m => forC (bodyC tg (evC g cb b)) xs ρ κ m c) (evI g it ρ m)) := rfl
theorem c_whl (n : Nat) (cnd : E) (b r : GB) : evC g cb (.whl n cnd b r) ρ κ m c = thnC (evC g cb r) (whlC (evE g cnd) (evC g cb b) n ρ κ m c) := rfl
theorem plnC_nx (k : GF) : plnC k κ c (some (.nx ρ m)) = k ρ κ m c := rfl
theorem plnC_rt (k : GF) : plnC k κ c (some (.rt .non m)) = some (.rt κ m c) := rfl
theorem thnC_nx (k : GF) : thnC k (some (.nx ρ κ m c)) = k ρ κ m c := rfl
theorem thnC_st (k : GF) (o : SO) : thnC k (some (.st o)) = some (.st o) := rfl
theorem itC_fix (k : List D → List R → Option GCO) (xs : List D) : itC k (some (.ok (.fix xs) m)) = k xs m := rfl
theorem outC_nx (k : GF) (κ' : Ro) : outC k ρ c (some (.nx κ' m)) = k ρ κ' m c := rfl
theorem outC_ct (k : GF) (κ' : Ro) : outC k ρ c (some (.ct κ' m)) = k ρ κ' m c := rfl
theorem outC_bk (k : GF) (κ' : Ro) : outC k ρ c (some (.bk κ' m)) = some (.st (.nx κ' m)) := rfl
theorem outC_rt (k : GF) (d : D) : outC k ρ c (some (.rt d m)) = some (.st (.rt d m)) := rfl
end
theorem yldC_ok {cb : CB} {k : GF} {ρ κ : Ro} {c : Nat} {d : D} {m : List R} (h : c ≤ 16000000) : yldC cb k ρ κ c (some (.ok d m)) = outC k ρ (c + 1) (cb d κ m) := if_pos (by rw [sizeLine_eq]; omega)
def envC2 (k : Ro → Option GCO) : Option Ro → Option GCO
  | some ρ => k ρ
  | none => none
theorem envC2_ok (k : Ro → Option GCO) (ρ : Ro) : envC2 k (some ρ) = k ρ := rfl
theorem c_body (t : G) (k : GF) (d : D) (ρ κ : Ro) (m : List R) (c : Nat) : bodyC t k d ρ κ m c = envC2 (fun ρ' => k ρ' κ m c) (setG t d ρ) := by
  unfold bodyC envC2
  cases setG t d ρ <;> rfl
theorem y_forg (g : Gt) (ρ : Ro) (m : List R) (i : Nat) (xs : Es) (t : G) (b : Ss) : evS g (.forg i xs t b) ρ m = bndLS (evL g xs ρ m) ρ fun ds m => g.gfr i (bodyD t (evSs g b)) ds ρ m := by rw [evS]
/-- a while loop of a generator, at most K items -/
theorem whlC_run {cnd : Ro → List R → Option Rs} {t : GF} (P : Nat → Ro → Ro → List R → Nat → Prop) (Q : SO → Prop) (K : Nat) (hs : ∀ i ρ κ m c, i < K → P i ρ κ m c → cnd ρ m = some (.ok (.bl true) m) ∧ ((∃ ρ' κ' m' c', t ρ κ m c = some (.nx ρ' κ' m' c') ∧ P (i + 1) ρ' κ' m' c') ∨ ∃ o, t ρ κ m c = some (.st o) ∧ Q o))
    (he : ∀ ρ κ m c, P K ρ κ m c → cnd ρ m = some (.ok (.bl false) m)) : ∀ (n i : Nat) {ρ κ : Ro} {m : List R} {c : Nat}, i ≤ K → K < n + i → P i ρ κ m c → (∃ ρ' κ' m' c', whlC cnd t n ρ κ m c = some (.nx ρ' κ' m' c') ∧ P K ρ' κ' m' c') ∨ ∃ o, whlC cnd t n ρ κ m c = some (.st o) ∧ Q o
  | 0, i, ρ, κ, m, c, h1, h2, _ => by omega
  | n + 1, i, ρ, κ, m, c, h1, h2, p => by
    by_cases hi : i = K
    · subst hi
      refine .inl ⟨ρ, κ, m, c, ?_, p⟩
      unfold whlC
      rw [he ρ κ m c p]
    · obtain ⟨e1, e2⟩ := hs i ρ κ m c (by omega) p
      rcases e2 with ⟨ρ1, κ1, m1, c1, e2, p1⟩ | ⟨o, e2, q⟩
      · rcases whlC_run P Q K hs he n (i + 1) (by omega) (by omega) p1 with ⟨ρ2, κ2, m2, c2, e3, p2⟩ | ⟨o, e3, q⟩
        · refine .inl ⟨ρ2, κ2, m2, c2, ?_, p2⟩
          unfold whlC
          rw [e1]
          simp only [e2, e3]
        · refine .inr ⟨o, ?_, q⟩
          unfold whlC
          rw [e1]
          simp only [e2, e3]
      · refine .inr ⟨o, ?_, q⟩
        unfold whlC
        rw [e1]
        simp only [e2]
theorem whlC_gen {cnd : Ro → List R → Option Rs} {t : GF} {n : Nat} {ρ κ : Ro} {m : List R} {c : Nat} {X : Option GCO} (hX : whlC cnd t n ρ κ m c = X) (P : Nat → Ro → Ro → List R → Nat → Prop) (Q : SO → Prop) (K : Nat) (hn : K < n) (h0 : P 0 ρ κ m c)
    (hs : ∀ i ρ κ m c, i < K → P i ρ κ m c → cnd ρ m = some (.ok (.bl true) m) ∧ ((∃ ρ' κ' m' c', t ρ κ m c = some (.nx ρ' κ' m' c') ∧ P (i + 1) ρ' κ' m' c') ∨ ∃ o, t ρ κ m c = some (.st o) ∧ Q o))
    (he : ∀ ρ κ m c, P K ρ κ m c → cnd ρ m = some (.ok (.bl false) m)) : (∃ ρ' κ' m' c', X = some (.nx ρ' κ' m' c') ∧ P K ρ' κ' m' c') ∨ ∃ o, X = some (.st o) ∧ Q o := by
  rw [← hX]
  exact whlC_run P Q K hs he n 0 (Nat.zero_le _) (by omega) h0
/-- a while loop of a generator that is turned into a list -/
theorem whlG_run {cnd : Ro → List R → Option Rs} {t : Ro → List R → List D → Option GO} (P : Nat → Ro → List R → List D → Prop) (K : Nat) (hs : ∀ i ρ m ys, i < K → P i ρ m ys → cnd ρ m = some (.ok (.bl true) m) ∧ ∃ ρ' m' ys', t ρ m ys = some (.nx ρ' m' ys') ∧ P (i + 1) ρ' m' ys')
    (he : ∀ ρ m ys, P K ρ m ys → cnd ρ m = some (.ok (.bl false) m)) : ∀ (n i : Nat) {ρ : Ro} {m : List R} {ys : List D}, i ≤ K → K < n + i → P i ρ m ys → ∃ ρ' m' ys', whlG cnd t n ρ m ys = some (.nx ρ' m' ys') ∧ P K ρ' m' ys'
  | 0, i, ρ, m, ys, h1, h2, _ => by omega
  | n + 1, i, ρ, m, ys, h1, h2, p => by
    by_cases hi : i = K
    · subst hi
      refine ⟨ρ, m, ys, ?_, p⟩
      unfold whlG
      rw [he ρ m ys p]
    · obtain ⟨e1, ρ1, m1, ys1, e2, p1⟩ := hs i ρ m ys (by omega) p
      obtain ⟨ρ2, m2, ys2, e3, p2⟩ := whlG_run P K hs he n (i + 1) (by omega) (by omega) p1
      refine ⟨ρ2, m2, ys2, ?_, p2⟩
      unfold whlG
      rw [e1]
      simp only [e2, e3]
theorem whlG_gen {cnd : Ro → List R → Option Rs} {t : Ro → List R → List D → Option GO} {n : Nat} {ρ : Ro} {m : List R} {ys : List D} {X : Option GO} (hX : whlG cnd t n ρ m ys = X) (P : Nat → Ro → List R → List D → Prop) (K : Nat) (hn : K < n) (h0 : P 0 ρ m ys) (hs : ∀ i ρ m ys, i < K → P i ρ m ys → cnd ρ m = some (.ok (.bl true) m) ∧ ∃ ρ' m' ys', t ρ m ys = some (.nx ρ' m' ys') ∧ P (i + 1) ρ' m' ys')
    (he : ∀ ρ m ys, P K ρ m ys → cnd ρ m = some (.ok (.bl false) m)) : ∃ ρ' m' ys', X = some (.nx ρ' m' ys') ∧ P K ρ' m' ys' := by
  rw [← hX]
  exact whlG_run P K hs he n 0 (Nat.zero_le _) (by omega) h0
theorem isi_resL {m : List R} {j : Nat} {xs : List D} (h : m[j]? = some (.lst xs)) (ts : List Ty) : isiD m (.res j) ts = some (ts.any (tyIs .list)) := by
  unfold isiD tyD
  simp only [h, Option.map_some]
/-! ### sorted(set(..)) -/
theorem asInts_ints : ∀ l : List Int, asInts (l.map D.int) = some l
  | [] => rfl
  | x :: l => by simp only [List.map_cons, asInts, asInts_ints l, Option.map_some]
theorem z_sst {mu : Bool} {m : List R} {a : D} {ns : List Int} (h : lsq m a = some (ns.map .int)) (h1 : ns.length ≤ 4000) (h2 : (dd ns).length < 64) : sstD mu m a = some (newL mu m ((ssI ns).map .int)) := by
  unfold sstD
  simp only [h, asInts_ints]
  rw [if_pos ⟨h1, h2⟩]
theorem sortI_perm (l : List Int) : (sortI l).Perm l := List.mergeSort_perm _ _
theorem ssI_mem {l : List Int} {x : Int} : x ∈ ssI l ↔ x ∈ l := by
  unfold ssI
  rw [(sortI_perm _).mem_iff, mem_dd]
theorem sortI_sorted (l : List Int) : (sortI l).Pairwise (· ≤ ·) := by
  have := List.pairwise_mergeSort (le := fun a b : Int => decide (a ≤ b)) (fun a b c => by simp; omega) (fun a b => by simp; omega) l
  exact this.imp fun {a b} h => by simpa using h
theorem ssI_congr {l k : List Int} (h : ∀ x, x ∈ l ↔ x ∈ k) : ssI l = ssI k := by
  unfold ssI
  refine sortI_uniq (((sortI_perm _).trans ?_)) (sortI_sorted _)
  exact (List.perm_ext_iff_of_nodup (nodup_dd l) (nodup_dd k)).mpr fun x => by rw [mem_dd, mem_dd]; exact h x
theorem dd_cast : ∀ l : List Nat, dd (l.map fun (n : Nat) => (n : Int)) = ((dd (l.map fun (n : Nat) => (n : Int))).map Int.toNat).map fun (n : Nat) => (n : Int) := fun l => by
  rw [List.map_map]
  refine (List.map_id _).symm.trans (List.map_congr_left fun x hx => ?_)
  obtain ⟨n, _, rfl⟩ := List.mem_map.mp (mem_dd.mp hx)
  rfl
theorem ssI_len_perm {l k : List Int} (h : ∀ x, x ∈ l ↔ x ∈ k) : (dd l).length = (dd k).length :=
  ((List.perm_ext_iff_of_nodup (nodup_dd l) (nodup_dd k)).mpr fun x => by rw [mem_dd, mem_dd]; exact h x).length_eq
theorem dd_sub : ∀ l : List Int, (dd l).Sublist l
  | [] => .slnil
  | x :: l => by
    unfold dd
    split
    · exact (dd_sub l).cons x
    · exact (dd_sub l).cons_cons x
theorem eqD_resL {m : List R} {j : Nat} {xs : List D} (h : m[j]? = some (.lst xs)) (d : D) : eqD m (.res j) d = eqD m (.lst xs) d := by
  have e : pdR m (.res j) = pdR m (.lst xs) := by
    show (match m[j]? with | some (.lst xs) => (pdL m xs).map .list | _ => none) = pd m (.lst xs)
    rw [h]
    simp only [pd]
  unfold eqD
  rw [e]
end Dv

namespace Dv
open PySem
/-! tuple * int -/
theorem q_mulT {mu : Bool} {m : List R} {xs : List D} {k : Int} (h0 : 1 ≤ xs.length) (h1 : 2 ≤ k) (h2 : k ≤ 1000) (h3 : xs.length ≤ 1000) : bopD .mul mu m (.tup xs) (.int k) = some (.tup (List.replicate k.toNat xs).flatten, m) := by
  show (if xs.isEmpty = false ∧ 2 ≤ k ∧ k ≤ 1000 ∧ xs.length ≤ 1000 then some (D.tup (List.replicate k.toNat xs).flatten, m) else none) = _
  refine if_pos ⟨?_, h1, h2, h3⟩
  cases xs with
  | nil => cases h0
  | cons _ _ => rfl
end Dv

namespace Mt
variable {α β : Type}
theorem get_ex {l : List α} {i n : Nat} (hl : l.length = n) (hi : i < n) : ∃ x, l[i]? = some x := ⟨_, List.getElem?_eq_getElem (by omega)⟩
/-! ### one mug put under d others; a sink put back; a wash -/
def ins (d : Nat) (x : α) (l : List α) : List α := l.take d ++ x :: l.drop d
def putB (acc : List α) : List (α × Nat) → List α
  | [] => acc
  | (x, d) :: r => putB (ins d x acc) r
def wash (h : List Nat) (xs : List α) : List α := putB (xs.drop h.length) ((xs.take h.length).zip h)
theorem ins_len (d : Nat) (x : α) (l : List α) : (ins d x l).length = l.length + 1 := by
  unfold ins
  rw [List.length_append, List.length_cons, List.length_take, List.length_drop]
  omega
theorem ins_perm (d : Nat) (x : α) (l : List α) : (ins d x l).Perm (x :: l) := by
  unfold ins
  refine List.perm_middle.trans ?_
  rw [List.take_append_drop]
theorem mem_ins {d : Nat} {x y : α} {l : List α} : y ∈ ins d x l ↔ y = x ∨ y ∈ l := by
  rw [(ins_perm d x l).mem_iff, List.mem_cons]
theorem ins_map (f : α → β) (d : Nat) (x : α) (l : List α) : ins d (f x) (l.map f) = (ins d x l).map f := by
  unfold ins
  rw [List.map_append, List.map_cons, List.map_take, List.map_drop]
theorem putB_len : ∀ (l : List (α × Nat)) (acc : List α), (putB acc l).length = acc.length + l.length
  | [], _ => rfl
  | (x, d) :: r, acc => by
    rw [putB, putB_len r, ins_len, List.length_cons]
    omega
theorem putB_snoc : ∀ (l : List (α × Nat)) (acc : List α) (x : α) (d : Nat), putB acc (l ++ [(x, d)]) = ins d x (putB acc l)
  | [], _, _, _ => rfl
  | (y, e) :: r, acc, x, d => by
    rw [List.cons_append, putB, putB_snoc r]
    rfl
theorem putB_perm : ∀ (l : List (α × Nat)) (acc : List α), (putB acc l).Perm (acc ++ l.map (·.1))
  | [], acc => by simp [putB]
  | (x, d) :: r, acc => by
    rw [putB]
    refine (putB_perm r _).trans ?_
    refine ((ins_perm d x acc).append_right _).trans ?_
    rw [List.map_cons]
    exact List.perm_middle.symm
theorem putB_map (f : α → β) : ∀ (l : List (α × Nat)) (acc : List α), putB (acc.map f) (l.map (Prod.map f id)) = (putB acc l).map f
  | [], _ => rfl
  | (x, d) :: r, acc => by
    rw [List.map_cons]
    show putB (ins d (f x) (acc.map f)) _ = _
    rw [ins_map, putB_map f r, putB]
theorem wash_map (f : α → β) (h : List Nat) (xs : List α) : wash h (xs.map f) = (wash h xs).map f := by
  unfold wash
  rw [← putB_map, ← List.map_drop, ← List.map_take, List.zip_map_left]
theorem wash_perm {h : List Nat} {xs : List α} (hl : h.length ≤ xs.length) : (wash h xs).Perm xs := by
  unfold wash
  refine (putB_perm _ _).trans ?_
  rw [List.map_fst_zip (by rw [List.length_take]; omega)]
  refine List.perm_append_comm.trans ?_
  rw [List.take_append_drop]
theorem wash_len {h : List Nat} {xs : List α} (hl : h.length ≤ xs.length) : (wash h xs).length = xs.length := (wash_perm hl).length_eq
theorem wash_get (h : List Nat) (xs : List α) (j : Nat) : (wash h xs)[j]? = ((wash h (List.range xs.length))[j]?).bind (xs[·]?) := by
  have e : (List.range xs.length).map (fun i => xs[i]?) = xs.map some := by
    apply List.ext_getElem?
    intro i
    rw [List.getElem?_map, List.getElem?_map]
    by_cases hi : i < xs.length
    · simp [hi]
    · simp [hi]
  have k := wash_map some h xs
  rw [← e, wash_map] at k
  have k2 := congrArg (·[j]?) k
  simp only [List.getElem?_map] at k2
  cases q : (wash h (List.range xs.length))[j]? with
  | none =>
    rw [q] at k2
    cases r : (wash h xs)[j]? with
    | none => rfl
    | some y => rw [r] at k2; cases k2
  | some p =>
    rw [q] at k2
    cases r : (wash h xs)[j]? with
    | none => rw [r] at k2; cases k2
    | some y =>
      rw [r] at k2
      have k3 : xs[p]? = some y := Option.some.inj k2
      exact k3.symm

/-! ### permutations of places -/
def IsP (n : Nat) (ps : List Nat) : Prop := ps.Perm (List.range n)
theorem IsP.len {n : Nat} {ps : List Nat} (h : IsP n ps) : ps.length = n := by
  have := List.Perm.length_eq h
  rwa [List.length_range] at this
theorem IsP.lt {n : Nat} {ps : List Nat} (h : IsP n ps) {p : Nat} (hp : p ∈ ps) : p < n := List.mem_range.mp ((List.Perm.mem_iff h).mp hp)
theorem IsP.mem {n : Nat} {ps : List Nat} (h : IsP n ps) {p : Nat} (hp : p < n) : p ∈ ps := (List.Perm.mem_iff h).mpr (List.mem_range.mpr hp)
theorem IsP.nd {n : Nat} {ps : List Nat} (h : IsP n ps) : ps.Nodup := (List.Perm.nodup_iff h).mpr List.nodup_range
theorem IsP.range (n : Nat) : IsP n (List.range n) := List.Perm.refl _
theorem IsP.idx {n : Nat} {ps : List Nat} (h : IsP n ps) {p : Nat} (hp : p < n) : ps.idxOf p < n ∧ ps[ps.idxOf p]? = some p := by
  have hm := h.mem hp
  have hl := List.idxOf_lt_length_of_mem hm
  refine ⟨by rw [← h.len]; exact hl, ?_⟩
  rw [List.getElem?_eq_getElem hl, List.getElem_idxOf hl]
/-- at which place each number stands -/
def inv (ps : List Nat) : List Nat := (List.range ps.length).map fun p => ps.idxOf p
theorem inv_len (ps : List Nat) : (inv ps).length = ps.length := by simp [inv]
theorem inv_get {ps : List Nat} {p : Nat} (h : p < ps.length) : (inv ps)[p]? = some (ps.idxOf p) := by
  unfold inv
  rw [List.getElem?_map, List.getElem?_range h]
  rfl
theorem nodup_lt_len : ∀ {n : Nat} {l : List Nat}, l.Nodup → (∀ x ∈ l, x < n) → l.length ≤ n
  | 0, l, _, h => by
    cases l with
    | nil => simp
    | cons x r => exact absurd (h x List.mem_cons_self) (by omega)
  | n + 1, l, nd, h => by
    have h1 := nodup_lt_len (n := n) (nd.erase n) fun x hx => by
      have := (nd.mem_erase_iff).mp hx
      have := h x this.2
      omega
    rw [List.length_erase] at h1
    split at h1 <;> omega
theorem isP_of {n : Nat} {ps : List Nat} (nd : ps.Nodup) (hl : ps.length = n) (hlt : ∀ p ∈ ps, p < n) : IsP n ps := by
  refine (List.perm_ext_iff_of_nodup nd List.nodup_range).mpr fun a => ⟨fun h => List.mem_range.mpr (hlt a h), fun h => ?_⟩
  have ha := List.mem_range.mp h
  apply Classical.byContradiction
  intro hn
  have h1 := nodup_lt_len (n := n) (l := a :: ps) (List.nodup_cons.mpr ⟨hn, nd⟩) fun x hx => by
    rcases List.mem_cons.mp hx with e | e
    · omega
    · exact hlt x e
  rw [List.length_cons] at h1
  omega
theorem inv_isP {n : Nat} {ps : List Nat} (h : IsP n ps) : IsP n (inv ps) := by
  refine isP_of ?_ (by rw [inv_len, h.len]) fun p hp => ?_
  · unfold inv
    refine List.pairwise_map.mpr (List.Pairwise.imp_of_mem ?_ List.nodup_range)
    intro a b ha hb hab e
    have ha' := List.mem_range.mp ha
    have hb' := List.mem_range.mp hb
    rw [h.len] at ha' hb'
    have h1 := (h.idx ha').2
    have h2 := (h.idx hb').2
    rw [e] at h1
    rw [h1] at h2
    exact hab (Option.some.inj h2)
  · unfold inv at hp
    obtain ⟨q, hq, rfl⟩ := List.mem_map.mp hp
    have hq' := List.mem_range.mp hq
    rw [h.len] at hq'
    exact (h.idx hq').1
theorem idxOf_of_get : ∀ {l : List Nat} {i p : Nat}, l.Nodup → l[i]? = some p → l.idxOf p = i
  | [], _, _, _, h => by simp at h
  | x :: l, 0, p, _, h => by
    have : x = p := by simpa using h
    rw [this]
    exact List.idxOf_cons_self
  | x :: l, i + 1, p, nd, h => by
    have h' : l[i]? = some p := by simpa using h
    have hm := List.mem_of_getElem? h'
    have hne : x ≠ p := fun e => (List.nodup_cons.mp nd).1 (by rw [e]; exact hm)
    rw [List.idxOf_cons, idxOf_of_get (List.nodup_cons.mp nd).2 h']
    have : (x == p) = false := beq_eq_false_iff_ne.mpr hne
    rw [this]
    rfl
theorem inv_inv {n : Nat} {ps : List Nat} (h : IsP n ps) : inv (inv ps) = ps := by
  apply List.ext_getElem?
  intro i
  by_cases hi : i < n
  · rw [inv_get (by rw [inv_len, h.len]; exact hi)]
    obtain ⟨x, h1⟩ := get_ex h.len hi
    rw [h1]
    congr 1
    refine idxOf_of_get (inv_isP h).nd ?_
    rw [inv_get (by rw [h.len]; exact h.lt (List.mem_of_getElem? h1))]
    congr 1
    exact idxOf_of_get h.nd h1
  · rw [List.getElem?_eq_none (by rw [inv_len, inv_len, h.len]; omega), List.getElem?_eq_none (by rw [h.len]; omega)]
/-- the inverse, number by number -/
def invN (ps : List Nat) : Nat → List Nat
  | 0 => List.replicate ps.length 0
  | i + 1 => match ps[i]? with
    | some g => (invN ps i).set g i
    | none => invN ps i
theorem invN_len (ps : List Nat) : ∀ i, (invN ps i).length = ps.length
  | 0 => List.length_replicate
  | i + 1 => by
    unfold invN
    split
    · rw [List.length_set, invN_len]
    · exact invN_len ps i
theorem invN_get {n : Nat} {ps : List Nat} (h : IsP n ps) : ∀ (i j p : Nat), j < i → ps[j]? = some p → (invN ps i)[p]? = some j
  | 0, j, p, hj, _ => by omega
  | i + 1, j, p, hj, hp => by
    unfold invN
    have hpl : p < ps.length := by rw [h.len]; exact h.lt (List.mem_of_getElem? hp)
    split
    · rename_i g hg
      by_cases e : j = i
      · subst e
        rw [hg] at hp
        cases hp
        exact List.getElem?_set_self (by rw [invN_len]; exact hpl)
      · rw [List.getElem?_set_ne, invN_get h i j p (by omega) hp]
        intro e2
        subst e2
        have h1 := idxOf_of_get h.nd hg
        have h2 := idxOf_of_get h.nd hp
        exact e (h2.symm.trans h1)
    · rename_i hg
      have h2 := List.getElem?_eq_none_iff.mp hg
      by_cases e : j = i
      · subst e
        rw [hg] at hp
        cases hp
      · exact invN_get h i j p (by omega) hp
theorem invN_inv {n : Nat} {ps : List Nat} (h : IsP n ps) : invN ps ps.length = inv ps := by
  apply List.ext_getElem?
  intro p
  by_cases hp : p < n
  · rw [inv_get (by rw [h.len]; exact hp)]
    exact invN_get h _ _ _ (by rw [h.len]; exact (h.idx hp).1) (h.idx hp).2
  · rw [List.getElem?_eq_none (by rw [invN_len, h.len]; omega), List.getElem?_eq_none (by rw [inv_len, h.len]; omega)]
/-- one map behind another -/
def fol (ps qs : List Nat) : List Nat := ps.map fun p => qs[p]?.getD 0
theorem fol_isP {n : Nat} {ps qs : List Nat} (h : IsP n ps) (k : IsP n qs) : IsP n (fol ps qs) := by
  refine isP_of ?_ (by unfold fol; rw [List.length_map, h.len]) fun p hp => ?_
  · unfold fol
    refine List.pairwise_map.mpr (List.Pairwise.imp_of_mem ?_ h.nd)
    intro a b ha hb hab e
    have ha' := h.lt ha
    have hb' := h.lt hb
    obtain ⟨x, h1⟩ := get_ex k.len ha'
    obtain ⟨y, h2⟩ := get_ex k.len hb'
    rw [h1, h2] at e
    have e : x = y := e
    have i1 := idxOf_of_get k.nd h1
    have i2 := idxOf_of_get k.nd h2
    rw [e] at i1
    omega
  · obtain ⟨q, hq, rfl⟩ := List.mem_map.mp hp
    have hq' := h.lt hq
    obtain ⟨x, h1⟩ := get_ex k.len hq'
    rw [h1]
    exact k.lt (List.mem_of_getElem? h1)
/-! ### the map of a wash -/
def mp (n : Nat) (h : List Nat) : List Nat := inv (wash h (List.range n))
theorem wash_isP {n : Nat} {h : List Nat} (hl : h.length ≤ n) : IsP n (wash h (List.range n)) := wash_perm (by rw [List.length_range]; exact hl)
theorem mp_isP {n : Nat} {h : List Nat} (hl : h.length ≤ n) : IsP n (mp n h) := inv_isP (wash_isP hl)
theorem mp_len {n : Nat} {h : List Nat} (hl : h.length ≤ n) : (mp n h).length = n := (mp_isP hl).len
/-- where a mug goes -/
theorem mp_spec {h : List Nat} {xs : List α} {p : Nat} (hl : h.length ≤ xs.length) (hp : p < xs.length) : (wash h xs)[(mp xs.length h)[p]?.getD 0]? = xs[p]? := by
  have w := wash_isP hl
  unfold mp
  rw [inv_get (by rw [w.len]; exact hp)]
  show (wash h xs)[(wash h (List.range xs.length)).idxOf p]? = _
  rw [wash_get, (w.idx hp).2]
  rfl
/-- many washes one after another -/
def washes (hs : List (List Nat)) (xs : List α) : List α := hs.foldl (fun xs h => wash h xs) xs
def wmap (n : Nat) (hs : List (List Nat)) : List Nat := hs.foldl (fun f h => fol f (mp n h)) (List.range n)
theorem washes_len : ∀ {hs : List (List Nat)} {xs : List α}, (∀ h ∈ hs, h.length ≤ xs.length) → (washes hs xs).length = xs.length
  | [], _, _ => rfl
  | h :: hs, xs, hl => by
    have e := wash_len (hl h List.mem_cons_self)
    show (washes hs (wash h xs)).length = _
    rw [washes_len (fun k hk => by rw [e]; exact hl k (List.mem_cons_of_mem _ hk)), e]
theorem washes_perm : ∀ {hs : List (List Nat)} {xs : List α}, (∀ h ∈ hs, h.length ≤ xs.length) → (washes hs xs).Perm xs
  | [], _, _ => List.Perm.refl _
  | h :: hs, xs, hl => by
    have e := wash_len (hl h List.mem_cons_self)
    show (washes hs (wash h xs)).Perm _
    exact (washes_perm (fun k hk => by rw [e]; exact hl k (List.mem_cons_of_mem _ hk))).trans (wash_perm (hl h List.mem_cons_self))
theorem washes_snoc (hs : List (List Nat)) (h : List Nat) (xs : List α) : washes (hs ++ [h]) xs = wash h (washes hs xs) := by
  unfold washes
  rw [List.foldl_append]
  rfl
theorem washes_app (hs ks : List (List Nat)) (xs : List α) : washes (hs ++ ks) xs = washes ks (washes hs xs) := by
  unfold washes
  rw [List.foldl_append]
theorem wmap_fold_isP {n : Nat} : ∀ {hs : List (List Nat)} {f : List Nat}, (∀ h ∈ hs, h.length ≤ n) → IsP n f → IsP n (hs.foldl (fun f h => fol f (mp n h)) f)
  | [], _, _, h => h
  | h :: hs, f, hl, k => wmap_fold_isP (hs := hs) (fun x hx => hl x (List.mem_cons_of_mem _ hx)) (fol_isP k (mp_isP (hl h List.mem_cons_self)))
theorem wmap_isP {n : Nat} {hs : List (List Nat)} (hl : ∀ h ∈ hs, h.length ≤ n) : IsP n (wmap n hs) := wmap_fold_isP hl (IsP.range n)
theorem wmap_fold {xs : List α} : ∀ {hs : List (List Nat)} {ys : List α} {f : List Nat} {p : Nat}, (∀ h ∈ hs, h.length ≤ xs.length) → IsP xs.length f → ys.length = xs.length → p < xs.length → ys[f[p]?.getD 0]? = xs[p]? → (washes hs ys)[(hs.foldl (fun f h => fol f (mp xs.length h)) f)[p]?.getD 0]? = xs[p]?
  | [], _, _, _, _, _, _, _, e => e
  | h :: hs, ys, f, p, hl, hf, hy, hp, e => by
    have h1 := hl h List.mem_cons_self
    refine wmap_fold (hs := hs) (ys := wash h ys) (f := fol f (mp xs.length h)) (fun x hx => hl x (List.mem_cons_of_mem _ hx)) (fol_isP hf (mp_isP h1)) (by rw [wash_len (by omega), hy]) hp ?_
    obtain ⟨q, e1⟩ := get_ex hf.len hp
    rw [e1] at e
    have hlt : q < xs.length := hf.lt (List.mem_of_getElem? e1)
    have e2 : (fol f (mp xs.length h))[p]? = some ((mp xs.length h)[q]?.getD 0) := by
      unfold fol
      rw [List.getElem?_map, e1]
      rfl
    rw [e2]
    show (wash h ys)[(mp xs.length h)[q]?.getD 0]? = _
    rw [← hy, mp_spec (by omega) (by omega)]
    exact e
theorem wmap_spec {hs : List (List Nat)} {xs : List α} {p : Nat} (hl : ∀ h ∈ hs, h.length ≤ xs.length) (hp : p < xs.length) : (washes hs xs)[(wmap xs.length hs)[p]?.getD 0]? = xs[p]? := by
  refine wmap_fold hl (IsP.range _) rfl hp ?_
  rw [List.getElem?_range hp]
  rfl
/-! ### a map many times -/
def itr (ps : List Nat) : Nat → Nat → Nat
  | 0, p => p
  | k + 1, p => ps[itr ps k p]?.getD 0
theorem itr_lt {n : Nat} {ps : List Nat} (h : IsP n ps) {p : Nat} (hp : p < n) : ∀ k, itr ps k p < n
  | 0 => hp
  | k + 1 => by
    obtain ⟨x, e⟩ := get_ex h.len (itr_lt h hp k)
    unfold itr
    rw [e]
    exact h.lt (List.mem_of_getElem? e)
theorem itr_add (ps : List Nat) (j p : Nat) : ∀ k, itr ps (j + k) p = itr ps k (itr ps j p)
  | 0 => rfl
  | k + 1 => by
    show ps[itr ps (j + k) p]?.getD 0 = _
    rw [itr_add ps j p k]
    rfl
theorem step_inj {n : Nat} {ps : List Nat} (h : IsP n ps) {p q : Nat} (hp : p < n) (hq : q < n) (e : ps[p]?.getD 0 = ps[q]?.getD 0) : p = q := by
  obtain ⟨x, h1⟩ := get_ex h.len hp
  obtain ⟨y, h2⟩ := get_ex h.len hq
  rw [h1, h2] at e
  have e : x = y := e
  have i1 := idxOf_of_get h.nd h1
  have i2 := idxOf_of_get h.nd h2
  rw [e] at i1
  omega
theorem itr_inj {n : Nat} {ps : List Nat} (h : IsP n ps) {p q : Nat} (hp : p < n) (hq : q < n) : ∀ k, itr ps k p = itr ps k q → p = q
  | 0, e => e
  | k + 1, e => itr_inj h hp hq k (step_inj h (itr_lt h hp k) (itr_lt h hq k) e)
/-- it comes back within n steps -/
theorem itr_back {n : Nat} {ps : List Nat} (h : IsP n ps) {p : Nat} (hp : p < n) : ∃ k, 0 < k ∧ k ≤ n ∧ itr ps k p = p := by
  apply Classical.byContradiction
  intro hn
  have key : ((List.range (n + 1)).map fun k => itr ps k p).Nodup := by
    refine List.pairwise_map.mpr (List.Pairwise.imp_of_mem ?_ List.pairwise_lt_range)
    intro a b ha hb hab e
    have hb' := List.mem_range.mp hb
    refine hn ⟨b - a, by omega, by omega, ?_⟩
    have e2 : b = (b - a) + a := by omega
    rw [e2, itr_add] at e
    exact (itr_inj h hp (itr_lt h hp _) a e).symm
  have := nodup_lt_len (n := n) key fun x hx => by
    obtain ⟨k, _, rfl⟩ := List.mem_map.mp hx
    exact itr_lt h hp k
  rw [List.length_map, List.length_range] at this
  omega
theorem itr_mod {ps : List Nat} {p k : Nat} (e : itr ps k p = p) (t : Nat) : itr ps (t % k) p = itr ps t p := by
  have h : ∀ q, itr ps (k * q) p = p := by
    intro q
    induction q with
    | zero => rfl
    | succ q ih => rw [Nat.mul_succ, itr_add, ih, e]
  conv => rhs; rw [← Nat.div_add_mod t k]
  rw [itr_add, h]
/-- after how many steps it comes back -/
def ord (ps : List Nat) (p : Nat) : Nat := ((List.range ps.length).find? fun k => itr ps (k + 1) p == p).getD 0 + 1
theorem ord_spec {n : Nat} {ps : List Nat} (h : IsP n ps) {p : Nat} (hp : p < n) : 0 < ord ps p ∧ ord ps p ≤ n ∧ itr ps (ord ps p) p = p ∧ ∀ k, 0 < k → k < ord ps p → itr ps k p ≠ p := by
  unfold ord
  cases e : (List.range ps.length).find? fun k => itr ps (k + 1) p == p with
  | none =>
    obtain ⟨k, h1, h2, h3⟩ := itr_back h hp
    have := List.find?_eq_none.mp e (k - 1) (List.mem_range.mpr (by rw [h.len]; omega))
    rw [show k - 1 + 1 = k by omega] at this
    simp [h3] at this
  | some k =>
    have e1 := List.find?_some e
    have e2 := List.mem_range.mp (List.mem_of_find?_eq_some e)
    rw [h.len] at e2
    refine ⟨Nat.succ_pos _, by show k + 1 ≤ n; omega, by simpa using e1, fun j h1 h2 e3 => ?_⟩
    have h2 : j < k + 1 := h2
    have e4 := (List.find?_range_eq_some.mp e).2.2 (j - 1) (by omega)
    rw [show j - 1 + 1 = j by omega] at e4
    simp [e3] at e4
/-- the places to which the map leads from p on -/
def cyc (ps : List Nat) (p : Nat) : List Nat := (List.range (ord ps p)).map fun k => itr ps k p
theorem cyc_len (ps : List Nat) (p : Nat) : (cyc ps p).length = ord ps p := by simp [cyc]
theorem cyc_get {n : Nat} {ps : List Nat} (h : IsP n ps) {p : Nat} (hp : p < n) (t : Nat) : (cyc ps p)[t % (cyc ps p).length]? = some (itr ps t p) := by
  obtain ⟨h1, h2, h3, _⟩ := ord_spec h hp
  rw [cyc_len]
  unfold cyc
  rw [List.getElem?_map, List.getElem?_range (Nat.mod_lt _ h1)]
  show some (itr ps (t % ord ps p) p) = _
  rw [itr_mod h3]
/-- a map many times -/
def pow (ps : List Nat) (t : Nat) : List Nat := (List.range ps.length).map fun p => itr ps t p
theorem pow_isP {n : Nat} {ps : List Nat} (h : IsP n ps) (t : Nat) : IsP n (pow ps t) := by
  refine isP_of ?_ (by unfold pow; rw [List.length_map, List.length_range, h.len]) fun p hp => ?_
  · unfold pow
    refine List.pairwise_map.mpr (List.Pairwise.imp_of_mem ?_ List.nodup_range)
    intro a b ha hb hab e
    have ha' := List.mem_range.mp ha
    have hb' := List.mem_range.mp hb
    rw [h.len] at ha' hb'
    exact hab (itr_inj h ha' hb' t e)
  · obtain ⟨q, hq, rfl⟩ := List.mem_map.mp hp
    have hq' := List.mem_range.mp hq
    rw [h.len] at hq'
    exact itr_lt h hq' t
theorem pow_get {n : Nat} {ps : List Nat} (h : IsP n ps) {p : Nat} (hp : p < n) (t : Nat) : (pow ps t)[p]? = some (itr ps t p) := by
  unfold pow
  rw [List.getElem?_map, List.getElem?_range (by rw [h.len]; exact hp)]
  rfl
/-- items put at the places of a map -/
def scat (ps : List Nat) (xs : List α) (ys : List α) : Nat → List α
  | 0 => ys
  | i + 1 => match ps[i]?, xs[i]? with
    | some g, some x => (scat ps xs ys i).set g x
    | _, _ => scat ps xs ys i
theorem scat_len (ps : List Nat) (xs ys : List α) : ∀ i, (scat ps xs ys i).length = ys.length
  | 0 => rfl
  | i + 1 => by
    unfold scat
    split
    · rw [List.length_set, scat_len]
    · exact scat_len ps xs ys i
theorem scat_get {n : Nat} {ps : List Nat} {xs ys : List α} (h : IsP n ps) (hx : xs.length = n) (hy : ys.length = n) : ∀ (i j p : Nat), j < i → ps[j]? = some p → (scat ps xs ys i)[p]? = xs[j]?
  | 0, j, p, hj, _ => by omega
  | i + 1, j, p, hj, hp => by
    unfold scat
    have hpl : p < n := h.lt (List.mem_of_getElem? hp)
    split
    · rename_i g x hg hx2
      by_cases e : j = i
      · subst e
        rw [hg] at hp
        cases hp
        rw [hx2]
        exact List.getElem?_set_self (by rw [scat_len, hy]; exact hpl)
      · rw [List.getElem?_set_ne, scat_get h hx hy i j p (by omega) hp]
        intro e2
        subst e2
        have h1 := idxOf_of_get h.nd hg
        have h2 := idxOf_of_get h.nd hp
        exact e (h2.symm.trans h1)
    · rename_i hg
      by_cases e : j = i
      · subst e
        have hj2 : j < n := by
          have := (List.getElem?_eq_some_iff.mp hp).1
          rw [h.len] at this
          exact this
        obtain ⟨x, hx2⟩ := get_ex hx hj2
        exact (hg p x hp hx2).elim
      · exact scat_get h hx hy i j p (by omega) hp
theorem scat_eq {n : Nat} {ps : List Nat} {xs ys zs : List α} (h : IsP n ps) (hx : xs.length = n) (hy : ys.length = n) (hz : zs.length = n) (e : ∀ (p g : Nat), ps[p]? = some g → zs[g]? = xs[p]?) : scat ps xs ys n = zs := by
  apply List.ext_getElem?
  intro j
  by_cases hj : j < n
  · obtain ⟨h1, h2⟩ := h.idx hj
    rw [scat_get h hx hy n _ _ h1 h2, e _ _ h2]
  · rw [List.getElem?_eq_none (by rw [scat_len, hy]; omega), List.getElem?_eq_none (by omega)]
theorem washes_itr {hs : List (List Nat)} {xs : List α} (hl : ∀ h ∈ hs, h.length ≤ xs.length) {p : Nat} (hp : p < xs.length) : ∀ t, (washes ((List.replicate t hs).flatten) xs)[itr (wmap xs.length hs) t p]? = xs[p]?
  | 0 => rfl
  | t + 1 => by
    have ih := washes_itr hl hp t
    have e : (List.replicate (t + 1) hs).flatten = (List.replicate t hs).flatten ++ hs := by
      rw [List.replicate_succ', List.flatten_append]
      simp
    have hl2 : ∀ h ∈ (List.replicate t hs).flatten, h.length ≤ xs.length := fun h hh => by
      obtain ⟨l, h1, h2⟩ := List.mem_flatten.mp hh
      rw [List.mem_replicate] at h1
      rw [h1.2] at h2
      exact hl h h2
    have l1 := washes_len hl2
    rw [e, washes_app]
    have := wmap_spec (hs := hs) (xs := washes (List.replicate t hs).flatten xs) (p := itr (wmap xs.length hs) t p) (by rw [l1]; exact hl) (by rw [l1]; exact itr_lt (wmap_isP hl) hp t)
    rw [l1, ih] at this
    exact this
/-! ### washers take turns -/
def rr (hs : List (List Nat)) (t : Nat) : List (List Nat) := (List.replicate (t / hs.length) hs).flatten ++ hs.take (t % hs.length)
/-- the shelf after t washes -/
def shelfAt (hs : List (List Nat)) (t : Nat) (xs : List α) : List α := washes (rr hs t) xs
theorem rr_mem {hs : List (List Nat)} {t : Nat} {h : List Nat} (hh : h ∈ rr hs t) : h ∈ hs := by
  unfold rr at hh
  rcases List.mem_append.mp hh with k | k
  · obtain ⟨l, h1, h2⟩ := List.mem_flatten.mp k
    rw [List.mem_replicate] at h1
    rw [h1.2] at h2
    exact h2
  · exact List.mem_of_mem_take k
theorem shelfAt_len {hs : List (List Nat)} {t : Nat} {xs : List α} (hl : ∀ h ∈ hs, h.length ≤ xs.length) : (shelfAt hs t xs).length = xs.length := washes_len fun h hh => hl h (rr_mem hh)
theorem shelfAt_perm {hs : List (List Nat)} {t : Nat} {xs : List α} (hl : ∀ h ∈ hs, h.length ≤ xs.length) : (shelfAt hs t xs).Perm xs := washes_perm fun h hh => hl h (rr_mem hh)
theorem div_mod_next {t L : Nat} (hl : t % L < L) : (t % L + 1 = L → (t + 1) / L = t / L + 1 ∧ (t + 1) % L = 0) ∧ (t % L + 1 ≠ L → (t + 1) / L = t / L ∧ (t + 1) % L = t % L + 1) := by
  have hd := Nat.div_add_mod t L
  have h0 : 0 < L := by omega
  constructor
  · intro hc
    have e : t + 1 = L * (t / L + 1) := by rw [Nat.mul_add]; omega
    constructor
    · exact Nat.div_eq_of_eq_mul_right h0 e
    · rw [e, Nat.mul_mod_right]
  · intro hc
    have e : t + 1 = t % L + 1 + L * (t / L) := by omega
    have e2 : t % L + 1 < L := by omega
    generalize t / L = q at e
    generalize t % L = r at e e2
    constructor
    · rw [e, Nat.add_mul_div_left _ _ h0, Nat.div_eq_of_lt e2, Nat.zero_add]
    · rw [e, Nat.add_mul_mod_self_left, Nat.mod_eq_of_lt e2]
theorem rr_succ {hs : List (List Nat)} {t : Nat} {h : List Nat} (e : hs[t % hs.length]? = some h) : rr hs (t + 1) = rr hs t ++ [h] := by
  have hl := (List.getElem?_eq_some_iff.mp e).1
  unfold rr
  by_cases hc : t % hs.length + 1 = hs.length
  · obtain ⟨h1, h2⟩ := (div_mod_next hl).1 hc
    rw [h1, h2, List.replicate_succ', List.flatten_append, List.take_zero, List.append_nil, List.append_assoc]
    congr 1
    rw [List.flatten_cons, List.flatten_nil, List.append_nil]
    have k : hs.take (t % hs.length + 1) = hs := by rw [hc, List.take_length]
    rw [List.take_add_one, e] at k
    exact k.symm
  · obtain ⟨h1, h2⟩ := (div_mod_next hl).2 hc
    rw [h1, h2, List.take_add_one, e, List.append_assoc]
    rfl
theorem shelfAt_succ {hs : List (List Nat)} {t : Nat} {h : List Nat} (xs : List α) (e : hs[t % hs.length]? = some h) : shelfAt hs (t + 1) xs = wash h (shelfAt hs t xs) := by
  unfold shelfAt
  rw [rr_succ e, washes_snoc]
theorem shelfAt_zero (hs : List (List Nat)) (xs : List α) : shelfAt hs 0 xs = xs := by
  unfold shelfAt rr
  simp [washes]
end Mt

namespace Mt
/-! ### the habit of a map -/
theorem pw_idx {L : List Nat} (nd : L.Nodup) : L.Pairwise fun a b => L.idxOf a < L.idxOf b := by
  refine List.pairwise_iff_getElem.mpr fun i j hi hj hij => ?_
  rw [idxOf_of_get nd (List.getElem?_eq_getElem hi), idxOf_of_get nd (List.getElem?_eq_getElem hj)]
  exact hij
theorem mem_take_idx {L : List Nat} (nd : L.Nodup) {y k : Nat} : y ∈ L.take k ↔ y ∈ L ∧ L.idxOf y < k := by
  constructor
  · intro h
    obtain ⟨i, hi⟩ := List.getElem?_of_mem h
    rw [List.getElem?_take] at hi
    split at hi
    · rename_i hk
      exact ⟨List.mem_of_getElem? hi, by rw [idxOf_of_get nd hi]; exact hk⟩
    · cases hi
  · rintro ⟨h1, h2⟩
    have hl := List.idxOf_lt_length_of_mem h1
    refine List.mem_of_getElem? (i := L.idxOf y) ?_
    rw [List.getElem?_take, if_pos h2, List.getElem?_eq_getElem hl, List.getElem_idxOf hl]
theorem filter_ins : ∀ {L : List Nat} {x : Nat} {P : Nat → Bool}, L.Nodup → x ∈ L → P x = false → L.filter (fun y => P y || y == x) = ins ((L.take (L.idxOf x)).filter P).length x (L.filter P)
  | [], _, _, _, h, _ => by cases h
  | y :: r, x, P, nd, hx, hp => by
    have nd' := List.nodup_cons.mp nd
    by_cases e : y = x
    · subst e
      have h1 : r.filter (fun z => P z || z == y) = r.filter P := by
        refine List.filter_congr fun z hz => ?_
        have : (z == y) = false := beq_eq_false_iff_ne.mpr fun e => nd'.1 (by rw [← e]; exact hz)
        rw [this, Bool.or_false]
      rw [List.filter_cons_of_pos (by simp), List.filter_cons_of_neg (by simp [hp]), h1, List.idxOf_cons_self]
      rfl
    · have hx' : x ∈ r := by
        rcases List.mem_cons.mp hx with h | h
        · exact absurd h.symm e
        · exact h
      have hb : (y == x) = false := beq_eq_false_iff_ne.mpr e
      have ix : (y :: r).idxOf x = r.idxOf x + 1 := by
        rw [List.idxOf_cons, hb]
        rfl
      rw [ix, List.take_succ_cons]
      have ih := filter_ins nd'.2 hx' hp
      cases hy : P y with
      | true =>
        rw [List.filter_cons_of_pos (by simp [hy]), List.filter_cons_of_pos (p := P) hy, List.filter_cons_of_pos (p := P) hy, ih]
        rfl
      | false =>
        rw [List.filter_cons_of_neg (by simp [hy, hb]), List.filter_cons_of_neg (p := P) (by simp [hy]), List.filter_cons_of_neg (p := P) (by simp [hy]), ih]
theorem idx_ins : ∀ {d x : Nat} {l : List Nat}, x ∉ l → d ≤ l.length → (ins d x l).idxOf x = d
  | 0, x, l, _, _ => by
    show (x :: l.drop 0).idxOf x = 0
    exact List.idxOf_cons_self
  | d + 1, x, [], _, h => by simp at h
  | d + 1, x, y :: l, hx, h => by
    have h1 : y ≠ x := fun e => hx (by rw [e]; exact List.mem_cons_self)
    have h2 := idx_ins (d := d) (x := x) (l := l) (fun k => hx (List.mem_cons_of_mem _ k)) (by simpa using h)
    have e : ins (d + 1) x (y :: l) = y :: ins d x l := rfl
    rw [e, List.idxOf_cons, beq_eq_false_iff_ne.mpr h1, h2]
    rfl
def pk (s k y : Nat) : Bool := decide (s ≤ y) || decide (y < k)
/-- the items of which the k-th is told how many lie above -/
def lay (s n k : Nat) : List Nat := List.range' s (n - s) ++ List.range k
/-- how many items lie above the k-th when it is put back -/
def dep (ps : List Nat) (s k : Nat) : Nat := ((lay s ps.length k).filter fun y => decide (ps[y]?.getD 0 < ps[k]?.getD 0)).length
/-- the habit that a map tells -/
def hab (ps : List Nat) (s : Nat) : List Nat := (List.range s).map fun k => dep ps s k
theorem lay_nd {s n k : Nat} (hk : k ≤ s) : (lay s n k).Nodup := by
  refine List.nodup_append.mpr ⟨List.nodup_range', List.nodup_range, fun a ha b hb e => ?_⟩
  have h1 := (List.mem_range'_1.mp ha).1
  have h2 := List.mem_range.mp hb
  omega
theorem lay_mem {s n k y : Nat} (hs : s ≤ n) (hk : k ≤ s) : y ∈ lay s n k ↔ y < n ∧ pk s k y = true := by
  unfold lay pk
  rw [List.mem_append, List.mem_range'_1, List.mem_range, Bool.or_eq_true, decide_eq_true_eq, decide_eq_true_eq]
  omega
theorem inv_getD {n : Nat} {L : List Nat} (h : IsP n L) {y : Nat} (hy : y < n) : (inv L)[y]?.getD 0 = L.idxOf y := by
  rw [inv_get (by rw [h.len]; exact hy)]
  rfl
/-- told by the list of the items -/
theorem dep_eq {n s k : Nat} {L : List Nat} (h : IsP n L) (hs : s ≤ n) (hk : k < s) : dep (inv L) s k = ((L.take (L.idxOf k)).filter (pk s k)).length := by
  unfold dep
  rw [inv_len, h.len]
  refine List.Perm.length_eq ((List.perm_ext_iff_of_nodup ((lay_nd (by omega)).filter _) ((h.nd.sublist (List.take_sublist _ _)).filter _)).mpr fun y => ?_)
  rw [List.mem_filter, List.mem_filter, lay_mem hs (by omega), mem_take_idx h.nd, decide_eq_true_eq]
  constructor
  · rintro ⟨⟨h1, h2⟩, h3⟩
    rw [inv_getD h h1, inv_getD h (by omega)] at h3
    exact ⟨⟨h.mem h1, h3⟩, h2⟩
  · rintro ⟨⟨h1, h2⟩, h3⟩
    have hy := h.lt h1
    refine ⟨⟨hy, h3⟩, ?_⟩
    rw [inv_getD h hy, inv_getD h (by omega)]
    exact h2
theorem pk_succ {s k : Nat} (hk : k < s) (y : Nat) : pk s (k + 1) y = (pk s k y || y == k) := by
  unfold pk
  by_cases h1 : s ≤ y
  · simp [h1]
  · by_cases h2 : y = k
    · subst h2; simp
    · have : (y == k) = false := beq_eq_false_iff_ne.mpr h2
      rw [this, Bool.or_false]
      congr 1
      have : (y < k + 1) = (y < k) := propext ⟨fun _ => by omega, fun _ => by omega⟩
      simp only [this]
theorem filter_step {n s k : Nat} {L : List Nat} (h : IsP n L) (hs : s ≤ n) (hk : k < s) : L.filter (pk s (k + 1)) = ins (dep (inv L) s k) k (L.filter (pk s k)) := by
  rw [dep_eq h hs hk, ← filter_ins h.nd (h.mem (by omega)) (by unfold pk; simp; omega)]
  exact List.filter_congr fun y _ => pk_succ hk y
theorem filter_len {n s k : Nat} {L : List Nat} (h : IsP n L) (hs : s ≤ n) (hk : k ≤ s) : (L.filter (pk s k)).length = n - s + k := by
  have : (L.filter (pk s k)).Perm (lay s n k) := (List.perm_ext_iff_of_nodup (h.nd.filter _) (lay_nd hk)).mpr fun y => by
    rw [List.mem_filter, lay_mem hs hk]
    exact ⟨fun ⟨a, b⟩ => ⟨h.lt a, b⟩, fun ⟨a, b⟩ => ⟨h.mem a, b⟩⟩
  rw [this.length_eq]
  unfold lay
  simp
theorem dep_le {n s k : Nat} {L : List Nat} (h : IsP n L) (hs : s ≤ n) (hk : k < s) : dep (inv L) s k ≤ n - s + k := by
  rw [dep_eq h hs hk, ← filter_len h hs (by omega : k ≤ s)]
  exact (((List.take_sublist _ L).filter _)).length_le
theorem filter_all {n s : Nat} {L : List Nat} : L.filter (pk s s) = L := by
  refine List.filter_eq_self.mpr fun y _ => ?_
  unfold pk
  simp
  omega
/-- the mugs that stay keep their order -/
def Rising (l : List Nat) : Prop := l.Pairwise (· < ·)
theorem filter_base {n s : Nat} {L : List Nat} (h : IsP n L) (hs : s ≤ n) (hr : Rising ((inv L).drop s)) : L.filter (pk s 0) = List.range' s (n - s) := by
  have hp : (L.filter (pk s 0)).Perm (List.range' s (n - s)) := (List.perm_ext_iff_of_nodup (h.nd.filter _) List.nodup_range').mpr fun y => by
    rw [List.mem_filter, List.mem_range'_1]
    unfold pk
    simp
    exact ⟨fun ⟨a, b⟩ => ⟨b, by have := h.lt a; omega⟩, fun ⟨a, b⟩ => ⟨h.mem (by omega), a⟩⟩
  refine List.Perm.eq_of_pairwise (le := fun a b => a < b) (fun a b _ _ h1 h2 => by omega) ?_ (List.pairwise_lt_range') hp
  refine List.Pairwise.imp_of_mem ?_ ((pw_idx h.nd).filter _)
  intro a b ha hb hab
  have ha' := hp.mem_iff.mp ha
  have hb' := hp.mem_iff.mp hb
  rw [List.mem_range'_1] at ha' hb'
  apply Classical.byContradiction
  intro hn
  have hne : a ≠ b := fun e => by rw [e] at hab; omega
  have hlt : b < a := by omega
  have hr' := List.pairwise_iff_getElem.mp hr (b - s) (a - s) (by rw [List.length_drop, inv_len, h.len]; omega) (by rw [List.length_drop, inv_len, h.len]; omega) (by omega)
  rw [List.getElem_drop, List.getElem_drop] at hr'
  have e1 := inv_get (ps := L) (p := s + (b - s)) (by rw [h.len]; omega)
  have e2 := inv_get (ps := L) (p := s + (a - s)) (by rw [h.len]; omega)
  rw [List.getElem?_eq_getElem (by rw [inv_len, h.len]; omega)] at e1 e2
  have e1 := Option.some.inj e1
  have e2 := Option.some.inj e2
  rw [e1, e2, show s + (b - s) = b by omega, show s + (a - s) = a by omega] at hr'
  omega
theorem take_zip_snoc {s k : Nat} {h : List Nat} {d : Nat} (hs : h.length = s) (e : h[k]? = some d) : ((List.range s).zip h).take (k + 1) = ((List.range s).zip h).take k ++ [(k, d)] := by
  have hk := (List.getElem?_eq_some_iff.mp e).1
  have : ((List.range s).zip h)[k]? = some (k, d) := by
    rw [List.getElem?_zip_eq_some]
    exact ⟨by rw [List.getElem?_range (by omega)], e⟩
  rw [List.take_add_one, this]
  rfl
theorem wash_range {n : Nat} {h : List Nat} (hl : h.length ≤ n) : wash h (List.range n) = putB (List.range' h.length (n - h.length)) ((List.range h.length).zip h) := by
  unfold wash
  congr 1
  · rw [List.range_eq_range', List.drop_range']
    simp
  · rw [List.take_range, Nat.min_eq_left hl]
theorem hab_len (ps : List Nat) (s : Nat) : (hab ps s).length = s := by simp [hab]
theorem hab_get {ps : List Nat} {s k : Nat} (hk : k < s) : (hab ps s)[k]? = some (dep ps s k) := by
  unfold hab
  rw [List.getElem?_map, List.getElem?_range hk]
  rfl
/-- the habit of a map has this map -/
theorem mp_hab {n s : Nat} {ps : List Nat} (h : IsP n ps) (hs : s ≤ n) (hr : Rising (ps.drop s)) : mp n (hab ps s) = ps := by
  have hL := inv_isP h
  have e0 := inv_inv h
  have key : ∀ k, k ≤ s → putB (List.range' s (n - s)) (((List.range s).zip (hab ps s)).take k) = (inv ps).filter (pk s k) := by
    intro k
    induction k with
    | zero =>
      intro _
      rw [filter_base hL hs (by rw [e0]; exact hr)]
      rfl
    | succ k ih =>
      intro hk
      rw [take_zip_snoc (hab_len ps s) (hab_get (by omega)), putB_snoc, ih (by omega), filter_step hL hs (by omega), e0]
  have e1 := key s (Nat.le_refl _)
  rw [List.take_of_length_le (by rw [List.length_zip, List.length_range, hab_len]; omega), filter_all (n := n)] at e1
  unfold mp
  rw [wash_range (by rw [hab_len]; exact hs), hab_len, e1, e0]
theorem hab_ok {n s : Nat} {ps : List Nat} (h : IsP n ps) (hs : s ≤ n) : ∀ (i d : Nat), (hab ps s)[i]? = some d → d ≤ n - s + i := fun i d e => by
  have hi : i < s := by
    have := (List.getElem?_eq_some_iff.mp e).1
    rwa [hab_len] at this
  rw [hab_get hi] at e
  cases e
  have := dep_le (inv_isP h) hs hi
  rwa [inv_inv h] at this
/-- how the items stand while they are put back -/
theorem part_eq {n s : Nat} {h : List Nat} (hn : s ≤ n) (hs : h.length = s) : ∀ k, k ≤ s → (wash h (List.range n)).filter (pk s k) = putB (List.range' s (n - s)) (((List.range s).zip h).take k) := by
  intro k hk
  have mem : ∀ j, j ≤ s → ∀ y ∈ putB (List.range' s (n - s)) (((List.range s).zip h).take j), pk s j y = true := by
    intro j hj y hy
    rcases List.mem_append.mp ((putB_perm _ _).mem_iff.mp hy) with h1 | h1
    · have := (List.mem_range'_1.mp h1).1
      unfold pk
      simp [this]
    · obtain ⟨q, hq, rfl⟩ := List.mem_map.mp h1
      obtain ⟨i, hi⟩ := List.getElem?_of_mem hq
      rw [List.getElem?_take] at hi
      split at hi
      · rename_i hij
        obtain ⟨q1, q2⟩ := q
        rw [List.getElem?_zip_eq_some] at hi
        have h3 := hi.1
        have h4 := (List.getElem?_eq_some_iff.mp h3).1
        rw [List.length_range] at h4
        rw [List.getElem?_range h4] at h3
        cases h3
        unfold pk
        simp [hij]
      · cases hi
  have step : ∀ j, k ≤ j → j ≤ s → (putB (List.range' s (n - s)) (((List.range s).zip h).take j)).filter (pk s k) = putB (List.range' s (n - s)) (((List.range s).zip h).take k) := by
    intro j
    induction j with
    | zero =>
      intro h1 h2
      have : k = 0 := by omega
      subst this
      exact List.filter_eq_self.mpr (mem 0 (by omega))
    | succ j ih =>
      intro h1 h2
      by_cases e : k = j + 1
      · subst e
        exact List.filter_eq_self.mpr (mem _ h2)
      · obtain ⟨d, hd⟩ := get_ex hs (by omega : j < s)
        rw [take_zip_snoc hs hd, putB_snoc, ← ih (by omega) (by omega)]
        unfold ins
        rw [List.filter_append, List.filter_cons_of_neg (by unfold pk; simp; omega), ← List.filter_append, List.take_append_drop]
  have := step s hk (Nat.le_refl _)
  rw [List.take_of_length_le (by rw [List.length_zip, List.length_range]; omega)] at this
  rw [← this, wash_range (by omega), hs]
/-- a habit is the habit of its map -/
theorem hab_mp {n s : Nat} {h : List Nat} (hn : s ≤ n) (hs : h.length = s) (hd : ∀ (i d : Nat), h[i]? = some d → d ≤ n - s + i) : hab (mp n h) s = h := by
  have hL := wash_isP (n := n) (h := h) (by omega)
  apply List.ext_getElem?
  intro k
  by_cases hk : k < s
  · obtain ⟨d, e⟩ := get_ex hs hk
    rw [hab_get hk, e]
    congr 1
    have e1 := filter_step hL hn hk
    rw [part_eq hn hs (k + 1) (by omega), take_zip_snoc hs e, putB_snoc, ← part_eq hn hs k (by omega)] at e1
    have hnot : k ∉ (wash h (List.range n)).filter (pk s k) := fun hm => by
      have := (List.mem_filter.mp hm).2
      unfold pk at this
      simp at this
      omega
    have hlen := filter_len hL hn (by omega : k ≤ s)
    have h1 := idx_ins hnot (d := d) (by rw [hlen]; exact hd k d e)
    have h2 := idx_ins hnot (d := dep (mp n h) s k) (by rw [hlen]; exact dep_le hL hn hk)
    have e1 : ins d k _ = ins (dep (mp n h) s k) k _ := e1
    rw [e1] at h1
    omega
  · rw [List.getElem?_eq_none (by rw [hab_len]; omega), List.getElem?_eq_none (by omega)]
/-- .. and the mugs that stay keep their order -/
theorem mp_rising {n s : Nat} {h : List Nat} (hn : s ≤ n) (hs : h.length = s) : Rising ((mp n h).drop s) := by
  have hL := wash_isP (n := n) (h := h) (by omega)
  have e := part_eq hn hs 0 (by omega)
  have e : (wash h (List.range n)).filter (pk s 0) = List.range' s (n - s) := e
  have p := (pw_idx hL.nd).filter (pk s 0)
  rw [e] at p
  refine List.pairwise_iff_getElem.mpr fun i j hi hj hij => ?_
  have hml : (mp n h).length = n := mp_len (by omega)
  rw [List.length_drop, hml] at hi hj
  have p2 := List.pairwise_iff_getElem.mp p i j (by rw [List.length_range']; exact hi) (by rw [List.length_range']; exact hj) hij
  rw [List.getElem_range', List.getElem_range', Nat.one_mul, Nat.one_mul] at p2
  rw [List.getElem_drop, List.getElem_drop]
  have e1 := inv_get (ps := wash h (List.range n)) (p := s + i) (by rw [hL.len]; omega)
  have e2 := inv_get (ps := wash h (List.range n)) (p := s + j) (by rw [hL.len]; omega)
  rw [List.getElem?_eq_getElem (by rw [inv_len, hL.len]; omega)] at e1 e2
  have e1 := Option.some.inj e1
  have e2 := Option.some.inj e2
  rw [← e1, ← e2] at p2
  exact p2
end Mt

namespace Mt
variable {α : Type}
/-! ### where a mug is after t washes -/
theorem fol_get {ps qs : List Nat} {p x : Nat} (h : ps[p]? = some x) : (fol ps qs)[p]? = some (qs[x]?.getD 0) := by
  unfold fol
  rw [List.getElem?_map, h]
  rfl
theorem fol_range {n : Nat} {f : List Nat} (h : IsP n f) : fol f (List.range n) = f := by
  unfold fol
  apply List.ext_getElem?
  intro i
  rw [List.getElem?_map]
  cases e : f[i]? with
  | none => rfl
  | some x =>
    have := h.lt (List.mem_of_getElem? e)
    simp [List.getElem?_range this]
theorem fol_assoc {n : Nat} {f g h : List Nat} (hf : IsP n f) (hg : IsP n g) : fol (fol f g) h = fol f (fol g h) := by
  apply List.ext_getElem?
  intro i
  by_cases hi : i < n
  · obtain ⟨x, hx⟩ := get_ex hf.len hi
    obtain ⟨y, hy⟩ := get_ex hg.len (hf.lt (List.mem_of_getElem? hx))
    have e1 : (fol f g)[i]? = some y := by rw [fol_get hx, hy]; rfl
    rw [fol_get e1, fol_get hx, fol_get hy]
    rfl
  · rw [List.getElem?_eq_none (by simp [fol, hf.len]; omega), List.getElem?_eq_none (by simp [fol, hf.len]; omega)]
def pmf (n : Nat) (hs : List (List Nat)) (f : List Nat) : List Nat := hs.foldl (fun f h => fol f (mp n h)) f
theorem pmf_fol {n : Nat} : ∀ {hs : List (List Nat)} {f g : List Nat}, (∀ h ∈ hs, h.length ≤ n) → IsP n f → IsP n g → pmf n hs (fol f g) = fol f (pmf n hs g)
  | [], _, _, _, _, _ => rfl
  | h :: hs, f, g, hl, hf, hg => by
    have hm := mp_isP (hl h List.mem_cons_self)
    show pmf n hs (fol (fol f g) (mp n h)) = _
    rw [fol_assoc hf hg, pmf_fol (hs := hs) (fun k hk => hl k (List.mem_cons_of_mem _ hk)) hf (fol_isP hg hm)]
    rfl
theorem pmf_app (n : Nat) (as bs : List (List Nat)) (f : List Nat) : pmf n (as ++ bs) f = pmf n bs (pmf n as f) := by
  unfold pmf
  rw [List.foldl_append]
theorem pmf_isP {n : Nat} {hs : List (List Nat)} {f : List Nat} (hl : ∀ h ∈ hs, h.length ≤ n) (hf : IsP n f) : IsP n (pmf n hs f) := wmap_fold_isP hl hf
/-- the map of the first t washes -/
def pm (hs : List (List Nat)) (n t : Nat) : List Nat := pmf n (rr hs t) (List.range n)
def posAt (hs : List (List Nat)) (n t p : Nat) : Nat := (pm hs n t)[p]?.getD 0
theorem pm_isP {hs : List (List Nat)} {n : Nat} (hl : ∀ h ∈ hs, h.length ≤ n) (t : Nat) : IsP n (pm hs n t) := pmf_isP (fun h hh => hl h (rr_mem hh)) (IsP.range n)
theorem posAt_lt {hs : List (List Nat)} {n : Nat} (hl : ∀ h ∈ hs, h.length ≤ n) (t : Nat) {p : Nat} (hp : p < n) : posAt hs n t p < n := by
  obtain ⟨x, hx⟩ := get_ex (pm_isP hl t).len hp
  unfold posAt
  rw [hx]
  exact (pm_isP hl t).lt (List.mem_of_getElem? hx)
theorem pm_get {hs : List (List Nat)} {n : Nat} (hl : ∀ h ∈ hs, h.length ≤ n) (t : Nat) {p : Nat} (hp : p < n) : (pm hs n t)[p]? = some (posAt hs n t p) := by
  obtain ⟨x, hx⟩ := get_ex (pm_isP hl t).len hp
  unfold posAt
  rw [hx]
  rfl
theorem posAt_zero (hs : List (List Nat)) {n p : Nat} (hp : p < n) : posAt hs n 0 p = p := by
  unfold posAt pm rr pmf
  simp [List.getElem?_range hp]
theorem posAt_succ {hs : List (List Nat)} {n t p : Nat} {h : List Nat} (hl : ∀ h ∈ hs, h.length ≤ n) (e : hs[t % hs.length]? = some h) (hp : p < n) : posAt hs n (t + 1) p = (mp n h)[posAt hs n t p]?.getD 0 := by
  unfold posAt
  unfold pm
  rw [rr_succ e, pmf_app]
  have := pm_get hl t hp
  show (fol (pm hs n t) (mp n h))[p]?.getD 0 = _
  rw [fol_get this]
  rfl
theorem shelf_pos {hs : List (List Nat)} {xs : List α} (hl : ∀ h ∈ hs, h.length ≤ xs.length) (t : Nat) {p : Nat} (hp : p < xs.length) : (shelfAt hs t xs)[posAt hs xs.length t p]? = xs[p]? := by
  refine wmap_fold (hs := rr hs t) (fun h hh => hl h (rr_mem hh)) (IsP.range _) rfl hp ?_
  rw [List.getElem?_range hp]
  rfl
theorem rr_add (hs : List (List Nat)) (h0 : 0 < hs.length) (j t : Nat) : rr hs (hs.length * j + t) = (List.replicate j hs).flatten ++ rr hs t := by
  unfold rr
  rw [Nat.mul_add_div h0, Nat.mul_add_mod, ← List.replicate_append_replicate, List.flatten_append, List.append_assoc]
theorem posAt_add {hs : List (List Nat)} {n : Nat} (h0 : 0 < hs.length) (hl : ∀ h ∈ hs, h.length ≤ n) (j t : Nat) {p : Nat} (hp : p < n) : posAt hs n (hs.length * j + t) p = posAt hs n t (itr (wmap n hs) j p) := by
  have hlr : ∀ j, ∀ h ∈ (List.replicate j hs).flatten, h.length ≤ n := fun j h hh => by
    obtain ⟨l, h1, h2⟩ := List.mem_flatten.mp hh
    rw [List.mem_replicate] at h1
    rw [h1.2] at h2
    exact hl h h2
  have hW := wmap_isP hl
  have key : ∀ j, ∀ q < n, (pmf n (List.replicate j hs).flatten (List.range n))[q]? = some (itr (wmap n hs) j q) := by
    intro j
    induction j with
    | zero =>
      intro q hq
      show (List.range n)[q]? = _
      rw [List.getElem?_range hq]
      rfl
    | succ j ih =>
      intro q hq
      have e : (List.replicate (j + 1) hs).flatten = (List.replicate j hs).flatten ++ hs := by
        rw [List.replicate_succ', List.flatten_append]
        simp
      have hA := pmf_isP (hlr j) (IsP.range n)
      rw [e, pmf_app]
      have e2 : pmf n hs (pmf n (List.replicate j hs).flatten (List.range n)) = fol (pmf n (List.replicate j hs).flatten (List.range n)) (wmap n hs) := by
        have := pmf_fol hl hA (IsP.range n)
        rw [fol_range hA] at this
        exact this
      rw [e2, fol_get (ih q hq)]
      rfl
  unfold posAt
  unfold pm
  rw [rr_add hs h0, pmf_app]
  have hA := pmf_isP (hlr j) (IsP.range n)
  have e2 : pmf n (rr hs t) (pmf n (List.replicate j hs).flatten (List.range n)) = fol (pmf n (List.replicate j hs).flatten (List.range n)) (pmf n (rr hs t) (List.range n)) := by
    have := pmf_fol (hs := rr hs t) (fun h hh => hl h (rr_mem hh)) hA (IsP.range n)
    rw [fol_range hA] at this
    exact this
  rw [e2, fol_get (key j p hp)]
  rfl
theorem shelfAt_add {hs : List (List Nat)} (h0 : 0 < hs.length) (t : Nat) (xs : List α) : shelfAt hs (hs.length + t) xs = shelfAt hs t (shelfAt hs hs.length xs) := by
  unfold shelfAt
  have := rr_add hs h0 1 t
  rw [Nat.mul_one] at this
  rw [this, washes_app]
  congr 1
  have := rr_add hs h0 1 0
  rw [Nat.mul_one, Nat.add_zero] at this
  rw [this]
  unfold rr
  simp
/-- does the mug that is at p at first go with cup number k (from 0)? -/
def used (hs : List (List Nat)) (n s p k : Nat) : Bool := decide (posAt hs n (k / s) p = k % s)
/-- the mug of cup number k (from 0) -/
def mugAt (hs : List (List Nat)) (s k : Nat) (xs : List α) : Option α := (shelfAt hs (k / s) xs)[k % s]?
theorem mugAt_used {hs : List (List Nat)} {s k p : Nat} {xs : List α} (hl : ∀ h ∈ hs, h.length ≤ xs.length) (h0 : 0 < s) (hs2 : s ≤ xs.length) (nd : xs.Nodup) (hp : p < xs.length) : mugAt hs s k xs = xs[p]? ↔ used hs xs.length s p k = true := by
  unfold mugAt used
  rw [decide_eq_true_eq, ← shelf_pos hl (k / s) hp]
  have hn : (shelfAt hs (k / s) xs).Nodup := (shelfAt_perm hl).nodup_iff.mpr nd
  have l1 := shelfAt_len (t := k / s) hl
  have hk := Nat.mod_lt k h0
  constructor
  · intro e
    obtain ⟨x, hx⟩ := get_ex l1 (posAt_lt hl (k / s) hp)
    rw [hx] at e
    have p1 := List.getElem?_eq_some_iff.mp hx
    have p2 := List.getElem?_eq_some_iff.mp e
    exact (List.getElem_inj hn).mp (p1.2.trans p2.2.symm)
  · intro e
    rw [e]
/-- after how many cups all comes again for the mug at p -/
def per (hs : List (List Nat)) (n s p : Nat) : Nat := s * hs.length * ord (wmap n hs) p
theorem used_per {hs : List (List Nat)} {n s p : Nat} (h0 : 0 < hs.length) (hs0 : 0 < s) (hl : ∀ h ∈ hs, h.length ≤ n) (hp : p < n) (k : Nat) : used hs n s p (k + per hs n s p) = used hs n s p k := by
  unfold used per
  have e1 : (k + s * hs.length * ord (wmap n hs) p) / s = hs.length * ord (wmap n hs) p + k / s := by
    rw [Nat.mul_assoc, Nat.add_mul_div_left _ _ hs0, Nat.add_comm]
  have e2 : (k + s * hs.length * ord (wmap n hs) p) % s = k % s := by
    rw [Nat.mul_assoc, Nat.add_mul_mod_self_left]
  rw [e1, e2, posAt_add h0 hl _ _ hp, (ord_spec (wmap_isP hl) hp).2.2.1]
/-! ### what comes again and again -/
theorem range_add (a b : Nat) : List.range (a + b) = List.range a ++ (List.range b).map (a + ·) := by
  rw [List.range_eq_range', List.range_eq_range', List.range_eq_range', ← List.range'_append_1, List.map_add_range']
  simp
def hits (Q : Nat → Bool) (n : Nat) : List Nat := (List.range n).filter Q
theorem hits_add {Q : Nat → Bool} {P : Nat} (hQ : ∀ k, Q (k + P) = Q k) (m : Nat) : hits Q (P + m) = hits Q P ++ (hits Q m).map (P + ·) := by
  unfold hits
  rw [range_add, List.filter_append, List.filter_map]
  congr 2
  refine List.filter_congr fun k _ => ?_
  show Q (P + k) = Q k
  rw [Nat.add_comm, hQ]
theorem hits_len {Q : Nat → Bool} {P : Nat} (hQ : ∀ k, Q (k + P) = Q k) : ∀ (q r : Nat), (hits Q (P * q + r)).length = q * (hits Q P).length + (hits Q r).length
  | 0, r => by simp
  | q + 1, r => by
    rw [show P * (q + 1) + r = P + (P * q + r) by rw [Nat.mul_succ]; omega, hits_add hQ, List.length_append, List.length_map, hits_len hQ q r, Nat.succ_mul]
    omega
theorem hits_nth {Q : Nat → Bool} {P : Nat} (hQ : ∀ k, Q (k + P) = Q k) : ∀ (q i : Nat), i < (hits Q (P * q)).length → (hits Q (P * q))[i]? = ((hits Q P)[i % (hits Q P).length]?).map fun x => i / (hits Q P).length * P + x
  | 0, i, h => by simp [hits] at h
  | q + 1, i, h => by
    rw [show P * (q + 1) = P + P * q by rw [Nat.mul_succ]; omega, hits_add hQ] at h ⊢
    by_cases hc : i < (hits Q P).length
    · rw [List.getElem?_append_left hc, Nat.mod_eq_of_lt hc, Nat.div_eq_of_lt hc]
      simp
    · rw [List.length_append, List.length_map] at h
      have h0 : 0 < (hits Q P).length := by
        apply Classical.byContradiction
        intro hn
        have z : (hits Q P).length = 0 := by omega
        have z2 := hits_len hQ q 0
        rw [Nat.add_zero, z] at z2
        simp [hits] at z2
        have z3 : (hits Q (P * q)).length = 0 := by simpa [hits] using z2
        omega
      rw [List.getElem?_append_right (by omega), List.getElem?_map, hits_nth hQ q (i - (hits Q P).length) (by omega)]
      have e1 : i = (i - (hits Q P).length) + (hits Q P).length := by omega
      have e2 : i % (hits Q P).length = (i - (hits Q P).length) % (hits Q P).length := by
        conv => lhs; rw [e1]
        rw [Nat.add_mod_right]
      have e3 : i / (hits Q P).length = (i - (hits Q P).length) / (hits Q P).length + 1 := by
        conv => lhs; rw [e1]
        rw [Nat.add_div_right _ h0]
      rw [e2, e3, Option.map_map]
      congr 1
      funext x
      show P + ((i - (hits Q P).length) / (hits Q P).length * P + x) = _
      rw [Nat.succ_mul]
      omega
theorem hits_pre {Q : Nat → Bool} {a b : Nat} (h : a ≤ b) {i : Nat} (hi : i < (hits Q a).length) : (hits Q b)[i]? = (hits Q a)[i]? := by
  have e : b = a + (b - a) := by omega
  rw [e]
  unfold hits at hi ⊢
  rw [range_add, List.filter_append, List.getElem?_append_left hi]
/-- the i-th hit of all -/
theorem hits_at {Q : Nat → Bool} {P : Nat} (hP : 0 < P) (hQ : ∀ k, Q (k + P) = Q k) {N i : Nat} (hi : i < (hits Q N).length) : (hits Q N)[i]? = ((hits Q P)[i % (hits Q P).length]?).map fun x => i / (hits Q P).length * P + x := by
  have hN : N ≤ P * (N + 1) := by
    have : 1 * (N + 1) ≤ P * (N + 1) := Nat.mul_le_mul_right _ hP
    omega
  rw [← hits_pre hN hi]
  refine hits_nth hQ _ _ ?_
  have : (hits Q (P * (N + 1))).length ≥ (hits Q N).length := by
    have e : P * (N + 1) = N + (P * (N + 1) - N) := by omega
    rw [e]
    unfold hits
    rw [range_add, List.filter_append, List.length_append]
    omega
  omega
theorem hits_nil {Q : Nat → Bool} {P : Nat} (hP : 0 < P) (hQ : ∀ k, Q (k + P) = Q k) : hits Q P = [] ↔ ∀ k, Q k = false := by
  constructor
  · intro h k
    have e : ∀ q r, Q (P * q + r) = Q r := by
      intro q
      induction q with
      | zero => intro r; simp
      | succ q ih => intro r; rw [show P * (q + 1) + r = (P * q + r) + P by rw [Nat.mul_succ]; omega, hQ, ih]
    rw [← Nat.div_add_mod k P, e]
    unfold hits at h
    have := List.filter_eq_nil_iff.mp h (k % P) (List.mem_range.mpr (Nat.mod_lt _ hP))
    simpa using this
  · intro h
    unfold hits
    exact List.filter_eq_nil_iff.mpr fun k _ => by simp [h k]
/-- the cups of a mug, wash by wash -/
theorem hits_used (hs : List (List Nat)) (n p : Nat) {s : Nat} (h0 : 0 < s) : ∀ m, hits (used hs n s p) (s * m) = (List.range m).filterMap fun j => if posAt hs n j p < s then some (j * s + posAt hs n j p) else none
  | 0 => rfl
  | m + 1 => by
    unfold hits
    rw [Nat.mul_succ, range_add, List.filter_append, List.range_succ, List.filterMap_append]
    have ih := hits_used hs n p h0 m
    unfold hits at ih
    rw [ih]
    congr 1
    rw [List.filter_map]
    have e : (List.range s).filter (used hs n s p ∘ (s * m + ·)) = (List.range s).filter fun i => decide (i = posAt hs n m p) := by
      refine List.filter_congr fun i hi => ?_
      have hi := List.mem_range.mp hi
      show used hs n s p (s * m + i) = _
      unfold used
      rw [Nat.mul_add_div h0, Nat.div_eq_of_lt hi, Nat.add_zero, Nat.mul_add_mod, Nat.mod_eq_of_lt hi]
      congr 1
      exact propext eq_comm
    rw [e]
    have e2 : ∀ x t : Nat, (List.range t).filter (fun i => decide (i = x)) = if x < t then [x] else [] := by
      intro x t
      induction t with
      | zero => rfl
      | succ t ih =>
        rw [List.range_succ, List.filter_append, ih]
        by_cases h1 : x < t
        · rw [if_pos h1, if_pos (by omega), List.filter_cons_of_neg (by simp; omega)]
          rfl
        · rw [if_neg h1]
          by_cases h2 : x = t
          · subst h2
            rw [if_pos (by omega), List.filter_cons_of_pos (by simp)]
            rfl
          · rw [if_neg (by omega), List.filter_cons_of_neg (by simp; omega)]
            rfl
    rw [e2]
    by_cases hc : posAt hs n m p < s
    · rw [if_pos hc]
      simp [hc, Nat.mul_comm]
    · rw [if_neg hc, List.filterMap_cons_none (by rw [if_neg hc])]
      rfl
theorem count_one : ∀ {l : List Nat} {x : Nat}, l.Nodup → x ∈ l → l.count x = 1
  | y :: l, x, nd, h => by
    have nd' := List.nodup_cons.mp nd
    by_cases e : y = x
    · subst e
      rw [List.count_cons_self, List.count_eq_zero.mpr nd'.1]
    · have hm : x ∈ l := by
        rcases List.mem_cons.mp h with k | k
        · exact absurd k.symm e
        · exact k
      rw [List.count_cons_of_ne e, count_one nd'.2 hm]
/-- each cup has its mug -/
theorem hits_sum {hs : List (List Nat)} {n s : Nat} (hl : ∀ h ∈ hs, h.length ≤ n) (h0 : 0 < s) (hs2 : s ≤ n) : ∀ N, ((List.range n).map fun p => (hits (used hs n s p) N).length).sum = N
  | 0 => by
    have z : ∀ l : List Nat, (l.map fun p => (hits (used hs n s p) 0).length).sum = 0 := by
      intro l
      induction l with
      | nil => rfl
      | cons x l ih =>
        rw [List.map_cons, List.sum_cons, ih]
        rfl
    exact z _
  | N + 1 => by
    have e : ∀ p, (hits (used hs n s p) (N + 1)).length = (hits (used hs n s p) N).length + if used hs n s p N = true then 1 else 0 := fun p => by
      unfold hits
      rw [List.range_succ, List.filter_append, List.length_append]
      congr 1
      by_cases h : used hs n s p N = true
      · rw [if_pos h, List.filter_cons_of_pos h]; rfl
      · rw [if_neg h, List.filter_cons_of_neg h]; rfl
    have e2 : (List.range n).map (fun p => (hits (used hs n s p) (N + 1)).length) = (List.range n).map fun p => (hits (used hs n s p) N).length + if used hs n s p N = true then 1 else 0 := List.map_congr_left fun p _ => e p
    have add : ∀ (l : List Nat) (f g : Nat → Nat), (l.map fun p => f p + g p).sum = (l.map f).sum + (l.map g).sum := by
      intro l f g
      induction l with
      | nil => rfl
      | cons x l ih =>
        simp only [List.map_cons, List.sum_cons, ih]
        omega
    rw [e2, add, hits_sum hl h0 hs2 N]
    congr 1
    have hP := pm_isP hl (N / s)
    have e3 : (List.range n).map (fun p => if used hs n s p N = true then 1 else 0) = (pm hs n (N / s)).map fun x => if x = N % s then 1 else 0 := by
      apply List.ext_getElem?
      intro i
      rw [List.getElem?_map, List.getElem?_map]
      by_cases hi : i < n
      · rw [List.getElem?_range hi, pm_get hl _ hi]
        unfold used
        simp
      · rw [List.getElem?_eq_none (by simp; omega), List.getElem?_eq_none (by rw [hP.len]; omega)]
        rfl
    have e4 : ∀ (l : List Nat) (y : Nat), (l.map fun x => if x = y then 1 else 0).sum = l.count y := by
      intro l y
      induction l with
      | nil => rfl
      | cons x l ih =>
        simp only [List.map_cons, List.sum_cons, ih, List.count_cons]
        by_cases h : x = y
        · simp [h]; omega
        · simp [h]
    rw [e3, e4]
    have hk := Nat.mod_lt N h0
    exact count_one hP.nd (hP.mem (show N % s < n by omega))
end Mt

namespace Mt
/-- the i-th hit of a periodic row -/
def nthH (Q : Nat → Bool) (P i : Nat) : Nat := i / (hits Q P).length * P + (hits Q P)[i % (hits Q P).length]?.getD 0
section
variable {Q : Nat → Bool} {P : Nat} (hP : 0 < P) (hQ : ∀ k, Q (k + P) = Q k)
include hP hQ
theorem hits_nthH {N i : Nat} (hi : i < (hits Q N).length) : (hits Q N)[i]? = some (nthH Q P i) := by
  have hne : hits Q P ≠ [] := fun e => by
    have h0 := (hits_nil hP hQ).mp e
    have : hits Q N = [] := by
      unfold hits
      exact List.filter_eq_nil_iff.mpr fun k _ => by rw [h0 k]; exact Bool.false_ne_true
    rw [this] at hi
    cases hi
  have hlt := Nat.mod_lt i (List.length_pos_iff.mpr hne)
  rw [hits_at hP hQ hi]
  unfold nthH
  rw [List.getElem?_eq_getElem hlt]
  rfl
theorem hits_ne (hex : ∃ k, Q k = true) : 0 < (hits Q P).length := by
  refine List.length_pos_iff.mpr fun e => ?_
  obtain ⟨k, hk⟩ := hex
  rw [(hits_nil hP hQ).mp e k] at hk
  cases hk
theorem hits_big (hex : ∃ k, Q k = true) (i : Nat) : i < (hits Q (P * (i + 1))).length := by
  have h := hits_len hQ (i + 1) 0
  have h1 := hits_ne hP hQ hex
  rw [Nat.add_zero] at h
  rw [h]
  have : (i + 1) * 1 ≤ (i + 1) * (hits Q P).length := Nat.mul_le_mul_left _ h1
  omega
theorem hits_mono {a b : Nat} (h : a ≤ b) : (hits Q a).length ≤ (hits Q b).length := by
  have e : b = a + (b - a) := by omega
  rw [e]
  unfold hits
  rw [range_add, List.filter_append, List.length_append]
  omega
theorem nthH_lt (hex : ∃ k, Q k = true) {i N : Nat} : nthH Q P i < N ↔ i < (hits Q N).length := by
  constructor
  · intro h
    apply Classical.byContradiction
    intro hn
    have hb := hits_big hP hQ hex i
    have e := hits_nthH hP hQ hb
    have hNle : N ≤ P * (i + 1) := by
      apply Classical.byContradiction
      intro hh
      have := hits_mono hP hQ (show P * (i + 1) ≤ N by omega)
      omega
    have es : P * (i + 1) = N + (P * (i + 1) - N) := by omega
    rw [es] at e
    unfold hits at e
    rw [range_add, List.filter_append, List.getElem?_append_right (by unfold hits at hn; omega)] at e
    have hm := (List.mem_filter.mp (List.mem_of_getElem? e)).1
    obtain ⟨y, _, hy⟩ := List.mem_map.mp hm
    unfold hits at h
    omega
  · intro h
    have e := hits_nthH hP hQ h
    exact List.mem_range.mp (List.mem_filter.mp (List.mem_of_getElem? e)).1
theorem nthH_hit (hex : ∃ k, Q k = true) (i : Nat) : Q (nthH Q P i) = true :=
  (List.mem_filter.mp (List.mem_of_getElem? (hits_nthH hP hQ (hits_big hP hQ hex i)))).2
theorem nthH_up (hex : ∃ k, Q k = true) {i j : Nat} (h : i < j) : nthH Q P i < nthH Q P j := by
  apply Classical.byContradiction
  intro hn
  have h1 := (nthH_lt hP hQ hex (i := j) (N := nthH Q P i + 1)).mp (by omega)
  have h2 : ¬ i < (hits Q (nthH Q P i)).length := fun h => by
    have := (nthH_lt hP hQ hex).mpr h
    omega
  have h3 : (hits Q (nthH Q P i + 1)).length ≤ (hits Q (nthH Q P i)).length + 1 := by
    unfold hits
    rw [List.range_succ, List.filter_append, List.length_append]
    have := List.length_filter_le Q [nthH Q P i]
    simp only [List.length_cons, List.length_nil] at this
    omega
  omega
/-- the hits of a stretch -/
theorem hits_seg (a n : Nat) : (List.range' a n).filter Q = (List.range ((hits Q (a + n)).length - (hits Q a).length)).map fun j => nthH Q P ((hits Q a).length + j) := by
  have e : hits Q (a + n) = hits Q a ++ (List.range' a n).filter Q := by
    unfold hits
    rw [range_add, List.filter_append]
    congr 2
    apply List.ext_getElem?
    intro j
    simp only [List.getElem?_map, List.getElem?_range', List.getElem?_range]
    by_cases hj : j < n
    · rw [List.getElem?_range hj, List.getElem?_range' hj]
      simp
    · rw [List.getElem?_eq_none (by simpa using hj), List.getElem?_eq_none (by simpa using hj)]
      rfl
  have hl : ((List.range' a n).filter Q).length = (hits Q (a + n)).length - (hits Q a).length := by
    rw [e, List.length_append]
    omega
  apply List.ext_getElem?
  intro j
  rw [List.getElem?_map]
  by_cases hj : j < ((List.range' a n).filter Q).length
  · rw [List.getElem?_range (by omega)]
    have h1 := hits_nthH hP hQ (N := a + n) (i := (hits Q a).length + j) (by rw [e, List.length_append]; omega)
    rw [e, List.getElem?_append_right (by omega), Nat.add_sub_cancel_left] at h1
    rw [h1]
    rfl
  · rw [List.getElem?_eq_none (by omega), List.getElem?_eq_none (by rw [List.length_range]; omega)]
    rfl
theorem hits_gap (a n : Nat) : (hits Q (a + n)).length ≤ (hits Q a).length + n := by
  unfold hits
  rw [range_add, List.filter_append, List.length_append]
  have := List.length_filter_le Q ((List.range n).map (a + ·))
  rw [List.length_map, List.length_range] at this
  omega
end
theorem hits_leN (Q : Nat → Bool) (n : Nat) : (hits Q n).length ≤ n := by
  unfold hits
  refine Nat.le_trans (List.length_filter_le _ _) ?_
  rw [List.length_range]
  exact Nat.le_refl _
end Mt

namespace Mt
/-- from one hit to the next -/
def gapH (Q : Nat → Bool) (P i : Nat) : Nat := nthH Q P (i + 1) - nthH Q P i
section
variable {Q : Nat → Bool} {P : Nat} (hP : 0 < P) (hQ : ∀ k, Q (k + P) = Q k) (hex : ∃ k, Q k = true)
include hP hQ hex
theorem nthH_per (i : Nat) : nthH Q P (i + (hits Q P).length) = nthH Q P i + P := by
  have h := hits_ne hP hQ hex
  unfold nthH
  rw [Nat.add_div_right _ h, Nat.add_mod_right, Nat.succ_mul]
  omega
theorem gapH_per (i : Nat) : gapH Q P (i + (hits Q P).length) = gapH Q P i := by
  unfold gapH
  rw [show i + (hits Q P).length + 1 = (i + 1) + (hits Q P).length by omega, nthH_per hP hQ hex, nthH_per hP hQ hex]
  omega
theorem gapH_mod (i : Nat) : gapH Q P (i % (hits Q P).length) = gapH Q P i := by
  have key : ∀ q r, gapH Q P (r + (hits Q P).length * q) = gapH Q P r := fun q r => by
    induction q with
    | zero => rfl
    | succ q ih => rw [Nat.mul_succ, ← Nat.add_assoc, gapH_per hP hQ hex, ih]
  conv => rhs; rw [← Nat.mod_add_div i (hits Q P).length]
  rw [key]
theorem gapH_pos (i : Nat) : 1 ≤ gapH Q P i := by
  have := nthH_up hP hQ hex (show i < i + 1 by omega)
  unfold gapH
  omega
theorem gapH_le (i : Nat) : gapH Q P i ≤ P := by
  have h := hits_ne hP hQ hex
  have h1 := nthH_per hP hQ hex i
  have h2 : nthH Q P (i + 1) ≤ nthH Q P (i + (hits Q P).length) := by
    by_cases he : i + 1 = i + (hits Q P).length
    · rw [he]
      exact Nat.le_refl _
    · exact Nat.le_of_lt (nthH_up hP hQ hex (by omega))
  unfold gapH
  omega
theorem hits_2P : (hits Q (2 * P)).length = 2 * (hits Q P).length := by
  have h := hits_len hQ 2 0
  rw [Nat.add_zero, Nat.mul_comm] at h
  rw [h]
  simp [hits]
/-- all gaps come early -/
theorem gaps_all {N : Nat} (hN : 2 * P ≤ N) (x : Nat) : x ∈ (List.range ((hits Q N).length - 1)).map (gapH Q P) ↔ ∃ i, gapH Q P i = x := by
  constructor
  · intro h
    obtain ⟨i, _, e⟩ := List.mem_map.mp h
    exact ⟨i, e⟩
  · rintro ⟨i, rfl⟩
    have h := hits_ne hP hQ hex
    have h2 := hits_2P hP hQ hex
    have hm := hits_mono hP hQ hN
    refine List.mem_map.mpr ⟨i % (hits Q P).length, List.mem_range.mpr ?_, gapH_mod hP hQ hex i⟩
    have := Nat.mod_lt i h
    omega
theorem gapH_sum : ∀ n, ((List.range n).map (gapH Q P)).sum = nthH Q P n - nthH Q P 0
  | 0 => by simp
  | n + 1 => by
    have h1 := nthH_up hP hQ hex (show n < n + 1 by omega)
    have h2 : nthH Q P 0 ≤ nthH Q P n := by
      by_cases he : n = 0
      · rw [he]
        exact Nat.le_refl _
      · exact Nat.le_of_lt (nthH_up hP hQ hex (by omega))
    rw [List.range_succ, List.map_append, List.sum_append, gapH_sum n]
    simp only [List.map_cons, List.map_nil, List.sum_cons, List.sum_nil]
    unfold gapH
    omega
end
theorem sum_sub {l k : List Nat} (h : l.Sublist k) : l.sum ≤ k.sum := by
  induction h with
  | slnil => exact Nat.le_refl _
  | cons a _ ih => simp only [List.sum_cons]; omega
  | cons_cons a _ ih => simp only [List.sum_cons]; omega
theorem sum_ge {l : List Nat} {c : Nat} (h : ∀ x ∈ l, c ≤ x) : l.length * c ≤ l.sum := by
  induction l with
  | nil => simp
  | cons x l ih =>
    have h1 := h x List.mem_cons_self
    have h2 := ih fun y hy => h y (List.mem_cons_of_mem _ hy)
    rw [List.length_cons, List.sum_cons, Nat.succ_mul]
    omega
theorem split_len (l : List Nat) (c : Nat) : (l.filter fun x => decide (x < c)).length + (l.filter fun x => decide (c ≤ x)).length = l.length := by
  induction l with
  | nil => rfl
  | cons x l ih =>
    by_cases h : x < c
    · rw [List.filter_cons_of_pos (by simpa using h), List.filter_cons_of_neg (by simpa using h), List.length_cons, List.length_cons]
      omega
    · rw [List.filter_cons_of_neg (by simpa using h), List.filter_cons_of_pos (by simpa using h), List.length_cons, List.length_cons]
      omega
/-- few different numbers come to a small sum -/
theorem few {l : List Nat} (nd : l.Nodup) (hs : l.sum ≤ 1000) : l.length < 64 := by
  apply Classical.byContradiction
  intro h
  have h1 : (l.filter fun x => decide (x < 32)).length ≤ 32 := nodup_lt_len (nd.sublist List.filter_sublist) fun x hx => by simpa using (List.mem_filter.mp hx).2
  have h2 := split_len l 32
  have h3 := sum_ge (l := l.filter fun x => decide (32 ≤ x)) (c := 32) fun x hx => by simpa using (List.mem_filter.mp hx).2
  have h4 := sum_sub (List.filter_sublist (l := l) (p := fun x => decide (32 ≤ x)))
  have h5 : 32 * 32 ≤ (l.filter fun x => decide (32 ≤ x)).length * 32 := Nat.mul_le_mul_right _ (by omega)
  omega
end Mt

namespace Mt
theorem range_seg (T a n : Nat) (h : a + n ≤ T) : (List.range T).filter (fun k => decide (a ≤ k) && decide (k < a + n)) = List.range' a n := by
  have e : T = a + (n + (T - a - n)) := by omega
  rw [e, range_add, range_add, List.map_append, List.filter_append, List.filter_append]
  have e1 : (List.range a).filter (fun k => decide (a ≤ k) && decide (k < a + n)) = [] := List.filter_eq_nil_iff.mpr fun k hk => by
    have := List.mem_range.mp hk
    simp
    omega
  have e2 : ((List.range n).map (a + ·)).filter (fun k => decide (a ≤ k) && decide (k < a + n)) = List.range' a n := by
    rw [List.filter_eq_self.mpr fun k hk => by
      obtain ⟨j, hj, rfl⟩ := List.mem_map.mp hk
      have := List.mem_range.mp hj
      simp [this]]
    exact List.range'_eq_map_range.symm
  have e3 : (((List.range (T - a - n)).map (n + ·)).map (a + ·)).filter (fun k => decide (a ≤ k) && decide (k < a + n)) = [] := List.filter_eq_nil_iff.mpr fun k hk => by
    obtain ⟨j, hj, rfl⟩ := List.mem_map.mp hk
    obtain ⟨i, _, rfl⟩ := List.mem_map.mp hj
    simp
  rw [e1, e2, e3]
  simp
theorem hits_range (Q : Nat → Bool) (T a n : Nat) (h : a + n ≤ T) : (hits Q T).filter (fun k => decide (a ≤ k) && decide (k < a + n)) = (List.range' a n).filter Q := by
  unfold hits
  rw [List.filter_filter, ← range_seg T a n h, List.filter_filter]
  exact List.filter_congr fun k _ => Bool.and_comm _ _
section
variable {Q : Nat → Bool} {P : Nat} (hP : 0 < P) (hQ : ∀ k, Q (k + P) = Q k) (hex : ∃ k, Q k = true)
include hP hQ hex
theorem nthH_step (i : Nat) : nthH Q P (i + 1) ≤ nthH Q P i + P := by
  have := gapH_le hP hQ hex i
  unfold gapH at this
  omega
theorem nthH_steps (i : Nat) : ∀ k, nthH Q P (i + k) ≤ nthH Q P i + P * k
  | 0 => by simp
  | k + 1 => by
    have h1 := nthH_steps i k
    have h2 := nthH_step hP hQ hex (i + k)
    rw [Nat.mul_succ, ← Nat.add_assoc]
    omega
theorem nthH_first : nthH Q P 0 < P := (nthH_lt hP hQ hex).mpr (hits_ne hP hQ hex)
/-- the first hit from a on -/
theorem nthH_from (a : Nat) : nthH Q P (hits Q a).length < a + P := by
  cases h : (hits Q a).length with
  | zero =>
    have := nthH_first hP hQ hex
    omega
  | succ c =>
    have h1 := (nthH_lt hP hQ hex (i := c) (N := a)).mpr (by omega)
    have h2 := nthH_step hP hQ hex c
    omega
theorem hits_until (i : Nat) : (hits Q (nthH Q P i + 1)).length = i + 1 := by
  have h1 := (nthH_lt hP hQ hex (i := i) (N := nthH Q P i + 1)).mp (by omega)
  have h2 : ¬ i + 1 < (hits Q (nthH Q P i + 1)).length := fun h => by
    have := (nthH_lt hP hQ hex).mpr h
    have := nthH_up hP hQ hex (show i < i + 1 by omega)
    omega
  omega
end
end Mt

namespace Mt
/-! ### the mugs by their offset in a block of rounds -/
/-- from where the mugs come after j rounds -/
def bk (hs : List (List Nat)) (n j : Nat) : List Nat := inv (pm hs n (hs.length * j))
/-- from where the mug of a cup in the first block comes -/
def spot (hs : List (List Nat)) (n s o : Nat) : Nat := (pm hs n (o / s)).idxOf (o % s)
section
variable {hs : List (List Nat)} {n s : Nat} (h0 : 0 < hs.length) (hl : ∀ h ∈ hs, h.length ≤ n)
include hl
theorem bk_isP (j : Nat) : IsP n (bk hs n j) := inv_isP (pm_isP hl _)
theorem spot_lt (h0s : 0 < s) (hs2 : s ≤ n) (o : Nat) : spot hs n s o < n := ((pm_isP hl (o / s)).idx (Nat.lt_of_lt_of_le (Nat.mod_lt o h0s) hs2)).1
theorem spot_pos (h0s : 0 < s) (hs2 : s ≤ n) (o : Nat) : posAt hs n (o / s) (spot hs n s o) = o % s := by
  have h := ((pm_isP hl (o / s)).idx (Nat.lt_of_lt_of_le (Nat.mod_lt o h0s) hs2)).2
  unfold posAt spot
  rw [h]
  rfl
include h0
theorem posAt_rounds (j : Nat) {p : Nat} (hp : p < n) : posAt hs n (hs.length * j) p = itr (wmap n hs) j p := by
  have h := posAt_add h0 hl j 0 hp
  rw [Nat.add_zero] at h
  rw [h, posAt_zero hs (itr_lt (wmap_isP hl) hp j)]
theorem bk_back (j : Nat) {x : Nat} (hx : x < n) : itr (wmap n hs) j ((bk hs n j)[x]?.getD 0) = x := by
  have hP := pm_isP hl (hs.length * j)
  obtain ⟨h1, h2⟩ := hP.idx hx
  unfold bk
  rw [inv_get (by rw [hP.len]; exact hx)]
  show itr (wmap n hs) j ((pm hs n (hs.length * j)).idxOf x) = x
  rw [← posAt_rounds h0 hl j h1]
  unfold posAt
  rw [h2]
  rfl
theorem itr_bk (j : Nat) {x : Nat} (hx : x < n) : ∀ t, itr (wmap n hs) (j * t) (itr (bk hs n j) t x) = x
  | 0 => rfl
  | t + 1 => by
    have hy := itr_lt (bk_isP hl j) hx t
    show itr (wmap n hs) (j * (t + 1)) ((bk hs n j)[itr (bk hs n j) t x]?.getD 0) = x
    rw [Nat.mul_succ, Nat.add_comm, itr_add, bk_back h0 hl j hy]
    exact itr_bk j hx t
end
theorem mug_spot {α : Type} {hs : List (List Nat)} {s : Nat} {xs : List α} (h0 : 0 < hs.length) (hl : ∀ h ∈ hs, h.length ≤ xs.length) (h0s : 0 < s) (hs2 : s ≤ xs.length) (nd : xs.Nodup) (j t o : Nat) :
    mugAt hs s (t * (s * (hs.length * j)) + o) xs = xs[itr (bk hs xs.length j) t (spot hs xs.length s o)]? := by
  have hp := itr_lt (bk_isP hl j) (spot_lt hl h0s hs2 o) t
  refine (mugAt_used hl h0s hs2 nd hp).mpr ?_
  have e1 : t * (s * (hs.length * j)) + o = s * (hs.length * (j * t)) + o := by
    rw [Nat.mul_comm t, Nat.mul_assoc s, Nat.mul_assoc hs.length]
  unfold used
  rw [e1, Nat.mul_add_div h0s, Nat.mul_add_mod, posAt_add h0 hl (j * t) (o / s) hp, itr_bk h0 hl j (spot_lt hl h0s hs2 o) t, spot_pos hl h0s hs2 o]
  simp
/-- after how many blocks the mug comes again -/
def len (hs : List (List Nat)) (n s j o : Nat) : Nat := ord (bk hs n j) (spot hs n s o)
theorem mug_len {α : Type} {hs : List (List Nat)} {s : Nat} {xs : List α} (h0 : 0 < hs.length) (hl : ∀ h ∈ hs, h.length ≤ xs.length) (h0s : 0 < s) (hs2 : s ≤ xs.length) (nd : xs.Nodup) (j t o : Nat) :
    mugAt hs s (t % len hs xs.length s j o * (s * (hs.length * j)) + o) xs = mugAt hs s (t * (s * (hs.length * j)) + o) xs := by
  rw [mug_spot h0 hl h0s hs2 nd, mug_spot h0 hl h0s hs2 nd]
  unfold len
  rw [itr_mod (ord_spec (bk_isP hl j) (spot_lt hl h0s hs2 o)).2.2.1]
theorem len_bd {hs : List (List Nat)} {n s : Nat} (hl : ∀ h ∈ hs, h.length ≤ n) (h0s : 0 < s) (hs2 : s ≤ n) (j o : Nat) : 0 < len hs n s j o ∧ len hs n s j o ≤ n := by
  obtain ⟨h1, h2, _⟩ := ord_spec (bk_isP hl j) (spot_lt hl h0s hs2 o)
  exact ⟨h1, h2⟩
end Mt

namespace K07
open PySem PySem.Spec PyProof.Rows L2 Dv
def top (i : Nat) : Stmt := PySem.Challenge.pw_borrowedmugs_k07_first_difference.main.body.getD i (.Pass ⟨0, 0, 0, 0⟩)
/-! ### is_name -/
abbrev s_is_name : Stmt := top 7
def N_is_name : List Str := ["value", "letter"]
theorem sc_is_name : FnScope N_is_name ["value"] (defScope s_is_name) := ⟨rfl, rfl, rfl, by decide +kernel, rfl, by decide +kernel, by decide +kernel⟩
def b_is_name : Ss := (.cons (.ifs (.or (.not (.isi (.var 0) [.str])) (.not (.chn .le .le (.cst (.int 1)) (.bi .len false (.cons (.var 0) .nil)) (.cst (.int (8)))))) (.cons (.ret (.cst (.bl false))) .nil) .nil) (.cons (.ret (.bi .all false (.cons (.cmpr false (.cmp .inn (.var 1) (.cst (.str (Str.ofString "abcdefghijklmnopqrstuvwxyz")))) (.nm 1) (.seq (.var 0)) (.cst (.bl true)) [1]) .nil))) .nil))
theorem d_is_name (C : Cs) (E : XK) (h_isinstance : C.mg "isinstance" = none) (h_str : C.mg "str" = none) (h_len : C.mg "len" = none) (hG_MAX_LETTERS : ∃ t, C.mg "MAX_LETTERS" = some (.int 8 t)) (hG_LETTERS : ∃ t, C.mg "LETTERS" = some (.str (Str.ofString "abcdefghijklmnopqrstuvwxyz") t)) (h_all : C.mg "all" = none) : DSs (C.at N_is_name (defScope s_is_name) E) (defBody s_is_name) (evSs C.g b_is_name) := by
  exact (dss_cons (ds_if (DW.dt (dw_or (dt_not (dt_val (de_isi1 rfl h_isinstance rfl h_str (by decide +kernel) (by decide) (by decide) (de_v 0) rfl) (fun _ _ => rfl))) (dw_or1 (dt_not (dt_chn (o := .le) (p := .le) de_int (de_bi (b := .len) (mu := false) rfl h_len (da_cons (de_v 0) da_nil rfl) rfl) (de_glob (v := .int (8)) rfl hG_MAX_LETTERS.choose_spec ⟨_, rfl⟩ (.int _) (by decide)) (by rfl)))))) (dss_cons (ds_ret de_bl)
  dss_nil) dss_nil)
  (dss_cons (ds_ret (de_bi (b := .all) (mu := false) rfl h_all (da_cons (de_lcE (own := [("letter", 1)]) (mu := false) (by rfl) (di_seq (de_v 0)) (dg_n 1) dts_nil (de_cmp (o := .inn) (de_v 1) (de_glob (v := .str (Str.ofString "abcdefghijklmnopqrstuvwxyz")) rfl hG_LETTERS.choose_spec ⟨_, rfl⟩ (.str _) (by decide)) (by rfl)) (by decide) (fun _ _ => rfl)) da_nil rfl) rfl))
  dss_nil))
/-! ### is_habit -/
abbrev s_is_habit : Stmt := top 8
def N_is_habit : List Str := ["count", "size", "habit", "index", "depth"]
theorem sc_is_habit : FnScope N_is_habit ["count", "size", "habit"] (defScope s_is_habit) := ⟨rfl, rfl, rfl, by decide +kernel, rfl, by decide +kernel, by decide +kernel⟩
def b_is_habit : Ss := (.cons (.ifs (.or (.cmp .ne (.bi .len false (.cons (.var 2) .nil)) (.var 1)) (.not (.chn .le .le (.cst (.int 1)) (.var 1) (.var 0)))) (.cons (.ret (.cst (.bl false))) .nil) .nil) (.cons (.ret (.bi .all false (.cons (.cmpr false (.chn .le .le (.cst (.int 0)) (.var 4) (.bop .add false (.bop .sub false (.var 0) (.var 1)) (.var 3))) (.tp (.cons (.nm 3) (.cons (.nm 4) .nil))) (.enu (.var 2)) (.cst (.bl true)) [3, 4]) .nil))) .nil))
theorem d_is_habit (C : Cs) (E : XK) (h_len : C.mg "len" = none) (h_enumerate : C.mg "enumerate" = none) (h_all : C.mg "all" = none) : DSs (C.at N_is_habit (defScope s_is_habit) E) (defBody s_is_habit) (evSs C.g b_is_habit) := by
  exact (dss_cons (ds_if (DW.dt (dw_or (dt_cmp (o := .ne) (de_bi (b := .len) (mu := false) rfl h_len (da_cons (de_v 2) da_nil rfl) rfl) (de_v 1) (by rfl)) (dw_or1 (dt_not (dt_chn (o := .le) (p := .le) de_int (de_v 1) (de_v 0) (by rfl)))))) (dss_cons (ds_ret de_bl)
  dss_nil) dss_nil)
  (dss_cons (ds_ret (de_bi (b := .all) (mu := false) rfl h_all (da_cons (de_lcE (own := [("index", 3), ("depth", 4)]) (mu := false) (by rfl) (di_enu rfl h_enumerate (de_v 2) rfl) (dg_tup (dgs_cons (dg_n 3) (dgs_cons (dg_n 4) dgs_nil (fun _ => rfl)) (fun _ => rfl)) (fun _ => rfl) (fun _ => rfl)) dts_nil (de_chn' (o := .le) (p := .le) de_int (de_v 4) (de_bop (o := .add) (mu := false) (de_bop (o := .sub) (mu := false) (de_v 0) (de_v 1)) (de_v 3)) (by rfl)) (by decide) (fun _ _ => rfl)) da_nil rfl) rfl))
  dss_nil))
/-! ### Kitchen___init__ -/
abbrev s_Kitchen___init__ : Stmt := inClass (top 9) 2
def N_Kitchen___init__ : List Str := ["self", "mugs", "habits", "index", "mug", "habit"]
theorem sc_Kitchen___init__ : FnScope N_Kitchen___init__ ["self", "mugs", "habits"] (defScope s_Kitchen___init__) := ⟨rfl, rfl, rfl, by decide +kernel, rfl, by decide +kernel, by decide +kernel⟩
def b_Kitchen___init___1 : Ss := (.cons (.ifs (.or (.not (.cal 0 (.cons (.var 4) .nil))) (.cmp .inn (.var 4) (.sl false (.var 1) .non (.some (.var 3))))) (.cons .never .nil) .nil) .nil)
def b_Kitchen___init___2 : Ss := (.cons (.ifs (.not (.cal 1 (.cons (.bi .len false (.cons (.var 1) .nil)) (.cons (.bi .len false (.cons (.ix (.var 2) (.cst (.int 0))) .nil)) (.cons (.var 5) .nil))))) (.cons .never .nil) .nil) .nil)
def b_Kitchen___init__ : Ss := (.cons (.ifs (.not (.chn .le .le (.cst (.int 2)) (.bi .len false (.cons (.var 1) .nil)) (.cst (.int 12)))) (.cons .never .nil) .nil) (.cons (.forr (.tp (.cons (.nm 3) (.cons (.nm 4) .nil))) (.enu (.var 1)) b_Kitchen___init___1) (.cons (.ifs (.not (.chn .le .le (.cst (.int 1)) (.bi .len false (.cons (.var 2) .nil)) (.cst (.int 6)))) (.cons .never .nil) .nil) (.cons (.forr (.tp (.cons (.nm 3) (.cons (.nm 5) .nil))) (.enu (.var 2)) b_Kitchen___init___2) (.cons (.stf (.var 0) "shelf" (.var 1)) (.cons (.stf (.var 0) "customs" (.var 2)) .nil))))))
theorem d_Kitchen___init__ (C : Cs) (E : XK) (hnm : C.g.nm = C.T.nm) (h_len : C.mg "len" = none) (hC_Kitchen_MAX_MUGS : CvE C "Kitchen" "MAX_MUGS" (.int 12)) (h_enumerate : C.mg "enumerate" = none) (hF_is_name : FnE C "is_name" 1 0) (hC_Kitchen_MAX_WASHERS : CvE C "Kitchen" "MAX_WASHERS" (.int 6)) (hF_is_habit : FnE C "is_habit" 3 1) (hA_shelf : AttOk C "shelf") (hA_customs : AttOk C "customs") : DSs (C.at N_Kitchen___init__ (defScope s_Kitchen___init__) E) (defBody s_Kitchen___init__) (evSs C.g b_Kitchen___init__) := by
  exact (dss_cons (ds_if (dt_not (dt_chn (o := .le) (p := .le) de_int (de_bi (b := .len) (mu := false) rfl h_len (da_cons (de_v 1) da_nil rfl) rfl) (de_cval rfl hC_Kitchen_MAX_MUGS (by decide)) (by rfl))) dss_never dss_nil)
  (dss_cons (ds_for (di_enu rfl h_enumerate (de_v 1) rfl) (dg_tup (dgs_cons (dg_n 3) (dgs_cons (dg_n 4) dgs_nil (fun _ => rfl)) (fun _ => rfl)) (fun _ => rfl) (fun _ => rfl)) (dss_cons (ds_if (DW.dt (dw_or (dt_not (dt_val (de_cal hF_is_name rfl (da_cons (de_v 4) da_nil rfl) rfl (by decide)) (fun _ _ => rfl))) (dw_or1 (dt_cmp (o := .inn) (de_v 4) (de_sl (mu := false) (de_v 1) do_none (do_some (de_v 3))) (by rfl))))) dss_never dss_nil)
  dss_nil) (fun _ _ => rfl))
  (dss_cons (ds_if (dt_not (dt_chn (o := .le) (p := .le) de_int (de_bi (b := .len) (mu := false) rfl h_len (da_cons (de_v 2) da_nil rfl) rfl) (de_cval rfl hC_Kitchen_MAX_WASHERS (by decide)) (by rfl))) dss_never dss_nil)
  (dss_cons (ds_for (di_enu rfl h_enumerate (de_v 2) rfl) (dg_tup (dgs_cons (dg_n 3) (dgs_cons (dg_n 5) dgs_nil (fun _ => rfl)) (fun _ => rfl)) (fun _ => rfl) (fun _ => rfl)) (dss_cons (ds_if (dt_not (dt_val (de_cal hF_is_habit rfl (da_cons (de_bi (b := .len) (mu := false) rfl h_len (da_cons (de_v 1) da_nil rfl) rfl) (da_cons (de_bi (b := .len) (mu := false) rfl h_len (da_cons (de_ix (de_v 2) de_int (fun _ _ => rfl)) da_nil rfl) rfl) (da_cons (de_v 5) da_nil rfl) rfl) rfl) rfl (by decide)) (fun _ _ => rfl))) dss_never dss_nil)
  dss_nil) (fun _ _ => rfl))
  (dss_cons (ds_stf hA_shelf hnm (de_v 1) (de_v 0) (fun _ => rfl))
  (dss_cons (ds_stf hA_customs hnm (de_v 2) (de_v 0) (fun _ => rfl))
  dss_nil))))))
/-! ### Kitchen_mugs -/
abbrev s_Kitchen_mugs : Stmt := inClass (top 9) 4
def N_Kitchen_mugs : List Str := ["self"]
theorem sc_Kitchen_mugs : FnScope N_Kitchen_mugs ["self"] (defScope s_Kitchen_mugs) := ⟨rfl, rfl, rfl, by decide +kernel, rfl, by decide +kernel, by decide +kernel⟩
def b_Kitchen_mugs : Ss := (.cons (.ret (.att (.var 0) "shelf")) .nil)
theorem d_Kitchen_mugs (C : Cs) (E : XK) (hnm : C.g.nm = C.T.nm) (hA_shelf : AttOk C "shelf") : DSs (C.at N_Kitchen_mugs (defScope s_Kitchen_mugs) E) (defBody s_Kitchen_mugs) (evSs C.g b_Kitchen_mugs) := by
  exact (dss_cons (ds_ret (de_att hA_shelf hnm (de_v 0) rfl))
  dss_nil)
/-! ### Kitchen_habits -/
abbrev s_Kitchen_habits : Stmt := inClass (top 9) 5
def N_Kitchen_habits : List Str := ["self"]
theorem sc_Kitchen_habits : FnScope N_Kitchen_habits ["self"] (defScope s_Kitchen_habits) := ⟨rfl, rfl, rfl, by decide +kernel, rfl, by decide +kernel, by decide +kernel⟩
def b_Kitchen_habits : Ss := (.cons (.ret (.att (.var 0) "customs")) .nil)
theorem d_Kitchen_habits (C : Cs) (E : XK) (hnm : C.g.nm = C.T.nm) (hA_customs : AttOk C "customs") : DSs (C.at N_Kitchen_habits (defScope s_Kitchen_habits) E) (defBody s_Kitchen_habits) (evSs C.g b_Kitchen_habits) := by
  exact (dss_cons (ds_ret (de_att hA_customs hnm (de_v 0) rfl))
  dss_nil)
/-! ### Kitchen_sink_size -/
abbrev s_Kitchen_sink_size : Stmt := inClass (top 9) 6
def N_Kitchen_sink_size : List Str := ["self"]
theorem sc_Kitchen_sink_size : FnScope N_Kitchen_sink_size ["self"] (defScope s_Kitchen_sink_size) := ⟨rfl, rfl, rfl, by decide +kernel, rfl, by decide +kernel, by decide +kernel⟩
def b_Kitchen_sink_size : Ss := (.cons (.ret (.bi .len false (.cons (.ix (.att (.var 0) "customs") (.cst (.int 0))) .nil))) .nil)
theorem d_Kitchen_sink_size (C : Cs) (E : XK) (hnm : C.g.nm = C.T.nm) (hA_customs : AttOk C "customs") (h_len : C.mg "len" = none) : DSs (C.at N_Kitchen_sink_size (defScope s_Kitchen_sink_size) E) (defBody s_Kitchen_sink_size) (evSs C.g b_Kitchen_sink_size) := by
  exact (dss_cons (ds_ret (de_bi (b := .len) (mu := false) rfl h_len (da_cons (de_ix (de_att hA_customs hnm (de_v 0) rfl) de_int (fun _ _ => rfl)) da_nil rfl) rfl))
  dss_nil)
/-! ### put_back -/
abbrev s_put_back : Stmt := top 11
def N_put_back : List Str := ["shelf", "sink", "habit", "found", "mug", "depth"]
theorem sc_put_back : FnScope N_put_back ["shelf", "sink", "habit"] (defScope s_put_back) := ⟨rfl, rfl, rfl, by decide +kernel, rfl, by decide +kernel, by decide +kernel⟩
def b_put_back_1 : Ss := (.cons (.expr (.mth .insert (.var 3) (.cons (.var 5) (.cons (.var 4) .nil)))) .nil)
def b_put_back : Ss := (.cons (.asg (.nm 3) (.bi .list true (.cons (.var 0) .nil))) (.cons (.forr (.tp (.cons (.nm 4) (.cons (.nm 5) .nil))) (.zip (.var 1) (.var 2)) b_put_back_1) (.cons (.ret (.var 3)) .nil)))
theorem d_put_back (C : Cs) (E : XK) (h_list : C.mg "list" = none) (h_zip : C.mg "zip" = none) : DSs (C.at N_put_back (defScope s_put_back) E) (defBody s_put_back) (evSs C.g b_put_back) := by
  exact (dss_cons (ds_s 3 (de_bi (b := .list) (mu := true) rfl h_list (da_cons (de_v 0) da_nil rfl) rfl))
  (dss_cons (ds_for (di_zip rfl h_zip (de_v 1) (de_v 2) rfl rfl) (dg_tup (dgs_cons (dg_n 4) (dgs_cons (dg_n 5) dgs_nil (fun _ => rfl)) (fun _ => rfl)) (fun _ => rfl) (fun _ => rfl)) (dss_cons (ds_expr (de_mth1 (f := .insert) (de_v 3) (da_cons (de_v 5) (da_cons (de_v 4) da_nil rfl) rfl) rfl rfl (by decide) rfl) (fun _ => rfl))
  dss_nil) (fun _ _ => rfl))
  (dss_cons (ds_ret (de_v 3))
  dss_nil)))
/-! ### inverse_of -/
abbrev s_inverse_of : Stmt := top 12
def N_inverse_of : List Str := ["places", "found", "place", "goal"]
theorem sc_inverse_of : FnScope N_inverse_of ["places"] (defScope s_inverse_of) := ⟨rfl, rfl, rfl, by decide +kernel, rfl, by decide +kernel, by decide +kernel⟩
def b_inverse_of_1 : Ss := (.cons (.sti (.var 1) (.var 3) (.var 2)) .nil)
def b_inverse_of : Ss := (.cons (.asg (.nm 1) (.bop .mul true (.lst false (.cons (.cst (.int 0)) .nil)) (.bi .len false (.cons (.var 0) .nil)))) (.cons (.forr (.tp (.cons (.nm 2) (.cons (.nm 3) .nil))) (.enu (.var 0)) b_inverse_of_1) (.cons (.ret (.bi .tuple false (.cons (.var 1) .nil))) .nil)))
theorem d_inverse_of (C : Cs) (E : XK) (h_len : C.mg "len" = none) (h_enumerate : C.mg "enumerate" = none) (h_tuple : C.mg "tuple" = none) : DSs (C.at N_inverse_of (defScope s_inverse_of) E) (defBody s_inverse_of) (evSs C.g b_inverse_of) := by
  exact (dss_cons (ds_s 1 (de_bop (o := .mul) (mu := true) (de_lst (mu := false) (da_cons de_int da_nil rfl)) (de_bi (b := .len) (mu := false) rfl h_len (da_cons (de_v 0) da_nil rfl) rfl)))
  (dss_cons (ds_for (di_enu rfl h_enumerate (de_v 0) rfl) (dg_tup (dgs_cons (dg_n 2) (dgs_cons (dg_n 3) dgs_nil (fun _ => rfl)) (fun _ => rfl)) (fun _ => rfl) (fun _ => rfl)) (dss_cons (ds_sti (de_v 2) (de_v 1) (de_v 3) (fun _ _ => rfl) (fun _ => rfl) (fun _ => rfl) (fun _ => rfl))
  dss_nil) (fun _ _ => rfl))
  (dss_cons (ds_ret (de_bi (b := .tuple) (mu := false) rfl h_tuple (da_cons (de_v 1) da_nil rfl) rfl))
  dss_nil)))
/-! ### map_of -/
abbrev s_map_of : Stmt := top 13
def N_map_of : List Str := ["count", "habit", "size"]
theorem sc_map_of : FnScope N_map_of ["count", "habit"] (defScope s_map_of) := ⟨rfl, rfl, rfl, by decide +kernel, rfl, by decide +kernel, by decide +kernel⟩
def b_map_of : Ss := (.cons (.asg (.nm 2) (.bi .len false (.cons (.var 1) .nil))) (.cons (.ret (.cal 7 (.cons (.cal 6 (.cons (.rgl true false (.rg2 (.var 2) (.var 0))) (.cons (.rgl true false (.rg1 (.var 2))) (.cons (.var 1) .nil)))) .nil))) .nil))
theorem d_map_of (C : Cs) (E : XK) (h_len : C.mg "len" = none) (h_range : C.mg "range" = none) (h_list : C.mg "list" = none) (hF_put_back : FnE C "put_back" 3 6) (hF_inverse_of : FnE C "inverse_of" 1 7) : DSs (C.at N_map_of (defScope s_map_of) E) (defBody s_map_of) (evSs C.g b_map_of) := by
  exact (dss_cons (ds_s 2 (de_bi (b := .len) (mu := false) rfl h_len (da_cons (de_v 1) da_nil rfl) rfl))
  (dss_cons (ds_ret (de_cal hF_inverse_of rfl (da_cons (de_cal hF_put_back rfl (da_cons (de_listRg (mu := false) rfl h_list (dr_2 rfl h_range (de_v 2) (de_v 0) rfl rfl) rfl) (da_cons (de_listRg (mu := false) rfl h_list (dr_1 rfl h_range (de_v 2) rfl) rfl) (da_cons (de_v 1) da_nil rfl) rfl) rfl) rfl (by decide)) da_nil rfl) rfl (by decide)))
  dss_nil))
/-! ### cycles_of -/
abbrev s_cycles_of : Stmt := top 14
def N_cycles_of : List Str := ["places", "found", "start", "cycle", "place"]
theorem sc_cycles_of : FnScope N_cycles_of ["places"] (defScope s_cycles_of) := ⟨rfl, rfl, rfl, by decide +kernel, rfl, by decide +kernel, by decide +kernel⟩
def b_cycles_of_2 : Ss := (.cons (.expr (.mth .append (.var 3) (.cons (.var 4) .nil))) (.cons (.asg (.nm 4) (.ix (.var 0) (.var 4))) .nil))
def b_cycles_of_1 : Ss := (.cons (.asg (.tp (.cons (.nm 3) (.cons (.nm 4) .nil))) (.tup (.cons (.lst true (.cons (.var 2) .nil)) (.cons (.ix (.var 0) (.var 2)) .nil)))) (.cons (.whl 100000 (.cmp .ne (.var 4) (.var 2)) b_cycles_of_2) (.cons (.expr (.mth .append (.var 1) (.cons (.var 3) .nil))) .nil)))
def b_cycles_of : Ss := (.cons (.asg (.nm 1) (.lst true .nil)) (.cons (.forr (.nm 2) (.rg1 (.bi .len false (.cons (.var 0) .nil))) b_cycles_of_1) (.cons (.ret (.var 1)) .nil)))
theorem d_cycles_of (C : Cs) (E : XK) (h_len : C.mg "len" = none) (h_range : C.mg "range" = none) : DSs (C.at N_cycles_of (defScope s_cycles_of) E) (defBody s_cycles_of) (evSs C.g b_cycles_of) := by
  exact (dss_cons (ds_s 1 (de_lst (mu := true) da_nil))
  (dss_cons (ds_for (di_rg1 rfl h_range (de_bi (b := .len) (mu := false) rfl h_len (da_cons (de_v 0) da_nil rfl) rfl) rfl) (dg_n 2) (dss_cons (ds_par (i := 3) (j := 4) rfl rfl (by decide) rfl rfl (de_lst (mu := true) (da_cons (de_v 2) da_nil rfl)) (de_ix (de_v 0) (de_v 2) (fun _ _ => rfl)) rfl rfl (fun _ => rfl) (fun _ => rfl))
  (dss_cons (ds_while (n := 100000) (dt_cmp (o := .ne) (de_v 4) (de_v 2) (by rfl)) (dss_cons (ds_expr (de_mth1 (f := .append) (de_v 3) (da_cons (de_v 4) da_nil rfl) rfl rfl (by decide) rfl) (fun _ => rfl))
  (dss_cons (ds_s 4 (de_ix (de_v 0) (de_v 4) (fun _ _ => rfl)))
  dss_nil)))
  (dss_cons (ds_expr (de_mth1 (f := .append) (de_v 1) (da_cons (de_v 3) da_nil rfl) rfl rfl (by decide) rfl) (fun _ => rfl))
  dss_nil))) (fun _ _ => rfl))
  (dss_cons (ds_ret (de_v 1))
  dss_nil)))
/-! ### round_cups -/
abbrev s_round_cups : Stmt := top 15
def N_round_cups : List Str := ["kitchen"]
theorem sc_round_cups : FnScope N_round_cups ["kitchen"] (defScope s_round_cups) := ⟨rfl, rfl, rfl, by decide +kernel, rfl, by decide +kernel, by decide +kernel⟩
def b_round_cups : Ss := (.cons (.ret (.bop .mul false (.att (.var 0) "sink_size") (.bi .len false (.cons (.att (.var 0) "habits") .nil)))) .nil)
theorem d_round_cups (C : Cs) (E : XK) (hnm : C.g.nm = C.T.nm) (hA_sink_size : AttOk C "sink_size") (hA_habits : AttOk C "habits") (h_len : C.mg "len" = none) : DSs (C.at N_round_cups (defScope s_round_cups) E) (defBody s_round_cups) (evSs C.g b_round_cups) := by
  exact (dss_cons (ds_ret (de_bop (o := .mul) (mu := false) (de_att hA_sink_size hnm (de_v 0) rfl) (de_bi (b := .len) (mu := false) rfl h_len (da_cons (de_att hA_habits hnm (de_v 0) rfl) da_nil rfl) rfl)))
  dss_nil)
/-! ### greatest_common_divisor -/
abbrev s_greatest_common_divisor : Stmt := top 17
def N_greatest_common_divisor : List Str := ["one", "other"]
theorem sc_greatest_common_divisor : FnScope N_greatest_common_divisor ["one", "other"] (defScope s_greatest_common_divisor) := ⟨rfl, rfl, rfl, by decide +kernel, rfl, by decide +kernel, by decide +kernel⟩
def b_greatest_common_divisor_1 : Ss := (.cons (.asg (.tp (.cons (.nm 0) (.cons (.nm 1) .nil))) (.tup (.cons (.var 1) (.cons (.bop .mod false (.var 0) (.var 1)) .nil)))) .nil)
def b_greatest_common_divisor : Ss := (.cons (.whl 100000 (.cmp .ne (.var 1) (.cst (.int 0))) b_greatest_common_divisor_1) (.cons (.ret (.var 0)) .nil))
theorem d_greatest_common_divisor (C : Cs) (E : XK)  : DSs (C.at N_greatest_common_divisor (defScope s_greatest_common_divisor) E) (defBody s_greatest_common_divisor) (evSs C.g b_greatest_common_divisor) := by
  exact (dss_cons (ds_while (n := 100000) (dt_cmp (o := .ne) (de_v 1) de_int (by rfl)) (dss_cons (ds_par (i := 0) (j := 1) rfl rfl (by decide) rfl rfl (de_v 1) (de_bop (o := .mod) (mu := false) (de_v 0) (de_v 1)) rfl rfl (fun _ => rfl) (fun _ => rfl))
  dss_nil))
  (dss_cons (ds_ret (de_v 0))
  dss_nil))
/-! ### names_by_offset -/
abbrev s_names_by_offset : Stmt := top 18
def N_names_by_offset : List Str := ["kitchen", "block", "count", "size", "turns", "ways", "spots", "turn", "habit", "place", "moves", "back", "rings", "cycle", "spot"]
theorem sc_names_by_offset : FnScope N_names_by_offset ["kitchen", "block"] (defScope s_names_by_offset) := ⟨rfl, rfl, rfl, by decide +kernel, rfl, by decide +kernel, by decide +kernel⟩
def b_names_by_offset_2 : Ss := (.cons (.expr (.mth .extend (.var 6) (.cons (.cmpr false (.mth .index (.var 5) (.cons (.var 9) .nil)) (.nm 9) (.rg1 (.var 3)) (.cst (.bl true)) [9]) .nil))) (.cons (.asg (.nm 10) (.cal 8 (.cons (.var 2) (.cons (.var 8) .nil)))) (.cons (.asg (.nm 5) (.cmpr false (.ix (.var 10) (.var 9)) (.nm 9) (.seq (.var 5)) (.cst (.bl true)) [9])) .nil)))
def b_names_by_offset_1 : Ss := (.cons (.forr (.nm 8) (.seq (.att (.var 0) "habits")) b_names_by_offset_2) .nil)
def b_names_by_offset : Ss := (.cons (.asg (.tp (.cons (.nm 2) (.cons (.nm 3) .nil))) (.tup (.cons (.bi .len false (.cons (.att (.var 0) "mugs") .nil)) (.cons (.att (.var 0) "sink_size") .nil)))) (.cons (.asg (.nm 4) (.bop .fdiv false (.var 1) (.cal 10 (.cons (.var 0) .nil)))) (.cons (.asg (.nm 5) (.rgl true false (.rg1 (.var 2)))) (.cons (.asg (.nm 6) (.lst true .nil)) (.cons (.forr (.nm 7) (.rg1 (.var 4)) b_names_by_offset_1) (.cons (.asg (.nm 11) (.cmpr false (.mth .index (.var 5) (.cons (.var 9) .nil)) (.nm 9) (.rg1 (.var 2)) (.cst (.bl true)) [9])) (.cons (.asg (.nm 12) (.cmpr false (.cmpr false (.ix (.att (.var 0) "mugs") (.var 9)) (.nm 9) (.seq (.var 13)) (.cst (.bl true)) [9]) (.nm 13) (.seq (.cal 9 (.cons (.bi .tuple false (.cons (.var 11) .nil)) .nil))) (.cst (.bl true)) [13])) (.cons (.ret (.cmpr false (.ix (.var 12) (.var 14)) (.nm 14) (.seq (.var 6)) (.cst (.bl true)) [14])) .nil))))))))
theorem d_names_by_offset (C : Cs) (E : XK) (hnm : C.g.nm = C.T.nm) (hA_mugs : AttOk C "mugs") (h_len : C.mg "len" = none) (hA_sink_size : AttOk C "sink_size") (hF_round_cups : FnE C "round_cups" 1 10) (h_range : C.mg "range" = none) (h_list : C.mg "list" = none) (hA_habits : AttOk C "habits") (hF_map_of : FnE C "map_of" 2 8) (h_tuple : C.mg "tuple" = none) (hF_cycles_of : FnE C "cycles_of" 1 9) : DSs (C.at N_names_by_offset (defScope s_names_by_offset) E) (defBody s_names_by_offset) (evSs C.g b_names_by_offset) := by
  exact (dss_cons (ds_par (i := 2) (j := 3) rfl rfl (by decide) rfl rfl (de_bi (b := .len) (mu := false) rfl h_len (da_cons (de_att hA_mugs hnm (de_v 0) rfl) da_nil rfl) rfl) (de_att hA_sink_size hnm (de_v 0) rfl) rfl rfl (fun _ => rfl) (fun _ => rfl))
  (dss_cons (ds_s 4 (de_bop (o := .fdiv) (mu := false) (de_v 1) (de_cal hF_round_cups rfl (da_cons (de_v 0) da_nil rfl) rfl (by decide))))
  (dss_cons (ds_s 5 (de_listRg (mu := false) rfl h_list (dr_1 rfl h_range (de_v 2) rfl) rfl))
  (dss_cons (ds_s 6 (de_lst (mu := true) da_nil))
  (dss_cons (ds_for (di_rg1 rfl h_range (de_v 4) rfl) (dg_n 7) (dss_cons (ds_for (di_seq (de_att hA_habits hnm (de_v 0) rfl)) (dg_n 8) (dss_cons (ds_expr (de_mth1 (f := .extend) (de_v 6) (da_cons (de_lcE (own := [("place", 9)]) (mu := false) (by rfl) (di_rg1 rfl h_range (de_v 3) rfl) (dg_n 9) dts_nil (de_mth1 (f := .index) (de_v 5) (da_cons (de_v 9) da_nil rfl) rfl rfl (by decide) rfl) (by decide) (fun _ _ => rfl)) da_nil rfl) rfl rfl (by decide) rfl) (fun _ => rfl))
  (dss_cons (ds_s 10 (de_cal hF_map_of rfl (da_cons (de_v 2) (da_cons (de_v 8) da_nil rfl) rfl) rfl (by decide)))
  (dss_cons (ds_s 5 (de_lcE (own := [("place", 9)]) (mu := false) (by rfl) (di_seq (de_v 5)) (dg_n 9) dts_nil (de_ix (de_v 10) (de_v 9) (fun _ _ => rfl)) (by decide) (fun _ _ => rfl)))
  dss_nil))) (fun _ _ => rfl))
  dss_nil) (fun _ _ => rfl))
  (dss_cons (ds_setLc (i := 11) rfl rfl (fun env => sw_true (by rfl) (by rfl) (by rfl) (by rfl)) (own := [("place", 9)]) (mu := false) (by rfl) (di_rg1 rfl h_range (de_v 2) rfl) (dg_n 9) dts_nil (de_mth1 (f := .index) (de_v 5) (da_cons (de_v 9) da_nil rfl) rfl rfl (by decide) rfl) (by decide) (fun _ _ => rfl))
  (dss_cons (ds_s 12 (de_lcE (own := [("cycle", 13)]) (mu := false) (by rfl) (di_seq (de_cal hF_cycles_of rfl (da_cons (de_bi (b := .tuple) (mu := false) rfl h_tuple (da_cons (de_v 11) da_nil rfl) rfl) da_nil rfl) rfl (by decide))) (dg_n 13) dts_nil (de_lcE (own := [("place", 9)]) (mu := false) (by rfl) (di_seq (de_v 13)) (dg_n 9) dts_nil (de_ix (de_att hA_mugs hnm (de_v 0) rfl) (de_v 9) (fun _ _ => rfl)) (by decide) (fun _ _ => rfl)) (by decide) (fun _ _ => rfl)))
  (dss_cons (ds_ret (de_lcE (own := [("spot", 14)]) (mu := false) (by rfl) (di_seq (de_v 6)) (dg_n 14) dts_nil (de_ix (de_v 12) (de_v 14) (fun _ _ => rfl)) (by decide) (fun _ _ => rfl)))
  dss_nil))))))))
/-! ### first_difference -/
abbrev s_first_difference : Stmt := top 19
def N_first_difference : List Str := ["kitchen", "other", "one", "two", "block", "found", "offset", "mine", "yours", "turn"]
theorem sc_first_difference : FnScope N_first_difference ["kitchen", "other"] (defScope s_first_difference) := ⟨rfl, rfl, rfl, by decide +kernel, rfl, by decide +kernel, by decide +kernel⟩
def b_first_difference_2 : Ss := (.cons (.ifs (.cmp .ne (.ix (.var 7) (.bop .mod false (.var 9) (.bi .len false (.cons (.var 7) .nil)))) (.ix (.var 8) (.bop .mod false (.var 9) (.bi .len false (.cons (.var 8) .nil))))) (.cons (.expr (.mth .append (.var 5) (.cons (.bop .add false (.bop .add false (.bop .mul false (.var 9) (.var 4)) (.var 6)) (.cst (.int 1))) .nil))) (.cons .brk .nil)) .nil) .nil)
def b_first_difference_1 : Ss := (.cons (.forr (.nm 9) (.rg1 (.bop .mul false (.bi .len false (.cons (.var 7) .nil)) (.bi .len false (.cons (.var 8) .nil)))) b_first_difference_2) .nil)
def b_first_difference : Ss := (.cons (.asg (.tp (.cons (.nm 2) (.cons (.nm 3) .nil))) (.tup (.cons (.cal 10 (.cons (.var 0) .nil)) (.cons (.cal 10 (.cons (.var 1) .nil)) .nil)))) (.cons (.asg (.nm 4) (.bop .mul false (.bop .fdiv false (.var 2) (.cal 11 (.cons (.var 2) (.cons (.var 3) .nil)))) (.var 3))) (.cons (.asg (.nm 5) (.lst true .nil)) (.cons (.forr (.tp (.cons (.nm 6) (.cons (.tp (.cons (.nm 7) (.cons (.nm 8) .nil))) .nil))) (.ezp (.cal 12 (.cons (.var 0) (.cons (.var 4) .nil))) (.cal 12 (.cons (.var 1) (.cons (.var 4) .nil)))) b_first_difference_1) (.cons (.ret (.ite (.cmp .ne (.var 5) (.lst false .nil)) (.bi .min false (.cons (.var 5) .nil)) (.cst .non))) .nil)))))
theorem d_first_difference (C : Cs) (E : XK) (hF_round_cups : FnE C "round_cups" 1 10) (hF_greatest_common_divisor : FnE C "greatest_common_divisor" 2 11) (hF_names_by_offset : FnE C "names_by_offset" 2 12) (h_enumerate : C.mg "enumerate" = none) (h_zip : C.mg "zip" = none) (h_len : C.mg "len" = none) (h_range : C.mg "range" = none) (h_min : C.mg "min" = none) : DSs (C.at N_first_difference (defScope s_first_difference) E) (defBody s_first_difference) (evSs C.g b_first_difference) := by
  exact (dss_cons (ds_par (i := 2) (j := 3) rfl rfl (by decide) rfl rfl (de_cal hF_round_cups rfl (da_cons (de_v 0) da_nil rfl) rfl (by decide)) (de_cal hF_round_cups rfl (da_cons (de_v 1) da_nil rfl) rfl (by decide)) rfl rfl (fun _ => rfl) (fun _ => rfl))
  (dss_cons (ds_s 4 (de_bop (o := .mul) (mu := false) (de_bop (o := .fdiv) (mu := false) (de_v 2) (de_cal hF_greatest_common_divisor rfl (da_cons (de_v 2) (da_cons (de_v 3) da_nil rfl) rfl) rfl (by decide))) (de_v 3)))
  (dss_cons (ds_s 5 (de_lst (mu := true) da_nil))
  (dss_cons (ds_for (di_ezp rfl h_enumerate rfl h_zip (de_cal hF_names_by_offset rfl (da_cons (de_v 0) (da_cons (de_v 4) da_nil rfl) rfl) rfl (by decide)) (de_cal hF_names_by_offset rfl (da_cons (de_v 1) (da_cons (de_v 4) da_nil rfl) rfl) rfl (by decide)) rfl rfl) (dg_tup (dgs_cons (dg_n 6) (dgs_cons (dg_tup (dgs_cons (dg_n 7) (dgs_cons (dg_n 8) dgs_nil (fun _ => rfl)) (fun _ => rfl)) (fun _ => rfl) (fun _ => rfl)) dgs_nil (fun _ => rfl)) (fun _ => rfl)) (fun _ => rfl) (fun _ => rfl)) (dss_cons (ds_for (di_rg1 rfl h_range (de_bop (o := .mul) (mu := false) (de_bi (b := .len) (mu := false) rfl h_len (da_cons (de_v 7) da_nil rfl) rfl) (de_bi (b := .len) (mu := false) rfl h_len (da_cons (de_v 8) da_nil rfl) rfl)) rfl) (dg_n 9) (dss_cons (ds_if (dt_cmp (o := .ne) (de_ix (de_v 7) (de_bop (o := .mod) (mu := false) (de_v 9) (de_bi (b := .len) (mu := false) rfl h_len (da_cons (de_v 7) da_nil rfl) rfl)) (fun _ _ => rfl)) (de_ix (de_v 8) (de_bop (o := .mod) (mu := false) (de_v 9) (de_bi (b := .len) (mu := false) rfl h_len (da_cons (de_v 8) da_nil rfl) rfl)) (fun _ _ => rfl)) (by rfl)) (dss_cons (ds_expr (de_mth1 (f := .append) (de_v 5) (da_cons (de_bop (o := .add) (mu := false) (de_bop (o := .add) (mu := false) (de_bop (o := .mul) (mu := false) (de_v 9) (de_v 4)) (de_v 6)) de_int) da_nil rfl) rfl rfl (by decide) rfl) (fun _ => rfl))
  (dss_cons ds_brk
  dss_nil)) dss_nil)
  dss_nil) (fun _ _ => rfl))
  dss_nil) (fun _ _ => rfl))
  (dss_cons (ds_ret (de_ite (dt_cmp (o := .ne) (de_v 5) (de_lst (mu := false) da_nil) (by rfl)) (de_bi (b := .min) (mu := false) rfl h_min (da_cons (de_v 5) da_nil rfl) rfl) de_non))
  dss_nil)))))
/-! ### _law_start -/
abbrev s__law_start : Stmt := top 21
def N__law_start : List Str := ["_law_script", "_law_mixed", "_law_cell"]
theorem sc__law_start : FnScope N__law_start ["_law_script"] (defScope s__law_start) := ⟨rfl, rfl, rfl, by decide +kernel, rfl, by decide +kernel, by decide +kernel⟩
def b__law_start_1 : Ss := (.cons (.asg (.nm 1) (.bop .mod true (.bop .add true (.bop .add true (.bop .mul true (.var 1) (.cst (.int 48271))) (.var 2)) (.cst (.int 7))) (.cst (.int 2147483647)))) .nil)
def b__law_start : Ss := (.cons (.asg (.nm 1) (.cst (.int 1))) (.cons (.forr (.nm 2) (.seq (.var 0)) b__law_start_1) (.cons (.ret (.lst true (.cons (.var 0) (.cons (.cst (.int 0)) (.cons (.var 1) (.cons (.cst (.int 0)) .nil)))))) .nil)))
theorem d__law_start (C : Cs) (E : XK)  : DSs (C.at N__law_start (defScope s__law_start) E) (defBody s__law_start) (evSs C.g b__law_start) := by
  exact (dss_cons (ds_s 1 de_int)
  (dss_cons (ds_for (di_seq (de_v 0)) (dg_n 2) (dss_cons (ds_s 1 (de_bop (o := .mod) (mu := true) (de_bop (o := .add) (mu := true) (de_bop (o := .add) (mu := true) (de_bop (o := .mul) (mu := true) (de_v 1) de_int) (de_v 2)) de_int) de_int))
  dss_nil) (fun _ _ => rfl))
  (dss_cons (ds_ret (de_lst (mu := true) (da_cons (de_v 0) (da_cons de_int (da_cons (de_v 1) (da_cons de_int da_nil rfl) rfl) rfl) rfl)))
  dss_nil)))
/-! ### _law_drawn -/
abbrev s__law_drawn : Stmt := top 22
def N__law_drawn : List Str := ["_law_state", "_law_count", "_law_result", "_law_cell"]
theorem sc__law_drawn : FnScope N__law_drawn ["_law_state", "_law_count"] (defScope s__law_drawn) := ⟨rfl, rfl, rfl, by decide +kernel, rfl, by decide +kernel, by decide +kernel⟩
def b__law_drawn : Ss := (.cons (.ifs (.cmp .gt (.ix (.var 0) (.cst (.int 3))) (.cst (.int 0))) (.cons (.asg (.nm 2) (.bop .mod false (.ix (.var 0) (.cst (.int 3))) (.var 1))) (.cons (.sti (.var 0) (.cst (.int 3)) (.bop .fdiv false (.ix (.var 0) (.cst (.int 3))) (.var 1))) (.cons (.ret (.var 2)) .nil))) .nil) (.cons (.sti (.var 0) (.cst (.int 1)) (.bop .add false (.ix (.var 0) (.cst (.int 1))) (.cst (.int 1)))) (.cons (.ifs (.cmp .le (.ix (.var 0) (.cst (.int 1))) (.bi .len false (.cons (.ix (.var 0) (.cst (.int 0))) .nil))) (.cons (.asg (.nm 3) (.ix (.ix (.var 0) (.cst (.int 0))) (.bop .sub false (.ix (.var 0) (.cst (.int 1))) (.cst (.int 1))))) (.cons (.sti (.var 0) (.cst (.int 3)) (.ite (.cmp .ge (.var 3) (.bop .pow false (.cst (.int 10)) (.cst (.int 18)))) (.bop .fdiv false (.var 3) (.var 1)) (.cst (.int 0)))) (.cons (.ret (.bop .mod false (.var 3) (.var 1))) .nil))) .nil) (.cons (.sti (.var 0) (.cst (.int 2)) (.bop .mod false (.bop .add false (.bop .mul false (.ix (.var 0) (.cst (.int 2))) (.cst (.int 48271))) (.cst (.int 11))) (.cst (.int 2147483647)))) (.cons (.ret (.bop .mod false (.bop .fdiv false (.ix (.var 0) (.cst (.int 2))) (.cst (.int 7))) (.var 1))) .nil)))))
theorem d__law_drawn (C : Cs) (E : XK) (h_len : C.mg "len" = none) : DSs (C.at N__law_drawn (defScope s__law_drawn) E) (defBody s__law_drawn) (evSs C.g b__law_drawn) := by
  exact (dss_cons (ds_if (dt_cmp (o := .gt) (de_ix (de_v 0) de_int (fun _ _ => rfl)) de_int (by rfl)) (dss_cons (ds_s 2 (de_bop (o := .mod) (mu := false) (de_ix (de_v 0) de_int (fun _ _ => rfl)) (de_v 1)))
  (dss_cons (ds_sti (de_bop (o := .fdiv) (mu := false) (de_ix (de_v 0) de_int (fun _ _ => rfl)) (de_v 1)) (de_v 0) de_int (fun _ _ => rfl) (fun _ => rfl) (fun _ => rfl) (fun _ => rfl))
  (dss_cons (ds_ret (de_v 2))
  dss_nil))) dss_nil)
  (dss_cons (ds_sti (de_bop (o := .add) (mu := false) (de_ix (de_v 0) de_int (fun _ _ => rfl)) de_int) (de_v 0) de_int (fun _ _ => rfl) (fun _ => rfl) (fun _ => rfl) (fun _ => rfl))
  (dss_cons (ds_if (dt_cmp (o := .le) (de_ix (de_v 0) de_int (fun _ _ => rfl)) (de_bi (b := .len) (mu := false) rfl h_len (da_cons (de_ix (de_v 0) de_int (fun _ _ => rfl)) da_nil rfl) rfl) (by rfl)) (dss_cons (ds_s 3 (de_ix (de_ix (de_v 0) de_int (fun _ _ => rfl)) (de_bop (o := .sub) (mu := false) (de_ix (de_v 0) de_int (fun _ _ => rfl)) de_int) (fun _ _ => rfl)))
  (dss_cons (ds_sti (de_ite (dt_cmp (o := .ge) (de_v 3) (de_bop (o := .pow) (mu := false) de_int de_int) (by rfl)) (de_bop (o := .fdiv) (mu := false) (de_v 3) (de_v 1)) de_int) (de_v 0) de_int (fun _ _ => rfl) (fun _ => rfl) (fun _ => rfl) (fun _ => rfl))
  (dss_cons (ds_ret (de_bop (o := .mod) (mu := false) (de_v 3) (de_v 1)))
  dss_nil))) dss_nil)
  (dss_cons (ds_sti (de_bop (o := .mod) (mu := false) (de_bop (o := .add) (mu := false) (de_bop (o := .mul) (mu := false) (de_ix (de_v 0) de_int (fun _ _ => rfl)) de_int) de_int) de_int) (de_v 0) de_int (fun _ _ => rfl) (fun _ => rfl) (fun _ => rfl) (fun _ => rfl))
  (dss_cons (ds_ret (de_bop (o := .mod) (mu := false) (de_bop (o := .fdiv) (mu := false) (de_ix (de_v 0) de_int (fun _ _ => rfl)) de_int) (de_v 1)))
  dss_nil)))))
/-! ### _law_same -/
abbrev s__law_same : Stmt := top 23
def N__law_same : List Str := ["_law_result", "_law_expected", "_law_k"]
theorem sc__law_same : FnScope N__law_same ["_law_result", "_law_expected"] (defScope s__law_same) := ⟨rfl, rfl, rfl, by decide +kernel, rfl, by decide +kernel, by decide +kernel⟩
def b__law_same : Ss := (.cons (.ifs (.isi (.var 1) [.tuple, .list]) (.cons (.ifs (.or (.not (.isi (.var 0) [.tuple, .list])) (.cmp .ne (.isi (.var 0) [.list]) (.isi (.var 1) [.list]))) (.cons (.ret (.cst (.bl false))) .nil) .nil) (.cons (.ifs (.cmp .ne (.bi .len false (.cons (.var 0) .nil)) (.bi .len false (.cons (.var 1) .nil))) (.cons (.ret (.cst (.bl false))) .nil) .nil) (.cons (.ret (.cmp .eq (.cmpr false (.var 2) (.nm 2) (.rg1 (.bi .len false (.cons (.var 1) .nil))) (.not (.cal 16 (.cons (.ix (.var 0) (.var 2)) (.cons (.ix (.var 1) (.var 2)) .nil)))) [2]) (.lst false .nil))) .nil))) .nil) (.cons (.ifs (.cmp .ne (.isi (.var 0) [.bool]) (.isi (.var 1) [.bool])) (.cons (.ret (.cst (.bl false))) .nil) .nil) (.cons (.ret (.and (.cmp .eq (.isi (.var 0) [.int]) (.isi (.var 1) [.int])) (.cmp .eq (.var 0) (.var 1)))) .nil)))
theorem d__law_same (C : Cs) (E : XK) (h_isinstance : C.mg "isinstance" = none) (h_list : C.mg "list" = none) (h_tuple : C.mg "tuple" = none) (h_len : C.mg "len" = none) (h_range : C.mg "range" = none) (hF__law_same : FnE C "_law_same" 2 16) (h_bool : C.mg "bool" = none) (h_int : C.mg "int" = none) : DSs (C.at N__law_same (defScope s__law_same) E) (defBody s__law_same) (evSs C.g b__law_same) := by
  exact (dss_cons (ds_if (dt_val (de_isiT (ts := [.tuple, .list]) rfl h_isinstance ⟨rfl, h_tuple, by decide +kernel, by decide, by decide, ⟨rfl, h_list, by decide +kernel, by decide, by decide, trivial⟩⟩ (by decide) (de_v 1) rfl) (fun _ _ => rfl)) (dss_cons (ds_if (DW.dt (dw_or (dt_not (dt_val (de_isiT (ts := [.tuple, .list]) rfl h_isinstance ⟨rfl, h_tuple, by decide +kernel, by decide, by decide, ⟨rfl, h_list, by decide +kernel, by decide, by decide, trivial⟩⟩ (by decide) (de_v 0) rfl) (fun _ _ => rfl))) (dw_or1 (dt_cmp (o := .ne) (de_isi1 rfl h_isinstance rfl h_list (by decide +kernel) (by decide) (by decide) (de_v 0) rfl) (de_isi1 rfl h_isinstance rfl h_list (by decide +kernel) (by decide) (by decide) (de_v 1) rfl) (by rfl))))) (dss_cons (ds_ret de_bl)
  dss_nil) dss_nil)
  (dss_cons (ds_if (dt_cmp (o := .ne) (de_bi (b := .len) (mu := false) rfl h_len (da_cons (de_v 0) da_nil rfl) rfl) (de_bi (b := .len) (mu := false) rfl h_len (da_cons (de_v 1) da_nil rfl) rfl) (by rfl)) (dss_cons (ds_ret de_bl)
  dss_nil) dss_nil)
  (dss_cons (ds_ret (de_cmp (o := .eq) (de_lcE (own := [("_law_k", 2)]) (mu := false) (by rfl) (di_rg1 rfl h_range (de_bi (b := .len) (mu := false) rfl h_len (da_cons (de_v 1) da_nil rfl) rfl) rfl) (dg_n 2) (dts_one (dt_not (dt_val (de_cal hF__law_same rfl (da_cons (de_ix (de_v 0) (de_v 2) (fun _ _ => rfl)) (da_cons (de_ix (de_v 1) (de_v 2) (fun _ _ => rfl)) da_nil rfl) rfl) rfl (by decide)) (fun _ _ => rfl)))) (de_v 2) (by decide) (fun _ _ => rfl)) (de_lst (mu := false) da_nil) (by rfl)))
  dss_nil))) dss_nil)
  (dss_cons (ds_if (dt_cmp (o := .ne) (de_isi1 rfl h_isinstance rfl h_bool (by decide +kernel) (by decide) (by decide) (de_v 0) rfl) (de_isi1 rfl h_isinstance rfl h_bool (by decide +kernel) (by decide) (by decide) (de_v 1) rfl) (by rfl)) (dss_cons (ds_ret de_bl)
  dss_nil) dss_nil)
  (dss_cons (ds_ret (de_and (de_cmp (o := .eq) (de_isi1 rfl h_isinstance rfl h_int (by decide +kernel) (by decide) (by decide) (de_v 0) rfl) (de_isi1 rfl h_isinstance rfl h_int (by decide +kernel) (by decide) (by decide) (de_v 1) rfl) (by rfl)) (de_one (de_cmp (o := .eq) (de_v 0) (de_v 1) (by rfl)))))
  dss_nil)))
/-! ### _law_random_names -/
abbrev s__law_random_names : Stmt := top 24
def N__law_random_names : List Str := ["_law_state", "_law_count", "_law_left", "_law_k"]
theorem sc__law_random_names : FnScope N__law_random_names ["_law_state", "_law_count"] (defScope s__law_random_names) := ⟨rfl, rfl, rfl, by decide +kernel, rfl, by decide +kernel, by decide +kernel⟩
def b__law_random_names : Ss := (.cons (.asg (.nm 2) (.lst true (.cons (.cst (.str (Str.ofString "a"))) (.cons (.cst (.str (Str.ofString "b"))) (.cons (.cst (.str (Str.ofString "old"))) (.cons (.cst (.str (Str.ofString "red"))) (.cons (.cst (.str (Str.ofString "blue"))) (.cons (.cst (.str (Str.ofString "tall"))) (.cons (.cst (.str (Str.ofString "tiny"))) (.cons (.cst (.str (Str.ofString "cracked"))) (.cons (.cst (.str (Str.ofString "z"))) (.cons (.cst (.str (Str.ofString "abcdefgh"))) (.cons (.cst (.str (Str.ofString "mine"))) (.cons (.cst (.str (Str.ofString "yours"))) .nil)))))))))))))) (.cons (.ret (.bi .tuple false (.cons (.cmpr false (.mth .pop (.var 2) (.cons (.cal 15 (.cons (.var 0) (.cons (.bi .len false (.cons (.var 2) .nil)) .nil))) .nil)) (.nm 3) (.rg1 (.var 1)) (.cst (.bl true)) [3]) .nil))) .nil))
theorem d__law_random_names (C : Cs) (E : XK) (h_range : C.mg "range" = none) (h_len : C.mg "len" = none) (hF__law_drawn : FnE C "_law_drawn" 2 15) (h_tuple : C.mg "tuple" = none) : DSs (C.at N__law_random_names (defScope s__law_random_names) E) (defBody s__law_random_names) (evSs C.g b__law_random_names) := by
  exact (dss_cons (ds_s 2 (de_lst (mu := true) (da_cons de_str (da_cons de_str (da_cons de_str (da_cons de_str (da_cons de_str (da_cons de_str (da_cons de_str (da_cons de_str (da_cons de_str (da_cons de_str (da_cons de_str (da_cons de_str da_nil rfl) rfl) rfl) rfl) rfl) rfl) rfl) rfl) rfl) rfl) rfl) rfl)))
  (dss_cons (ds_ret (de_bi (b := .tuple) (mu := false) rfl h_tuple (da_cons (de_lcE (own := [("_law_k", 3)]) (mu := false) (by rfl) (di_rg1 rfl h_range (de_v 1) rfl) (dg_n 3) dts_nil (de_mth1 (f := .pop) (de_v 2) (da_cons (de_cal hF__law_drawn rfl (da_cons (de_v 0) (da_cons (de_bi (b := .len) (mu := false) rfl h_len (da_cons (de_v 2) da_nil rfl) rfl) da_nil rfl) rfl) rfl (by decide)) da_nil rfl) rfl rfl (by decide) rfl) (by decide) (fun _ _ => rfl)) da_nil rfl) rfl))
  dss_nil))
/-! ### _law_random_habit -/
abbrev s__law_random_habit : Stmt := top 25
def N__law_random_habit : List Str := ["_law_state", "_law_count", "_law_size", "_law_branch", "_law_k"]
theorem sc__law_random_habit : FnScope N__law_random_habit ["_law_state", "_law_count", "_law_size"] (defScope s__law_random_habit) := ⟨rfl, rfl, rfl, by decide +kernel, rfl, by decide +kernel, by decide +kernel⟩
def b__law_random_habit : Ss := (.cons (.asg (.nm 3) (.cal 15 (.cons (.var 0) (.cons (.cst (.int 4)) .nil)))) (.cons (.ifs (.cmp .eq (.var 3) (.cst (.int 0))) (.cons (.ret (.bi .tuple false (.cons (.cmpr false (.bop .mul false (.cal 15 (.cons (.var 0) (.cons (.cst (.int 2)) .nil))) (.bop .add false (.bop .sub false (.var 1) (.var 2)) (.var 4))) (.nm 4) (.rg1 (.var 2)) (.cst (.bl true)) [4]) .nil))) .nil) .nil) (.cons (.ret (.bi .tuple false (.cons (.cmpr false (.cal 15 (.cons (.var 0) (.cons (.bop .add false (.bop .add false (.bop .sub false (.var 1) (.var 2)) (.var 4)) (.cst (.int 1))) .nil))) (.nm 4) (.rg1 (.var 2)) (.cst (.bl true)) [4]) .nil))) .nil)))
theorem d__law_random_habit (C : Cs) (E : XK) (hF__law_drawn : FnE C "_law_drawn" 2 15) (h_range : C.mg "range" = none) (h_tuple : C.mg "tuple" = none) : DSs (C.at N__law_random_habit (defScope s__law_random_habit) E) (defBody s__law_random_habit) (evSs C.g b__law_random_habit) := by
  exact (dss_cons (ds_s 3 (de_cal hF__law_drawn rfl (da_cons (de_v 0) (da_cons de_int da_nil rfl) rfl) rfl (by decide)))
  (dss_cons (ds_if (dt_cmp (o := .eq) (de_v 3) de_int (by rfl)) (dss_cons (ds_ret (de_bi (b := .tuple) (mu := false) rfl h_tuple (da_cons (de_lcE (own := [("_law_k", 4)]) (mu := false) (by rfl) (di_rg1 rfl h_range (de_v 2) rfl) (dg_n 4) dts_nil (de_bop (o := .mul) (mu := false) (de_cal hF__law_drawn rfl (da_cons (de_v 0) (da_cons de_int da_nil rfl) rfl) rfl (by decide)) (de_bop (o := .add) (mu := false) (de_bop (o := .sub) (mu := false) (de_v 1) (de_v 2)) (de_v 4))) (by decide) (fun _ _ => rfl)) da_nil rfl) rfl))
  dss_nil) dss_nil)
  (dss_cons (ds_ret (de_bi (b := .tuple) (mu := false) rfl h_tuple (da_cons (de_lcE (own := [("_law_k", 4)]) (mu := false) (by rfl) (di_rg1 rfl h_range (de_v 2) rfl) (dg_n 4) dts_nil (de_cal hF__law_drawn rfl (da_cons (de_v 0) (da_cons (de_bop (o := .add) (mu := false) (de_bop (o := .add) (mu := false) (de_bop (o := .sub) (mu := false) (de_v 1) (de_v 2)) (de_v 4)) de_int) da_nil rfl) rfl) rfl (by decide)) (by decide) (fun _ _ => rfl)) da_nil rfl) rfl))
  dss_nil)))
/-! ### _law_random_habits -/
abbrev s__law_random_habits : Stmt := top 26
def N__law_random_habits : List Str := ["_law_state", "_law_count", "_law_most", "_law_size", "_law_k"]
theorem sc__law_random_habits : FnScope N__law_random_habits ["_law_state", "_law_count", "_law_most"] (defScope s__law_random_habits) := ⟨rfl, rfl, rfl, by decide +kernel, rfl, by decide +kernel, by decide +kernel⟩
def b__law_random_habits : Ss := (.cons (.asg (.nm 3) (.bop .add false (.cst (.int 1)) (.cal 15 (.cons (.var 0) (.cons (.var 1) .nil))))) (.cons (.ret (.bi .tuple false (.cons (.cmpr false (.cal 18 (.cons (.var 0) (.cons (.var 1) (.cons (.var 3) .nil)))) (.nm 4) (.rg1 (.bop .add false (.cst (.int 1)) (.cal 15 (.cons (.var 0) (.cons (.var 2) .nil))))) (.cst (.bl true)) [4]) .nil))) .nil))
theorem d__law_random_habits (C : Cs) (E : XK) (hF__law_drawn : FnE C "_law_drawn" 2 15) (h_range : C.mg "range" = none) (hF__law_random_habit : FnE C "_law_random_habit" 3 18) (h_tuple : C.mg "tuple" = none) : DSs (C.at N__law_random_habits (defScope s__law_random_habits) E) (defBody s__law_random_habits) (evSs C.g b__law_random_habits) := by
  exact (dss_cons (ds_s 3 (de_bop (o := .add) (mu := false) de_int (de_cal hF__law_drawn rfl (da_cons (de_v 0) (da_cons (de_v 1) da_nil rfl) rfl) rfl (by decide))))
  (dss_cons (ds_ret (de_bi (b := .tuple) (mu := false) rfl h_tuple (da_cons (de_lcE (own := [("_law_k", 4)]) (mu := false) (by rfl) (di_rg1 rfl h_range (de_bop (o := .add) (mu := false) de_int (de_cal hF__law_drawn rfl (da_cons (de_v 0) (da_cons (de_v 2) da_nil rfl) rfl) rfl (by decide))) rfl) (dg_n 4) dts_nil (de_cal hF__law_random_habit rfl (da_cons (de_v 0) (da_cons (de_v 1) (da_cons (de_v 3) da_nil rfl) rfl) rfl) rfl (by decide)) (by decide) (fun _ _ => rfl)) da_nil rfl) rfl))
  dss_nil))
/-! ### _law_washed -/
abbrev s__law_washed : Stmt := top 27
def N__law_washed : List Str := ["_law_shelf", "_law_sink", "_law_habit", "_law_result", "_law_k", "_law_depth"]
theorem sc__law_washed : FnScope N__law_washed ["_law_shelf", "_law_sink", "_law_habit"] (defScope s__law_washed) := ⟨rfl, rfl, rfl, by decide +kernel, rfl, by decide +kernel, by decide +kernel⟩
def b__law_washed_1 : Ss := (.cons (.asg (.nm 5) (.ix (.var 2) (.var 4))) (.cons (.asg (.nm 3) (.bop .add false (.bop .add false (.sl false (.var 3) .non (.some (.var 5))) (.lst false (.cons (.ix (.var 1) (.var 4)) .nil))) (.sl false (.var 3) (.some (.var 5)) .non))) .nil))
def b__law_washed : Ss := (.cons (.asg (.nm 3) (.bi .list false (.cons (.var 0) .nil))) (.cons (.forr (.nm 4) (.rg1 (.bi .len false (.cons (.var 1) .nil))) b__law_washed_1) (.cons (.ret (.var 3)) .nil)))
theorem d__law_washed (C : Cs) (E : XK) (h_list : C.mg "list" = none) (h_len : C.mg "len" = none) (h_range : C.mg "range" = none) : DSs (C.at N__law_washed (defScope s__law_washed) E) (defBody s__law_washed) (evSs C.g b__law_washed) := by
  exact (dss_cons (ds_s 3 (de_bi (b := .list) (mu := false) rfl h_list (da_cons (de_v 0) da_nil rfl) rfl))
  (dss_cons (ds_for (di_rg1 rfl h_range (de_bi (b := .len) (mu := false) rfl h_len (da_cons (de_v 1) da_nil rfl) rfl) rfl) (dg_n 4) (dss_cons (ds_s 5 (de_ix (de_v 2) (de_v 4) (fun _ _ => rfl)))
  (dss_cons (ds_s 3 (de_bop (o := .add) (mu := false) (de_bop (o := .add) (mu := false) (de_sl (mu := false) (de_v 3) do_none (do_some (de_v 5))) (de_lst (mu := false) (da_cons (de_ix (de_v 1) (de_v 4) (fun _ _ => rfl)) da_nil rfl))) (de_sl (mu := false) (de_v 3) (do_some (de_v 5)) do_none)))
  dss_nil)) (fun _ _ => rfl))
  (dss_cons (ds_ret (de_v 3))
  dss_nil)))
/-! ### _law_played -/
abbrev s__law_played : Stmt := top 28
def N__law_played : List Str := ["_law_mugs", "_law_habits", "_law_last", "_law_shelf", "_law_sink", "_law_washes", "_law_used", "_law_states", "_law_cup"]
theorem sc__law_played : FnScope N__law_played ["_law_mugs", "_law_habits", "_law_last"] (defScope s__law_played) := ⟨rfl, rfl, rfl, by decide +kernel, rfl, by decide +kernel, by decide +kernel⟩
def b__law_played_1 : Ss := (.cons (.expr (.mth .append (.var 6) (.cons (.ix (.var 3) (.cst (.int 0))) .nil))) (.cons (.asg (.tp (.cons (.nm 4) (.cons (.nm 3) .nil))) (.tup (.cons (.bop .add false (.var 4) (.lst false (.cons (.ix (.var 3) (.cst (.int 0))) .nil))) (.cons (.sl false (.var 3) (.some (.cst (.int 1))) .non) .nil)))) (.cons (.ifs (.cmp .eq (.bi .len false (.cons (.var 4) .nil)) (.bi .len false (.cons (.ix (.var 1) (.cst (.int 0))) .nil))) (.cons (.asg (.nm 3) (.cal 20 (.cons (.var 3) (.cons (.var 4) (.cons (.ix (.var 1) (.bop .mod false (.var 5) (.bi .len false (.cons (.var 1) .nil)))) .nil))))) (.cons (.asg (.tp (.cons (.nm 4) (.cons (.nm 5) .nil))) (.tup (.cons (.lst false .nil) (.cons (.bop .add false (.var 5) (.cst (.int 1))) .nil)))) .nil)) .nil) (.cons (.expr (.mth .append (.var 7) (.cons (.tup (.cons (.bi .tuple false (.cons (.var 3) .nil)) (.cons (.bi .tuple false (.cons (.var 4) .nil)) .nil))) .nil))) .nil))))
def b__law_played : Ss := (.cons (.asg (.tp (.cons (.nm 3) (.cons (.nm 4) (.cons (.nm 5) .nil)))) (.tup (.cons (.bi .list false (.cons (.var 0) .nil)) (.cons (.lst false .nil) (.cons (.cst (.int 0)) .nil))))) (.cons (.asg (.tp (.cons (.nm 6) (.cons (.nm 7) .nil))) (.tup (.cons (.lst true .nil) (.cons (.lst true (.cons (.tup (.cons (.bi .tuple false (.cons (.var 0) .nil)) (.cons (.tup .nil) .nil))) .nil)) .nil)))) (.cons (.forr (.nm 8) (.rg1 (.var 2)) b__law_played_1) (.cons (.ret (.tup (.cons (.var 6) (.cons (.var 7) .nil)))) .nil))))
theorem d__law_played (C : Cs) (E : XK) (h_list : C.mg "list" = none) (h_tuple : C.mg "tuple" = none) (h_range : C.mg "range" = none) (h_len : C.mg "len" = none) (hF__law_washed : FnE C "_law_washed" 3 20) : DSs (C.at N__law_played (defScope s__law_played) E) (defBody s__law_played) (evSs C.g b__law_played) := by
  exact (dss_cons (ds_par3 (i := 3) (j := 4) (l := 5) rfl rfl rfl (by decide) (by decide) (by decide) rfl rfl rfl (de_bi (b := .list) (mu := false) rfl h_list (da_cons (de_v 0) da_nil rfl) rfl) (de_lst (mu := false) da_nil) de_int rfl rfl rfl (fun _ => rfl) (fun _ => rfl))
  (dss_cons (ds_par (i := 6) (j := 7) rfl rfl (by decide) rfl rfl (de_lst (mu := true) da_nil) (de_lst (mu := true) (da_cons (de_tup (da_cons (de_bi (b := .tuple) (mu := false) rfl h_tuple (da_cons (de_v 0) da_nil rfl) rfl) (da_cons (de_tup da_nil) da_nil rfl) rfl)) da_nil rfl)) rfl rfl (fun _ => rfl) (fun _ => rfl))
  (dss_cons (ds_for (di_rg1 rfl h_range (de_v 2) rfl) (dg_n 8) (dss_cons (ds_expr (de_mth1 (f := .append) (de_v 6) (da_cons (de_ix (de_v 3) de_int (fun _ _ => rfl)) da_nil rfl) rfl rfl (by decide) rfl) (fun _ => rfl))
  (dss_cons (ds_par (i := 4) (j := 3) rfl rfl (by decide) rfl rfl (de_bop (o := .add) (mu := false) (de_v 4) (de_lst (mu := false) (da_cons (de_ix (de_v 3) de_int (fun _ _ => rfl)) da_nil rfl))) (de_sl (mu := false) (de_v 3) (do_some de_int) do_none) rfl rfl (fun _ => rfl) (fun _ => rfl))
  (dss_cons (ds_if (dt_cmp (o := .eq) (de_bi (b := .len) (mu := false) rfl h_len (da_cons (de_v 4) da_nil rfl) rfl) (de_bi (b := .len) (mu := false) rfl h_len (da_cons (de_ix (de_v 1) de_int (fun _ _ => rfl)) da_nil rfl) rfl) (by rfl)) (dss_cons (ds_s 3 (de_cal hF__law_washed rfl (da_cons (de_v 3) (da_cons (de_v 4) (da_cons (de_ix (de_v 1) (de_bop (o := .mod) (mu := false) (de_v 5) (de_bi (b := .len) (mu := false) rfl h_len (da_cons (de_v 1) da_nil rfl) rfl)) (fun _ _ => rfl)) da_nil rfl) rfl) rfl) rfl (by decide)))
  (dss_cons (ds_par (i := 4) (j := 5) rfl rfl (by decide) rfl rfl (de_lst (mu := false) da_nil) (de_bop (o := .add) (mu := false) (de_v 5) de_int) rfl rfl (fun _ => rfl) (fun _ => rfl))
  dss_nil)) dss_nil)
  (dss_cons (ds_expr (de_mth1 (f := .append) (de_v 7) (da_cons (de_tup (da_cons (de_bi (b := .tuple) (mu := false) rfl h_tuple (da_cons (de_v 3) da_nil rfl) rfl) (da_cons (de_bi (b := .tuple) (mu := false) rfl h_tuple (da_cons (de_v 4) da_nil rfl) rfl) da_nil rfl) rfl)) da_nil rfl) rfl rfl (by decide) rfl) (fun _ => rfl))
  dss_nil)))) (fun _ _ => rfl))
  (dss_cons (ds_ret (de_tup (da_cons (de_v 6) (da_cons (de_v 7) da_nil rfl) rfl)))
  dss_nil))))
/-! ### law -/
abbrev s_law : Stmt := top 29
def N_law : List Str := ["_law_script", "_law_state", "_law_turn", "_law_count", "_law_mugs", "_law_habits", "_law_branch", "_law_others", "_law_more", "_law_block", "_law_last", "_law_one", "_law_two", "_law_differing", "_law_k", "_law_found"]
theorem sc_law : FnScope N_law ["_law_script"] (defScope s_law) := ⟨rfl, rfl, rfl, by decide +kernel, rfl, by decide +kernel, by decide +kernel⟩
def b_law_1 : Ss := (.cons (.asg (.nm 3) (.bop .add false (.cst (.int 2)) (.cal 15 (.cons (.var 1) (.cons (.cst (.int 4)) .nil))))) (.cons (.asg (.tp (.cons (.nm 4) (.cons (.nm 5) .nil))) (.tup (.cons (.cal 17 (.cons (.var 1) (.cons (.var 3) .nil))) (.cons (.cal 19 (.cons (.var 1) (.cons (.var 3) (.cons (.cst (.int 2)) .nil)))) .nil)))) (.cons (.asg (.tp (.cons (.nm 6) (.cons (.nm 7) .nil))) (.tup (.cons (.cal 15 (.cons (.var 1) (.cons (.cst (.int 5)) .nil))) (.cons (.bop .mul false (.var 5) (.cst (.int 2))) .nil)))) (.cons (.asg (.nm 8) (.var 4)) (.cons (.ifs (.cmp .eq (.var 6) (.cst (.int 1))) (.cons (.asg (.nm 7) (.bop .add false (.sl false (.var 5) .non (.some (.cst (.int 1)))) (.tup (.cons (.cal 18 (.cons (.var 1) (.cons (.var 3) (.cons (.bi .len false (.cons (.ix (.var 5) (.cst (.int 0))) .nil)) .nil)))) .nil)))) .nil) (.cons (.ifs (.cmp .eq (.var 6) (.cst (.int 2))) (.cons (.asg (.nm 7) (.cal 19 (.cons (.var 1) (.cons (.var 3) (.cons (.cst (.int 2)) .nil))))) .nil) (.cons (.ifs (.cmp .eq (.var 6) (.cst (.int 3))) (.cons (.asg (.nm 8) (.cal 17 (.cons (.var 1) (.cons (.var 3) .nil)))) .nil) (.cons (.ifs (.cmp .eq (.var 6) (.cst (.int 4))) (.cons (.asg (.nm 8) (.bop .add false (.sl false (.var 4) .non (.some (.bi .len false (.cons (.ix (.var 5) (.cst (.int 0))) .nil)))) (.rsl (.sl false (.var 4) (.some (.bi .len false (.cons (.ix (.var 5) (.cst (.int 0))) .nil))) .non) (.bop .sub false (.cst (.int 0)) (.cst (.int 1)))))) .nil) .nil) .nil)) .nil)) .nil)) (.cons (.asg (.nm 9) (.bop .mul false (.bop .mul false (.bop .mul false (.bi .len false (.cons (.var 5) .nil)) (.bi .len false (.cons (.ix (.var 5) (.cst (.int 0))) .nil))) (.bi .len false (.cons (.var 7) .nil))) (.bi .len false (.cons (.ix (.var 7) (.cst (.int 0))) .nil)))) (.cons (.asg (.nm 10) (.bi .min false (.cons (.bop .mul false (.var 9) (.cst (.int 21))) (.cons (.cst (.int 4200)) .nil)))) (.cons (.asg (.tp (.cons (.nm 11) (.cons (.nm 12) .nil))) (.tup (.cons (.ix (.cal 21 (.cons (.var 4) (.cons (.var 5) (.cons (.var 10) .nil)))) (.cst (.int 0))) (.cons (.ix (.cal 21 (.cons (.var 8) (.cons (.var 7) (.cons (.var 10) .nil)))) (.cst (.int 0))) .nil)))) (.cons (.asg (.nm 13) (.cmpr false (.bop .add false (.var 14) (.cst (.int 1))) (.nm 14) (.rg1 (.var 10)) (.cmp .ne (.ix (.var 11) (.var 14)) (.ix (.var 12) (.var 14))) [14])) (.cons (.asg (.nm 15) (.cal 13 (.cons (.mk 0 (.cons (.var 4) (.cons (.var 5) .nil))) (.cons (.mk 0 (.cons (.var 8) (.cons (.var 7) .nil))) .nil)))) (.cons (.ifs (.and (.cmp .ne (.var 13) (.lst false .nil)) (.cmp .ne (.var 15) (.ix (.var 13) (.cst (.int 0))))) (.cons (.ret (.cst (.bl false))) .nil) .nil) (.cons (.ifs (.and (.cmp .eq (.var 13) (.lst false .nil)) (.and (.cmp .notN (.var 15) (.cst .non)) (.cmp .le (.var 15) (.var 10)))) (.cons (.ret (.cst (.bl false))) .nil) .nil) (.cons (.ifs (.and (.cmp .eq (.var 13) (.lst false .nil)) (.and (.cmp .eq (.var 10) (.bop .mul false (.var 9) (.cst (.int 21)))) (.cmp .notN (.var 15) (.cst .non)))) (.cons (.ret (.cst (.bl false))) .nil) .nil) (.cons (.ifs (.cmp .ne (.cal 13 (.cons (.mk 0 (.cons (.var 8) (.cons (.var 7) .nil))) (.cons (.mk 0 (.cons (.var 4) (.cons (.var 5) .nil))) .nil))) (.var 15)) (.cons (.ret (.cst (.bl false))) .nil) .nil) .nil))))))))))))))
def b_law : Ss := (.cons (.asg (.nm 1) (.cal 14 (.cons (.var 0) .nil))) (.cons (.forr (.nm 2) (.rg1 (.cst (.int 3))) b_law_1) (.cons (.ret (.cst (.bl true))) .nil)))
theorem d_law (C : Cs) (E : XK) (hnm : C.g.nm = C.T.nm) (hF__law_start : FnE C "_law_start" 1 14) (h_range : C.mg "range" = none) (hF__law_drawn : FnE C "_law_drawn" 2 15) (hF__law_random_names : FnE C "_law_random_names" 2 17) (hF__law_random_habits : FnE C "_law_random_habits" 3 19) (h_len : C.mg "len" = none) (hF__law_random_habit : FnE C "_law_random_habit" 3 18) (h_min : C.mg "min" = none) (hF__law_played : FnE C "_law_played" 3 21) (hM_Kitchen : MkE C "Kitchen" 0 2 2) (hN_Kitchen : ∀ ds m, C.g.new 0 ds m = mkD C.g.nm true (C.g.F 2) 0 ds m) (hF_first_difference : FnE C "first_difference" 2 13) : DSs (C.at N_law (defScope s_law) E) (defBody s_law) (evSs C.g b_law) := by
  exact (dss_cons (ds_s 1 (de_cal hF__law_start rfl (da_cons (de_v 0) da_nil rfl) rfl (by decide)))
  (dss_cons (ds_for (di_rg1 rfl h_range de_int rfl) (dg_n 2) (dss_cons (ds_s 3 (de_bop (o := .add) (mu := false) de_int (de_cal hF__law_drawn rfl (da_cons (de_v 1) (da_cons de_int da_nil rfl) rfl) rfl (by decide))))
  (dss_cons (ds_par (i := 4) (j := 5) rfl rfl (by decide) rfl rfl (de_cal hF__law_random_names rfl (da_cons (de_v 1) (da_cons (de_v 3) da_nil rfl) rfl) rfl (by decide)) (de_cal hF__law_random_habits rfl (da_cons (de_v 1) (da_cons (de_v 3) (da_cons de_int da_nil rfl) rfl) rfl) rfl (by decide)) rfl rfl (fun _ => rfl) (fun _ => rfl))
  (dss_cons (ds_par (i := 6) (j := 7) rfl rfl (by decide) rfl rfl (de_cal hF__law_drawn rfl (da_cons (de_v 1) (da_cons de_int da_nil rfl) rfl) rfl (by decide)) (de_bop (o := .mul) (mu := false) (de_v 5) de_int) rfl rfl (fun _ => rfl) (fun _ => rfl))
  (dss_cons (ds_s 8 (de_v 4))
  (dss_cons (ds_if (dt_cmp (o := .eq) (de_v 6) de_int (by rfl)) (dss_cons (ds_s 7 (de_bop (o := .add) (mu := false) (de_sl (mu := false) (de_v 5) do_none (do_some de_int)) (de_tup (da_cons (de_cal hF__law_random_habit rfl (da_cons (de_v 1) (da_cons (de_v 3) (da_cons (de_bi (b := .len) (mu := false) rfl h_len (da_cons (de_ix (de_v 5) de_int (fun _ _ => rfl)) da_nil rfl) rfl) da_nil rfl) rfl) rfl) rfl (by decide)) da_nil rfl))))
  dss_nil) (dss_cons (ds_if (dt_cmp (o := .eq) (de_v 6) de_int (by rfl)) (dss_cons (ds_s 7 (de_cal hF__law_random_habits rfl (da_cons (de_v 1) (da_cons (de_v 3) (da_cons de_int da_nil rfl) rfl) rfl) rfl (by decide)))
  dss_nil) (dss_cons (ds_if (dt_cmp (o := .eq) (de_v 6) de_int (by rfl)) (dss_cons (ds_s 8 (de_cal hF__law_random_names rfl (da_cons (de_v 1) (da_cons (de_v 3) da_nil rfl) rfl) rfl (by decide)))
  dss_nil) (dss_cons (ds_if (dt_cmp (o := .eq) (de_v 6) de_int (by rfl)) (dss_cons (ds_s 8 (de_bop (o := .add) (mu := false) (de_sl (mu := false) (de_v 4) do_none (do_some (de_bi (b := .len) (mu := false) rfl h_len (da_cons (de_ix (de_v 5) de_int (fun _ _ => rfl)) da_nil rfl) rfl))) (de_rsl (de_sl (mu := false) (de_v 4) (do_some (de_bi (b := .len) (mu := false) rfl h_len (da_cons (de_ix (de_v 5) de_int (fun _ _ => rfl)) da_nil rfl) rfl)) do_none) (de_bop (o := .sub) (mu := false) de_int de_int))))
  dss_nil) dss_nil)
  dss_nil))
  dss_nil))
  dss_nil))
  (dss_cons (ds_s 9 (de_bop (o := .mul) (mu := false) (de_bop (o := .mul) (mu := false) (de_bop (o := .mul) (mu := false) (de_bi (b := .len) (mu := false) rfl h_len (da_cons (de_v 5) da_nil rfl) rfl) (de_bi (b := .len) (mu := false) rfl h_len (da_cons (de_ix (de_v 5) de_int (fun _ _ => rfl)) da_nil rfl) rfl)) (de_bi (b := .len) (mu := false) rfl h_len (da_cons (de_v 7) da_nil rfl) rfl)) (de_bi (b := .len) (mu := false) rfl h_len (da_cons (de_ix (de_v 7) de_int (fun _ _ => rfl)) da_nil rfl) rfl)))
  (dss_cons (ds_s 10 (de_bi (b := .min) (mu := false) rfl h_min (da_cons (de_bop (o := .mul) (mu := false) (de_v 9) de_int) (da_cons de_int da_nil rfl) rfl) rfl))
  (dss_cons (ds_asg (de_tup (da_cons (de_ix (de_cal hF__law_played rfl (da_cons (de_v 4) (da_cons (de_v 5) (da_cons (de_v 10) da_nil rfl) rfl) rfl) rfl (by decide)) de_int (fun _ _ => rfl)) (da_cons (de_ix (de_cal hF__law_played rfl (da_cons (de_v 8) (da_cons (de_v 7) (da_cons (de_v 10) da_nil rfl) rfl) rfl) rfl (by decide)) de_int (fun _ _ => rfl)) da_nil rfl) rfl)) (dg_tup (dgs_cons (dg_n 11) (dgs_cons (dg_n 12) dgs_nil (fun _ => rfl)) (fun _ => rfl)) (fun _ => rfl) (fun _ => rfl)) (fun _ => rfl) (fun _ => rfl) (fun _ => rfl))
  (dss_cons (ds_setLc (i := 13) rfl rfl (fun env => sw_true (by rfl) (by rfl) (by rfl) (by rfl)) (own := [("_law_k", 14)]) (mu := false) (by rfl) (di_rg1 rfl h_range (de_v 10) rfl) (dg_n 14) (dts_one (dt_cmp (o := .ne) (de_ix (de_v 11) (de_v 14) (fun _ _ => rfl)) (de_ix (de_v 12) (de_v 14) (fun _ _ => rfl)) (by rfl))) (de_bop (o := .add) (mu := false) (de_v 14) de_int) (by decide) (fun _ _ => rfl))
  (dss_cons (ds_s 15 (de_cal hF_first_difference rfl (da_cons (de_mk hM_Kitchen hnm hN_Kitchen rfl (da_cons (de_v 4) (da_cons (de_v 5) da_nil rfl) rfl) rfl (by decide)) (da_cons (de_mk hM_Kitchen hnm hN_Kitchen rfl (da_cons (de_v 8) (da_cons (de_v 7) da_nil rfl) rfl) rfl (by decide)) da_nil rfl) rfl) rfl (by decide)))
  (dss_cons (ds_if (DW.dt (dw_and (dt_cmp (o := .ne) (de_v 13) (de_lst (mu := false) da_nil) (by rfl)) (dw_and1 (dt_cmp (o := .ne) (de_v 15) (de_ix (de_v 13) de_int (fun _ _ => rfl)) (by rfl))))) (dss_cons (ds_ret de_bl)
  dss_nil) dss_nil)
  (dss_cons (ds_if (DW.dt (dw_and (dt_cmp (o := .eq) (de_v 13) (de_lst (mu := false) da_nil) (by rfl)) (dw_and (dt_cmp (o := .notN) (de_v 15) de_non (by rfl)) (dw_and1 (dt_cmp (o := .le) (de_v 15) (de_v 10) (by rfl)))))) (dss_cons (ds_ret de_bl)
  dss_nil) dss_nil)
  (dss_cons (ds_if (DW.dt (dw_and (dt_cmp (o := .eq) (de_v 13) (de_lst (mu := false) da_nil) (by rfl)) (dw_and (dt_cmp (o := .eq) (de_v 10) (de_bop (o := .mul) (mu := false) (de_v 9) de_int) (by rfl)) (dw_and1 (dt_cmp (o := .notN) (de_v 15) de_non (by rfl)))))) (dss_cons (ds_ret de_bl)
  dss_nil) dss_nil)
  (dss_cons (ds_if (dt_cmp (o := .ne) (de_cal hF_first_difference rfl (da_cons (de_mk hM_Kitchen hnm hN_Kitchen rfl (da_cons (de_v 8) (da_cons (de_v 7) da_nil rfl) rfl) rfl (by decide)) (da_cons (de_mk hM_Kitchen hnm hN_Kitchen rfl (da_cons (de_v 4) (da_cons (de_v 5) da_nil rfl) rfl) rfl (by decide)) da_nil rfl) rfl) rfl (by decide)) (de_v 15) (by rfl)) (dss_cons (ds_ret de_bl)
  dss_nil) dss_nil)
  dss_nil)))))))))))))) (fun _ _ => rfl))
  (dss_cons (ds_ret de_bl)
  dss_nil)))
end K07

namespace K07
open PySem PySem.Spec PyProof.Rows L2 Dv
/-! ### the tables -/
def nmT : Nat → List Str
  | 0 => ["shelf", "customs"]
  | _ => []
def propT (c : Nat) (f : Str) : Option Nat :=
  if f = "mugs" then (if c = 0 then some 3 else none) else if f = "habits" then (if c = 0 then some 4 else none) else if f = "sink_size" then (if c = 0 then some 5 else none) else none
def methT (c : Nat) (f : Str) (n : Nat) : Option Nat :=
  none
theorem prop_customs (c : Nat) : propT c "customs" = none := rfl
theorem prop_habits (c : Nat) : propT c "habits" = if c = 0 then some 4 else none := rfl
theorem prop_mugs (c : Nat) : propT c "mugs" = if c = 0 then some 3 else none := rfl
theorem prop_shelf (c : Nat) : propT c "shelf" = none := rfl
theorem prop_sink_size (c : Nat) : propT c "sink_size" = if c = 0 then some 5 else none := rfl
theorem inF_customs (c : Nat) (h : ("customs" : Str) ∈ nmT c) : c = 0 := by
  unfold nmT at h
  split at h <;> first | rfl | exact absurd h (by decide)
theorem notF_habits (c : Nat) : ¬ (("habits" : Str) ∈ nmT c) := by
  unfold nmT
  split <;> decide
theorem notF_mugs (c : Nat) : ¬ (("mugs" : Str) ∈ nmT c) := by
  unfold nmT
  split <;> decide
theorem inF_shelf (c : Nat) (h : ("shelf" : Str) ∈ nmT c) : c = 0 := by
  unfold nmT at h
  split at h <;> first | rfl | exact absurd h (by decide)
theorem notF_sink_size (c : Nat) : ¬ (("sink_size" : Str) ∈ nmT c) := by
  unfold nmT
  split <;> decide
/-! ### the data functions -/
noncomputable def g__law_start : Gt := { F := fun j => fun _ _ => none, new := fun c => fun _ _ => none, prop := propT, meth := methT, nm := nmT }
noncomputable def F__law_start : List D → List R → Option Rs := runD g__law_start N__law_start.length b__law_start false
theorem gm__law_start : g__law_start.nm = nmT := rfl
theorem gp__law_start : g__law_start.prop = propT := rfl
theorem gt__law_start : g__law_start.meth = methT := rfl
noncomputable def g__law_drawn : Gt := { F := fun j => fun _ _ => none, new := fun c => fun _ _ => none, prop := propT, meth := methT, nm := nmT }
noncomputable def F__law_drawn : List D → List R → Option Rs := runD g__law_drawn N__law_drawn.length b__law_drawn false
theorem gm__law_drawn : g__law_drawn.nm = nmT := rfl
theorem gp__law_drawn : g__law_drawn.prop = propT := rfl
theorem gt__law_drawn : g__law_drawn.meth = methT := rfl
noncomputable def g__law_random_names : Gt := { F := fun j => if j = 15 then F__law_drawn else fun _ _ => none, new := fun c => fun _ _ => none, prop := propT, meth := methT, nm := nmT }
noncomputable def F__law_random_names : List D → List R → Option Rs := runD g__law_random_names N__law_random_names.length b__law_random_names false
theorem gx__law_random_names__15 : g__law_random_names.F 15 = F__law_drawn := rfl
theorem gm__law_random_names : g__law_random_names.nm = nmT := rfl
theorem gp__law_random_names : g__law_random_names.prop = propT := rfl
theorem gt__law_random_names : g__law_random_names.meth = methT := rfl
noncomputable def g__law_random_habit : Gt := { F := fun j => if j = 15 then F__law_drawn else fun _ _ => none, new := fun c => fun _ _ => none, prop := propT, meth := methT, nm := nmT }
noncomputable def F__law_random_habit : List D → List R → Option Rs := runD g__law_random_habit N__law_random_habit.length b__law_random_habit false
theorem gx__law_random_habit__15 : g__law_random_habit.F 15 = F__law_drawn := rfl
theorem gm__law_random_habit : g__law_random_habit.nm = nmT := rfl
theorem gp__law_random_habit : g__law_random_habit.prop = propT := rfl
theorem gt__law_random_habit : g__law_random_habit.meth = methT := rfl
noncomputable def g__law_random_habits : Gt := { F := fun j => if j = 15 then F__law_drawn else if j = 18 then F__law_random_habit else fun _ _ => none, new := fun c => fun _ _ => none, prop := propT, meth := methT, nm := nmT }
noncomputable def F__law_random_habits : List D → List R → Option Rs := runD g__law_random_habits N__law_random_habits.length b__law_random_habits false
theorem gx__law_random_habits__15 : g__law_random_habits.F 15 = F__law_drawn := rfl
theorem gx__law_random_habits__18 : g__law_random_habits.F 18 = F__law_random_habit := rfl
theorem gm__law_random_habits : g__law_random_habits.nm = nmT := rfl
theorem gp__law_random_habits : g__law_random_habits.prop = propT := rfl
theorem gt__law_random_habits : g__law_random_habits.meth = methT := rfl
noncomputable def g__law_washed : Gt := { F := fun j => fun _ _ => none, new := fun c => fun _ _ => none, prop := propT, meth := methT, nm := nmT }
noncomputable def F__law_washed : List D → List R → Option Rs := runD g__law_washed N__law_washed.length b__law_washed true
theorem gm__law_washed : g__law_washed.nm = nmT := rfl
theorem gp__law_washed : g__law_washed.prop = propT := rfl
theorem gt__law_washed : g__law_washed.meth = methT := rfl
noncomputable def g__law_played : Gt := { F := fun j => if j = 20 then F__law_washed else fun _ _ => none, new := fun c => fun _ _ => none, prop := propT, meth := methT, nm := nmT }
noncomputable def F__law_played : List D → List R → Option Rs := runD g__law_played N__law_played.length b__law_played true
theorem gx__law_played__20 : g__law_played.F 20 = F__law_washed := rfl
theorem gm__law_played : g__law_played.nm = nmT := rfl
theorem gp__law_played : g__law_played.prop = propT := rfl
theorem gt__law_played : g__law_played.meth = methT := rfl
noncomputable def g_is_name : Gt := { F := fun j => fun _ _ => none, new := fun c => fun _ _ => none, prop := propT, meth := methT, nm := nmT }
noncomputable def F_is_name : List D → List R → Option Rs := runD g_is_name N_is_name.length b_is_name true
theorem gm_is_name : g_is_name.nm = nmT := rfl
theorem gp_is_name : g_is_name.prop = propT := rfl
theorem gt_is_name : g_is_name.meth = methT := rfl
noncomputable def g_is_habit : Gt := { F := fun j => fun _ _ => none, new := fun c => fun _ _ => none, prop := propT, meth := methT, nm := nmT }
noncomputable def F_is_habit : List D → List R → Option Rs := runD g_is_habit N_is_habit.length b_is_habit true
theorem gm_is_habit : g_is_habit.nm = nmT := rfl
theorem gp_is_habit : g_is_habit.prop = propT := rfl
theorem gt_is_habit : g_is_habit.meth = methT := rfl
noncomputable def g_Kitchen___init__ : Gt := { F := fun j => if j = 0 then F_is_name else if j = 1 then F_is_habit else fun _ _ => none, new := fun c => fun _ _ => none, prop := propT, meth := methT, nm := nmT }
noncomputable def F_Kitchen___init__ : List D → List R → Option Rs := runD g_Kitchen___init__ N_Kitchen___init__.length b_Kitchen___init__ false
theorem gx_Kitchen___init____0 : g_Kitchen___init__.F 0 = F_is_name := rfl
theorem gx_Kitchen___init____1 : g_Kitchen___init__.F 1 = F_is_habit := rfl
theorem gm_Kitchen___init__ : g_Kitchen___init__.nm = nmT := rfl
theorem gp_Kitchen___init__ : g_Kitchen___init__.prop = propT := rfl
theorem gt_Kitchen___init__ : g_Kitchen___init__.meth = methT := rfl
noncomputable def g_Kitchen_sink_size : Gt := { F := fun j => fun _ _ => none, new := fun c => fun _ _ => none, prop := propT, meth := methT, nm := nmT }
noncomputable def F_Kitchen_sink_size : List D → List R → Option Rs := runD g_Kitchen_sink_size N_Kitchen_sink_size.length b_Kitchen_sink_size true
theorem gm_Kitchen_sink_size : g_Kitchen_sink_size.nm = nmT := rfl
theorem gp_Kitchen_sink_size : g_Kitchen_sink_size.prop = propT := rfl
theorem gt_Kitchen_sink_size : g_Kitchen_sink_size.meth = methT := rfl
noncomputable def g_Kitchen_habits : Gt := { F := fun j => fun _ _ => none, new := fun c => fun _ _ => none, prop := propT, meth := methT, nm := nmT }
noncomputable def F_Kitchen_habits : List D → List R → Option Rs := runD g_Kitchen_habits N_Kitchen_habits.length b_Kitchen_habits true
theorem gm_Kitchen_habits : g_Kitchen_habits.nm = nmT := rfl
theorem gp_Kitchen_habits : g_Kitchen_habits.prop = propT := rfl
theorem gt_Kitchen_habits : g_Kitchen_habits.meth = methT := rfl
noncomputable def g_round_cups : Gt := { F := fun j => if j = 5 then (fun ds m => noX (F_Kitchen_sink_size ds m)) else if j = 4 then (fun ds m => noX (F_Kitchen_habits ds m)) else fun _ _ => none, new := fun c => fun _ _ => none, prop := propT, meth := methT, nm := nmT }
noncomputable def F_round_cups : List D → List R → Option Rs := runD g_round_cups N_round_cups.length b_round_cups true
theorem gx_round_cups__5 : g_round_cups.F 5 = (fun ds m => noX (F_Kitchen_sink_size ds m)) := rfl
theorem gx_round_cups__4 : g_round_cups.F 4 = (fun ds m => noX (F_Kitchen_habits ds m)) := rfl
theorem gm_round_cups : g_round_cups.nm = nmT := rfl
theorem gp_round_cups : g_round_cups.prop = propT := rfl
theorem gt_round_cups : g_round_cups.meth = methT := rfl
noncomputable def g_greatest_common_divisor : Gt := { F := fun j => fun _ _ => none, new := fun c => fun _ _ => none, prop := propT, meth := methT, nm := nmT }
noncomputable def F_greatest_common_divisor : List D → List R → Option Rs := runD g_greatest_common_divisor N_greatest_common_divisor.length b_greatest_common_divisor true
theorem gm_greatest_common_divisor : g_greatest_common_divisor.nm = nmT := rfl
theorem gp_greatest_common_divisor : g_greatest_common_divisor.prop = propT := rfl
theorem gt_greatest_common_divisor : g_greatest_common_divisor.meth = methT := rfl
noncomputable def g_Kitchen_mugs : Gt := { F := fun j => fun _ _ => none, new := fun c => fun _ _ => none, prop := propT, meth := methT, nm := nmT }
noncomputable def F_Kitchen_mugs : List D → List R → Option Rs := runD g_Kitchen_mugs N_Kitchen_mugs.length b_Kitchen_mugs true
theorem gm_Kitchen_mugs : g_Kitchen_mugs.nm = nmT := rfl
theorem gp_Kitchen_mugs : g_Kitchen_mugs.prop = propT := rfl
theorem gt_Kitchen_mugs : g_Kitchen_mugs.meth = methT := rfl
noncomputable def g_put_back : Gt := { F := fun j => fun _ _ => none, new := fun c => fun _ _ => none, prop := propT, meth := methT, nm := nmT }
noncomputable def F_put_back : List D → List R → Option Rs := runD g_put_back N_put_back.length b_put_back true
theorem gm_put_back : g_put_back.nm = nmT := rfl
theorem gp_put_back : g_put_back.prop = propT := rfl
theorem gt_put_back : g_put_back.meth = methT := rfl
noncomputable def g_inverse_of : Gt := { F := fun j => fun _ _ => none, new := fun c => fun _ _ => none, prop := propT, meth := methT, nm := nmT }
noncomputable def F_inverse_of : List D → List R → Option Rs := runD g_inverse_of N_inverse_of.length b_inverse_of true
theorem gm_inverse_of : g_inverse_of.nm = nmT := rfl
theorem gp_inverse_of : g_inverse_of.prop = propT := rfl
theorem gt_inverse_of : g_inverse_of.meth = methT := rfl
noncomputable def g_map_of : Gt := { F := fun j => if j = 6 then F_put_back else if j = 7 then F_inverse_of else fun _ _ => none, new := fun c => fun _ _ => none, prop := propT, meth := methT, nm := nmT }
noncomputable def F_map_of : List D → List R → Option Rs := runD g_map_of N_map_of.length b_map_of true
theorem gx_map_of__6 : g_map_of.F 6 = F_put_back := rfl
theorem gx_map_of__7 : g_map_of.F 7 = F_inverse_of := rfl
theorem gm_map_of : g_map_of.nm = nmT := rfl
theorem gp_map_of : g_map_of.prop = propT := rfl
theorem gt_map_of : g_map_of.meth = methT := rfl
noncomputable def g_cycles_of : Gt := { F := fun j => fun _ _ => none, new := fun c => fun _ _ => none, prop := propT, meth := methT, nm := nmT }
noncomputable def F_cycles_of : List D → List R → Option Rs := runD g_cycles_of N_cycles_of.length b_cycles_of true
theorem gm_cycles_of : g_cycles_of.nm = nmT := rfl
theorem gp_cycles_of : g_cycles_of.prop = propT := rfl
theorem gt_cycles_of : g_cycles_of.meth = methT := rfl
noncomputable def g_names_by_offset : Gt := { F := fun j => if j = 3 then (fun ds m => noX (F_Kitchen_mugs ds m)) else if j = 5 then (fun ds m => noX (F_Kitchen_sink_size ds m)) else if j = 10 then F_round_cups else if j = 4 then (fun ds m => noX (F_Kitchen_habits ds m)) else if j = 8 then F_map_of else if j = 9 then F_cycles_of else fun _ _ => none, new := fun c => fun _ _ => none, prop := propT, meth := methT, nm := nmT }
noncomputable def F_names_by_offset : List D → List R → Option Rs := runD g_names_by_offset N_names_by_offset.length b_names_by_offset true
theorem gx_names_by_offset__3 : g_names_by_offset.F 3 = (fun ds m => noX (F_Kitchen_mugs ds m)) := rfl
theorem gx_names_by_offset__5 : g_names_by_offset.F 5 = (fun ds m => noX (F_Kitchen_sink_size ds m)) := rfl
theorem gx_names_by_offset__10 : g_names_by_offset.F 10 = F_round_cups := rfl
theorem gx_names_by_offset__4 : g_names_by_offset.F 4 = (fun ds m => noX (F_Kitchen_habits ds m)) := rfl
theorem gx_names_by_offset__8 : g_names_by_offset.F 8 = F_map_of := rfl
theorem gx_names_by_offset__9 : g_names_by_offset.F 9 = F_cycles_of := rfl
theorem gm_names_by_offset : g_names_by_offset.nm = nmT := rfl
theorem gp_names_by_offset : g_names_by_offset.prop = propT := rfl
theorem gt_names_by_offset : g_names_by_offset.meth = methT := rfl
noncomputable def g_first_difference : Gt := { F := fun j => if j = 10 then F_round_cups else if j = 11 then F_greatest_common_divisor else if j = 12 then F_names_by_offset else fun _ _ => none, new := fun c => fun _ _ => none, prop := propT, meth := methT, nm := nmT }
noncomputable def F_first_difference : List D → List R → Option Rs := runD g_first_difference N_first_difference.length b_first_difference true
theorem gx_first_difference__10 : g_first_difference.F 10 = F_round_cups := rfl
theorem gx_first_difference__11 : g_first_difference.F 11 = F_greatest_common_divisor := rfl
theorem gx_first_difference__12 : g_first_difference.F 12 = F_names_by_offset := rfl
theorem gm_first_difference : g_first_difference.nm = nmT := rfl
theorem gp_first_difference : g_first_difference.prop = propT := rfl
theorem gt_first_difference : g_first_difference.meth = methT := rfl
noncomputable def g_law : Gt := { F := fun j => if j = 14 then F__law_start else if j = 15 then F__law_drawn else if j = 17 then F__law_random_names else if j = 19 then F__law_random_habits else if j = 18 then F__law_random_habit else if j = 21 then F__law_played else if j = 2 then F_Kitchen___init__ else if j = 13 then F_first_difference else fun _ _ => none, new := fun c => if c = 0 then mkD nmT true F_Kitchen___init__ 0 else fun _ _ => none, prop := propT, meth := methT, nm := nmT }
noncomputable def F_law : List D → List R → Option Rs := runD g_law N_law.length b_law true
theorem gx_law__14 : g_law.F 14 = F__law_start := rfl
theorem gx_law__15 : g_law.F 15 = F__law_drawn := rfl
theorem gx_law__17 : g_law.F 17 = F__law_random_names := rfl
theorem gx_law__19 : g_law.F 19 = F__law_random_habits := rfl
theorem gx_law__18 : g_law.F 18 = F__law_random_habit := rfl
theorem gx_law__21 : g_law.F 21 = F__law_played := rfl
theorem gx_law__2 : g_law.F 2 = F_Kitchen___init__ := rfl
theorem gx_law__13 : g_law.F 13 = F_first_difference := rfl
theorem gn_law__0 : g_law.new 0 = mkD nmT true F_Kitchen___init__ 0 := rfl
theorem gm_law : g_law.nm = nmT := rfl
theorem gp_law : g_law.prop = propT := rfl
theorem gt_law : g_law.meth = methT := rfl
/-! ### what the top has written -/
theorem all_mk {l : PySem.W.OpenLaw} {w : World} {K : PySem.W.Frag} {h : Heap} {mg : Str → Option Value} {fa : Addr}
    {C0 : Addr}
    {uhC_Kitchen_MAX_MUGS : Value}
    {uhC_Kitchen_MAX_WASHERS : Value}
    {f14 : Addr} {oc14 kV14 dc14 pm14 cd14 ct14 : Value} {od14 an14 : Option Addr} {sl14 : Array (Option Value)}
    {f15 : Addr} {oc15 kV15 dc15 pm15 cd15 ct15 : Value} {od15 an15 : Option Addr} {sl15 : Array (Option Value)}
    {f17 : Addr} {oc17 kV17 dc17 pm17 cd17 ct17 : Value} {od17 an17 : Option Addr} {sl17 : Array (Option Value)}
    {f18 : Addr} {oc18 kV18 dc18 pm18 cd18 ct18 : Value} {od18 an18 : Option Addr} {sl18 : Array (Option Value)}
    {f19 : Addr} {oc19 kV19 dc19 pm19 cd19 ct19 : Value} {od19 an19 : Option Addr} {sl19 : Array (Option Value)}
    {f20 : Addr} {oc20 kV20 dc20 pm20 cd20 ct20 : Value} {od20 an20 : Option Addr} {sl20 : Array (Option Value)}
    {f21 : Addr} {oc21 kV21 dc21 pm21 cd21 ct21 : Value} {od21 an21 : Option Addr} {sl21 : Array (Option Value)}
    {f0 : Addr} {oc0 kV0 dc0 pm0 cd0 ct0 : Value} {od0 an0 : Option Addr} {sl0 : Array (Option Value)}
    {f1 : Addr} {oc1 kV1 dc1 pm1 cd1 ct1 : Value} {od1 an1 : Option Addr} {sl1 : Array (Option Value)}
    {f2 : Addr} {oc2 kV2 dc2 pm2 cd2 ct2 : Value} {od2 an2 : Option Addr} {sl2 : Array (Option Value)}
    {f5 : Addr} {oc5 kV5 dc5 pm5 cd5 ct5 : Value} {od5 an5 : Option Addr} {sl5 : Array (Option Value)}
    {p5 : Addr} {rs5 : List Value}
    {f4 : Addr} {oc4 kV4 dc4 pm4 cd4 ct4 : Value} {od4 an4 : Option Addr} {sl4 : Array (Option Value)}
    {p4 : Addr} {rs4 : List Value}
    {f10 : Addr} {oc10 kV10 dc10 pm10 cd10 ct10 : Value} {od10 an10 : Option Addr} {sl10 : Array (Option Value)}
    {f11 : Addr} {oc11 kV11 dc11 pm11 cd11 ct11 : Value} {od11 an11 : Option Addr} {sl11 : Array (Option Value)}
    {f3 : Addr} {oc3 kV3 dc3 pm3 cd3 ct3 : Value} {od3 an3 : Option Addr} {sl3 : Array (Option Value)}
    {p3 : Addr} {rs3 : List Value}
    {f6 : Addr} {oc6 kV6 dc6 pm6 cd6 ct6 : Value} {od6 an6 : Option Addr} {sl6 : Array (Option Value)}
    {f7 : Addr} {oc7 kV7 dc7 pm7 cd7 ct7 : Value} {od7 an7 : Option Addr} {sl7 : Array (Option Value)}
    {f8 : Addr} {oc8 kV8 dc8 pm8 cd8 ct8 : Value} {od8 an8 : Option Addr} {sl8 : Array (Option Value)}
    {f9 : Addr} {oc9 kV9 dc9 pm9 cd9 ct9 : Value} {od9 an9 : Option Addr} {sl9 : Array (Option Value)}
    {f12 : Addr} {oc12 kV12 dc12 pm12 cd12 ct12 : Value} {od12 an12 : Option Addr} {sl12 : Array (Option Value)}
    {f13 : Addr} {oc13 kV13 dc13 pm13 cd13 ct13 : Value} {od13 an13 : Option Addr} {sl13 : Array (Option Value)}
    {f22 : Addr} {oc22 kV22 dc22 pm22 cd22 ct22 : Value} {od22 an22 : Option Addr} {sl22 : Array (Option Value)}
    {thG_MAX_LETTERS : Tok}
    {thG_LETTERS : Tok} (pl : ∀ ns : List Int, ns.length ≤ 63 → ∃ m, F_law [.ext (ns.map .int)] [] = some (.ok (.bl true) m)) (X : K.In h) (G : h.Ns mainGlobals mg) (hfa : mg "law" = some (.ref fa))
    (aC0 : PySem.W.nsIn K mainGlobals "Kitchen" = some (some (.ref C0)))
    (pg0 : PySem.W.plainGet K C0 Str.empty = true) (hd0 : PySem.W.hasDictIn K C0 = true) (po0 : PySem.W.plainOver K C0 = true) (sa0 : PySem.W.findIn K (.ref C0) "__setattr__" = some (some (.builtin "object.__setattr__"))) (mk0 : PySem.W.makesIn K C0 = true) (kc0 : PySem.W.keepIn K (.ref C0) = true)
    (n0_shelf : PySem.W.findIn K (.ref C0) "shelf" = some none)
    (n0_customs : PySem.W.findIn K (.ref C0) "customs" = some none)
    (rdhC_Kitchen_MAX_MUGS : PySem.W.readsIn K C0 (.type "type") = true) (gahC_Kitchen_MAX_MUGS : PySem.W.specialIn K (.ref C0) "__getattribute__" = some (some (.builtin "type.__getattribute__"))) (fchC_Kitchen_MAX_MUGS : PySem.W.findCls K (.ref C0) (.type "type") "MAX_MUGS" = some (.val uhC_Kitchen_MAX_MUGS)) (ruhC_Kitchen_MAX_MUGS : ∃ t, uhC_Kitchen_MAX_MUGS = .int 12 t)
    (rdhC_Kitchen_MAX_WASHERS : PySem.W.readsIn K C0 (.type "type") = true) (gahC_Kitchen_MAX_WASHERS : PySem.W.specialIn K (.ref C0) "__getattribute__" = some (some (.builtin "type.__getattribute__"))) (fchC_Kitchen_MAX_WASHERS : PySem.W.findCls K (.ref C0) (.type "type") "MAX_WASHERS" = some (.val uhC_Kitchen_MAX_WASHERS)) (ruhC_Kitchen_MAX_WASHERS : ∃ t, uhC_Kitchen_MAX_WASHERS = .int 6 t)
    (a14 : PySem.W.nsIn K mainGlobals "_law_start" = some (some (.ref f14)))
    (l14 : K.lookup f14 = some ⟨oc14, od14, .func (PySem.W.fnOf "_law_start" "_law_start" (defArgs s__law_start) (defBody s__law_start) (defScope s__law_start) .none kV14 dc14 pm14 an14 cd14 ct14), sl14⟩) (c14 : PySem.W.codeIn K cd14 "_law_start" = true) (k14 : PySem.W.keepIn K (.ref f14) = true)
    (a15 : PySem.W.nsIn K mainGlobals "_law_drawn" = some (some (.ref f15)))
    (l15 : K.lookup f15 = some ⟨oc15, od15, .func (PySem.W.fnOf "_law_drawn" "_law_drawn" (defArgs s__law_drawn) (defBody s__law_drawn) (defScope s__law_drawn) .none kV15 dc15 pm15 an15 cd15 ct15), sl15⟩) (c15 : PySem.W.codeIn K cd15 "_law_drawn" = true) (k15 : PySem.W.keepIn K (.ref f15) = true)
    (a17 : PySem.W.nsIn K mainGlobals "_law_random_names" = some (some (.ref f17)))
    (l17 : K.lookup f17 = some ⟨oc17, od17, .func (PySem.W.fnOf "_law_random_names" "_law_random_names" (defArgs s__law_random_names) (defBody s__law_random_names) (defScope s__law_random_names) .none kV17 dc17 pm17 an17 cd17 ct17), sl17⟩) (c17 : PySem.W.codeIn K cd17 "_law_random_names" = true) (k17 : PySem.W.keepIn K (.ref f17) = true)
    (a18 : PySem.W.nsIn K mainGlobals "_law_random_habit" = some (some (.ref f18)))
    (l18 : K.lookup f18 = some ⟨oc18, od18, .func (PySem.W.fnOf "_law_random_habit" "_law_random_habit" (defArgs s__law_random_habit) (defBody s__law_random_habit) (defScope s__law_random_habit) .none kV18 dc18 pm18 an18 cd18 ct18), sl18⟩) (c18 : PySem.W.codeIn K cd18 "_law_random_habit" = true) (k18 : PySem.W.keepIn K (.ref f18) = true)
    (a19 : PySem.W.nsIn K mainGlobals "_law_random_habits" = some (some (.ref f19)))
    (l19 : K.lookup f19 = some ⟨oc19, od19, .func (PySem.W.fnOf "_law_random_habits" "_law_random_habits" (defArgs s__law_random_habits) (defBody s__law_random_habits) (defScope s__law_random_habits) .none kV19 dc19 pm19 an19 cd19 ct19), sl19⟩) (c19 : PySem.W.codeIn K cd19 "_law_random_habits" = true) (k19 : PySem.W.keepIn K (.ref f19) = true)
    (a20 : PySem.W.nsIn K mainGlobals "_law_washed" = some (some (.ref f20)))
    (l20 : K.lookup f20 = some ⟨oc20, od20, .func (PySem.W.fnOf "_law_washed" "_law_washed" (defArgs s__law_washed) (defBody s__law_washed) (defScope s__law_washed) .none kV20 dc20 pm20 an20 cd20 ct20), sl20⟩) (c20 : PySem.W.codeIn K cd20 "_law_washed" = true) (k20 : PySem.W.keepIn K (.ref f20) = true)
    (a21 : PySem.W.nsIn K mainGlobals "_law_played" = some (some (.ref f21)))
    (l21 : K.lookup f21 = some ⟨oc21, od21, .func (PySem.W.fnOf "_law_played" "_law_played" (defArgs s__law_played) (defBody s__law_played) (defScope s__law_played) .none kV21 dc21 pm21 an21 cd21 ct21), sl21⟩) (c21 : PySem.W.codeIn K cd21 "_law_played" = true) (k21 : PySem.W.keepIn K (.ref f21) = true)
    (a0 : PySem.W.nsIn K mainGlobals "is_name" = some (some (.ref f0)))
    (l0 : K.lookup f0 = some ⟨oc0, od0, .func (PySem.W.fnOf "is_name" "is_name" (defArgs s_is_name) (defBody s_is_name) (defScope s_is_name) .none kV0 dc0 pm0 an0 cd0 ct0), sl0⟩) (c0 : PySem.W.codeIn K cd0 "is_name" = true) (k0 : PySem.W.keepIn K (.ref f0) = true)
    (a1 : PySem.W.nsIn K mainGlobals "is_habit" = some (some (.ref f1)))
    (l1 : K.lookup f1 = some ⟨oc1, od1, .func (PySem.W.fnOf "is_habit" "is_habit" (defArgs s_is_habit) (defBody s_is_habit) (defScope s_is_habit) .none kV1 dc1 pm1 an1 cd1 ct1), sl1⟩) (c1 : PySem.W.codeIn K cd1 "is_habit" = true) (k1 : PySem.W.keepIn K (.ref f1) = true)
    (a2 : PySem.W.findIn K (.ref C0) "__init__" = some (some (.ref f2))) (i2 : PySem.W.isFn K (.ref f2) = true)
    (l2 : K.lookup f2 = some ⟨oc2, od2, .func (PySem.W.fnOf "__init__" "Kitchen.__init__" (defArgs s_Kitchen___init__) (defBody s_Kitchen___init__) (defScope s_Kitchen___init__) .none kV2 dc2 pm2 an2 cd2 ct2), sl2⟩) (c2 : PySem.W.codeIn K cd2 "Kitchen.__init__" = true) (k2 : PySem.W.keepIn K (.ref f2) = true)
    (a5 : PySem.W.findIn K (.ref C0) "sink_size" = some (some (.ref p5))) (pq5 : PySem.W.specialIn K (.ref p5) "__get__" = some (some (.builtin "property.__get__"))) (pt5 : PySem.W.takesIn K (.ref p5) = some true) (pr5 : PySem.W.recIn K p5 "property" = some (.ref f5 :: rs5))
    (l5 : K.lookup f5 = some ⟨oc5, od5, .func (PySem.W.fnOf "sink_size" "Kitchen.sink_size" (defArgs s_Kitchen_sink_size) (defBody s_Kitchen_sink_size) (defScope s_Kitchen_sink_size) .none kV5 dc5 pm5 an5 cd5 ct5), sl5⟩) (c5 : PySem.W.codeIn K cd5 "Kitchen.sink_size" = true) (k5 : PySem.W.keepIn K (.ref f5) = true)
    (a4 : PySem.W.findIn K (.ref C0) "habits" = some (some (.ref p4))) (pq4 : PySem.W.specialIn K (.ref p4) "__get__" = some (some (.builtin "property.__get__"))) (pt4 : PySem.W.takesIn K (.ref p4) = some true) (pr4 : PySem.W.recIn K p4 "property" = some (.ref f4 :: rs4))
    (l4 : K.lookup f4 = some ⟨oc4, od4, .func (PySem.W.fnOf "habits" "Kitchen.habits" (defArgs s_Kitchen_habits) (defBody s_Kitchen_habits) (defScope s_Kitchen_habits) .none kV4 dc4 pm4 an4 cd4 ct4), sl4⟩) (c4 : PySem.W.codeIn K cd4 "Kitchen.habits" = true) (k4 : PySem.W.keepIn K (.ref f4) = true)
    (a10 : PySem.W.nsIn K mainGlobals "round_cups" = some (some (.ref f10)))
    (l10 : K.lookup f10 = some ⟨oc10, od10, .func (PySem.W.fnOf "round_cups" "round_cups" (defArgs s_round_cups) (defBody s_round_cups) (defScope s_round_cups) .none kV10 dc10 pm10 an10 cd10 ct10), sl10⟩) (c10 : PySem.W.codeIn K cd10 "round_cups" = true) (k10 : PySem.W.keepIn K (.ref f10) = true)
    (a11 : PySem.W.nsIn K mainGlobals "greatest_common_divisor" = some (some (.ref f11)))
    (l11 : K.lookup f11 = some ⟨oc11, od11, .func (PySem.W.fnOf "greatest_common_divisor" "greatest_common_divisor" (defArgs s_greatest_common_divisor) (defBody s_greatest_common_divisor) (defScope s_greatest_common_divisor) .none kV11 dc11 pm11 an11 cd11 ct11), sl11⟩) (c11 : PySem.W.codeIn K cd11 "greatest_common_divisor" = true) (k11 : PySem.W.keepIn K (.ref f11) = true)
    (a3 : PySem.W.findIn K (.ref C0) "mugs" = some (some (.ref p3))) (pq3 : PySem.W.specialIn K (.ref p3) "__get__" = some (some (.builtin "property.__get__"))) (pt3 : PySem.W.takesIn K (.ref p3) = some true) (pr3 : PySem.W.recIn K p3 "property" = some (.ref f3 :: rs3))
    (l3 : K.lookup f3 = some ⟨oc3, od3, .func (PySem.W.fnOf "mugs" "Kitchen.mugs" (defArgs s_Kitchen_mugs) (defBody s_Kitchen_mugs) (defScope s_Kitchen_mugs) .none kV3 dc3 pm3 an3 cd3 ct3), sl3⟩) (c3 : PySem.W.codeIn K cd3 "Kitchen.mugs" = true) (k3 : PySem.W.keepIn K (.ref f3) = true)
    (a6 : PySem.W.nsIn K mainGlobals "put_back" = some (some (.ref f6)))
    (l6 : K.lookup f6 = some ⟨oc6, od6, .func (PySem.W.fnOf "put_back" "put_back" (defArgs s_put_back) (defBody s_put_back) (defScope s_put_back) .none kV6 dc6 pm6 an6 cd6 ct6), sl6⟩) (c6 : PySem.W.codeIn K cd6 "put_back" = true) (k6 : PySem.W.keepIn K (.ref f6) = true)
    (a7 : PySem.W.nsIn K mainGlobals "inverse_of" = some (some (.ref f7)))
    (l7 : K.lookup f7 = some ⟨oc7, od7, .func (PySem.W.fnOf "inverse_of" "inverse_of" (defArgs s_inverse_of) (defBody s_inverse_of) (defScope s_inverse_of) .none kV7 dc7 pm7 an7 cd7 ct7), sl7⟩) (c7 : PySem.W.codeIn K cd7 "inverse_of" = true) (k7 : PySem.W.keepIn K (.ref f7) = true)
    (a8 : PySem.W.nsIn K mainGlobals "map_of" = some (some (.ref f8)))
    (l8 : K.lookup f8 = some ⟨oc8, od8, .func (PySem.W.fnOf "map_of" "map_of" (defArgs s_map_of) (defBody s_map_of) (defScope s_map_of) .none kV8 dc8 pm8 an8 cd8 ct8), sl8⟩) (c8 : PySem.W.codeIn K cd8 "map_of" = true) (k8 : PySem.W.keepIn K (.ref f8) = true)
    (a9 : PySem.W.nsIn K mainGlobals "cycles_of" = some (some (.ref f9)))
    (l9 : K.lookup f9 = some ⟨oc9, od9, .func (PySem.W.fnOf "cycles_of" "cycles_of" (defArgs s_cycles_of) (defBody s_cycles_of) (defScope s_cycles_of) .none kV9 dc9 pm9 an9 cd9 ct9), sl9⟩) (c9 : PySem.W.codeIn K cd9 "cycles_of" = true) (k9 : PySem.W.keepIn K (.ref f9) = true)
    (a12 : PySem.W.nsIn K mainGlobals "names_by_offset" = some (some (.ref f12)))
    (l12 : K.lookup f12 = some ⟨oc12, od12, .func (PySem.W.fnOf "names_by_offset" "names_by_offset" (defArgs s_names_by_offset) (defBody s_names_by_offset) (defScope s_names_by_offset) .none kV12 dc12 pm12 an12 cd12 ct12), sl12⟩) (c12 : PySem.W.codeIn K cd12 "names_by_offset" = true) (k12 : PySem.W.keepIn K (.ref f12) = true)
    (a13 : PySem.W.nsIn K mainGlobals "first_difference" = some (some (.ref f13)))
    (l13 : K.lookup f13 = some ⟨oc13, od13, .func (PySem.W.fnOf "first_difference" "first_difference" (defArgs s_first_difference) (defBody s_first_difference) (defScope s_first_difference) .none kV13 dc13 pm13 an13 cd13 ct13), sl13⟩) (c13 : PySem.W.codeIn K cd13 "first_difference" = true) (k13 : PySem.W.keepIn K (.ref f13) = true)
    (a22 : PySem.W.nsIn K mainGlobals "law" = some (some (.ref f22)))
    (l22 : K.lookup f22 = some ⟨oc22, od22, .func (PySem.W.fnOf "law" "law" (defArgs s_law) (defBody s_law) (defScope s_law) .none kV22 dc22 pm22 an22 cd22 ct22), sl22⟩) (c22 : PySem.W.codeIn K cd22 "law" = true) (k22 : PySem.W.keepIn K (.ref f22) = true)
    (z_len : PySem.W.nsIn K mainGlobals "len" = some none)
    (z_range : PySem.W.nsIn K mainGlobals "range" = some none)
    (z_tuple : PySem.W.nsIn K mainGlobals "tuple" = some none)
    (z_list : PySem.W.nsIn K mainGlobals "list" = some none)
    (z_isinstance : PySem.W.nsIn K mainGlobals "isinstance" = some none)
    (z_str : PySem.W.nsIn K mainGlobals "str" = some none)
    (yhG_MAX_LETTERS : PySem.W.nsIn K mainGlobals "MAX_LETTERS" = some (some (.int 8 thG_MAX_LETTERS)))
    (yhG_LETTERS : PySem.W.nsIn K mainGlobals "LETTERS" = some (some (.str (Str.ofString "abcdefghijklmnopqrstuvwxyz") thG_LETTERS)))
    (z_all : PySem.W.nsIn K mainGlobals "all" = some none)
    (z_enumerate : PySem.W.nsIn K mainGlobals "enumerate" = some none)
    (z_zip : PySem.W.nsIn K mainGlobals "zip" = some none)
    (z_min : PySem.W.nsIn K mainGlobals "min" = some none) :
    ∃ fd : FuncData, (∀ (s : Shared) (v : Value), BindsTo s fd ⟨[v], []⟩ [("_law_script", v)]) ∧ ∀ base : Heap, K.In base → base.Ns mainGlobals mg → FnOk l.prog w K mg base (L2.CX l.prog w) 6 fa fd ["_law_script"] (spLaw K) := by
  have e := hfa.symm.trans (PySem.W.mg_of X G a22)
  cases e
  have cls0 : Cls K C0 := ⟨pg0, hd0, po0, sa0⟩
  have fn14 := fun_mk (st := s__law_start) l14 c14 k14
  have bn14 := fn14.binds (ps := ["_law_script"]) fun _ _ _ _ _ _ us hl => match us, hl with | [_], _ => rfl
  have fd14 := fun_d fn14
  have m14 := PySem.W.mg_of X G a14
  have fn15 := fun_mk (st := s__law_drawn) l15 c15 k15
  have bn15 := fn15.binds (ps := ["_law_state", "_law_count"]) fun _ _ _ _ _ _ us hl => match us, hl with | [_, _], _ => rfl
  have fd15 := fun_d fn15
  have m15 := PySem.W.mg_of X G a15
  have fn17 := fun_mk (st := s__law_random_names) l17 c17 k17
  have bn17 := fn17.binds (ps := ["_law_state", "_law_count"]) fun _ _ _ _ _ _ us hl => match us, hl with | [_, _], _ => rfl
  have fd17 := fun_d fn17
  have m17 := PySem.W.mg_of X G a17
  have fn18 := fun_mk (st := s__law_random_habit) l18 c18 k18
  have bn18 := fn18.binds (ps := ["_law_state", "_law_count", "_law_size"]) fun _ _ _ _ _ _ us hl => match us, hl with | [_, _, _], _ => rfl
  have fd18 := fun_d fn18
  have m18 := PySem.W.mg_of X G a18
  have fn19 := fun_mk (st := s__law_random_habits) l19 c19 k19
  have bn19 := fn19.binds (ps := ["_law_state", "_law_count", "_law_most"]) fun _ _ _ _ _ _ us hl => match us, hl with | [_, _, _], _ => rfl
  have fd19 := fun_d fn19
  have m19 := PySem.W.mg_of X G a19
  have fn20 := fun_mk (st := s__law_washed) l20 c20 k20
  have bn20 := fn20.binds (ps := ["_law_shelf", "_law_sink", "_law_habit"]) fun _ _ _ _ _ _ us hl => match us, hl with | [_, _, _], _ => rfl
  have fd20 := fun_d fn20
  have m20 := PySem.W.mg_of X G a20
  have fn21 := fun_mk (st := s__law_played) l21 c21 k21
  have bn21 := fn21.binds (ps := ["_law_mugs", "_law_habits", "_law_last"]) fun _ _ _ _ _ _ us hl => match us, hl with | [_, _, _], _ => rfl
  have fd21 := fun_d fn21
  have m21 := PySem.W.mg_of X G a21
  have fn0 := fun_mk (st := s_is_name) l0 c0 k0
  have bn0 := fn0.binds (ps := ["value"]) fun _ _ _ _ _ _ us hl => match us, hl with | [_], _ => rfl
  have fd0 := fun_d fn0
  have m0 := PySem.W.mg_of X G a0
  have fn1 := fun_mk (st := s_is_habit) l1 c1 k1
  have bn1 := fn1.binds (ps := ["count", "size", "habit"]) fun _ _ _ _ _ _ us hl => match us, hl with | [_, _, _], _ => rfl
  have fd1 := fun_d fn1
  have m1 := PySem.W.mg_of X G a1
  have fn2 := fun_mk (st := s_Kitchen___init__) l2 c2 k2
  have bn2 := fn2.binds (ps := ["self", "mugs", "habits"]) fun _ _ _ _ _ _ us hl => match us, hl with | [_, _, _], _ => rfl
  have fd2 := fun_d fn2
  have fn5 := fun_mk (st := s_Kitchen_sink_size) l5 c5 k5
  have bn5 := fn5.binds (ps := ["self"]) fun _ _ _ _ _ _ us hl => match us, hl with | [_], _ => rfl
  have fd5 := fun_d fn5
  have fn4 := fun_mk (st := s_Kitchen_habits) l4 c4 k4
  have bn4 := fn4.binds (ps := ["self"]) fun _ _ _ _ _ _ us hl => match us, hl with | [_], _ => rfl
  have fd4 := fun_d fn4
  have fn10 := fun_mk (st := s_round_cups) l10 c10 k10
  have bn10 := fn10.binds (ps := ["kitchen"]) fun _ _ _ _ _ _ us hl => match us, hl with | [_], _ => rfl
  have fd10 := fun_d fn10
  have m10 := PySem.W.mg_of X G a10
  have fn11 := fun_mk (st := s_greatest_common_divisor) l11 c11 k11
  have bn11 := fn11.binds (ps := ["one", "other"]) fun _ _ _ _ _ _ us hl => match us, hl with | [_, _], _ => rfl
  have fd11 := fun_d fn11
  have m11 := PySem.W.mg_of X G a11
  have fn3 := fun_mk (st := s_Kitchen_mugs) l3 c3 k3
  have bn3 := fn3.binds (ps := ["self"]) fun _ _ _ _ _ _ us hl => match us, hl with | [_], _ => rfl
  have fd3 := fun_d fn3
  have fn6 := fun_mk (st := s_put_back) l6 c6 k6
  have bn6 := fn6.binds (ps := ["shelf", "sink", "habit"]) fun _ _ _ _ _ _ us hl => match us, hl with | [_, _, _], _ => rfl
  have fd6 := fun_d fn6
  have m6 := PySem.W.mg_of X G a6
  have fn7 := fun_mk (st := s_inverse_of) l7 c7 k7
  have bn7 := fn7.binds (ps := ["places"]) fun _ _ _ _ _ _ us hl => match us, hl with | [_], _ => rfl
  have fd7 := fun_d fn7
  have m7 := PySem.W.mg_of X G a7
  have fn8 := fun_mk (st := s_map_of) l8 c8 k8
  have bn8 := fn8.binds (ps := ["count", "habit"]) fun _ _ _ _ _ _ us hl => match us, hl with | [_, _], _ => rfl
  have fd8 := fun_d fn8
  have m8 := PySem.W.mg_of X G a8
  have fn9 := fun_mk (st := s_cycles_of) l9 c9 k9
  have bn9 := fn9.binds (ps := ["places"]) fun _ _ _ _ _ _ us hl => match us, hl with | [_], _ => rfl
  have fd9 := fun_d fn9
  have m9 := PySem.W.mg_of X G a9
  have fn12 := fun_mk (st := s_names_by_offset) l12 c12 k12
  have bn12 := fn12.binds (ps := ["kitchen", "block"]) fun _ _ _ _ _ _ us hl => match us, hl with | [_, _], _ => rfl
  have fd12 := fun_d fn12
  have m12 := PySem.W.mg_of X G a12
  have fn13 := fun_mk (st := s_first_difference) l13 c13 k13
  have bn13 := fn13.binds (ps := ["kitchen", "other"]) fun _ _ _ _ _ _ us hl => match us, hl with | [_, _], _ => rfl
  have fd13 := fun_d fn13
  have m13 := PySem.W.mg_of X G a13
  have fn22 := fun_mk (st := s_law) l22 c22 k22
  have bn22 := fn22.binds (ps := ["_law_script"]) fun _ _ _ _ _ _ us hl => match us, hl with | [_], _ => rfl
  have fd22 := fun_d fn22
  have m22 := PySem.W.mg_of X G a22
  have h_len := PySem.W.mg_none_of X G z_len
  have h_range := PySem.W.mg_none_of X G z_range
  have h_tuple := PySem.W.mg_none_of X G z_tuple
  have h_list := PySem.W.mg_none_of X G z_list
  have h_isinstance := PySem.W.mg_none_of X G z_isinstance
  have h_str := PySem.W.mg_none_of X G z_str
  have hG_MAX_LETTERS : ∃ t, mg "MAX_LETTERS" = some (.int 8 t) := ⟨_, PySem.W.mg_of X G yhG_MAX_LETTERS⟩
  have hG_LETTERS : ∃ t, mg "LETTERS" = some (.str (Str.ofString "abcdefghijklmnopqrstuvwxyz") t) := ⟨_, PySem.W.mg_of X G yhG_LETTERS⟩
  have h_all := PySem.W.mg_none_of X G z_all
  have h_enumerate := PySem.W.mg_none_of X G z_enumerate
  have h_zip := PySem.W.mg_none_of X G z_zip
  have h_min := PySem.W.mg_none_of X G z_min
  refine ⟨PySem.W.fnOf "law" "law" (defArgs s_law) (defBody s_law) (defScope s_law) .none kV22 dc22 pm22 an22 cd22 ct22, fun s v => .of_eq rfl, fun base _ _ => ?_⟩
  let T : Tb := { K := K, cl := fun c => match c with | 0 => C0 | _ => 0, nm := nmT }
  have ok14 : FnOk l.prog w K mg base (L2.CX l.prog w) 1 f14 _ ["_law_script"] (fun vs H Q E => vs.length = 1 ∧ spD T F__law_start vs H Q E) := def_ok ({ T := T, g := g__law_start, P := l.prog, w := w, mg := mg, base := base, N := [], sc := defScope s_law, W := fun _ _ _ _ => False, L := 0, fn := fun _ => true } : Cs) (fz := false) fd14 sc__law_start rfl (fun E => d__law_start _ E )
  have ok15 : FnOk l.prog w K mg base (L2.CX l.prog w) 1 f15 _ ["_law_state", "_law_count"] (fun vs H Q E => vs.length = 2 ∧ spD T F__law_drawn vs H Q E) := def_ok ({ T := T, g := g__law_drawn, P := l.prog, w := w, mg := mg, base := base, N := [], sc := defScope s_law, W := fun _ _ _ _ => False, L := 0, fn := fun _ => true } : Cs) (fz := false) fd15 sc__law_drawn rfl (fun E => d__law_drawn _ E h_len)
  have ok17 : FnOk l.prog w K mg base (L2.CX l.prog w) 2 f17 _ ["_law_state", "_law_count"] (fun vs H Q E => vs.length = 2 ∧ spD T F__law_random_names vs H Q E) := def_ok ({ T := T, g := g__law_random_names, P := l.prog, w := w, mg := mg, base := base, N := [], sc := defScope s_law, W := fun _ _ _ _ => False, L := 1, fn := fun _ => true } : Cs) (fz := false) fd17 sc__law_random_names rfl (fun E => d__law_random_names _ E h_range h_len (fnE_at ok15 (show 1 ≤ 1 by omega) m15 k15 bn15 rfl rfl) h_tuple)
  have ok18 : FnOk l.prog w K mg base (L2.CX l.prog w) 2 f18 _ ["_law_state", "_law_count", "_law_size"] (fun vs H Q E => vs.length = 3 ∧ spD T F__law_random_habit vs H Q E) := def_ok ({ T := T, g := g__law_random_habit, P := l.prog, w := w, mg := mg, base := base, N := [], sc := defScope s_law, W := fun _ _ _ _ => False, L := 1, fn := fun _ => true } : Cs) (fz := false) fd18 sc__law_random_habit rfl (fun E => d__law_random_habit _ E (fnE_at ok15 (show 1 ≤ 1 by omega) m15 k15 bn15 rfl rfl) h_range h_tuple)
  have ok19 : FnOk l.prog w K mg base (L2.CX l.prog w) 3 f19 _ ["_law_state", "_law_count", "_law_most"] (fun vs H Q E => vs.length = 3 ∧ spD T F__law_random_habits vs H Q E) := def_ok ({ T := T, g := g__law_random_habits, P := l.prog, w := w, mg := mg, base := base, N := [], sc := defScope s_law, W := fun _ _ _ _ => False, L := 2, fn := fun _ => true } : Cs) (fz := false) fd19 sc__law_random_habits rfl (fun E => d__law_random_habits _ E (fnE_at ok15 (show 1 ≤ 2 by omega) m15 k15 bn15 rfl rfl) h_range (fnE_at ok18 (show 2 ≤ 2 by omega) m18 k18 bn18 rfl rfl) h_tuple)
  have ok20 : FnOk l.prog w K mg base (L2.CX l.prog w) 1 f20 _ ["_law_shelf", "_law_sink", "_law_habit"] (fun vs H Q E => vs.length = 3 ∧ spD T F__law_washed vs H Q E) := def_ok ({ T := T, g := g__law_washed, P := l.prog, w := w, mg := mg, base := base, N := [], sc := defScope s_law, W := fun _ _ _ _ => False, L := 0, fn := fun _ => true } : Cs) (fz := true) fd20 sc__law_washed rfl (fun E => d__law_washed _ E h_list h_len h_range)
  have ok21 : FnOk l.prog w K mg base (L2.CX l.prog w) 2 f21 _ ["_law_mugs", "_law_habits", "_law_last"] (fun vs H Q E => vs.length = 3 ∧ spD T F__law_played vs H Q E) := def_ok ({ T := T, g := g__law_played, P := l.prog, w := w, mg := mg, base := base, N := [], sc := defScope s_law, W := fun _ _ _ _ => False, L := 1, fn := fun _ => true } : Cs) (fz := true) fd21 sc__law_played rfl (fun E => d__law_played _ E h_list h_tuple h_range h_len (fnE_at ok20 (show 1 ≤ 1 by omega) m20 k20 bn20 rfl rfl))
  have ok0 : FnOk l.prog w K mg base (L2.CX l.prog w) 1 f0 _ ["value"] (fun vs H Q E => vs.length = 1 ∧ spD T F_is_name vs H Q E) := def_ok ({ T := T, g := g_is_name, P := l.prog, w := w, mg := mg, base := base, N := [], sc := defScope s_law, W := fun _ _ _ _ => False, L := 0, fn := fun _ => true } : Cs) (fz := true) fd0 sc_is_name rfl (fun E => d_is_name _ E h_isinstance h_str h_len hG_MAX_LETTERS hG_LETTERS h_all)
  have ok1 : FnOk l.prog w K mg base (L2.CX l.prog w) 1 f1 _ ["count", "size", "habit"] (fun vs H Q E => vs.length = 3 ∧ spD T F_is_habit vs H Q E) := def_ok ({ T := T, g := g_is_habit, P := l.prog, w := w, mg := mg, base := base, N := [], sc := defScope s_law, W := fun _ _ _ _ => False, L := 0, fn := fun _ => true } : Cs) (fz := true) fd1 sc_is_habit rfl (fun E => d_is_habit _ E h_len h_enumerate h_all)
  have ok2 : FnOk l.prog w K mg base (L2.CX l.prog w) 2 f2 _ ["self", "mugs", "habits"] (fun vs H Q E => vs.length = 3 ∧ spD T F_Kitchen___init__ vs H Q E) := def_ok ({ T := T, g := g_Kitchen___init__, P := l.prog, w := w, mg := mg, base := base, N := [], sc := defScope s_law, W := fun _ _ _ _ => False, L := 1, fn := fun _ => true } : Cs) (fz := false) fd2 sc_Kitchen___init__ rfl (fun E => d_Kitchen___init__ _ E rfl h_len ⟨C0, .type "type", .int 12, uhC_Kitchen_MAX_MUGS, PySem.W.mg_of X G aC0, ⟨rdhC_Kitchen_MAX_MUGS, gahC_Kitchen_MAX_MUGS⟩, ⟨fchC_Kitchen_MAX_MUGS, ruhC_Kitchen_MAX_MUGS⟩, .int _⟩ h_enumerate (fnE_at ok0 (show 1 ≤ 1 by omega) m0 k0 bn0 rfl rfl) ⟨C0, .type "type", .int 6, uhC_Kitchen_MAX_WASHERS, PySem.W.mg_of X G aC0, ⟨rdhC_Kitchen_MAX_WASHERS, gahC_Kitchen_MAX_WASHERS⟩, ⟨fchC_Kitchen_MAX_WASHERS, ruhC_Kitchen_MAX_WASHERS⟩, .int _⟩ (fnE_at ok1 (show 1 ≤ 1 by omega) m1 k1 bn1 rfl rfl) (attOk_fld (c0 := 0) prop_shelf inF_shelf cls0 n0_shelf) (attOk_fld (c0 := 0) prop_customs inF_customs cls0 n0_customs))
  have ok5 : FnOk l.prog w K mg base (L2.CX l.prog w) 1 f5 _ ["self"] (fun vs H Q E => vs.length = 1 ∧ spD T F_Kitchen_sink_size vs H Q E) := def_ok ({ T := T, g := g_Kitchen_sink_size, P := l.prog, w := w, mg := mg, base := base, N := [], sc := defScope s_law, W := fun _ _ _ _ => False, L := 0, fn := fun _ => true } : Cs) (fz := true) fd5 sc_Kitchen_sink_size rfl (fun E => d_Kitchen_sink_size _ E rfl (attOk_fld (c0 := 0) prop_customs inF_customs cls0 n0_customs) h_len)
  have ok4 : FnOk l.prog w K mg base (L2.CX l.prog w) 1 f4 _ ["self"] (fun vs H Q E => vs.length = 1 ∧ spD T F_Kitchen_habits vs H Q E) := def_ok ({ T := T, g := g_Kitchen_habits, P := l.prog, w := w, mg := mg, base := base, N := [], sc := defScope s_law, W := fun _ _ _ _ => False, L := 0, fn := fun _ => true } : Cs) (fz := true) fd4 sc_Kitchen_habits rfl (fun E => d_Kitchen_habits _ E rfl (attOk_fld (c0 := 0) prop_customs inF_customs cls0 n0_customs))
  have ok10 : FnOk l.prog w K mg base (L2.CX l.prog w) 3 f10 _ ["kitchen"] (fun vs H Q E => vs.length = 1 ∧ spD T F_round_cups vs H Q E) := def_ok ({ T := T, g := g_round_cups, P := l.prog, w := w, mg := mg, base := base, N := [], sc := defScope s_law, W := fun _ _ _ _ => False, L := 2, fn := fun _ => true } : Cs) (fz := true) fd10 sc_round_cups rfl (fun E => d_round_cups _ E rfl (attOk_prop (c0 := 0) (i := 5) prop_sink_size (prE_at (c := 0) ok5 (show 2 ≤ 2 by omega) cls0 ⟨a5, pq5, pt5, _, pr5⟩ bn5 rfl (fun ds m o e => noX_some e)) (fun d m x m' => noX_noex) notF_sink_size) (attOk_prop (c0 := 0) (i := 4) prop_habits (prE_at (c := 0) ok4 (show 2 ≤ 2 by omega) cls0 ⟨a4, pq4, pt4, _, pr4⟩ bn4 rfl (fun ds m o e => noX_some e)) (fun d m x m' => noX_noex) notF_habits) h_len)
  have ok11 : FnOk l.prog w K mg base (L2.CX l.prog w) 1 f11 _ ["one", "other"] (fun vs H Q E => vs.length = 2 ∧ spD T F_greatest_common_divisor vs H Q E) := def_ok ({ T := T, g := g_greatest_common_divisor, P := l.prog, w := w, mg := mg, base := base, N := [], sc := defScope s_law, W := fun _ _ _ _ => False, L := 0, fn := fun _ => true } : Cs) (fz := true) fd11 sc_greatest_common_divisor rfl (fun E => d_greatest_common_divisor _ E )
  have ok3 : FnOk l.prog w K mg base (L2.CX l.prog w) 1 f3 _ ["self"] (fun vs H Q E => vs.length = 1 ∧ spD T F_Kitchen_mugs vs H Q E) := def_ok ({ T := T, g := g_Kitchen_mugs, P := l.prog, w := w, mg := mg, base := base, N := [], sc := defScope s_law, W := fun _ _ _ _ => False, L := 0, fn := fun _ => true } : Cs) (fz := true) fd3 sc_Kitchen_mugs rfl (fun E => d_Kitchen_mugs _ E rfl (attOk_fld (c0 := 0) prop_shelf inF_shelf cls0 n0_shelf))
  have ok6 : FnOk l.prog w K mg base (L2.CX l.prog w) 1 f6 _ ["shelf", "sink", "habit"] (fun vs H Q E => vs.length = 3 ∧ spD T F_put_back vs H Q E) := def_ok ({ T := T, g := g_put_back, P := l.prog, w := w, mg := mg, base := base, N := [], sc := defScope s_law, W := fun _ _ _ _ => False, L := 0, fn := fun _ => true } : Cs) (fz := true) fd6 sc_put_back rfl (fun E => d_put_back _ E h_list h_zip)
  have ok7 : FnOk l.prog w K mg base (L2.CX l.prog w) 1 f7 _ ["places"] (fun vs H Q E => vs.length = 1 ∧ spD T F_inverse_of vs H Q E) := def_ok ({ T := T, g := g_inverse_of, P := l.prog, w := w, mg := mg, base := base, N := [], sc := defScope s_law, W := fun _ _ _ _ => False, L := 0, fn := fun _ => true } : Cs) (fz := true) fd7 sc_inverse_of rfl (fun E => d_inverse_of _ E h_len h_enumerate h_tuple)
  have ok8 : FnOk l.prog w K mg base (L2.CX l.prog w) 2 f8 _ ["count", "habit"] (fun vs H Q E => vs.length = 2 ∧ spD T F_map_of vs H Q E) := def_ok ({ T := T, g := g_map_of, P := l.prog, w := w, mg := mg, base := base, N := [], sc := defScope s_law, W := fun _ _ _ _ => False, L := 1, fn := fun _ => true } : Cs) (fz := true) fd8 sc_map_of rfl (fun E => d_map_of _ E h_len h_range h_list (fnE_at ok6 (show 1 ≤ 1 by omega) m6 k6 bn6 rfl rfl) (fnE_at ok7 (show 1 ≤ 1 by omega) m7 k7 bn7 rfl rfl))
  have ok9 : FnOk l.prog w K mg base (L2.CX l.prog w) 1 f9 _ ["places"] (fun vs H Q E => vs.length = 1 ∧ spD T F_cycles_of vs H Q E) := def_ok ({ T := T, g := g_cycles_of, P := l.prog, w := w, mg := mg, base := base, N := [], sc := defScope s_law, W := fun _ _ _ _ => False, L := 0, fn := fun _ => true } : Cs) (fz := true) fd9 sc_cycles_of rfl (fun E => d_cycles_of _ E h_len h_range)
  have ok12 : FnOk l.prog w K mg base (L2.CX l.prog w) 4 f12 _ ["kitchen", "block"] (fun vs H Q E => vs.length = 2 ∧ spD T F_names_by_offset vs H Q E) := def_ok ({ T := T, g := g_names_by_offset, P := l.prog, w := w, mg := mg, base := base, N := [], sc := defScope s_law, W := fun _ _ _ _ => False, L := 3, fn := fun _ => true } : Cs) (fz := true) fd12 sc_names_by_offset rfl (fun E => d_names_by_offset _ E rfl (attOk_prop (c0 := 0) (i := 3) prop_mugs (prE_at (c := 0) ok3 (show 2 ≤ 3 by omega) cls0 ⟨a3, pq3, pt3, _, pr3⟩ bn3 rfl (fun ds m o e => noX_some e)) (fun d m x m' => noX_noex) notF_mugs) h_len (attOk_prop (c0 := 0) (i := 5) prop_sink_size (prE_at (c := 0) ok5 (show 2 ≤ 3 by omega) cls0 ⟨a5, pq5, pt5, _, pr5⟩ bn5 rfl (fun ds m o e => noX_some e)) (fun d m x m' => noX_noex) notF_sink_size) (fnE_at ok10 (show 3 ≤ 3 by omega) m10 k10 bn10 rfl rfl) h_range h_list (attOk_prop (c0 := 0) (i := 4) prop_habits (prE_at (c := 0) ok4 (show 2 ≤ 3 by omega) cls0 ⟨a4, pq4, pt4, _, pr4⟩ bn4 rfl (fun ds m o e => noX_some e)) (fun d m x m' => noX_noex) notF_habits) (fnE_at ok8 (show 2 ≤ 3 by omega) m8 k8 bn8 rfl rfl) h_tuple (fnE_at ok9 (show 1 ≤ 3 by omega) m9 k9 bn9 rfl rfl))
  have ok13 : FnOk l.prog w K mg base (L2.CX l.prog w) 5 f13 _ ["kitchen", "other"] (fun vs H Q E => vs.length = 2 ∧ spD T F_first_difference vs H Q E) := def_ok ({ T := T, g := g_first_difference, P := l.prog, w := w, mg := mg, base := base, N := [], sc := defScope s_law, W := fun _ _ _ _ => False, L := 4, fn := fun _ => true } : Cs) (fz := true) fd13 sc_first_difference rfl (fun E => d_first_difference _ E (fnE_at ok10 (show 3 ≤ 4 by omega) m10 k10 bn10 rfl rfl) (fnE_at ok11 (show 1 ≤ 4 by omega) m11 k11 bn11 rfl rfl) (fnE_at ok12 (show 4 ≤ 4 by omega) m12 k12 bn12 rfl rfl) h_enumerate h_zip h_len h_range h_min)
  have ok22 : FnOk l.prog w K mg base (L2.CX l.prog w) 6 fa _ ["_law_script"] (fun vs H Q E => vs.length = 1 ∧ spD T F_law vs H Q E) := def_ok ({ T := T, g := g_law, P := l.prog, w := w, mg := mg, base := base, N := [], sc := defScope s_law, W := fun _ _ _ _ => False, L := 5, fn := fun _ => true } : Cs) (fz := true) fd22 sc_law rfl (fun E => d_law _ E rfl (fnE_at ok14 (show 1 ≤ 5 by omega) m14 k14 bn14 rfl rfl) h_range (fnE_at ok15 (show 1 ≤ 5 by omega) m15 k15 bn15 rfl rfl) (fnE_at ok17 (show 2 ≤ 5 by omega) m17 k17 bn17 rfl rfl) (fnE_at ok19 (show 3 ≤ 5 by omega) m19 k19 bn19 rfl rfl) h_len (fnE_at ok18 (show 2 ≤ 5 by omega) m18 k18 bn18 rfl rfl) h_min (fnE_at ok21 (show 2 ≤ 5 by omega) m21 k21 bn21 rfl rfl) (mkE_at (c := 0) (i := 2) ok2 (show 3 ≤ 5 by omega) (PySem.W.mg_of X G aC0) ⟨mk0, a2, i2, kc0⟩ bn2 rfl rfl) (fun _ _ => rfl) (fnE_at ok13 (show 5 ≤ 5 by omega) m13 k13 bn13 rfl rfl))
  exact law_ok ok22 rfl pl
end K07

namespace K07
open PySem Dv Mt
local macro_rules
  | `(tactic| simp! [$xs:simpLemma,*] $[$l:location]?) => `(tactic| simp -implicitDefEqProofs (disch := first | omega | assumption | (simp only [List.length_map, List.length_range, List.length_range', List.length_append, List.length_cons, List.length_nil, List.length_replicate, List.length_take, List.length_drop, List.length_set, List.length_reverse, List.length_zip, List.length_eraseIdx]; omega)) only [$xs,*, gm__law_start, gp__law_start, gt__law_start, gm__law_drawn, gp__law_drawn, gt__law_drawn, gx__law_random_names__15, gm__law_random_names, gp__law_random_names, gt__law_random_names, gx__law_random_habit__15, gm__law_random_habit, gp__law_random_habit, gt__law_random_habit, gx__law_random_habits__15, gx__law_random_habits__18, gm__law_random_habits, gp__law_random_habits, gt__law_random_habits, gm__law_washed, gp__law_washed, gt__law_washed, gx__law_played__20, gm__law_played, gp__law_played, gt__law_played, gm_is_name, gp_is_name, gt_is_name, gm_is_habit, gp_is_habit, gt_is_habit, gx_Kitchen___init____0, gx_Kitchen___init____1, gm_Kitchen___init__, gp_Kitchen___init__, gt_Kitchen___init__, gm_Kitchen_sink_size, gp_Kitchen_sink_size, gt_Kitchen_sink_size, gm_Kitchen_habits, gp_Kitchen_habits, gt_Kitchen_habits, gx_round_cups__5, gx_round_cups__4, gm_round_cups, gp_round_cups, gt_round_cups, gm_greatest_common_divisor, gp_greatest_common_divisor, gt_greatest_common_divisor, gm_Kitchen_mugs, gp_Kitchen_mugs, gt_Kitchen_mugs, gm_put_back, gp_put_back, gt_put_back, gm_inverse_of, gp_inverse_of, gt_inverse_of, gx_map_of__6, gx_map_of__7, gm_map_of, gp_map_of, gt_map_of, gm_cycles_of, gp_cycles_of, gt_cycles_of, gx_names_by_offset__3, gx_names_by_offset__5, gx_names_by_offset__10, gx_names_by_offset__4, gx_names_by_offset__8, gx_names_by_offset__9, gm_names_by_offset, gp_names_by_offset, gt_names_by_offset, gx_first_difference__10, gx_first_difference__11, gx_first_difference__12, gm_first_difference, gp_first_difference, gt_first_difference, gx_law__14, gx_law__15, gx_law__17, gx_law__19, gx_law__18, gx_law__21, gx_law__2, gx_law__13, gn_law__0, gm_law, gp_law, gt_law, ↓y_nil, ↓y_cons, ↓y_pass, ↓y_brk, ↓y_cnt, ↓y_never, ↓y_expr, ↓y_ret, ↓y_retN, ↓y_asg, ↓y_aug, ↓y_ifs, ↓y_whl, ↓y_forr, ↓y_sti, ↓y_stf, ↓x_var, ↓x_cst, ↓x_bop, ↓x_neg, ↓x_cmp, ↓x_chn, ↓x_and, ↓x_or, ↓x_not, ↓x_ite, ↓x_tup, ↓x_lst, ↓x_ix, ↓x_sl, ↓x_rsl, ↓x_cal, ↓x_mk, ↓x_bi, ↓x_rgl, ↓x_isi, ↓x_mth, ↓x_omt, ↓x_att, ↓x_cpr, ↓x_nilL, ↓x_consL, ↓x_non, ↓x_some, ↓x_seq, ↓x_rg1, ↓x_rg2, ↓x_enu, ↓x_zip, ↓x_ezp, ↓y_body, ↓x_turn, ↓x_lgn, ↓x_sst, ↓v_nil, ↓v_plain, ↓v_yld, ↓v_forr, ↓v_whl, ↓v_body, ↓y_forg, ↓c_nil, ↓c_plain, ↓c_yld, ↓c_forr, ↓c_whl, ↓c_body, endF_nx, endF_rt, endF_st, plnC_nx, plnC_rt, thnC_nx, thnC_st, itC_fix, outC_nx, outC_ct, outC_bk, outC_rt, yldC_ok, envC2_ok, bndLS_ok, endG_nx, endG_rt, plnG_nx, plnG_rt, thnG_nx, itG_fix, yldG_ok, envG_ok, lgnK_ok, varK_ok, negK_ok, chnK_t, chnK_f, andK_t, andK_f, orK_t, orK_f, notK_ok, iteK_t, iteK_f, rglK_t, rglK_f, mthK_t, omtK_ok, smK_ok, fldK_ok, attK_ok, att2_p, att2_f, cprK_ok, ioK_ok, liveK_ok, seqK_t, seqK_l, seqK_e, seqK_s, seqK_r, rg1K_ok, rg2K_ok, enuK_ok, zipK_ok, ezpK_ok, sqK_nx, sqK_rt, sqK_bk, sqK_ct, sqK_ex, sqK_none, ifK_t, ifK_f, augK_ok, forD_fix, forD_live, compD_fix, compD_live, envK_ok, eltK_ok, cndK_t, cndK_f, envC_ok, w_nm, w_tp, w_tpL, w_nil, setK_ok, w_cons, w_wipe0, w_wipe, w_len0, w_len, gtK_ok, atR_g, atX_g, atSt_g, isK_ok, isR_g, popK_ok, stiK_ok, cls_obj, cls_res, clK_ok, fld_obj, fld_res, flK_ok, ins_obj, ins_res, inK_ok, sfK_ok, stf_res, if_pos, if_neg, List.flatten_cons, List.flatten_nil, Int.reduceToNat, Int.reduceAdd, Int.reduceSub, Int.reduceMul, Int.reduceNeg, Int.reduceLT, Int.reduceLE, Int.reduceEq, Int.toNat_zero, Int.toNat_one, List.length_range', end_rtT, end_rtF, end_nxT, end_nxF, end_ex, bnd_ok, bndL_ok, bndS_ok, bndI_ok, toI_ok, bndSI_ok, q_okP, q_okB, q_consL, q_consK, q_newT, q_newF, Option.map_some, Option.map_none, Option.bind_some, ite_true, ite_false, if_true, if_false, eq_self, Bool.not_true, Bool.not_false, Bool.true_eq_false, Bool.false_eq_true, Nat.reduceLT, Nat.reduceEqDiff, Nat.reduceSub, Nat.reduceAdd, Int.toNat_natCast, List.map_cons, List.map_nil, List.length_cons, List.length_nil, List.replicate_zero, List.replicate_succ, List.cons_append, List.nil_append, List.append_nil, List.append_assoc, List.length_append, List.length_map, List.length_range, List.length_replicate, List.getElem?_cons_zero, List.getElem?_cons_succ, List.set_cons_zero, List.set_cons_succ, Nat.add_zero, Nat.zero_add, q_get0, q_getk, q_set0, q_setk, iN_eq, List.getElem?_map, q_le, q_lt, q_add, q_sub, q_mulr, q_mull, q_mulT, q_fdiv, q_mod, q_pow18, q_pow9, q_pow15, z_addRL, z_addLR, z_addRR, z_addLL, z_addTT, z_addSS, q_rep1, q_cmpLt, q_cmpLe, q_cmpGt, q_cmpGe, q_isN, q_notN, q_nonN, q_nonI, q_nonS, q_nonT, q_nonL, q_nonR, q_nonB, q_nonO, q_eq, q_ne, q_inn, q_nin, q_eqI, q_eqB, cut_lo, cut_hi, cut_lohi, cut_all, cut_him1, q_slT, q_rslT, q_slL, z_slR, z_ixR, ixD_tup, ixD_lst, ixD_ext, q_lenT, q_lenL, q_lenE, z_lenR, q_listT, q_listL, q_listE, z_listR, q_tupT, q_tupL, z_tupR, q_intI, q_intB, q_absI, q_maxII, q_minII, q_allL, z_append, z_extR, z_extL, z_insert, z_pop, z_pop0, z_mtR, q_mtL, q_mtT, z_sti, q_augA, q_augS, q_rngN, fsq_tup, fsq_lst, fsq_ext, atI_natN, atI_nn, ixN_nn, Bool.and_true, Bool.true_and, Bool.and_self, q_dT, q_dF, not_true_eq_false, not_false_eq_true, decide_true, decide_false, isi_non, isi_bl, isi_int, isi_str, isi_tup, isi_lst, isi_ext, List.any_cons, List.any_nil, Bool.or_false, Bool.false_or, Bool.or_true, Bool.true_or, ty_int_int, ty_int_bool, ty_int_str, ty_int_tuple, ty_int_list, ty_int_dict, ty_int_none, ty_bool_int, ty_bool_bool, ty_bool_str, ty_bool_tuple, ty_bool_list, ty_bool_dict, ty_bool_none, ty_str_int, ty_str_bool, ty_str_str, ty_str_tuple, ty_str_list, ty_str_dict, ty_str_none, ty_tuple_int, ty_tuple_bool, ty_tuple_str, ty_tuple_tuple, ty_tuple_list, ty_tuple_dict, ty_tuple_none, ty_list_int, ty_list_bool, ty_list_str, ty_list_tuple, ty_list_list, ty_list_dict, ty_list_none, ty_dict_int, ty_dict_bool, ty_dict_str, ty_dict_tuple, ty_dict_list, ty_dict_dict, ty_dict_none, ty_none_int, ty_none_bool, ty_none_str, ty_none_tuple, ty_none_list, ty_none_dict, ty_none_none] $[$l:location]?)
theorem put_back (sh sk hb : D) (xs ys : List D) (ds : List Nat) (m : List R) (h1 : sq m sh = some xs) (h2 : fsq sk = some ys) (h3 : fsq hb = some (ds.map iN)) (hd : ∀ d ∈ ds, d < 1000) (hl : xs.length + ys.length ≤ 1000) (ok1 : okDL m.length xs = true) (ok2 : okDL m.length ys = true) :
    F_put_back [sh, sk, hb] m = some (.ok (.lst (putB xs (ys.zip ds))) m) := by
  simp! [eq_self, F_put_back, b_put_back, N_put_back, runD_eq, runG_eq, runFor_eq, q_listQ h1, h2, h3]
  generalize hX : forF _ _ _ _ = X
  have hF := forF_gen hX
  obtain ⟨ρ', m', rfl, a, b, rfl, rfl⟩ := hF (fun i ρ m' => ∃ a b, ρ = [some sh, some sk, some hb, some (.res m.length), a, b] ∧ m' = m ++ [.lst (putB xs ((ys.zip ds).take i))]) ⟨none, none, rfl, rfl⟩ (by
    rintro i x ρ m' hx ⟨a, b, rfl, rfl⟩
    unfold zipD at hx
    rw [List.getElem?_map] at hx
    cases hy : (ys.zip (ds.map iN))[i]? with
    | none => rw [hy] at hx; cases hx
    | some p =>
      rw [hy] at hx
      cases hx
      rw [List.zip_map_right, List.getElem?_map] at hy
      cases hz : (ys.zip ds)[i]? with
      | none => rw [hz] at hy; cases hy
      | some q =>
        rw [hz] at hy
        cases hy
        obtain ⟨y, d⟩ := q
        have hmem := List.mem_of_getElem? hz
        have hd' : d < 1000 := hd d (List.of_mem_zip hmem).2
        have hlen : (putB xs ((ys.zip ds).take i)).length ≤ 1000 := by
          rw [putB_len, List.length_take]
          have : (ys.zip ds).length ≤ ys.length := by rw [List.length_zip]; omega
          omega
        refine ⟨_, m ++ [R.lst (ins d y (putB xs ((ys.zip ds).take i)))], .inl ?_, some y, some (iN d), rfl, ?_⟩
        · simp! [eq_self, b_put_back_1, Prod.map, id]
          simp [ins]
        · rw [List.take_add_one, hz]
          show _ = m ++ [R.lst (putB xs ((ys.zip ds).take i ++ [(y, d)]))]
          rw [putB_snoc])
  simp! [eq_self]
  rw [fin_lst (Nat.le_refl _) get_app0]
  · congr 4
    refine List.take_of_length_le ?_
    unfold zipD
    simp
  · refine okDL_all fun p hp => ?_
    rcases List.mem_append.mp ((putB_perm _ _).mem_iff.mp hp) with h | h
    · exact okDL_mem ok1 h
    · obtain ⟨q, hq, rfl⟩ := List.mem_map.mp h
      exact okDL_mem ok2 (List.of_mem_zip (List.mem_of_mem_take hq)).1
end K07


namespace K07
open PySem Dv Mt
local macro_rules
  | `(tactic| simp! [$xs:simpLemma,*] $[$l:location]?) => `(tactic| simp -implicitDefEqProofs (disch := first | omega | assumption | (simp only [List.length_map, List.length_range, List.length_range', List.length_append, List.length_cons, List.length_nil, List.length_replicate, List.length_take, List.length_drop, List.length_set, List.length_reverse, List.length_zip, List.length_eraseIdx]; omega)) only [$xs,*, gm__law_start, gp__law_start, gt__law_start, gm__law_drawn, gp__law_drawn, gt__law_drawn, gx__law_random_names__15, gm__law_random_names, gp__law_random_names, gt__law_random_names, gx__law_random_habit__15, gm__law_random_habit, gp__law_random_habit, gt__law_random_habit, gx__law_random_habits__15, gx__law_random_habits__18, gm__law_random_habits, gp__law_random_habits, gt__law_random_habits, gm__law_washed, gp__law_washed, gt__law_washed, gx__law_played__20, gm__law_played, gp__law_played, gt__law_played, gm_is_name, gp_is_name, gt_is_name, gm_is_habit, gp_is_habit, gt_is_habit, gx_Kitchen___init____0, gx_Kitchen___init____1, gm_Kitchen___init__, gp_Kitchen___init__, gt_Kitchen___init__, gm_Kitchen_sink_size, gp_Kitchen_sink_size, gt_Kitchen_sink_size, gm_Kitchen_habits, gp_Kitchen_habits, gt_Kitchen_habits, gx_round_cups__5, gx_round_cups__4, gm_round_cups, gp_round_cups, gt_round_cups, gm_greatest_common_divisor, gp_greatest_common_divisor, gt_greatest_common_divisor, gm_Kitchen_mugs, gp_Kitchen_mugs, gt_Kitchen_mugs, gm_put_back, gp_put_back, gt_put_back, gm_inverse_of, gp_inverse_of, gt_inverse_of, gx_map_of__6, gx_map_of__7, gm_map_of, gp_map_of, gt_map_of, gm_cycles_of, gp_cycles_of, gt_cycles_of, gx_names_by_offset__3, gx_names_by_offset__5, gx_names_by_offset__10, gx_names_by_offset__4, gx_names_by_offset__8, gx_names_by_offset__9, gm_names_by_offset, gp_names_by_offset, gt_names_by_offset, gx_first_difference__10, gx_first_difference__11, gx_first_difference__12, gm_first_difference, gp_first_difference, gt_first_difference, gx_law__14, gx_law__15, gx_law__17, gx_law__19, gx_law__18, gx_law__21, gx_law__2, gx_law__13, gn_law__0, gm_law, gp_law, gt_law, ↓y_nil, ↓y_cons, ↓y_pass, ↓y_brk, ↓y_cnt, ↓y_never, ↓y_expr, ↓y_ret, ↓y_retN, ↓y_asg, ↓y_aug, ↓y_ifs, ↓y_whl, ↓y_forr, ↓y_sti, ↓y_stf, ↓x_var, ↓x_cst, ↓x_bop, ↓x_neg, ↓x_cmp, ↓x_chn, ↓x_and, ↓x_or, ↓x_not, ↓x_ite, ↓x_tup, ↓x_lst, ↓x_ix, ↓x_sl, ↓x_rsl, ↓x_cal, ↓x_mk, ↓x_bi, ↓x_rgl, ↓x_isi, ↓x_mth, ↓x_omt, ↓x_att, ↓x_cpr, ↓x_nilL, ↓x_consL, ↓x_non, ↓x_some, ↓x_seq, ↓x_rg1, ↓x_rg2, ↓x_enu, ↓x_zip, ↓x_ezp, ↓y_body, ↓x_turn, ↓x_lgn, ↓x_sst, ↓v_nil, ↓v_plain, ↓v_yld, ↓v_forr, ↓v_whl, ↓v_body, ↓y_forg, ↓c_nil, ↓c_plain, ↓c_yld, ↓c_forr, ↓c_whl, ↓c_body, endF_nx, endF_rt, endF_st, plnC_nx, plnC_rt, thnC_nx, thnC_st, itC_fix, outC_nx, outC_ct, outC_bk, outC_rt, yldC_ok, envC2_ok, bndLS_ok, endG_nx, endG_rt, plnG_nx, plnG_rt, thnG_nx, itG_fix, yldG_ok, envG_ok, lgnK_ok, varK_ok, negK_ok, chnK_t, chnK_f, andK_t, andK_f, orK_t, orK_f, notK_ok, iteK_t, iteK_f, rglK_t, rglK_f, mthK_t, omtK_ok, smK_ok, fldK_ok, attK_ok, att2_p, att2_f, cprK_ok, ioK_ok, liveK_ok, seqK_t, seqK_l, seqK_e, seqK_s, seqK_r, rg1K_ok, rg2K_ok, enuK_ok, zipK_ok, ezpK_ok, sqK_nx, sqK_rt, sqK_bk, sqK_ct, sqK_ex, sqK_none, ifK_t, ifK_f, augK_ok, forD_fix, forD_live, compD_fix, compD_live, envK_ok, eltK_ok, cndK_t, cndK_f, envC_ok, w_nm, w_tp, w_tpL, w_nil, setK_ok, w_cons, w_wipe0, w_wipe, w_len0, w_len, gtK_ok, atR_g, atX_g, atSt_g, isK_ok, isR_g, popK_ok, stiK_ok, cls_obj, cls_res, clK_ok, fld_obj, fld_res, flK_ok, ins_obj, ins_res, inK_ok, sfK_ok, stf_res, if_pos, if_neg, List.flatten_cons, List.flatten_nil, Int.reduceToNat, Int.reduceAdd, Int.reduceSub, Int.reduceMul, Int.reduceNeg, Int.reduceLT, Int.reduceLE, Int.reduceEq, Int.toNat_zero, Int.toNat_one, List.length_range', end_rtT, end_rtF, end_nxT, end_nxF, end_ex, bnd_ok, bndL_ok, bndS_ok, bndI_ok, toI_ok, bndSI_ok, q_okP, q_okB, q_consL, q_consK, q_newT, q_newF, Option.map_some, Option.map_none, Option.bind_some, ite_true, ite_false, if_true, if_false, eq_self, Bool.not_true, Bool.not_false, Bool.true_eq_false, Bool.false_eq_true, Nat.reduceLT, Nat.reduceEqDiff, Nat.reduceSub, Nat.reduceAdd, Int.toNat_natCast, List.map_cons, List.map_nil, List.length_cons, List.length_nil, List.replicate_zero, List.replicate_succ, List.cons_append, List.nil_append, List.append_nil, List.append_assoc, List.length_append, List.length_map, List.length_range, List.length_replicate, List.getElem?_cons_zero, List.getElem?_cons_succ, List.set_cons_zero, List.set_cons_succ, Nat.add_zero, Nat.zero_add, q_get0, q_getk, q_set0, q_setk, iN_eq, List.getElem?_map, q_le, q_lt, q_add, q_sub, q_mulr, q_mull, q_mulT, q_fdiv, q_mod, q_pow18, q_pow9, q_pow15, z_addRL, z_addLR, z_addRR, z_addLL, z_addTT, z_addSS, q_rep1, q_cmpLt, q_cmpLe, q_cmpGt, q_cmpGe, q_isN, q_notN, q_nonN, q_nonI, q_nonS, q_nonT, q_nonL, q_nonR, q_nonB, q_nonO, q_eq, q_ne, q_inn, q_nin, q_eqI, q_eqB, cut_lo, cut_hi, cut_lohi, cut_all, cut_him1, q_slT, q_rslT, q_slL, z_slR, z_ixR, ixD_tup, ixD_lst, ixD_ext, q_lenT, q_lenL, q_lenE, z_lenR, q_listT, q_listL, q_listE, z_listR, q_tupT, q_tupL, z_tupR, q_intI, q_intB, q_absI, q_maxII, q_minII, q_allL, z_append, z_extR, z_extL, z_insert, z_pop, z_pop0, z_mtR, q_mtL, q_mtT, z_sti, q_augA, q_augS, q_rngN, fsq_tup, fsq_lst, fsq_ext, atI_natN, atI_nn, ixN_nn, Bool.and_true, Bool.true_and, Bool.and_self, q_dT, q_dF, not_true_eq_false, not_false_eq_true, decide_true, decide_false, isi_non, isi_bl, isi_int, isi_str, isi_tup, isi_lst, isi_ext, List.any_cons, List.any_nil, Bool.or_false, Bool.false_or, Bool.or_true, Bool.true_or, ty_int_int, ty_int_bool, ty_int_str, ty_int_tuple, ty_int_list, ty_int_dict, ty_int_none, ty_bool_int, ty_bool_bool, ty_bool_str, ty_bool_tuple, ty_bool_list, ty_bool_dict, ty_bool_none, ty_str_int, ty_str_bool, ty_str_str, ty_str_tuple, ty_str_list, ty_str_dict, ty_str_none, ty_tuple_int, ty_tuple_bool, ty_tuple_str, ty_tuple_tuple, ty_tuple_list, ty_tuple_dict, ty_tuple_none, ty_list_int, ty_list_bool, ty_list_str, ty_list_tuple, ty_list_list, ty_list_dict, ty_list_none, ty_dict_int, ty_dict_bool, ty_dict_str, ty_dict_tuple, ty_dict_list, ty_dict_dict, ty_dict_none, ty_none_int, ty_none_bool, ty_none_str, ty_none_tuple, ty_none_list, ty_none_dict, ty_none_none] $[$l:location]?)
theorem inverse_of {n : Nat} (ps : List Nat) (m : List R) (h : IsP n ps) (hn : n ≤ 1000) : F_inverse_of [.lst (ps.map iN)] m = some (.ok (.tup ((inv ps).map iN)) m) := by
  have hl := h.len
  simp! [eq_self, F_inverse_of, b_inverse_of, N_inverse_of, runD_eq, runG_eq, runFor_eq]
  generalize hX : forF _ _ _ _ = X
  have hF := forF_gen hX
  obtain ⟨ρ', m', rfl, a, b, rfl, rfl⟩ := hF (fun i ρ m' => ∃ a b, ρ = [some (.lst (ps.map iN)), some (.res m.length), a, b] ∧ m' = m ++ [.lst ((invN ps i).map iN)]) ⟨none, none, rfl, by simp [invN, iN]⟩ (by
    rintro i x ρ m' hx ⟨a, b, rfl, rfl⟩
    unfold enuD at hx
    rw [List.getElem?_map, List.getElem?_zipIdx, List.getElem?_map] at hx
    cases hp : ps[i]? with
    | none => rw [hp] at hx; cases hx
    | some g =>
      rw [hp] at hx
      cases hx
      have hg : g < (invN ps i).length := by rw [invN_len, hl]; exact h.lt (List.mem_of_getElem? hp)
      refine ⟨_, m ++ [R.lst (((invN ps i).map iN).set g (iN i))], .inl ?_, some (iN i), some (iN g), rfl, ?_⟩
      · simp! [eq_self, b_inverse_of_1]
      · show _ = m ++ [R.lst ((match ps[i]? with | some g => (invN ps i).set g i | none => invN ps i).map iN)]
        rw [hp]
        simp [List.map_set])
  have e6 : (enuD (ps.map iN)).length = ps.length := by simp [enuD]
  simp! [eq_self, e6, invN_inv h]
  rw [fin_app (by rw [okD_tup]; exact okDL_map (fun x => okD_int _ _) _)]
theorem map_of {n : Nat} (h : List Nat) (m : List R) (hl : h.length ≤ n) (hn : n ≤ 100) (hd : ∀ d ∈ h, d < 1000) : F_map_of [.int (n : Int), .tup (h.map iN)] m = some (.ok (.tup ((mp n h).map iN)) m) := by
  have e1 := put_back (.lst ((List.range' h.length (n - h.length)).map iN)) (.lst ((List.range h.length).map iN)) (.tup (h.map iN)) _ _ h m rfl rfl rfl hd (by simp; omega) (okDL_map (fun x => okD_int _ _) _) (okDL_map (fun x => okD_int _ _) _)
  have e2 : putB ((List.range' h.length (n - h.length)).map iN) (((List.range h.length).map iN).zip h) = (wash h (List.range n)).map iN := by
    have e3 : (List.range n).drop h.length = List.range' h.length (n - h.length) := by
      rw [List.range_eq_range', List.drop_range']
      simp
    have e4 : (List.range n).take h.length = List.range h.length := by
      rw [List.take_range, Nat.min_eq_left hl]
    rw [wash, ← putB_map, e3, e4, List.zip_map_left]
  rw [e2] at e1
  have e5 := inverse_of _ m (wash_isP hl) (by omega)
  simp! [eq_self, F_map_of, b_map_of, N_map_of, runD_eq, runG_eq, runFor_eq, e1, e5, rngD_iN, List.length_range']
  exact fin_self (by rw [okD_tup]; exact okDL_map (fun x => okD_int _ _) _)
end K07


namespace K07
open PySem Dv Mt
local macro_rules
  | `(tactic| simp! [$xs:simpLemma,*] $[$l:location]?) => `(tactic| simp -implicitDefEqProofs (disch := first | omega | assumption | (simp only [List.length_map, List.length_range, List.length_range', List.length_append, List.length_cons, List.length_nil, List.length_replicate, List.length_take, List.length_drop, List.length_set, List.length_reverse, List.length_zip, List.length_eraseIdx]; omega)) only [$xs,*, gm__law_start, gp__law_start, gt__law_start, gm__law_drawn, gp__law_drawn, gt__law_drawn, gx__law_random_names__15, gm__law_random_names, gp__law_random_names, gt__law_random_names, gx__law_random_habit__15, gm__law_random_habit, gp__law_random_habit, gt__law_random_habit, gx__law_random_habits__15, gx__law_random_habits__18, gm__law_random_habits, gp__law_random_habits, gt__law_random_habits, gm__law_washed, gp__law_washed, gt__law_washed, gx__law_played__20, gm__law_played, gp__law_played, gt__law_played, gm_is_name, gp_is_name, gt_is_name, gm_is_habit, gp_is_habit, gt_is_habit, gx_Kitchen___init____0, gx_Kitchen___init____1, gm_Kitchen___init__, gp_Kitchen___init__, gt_Kitchen___init__, gm_Kitchen_sink_size, gp_Kitchen_sink_size, gt_Kitchen_sink_size, gm_Kitchen_habits, gp_Kitchen_habits, gt_Kitchen_habits, gx_round_cups__5, gx_round_cups__4, gm_round_cups, gp_round_cups, gt_round_cups, gm_greatest_common_divisor, gp_greatest_common_divisor, gt_greatest_common_divisor, gm_Kitchen_mugs, gp_Kitchen_mugs, gt_Kitchen_mugs, gm_put_back, gp_put_back, gt_put_back, gm_inverse_of, gp_inverse_of, gt_inverse_of, gx_map_of__6, gx_map_of__7, gm_map_of, gp_map_of, gt_map_of, gm_cycles_of, gp_cycles_of, gt_cycles_of, gx_names_by_offset__3, gx_names_by_offset__5, gx_names_by_offset__10, gx_names_by_offset__4, gx_names_by_offset__8, gx_names_by_offset__9, gm_names_by_offset, gp_names_by_offset, gt_names_by_offset, gx_first_difference__10, gx_first_difference__11, gx_first_difference__12, gm_first_difference, gp_first_difference, gt_first_difference, gx_law__14, gx_law__15, gx_law__17, gx_law__19, gx_law__18, gx_law__21, gx_law__2, gx_law__13, gn_law__0, gm_law, gp_law, gt_law, ↓y_nil, ↓y_cons, ↓y_pass, ↓y_brk, ↓y_cnt, ↓y_never, ↓y_expr, ↓y_ret, ↓y_retN, ↓y_asg, ↓y_aug, ↓y_ifs, ↓y_whl, ↓y_forr, ↓y_sti, ↓y_stf, ↓x_var, ↓x_cst, ↓x_bop, ↓x_neg, ↓x_cmp, ↓x_chn, ↓x_and, ↓x_or, ↓x_not, ↓x_ite, ↓x_tup, ↓x_lst, ↓x_ix, ↓x_sl, ↓x_rsl, ↓x_cal, ↓x_mk, ↓x_bi, ↓x_rgl, ↓x_isi, ↓x_mth, ↓x_omt, ↓x_att, ↓x_cpr, ↓x_nilL, ↓x_consL, ↓x_non, ↓x_some, ↓x_seq, ↓x_rg1, ↓x_rg2, ↓x_enu, ↓x_zip, ↓x_ezp, ↓y_body, ↓x_turn, ↓x_lgn, ↓x_sst, ↓v_nil, ↓v_plain, ↓v_yld, ↓v_forr, ↓v_whl, ↓v_body, ↓y_forg, ↓c_nil, ↓c_plain, ↓c_yld, ↓c_forr, ↓c_whl, ↓c_body, endF_nx, endF_rt, endF_st, plnC_nx, plnC_rt, thnC_nx, thnC_st, itC_fix, outC_nx, outC_ct, outC_bk, outC_rt, yldC_ok, envC2_ok, bndLS_ok, endG_nx, endG_rt, plnG_nx, plnG_rt, thnG_nx, itG_fix, yldG_ok, envG_ok, lgnK_ok, varK_ok, negK_ok, chnK_t, chnK_f, andK_t, andK_f, orK_t, orK_f, notK_ok, iteK_t, iteK_f, rglK_t, rglK_f, mthK_t, omtK_ok, smK_ok, fldK_ok, attK_ok, att2_p, att2_f, cprK_ok, ioK_ok, liveK_ok, seqK_t, seqK_l, seqK_e, seqK_s, seqK_r, rg1K_ok, rg2K_ok, enuK_ok, zipK_ok, ezpK_ok, sqK_nx, sqK_rt, sqK_bk, sqK_ct, sqK_ex, sqK_none, ifK_t, ifK_f, augK_ok, forD_fix, forD_live, compD_fix, compD_live, envK_ok, eltK_ok, cndK_t, cndK_f, envC_ok, w_nm, w_tp, w_tpL, w_nil, setK_ok, w_cons, w_wipe0, w_wipe, w_len0, w_len, gtK_ok, atR_g, atX_g, atSt_g, isK_ok, isR_g, popK_ok, stiK_ok, cls_obj, cls_res, clK_ok, fld_obj, fld_res, flK_ok, ins_obj, ins_res, inK_ok, sfK_ok, stf_res, if_pos, if_neg, List.flatten_cons, List.flatten_nil, Int.reduceToNat, Int.reduceAdd, Int.reduceSub, Int.reduceMul, Int.reduceNeg, Int.reduceLT, Int.reduceLE, Int.reduceEq, Int.toNat_zero, Int.toNat_one, List.length_range', end_rtT, end_rtF, end_nxT, end_nxF, end_ex, bnd_ok, bndL_ok, bndS_ok, bndI_ok, toI_ok, bndSI_ok, q_okP, q_okB, q_consL, q_consK, q_newT, q_newF, Option.map_some, Option.map_none, Option.bind_some, ite_true, ite_false, if_true, if_false, eq_self, Bool.not_true, Bool.not_false, Bool.true_eq_false, Bool.false_eq_true, Nat.reduceLT, Nat.reduceEqDiff, Nat.reduceSub, Nat.reduceAdd, Int.toNat_natCast, List.map_cons, List.map_nil, List.length_cons, List.length_nil, List.replicate_zero, List.replicate_succ, List.cons_append, List.nil_append, List.append_nil, List.append_assoc, List.length_append, List.length_map, List.length_range, List.length_replicate, List.getElem?_cons_zero, List.getElem?_cons_succ, List.set_cons_zero, List.set_cons_succ, Nat.add_zero, Nat.zero_add, q_get0, q_getk, q_set0, q_setk, iN_eq, List.getElem?_map, q_le, q_lt, q_add, q_sub, q_mulr, q_mull, q_mulT, q_fdiv, q_mod, q_pow18, q_pow9, q_pow15, z_addRL, z_addLR, z_addRR, z_addLL, z_addTT, z_addSS, q_rep1, q_cmpLt, q_cmpLe, q_cmpGt, q_cmpGe, q_isN, q_notN, q_nonN, q_nonI, q_nonS, q_nonT, q_nonL, q_nonR, q_nonB, q_nonO, q_eq, q_ne, q_inn, q_nin, q_eqI, q_eqB, cut_lo, cut_hi, cut_lohi, cut_all, cut_him1, q_slT, q_rslT, q_slL, z_slR, z_ixR, ixD_tup, ixD_lst, ixD_ext, q_lenT, q_lenL, q_lenE, z_lenR, q_listT, q_listL, q_listE, z_listR, q_tupT, q_tupL, z_tupR, q_intI, q_intB, q_absI, q_maxII, q_minII, q_allL, z_append, z_extR, z_extL, z_insert, z_pop, z_pop0, z_mtR, q_mtL, q_mtT, z_sti, q_augA, q_augS, q_rngN, fsq_tup, fsq_lst, fsq_ext, atI_natN, atI_nn, ixN_nn, Bool.and_true, Bool.true_and, Bool.and_self, q_dT, q_dF, not_true_eq_false, not_false_eq_true, decide_true, decide_false, isi_non, isi_bl, isi_int, isi_str, isi_tup, isi_lst, isi_ext, List.any_cons, List.any_nil, Bool.or_false, Bool.false_or, Bool.or_true, Bool.true_or, ty_int_int, ty_int_bool, ty_int_str, ty_int_tuple, ty_int_list, ty_int_dict, ty_int_none, ty_bool_int, ty_bool_bool, ty_bool_str, ty_bool_tuple, ty_bool_list, ty_bool_dict, ty_bool_none, ty_str_int, ty_str_bool, ty_str_str, ty_str_tuple, ty_str_list, ty_str_dict, ty_str_none, ty_tuple_int, ty_tuple_bool, ty_tuple_str, ty_tuple_tuple, ty_tuple_list, ty_tuple_dict, ty_tuple_none, ty_list_int, ty_list_bool, ty_list_str, ty_list_tuple, ty_list_list, ty_list_dict, ty_list_none, ty_dict_int, ty_dict_bool, ty_dict_str, ty_dict_tuple, ty_dict_list, ty_dict_dict, ty_dict_none, ty_none_int, ty_none_bool, ty_none_str, ty_none_tuple, ty_none_list, ty_none_dict, ty_none_none] $[$l:location]?)
/-! kitchens -/
theorem ix_shelf : List.idxOf ("shelf" : Str) (nmT 0) = 0 := by decide +kernel
theorem ix_customs : List.idxOf ("customs" : Str) (nmT 0) = 1 := by decide +kernel
theorem rt_K_mugs (a b : D) (m : List R) (ok : okD m.length a = true) : F_Kitchen_mugs [.obj 0 [a, b]] m = some (.ok a m) := by
  simp! [eq_self, F_Kitchen_mugs, b_Kitchen_mugs, N_Kitchen_mugs, runD_eq, runG_eq, runFor_eq, prop_shelf, ix_shelf]
  exact fin_self ok
theorem rt_K_habits (a b : D) (m : List R) (ok : okD m.length b = true) : F_Kitchen_habits [.obj 0 [a, b]] m = some (.ok b m) := by
  simp! [eq_self, F_Kitchen_habits, b_Kitchen_habits, N_Kitchen_habits, runD_eq, runG_eq, runFor_eq, prop_customs, ix_customs]
  exact fin_self ok
theorem rt_K_sink (a : D) (b : List D) (h : List D) (m : List R) (hb : b[0]? = some (.tup h)) : F_Kitchen_sink_size [.obj 0 [a, .tup b]] m = some (.ok (.int h.length) m) := by
  have e : L2.atI b 0 = some (.tup h) := atI_at (i := 0) hb
  simp! [eq_self, F_Kitchen_sink_size, b_Kitchen_sink_size, N_Kitchen_sink_size, runD_eq, runG_eq, runFor_eq, prop_customs, ix_customs, e]
  exact fin_self rfl
/-- a kitchen's data -/
def hD (h : List Nat) : D := .tup (h.map iN)
def kD (ns : List Str) (hs : List (List Nat)) : D := .obj 0 [.tup (ns.map .str), .tup (hs.map hD)]
theorem okD_hD (n : Nat) (h : List Nat) : okD n (hD h) = true := by
  unfold hD
  rw [okD_tup]
  exact okDL_map (fun x => okD_int _ _) _
theorem okD_hDs (n : Nat) (hs : List (List Nat)) : okD n (.tup (hs.map hD)) = true := by
  rw [okD_tup]
  exact okDL_map (fun x => okD_hD _ _) _
theorem okD_kD (n : Nat) (ns : List Str) (hs : List (List Nat)) : okD n (kD ns hs) = true := by
  unfold kD
  simp only [okD, okDL, okDL_strs, okDL_map (fun x => okD_hD n x), Bool.and_self]
theorem k_mugs (ns : List Str) (hs : List (List Nat)) (m : List R) : F_Kitchen_mugs [kD ns hs] m = some (.ok (.tup (ns.map .str)) m) := rt_K_mugs _ _ m (by rw [okD_tup]; exact okDL_strs _ _)
theorem k_habits (ns : List Str) (hs : List (List Nat)) (m : List R) : F_Kitchen_habits [kD ns hs] m = some (.ok (.tup (hs.map hD)) m) := rt_K_habits _ _ m (okD_hDs _ _)
theorem k_sink' (ns : List Str) (h : List Nat) (hs : List (List Nat)) (m : List R) : F_Kitchen_sink_size [kD ns (h :: hs)] m = some (.ok (.int (h.length : Int)) m) := by
  have := rt_K_sink (.tup (ns.map .str)) ((h :: hs).map hD) (h.map iN) m rfl
  rw [List.length_map] at this
  exact this
theorem k_sink (ns : List Str) (s : Nat) (hs : List (List Nat)) (m : List R) (h1 : 1 ≤ hs.length) (hl : ∀ h ∈ hs, h.length = s) : F_Kitchen_sink_size [kD ns hs] m = some (.ok (.int (s : Int)) m) := by
  cases hs with
  | nil => cases h1
  | cons h hs => rw [k_sink', hl h List.mem_cons_self]
theorem cls_kD (m : List R) (ns : List Str) (hs : List (List Nat)) : clsD m (kD ns hs) = some 0 := rfl
/-- a habit that fits -/
def HabOk (n s : Nat) (h : List Nat) : Prop := h.length = s ∧ 1 ≤ s ∧ s ≤ n ∧ ∀ (i d : Nat), h[i]? = some d → d ≤ n - s + i
theorem is_habit {n s : Nat} {h : List Nat} (m : List R) (ok : HabOk n s h) (hn : n ≤ 1000) : F_is_habit [.int (n : Int), .int (s : Int), hD h] m = some (.ok (.bl true) m) := by
  obtain ⟨h1, h2, h3, h4⟩ := ok
  unfold hD
  simp! [eq_self, F_is_habit, b_is_habit, N_is_habit, runD_eq, runG_eq, runFor_eq, enuD_map]
  rw [compL_mapA (h := fun p => .bl true) h.zipIdx [] (fun p hp => ?_) (by rw [sizeLine_eq]; simp; omega)]
  · have e : h.zipIdx.map (fun p => D.bl true) = (h.zipIdx.map fun p => true).map .bl := by rw [List.map_map]; rfl
    have e2 : (h.zipIdx.map fun p => true).all id = true := by simp
    simp! [eq_self, e, e2]
    exact fin_self rfl
  · obtain ⟨d, i⟩ := p
    have hd := h4 i d (List.mk_mem_zipIdx_iff_getElem?.mp hp)
    simp! [eq_self]
/-- .. a kitchen's parts -/
structure KOk (ns : List Str) (s : Nat) (hs : List (List Nat)) : Prop where
  n2 : 2 ≤ ns.length
  n12 : ns.length ≤ 12
  nd : ns.Nodup
  st : ∀ x ∈ ns, PyData.strOk x = true
  h1 : 1 ≤ hs.length
  h6 : hs.length ≤ 6
  hab : ∀ h ∈ hs, HabOk ns.length s h
theorem kitchen {ns : List Str} {s : Nat} {hs : List (List Nat)} (m : List R) (ok : KOk ns s hs) (nm : ∀ x ∈ ns, ∀ m, F_is_name [.str x] m = some (.ok (.bl true) m)) :
    F_Kitchen___init__ [.res m.length, .tup (ns.map .str), .tup (hs.map hD)] (m ++ [.obj 0 []]) = some (.ok .non (m ++ [.obj 0 [("shelf", .tup (ns.map .str)), ("customs", .tup (hs.map hD))]])) := by
  obtain ⟨n2, n12, nd, st, h1, h6, hab⟩ := ok
  simp! [eq_self, F_Kitchen___init__, b_Kitchen___init__, N_Kitchen___init__, runD_eq, runG_eq, runFor_eq]
  generalize hX : forF _ _ _ _ = X
  have hF := forF_gen hX
  obtain ⟨ρ', m', rfl, a, b, rfl, rfl⟩ := hF (fun i ρ m' => ∃ a b, ρ = [some (.res m.length), some (.tup (ns.map .str)), some (.tup (hs.map hD)), a, b, none] ∧ m' = m ++ [.obj 0 []]) ⟨none, none, rfl, rfl⟩ (by
    rintro i x ρ m' hx ⟨a, b, rfl, rfl⟩
    obtain ⟨y, hy, rfl⟩ := enuD_get hx
    rw [List.getElem?_map] at hy
    cases hz : ns[i]? with
    | none => rw [hz] at hy; cases hy
    | some z =>
      rw [hz] at hy
      cases hy
      have hm := List.mem_of_getElem? hz
      have e1 : inD (m ++ [R.obj 0 []]) (.str z) (.tup ((ns.map .str).take i)) = some false := by
        refine in_f (pl_str (st z hm)) (by rw [← List.map_take]; exact plL_strs fun x hx => st x (List.mem_of_mem_take hx)) ?_
        rw [← List.map_take]
        intro h
        obtain ⟨w, hw, e⟩ := List.mem_map.mp h
        cases e
        obtain ⟨j, hj⟩ := List.getElem?_of_mem hw
        rw [List.getElem?_take] at hj
        split at hj
        · have := nodup_ij nd hz hj
          omega
        · cases hj
      refine ⟨_, _, .inl ?_, some (.int i), some (.str z), rfl, rfl⟩
      simp! [eq_self, b_Kitchen___init___1, nm z hm, e1])
  simp! [eq_self]
  generalize hY : forF _ _ _ _ = Y
  have hG := forF_gen hY
  obtain ⟨ρ2, m2, rfl, a2, b2, rfl, rfl⟩ := hG (fun i ρ m' => ∃ a2 b2, ρ = [some (.res m.length), some (.tup (ns.map .str)), some (.tup (hs.map hD)), a2, b, b2] ∧ m' = m ++ [.obj 0 []]) ⟨a, none, rfl, rfl⟩ (by
    rintro i x ρ m' hx ⟨a2, b2, rfl, rfl⟩
    obtain ⟨y, hy, rfl⟩ := enuD_get hx
    rw [List.getElem?_map] at hy
    cases hz : hs[i]? with
    | none => rw [hz] at hy; cases hy
    | some z =>
      rw [hz] at hy
      cases hy
      have hm := List.mem_of_getElem? hz
      have ok := hab z hm
      have e1 := is_habit (m ++ [R.obj 0 []]) ok (by omega)
      cases hs with
      | nil => cases hz
      | cons h hs =>
        have e2 : L2.atI (hD h :: hs.map hD) 0 = some (.tup (h.map iN)) := atI_at (i := 0) rfl
        have e3 := (hab h List.mem_cons_self).1
        refine ⟨_, _, .inl ?_, some (.int i), some (hD z), rfl, rfl⟩
        simp! [eq_self, b_Kitchen___init___2, e1, e2, e3])
  have c1 : (g_Kitchen___init__.nm 0).contains "shelf" = true := show (nmT 0).contains "shelf" = true by decide +kernel
  have c2 : (g_Kitchen___init__.nm 0).contains "customs" = true := show (nmT 0).contains "customs" = true by decide +kernel
  have c3 : (("shelf" : Str) = "customs") = False := by simp; decide +kernel
  have c4 : g_Kitchen___init__.prop 0 "shelf" = none := prop_shelf 0
  have c5 : g_Kitchen___init__.prop 0 "customs" = none := prop_customs 0
  simp! [eq_self, c3, putD]
theorem mk_kitchen {ns : List Str} {s : Nat} {hs : List (List Nat)} (m : List R) (ok : KOk ns s hs) (nm : ∀ x ∈ ns, ∀ m, F_is_name [.str x] m = some (.ok (.bl true) m)) :
    mkD nmT true F_Kitchen___init__ 0 [.tup (ns.map .str), .tup (hs.map hD)] m = some (.ok (kD ns hs) m) := by
  unfold mkD
  rw [kitchen m ok nm]
  show fin nmT m _ (.res m.length) = _
  unfold fin
  have e : (m ++ [R.obj 0 [("shelf", .tup (ns.map .str)), ("customs", .tup (hs.map hD))]]).take m.length = m := List.take_left
  rw [if_pos (.inl e), e]
  have e2 : conv nmT m.length (m ++ [R.obj 0 [("shelf", .tup (ns.map .str)), ("customs", .tup (hs.map hD))]]) 6 (.res m.length) = some (kD ns hs) := by
    unfold conv
    rw [if_neg (by simp)]
    simp only [get_app0]
    refine (if_pos ?_).trans ?_
    · rfl
    show (allO _ [_, _]).map _ = _
    simp only [allO, conv_ok (show okD m.length (.tup (ns.map .str)) = true by simp), conv_ok (okD_hDs m.length hs), Option.map_some]
    rfl
  rw [e2]
  rfl
end K07


namespace K07
open PySem Dv Mt
local macro_rules
  | `(tactic| simp! [$xs:simpLemma,*] $[$l:location]?) => `(tactic| simp -implicitDefEqProofs (disch := first | omega | assumption | (simp only [List.length_map, List.length_range, List.length_range', List.length_append, List.length_cons, List.length_nil, List.length_replicate, List.length_take, List.length_drop, List.length_set, List.length_reverse, List.length_zip, List.length_eraseIdx]; omega)) only [$xs,*, gm__law_start, gp__law_start, gt__law_start, gm__law_drawn, gp__law_drawn, gt__law_drawn, gx__law_random_names__15, gm__law_random_names, gp__law_random_names, gt__law_random_names, gx__law_random_habit__15, gm__law_random_habit, gp__law_random_habit, gt__law_random_habit, gx__law_random_habits__15, gx__law_random_habits__18, gm__law_random_habits, gp__law_random_habits, gt__law_random_habits, gm__law_washed, gp__law_washed, gt__law_washed, gx__law_played__20, gm__law_played, gp__law_played, gt__law_played, gm_is_name, gp_is_name, gt_is_name, gm_is_habit, gp_is_habit, gt_is_habit, gx_Kitchen___init____0, gx_Kitchen___init____1, gm_Kitchen___init__, gp_Kitchen___init__, gt_Kitchen___init__, gm_Kitchen_sink_size, gp_Kitchen_sink_size, gt_Kitchen_sink_size, gm_Kitchen_habits, gp_Kitchen_habits, gt_Kitchen_habits, gx_round_cups__5, gx_round_cups__4, gm_round_cups, gp_round_cups, gt_round_cups, gm_greatest_common_divisor, gp_greatest_common_divisor, gt_greatest_common_divisor, gm_Kitchen_mugs, gp_Kitchen_mugs, gt_Kitchen_mugs, gm_put_back, gp_put_back, gt_put_back, gm_inverse_of, gp_inverse_of, gt_inverse_of, gx_map_of__6, gx_map_of__7, gm_map_of, gp_map_of, gt_map_of, gm_cycles_of, gp_cycles_of, gt_cycles_of, gx_names_by_offset__3, gx_names_by_offset__5, gx_names_by_offset__10, gx_names_by_offset__4, gx_names_by_offset__8, gx_names_by_offset__9, gm_names_by_offset, gp_names_by_offset, gt_names_by_offset, gx_first_difference__10, gx_first_difference__11, gx_first_difference__12, gm_first_difference, gp_first_difference, gt_first_difference, gx_law__14, gx_law__15, gx_law__17, gx_law__19, gx_law__18, gx_law__21, gx_law__2, gx_law__13, gn_law__0, gm_law, gp_law, gt_law, ↓y_nil, ↓y_cons, ↓y_pass, ↓y_brk, ↓y_cnt, ↓y_never, ↓y_expr, ↓y_ret, ↓y_retN, ↓y_asg, ↓y_aug, ↓y_ifs, ↓y_whl, ↓y_forr, ↓y_sti, ↓y_stf, ↓x_var, ↓x_cst, ↓x_bop, ↓x_neg, ↓x_cmp, ↓x_chn, ↓x_and, ↓x_or, ↓x_not, ↓x_ite, ↓x_tup, ↓x_lst, ↓x_ix, ↓x_sl, ↓x_rsl, ↓x_cal, ↓x_mk, ↓x_bi, ↓x_rgl, ↓x_isi, ↓x_mth, ↓x_omt, ↓x_att, ↓x_cpr, ↓x_nilL, ↓x_consL, ↓x_non, ↓x_some, ↓x_seq, ↓x_rg1, ↓x_rg2, ↓x_enu, ↓x_zip, ↓x_ezp, ↓y_body, ↓x_turn, ↓x_lgn, ↓x_sst, ↓v_nil, ↓v_plain, ↓v_yld, ↓v_forr, ↓v_whl, ↓v_body, ↓y_forg, ↓c_nil, ↓c_plain, ↓c_yld, ↓c_forr, ↓c_whl, ↓c_body, endF_nx, endF_rt, endF_st, plnC_nx, plnC_rt, thnC_nx, thnC_st, itC_fix, outC_nx, outC_ct, outC_bk, outC_rt, yldC_ok, envC2_ok, bndLS_ok, endG_nx, endG_rt, plnG_nx, plnG_rt, thnG_nx, itG_fix, yldG_ok, envG_ok, lgnK_ok, varK_ok, negK_ok, chnK_t, chnK_f, andK_t, andK_f, orK_t, orK_f, notK_ok, iteK_t, iteK_f, rglK_t, rglK_f, mthK_t, omtK_ok, smK_ok, fldK_ok, attK_ok, att2_p, att2_f, cprK_ok, ioK_ok, liveK_ok, seqK_t, seqK_l, seqK_e, seqK_s, seqK_r, rg1K_ok, rg2K_ok, enuK_ok, zipK_ok, ezpK_ok, sqK_nx, sqK_rt, sqK_bk, sqK_ct, sqK_ex, sqK_none, ifK_t, ifK_f, augK_ok, forD_fix, forD_live, compD_fix, compD_live, envK_ok, eltK_ok, cndK_t, cndK_f, envC_ok, w_nm, w_tp, w_tpL, w_nil, setK_ok, w_cons, w_wipe0, w_wipe, w_len0, w_len, gtK_ok, atR_g, atX_g, atSt_g, isK_ok, isR_g, popK_ok, stiK_ok, cls_obj, cls_res, clK_ok, fld_obj, fld_res, flK_ok, ins_obj, ins_res, inK_ok, sfK_ok, stf_res, if_pos, if_neg, List.flatten_cons, List.flatten_nil, Int.reduceToNat, Int.reduceAdd, Int.reduceSub, Int.reduceMul, Int.reduceNeg, Int.reduceLT, Int.reduceLE, Int.reduceEq, Int.toNat_zero, Int.toNat_one, List.length_range', end_rtT, end_rtF, end_nxT, end_nxF, end_ex, bnd_ok, bndL_ok, bndS_ok, bndI_ok, toI_ok, bndSI_ok, q_okP, q_okB, q_consL, q_consK, q_newT, q_newF, Option.map_some, Option.map_none, Option.bind_some, ite_true, ite_false, if_true, if_false, eq_self, Bool.not_true, Bool.not_false, Bool.true_eq_false, Bool.false_eq_true, Nat.reduceLT, Nat.reduceEqDiff, Nat.reduceSub, Nat.reduceAdd, Int.toNat_natCast, List.map_cons, List.map_nil, List.length_cons, List.length_nil, List.replicate_zero, List.replicate_succ, List.cons_append, List.nil_append, List.append_nil, List.append_assoc, List.length_append, List.length_map, List.length_range, List.length_replicate, List.getElem?_cons_zero, List.getElem?_cons_succ, List.set_cons_zero, List.set_cons_succ, Nat.add_zero, Nat.zero_add, q_get0, q_getk, q_set0, q_setk, iN_eq, List.getElem?_map, q_le, q_lt, q_add, q_sub, q_mulr, q_mull, q_mulT, q_fdiv, q_mod, q_pow18, q_pow9, q_pow15, z_addRL, z_addLR, z_addRR, z_addLL, z_addTT, z_addSS, q_rep1, q_cmpLt, q_cmpLe, q_cmpGt, q_cmpGe, q_isN, q_notN, q_nonN, q_nonI, q_nonS, q_nonT, q_nonL, q_nonR, q_nonB, q_nonO, q_eq, q_ne, q_inn, q_nin, q_eqI, q_eqB, cut_lo, cut_hi, cut_lohi, cut_all, cut_him1, q_slT, q_rslT, q_slL, z_slR, z_ixR, ixD_tup, ixD_lst, ixD_ext, q_lenT, q_lenL, q_lenE, z_lenR, q_listT, q_listL, q_listE, z_listR, q_tupT, q_tupL, z_tupR, q_intI, q_intB, q_absI, q_maxII, q_minII, q_allL, z_append, z_extR, z_extL, z_insert, z_pop, z_pop0, z_mtR, q_mtL, q_mtT, z_sti, q_augA, q_augS, q_rngN, fsq_tup, fsq_lst, fsq_ext, atI_natN, atI_nn, ixN_nn, Bool.and_true, Bool.true_and, Bool.and_self, q_dT, q_dF, not_true_eq_false, not_false_eq_true, decide_true, decide_false, isi_non, isi_bl, isi_int, isi_str, isi_tup, isi_lst, isi_ext, List.any_cons, List.any_nil, Bool.or_false, Bool.false_or, Bool.or_true, Bool.true_or, ty_int_int, ty_int_bool, ty_int_str, ty_int_tuple, ty_int_list, ty_int_dict, ty_int_none, ty_bool_int, ty_bool_bool, ty_bool_str, ty_bool_tuple, ty_bool_list, ty_bool_dict, ty_bool_none, ty_str_int, ty_str_bool, ty_str_str, ty_str_tuple, ty_str_list, ty_str_dict, ty_str_none, ty_tuple_int, ty_tuple_bool, ty_tuple_str, ty_tuple_tuple, ty_tuple_list, ty_tuple_dict, ty_tuple_none, ty_list_int, ty_list_bool, ty_list_str, ty_list_tuple, ty_list_list, ty_list_dict, ty_list_none, ty_dict_int, ty_dict_bool, ty_dict_str, ty_dict_tuple, ty_dict_list, ty_dict_dict, ty_dict_none, ty_none_int, ty_none_bool, ty_none_str, ty_none_tuple, ty_none_list, ty_none_dict, ty_none_none] $[$l:location]?)
theorem HabOk.d {n s : Nat} {h : List Nat} (ok : HabOk n s h) {d : Nat} (hd : d ∈ h) : d ≤ n := by
  obtain ⟨h1, h2, h3, h4⟩ := ok
  obtain ⟨i, hi⟩ := List.getElem?_of_mem hd
  have := h4 i d hi
  have := (List.getElem?_eq_some_iff.mp hi).1
  omega
theorem round_cups {ns : List Str} {s : Nat} {hs : List (List Nat)} (m : List R) (ok : KOk ns s hs) : F_round_cups [kD ns hs] m = some (.ok (.int ((s * hs.length : Nat) : Int)) m) := by
  have e := k_sink ns s hs m ok.h1 (fun h hh => (ok.hab h hh).1)
  have h6 := ok.h6
  simp! [eq_self, F_round_cups, b_round_cups, N_round_cups, runD_eq, runG_eq, runFor_eq, cls_kD, prop_sink_size, prop_habits, e, k_habits, noX_okk]
  rw [fin_self rfl]
  simp
end K07


namespace K07
open PySem Dv Mt
local macro_rules
  | `(tactic| simp! [$xs:simpLemma,*] $[$l:location]?) => `(tactic| simp -implicitDefEqProofs (disch := first | omega | assumption | (simp only [List.length_map, List.length_range, List.length_range', List.length_append, List.length_cons, List.length_nil, List.length_replicate, List.length_take, List.length_drop, List.length_set, List.length_reverse, List.length_zip, List.length_eraseIdx]; omega)) only [$xs,*, gm__law_start, gp__law_start, gt__law_start, gm__law_drawn, gp__law_drawn, gt__law_drawn, gx__law_random_names__15, gm__law_random_names, gp__law_random_names, gt__law_random_names, gx__law_random_habit__15, gm__law_random_habit, gp__law_random_habit, gt__law_random_habit, gx__law_random_habits__15, gx__law_random_habits__18, gm__law_random_habits, gp__law_random_habits, gt__law_random_habits, gm__law_washed, gp__law_washed, gt__law_washed, gx__law_played__20, gm__law_played, gp__law_played, gt__law_played, gm_is_name, gp_is_name, gt_is_name, gm_is_habit, gp_is_habit, gt_is_habit, gx_Kitchen___init____0, gx_Kitchen___init____1, gm_Kitchen___init__, gp_Kitchen___init__, gt_Kitchen___init__, gm_Kitchen_sink_size, gp_Kitchen_sink_size, gt_Kitchen_sink_size, gm_Kitchen_habits, gp_Kitchen_habits, gt_Kitchen_habits, gx_round_cups__5, gx_round_cups__4, gm_round_cups, gp_round_cups, gt_round_cups, gm_greatest_common_divisor, gp_greatest_common_divisor, gt_greatest_common_divisor, gm_Kitchen_mugs, gp_Kitchen_mugs, gt_Kitchen_mugs, gm_put_back, gp_put_back, gt_put_back, gm_inverse_of, gp_inverse_of, gt_inverse_of, gx_map_of__6, gx_map_of__7, gm_map_of, gp_map_of, gt_map_of, gm_cycles_of, gp_cycles_of, gt_cycles_of, gx_names_by_offset__3, gx_names_by_offset__5, gx_names_by_offset__10, gx_names_by_offset__4, gx_names_by_offset__8, gx_names_by_offset__9, gm_names_by_offset, gp_names_by_offset, gt_names_by_offset, gx_first_difference__10, gx_first_difference__11, gx_first_difference__12, gm_first_difference, gp_first_difference, gt_first_difference, gx_law__14, gx_law__15, gx_law__17, gx_law__19, gx_law__18, gx_law__21, gx_law__2, gx_law__13, gn_law__0, gm_law, gp_law, gt_law, ↓y_nil, ↓y_cons, ↓y_pass, ↓y_brk, ↓y_cnt, ↓y_never, ↓y_expr, ↓y_ret, ↓y_retN, ↓y_asg, ↓y_aug, ↓y_ifs, ↓y_whl, ↓y_forr, ↓y_sti, ↓y_stf, ↓x_var, ↓x_cst, ↓x_bop, ↓x_neg, ↓x_cmp, ↓x_chn, ↓x_and, ↓x_or, ↓x_not, ↓x_ite, ↓x_tup, ↓x_lst, ↓x_ix, ↓x_sl, ↓x_rsl, ↓x_cal, ↓x_mk, ↓x_bi, ↓x_rgl, ↓x_isi, ↓x_mth, ↓x_omt, ↓x_att, ↓x_cpr, ↓x_nilL, ↓x_consL, ↓x_non, ↓x_some, ↓x_seq, ↓x_rg1, ↓x_rg2, ↓x_enu, ↓x_zip, ↓x_ezp, ↓y_body, ↓x_turn, ↓x_lgn, ↓x_sst, ↓v_nil, ↓v_plain, ↓v_yld, ↓v_forr, ↓v_whl, ↓v_body, ↓y_forg, ↓c_nil, ↓c_plain, ↓c_yld, ↓c_forr, ↓c_whl, ↓c_body, endF_nx, endF_rt, endF_st, plnC_nx, plnC_rt, thnC_nx, thnC_st, itC_fix, outC_nx, outC_ct, outC_bk, outC_rt, yldC_ok, envC2_ok, bndLS_ok, endG_nx, endG_rt, plnG_nx, plnG_rt, thnG_nx, itG_fix, yldG_ok, envG_ok, lgnK_ok, varK_ok, negK_ok, chnK_t, chnK_f, andK_t, andK_f, orK_t, orK_f, notK_ok, iteK_t, iteK_f, rglK_t, rglK_f, mthK_t, omtK_ok, smK_ok, fldK_ok, attK_ok, att2_p, att2_f, cprK_ok, ioK_ok, liveK_ok, seqK_t, seqK_l, seqK_e, seqK_s, seqK_r, rg1K_ok, rg2K_ok, enuK_ok, zipK_ok, ezpK_ok, sqK_nx, sqK_rt, sqK_bk, sqK_ct, sqK_ex, sqK_none, ifK_t, ifK_f, augK_ok, forD_fix, forD_live, compD_fix, compD_live, envK_ok, eltK_ok, cndK_t, cndK_f, envC_ok, w_nm, w_tp, w_tpL, w_nil, setK_ok, w_cons, w_wipe0, w_wipe, w_len0, w_len, gtK_ok, atR_g, atX_g, atSt_g, isK_ok, isR_g, popK_ok, stiK_ok, cls_obj, cls_res, clK_ok, fld_obj, fld_res, flK_ok, ins_obj, ins_res, inK_ok, sfK_ok, stf_res, if_pos, if_neg, List.flatten_cons, List.flatten_nil, Int.reduceToNat, Int.reduceAdd, Int.reduceSub, Int.reduceMul, Int.reduceNeg, Int.reduceLT, Int.reduceLE, Int.reduceEq, Int.toNat_zero, Int.toNat_one, List.length_range', end_rtT, end_rtF, end_nxT, end_nxF, end_ex, bnd_ok, bndL_ok, bndS_ok, bndI_ok, toI_ok, bndSI_ok, q_okP, q_okB, q_consL, q_consK, q_newT, q_newF, Option.map_some, Option.map_none, Option.bind_some, ite_true, ite_false, if_true, if_false, eq_self, Bool.not_true, Bool.not_false, Bool.true_eq_false, Bool.false_eq_true, Nat.reduceLT, Nat.reduceEqDiff, Nat.reduceSub, Nat.reduceAdd, Int.toNat_natCast, List.map_cons, List.map_nil, List.length_cons, List.length_nil, List.replicate_zero, List.replicate_succ, List.cons_append, List.nil_append, List.append_nil, List.append_assoc, List.length_append, List.length_map, List.length_range, List.length_replicate, List.getElem?_cons_zero, List.getElem?_cons_succ, List.set_cons_zero, List.set_cons_succ, Nat.add_zero, Nat.zero_add, q_get0, q_getk, q_set0, q_setk, iN_eq, List.getElem?_map, q_le, q_lt, q_add, q_sub, q_mulr, q_mull, q_mulT, q_fdiv, q_mod, q_pow18, q_pow9, q_pow15, z_addRL, z_addLR, z_addRR, z_addLL, z_addTT, z_addSS, q_rep1, q_cmpLt, q_cmpLe, q_cmpGt, q_cmpGe, q_isN, q_notN, q_nonN, q_nonI, q_nonS, q_nonT, q_nonL, q_nonR, q_nonB, q_nonO, q_eq, q_ne, q_inn, q_nin, q_eqI, q_eqB, cut_lo, cut_hi, cut_lohi, cut_all, cut_him1, q_slT, q_rslT, q_slL, z_slR, z_ixR, ixD_tup, ixD_lst, ixD_ext, q_lenT, q_lenL, q_lenE, z_lenR, q_listT, q_listL, q_listE, z_listR, q_tupT, q_tupL, z_tupR, q_intI, q_intB, q_absI, q_maxII, q_minII, q_allL, z_append, z_extR, z_extL, z_insert, z_pop, z_pop0, z_mtR, q_mtL, q_mtT, z_sti, q_augA, q_augS, q_rngN, fsq_tup, fsq_lst, fsq_ext, atI_natN, atI_nn, ixN_nn, Bool.and_true, Bool.true_and, Bool.and_self, q_dT, q_dF, not_true_eq_false, not_false_eq_true, decide_true, decide_false, isi_non, isi_bl, isi_int, isi_str, isi_tup, isi_lst, isi_ext, List.any_cons, List.any_nil, Bool.or_false, Bool.false_or, Bool.or_true, Bool.true_or, ty_int_int, ty_int_bool, ty_int_str, ty_int_tuple, ty_int_list, ty_int_dict, ty_int_none, ty_bool_int, ty_bool_bool, ty_bool_str, ty_bool_tuple, ty_bool_list, ty_bool_dict, ty_bool_none, ty_str_int, ty_str_bool, ty_str_str, ty_str_tuple, ty_str_list, ty_str_dict, ty_str_none, ty_tuple_int, ty_tuple_bool, ty_tuple_str, ty_tuple_tuple, ty_tuple_list, ty_tuple_dict, ty_tuple_none, ty_list_int, ty_list_bool, ty_list_str, ty_list_tuple, ty_list_list, ty_list_dict, ty_list_none, ty_dict_int, ty_dict_bool, ty_dict_str, ty_dict_tuple, ty_dict_list, ty_dict_dict, ty_dict_none, ty_none_int, ty_none_bool, ty_none_str, ty_none_tuple, ty_none_list, ty_none_dict, ty_none_none] $[$l:location]?)
theorem cycles_of {n : Nat} {ps : List Nat} (m : List R) (h : IsP n ps) (hn : n ≤ 1000) : F_cycles_of [.tup (ps.map iN)] m = some (.ok (.lst ((List.range n).map fun p => .lst ((cyc ps p).map iN))) m) := by
  have hl := h.len
  simp! [eq_self, F_cycles_of, b_cycles_of, N_cycles_of, runD_eq, runG_eq, runFor_eq]
  generalize hX : forF _ _ _ _ = X
  have hF := forF_gen hX
  clear hX
  obtain ⟨ρ', m', rfl, ⟨a, b, c, rfl⟩, rfl⟩ := hF (fun i ρ m' => (∃ a b c, ρ = [some (.tup (ps.map iN)), some (.res m.length), a, b, c]) ∧ m' = m ++ R.lst ((List.range i).map fun p => .res (m.length + (p + 1))) :: (List.range i).map fun p => R.lst ((cyc ps p).map iN)) ⟨⟨none, none, none, rfl⟩, rfl⟩ (by
    rintro i x ρ m' hx ⟨⟨a, b, c, rfl⟩, rfl⟩
    have hi : i < n := by
      have := (List.getElem?_eq_some_iff.mp hx).1
      simp at this
      omega
    rw [List.getElem?_map, List.getElem?_range (by omega)] at hx
    cases hx
    obtain ⟨x, hx⟩ := get_ex hl hi
    have hCl : ((List.range i).map fun p => R.lst ((cyc ps p).map iN)).length = i := by simp
    generalize hCe : ((List.range i).map fun p => R.lst ((cyc ps p).map iN)) = C at hCl ⊢
    have hC1 : ∀ c, (C ++ [c])[i]? = some c := fun c => get_last hCl
    have hC2 : ∀ c d, (C ++ [c]).set i d = C ++ [d] := fun c d => set_last hCl
    obtain ⟨o1, o2, o3, o4⟩ := ord_spec h hi
    have hK : ord ps i - 1 < 100000 := by omega
    refine ⟨[some (.tup (ps.map iN)), some (.res m.length), some (.int i), some (.res (m.length + (i + 1))), some (.int i)], m ++ R.lst ((List.range (i + 1)).map fun p => .res (m.length + (p + 1))) :: (C ++ [R.lst ((cyc ps i).map iN)]), .inl ?_, ⟨_, _, _, rfl⟩, ?_⟩
    · simp! [eq_self, b_cycles_of_1, hx, hCl, hC1, hC2]
      generalize hY : whlD _ _ _ _ _ = Y
      have hW := whlD_gen hY
      clear hY
      obtain ⟨ρ2, m2, rfl, rfl, rfl⟩ := hW (fun k ρ m' => ρ = [some (.tup (ps.map iN)), some (.res m.length), some (.int i), some (.res (m.length + (i + 1))), some (.int (itr ps (k + 1) i))] ∧ m' = m ++ R.lst ((List.range i).map fun p => .res (m.length + (p + 1))) :: (C ++ [R.lst ((List.range (k + 1)).map fun j => iN (itr ps j i))])) (ord ps i - 1) hK ⟨by simp [itr, hx], by simp [itr, iN_eq]⟩ (by
        rintro k ρ m' hk ⟨rfl, rfl⟩
        have ne := o4 (k + 1) (by omega) (by omega)
        have lt := itr_lt h hi (k + 1)
        obtain ⟨y, hy⟩ := get_ex hl lt
        have ey : itr ps (k + 1 + 1) i = y := by
          show ps[itr ps (k + 1) i]?.getD 0 = y
          rw [hy]; rfl
        refine ⟨?_, ?_⟩
        · simp! [eq_self]
        · refine ⟨[some (.tup (ps.map iN)), some (.res m.length), some (.int i), some (.res (m.length + (i + 1))), some (.int (itr ps (k + 1 + 1) i))], m ++ R.lst ((List.range i).map fun p => .res (m.length + (p + 1))) :: (C ++ [R.lst ((List.range (k + 1 + 1)).map fun j => iN (itr ps j i))]), .inl ?_, rfl, rfl⟩
          simp! [eq_self, b_cycles_of_2, hC1, hC2, hy, ey, List.range_succ, List.map_append]) (by
        rintro ρ m' ⟨rfl, rfl⟩
        rw [show ord ps i - 1 + 1 = ord ps i by omega, o3]
        simp! [eq_self])
      rw [show ord ps i - 1 + 1 = ord ps i by omega, o3]
      simp! [eq_self, hC1, hC2, cyc, List.map_map, List.range_succ, List.map_append, Function.comp_def]
    · rw [← hCe, List.range_succ]
      simp)
  simp! [eq_self, List.length_range]
  rw [show ps.length = n from hl]
  exact fin_lst2 (f := fun p => m.length + (p + 1)) (g := fun p => (cyc ps p).map iN) (Nat.le_refl _) q_get0 (fun a _ => by omega) (fun p hp => by
    have hp' := List.mem_range.mp hp
    rw [q_getk, List.getElem?_cons_succ, List.getElem?_map, List.getElem?_range hp']
    rfl) (fun p _ => okDL_map (fun x => okD_int _ _) _)
end K07


namespace K07
open PySem Dv Mt
local macro_rules
  | `(tactic| simp! [$xs:simpLemma,*] $[$l:location]?) => `(tactic| simp -implicitDefEqProofs (disch := first | omega | assumption | (simp only [List.length_map, List.length_range, List.length_range', List.length_append, List.length_cons, List.length_nil, List.length_replicate, List.length_take, List.length_drop, List.length_set, List.length_reverse, List.length_zip, List.length_eraseIdx]; omega)) only [$xs,*, gm__law_start, gp__law_start, gt__law_start, gm__law_drawn, gp__law_drawn, gt__law_drawn, gx__law_random_names__15, gm__law_random_names, gp__law_random_names, gt__law_random_names, gx__law_random_habit__15, gm__law_random_habit, gp__law_random_habit, gt__law_random_habit, gx__law_random_habits__15, gx__law_random_habits__18, gm__law_random_habits, gp__law_random_habits, gt__law_random_habits, gm__law_washed, gp__law_washed, gt__law_washed, gx__law_played__20, gm__law_played, gp__law_played, gt__law_played, gm_is_name, gp_is_name, gt_is_name, gm_is_habit, gp_is_habit, gt_is_habit, gx_Kitchen___init____0, gx_Kitchen___init____1, gm_Kitchen___init__, gp_Kitchen___init__, gt_Kitchen___init__, gm_Kitchen_sink_size, gp_Kitchen_sink_size, gt_Kitchen_sink_size, gm_Kitchen_habits, gp_Kitchen_habits, gt_Kitchen_habits, gx_round_cups__5, gx_round_cups__4, gm_round_cups, gp_round_cups, gt_round_cups, gm_greatest_common_divisor, gp_greatest_common_divisor, gt_greatest_common_divisor, gm_Kitchen_mugs, gp_Kitchen_mugs, gt_Kitchen_mugs, gm_put_back, gp_put_back, gt_put_back, gm_inverse_of, gp_inverse_of, gt_inverse_of, gx_map_of__6, gx_map_of__7, gm_map_of, gp_map_of, gt_map_of, gm_cycles_of, gp_cycles_of, gt_cycles_of, gx_names_by_offset__3, gx_names_by_offset__5, gx_names_by_offset__10, gx_names_by_offset__4, gx_names_by_offset__8, gx_names_by_offset__9, gm_names_by_offset, gp_names_by_offset, gt_names_by_offset, gx_first_difference__10, gx_first_difference__11, gx_first_difference__12, gm_first_difference, gp_first_difference, gt_first_difference, gx_law__14, gx_law__15, gx_law__17, gx_law__19, gx_law__18, gx_law__21, gx_law__2, gx_law__13, gn_law__0, gm_law, gp_law, gt_law, ↓y_nil, ↓y_cons, ↓y_pass, ↓y_brk, ↓y_cnt, ↓y_never, ↓y_expr, ↓y_ret, ↓y_retN, ↓y_asg, ↓y_aug, ↓y_ifs, ↓y_whl, ↓y_forr, ↓y_sti, ↓y_stf, ↓x_var, ↓x_cst, ↓x_bop, ↓x_neg, ↓x_cmp, ↓x_chn, ↓x_and, ↓x_or, ↓x_not, ↓x_ite, ↓x_tup, ↓x_lst, ↓x_ix, ↓x_sl, ↓x_rsl, ↓x_cal, ↓x_mk, ↓x_bi, ↓x_rgl, ↓x_isi, ↓x_mth, ↓x_omt, ↓x_att, ↓x_cpr, ↓x_nilL, ↓x_consL, ↓x_non, ↓x_some, ↓x_seq, ↓x_rg1, ↓x_rg2, ↓x_enu, ↓x_zip, ↓x_ezp, ↓y_body, ↓x_turn, ↓x_lgn, ↓x_sst, ↓v_nil, ↓v_plain, ↓v_yld, ↓v_forr, ↓v_whl, ↓v_body, ↓y_forg, ↓c_nil, ↓c_plain, ↓c_yld, ↓c_forr, ↓c_whl, ↓c_body, endF_nx, endF_rt, endF_st, plnC_nx, plnC_rt, thnC_nx, thnC_st, itC_fix, outC_nx, outC_ct, outC_bk, outC_rt, yldC_ok, envC2_ok, bndLS_ok, endG_nx, endG_rt, plnG_nx, plnG_rt, thnG_nx, itG_fix, yldG_ok, envG_ok, lgnK_ok, varK_ok, negK_ok, chnK_t, chnK_f, andK_t, andK_f, orK_t, orK_f, notK_ok, iteK_t, iteK_f, rglK_t, rglK_f, mthK_t, omtK_ok, smK_ok, fldK_ok, attK_ok, att2_p, att2_f, cprK_ok, ioK_ok, liveK_ok, seqK_t, seqK_l, seqK_e, seqK_s, seqK_r, rg1K_ok, rg2K_ok, enuK_ok, zipK_ok, ezpK_ok, sqK_nx, sqK_rt, sqK_bk, sqK_ct, sqK_ex, sqK_none, ifK_t, ifK_f, augK_ok, forD_fix, forD_live, compD_fix, compD_live, envK_ok, eltK_ok, cndK_t, cndK_f, envC_ok, w_nm, w_tp, w_tpL, w_nil, setK_ok, w_cons, w_wipe0, w_wipe, w_len0, w_len, gtK_ok, atR_g, atX_g, atSt_g, isK_ok, isR_g, popK_ok, stiK_ok, cls_obj, cls_res, clK_ok, fld_obj, fld_res, flK_ok, ins_obj, ins_res, inK_ok, sfK_ok, stf_res, if_pos, if_neg, List.flatten_cons, List.flatten_nil, Int.reduceToNat, Int.reduceAdd, Int.reduceSub, Int.reduceMul, Int.reduceNeg, Int.reduceLT, Int.reduceLE, Int.reduceEq, Int.toNat_zero, Int.toNat_one, List.length_range', end_rtT, end_rtF, end_nxT, end_nxF, end_ex, bnd_ok, bndL_ok, bndS_ok, bndI_ok, toI_ok, bndSI_ok, q_okP, q_okB, q_consL, q_consK, q_newT, q_newF, Option.map_some, Option.map_none, Option.bind_some, ite_true, ite_false, if_true, if_false, eq_self, Bool.not_true, Bool.not_false, Bool.true_eq_false, Bool.false_eq_true, Nat.reduceLT, Nat.reduceEqDiff, Nat.reduceSub, Nat.reduceAdd, Int.toNat_natCast, List.map_cons, List.map_nil, List.length_cons, List.length_nil, List.replicate_zero, List.replicate_succ, List.cons_append, List.nil_append, List.append_nil, List.append_assoc, List.length_append, List.length_map, List.length_range, List.length_replicate, List.getElem?_cons_zero, List.getElem?_cons_succ, List.set_cons_zero, List.set_cons_succ, Nat.add_zero, Nat.zero_add, q_get0, q_getk, q_set0, q_setk, iN_eq, List.getElem?_map, q_le, q_lt, q_add, q_sub, q_mulr, q_mull, q_mulT, q_fdiv, q_mod, q_pow18, q_pow9, q_pow15, z_addRL, z_addLR, z_addRR, z_addLL, z_addTT, z_addSS, q_rep1, q_cmpLt, q_cmpLe, q_cmpGt, q_cmpGe, q_isN, q_notN, q_nonN, q_nonI, q_nonS, q_nonT, q_nonL, q_nonR, q_nonB, q_nonO, q_eq, q_ne, q_inn, q_nin, q_eqI, q_eqB, cut_lo, cut_hi, cut_lohi, cut_all, cut_him1, q_slT, q_rslT, q_slL, z_slR, z_ixR, ixD_tup, ixD_lst, ixD_ext, q_lenT, q_lenL, q_lenE, z_lenR, q_listT, q_listL, q_listE, z_listR, q_tupT, q_tupL, z_tupR, q_intI, q_intB, q_absI, q_maxII, q_minII, q_allL, z_append, z_extR, z_extL, z_insert, z_pop, z_pop0, z_mtR, q_mtL, q_mtT, z_sti, q_augA, q_augS, q_rngN, fsq_tup, fsq_lst, fsq_ext, atI_natN, atI_nn, ixN_nn, Bool.and_true, Bool.true_and, Bool.and_self, q_dT, q_dF, not_true_eq_false, not_false_eq_true, decide_true, decide_false, isi_non, isi_bl, isi_int, isi_str, isi_tup, isi_lst, isi_ext, List.any_cons, List.any_nil, Bool.or_false, Bool.false_or, Bool.or_true, Bool.true_or, ty_int_int, ty_int_bool, ty_int_str, ty_int_tuple, ty_int_list, ty_int_dict, ty_int_none, ty_bool_int, ty_bool_bool, ty_bool_str, ty_bool_tuple, ty_bool_list, ty_bool_dict, ty_bool_none, ty_str_int, ty_str_bool, ty_str_str, ty_str_tuple, ty_str_list, ty_str_dict, ty_str_none, ty_tuple_int, ty_tuple_bool, ty_tuple_str, ty_tuple_tuple, ty_tuple_list, ty_tuple_dict, ty_tuple_none, ty_list_int, ty_list_bool, ty_list_str, ty_list_tuple, ty_list_list, ty_list_dict, ty_list_none, ty_dict_int, ty_dict_bool, ty_dict_str, ty_dict_tuple, ty_dict_list, ty_dict_dict, ty_dict_none, ty_none_int, ty_none_bool, ty_none_str, ty_none_tuple, ty_none_list, ty_none_dict, ty_none_none] $[$l:location]?)
theorem HabOk.len {n s : Nat} {h : List Nat} (ok : HabOk n s h) : h.length ≤ n := by
  have := ok.1
  have := ok.2.2.1
  omega
theorem KOk.hl {ns : List Str} {s : Nat} {hs : List (List Nat)} (ok : KOk ns s hs) : ∀ h ∈ hs, h.length ≤ ns.length := fun h hh => (ok.hab h hh).len
end K07


namespace K07
open PySem Dv Mt
local macro_rules
  | `(tactic| simp! [$xs:simpLemma,*] $[$l:location]?) => `(tactic| simp -implicitDefEqProofs (disch := first | omega | assumption | (simp only [List.length_map, List.length_range, List.length_range', List.length_append, List.length_cons, List.length_nil, List.length_replicate, List.length_take, List.length_drop, List.length_set, List.length_reverse, List.length_zip, List.length_eraseIdx]; omega)) only [$xs,*, gm__law_start, gp__law_start, gt__law_start, gm__law_drawn, gp__law_drawn, gt__law_drawn, gx__law_random_names__15, gm__law_random_names, gp__law_random_names, gt__law_random_names, gx__law_random_habit__15, gm__law_random_habit, gp__law_random_habit, gt__law_random_habit, gx__law_random_habits__15, gx__law_random_habits__18, gm__law_random_habits, gp__law_random_habits, gt__law_random_habits, gm__law_washed, gp__law_washed, gt__law_washed, gx__law_played__20, gm__law_played, gp__law_played, gt__law_played, gm_is_name, gp_is_name, gt_is_name, gm_is_habit, gp_is_habit, gt_is_habit, gx_Kitchen___init____0, gx_Kitchen___init____1, gm_Kitchen___init__, gp_Kitchen___init__, gt_Kitchen___init__, gm_Kitchen_sink_size, gp_Kitchen_sink_size, gt_Kitchen_sink_size, gm_Kitchen_habits, gp_Kitchen_habits, gt_Kitchen_habits, gx_round_cups__5, gx_round_cups__4, gm_round_cups, gp_round_cups, gt_round_cups, gm_greatest_common_divisor, gp_greatest_common_divisor, gt_greatest_common_divisor, gm_Kitchen_mugs, gp_Kitchen_mugs, gt_Kitchen_mugs, gm_put_back, gp_put_back, gt_put_back, gm_inverse_of, gp_inverse_of, gt_inverse_of, gx_map_of__6, gx_map_of__7, gm_map_of, gp_map_of, gt_map_of, gm_cycles_of, gp_cycles_of, gt_cycles_of, gx_names_by_offset__3, gx_names_by_offset__5, gx_names_by_offset__10, gx_names_by_offset__4, gx_names_by_offset__8, gx_names_by_offset__9, gm_names_by_offset, gp_names_by_offset, gt_names_by_offset, gx_first_difference__10, gx_first_difference__11, gx_first_difference__12, gm_first_difference, gp_first_difference, gt_first_difference, gx_law__14, gx_law__15, gx_law__17, gx_law__19, gx_law__18, gx_law__21, gx_law__2, gx_law__13, gn_law__0, gm_law, gp_law, gt_law, ↓y_nil, ↓y_cons, ↓y_pass, ↓y_brk, ↓y_cnt, ↓y_never, ↓y_expr, ↓y_ret, ↓y_retN, ↓y_asg, ↓y_aug, ↓y_ifs, ↓y_whl, ↓y_forr, ↓y_sti, ↓y_stf, ↓x_var, ↓x_cst, ↓x_bop, ↓x_neg, ↓x_cmp, ↓x_chn, ↓x_and, ↓x_or, ↓x_not, ↓x_ite, ↓x_tup, ↓x_lst, ↓x_ix, ↓x_sl, ↓x_rsl, ↓x_cal, ↓x_mk, ↓x_bi, ↓x_rgl, ↓x_isi, ↓x_mth, ↓x_omt, ↓x_att, ↓x_cpr, ↓x_nilL, ↓x_consL, ↓x_non, ↓x_some, ↓x_seq, ↓x_rg1, ↓x_rg2, ↓x_enu, ↓x_zip, ↓x_ezp, ↓y_body, ↓x_turn, ↓x_lgn, ↓x_sst, ↓v_nil, ↓v_plain, ↓v_yld, ↓v_forr, ↓v_whl, ↓v_body, ↓y_forg, ↓c_nil, ↓c_plain, ↓c_yld, ↓c_forr, ↓c_whl, ↓c_body, endF_nx, endF_rt, endF_st, plnC_nx, plnC_rt, thnC_nx, thnC_st, itC_fix, outC_nx, outC_ct, outC_bk, outC_rt, yldC_ok, envC2_ok, bndLS_ok, endG_nx, endG_rt, plnG_nx, plnG_rt, thnG_nx, itG_fix, yldG_ok, envG_ok, lgnK_ok, varK_ok, negK_ok, chnK_t, chnK_f, andK_t, andK_f, orK_t, orK_f, notK_ok, iteK_t, iteK_f, rglK_t, rglK_f, mthK_t, omtK_ok, smK_ok, fldK_ok, attK_ok, att2_p, att2_f, cprK_ok, ioK_ok, liveK_ok, seqK_t, seqK_l, seqK_e, seqK_s, seqK_r, rg1K_ok, rg2K_ok, enuK_ok, zipK_ok, ezpK_ok, sqK_nx, sqK_rt, sqK_bk, sqK_ct, sqK_ex, sqK_none, ifK_t, ifK_f, augK_ok, forD_fix, forD_live, compD_fix, compD_live, envK_ok, eltK_ok, cndK_t, cndK_f, envC_ok, w_nm, w_tp, w_tpL, w_nil, setK_ok, w_cons, w_wipe0, w_wipe, w_len0, w_len, gtK_ok, atR_g, atX_g, atSt_g, isK_ok, isR_g, popK_ok, stiK_ok, cls_obj, cls_res, clK_ok, fld_obj, fld_res, flK_ok, ins_obj, ins_res, inK_ok, sfK_ok, stf_res, if_pos, if_neg, List.flatten_cons, List.flatten_nil, Int.reduceToNat, Int.reduceAdd, Int.reduceSub, Int.reduceMul, Int.reduceNeg, Int.reduceLT, Int.reduceLE, Int.reduceEq, Int.toNat_zero, Int.toNat_one, List.length_range', end_rtT, end_rtF, end_nxT, end_nxF, end_ex, bnd_ok, bndL_ok, bndS_ok, bndI_ok, toI_ok, bndSI_ok, q_okP, q_okB, q_consL, q_consK, q_newT, q_newF, Option.map_some, Option.map_none, Option.bind_some, ite_true, ite_false, if_true, if_false, eq_self, Bool.not_true, Bool.not_false, Bool.true_eq_false, Bool.false_eq_true, Nat.reduceLT, Nat.reduceEqDiff, Nat.reduceSub, Nat.reduceAdd, Int.toNat_natCast, List.map_cons, List.map_nil, List.length_cons, List.length_nil, List.replicate_zero, List.replicate_succ, List.cons_append, List.nil_append, List.append_nil, List.append_assoc, List.length_append, List.length_map, List.length_range, List.length_replicate, List.getElem?_cons_zero, List.getElem?_cons_succ, List.set_cons_zero, List.set_cons_succ, Nat.add_zero, Nat.zero_add, q_get0, q_getk, q_set0, q_setk, iN_eq, List.getElem?_map, q_le, q_lt, q_add, q_sub, q_mulr, q_mull, q_mulT, q_fdiv, q_mod, q_pow18, q_pow9, q_pow15, z_addRL, z_addLR, z_addRR, z_addLL, z_addTT, z_addSS, q_rep1, q_cmpLt, q_cmpLe, q_cmpGt, q_cmpGe, q_isN, q_notN, q_nonN, q_nonI, q_nonS, q_nonT, q_nonL, q_nonR, q_nonB, q_nonO, q_eq, q_ne, q_inn, q_nin, q_eqI, q_eqB, cut_lo, cut_hi, cut_lohi, cut_all, cut_him1, q_slT, q_rslT, q_slL, z_slR, z_ixR, ixD_tup, ixD_lst, ixD_ext, q_lenT, q_lenL, q_lenE, z_lenR, q_listT, q_listL, q_listE, z_listR, q_tupT, q_tupL, z_tupR, q_intI, q_intB, q_absI, q_maxII, q_minII, q_allL, z_append, z_extR, z_extL, z_insert, z_pop, z_pop0, z_mtR, q_mtL, q_mtT, z_sti, q_augA, q_augS, q_rngN, fsq_tup, fsq_lst, fsq_ext, atI_natN, atI_nn, ixN_nn, Bool.and_true, Bool.true_and, Bool.and_self, q_dT, q_dF, not_true_eq_false, not_false_eq_true, decide_true, decide_false, isi_non, isi_bl, isi_int, isi_str, isi_tup, isi_lst, isi_ext, List.any_cons, List.any_nil, Bool.or_false, Bool.false_or, Bool.or_true, Bool.true_or, ty_int_int, ty_int_bool, ty_int_str, ty_int_tuple, ty_int_list, ty_int_dict, ty_int_none, ty_bool_int, ty_bool_bool, ty_bool_str, ty_bool_tuple, ty_bool_list, ty_bool_dict, ty_bool_none, ty_str_int, ty_str_bool, ty_str_str, ty_str_tuple, ty_str_list, ty_str_dict, ty_str_none, ty_tuple_int, ty_tuple_bool, ty_tuple_str, ty_tuple_tuple, ty_tuple_list, ty_tuple_dict, ty_tuple_none, ty_list_int, ty_list_bool, ty_list_str, ty_list_tuple, ty_list_list, ty_list_dict, ty_list_none, ty_dict_int, ty_dict_bool, ty_dict_str, ty_dict_tuple, ty_dict_list, ty_dict_dict, ty_dict_none, ty_none_int, ty_none_bool, ty_none_str, ty_none_tuple, ty_none_list, ty_none_dict, ty_none_none] $[$l:location]?)
/-- the draw state of the law -/
def HdrA (r : R) : Prop := ∃ (cs : List Int) (p mx rest : Int), r = .lst [.ext (cs.map .int), .int p, .int mx, .int rest] ∧ cs.length ≤ 63 ∧ 0 ≤ p
theorem law_start (ns : List Int) (hl : ns.length ≤ 63) : ∃ r, HdrA r ∧ F__law_start [.ext (ns.map .int)] [] = some (.ok (.res 0) [r]) := by
  simp! [eq_self, F__law_start, b__law_start, N__law_start, runD_eq, runG_eq, runFor_eq]
  generalize hX : forF _ _ _ _ = X
  have hF := forF_gen hX
  clear hX
  obtain ⟨ρ', m', rfl, ⟨s, c, rfl⟩, rfl⟩ := hF (fun i ρ m' => (∃ s c, ρ = [some (.ext (ns.map .int)), some (.int s), c]) ∧ m' = []) ⟨⟨1, none, rfl⟩, rfl⟩ (by
    rintro i x ρ m' hx ⟨⟨s, c, rfl⟩, rfl⟩
    rw [List.getElem?_map] at hx
    cases hz : ns[i]? with
    | none => rw [hz] at hx; cases hx
    | some z =>
      rw [hz] at hx
      cases hx
      refine ⟨_, _, .inl ?_, ⟨(s * 48271 + z + 7) % 2147483647, some (.int z), rfl⟩, rfl⟩
      simp! [eq_self, b__law_start_1])
  refine ⟨_, ⟨ns, 0, s, 0, rfl, hl, by omega⟩, ?_⟩
  simp! [eq_self]
theorem law_drawn {r : R} (h : HdrA r) (g : List R) (lim : Int) (h0 : 0 < lim) (h1 : lim < 1000000000000000000) : ∃ (k : Nat) (r' : R), HdrA r' ∧ (k : Int) < lim ∧ F__law_drawn [.res 0, .int lim] (r :: g) = some (.ok (.int k) (r' :: g)) := by
  obtain ⟨cs, p, mx, rest, rfl, hc, hp⟩ := h
  have hd : ∀ x : Int, ∃ r : Nat, x % lim = r ∧ (r : Int) < lim := fun x => by
    have := emod_bd x h0
    exact ⟨(x % lim).toNat, by omega, by omega⟩
  by_cases c0 : 0 < rest
  · obtain ⟨k, hk, hk2⟩ := hd rest
    refine ⟨k, _, ⟨cs, p, mx, rest / lim, rfl, hc, hp⟩, hk2, ?_⟩
    simp! [eq_self, F__law_drawn, b__law_drawn, N__law_drawn, runD_eq, runG_eq, runFor_eq, hk, c0]
  · by_cases c1 : p + 1 ≤ (cs.length : Int)
    · obtain ⟨q, rfl⟩ : ∃ q : Nat, p = q := ⟨p.toNat, by omega⟩
      obtain ⟨z, hz⟩ := get_ex (l := cs) rfl (show q < cs.length by omega)
      obtain ⟨k, hk, hk2⟩ := hd z
      have q1 : ((q : Int) + 1 - 1) = (q : Int) := by omega
      by_cases c2 : (1000000000000000000 : Int) ≤ z
      · refine ⟨k, _, ⟨cs, (q : Int) + 1, mx, z / lim, rfl, hc, by omega⟩, hk2, ?_⟩
        simp! [eq_self, F__law_drawn, b__law_drawn, N__law_drawn, runD_eq, runG_eq, runFor_eq, hk, c0, c1, q1, hz, c2]
      · refine ⟨k, _, ⟨cs, (q : Int) + 1, mx, 0, rfl, hc, by omega⟩, hk2, ?_⟩
        simp! [eq_self, F__law_drawn, b__law_drawn, N__law_drawn, runD_eq, runG_eq, runFor_eq, hk, c0, c1, q1, hz, c2]
    · obtain ⟨k, hk, hk2⟩ := hd ((mx * 48271 + 11) % 2147483647 / 7)
      refine ⟨k, _, ⟨cs, p + 1, (mx * 48271 + 11) % 2147483647, rest, rfl, hc, by omega⟩, hk2, ?_⟩
      simp! [eq_self, F__law_drawn, b__law_drawn, N__law_drawn, runD_eq, runG_eq, runFor_eq, hk, c0, c1]
end K07


namespace K07
open PySem Dv Mt
local macro_rules
  | `(tactic| simp! [$xs:simpLemma,*] $[$l:location]?) => `(tactic| simp -implicitDefEqProofs (disch := first | omega | assumption | (simp only [List.length_map, List.length_range, List.length_range', List.length_append, List.length_cons, List.length_nil, List.length_replicate, List.length_take, List.length_drop, List.length_set, List.length_reverse, List.length_zip, List.length_eraseIdx]; omega)) only [$xs,*, gm__law_start, gp__law_start, gt__law_start, gm__law_drawn, gp__law_drawn, gt__law_drawn, gx__law_random_names__15, gm__law_random_names, gp__law_random_names, gt__law_random_names, gx__law_random_habit__15, gm__law_random_habit, gp__law_random_habit, gt__law_random_habit, gx__law_random_habits__15, gx__law_random_habits__18, gm__law_random_habits, gp__law_random_habits, gt__law_random_habits, gm__law_washed, gp__law_washed, gt__law_washed, gx__law_played__20, gm__law_played, gp__law_played, gt__law_played, gm_is_name, gp_is_name, gt_is_name, gm_is_habit, gp_is_habit, gt_is_habit, gx_Kitchen___init____0, gx_Kitchen___init____1, gm_Kitchen___init__, gp_Kitchen___init__, gt_Kitchen___init__, gm_Kitchen_sink_size, gp_Kitchen_sink_size, gt_Kitchen_sink_size, gm_Kitchen_habits, gp_Kitchen_habits, gt_Kitchen_habits, gx_round_cups__5, gx_round_cups__4, gm_round_cups, gp_round_cups, gt_round_cups, gm_greatest_common_divisor, gp_greatest_common_divisor, gt_greatest_common_divisor, gm_Kitchen_mugs, gp_Kitchen_mugs, gt_Kitchen_mugs, gm_put_back, gp_put_back, gt_put_back, gm_inverse_of, gp_inverse_of, gt_inverse_of, gx_map_of__6, gx_map_of__7, gm_map_of, gp_map_of, gt_map_of, gm_cycles_of, gp_cycles_of, gt_cycles_of, gx_names_by_offset__3, gx_names_by_offset__5, gx_names_by_offset__10, gx_names_by_offset__4, gx_names_by_offset__8, gx_names_by_offset__9, gm_names_by_offset, gp_names_by_offset, gt_names_by_offset, gx_first_difference__10, gx_first_difference__11, gx_first_difference__12, gm_first_difference, gp_first_difference, gt_first_difference, gx_law__14, gx_law__15, gx_law__17, gx_law__19, gx_law__18, gx_law__21, gx_law__2, gx_law__13, gn_law__0, gm_law, gp_law, gt_law, ↓y_nil, ↓y_cons, ↓y_pass, ↓y_brk, ↓y_cnt, ↓y_never, ↓y_expr, ↓y_ret, ↓y_retN, ↓y_asg, ↓y_aug, ↓y_ifs, ↓y_whl, ↓y_forr, ↓y_sti, ↓y_stf, ↓x_var, ↓x_cst, ↓x_bop, ↓x_neg, ↓x_cmp, ↓x_chn, ↓x_and, ↓x_or, ↓x_not, ↓x_ite, ↓x_tup, ↓x_lst, ↓x_ix, ↓x_sl, ↓x_rsl, ↓x_cal, ↓x_mk, ↓x_bi, ↓x_rgl, ↓x_isi, ↓x_mth, ↓x_omt, ↓x_att, ↓x_cpr, ↓x_nilL, ↓x_consL, ↓x_non, ↓x_some, ↓x_seq, ↓x_rg1, ↓x_rg2, ↓x_enu, ↓x_zip, ↓x_ezp, ↓y_body, ↓x_turn, ↓x_lgn, ↓x_sst, ↓v_nil, ↓v_plain, ↓v_yld, ↓v_forr, ↓v_whl, ↓v_body, ↓y_forg, ↓c_nil, ↓c_plain, ↓c_yld, ↓c_forr, ↓c_whl, ↓c_body, endF_nx, endF_rt, endF_st, plnC_nx, plnC_rt, thnC_nx, thnC_st, itC_fix, outC_nx, outC_ct, outC_bk, outC_rt, yldC_ok, envC2_ok, bndLS_ok, endG_nx, endG_rt, plnG_nx, plnG_rt, thnG_nx, itG_fix, yldG_ok, envG_ok, lgnK_ok, varK_ok, negK_ok, chnK_t, chnK_f, andK_t, andK_f, orK_t, orK_f, notK_ok, iteK_t, iteK_f, rglK_t, rglK_f, mthK_t, omtK_ok, smK_ok, fldK_ok, attK_ok, att2_p, att2_f, cprK_ok, ioK_ok, liveK_ok, seqK_t, seqK_l, seqK_e, seqK_s, seqK_r, rg1K_ok, rg2K_ok, enuK_ok, zipK_ok, ezpK_ok, sqK_nx, sqK_rt, sqK_bk, sqK_ct, sqK_ex, sqK_none, ifK_t, ifK_f, augK_ok, forD_fix, forD_live, compD_fix, compD_live, envK_ok, eltK_ok, cndK_t, cndK_f, envC_ok, w_nm, w_tp, w_tpL, w_nil, setK_ok, w_cons, w_wipe0, w_wipe, w_len0, w_len, gtK_ok, atR_g, atX_g, atSt_g, isK_ok, isR_g, popK_ok, stiK_ok, cls_obj, cls_res, clK_ok, fld_obj, fld_res, flK_ok, ins_obj, ins_res, inK_ok, sfK_ok, stf_res, if_pos, if_neg, List.flatten_cons, List.flatten_nil, Int.reduceToNat, Int.reduceAdd, Int.reduceSub, Int.reduceMul, Int.reduceNeg, Int.reduceLT, Int.reduceLE, Int.reduceEq, Int.toNat_zero, Int.toNat_one, List.length_range', end_rtT, end_rtF, end_nxT, end_nxF, end_ex, bnd_ok, bndL_ok, bndS_ok, bndI_ok, toI_ok, bndSI_ok, q_okP, q_okB, q_consL, q_consK, q_newT, q_newF, Option.map_some, Option.map_none, Option.bind_some, ite_true, ite_false, if_true, if_false, eq_self, Bool.not_true, Bool.not_false, Bool.true_eq_false, Bool.false_eq_true, Nat.reduceLT, Nat.reduceEqDiff, Nat.reduceSub, Nat.reduceAdd, Int.toNat_natCast, List.map_cons, List.map_nil, List.length_cons, List.length_nil, List.replicate_zero, List.replicate_succ, List.cons_append, List.nil_append, List.append_nil, List.append_assoc, List.length_append, List.length_map, List.length_range, List.length_replicate, List.getElem?_cons_zero, List.getElem?_cons_succ, List.set_cons_zero, List.set_cons_succ, Nat.add_zero, Nat.zero_add, q_get0, q_getk, q_set0, q_setk, iN_eq, List.getElem?_map, q_le, q_lt, q_add, q_sub, q_mulr, q_mull, q_mulT, q_fdiv, q_mod, q_pow18, q_pow9, q_pow15, z_addRL, z_addLR, z_addRR, z_addLL, z_addTT, z_addSS, q_rep1, q_cmpLt, q_cmpLe, q_cmpGt, q_cmpGe, q_isN, q_notN, q_nonN, q_nonI, q_nonS, q_nonT, q_nonL, q_nonR, q_nonB, q_nonO, q_eq, q_ne, q_inn, q_nin, q_eqI, q_eqB, cut_lo, cut_hi, cut_lohi, cut_all, cut_him1, q_slT, q_rslT, q_slL, z_slR, z_ixR, ixD_tup, ixD_lst, ixD_ext, q_lenT, q_lenL, q_lenE, z_lenR, q_listT, q_listL, q_listE, z_listR, q_tupT, q_tupL, z_tupR, q_intI, q_intB, q_absI, q_maxII, q_minII, q_allL, z_append, z_extR, z_extL, z_insert, z_pop, z_pop0, z_mtR, q_mtL, q_mtT, z_sti, q_augA, q_augS, q_rngN, fsq_tup, fsq_lst, fsq_ext, atI_natN, atI_nn, ixN_nn, Bool.and_true, Bool.true_and, Bool.and_self, q_dT, q_dF, not_true_eq_false, not_false_eq_true, decide_true, decide_false, isi_non, isi_bl, isi_int, isi_str, isi_tup, isi_lst, isi_ext, List.any_cons, List.any_nil, Bool.or_false, Bool.false_or, Bool.or_true, Bool.true_or, ty_int_int, ty_int_bool, ty_int_str, ty_int_tuple, ty_int_list, ty_int_dict, ty_int_none, ty_bool_int, ty_bool_bool, ty_bool_str, ty_bool_tuple, ty_bool_list, ty_bool_dict, ty_bool_none, ty_str_int, ty_str_bool, ty_str_str, ty_str_tuple, ty_str_list, ty_str_dict, ty_str_none, ty_tuple_int, ty_tuple_bool, ty_tuple_str, ty_tuple_tuple, ty_tuple_list, ty_tuple_dict, ty_tuple_none, ty_list_int, ty_list_bool, ty_list_str, ty_list_tuple, ty_list_list, ty_list_dict, ty_list_none, ty_dict_int, ty_dict_bool, ty_dict_str, ty_dict_tuple, ty_dict_list, ty_dict_dict, ty_dict_none, ty_none_int, ty_none_bool, ty_none_str, ty_none_tuple, ty_none_list, ty_none_dict, ty_none_none] $[$l:location]?)
def namesA : List Str := ["a", "b", "old", "red", "blue", "tall", "tiny", "cracked", "z", "abcdefgh", "mine", "yours"]
theorem namesA_ok : ∀ x ∈ namesA, PyData.strOk x = true := by decide +kernel
theorem namesA_nd : namesA.Nodup := by decide +kernel
def isLet (c : Nat) : Bool := !(Builtin.Str.occurrences (Str.ofString "abcdefghijklmnopqrstuvwxyz") ⟨#[c]⟩ 0 (Str.ofString "abcdefghijklmnopqrstuvwxyz").length 1).isEmpty
theorem is_name {x : Str} (m : List R) (h1 : 1 ≤ x.length) (h8 : x.length ≤ 8) (h : ∀ c ∈ x.cps.toList, isLet c = true) : F_is_name [.str x] m = some (.ok (.bl true) m) := by
  have e0 : x.cps.toList.length = x.length := rfl
  have e := q_lenS (mu := false) (m := m) (x := x) (by omega)
  simp! [eq_self, F_is_name, b_is_name, N_is_name, runD_eq, runG_eq, runFor_eq, e]
  unfold signsD
  rw [compL_mapA (h := fun p => .bl true) x.cps.toList [] (fun p hp => ?_) (by rw [sizeLine_eq]; simp only [List.length_nil]; omega)]
  · have e : x.cps.toList.map (fun p => D.bl true) = (x.cps.toList.map fun p => true).map .bl := by rw [List.map_map]; rfl
    have e2 : (x.cps.toList.map fun p => true).all id = true := by simp
    simp! [eq_self, e, e2]
    exact fin_self rfl
  · have e3 : inD m (.str ⟨#[p]⟩) (.str (Str.ofString "abcdefghijklmnopqrstuvwxyz")) = some (isLet p) := rfl
    simp! [eq_self, e3, h p hp]
theorem namesA_is : ∀ x ∈ namesA, ∀ m, F_is_name [.str x] m = some (.ok (.bl true) m) := by
  have key : ∀ x ∈ namesA, 1 ≤ x.length ∧ x.length ≤ 8 ∧ ∀ c ∈ x.cps.toList, isLet c = true := by decide +kernel
  intro x hx m
  obtain ⟨h1, h2, h3⟩ := key x hx
  exact is_name m h1 h2 h3
theorem law_random_names {r : R} (H : HdrA r) (g : List R) (n : Nat) (hn : n ≤ 12) : ∃ (ns : List Str) (r' : R) (g' : List R), HdrA r' ∧ ns.length = n ∧ ns.Nodup ∧ (∀ x ∈ ns, x ∈ namesA) ∧ F__law_random_names [.res 0, .int (n : Int)] (r :: g) = some (.ok (.tup (ns.map .str)) (r' :: (g ++ g'))) := by
  have hnames : [D.str (Str.ofString "a"), D.str (Str.ofString "b"), D.str (Str.ofString "old"), D.str (Str.ofString "red"), D.str (Str.ofString "blue"), D.str (Str.ofString "tall"), D.str (Str.ofString "tiny"), D.str (Str.ofString "cracked"), D.str (Str.ofString "z"), D.str (Str.ofString "abcdefgh"), D.str (Str.ofString "mine"), D.str (Str.ofString "yours")] = namesA.map .str := rfl
  have hn12 : namesA.length = 12 := rfl
  simp! [eq_self, F__law_random_names, b__law_random_names, N__law_random_names, runD_eq, runG_eq, runFor_eq, hnames]
  generalize hX : compL _ _ _ _ = X
  have hC := compL_gen hX (by simp; omega)
  clear hX
  obtain ⟨acc, m', rfl, L, M, r', H', rfl, rfl, hp, hM⟩ := hC (fun j acc m' => ∃ (L M : List Str) (r' : R), HdrA r' ∧ m' = r' :: (g ++ [R.lst (L.map .str)]) ∧ acc = M.map .str ∧ (M ++ L).Perm namesA ∧ M.length = j) ⟨namesA, [], r, H, rfl, rfl, List.Perm.refl _, rfl⟩ (by
    rintro j y acc m' hy ⟨L, M, r', H', rfl, rfl, hp, hM⟩
    have hj : j < n := by
      have := (List.getElem?_eq_some_iff.mp hy).1
      simpa using this
    have hL : L.length = 12 - j := by
      have := hp.length_eq
      rw [List.length_append, hn12] at this
      omega
    obtain ⟨k, r2, H2, hk, e⟩ := law_drawn H' (g ++ [R.lst (L.map .str)]) (L.length : Int) (by omega) (by omega)
    obtain ⟨z, hz⟩ := get_ex rfl (show k < L.length by omega)
    refine ⟨.str z, r2 :: (g ++ [R.lst ((L.eraseIdx k).map .str)]), ?_, L.eraseIdx k, M ++ [z], r2, H2, rfl, by simp, ?_, by rw [List.length_append, hM]; rfl⟩
    · simp! [eq_self, e, hz, erase_map]
    · refine List.Perm.trans ?_ hp
      rw [List.append_assoc]
      refine List.Perm.append_left M ?_
      have e2 : L = L.take k ++ z :: L.drop (k + 1) := by
        have h3 := (List.getElem?_eq_some_iff.mp hz)
        rw [← h3.2, List.getElem_cons_drop, List.take_append_drop]
      conv => rhs; rw [e2]
      rw [List.eraseIdx_eq_take_drop_succ]
      show (z :: (L.take k ++ L.drop (k + 1))).Perm _
      exact List.perm_middle.symm)
  rw [show (List.map iN (List.range n)).length = n by simp] at hM
  refine ⟨M, r', [R.lst (L.map .str)], H', hM, (List.nodup_append.mp (hp.nodup_iff.mpr namesA_nd)).1, fun x hx => hp.mem_iff.mp (List.mem_append_left _ hx), ?_⟩
  simp! [eq_self]
theorem law_random_habit {r : R} (H : HdrA r) (g : List R) (n s : Nat) (hs1 : 1 ≤ s) (hsn : s ≤ n) (hn : n ≤ 12) : ∃ (h : List Nat) (r' : R), HdrA r' ∧ HabOk n s h ∧ F__law_random_habit [.res 0, .int (n : Int), .int (s : Int)] (r :: g) = some (.ok (hD h) (r' :: g)) := by
  obtain ⟨k0, r1, H1, hk0, e0⟩ := law_drawn H g 4 (by omega) (by omega)
  by_cases c0 : k0 = 0
  · subst c0
    have e0 : F__law_drawn [.res 0, .int 4] (r :: g) = some (.ok (.int 0) (r1 :: g)) := e0
    generalize hA : F__law_random_habit _ _ = A
    simp! [eq_self, F__law_random_habit, b__law_random_habit, N__law_random_habit, runD_eq, runG_eq, runFor_eq, e0] at hA
    generalize hX : compL _ _ _ _ = X at hA
    have hC := compL_gen hX (by simp; omega)
    clear hX
    obtain ⟨acc, m', hx1, h, r', H', hx2, hx3, hl, hd⟩ := hC (fun j acc m' => ∃ (h : List Nat) (r' : R), HdrA r' ∧ m' = r' :: g ∧ acc = h.map iN ∧ h.length = j ∧ ∀ (i d : Nat), h[i]? = some d → d ≤ n - s + i) ⟨[], r1, H1, rfl, rfl, rfl, fun i d hd => by cases hd⟩ (by
      rintro j y acc m' hy ⟨h, r', H', rfl, rfl, hl, hd⟩
      have hj : j < s := by
        have := (List.getElem?_eq_some_iff.mp hy).1
        simpa using this
      rw [List.getElem?_map, List.getElem?_range hj] at hy
      cases hy
      obtain ⟨k, r2, H2, hk, e⟩ := law_drawn H' g 2 (by omega) (by omega)
      have q1 : (k : Int) * ((n : Int) - (s : Int) + (j : Int)) = ((k * (n - s + j) : Nat) : Int) := by
        rw [Int.natCast_mul]
        congr 1
        omega
      have hv : k * (n - s + j) ≤ n - s + j := by
        rcases (show k = 0 ∨ k = 1 by omega) with rfl | rfl <;> omega
      refine ⟨iN (k * (n - s + j)), r2 :: g, ?_, h ++ [k * (n - s + j)], r2, H2, rfl, by simp, by rw [List.length_append, hl]; rfl, ?_⟩
      · simp! [eq_self, e, q1]
      · intro i d hid
        by_cases c : i < h.length
        · rw [List.getElem?_append_left c] at hid
          exact hd i d hid
        · rw [List.getElem?_append_right (by omega)] at hid
          have : i = h.length := by
            have := (List.getElem?_eq_some_iff.mp hid).1
            simp at this
            omega
          subst this
          rw [Nat.sub_self] at hid
          cases hid
          omega)
    rw [show (List.map iN (List.range s)).length = s by simp] at hl
    rw [hx1, hx2, hx3] at hA
    clear hx1 hx2 hx3
    simp! [eq_self] at hA
    exact ⟨h, r', H', ⟨hl, hs1, hsn, hd⟩, hA.symm⟩
  · have q0 : ¬ ((k0 : Int) = 0) := by omega
    generalize hA : F__law_random_habit _ _ = A
    simp! [eq_self, F__law_random_habit, b__law_random_habit, N__law_random_habit, runD_eq, runG_eq, runFor_eq, e0, q0] at hA
    generalize hX : compL _ _ _ _ = X at hA
    have hC := compL_gen hX (by simp; omega)
    clear hX
    obtain ⟨acc, m', hx1, h, r', H', hx2, hx3, hl, hd⟩ := hC (fun j acc m' => ∃ (h : List Nat) (r' : R), HdrA r' ∧ m' = r' :: g ∧ acc = h.map iN ∧ h.length = j ∧ ∀ (i d : Nat), h[i]? = some d → d ≤ n - s + i) ⟨[], r1, H1, rfl, rfl, rfl, fun i d hd => by cases hd⟩ (by
      rintro j y acc m' hy ⟨h, r', H', rfl, rfl, hl, hd⟩
      have hj : j < s := by
        have := (List.getElem?_eq_some_iff.mp hy).1
        simpa using this
      rw [List.getElem?_map, List.getElem?_range hj] at hy
      cases hy
      obtain ⟨k, r2, H2, hk, e⟩ := law_drawn H' g ((n : Int) - (s : Int) + (j : Int) + 1) (by omega) (by omega)
      refine ⟨iN k, r2 :: g, ?_, h ++ [k], r2, H2, rfl, by simp, by rw [List.length_append, hl]; rfl, ?_⟩
      · simp! [eq_self, e]
      · intro i d hid
        by_cases c : i < h.length
        · rw [List.getElem?_append_left c] at hid
          exact hd i d hid
        · rw [List.getElem?_append_right (by omega)] at hid
          have : i = h.length := by
            have := (List.getElem?_eq_some_iff.mp hid).1
            simp at this
            omega
          subst this
          rw [Nat.sub_self] at hid
          cases hid
          omega)
    rw [show (List.map iN (List.range s)).length = s by simp] at hl
    rw [hx1, hx2, hx3] at hA
    clear hx1 hx2 hx3
    simp! [eq_self] at hA
    exact ⟨h, r', H', ⟨hl, hs1, hsn, hd⟩, hA.symm⟩
theorem law_random_habits {r : R} (H : HdrA r) (g : List R) (n most : Nat) (hn1 : 1 ≤ n) (hn : n ≤ 12) (hm1 : 1 ≤ most) (hm : most ≤ 100) : ∃ (s : Nat) (hs : List (List Nat)) (r' : R), HdrA r' ∧ 1 ≤ s ∧ s ≤ n ∧ (∀ h ∈ hs, HabOk n s h) ∧ 1 ≤ hs.length ∧ hs.length ≤ most ∧ F__law_random_habits [.res 0, .int (n : Int), .int (most : Int)] (r :: g) = some (.ok (.tup (hs.map hD)) (r' :: g)) := by
  obtain ⟨k0, r1, H1, hk0, e0⟩ := law_drawn H g (n : Int) (by omega) (by omega)
  obtain ⟨k1, r2, H2, hk1, e1⟩ := law_drawn H1 g (most : Int) (by omega) (by omega)
  have q0 : ((1 : Int) + (k0 : Int)) = ((1 + k0 : Nat) : Int) := by omega
  have q1 : ((1 : Int) + (k1 : Int)) = ((1 + k1 : Nat) : Int) := by omega
  generalize hS : 1 + k0 = s at q0
  simp! [eq_self, F__law_random_habits, b__law_random_habits, N__law_random_habits, runD_eq, runG_eq, runFor_eq, e0, q0, e1, q1]
  generalize hX : compL _ _ _ _ = X
  have hC := compL_gen hX (by simp; omega)
  clear hX
  obtain ⟨acc, m', rfl, hs, r', H', rfl, rfl, hab, hl⟩ := hC (fun j acc m' => ∃ (hs : List (List Nat)) (r' : R), HdrA r' ∧ m' = r' :: g ∧ acc = hs.map hD ∧ (∀ h ∈ hs, HabOk n s h) ∧ hs.length = j) ⟨[], r2, H2, rfl, rfl, (fun h hh => by cases hh), rfl⟩ (by
    rintro j y acc m' hy ⟨hs, r', H', rfl, rfl, hab, hl⟩
    obtain ⟨h, r3, H3, hh, e⟩ := law_random_habit H' g n s (by omega) (by omega) hn
    refine ⟨hD h, r3 :: g, ?_, hs ++ [h], r3, H3, rfl, by simp, fun h' hh' => ?_, by rw [List.length_append, hl]; rfl⟩
    · simp! [eq_self, e]
    · rcases List.mem_append.mp hh' with k | k
      · exact hab h' k
      · rw [List.mem_singleton.mp k]; exact hh)
  rw [show (List.map iN (List.range (1 + k1))).length = 1 + k1 by simp] at hl
  refine ⟨s, hs, r', H', by omega, by omega, hab, by omega, by omega, ?_⟩
  simp! [eq_self]
end K07


namespace K07
open PySem Dv Mt
local macro_rules
  | `(tactic| simp! [$xs:simpLemma,*] $[$l:location]?) => `(tactic| simp -implicitDefEqProofs (disch := first | omega | assumption | (simp only [List.length_map, List.length_range, List.length_range', List.length_append, List.length_cons, List.length_nil, List.length_replicate, List.length_take, List.length_drop, List.length_set, List.length_reverse, List.length_zip, List.length_eraseIdx]; omega)) only [$xs,*, gm__law_start, gp__law_start, gt__law_start, gm__law_drawn, gp__law_drawn, gt__law_drawn, gx__law_random_names__15, gm__law_random_names, gp__law_random_names, gt__law_random_names, gx__law_random_habit__15, gm__law_random_habit, gp__law_random_habit, gt__law_random_habit, gx__law_random_habits__15, gx__law_random_habits__18, gm__law_random_habits, gp__law_random_habits, gt__law_random_habits, gm__law_washed, gp__law_washed, gt__law_washed, gx__law_played__20, gm__law_played, gp__law_played, gt__law_played, gm_is_name, gp_is_name, gt_is_name, gm_is_habit, gp_is_habit, gt_is_habit, gx_Kitchen___init____0, gx_Kitchen___init____1, gm_Kitchen___init__, gp_Kitchen___init__, gt_Kitchen___init__, gm_Kitchen_sink_size, gp_Kitchen_sink_size, gt_Kitchen_sink_size, gm_Kitchen_habits, gp_Kitchen_habits, gt_Kitchen_habits, gx_round_cups__5, gx_round_cups__4, gm_round_cups, gp_round_cups, gt_round_cups, gm_greatest_common_divisor, gp_greatest_common_divisor, gt_greatest_common_divisor, gm_Kitchen_mugs, gp_Kitchen_mugs, gt_Kitchen_mugs, gm_put_back, gp_put_back, gt_put_back, gm_inverse_of, gp_inverse_of, gt_inverse_of, gx_map_of__6, gx_map_of__7, gm_map_of, gp_map_of, gt_map_of, gm_cycles_of, gp_cycles_of, gt_cycles_of, gx_names_by_offset__3, gx_names_by_offset__5, gx_names_by_offset__10, gx_names_by_offset__4, gx_names_by_offset__8, gx_names_by_offset__9, gm_names_by_offset, gp_names_by_offset, gt_names_by_offset, gx_first_difference__10, gx_first_difference__11, gx_first_difference__12, gm_first_difference, gp_first_difference, gt_first_difference, gx_law__14, gx_law__15, gx_law__17, gx_law__19, gx_law__18, gx_law__21, gx_law__2, gx_law__13, gn_law__0, gm_law, gp_law, gt_law, ↓y_nil, ↓y_cons, ↓y_pass, ↓y_brk, ↓y_cnt, ↓y_never, ↓y_expr, ↓y_ret, ↓y_retN, ↓y_asg, ↓y_aug, ↓y_ifs, ↓y_whl, ↓y_forr, ↓y_sti, ↓y_stf, ↓x_var, ↓x_cst, ↓x_bop, ↓x_neg, ↓x_cmp, ↓x_chn, ↓x_and, ↓x_or, ↓x_not, ↓x_ite, ↓x_tup, ↓x_lst, ↓x_ix, ↓x_sl, ↓x_rsl, ↓x_cal, ↓x_mk, ↓x_bi, ↓x_rgl, ↓x_isi, ↓x_mth, ↓x_omt, ↓x_att, ↓x_cpr, ↓x_nilL, ↓x_consL, ↓x_non, ↓x_some, ↓x_seq, ↓x_rg1, ↓x_rg2, ↓x_enu, ↓x_zip, ↓x_ezp, ↓y_body, ↓x_turn, ↓x_lgn, ↓x_sst, ↓v_nil, ↓v_plain, ↓v_yld, ↓v_forr, ↓v_whl, ↓v_body, ↓y_forg, ↓c_nil, ↓c_plain, ↓c_yld, ↓c_forr, ↓c_whl, ↓c_body, endF_nx, endF_rt, endF_st, plnC_nx, plnC_rt, thnC_nx, thnC_st, itC_fix, outC_nx, outC_ct, outC_bk, outC_rt, yldC_ok, envC2_ok, bndLS_ok, endG_nx, endG_rt, plnG_nx, plnG_rt, thnG_nx, itG_fix, yldG_ok, envG_ok, lgnK_ok, varK_ok, negK_ok, chnK_t, chnK_f, andK_t, andK_f, orK_t, orK_f, notK_ok, iteK_t, iteK_f, rglK_t, rglK_f, mthK_t, omtK_ok, smK_ok, fldK_ok, attK_ok, att2_p, att2_f, cprK_ok, ioK_ok, liveK_ok, seqK_t, seqK_l, seqK_e, seqK_s, seqK_r, rg1K_ok, rg2K_ok, enuK_ok, zipK_ok, ezpK_ok, sqK_nx, sqK_rt, sqK_bk, sqK_ct, sqK_ex, sqK_none, ifK_t, ifK_f, augK_ok, forD_fix, forD_live, compD_fix, compD_live, envK_ok, eltK_ok, cndK_t, cndK_f, envC_ok, w_nm, w_tp, w_tpL, w_nil, setK_ok, w_cons, w_wipe0, w_wipe, w_len0, w_len, gtK_ok, atR_g, atX_g, atSt_g, isK_ok, isR_g, popK_ok, stiK_ok, cls_obj, cls_res, clK_ok, fld_obj, fld_res, flK_ok, ins_obj, ins_res, inK_ok, sfK_ok, stf_res, if_pos, if_neg, List.flatten_cons, List.flatten_nil, Int.reduceToNat, Int.reduceAdd, Int.reduceSub, Int.reduceMul, Int.reduceNeg, Int.reduceLT, Int.reduceLE, Int.reduceEq, Int.toNat_zero, Int.toNat_one, List.length_range', end_rtT, end_rtF, end_nxT, end_nxF, end_ex, bnd_ok, bndL_ok, bndS_ok, bndI_ok, toI_ok, bndSI_ok, q_okP, q_okB, q_consL, q_consK, q_newT, q_newF, Option.map_some, Option.map_none, Option.bind_some, ite_true, ite_false, if_true, if_false, eq_self, Bool.not_true, Bool.not_false, Bool.true_eq_false, Bool.false_eq_true, Nat.reduceLT, Nat.reduceEqDiff, Nat.reduceSub, Nat.reduceAdd, Int.toNat_natCast, List.map_cons, List.map_nil, List.length_cons, List.length_nil, List.replicate_zero, List.replicate_succ, List.cons_append, List.nil_append, List.append_nil, List.append_assoc, List.length_append, List.length_map, List.length_range, List.length_replicate, List.getElem?_cons_zero, List.getElem?_cons_succ, List.set_cons_zero, List.set_cons_succ, Nat.add_zero, Nat.zero_add, q_get0, q_getk, q_set0, q_setk, iN_eq, List.getElem?_map, q_le, q_lt, q_add, q_sub, q_mulr, q_mull, q_mulT, q_fdiv, q_mod, q_pow18, q_pow9, q_pow15, z_addRL, z_addLR, z_addRR, z_addLL, z_addTT, z_addSS, q_rep1, q_cmpLt, q_cmpLe, q_cmpGt, q_cmpGe, q_isN, q_notN, q_nonN, q_nonI, q_nonS, q_nonT, q_nonL, q_nonR, q_nonB, q_nonO, q_eq, q_ne, q_inn, q_nin, q_eqI, q_eqB, cut_lo, cut_hi, cut_lohi, cut_all, cut_him1, q_slT, q_rslT, q_slL, z_slR, z_ixR, ixD_tup, ixD_lst, ixD_ext, q_lenT, q_lenL, q_lenE, z_lenR, q_listT, q_listL, q_listE, z_listR, q_tupT, q_tupL, z_tupR, q_intI, q_intB, q_absI, q_maxII, q_minII, q_allL, z_append, z_extR, z_extL, z_insert, z_pop, z_pop0, z_mtR, q_mtL, q_mtT, z_sti, q_augA, q_augS, q_rngN, fsq_tup, fsq_lst, fsq_ext, atI_natN, atI_nn, ixN_nn, Bool.and_true, Bool.true_and, Bool.and_self, q_dT, q_dF, not_true_eq_false, not_false_eq_true, decide_true, decide_false, isi_non, isi_bl, isi_int, isi_str, isi_tup, isi_lst, isi_ext, List.any_cons, List.any_nil, Bool.or_false, Bool.false_or, Bool.or_true, Bool.true_or, ty_int_int, ty_int_bool, ty_int_str, ty_int_tuple, ty_int_list, ty_int_dict, ty_int_none, ty_bool_int, ty_bool_bool, ty_bool_str, ty_bool_tuple, ty_bool_list, ty_bool_dict, ty_bool_none, ty_str_int, ty_str_bool, ty_str_str, ty_str_tuple, ty_str_list, ty_str_dict, ty_str_none, ty_tuple_int, ty_tuple_bool, ty_tuple_str, ty_tuple_tuple, ty_tuple_list, ty_tuple_dict, ty_tuple_none, ty_list_int, ty_list_bool, ty_list_str, ty_list_tuple, ty_list_list, ty_list_dict, ty_list_none, ty_dict_int, ty_dict_bool, ty_dict_str, ty_dict_tuple, ty_dict_list, ty_dict_dict, ty_dict_none, ty_none_int, ty_none_bool, ty_none_str, ty_none_tuple, ty_none_list, ty_none_dict, ty_none_none] $[$l:location]?)
/-! the cups of a mug -/
def FCt (hs : List (List Nat)) (n s p t : Nat) : List Nat := ((List.range t).filterMap fun j => if posAt hs n j p < s then some (j * s + posAt hs n j p) else none).map (· + 1)
def FCups (hs : List (List Nat)) (n s p : Nat) : List Nat := (hits (used hs n s p) (per hs n s p)).map (· + 1)
def tD (hs : List (List Nat)) (n s p : Nat) : D := .obj 1 [.int (per hs n s p : Int), .lst ((FCups hs n s p).map iN)]
theorem FCt_succ (hs : List (List Nat)) (n s p t : Nat) : FCt hs n s p (t + 1) = FCt hs n s p t ++ if posAt hs n t p < s then [t * s + posAt hs n t p + 1] else [] := by
  unfold FCt
  rw [List.range_succ, List.filterMap_append, List.map_append]
  congr 1
  by_cases h : posAt hs n t p < s
  · simp [h]
  · simp [h]
theorem FCt_le (hs : List (List Nat)) (n s p t : Nat) : (FCt hs n s p t).length ≤ t := by
  unfold FCt
  rw [List.length_map]
  refine Nat.le_trans (List.length_filterMap_le _ _) ?_
  rw [List.length_range]
  exact Nat.le_refl _
theorem FCt_all (hs : List (List Nat)) (n p : Nat) {s : Nat} (h0 : 0 < s) : FCt hs n s p (hs.length * ord (wmap n hs) p) = FCups hs n s p := by
  unfold FCt FCups per
  rw [Nat.mul_assoc, hits_used hs n p h0]
theorem KOk.s1 {ns : List Str} {s : Nat} {hs : List (List Nat)} (ok : KOk ns s hs) : 1 ≤ s ∧ s ≤ ns.length := by
  obtain ⟨n2, n12, nd, st, h1, h6, hab⟩ := ok
  cases hs with
  | nil => cases h1
  | cons h hs =>
    obtain ⟨a, b, c, _⟩ := hab h List.mem_cons_self
    exact ⟨b, c⟩
end K07


namespace K07
open PySem Dv Mt
local macro_rules
  | `(tactic| simp! [$xs:simpLemma,*] $[$l:location]?) => `(tactic| simp -implicitDefEqProofs (disch := first | omega | assumption | (simp only [List.length_map, List.length_range, List.length_range', List.length_append, List.length_cons, List.length_nil, List.length_replicate, List.length_take, List.length_drop, List.length_set, List.length_reverse, List.length_zip, List.length_eraseIdx]; omega)) only [$xs,*, gm__law_start, gp__law_start, gt__law_start, gm__law_drawn, gp__law_drawn, gt__law_drawn, gx__law_random_names__15, gm__law_random_names, gp__law_random_names, gt__law_random_names, gx__law_random_habit__15, gm__law_random_habit, gp__law_random_habit, gt__law_random_habit, gx__law_random_habits__15, gx__law_random_habits__18, gm__law_random_habits, gp__law_random_habits, gt__law_random_habits, gm__law_washed, gp__law_washed, gt__law_washed, gx__law_played__20, gm__law_played, gp__law_played, gt__law_played, gm_is_name, gp_is_name, gt_is_name, gm_is_habit, gp_is_habit, gt_is_habit, gx_Kitchen___init____0, gx_Kitchen___init____1, gm_Kitchen___init__, gp_Kitchen___init__, gt_Kitchen___init__, gm_Kitchen_sink_size, gp_Kitchen_sink_size, gt_Kitchen_sink_size, gm_Kitchen_habits, gp_Kitchen_habits, gt_Kitchen_habits, gx_round_cups__5, gx_round_cups__4, gm_round_cups, gp_round_cups, gt_round_cups, gm_greatest_common_divisor, gp_greatest_common_divisor, gt_greatest_common_divisor, gm_Kitchen_mugs, gp_Kitchen_mugs, gt_Kitchen_mugs, gm_put_back, gp_put_back, gt_put_back, gm_inverse_of, gp_inverse_of, gt_inverse_of, gx_map_of__6, gx_map_of__7, gm_map_of, gp_map_of, gt_map_of, gm_cycles_of, gp_cycles_of, gt_cycles_of, gx_names_by_offset__3, gx_names_by_offset__5, gx_names_by_offset__10, gx_names_by_offset__4, gx_names_by_offset__8, gx_names_by_offset__9, gm_names_by_offset, gp_names_by_offset, gt_names_by_offset, gx_first_difference__10, gx_first_difference__11, gx_first_difference__12, gm_first_difference, gp_first_difference, gt_first_difference, gx_law__14, gx_law__15, gx_law__17, gx_law__19, gx_law__18, gx_law__21, gx_law__2, gx_law__13, gn_law__0, gm_law, gp_law, gt_law, ↓y_nil, ↓y_cons, ↓y_pass, ↓y_brk, ↓y_cnt, ↓y_never, ↓y_expr, ↓y_ret, ↓y_retN, ↓y_asg, ↓y_aug, ↓y_ifs, ↓y_whl, ↓y_forr, ↓y_sti, ↓y_stf, ↓x_var, ↓x_cst, ↓x_bop, ↓x_neg, ↓x_cmp, ↓x_chn, ↓x_and, ↓x_or, ↓x_not, ↓x_ite, ↓x_tup, ↓x_lst, ↓x_ix, ↓x_sl, ↓x_rsl, ↓x_cal, ↓x_mk, ↓x_bi, ↓x_rgl, ↓x_isi, ↓x_mth, ↓x_omt, ↓x_att, ↓x_cpr, ↓x_nilL, ↓x_consL, ↓x_non, ↓x_some, ↓x_seq, ↓x_rg1, ↓x_rg2, ↓x_enu, ↓x_zip, ↓x_ezp, ↓y_body, ↓x_turn, ↓x_lgn, ↓x_sst, ↓v_nil, ↓v_plain, ↓v_yld, ↓v_forr, ↓v_whl, ↓v_body, ↓y_forg, ↓c_nil, ↓c_plain, ↓c_yld, ↓c_forr, ↓c_whl, ↓c_body, endF_nx, endF_rt, endF_st, plnC_nx, plnC_rt, thnC_nx, thnC_st, itC_fix, outC_nx, outC_ct, outC_bk, outC_rt, yldC_ok, envC2_ok, bndLS_ok, endG_nx, endG_rt, plnG_nx, plnG_rt, thnG_nx, itG_fix, yldG_ok, envG_ok, lgnK_ok, varK_ok, negK_ok, chnK_t, chnK_f, andK_t, andK_f, orK_t, orK_f, notK_ok, iteK_t, iteK_f, rglK_t, rglK_f, mthK_t, omtK_ok, smK_ok, fldK_ok, attK_ok, att2_p, att2_f, cprK_ok, ioK_ok, liveK_ok, seqK_t, seqK_l, seqK_e, seqK_s, seqK_r, rg1K_ok, rg2K_ok, enuK_ok, zipK_ok, ezpK_ok, sqK_nx, sqK_rt, sqK_bk, sqK_ct, sqK_ex, sqK_none, ifK_t, ifK_f, augK_ok, forD_fix, forD_live, compD_fix, compD_live, envK_ok, eltK_ok, cndK_t, cndK_f, envC_ok, w_nm, w_tp, w_tpL, w_nil, setK_ok, w_cons, w_wipe0, w_wipe, w_len0, w_len, gtK_ok, atR_g, atX_g, atSt_g, isK_ok, isR_g, popK_ok, stiK_ok, cls_obj, cls_res, clK_ok, fld_obj, fld_res, flK_ok, ins_obj, ins_res, inK_ok, sfK_ok, stf_res, if_pos, if_neg, List.flatten_cons, List.flatten_nil, Int.reduceToNat, Int.reduceAdd, Int.reduceSub, Int.reduceMul, Int.reduceNeg, Int.reduceLT, Int.reduceLE, Int.reduceEq, Int.toNat_zero, Int.toNat_one, List.length_range', end_rtT, end_rtF, end_nxT, end_nxF, end_ex, bnd_ok, bndL_ok, bndS_ok, bndI_ok, toI_ok, bndSI_ok, q_okP, q_okB, q_consL, q_consK, q_newT, q_newF, Option.map_some, Option.map_none, Option.bind_some, ite_true, ite_false, if_true, if_false, eq_self, Bool.not_true, Bool.not_false, Bool.true_eq_false, Bool.false_eq_true, Nat.reduceLT, Nat.reduceEqDiff, Nat.reduceSub, Nat.reduceAdd, Int.toNat_natCast, List.map_cons, List.map_nil, List.length_cons, List.length_nil, List.replicate_zero, List.replicate_succ, List.cons_append, List.nil_append, List.append_nil, List.append_assoc, List.length_append, List.length_map, List.length_range, List.length_replicate, List.getElem?_cons_zero, List.getElem?_cons_succ, List.set_cons_zero, List.set_cons_succ, Nat.add_zero, Nat.zero_add, q_get0, q_getk, q_set0, q_setk, iN_eq, List.getElem?_map, q_le, q_lt, q_add, q_sub, q_mulr, q_mull, q_mulT, q_fdiv, q_mod, q_pow18, q_pow9, q_pow15, z_addRL, z_addLR, z_addRR, z_addLL, z_addTT, z_addSS, q_rep1, q_cmpLt, q_cmpLe, q_cmpGt, q_cmpGe, q_isN, q_notN, q_nonN, q_nonI, q_nonS, q_nonT, q_nonL, q_nonR, q_nonB, q_nonO, q_eq, q_ne, q_inn, q_nin, q_eqI, q_eqB, cut_lo, cut_hi, cut_lohi, cut_all, cut_him1, q_slT, q_rslT, q_slL, z_slR, z_ixR, ixD_tup, ixD_lst, ixD_ext, q_lenT, q_lenL, q_lenE, z_lenR, q_listT, q_listL, q_listE, z_listR, q_tupT, q_tupL, z_tupR, q_intI, q_intB, q_absI, q_maxII, q_minII, q_allL, z_append, z_extR, z_extL, z_insert, z_pop, z_pop0, z_mtR, q_mtL, q_mtT, z_sti, q_augA, q_augS, q_rngN, fsq_tup, fsq_lst, fsq_ext, atI_natN, atI_nn, ixN_nn, Bool.and_true, Bool.true_and, Bool.and_self, q_dT, q_dF, not_true_eq_false, not_false_eq_true, decide_true, decide_false, isi_non, isi_bl, isi_int, isi_str, isi_tup, isi_lst, isi_ext, List.any_cons, List.any_nil, Bool.or_false, Bool.false_or, Bool.or_true, Bool.true_or, ty_int_int, ty_int_bool, ty_int_str, ty_int_tuple, ty_int_list, ty_int_dict, ty_int_none, ty_bool_int, ty_bool_bool, ty_bool_str, ty_bool_tuple, ty_bool_list, ty_bool_dict, ty_bool_none, ty_str_int, ty_str_bool, ty_str_str, ty_str_tuple, ty_str_list, ty_str_dict, ty_str_none, ty_tuple_int, ty_tuple_bool, ty_tuple_str, ty_tuple_tuple, ty_tuple_list, ty_tuple_dict, ty_tuple_none, ty_list_int, ty_list_bool, ty_list_str, ty_list_tuple, ty_list_list, ty_list_dict, ty_list_none, ty_dict_int, ty_dict_bool, ty_dict_str, ty_dict_tuple, ty_dict_list, ty_dict_dict, ty_dict_none, ty_none_int, ty_none_bool, ty_none_str, ty_none_tuple, ty_none_list, ty_none_dict, ty_none_none] $[$l:location]?)
theorem len_hD (mu : Bool) (m : List R) (h : List Nat) : biD .len mu m [hD h] = some (.int (h.length : Int), m) := by
  unfold hD
  rw [q_lenT, List.length_map]
/-- the shelf behind a wash: all lists told -/
theorem law_washed (xs ys : List Str) (ds : List Nat) (m : List R) (hd : ∀ d ∈ ds, d < 1000) (hl : xs.length + ys.length ≤ 1000) (hly : ys.length ≤ ds.length) :
    F__law_washed [.lst (xs.map .str), .lst (ys.map .str), hD ds] m = some (.ok (.lst ((putB xs (ys.zip ds)).map .str)) m) := by
  unfold hD
  simp! [eq_self, F__law_washed, b__law_washed, N__law_washed, runD_eq, runG_eq, runFor_eq]
  generalize hX : forF _ _ _ _ = X
  have hF := forF_gen hX
  clear hX
  obtain ⟨ρ', m', rfl, ⟨u, v, rfl⟩, rfl⟩ := hF (fun i ρ m' => (∃ u v, ρ = [some (.lst (xs.map .str)), some (.lst (ys.map .str)), some (.tup (ds.map iN)), some (.lst ((putB xs ((ys.zip ds).take i)).map .str)), u, v]) ∧ m' = m) ⟨⟨none, none, rfl⟩, rfl⟩ (by
    rintro i x ρ m' hx ⟨⟨u, v, rfl⟩, rfl⟩
    have hi : i < ys.length := by
      have := (List.getElem?_eq_some_iff.mp hx).1
      simpa using this
    rw [List.getElem?_map, List.getElem?_range hi] at hx
    cases hx
    obtain ⟨y, hy⟩ := get_ex rfl hi
    obtain ⟨d, hd2⟩ := get_ex (l := ds) rfl (show i < ds.length by omega)
    have hz : (ys.zip ds)[i]? = some (y, d) := by
      rw [List.getElem?_zip_eq_some]
      exact ⟨hy, hd2⟩
    have hd' : d < 1000 := hd d (List.mem_of_getElem? hd2)
    have hlen : (putB xs ((ys.zip ds).take i)).length ≤ 1000 := by
      rw [putB_len, List.length_take]
      have : (ys.zip ds).length ≤ ys.length := by rw [List.length_zip]; omega
      omega
    refine ⟨[some (.lst (xs.map .str)), some (.lst (ys.map .str)), some (.tup (ds.map iN)), some (.lst ((ins d y (putB xs ((ys.zip ds).take i))).map .str)), some (iN i), some (iN d)], m', .inl ?_, ⟨some (iN i), some (iN d), ?_⟩, rfl⟩
    · simp! [eq_self, b__law_washed_1, hy, hd2]
      simp [ins]
    · rw [List.take_add_one, hz]
      show _ = [_, _, _, some (D.lst ((putB xs ((ys.zip ds).take i ++ [(y, d)])).map .str)), _, _]
      rw [putB_snoc])
  simp! [eq_self]
  refine (fin_self (by rw [okD_lst]; exact okDL_strs _ _)).trans ?_
  congr 5
  refine List.take_of_length_le ?_
  rw [List.length_zip]
  omega
/-- the state behind c cups -/
def stD (hs : List (List Nat)) (s : Nat) (ns : List Str) (c : Nat) : D := .tup [.tup (((shelfAt hs (c / s) ns).drop (c % s)).map .str), .tup (((shelfAt hs (c / s) ns).take (c % s)).map .str)]
theorem law_played {ns : List Str} {s : Nat} {hs : List (List Nat)} (N : Nat) (M : Nat → Str) (m : List R) (ok : KOk ns s hs) (hM : ∀ k, mugAt hs s k ns = some (M k)) (hN : N ≤ 5000) :
    F__law_played [.tup (ns.map .str), .tup (hs.map hD), .int (N : Int)] m = some (.ok (.tup [.lst ((List.range N).map fun k => D.str (M k)), .lst ((List.range (N + 1)).map (stD hs s ns))]) m) := by
  have hl := ok.hl
  have hs1 := ok.s1
  obtain ⟨n2, n12, nd, st, hh1, h6, hab⟩ := id ok
  obtain ⟨h0, hh0⟩ := get_ex (l := hs) rfl (show 0 < hs.length by omega)
  have hs0 := (hab h0 (List.mem_of_getElem? hh0)).1
  simp! [eq_self, F__law_played, b__law_played, N__law_played, runD_eq, runG_eq, runFor_eq]
  generalize hX : forF _ _ _ _ = X
  have hF := forF_gen hX
  clear hX
  obtain ⟨ρ', m', rfl, ⟨u, rfl⟩, rfl⟩ := hF (fun k ρ m' => (∃ u, ρ = [some (.tup (ns.map .str)), some (.tup (hs.map hD)), some (.int (N : Int)), some (.lst (((shelfAt hs (k / s) ns).drop (k % s)).map .str)), some (.lst (((shelfAt hs (k / s) ns).take (k % s)).map .str)), some (.int ((k / s : Nat) : Int)), some (.res m.length), some (.res (m.length + 1)), u]) ∧ m' = m ++ [R.lst ((List.range k).map fun k => D.str (M k)), R.lst ((List.range (k + 1)).map (stD hs s ns))])
    ⟨⟨none, by rw [Nat.zero_div, Nat.zero_mod, shelfAt_zero]; rfl⟩, by
      show _ = m ++ [R.lst [], R.lst [stD hs s ns 0]]
      unfold stD
      rw [Nat.zero_div, Nat.zero_mod, shelfAt_zero]
      rfl⟩ (by
    rintro k x ρ m' hx ⟨⟨u, rfl⟩, rfl⟩
    have hk : k < N := by
      have := (List.getElem?_eq_some_iff.mp hx).1
      simpa using this
    have hMk : (shelfAt hs (k / s) ns)[k % s]? = some (M k) := hM k
    have hmod := Nat.mod_lt k (show 0 < s by omega)
    have hsl := shelfAt_len (t := k / s) hl
    have hd0 : ((shelfAt hs (k / s) ns).drop (k % s))[0]? = some (M k) := by rw [List.getElem?_drop, Nat.add_zero]; exact hMk
    have hdr : (List.map D.str ((shelfAt hs (k / s) ns).drop (k % s))).drop 1 = ((shelfAt hs (k / s) ns).drop (k % s + 1)).map .str := by
      rw [← List.map_drop, List.drop_drop]
    have htk : (shelfAt hs (k / s) ns).take (k % s) ++ [M k] = (shelfAt hs (k / s) ns).take (k % s + 1) := by
      rw [List.take_add_one, hMk]; rfl
    have htk2 : List.map D.str ((shelfAt hs (k / s) ns).take (k % s)) ++ [D.str (M k)] = ((shelfAt hs (k / s) ns).take (k % s + 1)).map .str := by
      rw [← htk, List.map_append]; rfl
    have hlen : ((shelfAt hs (k / s) ns).take (k % s + 1)).length = k % s + 1 := by rw [List.length_take, hsl]; omega
    have hfnd : List.map (fun k => D.str (M k)) (List.range k) ++ [D.str (M k)] = (List.range (k + 1)).map fun k => D.str (M k) := by
      rw [List.range_succ, List.map_append]; rfl
    have hst : ∀ c, (List.range (c + 1)).map (stD hs s ns) ++ [stD hs s ns (c + 1)] = (List.range (c + 1 + 1)).map (stD hs s ns) := fun c => by
      conv => rhs; rw [List.range_succ, List.map_append]
      rfl
    have hst' := hst k
    generalize hA : bodyD _ _ _ _ _ = A
    by_cases hc : k % s + 1 = s
    · have hlc : (((k % s + 1 : Nat) : Int) = (s : Int)) = True := eq_true (by omega)
      obtain ⟨d1, d2⟩ := (div_mod_next hmod).1 hc
      obtain ⟨h, hh⟩ := get_ex (l := hs) rfl (Nat.mod_lt (k / s) (by omega : 0 < hs.length))
      have hm := List.mem_of_getElem? hh
      have hhs := (hab h hm).1
      have hcast : (((k / s : Nat) : Int) % (hs.length : Int)) = ((k / s % hs.length : Nat) : Int) := by simp
      have e1 := fun m => law_washed ((shelfAt hs (k / s) ns).drop (k % s + 1)) ((shelfAt hs (k / s) ns).take (k % s + 1)) h m (fun d hd => by have := (hab h hm).d hd; omega) (by simp; omega) (by rw [hlen]; omega)
      have e2 : putB ((shelfAt hs (k / s) ns).drop (k % s + 1)) (((shelfAt hs (k / s) ns).take (k % s + 1)).zip h) = shelfAt hs (k / s + 1) ns := by
        rw [shelfAt_succ ns hh, hc]
        unfold wash
        rw [hhs]
      rw [e2] at e1
      have hst2 : D.tup [.tup ((shelfAt hs (k / s + 1) ns).map .str), .tup []] = stD hs s ns (k + 1) := by
        unfold stD
        rw [d1, d2]
        rfl
      simp! [eq_self, b__law_played_1, hd0, hdr, htk2, hfnd, hh0, len_hD, hs0, hlen, hlc, hcast, hh, e1, hst2, hst'] at hA
      refine ⟨_, _, .inl hA.symm, ⟨some x, ?_⟩, rfl⟩
      rw [d1, d2]
      simp
    · have hlc : (((k % s + 1 : Nat) : Int) = (s : Int)) = False := eq_false (by omega)
      obtain ⟨d1, d2⟩ := (div_mod_next hmod).2 hc
      have hst2 : D.tup [.tup (((shelfAt hs (k / s) ns).drop (k % s + 1)).map .str), .tup (((shelfAt hs (k / s) ns).take (k % s + 1)).map .str)] = stD hs s ns (k + 1) := by
        unfold stD
        rw [d1, d2]
      simp! [eq_self, b__law_played_1, hd0, hdr, htk2, hfnd, hh0, len_hD, hs0, hlen, hlc, hst2, hst'] at hA
      refine ⟨_, _, .inl hA.symm, ⟨some x, ?_⟩, rfl⟩
      rw [d1, d2])
  rw [List.length_map, List.length_range]
  simp! [eq_self]
  refine fin_tup2 (by omega) (by omega) (by simp) (by simp) (okDL_map (fun x => okD_str _ _) _) (okDL_map (fun x => ?_) _)
  unfold stD
  simp only [okD_tup, okDL_cons, okDL_nil, okDL_strs, Bool.and_self]
end K07


namespace K07
open PySem Dv Mt
local macro_rules
  | `(tactic| simp! [$xs:simpLemma,*] $[$l:location]?) => `(tactic| simp -implicitDefEqProofs (disch := first | omega | assumption | (simp only [List.length_map, List.length_range, List.length_range', List.length_append, List.length_cons, List.length_nil, List.length_replicate, List.length_take, List.length_drop, List.length_set, List.length_reverse, List.length_zip, List.length_eraseIdx]; omega)) only [$xs,*, gm__law_start, gp__law_start, gt__law_start, gm__law_drawn, gp__law_drawn, gt__law_drawn, gx__law_random_names__15, gm__law_random_names, gp__law_random_names, gt__law_random_names, gx__law_random_habit__15, gm__law_random_habit, gp__law_random_habit, gt__law_random_habit, gx__law_random_habits__15, gx__law_random_habits__18, gm__law_random_habits, gp__law_random_habits, gt__law_random_habits, gm__law_washed, gp__law_washed, gt__law_washed, gx__law_played__20, gm__law_played, gp__law_played, gt__law_played, gm_is_name, gp_is_name, gt_is_name, gm_is_habit, gp_is_habit, gt_is_habit, gx_Kitchen___init____0, gx_Kitchen___init____1, gm_Kitchen___init__, gp_Kitchen___init__, gt_Kitchen___init__, gm_Kitchen_sink_size, gp_Kitchen_sink_size, gt_Kitchen_sink_size, gm_Kitchen_habits, gp_Kitchen_habits, gt_Kitchen_habits, gx_round_cups__5, gx_round_cups__4, gm_round_cups, gp_round_cups, gt_round_cups, gm_greatest_common_divisor, gp_greatest_common_divisor, gt_greatest_common_divisor, gm_Kitchen_mugs, gp_Kitchen_mugs, gt_Kitchen_mugs, gm_put_back, gp_put_back, gt_put_back, gm_inverse_of, gp_inverse_of, gt_inverse_of, gx_map_of__6, gx_map_of__7, gm_map_of, gp_map_of, gt_map_of, gm_cycles_of, gp_cycles_of, gt_cycles_of, gx_names_by_offset__3, gx_names_by_offset__5, gx_names_by_offset__10, gx_names_by_offset__4, gx_names_by_offset__8, gx_names_by_offset__9, gm_names_by_offset, gp_names_by_offset, gt_names_by_offset, gx_first_difference__10, gx_first_difference__11, gx_first_difference__12, gm_first_difference, gp_first_difference, gt_first_difference, gx_law__14, gx_law__15, gx_law__17, gx_law__19, gx_law__18, gx_law__21, gx_law__2, gx_law__13, gn_law__0, gm_law, gp_law, gt_law, ↓y_nil, ↓y_cons, ↓y_pass, ↓y_brk, ↓y_cnt, ↓y_never, ↓y_expr, ↓y_ret, ↓y_retN, ↓y_asg, ↓y_aug, ↓y_ifs, ↓y_whl, ↓y_forr, ↓y_sti, ↓y_stf, ↓x_var, ↓x_cst, ↓x_bop, ↓x_neg, ↓x_cmp, ↓x_chn, ↓x_and, ↓x_or, ↓x_not, ↓x_ite, ↓x_tup, ↓x_lst, ↓x_ix, ↓x_sl, ↓x_rsl, ↓x_cal, ↓x_mk, ↓x_bi, ↓x_rgl, ↓x_isi, ↓x_mth, ↓x_omt, ↓x_att, ↓x_cpr, ↓x_nilL, ↓x_consL, ↓x_non, ↓x_some, ↓x_seq, ↓x_rg1, ↓x_rg2, ↓x_enu, ↓x_zip, ↓x_ezp, ↓y_body, ↓x_turn, ↓x_lgn, ↓x_sst, ↓v_nil, ↓v_plain, ↓v_yld, ↓v_forr, ↓v_whl, ↓v_body, ↓y_forg, ↓c_nil, ↓c_plain, ↓c_yld, ↓c_forr, ↓c_whl, ↓c_body, endF_nx, endF_rt, endF_st, plnC_nx, plnC_rt, thnC_nx, thnC_st, itC_fix, outC_nx, outC_ct, outC_bk, outC_rt, yldC_ok, envC2_ok, bndLS_ok, endG_nx, endG_rt, plnG_nx, plnG_rt, thnG_nx, itG_fix, yldG_ok, envG_ok, lgnK_ok, varK_ok, negK_ok, chnK_t, chnK_f, andK_t, andK_f, orK_t, orK_f, notK_ok, iteK_t, iteK_f, rglK_t, rglK_f, mthK_t, omtK_ok, smK_ok, fldK_ok, attK_ok, att2_p, att2_f, cprK_ok, ioK_ok, liveK_ok, seqK_t, seqK_l, seqK_e, seqK_s, seqK_r, rg1K_ok, rg2K_ok, enuK_ok, zipK_ok, ezpK_ok, sqK_nx, sqK_rt, sqK_bk, sqK_ct, sqK_ex, sqK_none, ifK_t, ifK_f, augK_ok, forD_fix, forD_live, compD_fix, compD_live, envK_ok, eltK_ok, cndK_t, cndK_f, envC_ok, w_nm, w_tp, w_tpL, w_nil, setK_ok, w_cons, w_wipe0, w_wipe, w_len0, w_len, gtK_ok, atR_g, atX_g, atSt_g, isK_ok, isR_g, popK_ok, stiK_ok, cls_obj, cls_res, clK_ok, fld_obj, fld_res, flK_ok, ins_obj, ins_res, inK_ok, sfK_ok, stf_res, if_pos, if_neg, List.flatten_cons, List.flatten_nil, Int.reduceToNat, Int.reduceAdd, Int.reduceSub, Int.reduceMul, Int.reduceNeg, Int.reduceLT, Int.reduceLE, Int.reduceEq, Int.toNat_zero, Int.toNat_one, List.length_range', end_rtT, end_rtF, end_nxT, end_nxF, end_ex, bnd_ok, bndL_ok, bndS_ok, bndI_ok, toI_ok, bndSI_ok, q_okP, q_okB, q_consL, q_consK, q_newT, q_newF, Option.map_some, Option.map_none, Option.bind_some, ite_true, ite_false, if_true, if_false, eq_self, Bool.not_true, Bool.not_false, Bool.true_eq_false, Bool.false_eq_true, Nat.reduceLT, Nat.reduceEqDiff, Nat.reduceSub, Nat.reduceAdd, Int.toNat_natCast, List.map_cons, List.map_nil, List.length_cons, List.length_nil, List.replicate_zero, List.replicate_succ, List.cons_append, List.nil_append, List.append_nil, List.append_assoc, List.length_append, List.length_map, List.length_range, List.length_replicate, List.getElem?_cons_zero, List.getElem?_cons_succ, List.set_cons_zero, List.set_cons_succ, Nat.add_zero, Nat.zero_add, q_get0, q_getk, q_set0, q_setk, iN_eq, List.getElem?_map, q_le, q_lt, q_add, q_sub, q_mulr, q_mull, q_mulT, q_fdiv, q_mod, q_pow18, q_pow9, q_pow15, z_addRL, z_addLR, z_addRR, z_addLL, z_addTT, z_addSS, q_rep1, q_cmpLt, q_cmpLe, q_cmpGt, q_cmpGe, q_isN, q_notN, q_nonN, q_nonI, q_nonS, q_nonT, q_nonL, q_nonR, q_nonB, q_nonO, q_eq, q_ne, q_inn, q_nin, q_eqI, q_eqB, cut_lo, cut_hi, cut_lohi, cut_all, cut_him1, q_slT, q_rslT, q_slL, z_slR, z_ixR, ixD_tup, ixD_lst, ixD_ext, q_lenT, q_lenL, q_lenE, z_lenR, q_listT, q_listL, q_listE, z_listR, q_tupT, q_tupL, z_tupR, q_intI, q_intB, q_absI, q_maxII, q_minII, q_allL, z_append, z_extR, z_extL, z_insert, z_pop, z_pop0, z_mtR, q_mtL, q_mtT, z_sti, q_augA, q_augS, q_rngN, fsq_tup, fsq_lst, fsq_ext, atI_natN, atI_nn, ixN_nn, Bool.and_true, Bool.true_and, Bool.and_self, q_dT, q_dF, not_true_eq_false, not_false_eq_true, decide_true, decide_false, isi_non, isi_bl, isi_int, isi_str, isi_tup, isi_lst, isi_ext, List.any_cons, List.any_nil, Bool.or_false, Bool.false_or, Bool.or_true, Bool.true_or, ty_int_int, ty_int_bool, ty_int_str, ty_int_tuple, ty_int_list, ty_int_dict, ty_int_none, ty_bool_int, ty_bool_bool, ty_bool_str, ty_bool_tuple, ty_bool_list, ty_bool_dict, ty_bool_none, ty_str_int, ty_str_bool, ty_str_str, ty_str_tuple, ty_str_list, ty_str_dict, ty_str_none, ty_tuple_int, ty_tuple_bool, ty_tuple_str, ty_tuple_tuple, ty_tuple_list, ty_tuple_dict, ty_tuple_none, ty_list_int, ty_list_bool, ty_list_str, ty_list_tuple, ty_list_list, ty_list_dict, ty_list_none, ty_dict_int, ty_dict_bool, ty_dict_str, ty_dict_tuple, ty_dict_list, ty_dict_dict, ty_dict_none, ty_none_int, ty_none_bool, ty_none_str, ty_none_tuple, ty_none_list, ty_none_dict, ty_none_none] $[$l:location]?)
theorem compV_fix {f : D → List R → Option (Option D × List R)} {k : Nat} {m : List R} {ys : List D} (h : m[k]? = some (.lst ys)) (hf : ∀ x ∈ ys, ∃ o, f x m = some (o, m)) : ∀ (n i : Nat) (acc : List D), ys.length ≤ i + n → compV f k n i acc m = compL f (ys.drop i) acc m
  | n, i, acc, hn => by
    by_cases hi : i < ys.length
    · have e1 : ys[i]? = some ys[i] := List.getElem?_eq_getElem hi
      obtain ⟨n, rfl⟩ : ∃ n', n = n' + 1 := ⟨n - 1, by omega⟩
      obtain ⟨o, ho⟩ := hf ys[i] (List.getElem_mem hi)
      rw [List.drop_eq_getElem_cons hi]
      unfold compV compL
      simp only [h, e1, ho]
      cases o with
      | none => exact compV_fix h hf n (i + 1) acc (by omega)
      | some y =>
        simp only
        rw [compV_fix h hf n (i + 1) (acc ++ [y]) (by omega)]
    · have e1 : ys[i]? = none := List.getElem?_eq_none (by omega)
      rw [List.drop_eq_nil_of_le (by omega)]
      unfold compV compL
      simp only [h, e1]
theorem pm_succ {hs : List (List Nat)} {n t : Nat} {h : List Nat} (e : hs[t % hs.length]? = some h) : pm hs n (t + 1) = fol (pm hs n t) (mp n h) := by
  unfold pm
  rw [rr_succ e, pmf_app]
  rfl
theorem pm_zero (hs : List (List Nat)) (n : Nat) : pm hs n 0 = List.range n := by
  unfold pm rr pmf
  simp
theorem spots_succ (hs : List (List Nat)) (n : Nat) {s : Nat} (h0 : 0 < s) (W : Nat) : (List.range (s * W)).map (spot hs n s) ++ (List.range s).map (fun p => (pm hs n W).idxOf p) = (List.range (s * (W + 1))).map (spot hs n s) := by
  rw [Nat.mul_succ, range_add, List.map_append, List.map_map]
  congr 1
  refine List.map_congr_left fun p hp => ?_
  have hp := List.mem_range.mp hp
  show _ = spot hs n s (s * W + p)
  unfold spot
  rw [Nat.mul_add_div h0, Nat.div_eq_of_lt hp, Nat.mul_add_mod, Nat.mod_eq_of_lt hp, Nat.add_zero]
/-- the mugs of an offset, block by block -/
def ringD (hs : List (List Nat)) (n s j : Nat) (M : Nat → Str) (o : Nat) : D := .lst ((List.range (len hs n s j o)).map fun t => D.str (M (t * (s * (hs.length * j)) + o)))
theorem names_by_offset {ns : List Str} {s : Nat} {hs : List (List Nat)} (j : Nat) (m : List R) (ok : KOk ns s hs) (hB : s * (hs.length * j) ≤ 4000) (M : Nat → Str) (hM : ∀ k, mugAt hs s k ns = some (M k)) :
    F_names_by_offset [kD ns hs, .int ((s * (hs.length * j) : Nat) : Int)] m = some (.ok (.lst ((List.range (s * (hs.length * j))).map (ringD hs ns.length s j M))) m) := by
  have hl := ok.hl
  have hs1 := ok.s1
  obtain ⟨n2, n12, nd, st, hh1, h6, hab⟩ := id ok
  have e1 := fun m => round_cups m ok
  have e2 := fun m => k_sink ns s hs m ok.h1 (fun h hh => (ok.hab h hh).1)
  have q1 : ((s * (hs.length * j) : Nat) : Int) / ((s * hs.length : Nat) : Int) = (j : Int) := by
    have : s * (hs.length * j) = s * hs.length * j := (Nat.mul_assoc _ _ _).symm
    rw [this, ← Int.natCast_ediv, Nat.mul_div_cancel_left _ (Nat.mul_pos (by omega) (by omega))]
  have hpos : 0 < s * hs.length := Nat.mul_pos (by omega) (by omega)
  have hsl : s * hs.length ≤ 12 * 6 := Nat.mul_le_mul (by omega) h6
  have hj4 : j ≤ 4000 := Nat.le_trans (Nat.le_trans (Nat.le_mul_of_pos_left j hpos) (by rw [Nat.mul_assoc]; exact Nat.le_refl _)) hB
  simp! [eq_self, F_names_by_offset, b_names_by_offset, N_names_by_offset, runD_eq, runG_eq, runFor_eq, cls_kD, prop_mugs, prop_sink_size, prop_habits, k_mugs, k_habits, noX_okk, e1, e2, q1]
  generalize hX : forF _ _ _ _ = X
  have hF := forF_gen hX
  clear hX
  obtain ⟨ρ', m', rfl, u7, u8, u9, u10, rfl, rfl⟩ := hF (fun t ρ m' => ∃ u7 u8 u9 u10, ρ = [some (kD ns hs), some (.int ((s * (hs.length * j) : Nat) : Int)), some (.int (ns.length : Int)), some (.int (s : Int)), some (.int (j : Int)), some (.lst ((pm hs ns.length (hs.length * t)).map iN)), some (.res m.length), u7, u8, u9, u10, none, none, none, none] ∧ m' = m ++ [.lst (((List.range (s * (hs.length * t))).map (spot hs ns.length s)).map iN)]) ⟨_, _, _, _, by rw [Nat.mul_zero, pm_zero], by rw [Nat.mul_zero, Nat.mul_zero]; rfl⟩ (by
    rintro t x ρ m' hx ⟨u7, u8, u9, u10, rfl, rfl⟩
    have ht : t < j := by
      have := (List.getElem?_eq_some_iff.mp hx).1
      simpa using this
    generalize hA : bodyD _ _ _ _ _ = A
    simp! [eq_self, b_names_by_offset_1, cls_kD, prop_habits, k_habits, noX_okk] at hA
    generalize hX : forF _ _ _ _ = X at hA
    have hF := forF_gen hX
    clear hX
    obtain ⟨ρ', m', rfl, v8, v9, v10, rfl, rfl⟩ := hF (fun i ρ m' => ∃ v8 v9 v10, ρ = [some (kD ns hs), some (.int ((s * (hs.length * j) : Nat) : Int)), some (.int (ns.length : Int)), some (.int (s : Int)), some (.int (j : Int)), some (.lst ((pm hs ns.length (hs.length * t + i)).map iN)), some (.res m.length), some x, v8, v9, v10, none, none, none, none] ∧ m' = m ++ [.lst (((List.range (s * (hs.length * t + i))).map (spot hs ns.length s)).map iN)]) ⟨_, _, _, rfl, rfl⟩ (by
      rintro i y ρ m' hy ⟨v8, v9, v10, rfl, rfl⟩
      rw [List.getElem?_map] at hy
      cases hh : hs[i]? with
      | none => rw [hh] at hy; cases hy
      | some h =>
        rw [hh] at hy
        cases hy
        have hi := (List.getElem?_eq_some_iff.mp hh).1
        have hm := List.mem_of_getElem? hh
        have hW : hs[(hs.length * t + i) % hs.length]? = some h := by rw [Nat.mul_add_mod, Nat.mod_eq_of_lt hi]; exact hh
        have e3 := fun m => map_of (n := ns.length) h m (hl h hm) (by omega) (fun d hd => by have := (hab h hm).d hd; omega)
        have hP := pm_isP hl (hs.length * t + i)
        have hlt : hs.length * t + i < hs.length * j := by
          have : hs.length * t + hs.length ≤ hs.length * j := by rw [← Nat.mul_succ]; exact Nat.mul_le_mul_left _ ht
          omega
        have hsz : s * (hs.length * t + i) + s ≤ s * (hs.length * j) := by rw [← Nat.mul_succ]; exact Nat.mul_le_mul_left _ hlt
        have hps := pm_succ (n := ns.length) hW
        have hss := spots_succ hs ns.length (show 0 < s by omega) (hs.length * t + i)
        generalize hWe : hs.length * t + i = W at *
        have hml : (mp ns.length h).length = ns.length := mp_len (hl h hm)
        generalize hB2 : bodyD _ _ _ _ _ = B2
        unfold hD at hB2
        simp! [eq_self, b_names_by_offset_2] at hB2
        rw [compL_mapA (h := fun p => iN ((pm hs ns.length W).idxOf p)) (List.range s) [] (fun p hp => by
          have hp := List.mem_range.mp hp
          have hz := fun m => z_indexL (m := m) (hP.mem (show p < ns.length by omega))
          simp! [eq_self, hz]) (by rw [sizeLine_eq]; simp; omega), List.nil_append] at hB2
        have hl1 : (((List.range (s * W)).map (spot hs ns.length s)).map iN).length + ((List.range s).map fun p => iN ((pm hs ns.length W).idxOf p)).length ≤ 16000000 := by simp; omega
        simp! [eq_self, e3] at hB2
        rw [compL_mapA (h := fun p => iN ((mp ns.length h)[p]?.getD 0)) (pm hs ns.length W) [] (fun p hp => by
          have hp := hP.lt hp
          obtain ⟨v, hv⟩ := get_ex hml hp
          simp! [eq_self, hv, Option.getD_some]) (by rw [sizeLine_eq, hP.len]; simp; omega), List.nil_append] at hB2
        simp! [eq_self] at hB2
        have t1 : (pm hs ns.length W).map (fun p => D.int (((mp ns.length h)[p]?.getD 0 : Nat) : Int)) = (pm hs ns.length (W + 1)).map iN := by
          rw [hps]
          unfold fol
          rw [List.map_map]
          rfl
        have t2 : ((List.range (s * W)).map (spot hs ns.length s)).map iN ++ (List.range s).map (fun p => D.int (((pm hs ns.length W).idxOf p : Nat) : Int)) = ((List.range (s * (W + 1))).map (spot hs ns.length s)).map iN := by
          rw [← hss, List.map_append, List.map_map, List.map_map]
          rfl
        rw [t1, t2] at hB2
        subst hB2
        have hW1 : hs.length * t + (i + 1) = W + 1 := by omega
        rw [hW1]
        exact ⟨_, _, .inl rfl, _, _, _, rfl, rfl⟩)
    rw [List.length_map] at hA
    simp! [eq_self] at hA
    subst hA
    exact ⟨_, _, .inl rfl, _, _, _, _, rfl, rfl⟩)
  rw [List.length_map, List.length_range]
  have hW2 : bk hs ns.length j = (List.range ns.length).map fun p => (pm hs ns.length (hs.length * j)).idxOf p := by
    unfold bk inv
    rw [(pm_isP hl (hs.length * j)).len]
  have hP := pm_isP hl (hs.length * j)
  have hBP := bk_isP hl j
  have hBl := hBP.len
  have e4 := fun m => cycles_of m hBP (by omega)
  have hsl2 : ∀ o, spot hs ns.length s o < ns.length := fun o => spot_lt hl (by omega) hs1.2 o
  simp! [eq_self]
  rw [compL_mapA (h := fun p => iN ((pm hs ns.length (hs.length * j)).idxOf p)) (List.range ns.length) [] (fun p hp => by
    have hp := List.mem_range.mp hp
    have hz := fun m => z_indexL (m := m) (hP.mem hp)
    simp! [eq_self, hz]) (by rw [sizeLine_eq]; simp; omega), List.nil_append]
  have t3 : (List.range ns.length).map (fun p => iN ((pm hs ns.length (hs.length * j)).idxOf p)) = (bk hs ns.length j).map iN := by
    rw [hW2, List.map_map]
    rfl
  rw [t3]
  simp! [eq_self, e4]
  generalize hBK : bk hs ns.length j = BK at *
  rw [compL_mapA (h := fun p => .lst ((cyc BK p).map fun q => D.str (ns[q]?.getD ⟨#[]⟩))) (List.range ns.length) [] (fun p hp => by
    have hp := List.mem_range.mp hp
    have hcl : (cyc BK p).length ≤ 12 := by
      rw [cyc_len]
      have := (ord_spec hBP hp).2.1
      omega
    simp! [eq_self]
    rw [compL_mapA (h := fun q => D.str (ns[q]?.getD ⟨#[]⟩)) (cyc BK p) [] (fun q hq => by
      have hq2 : q < ns.length := by
        unfold cyc at hq
        obtain ⟨t, _, rfl⟩ := List.mem_map.mp hq
        exact itr_lt hBP hp t
      obtain ⟨v, hv⟩ := get_ex rfl hq2
      simp! [eq_self, cls_kD, prop_mugs, k_mugs, noX_okk, hv, Option.getD_some]) (by rw [sizeLine_eq]; simp; omega), List.nil_append]
    simp! [eq_self]) (by rw [sizeLine_eq]; simp; omega), List.nil_append]
  simp! [eq_self]
  generalize hf : compT _ _ _ _ _ = f
  have hf2 : ∀ o, o < s * (hs.length * j) → f (iN (spot hs ns.length s o)) (m ++ [.lst (((List.range (s * (hs.length * j))).map (spot hs ns.length s)).map iN)]) = some (some (ringD hs ns.length s j M o), m ++ [.lst (((List.range (s * (hs.length * j))).map (spot hs ns.length s)).map iN)]) := fun o ho => by
    have e5 : D.lst ((cyc BK (spot hs ns.length s o)).map fun q => D.str (ns[q]?.getD ⟨#[]⟩)) = ringD hs ns.length s j M o := by
      unfold ringD len cyc
      rw [hBK, List.map_map]
      congr 1
      refine List.map_congr_left fun t _ => ?_
      have := mug_spot (xs := ns) (by omega) hl (show 0 < s by omega) hs1.2 nd j t o
      rw [hM, hBK] at this
      show D.str (ns[itr BK t (spot hs ns.length s o)]?.getD ⟨#[]⟩) = _
      rw [← this]
      rfl
    rw [← hf]
    have hso := hsl2 o
    generalize hS : spot hs ns.length s o = so at *
    simp! [eq_self, List.getElem?_range, hso, e5]
  have hj2 : (m ++ [R.lst (((List.range (s * (hs.length * j))).map (spot hs ns.length s)).map iN)])[m.length]? = some (.lst (((List.range (s * (hs.length * j))).map (spot hs ns.length s)).map iN)) := by simp
  rw [compV_fix hj2 (fun z hz => by
    obtain ⟨v, hv, rfl⟩ := List.mem_map.mp hz
    obtain ⟨o, ho, rfl⟩ := List.mem_map.mp hv
    exact ⟨_, hf2 o (List.mem_range.mp ho)⟩) _ _ _ (by simp), List.drop_zero, List.map_map, compL_mapA (h := ringD hs ns.length s j M) (List.range (s * (hs.length * j))) [] (fun o ho => by
    have := hf2 o (List.mem_range.mp ho)
    rw [List.map_map] at this
    exact this) (by rw [sizeLine_eq]; simp; omega), List.nil_append]
  simp! [eq_self]
  refine fin_app ?_
  rw [okD_lst]
  exact okDL_map (fun o => by
    unfold ringD
    rw [okD_lst]
    exact okDL_map (fun t => okD_str _ _) _) _
end K07


namespace K07
open PySem Dv Mt
local macro_rules
  | `(tactic| simp! [$xs:simpLemma,*] $[$l:location]?) => `(tactic| simp -implicitDefEqProofs (disch := first | omega | assumption | (simp only [List.length_map, List.length_range, List.length_range', List.length_append, List.length_cons, List.length_nil, List.length_replicate, List.length_take, List.length_drop, List.length_set, List.length_reverse, List.length_zip, List.length_eraseIdx]; omega)) only [$xs,*, gm__law_start, gp__law_start, gt__law_start, gm__law_drawn, gp__law_drawn, gt__law_drawn, gx__law_random_names__15, gm__law_random_names, gp__law_random_names, gt__law_random_names, gx__law_random_habit__15, gm__law_random_habit, gp__law_random_habit, gt__law_random_habit, gx__law_random_habits__15, gx__law_random_habits__18, gm__law_random_habits, gp__law_random_habits, gt__law_random_habits, gm__law_washed, gp__law_washed, gt__law_washed, gx__law_played__20, gm__law_played, gp__law_played, gt__law_played, gm_is_name, gp_is_name, gt_is_name, gm_is_habit, gp_is_habit, gt_is_habit, gx_Kitchen___init____0, gx_Kitchen___init____1, gm_Kitchen___init__, gp_Kitchen___init__, gt_Kitchen___init__, gm_Kitchen_sink_size, gp_Kitchen_sink_size, gt_Kitchen_sink_size, gm_Kitchen_habits, gp_Kitchen_habits, gt_Kitchen_habits, gx_round_cups__5, gx_round_cups__4, gm_round_cups, gp_round_cups, gt_round_cups, gm_greatest_common_divisor, gp_greatest_common_divisor, gt_greatest_common_divisor, gm_Kitchen_mugs, gp_Kitchen_mugs, gt_Kitchen_mugs, gm_put_back, gp_put_back, gt_put_back, gm_inverse_of, gp_inverse_of, gt_inverse_of, gx_map_of__6, gx_map_of__7, gm_map_of, gp_map_of, gt_map_of, gm_cycles_of, gp_cycles_of, gt_cycles_of, gx_names_by_offset__3, gx_names_by_offset__5, gx_names_by_offset__10, gx_names_by_offset__4, gx_names_by_offset__8, gx_names_by_offset__9, gm_names_by_offset, gp_names_by_offset, gt_names_by_offset, gx_first_difference__10, gx_first_difference__11, gx_first_difference__12, gm_first_difference, gp_first_difference, gt_first_difference, gx_law__14, gx_law__15, gx_law__17, gx_law__19, gx_law__18, gx_law__21, gx_law__2, gx_law__13, gn_law__0, gm_law, gp_law, gt_law, ↓y_nil, ↓y_cons, ↓y_pass, ↓y_brk, ↓y_cnt, ↓y_never, ↓y_expr, ↓y_ret, ↓y_retN, ↓y_asg, ↓y_aug, ↓y_ifs, ↓y_whl, ↓y_forr, ↓y_sti, ↓y_stf, ↓x_var, ↓x_cst, ↓x_bop, ↓x_neg, ↓x_cmp, ↓x_chn, ↓x_and, ↓x_or, ↓x_not, ↓x_ite, ↓x_tup, ↓x_lst, ↓x_ix, ↓x_sl, ↓x_rsl, ↓x_cal, ↓x_mk, ↓x_bi, ↓x_rgl, ↓x_isi, ↓x_mth, ↓x_omt, ↓x_att, ↓x_cpr, ↓x_nilL, ↓x_consL, ↓x_non, ↓x_some, ↓x_seq, ↓x_rg1, ↓x_rg2, ↓x_enu, ↓x_zip, ↓x_ezp, ↓y_body, ↓x_turn, ↓x_lgn, ↓x_sst, ↓v_nil, ↓v_plain, ↓v_yld, ↓v_forr, ↓v_whl, ↓v_body, ↓y_forg, ↓c_nil, ↓c_plain, ↓c_yld, ↓c_forr, ↓c_whl, ↓c_body, endF_nx, endF_rt, endF_st, plnC_nx, plnC_rt, thnC_nx, thnC_st, itC_fix, outC_nx, outC_ct, outC_bk, outC_rt, yldC_ok, envC2_ok, bndLS_ok, endG_nx, endG_rt, plnG_nx, plnG_rt, thnG_nx, itG_fix, yldG_ok, envG_ok, lgnK_ok, varK_ok, negK_ok, chnK_t, chnK_f, andK_t, andK_f, orK_t, orK_f, notK_ok, iteK_t, iteK_f, rglK_t, rglK_f, mthK_t, omtK_ok, smK_ok, fldK_ok, attK_ok, att2_p, att2_f, cprK_ok, ioK_ok, liveK_ok, seqK_t, seqK_l, seqK_e, seqK_s, seqK_r, rg1K_ok, rg2K_ok, enuK_ok, zipK_ok, ezpK_ok, sqK_nx, sqK_rt, sqK_bk, sqK_ct, sqK_ex, sqK_none, ifK_t, ifK_f, augK_ok, forD_fix, forD_live, compD_fix, compD_live, envK_ok, eltK_ok, cndK_t, cndK_f, envC_ok, w_nm, w_tp, w_tpL, w_nil, setK_ok, w_cons, w_wipe0, w_wipe, w_len0, w_len, gtK_ok, atR_g, atX_g, atSt_g, isK_ok, isR_g, popK_ok, stiK_ok, cls_obj, cls_res, clK_ok, fld_obj, fld_res, flK_ok, ins_obj, ins_res, inK_ok, sfK_ok, stf_res, if_pos, if_neg, List.flatten_cons, List.flatten_nil, Int.reduceToNat, Int.reduceAdd, Int.reduceSub, Int.reduceMul, Int.reduceNeg, Int.reduceLT, Int.reduceLE, Int.reduceEq, Int.toNat_zero, Int.toNat_one, List.length_range', end_rtT, end_rtF, end_nxT, end_nxF, end_ex, bnd_ok, bndL_ok, bndS_ok, bndI_ok, toI_ok, bndSI_ok, q_okP, q_okB, q_consL, q_consK, q_newT, q_newF, Option.map_some, Option.map_none, Option.bind_some, ite_true, ite_false, if_true, if_false, eq_self, Bool.not_true, Bool.not_false, Bool.true_eq_false, Bool.false_eq_true, Nat.reduceLT, Nat.reduceEqDiff, Nat.reduceSub, Nat.reduceAdd, Int.toNat_natCast, List.map_cons, List.map_nil, List.length_cons, List.length_nil, List.replicate_zero, List.replicate_succ, List.cons_append, List.nil_append, List.append_nil, List.append_assoc, List.length_append, List.length_map, List.length_range, List.length_replicate, List.getElem?_cons_zero, List.getElem?_cons_succ, List.set_cons_zero, List.set_cons_succ, Nat.add_zero, Nat.zero_add, q_get0, q_getk, q_set0, q_setk, iN_eq, List.getElem?_map, q_le, q_lt, q_add, q_sub, q_mulr, q_mull, q_mulT, q_fdiv, q_mod, q_pow18, q_pow9, q_pow15, z_addRL, z_addLR, z_addRR, z_addLL, z_addTT, z_addSS, q_rep1, q_cmpLt, q_cmpLe, q_cmpGt, q_cmpGe, q_isN, q_notN, q_nonN, q_nonI, q_nonS, q_nonT, q_nonL, q_nonR, q_nonB, q_nonO, q_eq, q_ne, q_inn, q_nin, q_eqI, q_eqB, cut_lo, cut_hi, cut_lohi, cut_all, cut_him1, q_slT, q_rslT, q_slL, z_slR, z_ixR, ixD_tup, ixD_lst, ixD_ext, q_lenT, q_lenL, q_lenE, z_lenR, q_listT, q_listL, q_listE, z_listR, q_tupT, q_tupL, z_tupR, q_intI, q_intB, q_absI, q_maxII, q_minII, q_allL, z_append, z_extR, z_extL, z_insert, z_pop, z_pop0, z_mtR, q_mtL, q_mtT, z_sti, q_augA, q_augS, q_rngN, fsq_tup, fsq_lst, fsq_ext, atI_natN, atI_nn, ixN_nn, Bool.and_true, Bool.true_and, Bool.and_self, q_dT, q_dF, not_true_eq_false, not_false_eq_true, decide_true, decide_false, isi_non, isi_bl, isi_int, isi_str, isi_tup, isi_lst, isi_ext, List.any_cons, List.any_nil, Bool.or_false, Bool.false_or, Bool.or_true, Bool.true_or, ty_int_int, ty_int_bool, ty_int_str, ty_int_tuple, ty_int_list, ty_int_dict, ty_int_none, ty_bool_int, ty_bool_bool, ty_bool_str, ty_bool_tuple, ty_bool_list, ty_bool_dict, ty_bool_none, ty_str_int, ty_str_bool, ty_str_str, ty_str_tuple, ty_str_list, ty_str_dict, ty_str_none, ty_tuple_int, ty_tuple_bool, ty_tuple_str, ty_tuple_tuple, ty_tuple_list, ty_tuple_dict, ty_tuple_none, ty_list_int, ty_list_bool, ty_list_str, ty_list_tuple, ty_list_list, ty_list_dict, ty_list_none, ty_dict_int, ty_dict_bool, ty_dict_str, ty_dict_tuple, ty_dict_list, ty_dict_dict, ty_dict_none, ty_none_int, ty_none_bool, ty_none_str, ty_none_tuple, ty_none_list, ty_none_dict, ty_none_none] $[$l:location]?)
theorem gcd_loop : ∀ (n a b : Nat) (m : List R), b < n → b < 1000000 → a < 1000000 → whlD (evE g_greatest_common_divisor (.cmp .ne (.var 1) (.cst (.int 0)))) (evSs g_greatest_common_divisor b_greatest_common_divisor_1) n [some (.int (a : Int)), some (.int (b : Int))] m = some (.nx [some (.int (Nat.gcd a b : Int)), some (.int 0)] m)
  | 0, a, b, m, h, _, _ => by omega
  | n + 1, a, b, m, h, hb, ha => by
    by_cases h0 : b = 0
    · subst h0
      rw [Nat.gcd_zero_right]
      unfold whlD
      simp! [eq_self]
      rfl
    · have hlt := Nat.mod_lt a (show 0 < b by omega)
      have ih := gcd_loop n b (a % b) m (by omega) (by omega) hb
      have e : Nat.gcd a b = Nat.gcd b (a % b) := by rw [Nat.gcd_comm a b, Nat.gcd_rec b a, Nat.gcd_comm]
      rw [e, ← ih]
      have q : ((a : Int) % (b : Int)) = ((a % b : Nat) : Int) := by simp
      have q0 : ¬ ((b : Int) = 0) := by omega
      conv => lhs; unfold whlD
      simp! [eq_self, b_greatest_common_divisor_1, q0, q]
theorem gcd_of (a b : Nat) (m : List R) (hb : b < 90000) (ha : a < 90000) : F_greatest_common_divisor [.int (a : Int), .int (b : Int)] m = some (.ok (.int (Nat.gcd a b : Int)) m) := by
  have e := gcd_loop 100000 a b m (by omega) (by omega) (by omega)
  simp! [eq_self, F_greatest_common_divisor, b_greatest_common_divisor, N_greatest_common_divisor, runD_eq, runG_eq, runFor_eq, e]
  exact fin_self rfl
theorem forF_find {t : D → Ro → List R → Option SO} {m : List R} (b : Nat → Bool) (m2 : Nat → List R) (P : Ro → Prop) : ∀ (xs : List Nat) (ρ : Ro), P ρ → (∀ k ∈ xs, ∀ ρ, P ρ → b k = false → ∃ ρ', t (iN k) ρ m = some (.nx ρ' m) ∧ P ρ') → (∀ k ∈ xs, ∀ ρ, P ρ → b k = true → ∃ ρ', t (iN k) ρ m = some (.bk ρ' (m2 k)) ∧ P ρ') →
    ∃ ρ', forF t (xs.map iN) ρ m = some (.nx ρ' (match xs.find? b with | some k => m2 k | none => m)) ∧ P ρ'
  | [], ρ, h, _, _ => ⟨ρ, rfl, h⟩
  | k :: xs, ρ, h, hn, hy => by
    cases hb : b k with
    | true =>
      obtain ⟨ρ', e, h'⟩ := hy k List.mem_cons_self ρ h hb
      refine ⟨ρ', ?_, h'⟩
      rw [List.map_cons, List.find?_cons, hb]
      unfold forF
      rw [e]
    | false =>
      obtain ⟨ρ', e, h'⟩ := hn k List.mem_cons_self ρ h hb
      obtain ⟨ρ2, e2, h2⟩ := forF_find b m2 P xs ρ' h' (fun k hk => hn k (List.mem_cons_of_mem _ hk)) (fun k hk => hy k (List.mem_cons_of_mem _ hk))
      refine ⟨ρ2, ?_, h2⟩
      rw [List.map_cons, List.find?_cons, hb]
      conv => lhs; unfold forF
      rw [e]
      exact e2
/-- the first differences by offset -/
def fst1 (B : Nat) (l1 l2 : Nat → Nat) (M1 M2 : Nat → Str) (o : Nat) : Option Nat := (List.range (l1 o * l2 o)).find? fun t => !decide (M1 (t * B + o) = M2 (t * B + o))
def fsts (B : Nat) (l1 l2 : Nat → Nat) (M1 M2 : Nat → Str) (n : Nat) : List Nat := (List.range n).filterMap fun o => (fst1 B l1 l2 M1 M2 o).map fun t => t * B + o + 1
section
variable {B : Nat} {l1 l2 : Nat → Nat} {M1 M2 : Nat → Str} (hB : 0 < B) (p1 : ∀ o, 0 < l1 o) (p2 : ∀ o, 0 < l2 o) (c1 : ∀ t o, M1 (t % l1 o * B + o) = M1 (t * B + o)) (c2 : ∀ t o, M2 (t % l2 o * B + o) = M2 (t * B + o))
theorem fsts_no (h : ∀ k, M1 k = M2 k) (n : Nat) : fsts B l1 l2 M1 M2 n = [] := by
  unfold fsts
  refine List.filterMap_eq_nil_iff.mpr fun o _ => ?_
  unfold fst1
  rw [List.find?_eq_none.mpr fun t _ => by rw [h]; simp]
  rfl
theorem fsts_diff {n v : Nat} (hv : v ∈ fsts B l1 l2 M1 M2 n) : ∃ k, v = k + 1 ∧ M1 k ≠ M2 k := by
  unfold fsts at hv
  obtain ⟨o, ho, e⟩ := List.mem_filterMap.mp hv
  unfold fst1 at e
  cases hf : (List.range (l1 o * l2 o)).find? (fun t => !decide (M1 (t * B + o) = M2 (t * B + o))) with
  | none => rw [hf] at e; cases e
  | some t =>
    rw [hf] at e
    have := List.find?_some hf
    refine ⟨t * B + o, (Option.some.inj e).symm, ?_⟩
    simpa using this
include hB p1 p2 c1 c2
theorem fsts_mem {k : Nat} (hk : M1 k ≠ M2 k) (hmin : ∀ i, i < k → M1 i = M2 i) : k + 1 ∈ fsts B l1 l2 M1 M2 B ∧ k / B < l1 (k % B) * l2 (k % B) := by
  have hm := Nat.mod_lt k hB
  have hkd : k / B * B + k % B = k := by rw [Nat.mul_comm]; exact Nat.div_add_mod k B
  generalize hL : l1 (k % B) * l2 (k % B) = L
  have hL0 : 0 < L := by rw [← hL]; exact Nat.mul_pos (p1 _) (p2 _)
  have hd : M1 (k / B % L * B + k % B) ≠ M2 (k / B % L * B + k % B) := by
    have e1 := c1 (k / B % L) (k % B)
    have e2 := c2 (k / B % L) (k % B)
    have e3 := c1 (k / B) (k % B)
    have e4 := c2 (k / B) (k % B)
    rw [← hL, Nat.mod_mul_right_mod] at e1
    rw [← hL, Nat.mod_mul_left_mod] at e2
    rw [← hL, ← e1, ← e2, e3, e4, hkd]
    exact hk
  have hlt : k / B < L := by
    apply Classical.byContradiction
    intro hn
    have h1 : k / B % L < k / B := Nat.lt_of_lt_of_le (Nat.mod_lt _ hL0) (by omega)
    have h2 : k / B % L * B + k % B < k := by
      have : (k / B % L + 1) * B ≤ k / B * B := Nat.mul_le_mul_right _ h1
      rw [Nat.add_mul] at this
      omega
    exact hd (hmin _ h2)
  refine ⟨?_, hlt⟩
  unfold fsts
  refine List.mem_filterMap.mpr ⟨k % B, List.mem_range.mpr hm, ?_⟩
  unfold fst1
  rw [hL]
  cases hf : (List.range L).find? (fun t => !decide (M1 (t * B + k % B) = M2 (t * B + k % B))) with
  | none =>
    have := List.find?_eq_none.mp hf (k / B) (List.mem_range.mpr hlt)
    rw [hkd] at this
    simp [hk] at this
  | some t =>
    have h1 := List.find?_some hf
    have h2 : M1 (t * B + k % B) ≠ M2 (t * B + k % B) := by simpa using h1
    have h3 : ¬ t * B + k % B < k := fun h => h2 (hmin _ h)
    have h4 : t ≤ k / B := by
      apply Classical.byContradiction
      intro hn
      obtain ⟨h5, h6, h7⟩ := List.find?_range_eq_some.mp hf
      have h8 := h7 (k / B) (by omega)
      rw [hkd] at h8
      simp [hk] at h8
    have h5 : t = k / B := by
      apply Classical.byContradiction
      intro hn
      have : (t + 1) * B ≤ k / B * B := Nat.mul_le_mul_right _ (by omega)
      rw [Nat.add_mul] at this
      omega
    show some (t * B + k % B + 1) = some (k + 1)
    rw [h5, hkd]
theorem fsts_lcm {k : Nat} (hk : M1 k ≠ M2 k) (hmin : ∀ i, i < k → M1 i = M2 i) : k / B < Nat.lcm (l1 (k % B)) (l2 (k % B)) := by
  have hm := Nat.mod_lt k hB
  have hkd : k / B * B + k % B = k := by rw [Nat.mul_comm]; exact Nat.div_add_mod k B
  generalize hL : Nat.lcm (l1 (k % B)) (l2 (k % B)) = L
  have hL0 : 0 < L := by rw [← hL]; exact Nat.lcm_pos (p1 _) (p2 _)
  have hd1 : l1 (k % B) ∣ L := by rw [← hL]; exact Nat.dvd_lcm_left _ _
  have hd2 : l2 (k % B) ∣ L := by rw [← hL]; exact Nat.dvd_lcm_right _ _
  have hd : M1 (k / B % L * B + k % B) ≠ M2 (k / B % L * B + k % B) := by
    have e1 := c1 (k / B % L) (k % B)
    have e2 := c2 (k / B % L) (k % B)
    have e3 := c1 (k / B) (k % B)
    have e4 := c2 (k / B) (k % B)
    rw [Nat.mod_mod_of_dvd _ hd1] at e1
    rw [Nat.mod_mod_of_dvd _ hd2] at e2
    rw [← e1, ← e2, e3, e4, hkd]
    exact hk
  apply Classical.byContradiction
  intro hn
  have h1 : k / B % L < k / B := Nat.lt_of_lt_of_le (Nat.mod_lt _ hL0) (by omega)
  have h2 : k / B % L * B + k % B < k := by
    have : (k / B % L + 1) * B ≤ k / B * B := Nat.mul_le_mul_right _ h1
    rw [Nat.add_mul] at this
    omega
  exact hd (hmin _ h2)
end
theorem fsts_len (B : Nat) (l1 l2 : Nat → Nat) (M1 M2 : Nat → Str) (n : Nat) : (fsts B l1 l2 M1 M2 n).length ≤ n := by
  unfold fsts
  refine Nat.le_trans (List.length_filterMap_le _ _) ?_
  rw [List.length_range]
  exact Nat.le_refl _
theorem fsts_succ (B : Nat) (l1 l2 : Nat → Nat) (M1 M2 : Nat → Str) (n : Nat) : fsts B l1 l2 M1 M2 (n + 1) = fsts B l1 l2 M1 M2 n ++ (match fst1 B l1 l2 M1 M2 n with | some t => [t * B + n + 1] | none => []) := by
  unfold fsts
  rw [List.range_succ, List.filterMap_append]
  congr 1
  cases h : fst1 B l1 l2 M1 M2 n <;> simp [h]
theorem enu_zip (N : Nat) (f g : Nat → D) : enuD (zipD ((List.range N).map f) ((List.range N).map g)) = (List.range N).map fun o => .tup [.int (o : Int), .tup [f o, g o]] := by
  refine List.ext_getElem? fun i => ?_
  unfold enuD zipD
  rw [List.getElem?_map, List.getElem?_zipIdx, List.getElem?_map, List.getElem?_map]
  by_cases hi : i < N
  · have h1 : ((List.range N).map f)[i]? = some (f i) := by rw [List.getElem?_map, List.getElem?_range hi]; rfl
    have h2 : ((List.range N).map g)[i]? = some (g i) := by rw [List.getElem?_map, List.getElem?_range hi]; rfl
    rw [(List.getElem?_zip_eq_some (z := (f i, g i))).mpr ⟨h1, h2⟩, List.getElem?_range hi]
    simp
  · have h1 : ((List.range N).map f)[i]? = none := by rw [List.getElem?_map, List.getElem?_eq_none (by simp; omega)]; rfl
    rw [List.getElem?_eq_none (l := ((List.range N).map f).zip ((List.range N).map g)) (by simp; omega), List.getElem?_eq_none (l := List.range N) (by simp; omega)]
    rfl
end K07


namespace K07
open PySem Dv Mt
local macro_rules
  | `(tactic| simp! [$xs:simpLemma,*] $[$l:location]?) => `(tactic| simp -implicitDefEqProofs (disch := first | omega | assumption | (simp only [List.length_map, List.length_range, List.length_range', List.length_append, List.length_cons, List.length_nil, List.length_replicate, List.length_take, List.length_drop, List.length_set, List.length_reverse, List.length_zip, List.length_eraseIdx]; omega)) only [$xs,*, gm__law_start, gp__law_start, gt__law_start, gm__law_drawn, gp__law_drawn, gt__law_drawn, gx__law_random_names__15, gm__law_random_names, gp__law_random_names, gt__law_random_names, gx__law_random_habit__15, gm__law_random_habit, gp__law_random_habit, gt__law_random_habit, gx__law_random_habits__15, gx__law_random_habits__18, gm__law_random_habits, gp__law_random_habits, gt__law_random_habits, gm__law_washed, gp__law_washed, gt__law_washed, gx__law_played__20, gm__law_played, gp__law_played, gt__law_played, gm_is_name, gp_is_name, gt_is_name, gm_is_habit, gp_is_habit, gt_is_habit, gx_Kitchen___init____0, gx_Kitchen___init____1, gm_Kitchen___init__, gp_Kitchen___init__, gt_Kitchen___init__, gm_Kitchen_sink_size, gp_Kitchen_sink_size, gt_Kitchen_sink_size, gm_Kitchen_habits, gp_Kitchen_habits, gt_Kitchen_habits, gx_round_cups__5, gx_round_cups__4, gm_round_cups, gp_round_cups, gt_round_cups, gm_greatest_common_divisor, gp_greatest_common_divisor, gt_greatest_common_divisor, gm_Kitchen_mugs, gp_Kitchen_mugs, gt_Kitchen_mugs, gm_put_back, gp_put_back, gt_put_back, gm_inverse_of, gp_inverse_of, gt_inverse_of, gx_map_of__6, gx_map_of__7, gm_map_of, gp_map_of, gt_map_of, gm_cycles_of, gp_cycles_of, gt_cycles_of, gx_names_by_offset__3, gx_names_by_offset__5, gx_names_by_offset__10, gx_names_by_offset__4, gx_names_by_offset__8, gx_names_by_offset__9, gm_names_by_offset, gp_names_by_offset, gt_names_by_offset, gx_first_difference__10, gx_first_difference__11, gx_first_difference__12, gm_first_difference, gp_first_difference, gt_first_difference, gx_law__14, gx_law__15, gx_law__17, gx_law__19, gx_law__18, gx_law__21, gx_law__2, gx_law__13, gn_law__0, gm_law, gp_law, gt_law, ↓y_nil, ↓y_cons, ↓y_pass, ↓y_brk, ↓y_cnt, ↓y_never, ↓y_expr, ↓y_ret, ↓y_retN, ↓y_asg, ↓y_aug, ↓y_ifs, ↓y_whl, ↓y_forr, ↓y_sti, ↓y_stf, ↓x_var, ↓x_cst, ↓x_bop, ↓x_neg, ↓x_cmp, ↓x_chn, ↓x_and, ↓x_or, ↓x_not, ↓x_ite, ↓x_tup, ↓x_lst, ↓x_ix, ↓x_sl, ↓x_rsl, ↓x_cal, ↓x_mk, ↓x_bi, ↓x_rgl, ↓x_isi, ↓x_mth, ↓x_omt, ↓x_att, ↓x_cpr, ↓x_nilL, ↓x_consL, ↓x_non, ↓x_some, ↓x_seq, ↓x_rg1, ↓x_rg2, ↓x_enu, ↓x_zip, ↓x_ezp, ↓y_body, ↓x_turn, ↓x_lgn, ↓x_sst, ↓v_nil, ↓v_plain, ↓v_yld, ↓v_forr, ↓v_whl, ↓v_body, ↓y_forg, ↓c_nil, ↓c_plain, ↓c_yld, ↓c_forr, ↓c_whl, ↓c_body, endF_nx, endF_rt, endF_st, plnC_nx, plnC_rt, thnC_nx, thnC_st, itC_fix, outC_nx, outC_ct, outC_bk, outC_rt, yldC_ok, envC2_ok, bndLS_ok, endG_nx, endG_rt, plnG_nx, plnG_rt, thnG_nx, itG_fix, yldG_ok, envG_ok, lgnK_ok, varK_ok, negK_ok, chnK_t, chnK_f, andK_t, andK_f, orK_t, orK_f, notK_ok, iteK_t, iteK_f, rglK_t, rglK_f, mthK_t, omtK_ok, smK_ok, fldK_ok, attK_ok, att2_p, att2_f, cprK_ok, ioK_ok, liveK_ok, seqK_t, seqK_l, seqK_e, seqK_s, seqK_r, rg1K_ok, rg2K_ok, enuK_ok, zipK_ok, ezpK_ok, sqK_nx, sqK_rt, sqK_bk, sqK_ct, sqK_ex, sqK_none, ifK_t, ifK_f, augK_ok, forD_fix, forD_live, compD_fix, compD_live, envK_ok, eltK_ok, cndK_t, cndK_f, envC_ok, w_nm, w_tp, w_tpL, w_nil, setK_ok, w_cons, w_wipe0, w_wipe, w_len0, w_len, gtK_ok, atR_g, atX_g, atSt_g, isK_ok, isR_g, popK_ok, stiK_ok, cls_obj, cls_res, clK_ok, fld_obj, fld_res, flK_ok, ins_obj, ins_res, inK_ok, sfK_ok, stf_res, if_pos, if_neg, List.flatten_cons, List.flatten_nil, Int.reduceToNat, Int.reduceAdd, Int.reduceSub, Int.reduceMul, Int.reduceNeg, Int.reduceLT, Int.reduceLE, Int.reduceEq, Int.toNat_zero, Int.toNat_one, List.length_range', end_rtT, end_rtF, end_nxT, end_nxF, end_ex, bnd_ok, bndL_ok, bndS_ok, bndI_ok, toI_ok, bndSI_ok, q_okP, q_okB, q_consL, q_consK, q_newT, q_newF, Option.map_some, Option.map_none, Option.bind_some, ite_true, ite_false, if_true, if_false, eq_self, Bool.not_true, Bool.not_false, Bool.true_eq_false, Bool.false_eq_true, Nat.reduceLT, Nat.reduceEqDiff, Nat.reduceSub, Nat.reduceAdd, Int.toNat_natCast, List.map_cons, List.map_nil, List.length_cons, List.length_nil, List.replicate_zero, List.replicate_succ, List.cons_append, List.nil_append, List.append_nil, List.append_assoc, List.length_append, List.length_map, List.length_range, List.length_replicate, List.getElem?_cons_zero, List.getElem?_cons_succ, List.set_cons_zero, List.set_cons_succ, Nat.add_zero, Nat.zero_add, q_get0, q_getk, q_set0, q_setk, iN_eq, List.getElem?_map, q_le, q_lt, q_add, q_sub, q_mulr, q_mull, q_mulT, q_fdiv, q_mod, q_pow18, q_pow9, q_pow15, z_addRL, z_addLR, z_addRR, z_addLL, z_addTT, z_addSS, q_rep1, q_cmpLt, q_cmpLe, q_cmpGt, q_cmpGe, q_isN, q_notN, q_nonN, q_nonI, q_nonS, q_nonT, q_nonL, q_nonR, q_nonB, q_nonO, q_eq, q_ne, q_inn, q_nin, q_eqI, q_eqB, cut_lo, cut_hi, cut_lohi, cut_all, cut_him1, q_slT, q_rslT, q_slL, z_slR, z_ixR, ixD_tup, ixD_lst, ixD_ext, q_lenT, q_lenL, q_lenE, z_lenR, q_listT, q_listL, q_listE, z_listR, q_tupT, q_tupL, z_tupR, q_intI, q_intB, q_absI, q_maxII, q_minII, q_allL, z_append, z_extR, z_extL, z_insert, z_pop, z_pop0, z_mtR, q_mtL, q_mtT, z_sti, q_augA, q_augS, q_rngN, fsq_tup, fsq_lst, fsq_ext, atI_natN, atI_nn, ixN_nn, Bool.and_true, Bool.true_and, Bool.and_self, q_dT, q_dF, not_true_eq_false, not_false_eq_true, decide_true, decide_false, isi_non, isi_bl, isi_int, isi_str, isi_tup, isi_lst, isi_ext, List.any_cons, List.any_nil, Bool.or_false, Bool.false_or, Bool.or_true, Bool.true_or, ty_int_int, ty_int_bool, ty_int_str, ty_int_tuple, ty_int_list, ty_int_dict, ty_int_none, ty_bool_int, ty_bool_bool, ty_bool_str, ty_bool_tuple, ty_bool_list, ty_bool_dict, ty_bool_none, ty_str_int, ty_str_bool, ty_str_str, ty_str_tuple, ty_str_list, ty_str_dict, ty_str_none, ty_tuple_int, ty_tuple_bool, ty_tuple_str, ty_tuple_tuple, ty_tuple_list, ty_tuple_dict, ty_tuple_none, ty_list_int, ty_list_bool, ty_list_str, ty_list_tuple, ty_list_list, ty_list_dict, ty_list_none, ty_dict_int, ty_dict_bool, ty_dict_str, ty_dict_tuple, ty_dict_list, ty_dict_dict, ty_dict_none, ty_none_int, ty_none_bool, ty_none_str, ty_none_tuple, ty_none_list, ty_none_dict, ty_none_none] $[$l:location]?)
theorem least_of {P : Nat → Prop} : ∀ (n k : Nat), k ≤ n → P k → ∃ k0, P k0 ∧ ∀ i, i < k0 → ¬ P i
  | n, k, hk, h => by
    by_cases hex : ∃ i, i < k ∧ P i
    · obtain ⟨i, hi, hp⟩ := hex
      cases n with
      | zero => omega
      | succ n => exact least_of n i (by omega) hp
    · exact ⟨k, h, fun i hi hp => hex ⟨i, hi, hp⟩⟩
theorem min_res {m : List R} {j : Nat} {xs : List Nat} {v : Nat} (h : m[j]? = some (.lst (xs.map iN))) (hv : v ∈ xs) (hm : ∀ u ∈ xs, v ≤ u) : biD .min false m [.res j] = some (.int (v : Int), m) := by
  have e1 : lsq m (.res j) = some ((xs.map fun (n : Nat) => (n : Int)).map .int) := by
    show (match m[j]? with | some (.lst xs) => some xs | _ => none) = _
    rw [h, List.map_map]
    rfl
  have e2 : (xs.map fun (n : Nat) => (n : Int)).min? = some (v : Int) := by
    rw [List.min?_eq_some_iff]
    refine ⟨List.mem_map.mpr ⟨v, hv, rfl⟩, fun b hb => ?_⟩
    obtain ⟨u, hu, rfl⟩ := List.mem_map.mp hb
    have := hm u hu
    omega
  show (match lsq m (.res j) with
      | some xs => match asInts xs with
        | some ns => ns.min?.map fun i => (D.int i, m)
        | none => none
      | none => none) = _
  simp only [e1, asInts_ints, e2]
  rfl
theorem first_difference {ns ms : List Str} {s r : Nat} {hs gs : List (List Nat)} (m : List R) (ok1 : KOk ns s hs) (ok2 : KOk ms r gs) (M1 M2 : Nat → Str) (hM1 : ∀ k, mugAt hs s k ns = some (M1 k)) (hM2 : ∀ k, mugAt gs r k ms = some (M2 k)) (h4 : s * hs.length * (r * gs.length) ≤ 4000) :
    ∃ d, F_first_difference [kD ns hs, kD ms gs] m = some (.ok d m) ∧ ((∀ k, M1 k = M2 k) → d = .non) ∧ ∀ k, M1 k ≠ M2 k → (∀ i, i < k → M1 i = M2 i) → d = .int ((k + 1 : Nat) : Int) ∧ k < Nat.lcm (s * hs.length) (r * gs.length) * (ns.length * ms.length) ∧ ∃ a b, 0 < a ∧ a ≤ ns.length ∧ 0 < b ∧ b ≤ ms.length ∧ k < Nat.lcm (s * hs.length) (r * gs.length) * Nat.lcm a b := by
  have hl1 := ok1.hl
  have hl2 := ok2.hl
  have hs1 := ok1.s1
  have hr1 := ok2.s1
  have hms1 : ∀ k, PyData.strOk (M1 k) = true := fun k => ok1.st _ ((shelfAt_perm hl1).mem_iff.mp (List.mem_of_getElem? (hM1 k)))
  have hms2 : ∀ k, PyData.strOk (M2 k) = true := fun k => ok2.st _ ((shelfAt_perm hl2).mem_iff.mp (List.mem_of_getElem? (hM2 k)))
  have hh1 := ok1.h1
  have hg1 := ok2.h1
  have n12 := ok1.n12
  have m12 := ok2.n12
  have e1 := fun m => round_cups m ok1
  have e2 := fun m => round_cups m ok2
  have b1 : s * hs.length ≤ 12 * 6 := Nat.mul_le_mul (by omega) ok1.h6
  have b2 : r * gs.length ≤ 12 * 6 := Nat.mul_le_mul (by omega) ok2.h6
  have o1 : 0 < s * hs.length := Nat.mul_pos (by omega) (by omega)
  have o2 : 0 < r * gs.length := Nat.mul_pos (by omega) (by omega)
  have e3 := fun m => gcd_of (s * hs.length) (r * gs.length) m (by omega) (by omega)
  obtain ⟨g, hg⟩ : ∃ g, Nat.gcd (s * hs.length) (r * gs.length) = g := ⟨_, rfl⟩
  have g0 : 0 < g := by rw [← hg]; exact Nat.gcd_pos_of_pos_left _ o1
  obtain ⟨j2, hj2⟩ : g ∣ s * hs.length := by rw [← hg]; exact Nat.gcd_dvd_left _ _
  obtain ⟨j1, hj1⟩ : g ∣ r * gs.length := by rw [← hg]; exact Nat.gcd_dvd_right _ _
  rw [hg] at e3
  obtain ⟨B, hB⟩ : ∃ B, j2 * (r * gs.length) = B := ⟨_, rfl⟩
  have hB1 : s * (hs.length * j1) = B := by
    rw [← Nat.mul_assoc, hj2, ← hB, hj1, Nat.mul_comm g j2, Nat.mul_assoc]
  have hB2 : r * (gs.length * j2) = B := by
    rw [← Nat.mul_assoc, ← hB, Nat.mul_comm]
  have hBle : B ≤ s * hs.length * (r * gs.length) := by
    rw [← hB, hj2]
    exact Nat.mul_le_mul_right _ (Nat.le_mul_of_pos_left _ g0)
  have hj20 : 0 < j2 := by
    rcases Nat.eq_zero_or_pos j2 with h | h
    · rw [h, Nat.mul_zero] at hj2; omega
    · exact h
  have hB0 : 0 < B := by rw [← hB]; exact Nat.mul_pos hj20 o2
  have q1 : ((s * hs.length : Nat) : Int) / (g : Int) = (j2 : Int) := by
    rw [← Int.natCast_ediv, hj2, Nat.mul_div_cancel_left _ g0]
  have q2 : (j2 : Int) * ((r * gs.length : Nat) : Int) = (B : Int) := by rw [← hB]; simp
  have e4 := fun m => names_by_offset j1 m ok1 (by omega) M1 hM1
  have e5 := fun m => names_by_offset j2 m ok2 (by omega) M2 hM2
  rw [hB1] at e4
  rw [hB2] at e5
  have l1 := fun o => len_bd hl1 (show 0 < s by omega) hs1.2 j1 o
  have l2 := fun o => len_bd hl2 (show 0 < r by omega) hr1.2 j2 o
  have c1 : ∀ t o, M1 (t % len hs ns.length s j1 o * B + o) = M1 (t * B + o) := fun t o => by
    have := mug_len (xs := ns) (by omega) hl1 (show 0 < s by omega) hs1.2 ok1.nd j1 t o
    rw [hB1, hM1, hM1] at this
    exact Option.some.inj this
  have c2 : ∀ t o, M2 (t % len gs ms.length r j2 o * B + o) = M2 (t * B + o) := fun t o => by
    have := mug_len (xs := ms) (by omega) hl2 (show 0 < r by omega) hr1.2 ok2.nd j2 t o
    rw [hB2, hM2, hM2] at this
    exact Option.some.inj this
  have d1 : ringD hs ns.length s j1 M1 = fun o => .lst ((List.range (len hs ns.length s j1 o)).map fun t => D.str (M1 (t * B + o))) := by
    funext o
    unfold ringD
    rw [hB1]
  have d2 : ringD gs ms.length r j2 M2 = fun o => .lst ((List.range (len gs ms.length r j2 o)).map fun t => D.str (M2 (t * B + o))) := by
    funext o
    unfold ringD
    rw [hB2]
  rw [d1] at e4
  rw [d2] at e5
  generalize hL1 : len hs ns.length s j1 = L1 at *
  generalize hL2 : len gs ms.length r j2 = L2 at *
  have key : ∃ u6 u7 u8 u9, ∀ X, forF (bodyD (.tp (.cons (.nm 6) (.cons (.tp (.cons (.nm 7) (.cons (.nm 8) .nil))) .nil))) (evSs g_first_difference b_first_difference_1)) ((List.range B).map fun (o : Nat) => .tup [.int (o : Int), .tup [.lst ((List.range (L1 o)).map fun t => D.str (M1 (t * B + o))), .lst ((List.range (L2 o)).map fun t => D.str (M2 (t * B + o)))]]) [some (kD ns hs), some (kD ms gs), some (.int ((s * hs.length : Nat) : Int)), some (.int ((r * gs.length : Nat) : Int)), some (.int (B : Int)), some (.res m.length), none, none, none, none] (m ++ [.lst []]) = X →
      X = some (.nx [some (kD ns hs), some (kD ms gs), some (.int ((s * hs.length : Nat) : Int)), some (.int ((r * gs.length : Nat) : Int)), some (.int (B : Int)), some (.res m.length), u6, u7, u8, u9] (m ++ [.lst ((fsts B L1 L2 M1 M2 B).map iN)])) := by
    generalize hX0 : forF _ _ _ _ = X0
    have hF := forF_gen hX0
    obtain ⟨ρ', m', rfl, u6, u7, u8, u9, rfl, rfl⟩ := hF (fun o ρ m' => ∃ u6 u7 u8 u9, ρ = [some (kD ns hs), some (kD ms gs), some (.int ((s * hs.length : Nat) : Int)), some (.int ((r * gs.length : Nat) : Int)), some (.int (B : Int)), some (.res m.length), u6, u7, u8, u9] ∧ m' = m ++ [.lst ((fsts B L1 L2 M1 M2 o).map iN)]) ⟨_, _, _, _, rfl, rfl⟩ (by
      rintro o x ρ m' hx ⟨u6, u7, u8, u9, rfl, rfl⟩
      have ho : o < B := by
        have := (List.getElem?_eq_some_iff.mp hx).1
        simpa using this
      rw [List.getElem?_map, List.getElem?_range ho] at hx
      cases hx
      have hfl := fsts_len B L1 L2 M1 M2 o
      have hla := l1 o
      have hlb := l2 o
      have hLL : L1 o * L2 o ≤ 12 * 12 := Nat.mul_le_mul (by omega) (by omega)
      have q3 : (L1 o : Int) * (L2 o : Int) = ((L1 o * L2 o : Nat) : Int) := by simp
      generalize hA : bodyD _ _ _ _ _ = A
      simp! [eq_self, b_first_difference_1, q3] at hA
      obtain ⟨ρ', e, u9', rfl⟩ := forF_find (m := m ++ [.lst ((fsts B L1 L2 M1 M2 o).map iN)]) (t := bodyD (.nm 9) (evSs g_first_difference b_first_difference_2)) (fun t => !decide (M1 (t * B + o) = M2 (t * B + o))) (fun t => m ++ [.lst ((fsts B L1 L2 M1 M2 o ++ [t * B + o + 1]).map iN)])
        (fun ρ => ∃ u9, ρ = [some (kD ns hs), some (kD ms gs), some (.int ((s * hs.length : Nat) : Int)), some (.int ((r * gs.length : Nat) : Int)), some (.int (B : Int)), some (.res m.length), some (.int (o : Int)), some (.lst ((List.range (L1 o)).map fun t => D.str (M1 (t * B + o)))), some (.lst ((List.range (L2 o)).map fun t => D.str (M2 (t * B + o)))), u9]) (List.range (L1 o * L2 o)) _ ⟨u9, rfl⟩ (by
          rintro t ht ρ ⟨u9, rfl⟩ hb
          have hb : M1 (t * B + o) = M2 (t * B + o) := by simpa using hb
          have q4 : ((t : Int) % (L1 o : Int)) = ((t % L1 o : Nat) : Int) := by simp
          have q5 : ((t : Int) % (L2 o : Int)) = ((t % L2 o : Nat) : Int) := by simp
          have r1 : (List.range (L1 o))[t % L1 o]? = some (t % L1 o) := List.getElem?_range (Nat.mod_lt _ (by omega))
          have r2 : (List.range (L2 o))[t % L2 o]? = some (t % L2 o) := List.getElem?_range (Nat.mod_lt _ (by omega))
          have k1 := c1 t o
          have k2 := c2 t o
          have k3 : ∀ m, eqD m (.str (M2 (t * B + o))) (.str (M2 (t * B + o))) = some true := fun m => eqD_t (pl_str (hms2 _))
          refine ⟨_, ?_, some (iN t), rfl⟩
          simp! [eq_self, b_first_difference_2, q4, q5, r1, r2, k1, k2, hb, k3]) (by
          rintro t ht ρ ⟨u9, rfl⟩ hb
          have hb : M1 (t * B + o) ≠ M2 (t * B + o) := by simpa using hb
          have q4 : ((t : Int) % (L1 o : Int)) = ((t % L1 o : Nat) : Int) := by simp
          have q5 : ((t : Int) % (L2 o : Int)) = ((t % L2 o : Nat) : Int) := by simp
          have q6 : (t : Int) * (B : Int) + (o : Int) + 1 = ((t * B + o + 1 : Nat) : Int) := by simp
          have r1 : (List.range (L1 o))[t % L1 o]? = some (t % L1 o) := List.getElem?_range (Nat.mod_lt _ (by omega))
          have r2 : (List.range (L2 o))[t % L2 o]? = some (t % L2 o) := List.getElem?_range (Nat.mod_lt _ (by omega))
          have k1 := c1 t o
          have k2 := c2 t o
          have k3 : ∀ m, eqD m (.str (M1 (t * B + o))) (.str (M2 (t * B + o))) = some false := fun m => by
            rw [q_eqS (hms1 _) (hms2 _), decide_eq_false hb]
          refine ⟨_, ?_, some (iN t), rfl⟩
          simp! [eq_self, b_first_difference_2, q4, q5, q6, r1, r2, k1, k2, k3, List.map_append])
      rw [e] at hA
      simp! [eq_self] at hA
      subst hA
      refine ⟨_, _, .inl rfl, _, _, _, _, rfl, ?_⟩
      rw [fsts_succ]
      unfold fst1
      cases (List.range (L1 o * L2 o)).find? (fun t => !decide (M1 (t * B + o) = M2 (t * B + o))) with
      | none => simp
      | some t => rfl)
    rw [List.length_map, List.length_range]
    exact ⟨_, _, _, _, fun X h => h.symm⟩
  obtain ⟨u6, u7, u8, u9, hk⟩ := key
  have hfx : ∀ v ∈ fsts B L1 L2 M1 M2 B, ∃ k, v = k + 1 ∧ M1 k ≠ M2 k := fun v hv => fsts_diff hv
  have hfm := fun k hk hmin => fsts_mem (k := k) hB0 (fun o => (l1 o).1) (fun o => (l2 o).1) c1 c2 hk hmin
  have hfl2 := fun k hk hmin => fsts_lcm (k := k) hB0 (fun o => (l1 o).1) (fun o => (l2 o).1) c1 c2 hk hmin
  have hfn := fun h => fsts_no (B := B) (l1 := L1) (l2 := L2) (M1 := M1) (M2 := M2) h B
  have hfl := fsts_len B L1 L2 M1 M2 B
  generalize fsts B L1 L2 M1 M2 B = FS at *
  have ez := enu_zip B (fun o => D.lst ((List.range (L1 o)).map fun t => D.str (M1 (t * B + o)))) (fun o => D.lst ((List.range (L2 o)).map fun t => D.str (M2 (t * B + o))))
  have hj : (m ++ [R.lst (FS.map iN)])[m.length]? = some (.lst (FS.map iN)) := by simp
  have gle : g ≤ s * hs.length := by
    rw [hj2]
    exact Nat.le_mul_of_pos_right _ hj20
  simp! [eq_self, F_first_difference, b_first_difference, N_first_difference, runD_eq, runG_eq, runFor_eq, e1, e2, e3, q1, q2, e4, e5, ez]
  generalize hX : forF _ _ _ _ = X
  obtain rfl := hk _ hX
  by_cases hFS : FS = []
  · subst hFS
    have hc : eqD (m ++ [R.lst (([] : List Nat).map iN)]) (.res m.length) (.lst []) = some true := by
      rw [eqD_resL hj]
      exact eqD_t (by simp [pl, plL])
    rw [List.map_nil] at hc
    refine ⟨.non, ?_, fun _ => rfl, fun k hk hmin => ?_⟩
    · simp! [eq_self, hc]
      exact fin_app rfl
    · have := (hfm k hk hmin).1
      cases this
  · have hc : eqD (m ++ [R.lst (FS.map iN)]) (.res m.length) (.lst []) = some false := by
      rw [eqD_resL hj]
      refine eqD_f (pl_lst (plL_iN _ _)) (by simp [pl, plL]) (fun e => hFS ?_)
      have e : FS.map iN = [] := by injection e
      exact List.map_eq_nil_iff.mp e
    obtain ⟨v, hv⟩ := List.exists_mem_of_ne_nil _ hFS
    obtain ⟨k, rfl, hkd⟩ := hfx v hv
    obtain ⟨k0, hk0, hk0m⟩ := least_of (P := fun k => M1 k ≠ M2 k) k k (Nat.le_refl _) hkd
    have hk0m : ∀ i, i < k0 → M1 i = M2 i := fun i hi => Classical.byContradiction (hk0m i hi)
    obtain ⟨h5, h6⟩ := hfm k0 hk0 hk0m
    have hmr := min_res hj h5 (fun u hu => by
      obtain ⟨i, rfl, hi⟩ := hfx u hu
      apply Classical.byContradiction
      intro hn
      exact hi (hk0m i (by omega)))
    refine ⟨.int ((k0 + 1 : Nat) : Int), ?_, fun h => absurd (h k0) hk0, fun k2 h7 h8 => ?_⟩
    · simp! [eq_self, hc, hmr]
      exact fin_app rfl
    · have hkk : k2 = k0 := by
        rcases Nat.lt_trichotomy k2 k0 with h | h | h
        · exact absurd (hk0m k2 h) h7
        · exact h
        · exact absurd (h8 k0 h) hk0
      subst hkk
      refine ⟨rfl, ?_⟩
      have h9 : L1 (k2 % B) * L2 (k2 % B) ≤ ns.length * ms.length := Nat.mul_le_mul (l1 _).2 (l2 _).2
      have h10 : k2 < B * (L1 (k2 % B) * L2 (k2 % B)) := by
        have h11 := Nat.div_add_mod k2 B
        have h12 := Nat.mod_lt k2 hB0
        have h13 : B * (k2 / B + 1) ≤ B * (L1 (k2 % B) * L2 (k2 % B)) := Nat.mul_le_mul_left _ h6
        rw [Nat.mul_add] at h13
        omega
      have hBl : Nat.lcm (s * hs.length) (r * gs.length) = B := by
        unfold Nat.lcm
        rw [hg, ← hB, hj2, Nat.mul_assoc, Nat.mul_div_cancel_left _ g0]
      rw [hBl]
      refine ⟨Nat.lt_of_lt_of_le h10 (Nat.mul_le_mul_left _ h9), L1 (k2 % B), L2 (k2 % B), (l1 _).1, (l1 _).2, (l2 _).1, (l2 _).2, ?_⟩
      have h14 := hfl2 k2 hk0 hk0m
      have h11 := Nat.div_add_mod k2 B
      have h12 := Nat.mod_lt k2 hB0
      have h13 : B * (k2 / B + 1) ≤ B * Nat.lcm (L1 (k2 % B)) (L2 (k2 % B)) := Nat.mul_le_mul_left _ h14
      rw [Nat.mul_add] at h13
      omega
end K07


namespace K07
open PySem Dv Mt
local macro_rules
  | `(tactic| simp! [$xs:simpLemma,*] $[$l:location]?) => `(tactic| simp -implicitDefEqProofs (disch := first | omega | assumption | (simp only [List.length_map, List.length_range, List.length_range', List.length_append, List.length_cons, List.length_nil, List.length_replicate, List.length_take, List.length_drop, List.length_set, List.length_reverse, List.length_zip, List.length_eraseIdx]; omega)) only [$xs,*, gm__law_start, gp__law_start, gt__law_start, gm__law_drawn, gp__law_drawn, gt__law_drawn, gx__law_random_names__15, gm__law_random_names, gp__law_random_names, gt__law_random_names, gx__law_random_habit__15, gm__law_random_habit, gp__law_random_habit, gt__law_random_habit, gx__law_random_habits__15, gx__law_random_habits__18, gm__law_random_habits, gp__law_random_habits, gt__law_random_habits, gm__law_washed, gp__law_washed, gt__law_washed, gx__law_played__20, gm__law_played, gp__law_played, gt__law_played, gm_is_name, gp_is_name, gt_is_name, gm_is_habit, gp_is_habit, gt_is_habit, gx_Kitchen___init____0, gx_Kitchen___init____1, gm_Kitchen___init__, gp_Kitchen___init__, gt_Kitchen___init__, gm_Kitchen_sink_size, gp_Kitchen_sink_size, gt_Kitchen_sink_size, gm_Kitchen_habits, gp_Kitchen_habits, gt_Kitchen_habits, gx_round_cups__5, gx_round_cups__4, gm_round_cups, gp_round_cups, gt_round_cups, gm_greatest_common_divisor, gp_greatest_common_divisor, gt_greatest_common_divisor, gm_Kitchen_mugs, gp_Kitchen_mugs, gt_Kitchen_mugs, gm_put_back, gp_put_back, gt_put_back, gm_inverse_of, gp_inverse_of, gt_inverse_of, gx_map_of__6, gx_map_of__7, gm_map_of, gp_map_of, gt_map_of, gm_cycles_of, gp_cycles_of, gt_cycles_of, gx_names_by_offset__3, gx_names_by_offset__5, gx_names_by_offset__10, gx_names_by_offset__4, gx_names_by_offset__8, gx_names_by_offset__9, gm_names_by_offset, gp_names_by_offset, gt_names_by_offset, gx_first_difference__10, gx_first_difference__11, gx_first_difference__12, gm_first_difference, gp_first_difference, gt_first_difference, gx_law__14, gx_law__15, gx_law__17, gx_law__19, gx_law__18, gx_law__21, gx_law__2, gx_law__13, gn_law__0, gm_law, gp_law, gt_law, ↓y_nil, ↓y_cons, ↓y_pass, ↓y_brk, ↓y_cnt, ↓y_never, ↓y_expr, ↓y_ret, ↓y_retN, ↓y_asg, ↓y_aug, ↓y_ifs, ↓y_whl, ↓y_forr, ↓y_sti, ↓y_stf, ↓x_var, ↓x_cst, ↓x_bop, ↓x_neg, ↓x_cmp, ↓x_chn, ↓x_and, ↓x_or, ↓x_not, ↓x_ite, ↓x_tup, ↓x_lst, ↓x_ix, ↓x_sl, ↓x_rsl, ↓x_cal, ↓x_mk, ↓x_bi, ↓x_rgl, ↓x_isi, ↓x_mth, ↓x_omt, ↓x_att, ↓x_cpr, ↓x_nilL, ↓x_consL, ↓x_non, ↓x_some, ↓x_seq, ↓x_rg1, ↓x_rg2, ↓x_enu, ↓x_zip, ↓x_ezp, ↓y_body, ↓x_turn, ↓x_lgn, ↓x_sst, ↓v_nil, ↓v_plain, ↓v_yld, ↓v_forr, ↓v_whl, ↓v_body, ↓y_forg, ↓c_nil, ↓c_plain, ↓c_yld, ↓c_forr, ↓c_whl, ↓c_body, endF_nx, endF_rt, endF_st, plnC_nx, plnC_rt, thnC_nx, thnC_st, itC_fix, outC_nx, outC_ct, outC_bk, outC_rt, yldC_ok, envC2_ok, bndLS_ok, endG_nx, endG_rt, plnG_nx, plnG_rt, thnG_nx, itG_fix, yldG_ok, envG_ok, lgnK_ok, varK_ok, negK_ok, chnK_t, chnK_f, andK_t, andK_f, orK_t, orK_f, notK_ok, iteK_t, iteK_f, rglK_t, rglK_f, mthK_t, omtK_ok, smK_ok, fldK_ok, attK_ok, att2_p, att2_f, cprK_ok, ioK_ok, liveK_ok, seqK_t, seqK_l, seqK_e, seqK_s, seqK_r, rg1K_ok, rg2K_ok, enuK_ok, zipK_ok, ezpK_ok, sqK_nx, sqK_rt, sqK_bk, sqK_ct, sqK_ex, sqK_none, ifK_t, ifK_f, augK_ok, forD_fix, forD_live, compD_fix, compD_live, envK_ok, eltK_ok, cndK_t, cndK_f, envC_ok, w_nm, w_tp, w_tpL, w_nil, setK_ok, w_cons, w_wipe0, w_wipe, w_len0, w_len, gtK_ok, atR_g, atX_g, atSt_g, isK_ok, isR_g, popK_ok, stiK_ok, cls_obj, cls_res, clK_ok, fld_obj, fld_res, flK_ok, ins_obj, ins_res, inK_ok, sfK_ok, stf_res, if_pos, if_neg, List.flatten_cons, List.flatten_nil, Int.reduceToNat, Int.reduceAdd, Int.reduceSub, Int.reduceMul, Int.reduceNeg, Int.reduceLT, Int.reduceLE, Int.reduceEq, Int.toNat_zero, Int.toNat_one, List.length_range', end_rtT, end_rtF, end_nxT, end_nxF, end_ex, bnd_ok, bndL_ok, bndS_ok, bndI_ok, toI_ok, bndSI_ok, q_okP, q_okB, q_consL, q_consK, q_newT, q_newF, Option.map_some, Option.map_none, Option.bind_some, ite_true, ite_false, if_true, if_false, eq_self, Bool.not_true, Bool.not_false, Bool.true_eq_false, Bool.false_eq_true, Nat.reduceLT, Nat.reduceEqDiff, Nat.reduceSub, Nat.reduceAdd, Int.toNat_natCast, List.map_cons, List.map_nil, List.length_cons, List.length_nil, List.replicate_zero, List.replicate_succ, List.cons_append, List.nil_append, List.append_nil, List.append_assoc, List.length_append, List.length_map, List.length_range, List.length_replicate, List.getElem?_cons_zero, List.getElem?_cons_succ, List.set_cons_zero, List.set_cons_succ, Nat.add_zero, Nat.zero_add, q_get0, q_getk, q_set0, q_setk, iN_eq, List.getElem?_map, q_le, q_lt, q_add, q_sub, q_mulr, q_mull, q_mulT, q_fdiv, q_mod, q_pow18, q_pow9, q_pow15, z_addRL, z_addLR, z_addRR, z_addLL, z_addTT, z_addSS, q_rep1, q_cmpLt, q_cmpLe, q_cmpGt, q_cmpGe, q_isN, q_notN, q_nonN, q_nonI, q_nonS, q_nonT, q_nonL, q_nonR, q_nonB, q_nonO, q_eq, q_ne, q_inn, q_nin, q_eqI, q_eqB, cut_lo, cut_hi, cut_lohi, cut_all, cut_him1, q_slT, q_rslT, q_slL, z_slR, z_ixR, ixD_tup, ixD_lst, ixD_ext, q_lenT, q_lenL, q_lenE, z_lenR, q_listT, q_listL, q_listE, z_listR, q_tupT, q_tupL, z_tupR, q_intI, q_intB, q_absI, q_maxII, q_minII, q_allL, z_append, z_extR, z_extL, z_insert, z_pop, z_pop0, z_mtR, q_mtL, q_mtT, z_sti, q_augA, q_augS, q_rngN, fsq_tup, fsq_lst, fsq_ext, atI_natN, atI_nn, ixN_nn, Bool.and_true, Bool.true_and, Bool.and_self, q_dT, q_dF, not_true_eq_false, not_false_eq_true, decide_true, decide_false, isi_non, isi_bl, isi_int, isi_str, isi_tup, isi_lst, isi_ext, List.any_cons, List.any_nil, Bool.or_false, Bool.false_or, Bool.or_true, Bool.true_or, ty_int_int, ty_int_bool, ty_int_str, ty_int_tuple, ty_int_list, ty_int_dict, ty_int_none, ty_bool_int, ty_bool_bool, ty_bool_str, ty_bool_tuple, ty_bool_list, ty_bool_dict, ty_bool_none, ty_str_int, ty_str_bool, ty_str_str, ty_str_tuple, ty_str_list, ty_str_dict, ty_str_none, ty_tuple_int, ty_tuple_bool, ty_tuple_str, ty_tuple_tuple, ty_tuple_list, ty_tuple_dict, ty_tuple_none, ty_list_int, ty_list_bool, ty_list_str, ty_list_tuple, ty_list_list, ty_list_dict, ty_list_none, ty_dict_int, ty_dict_bool, ty_dict_str, ty_dict_tuple, ty_dict_list, ty_dict_dict, ty_dict_none, ty_none_int, ty_none_bool, ty_none_str, ty_none_tuple, ty_none_list, ty_none_dict, ty_none_none] $[$l:location]?)
def tlS : Ss → Ss
  | .cons _ r => r
  | .nil => .nil
theorem tl_cons (s : S) (r : Ss) : tlS (.cons s r) = r := rfl
def restS : Ss := tlS (tlS (tlS (tlS (tlS b_law_1))))
theorem lcm5 : ∀ a, a < 6 → ∀ b, b < 6 → Nat.lcm a b ≤ 20 := by decide
theorem rest {ns ms : List Str} {s r : Nat} {hs gs : List (List Nat)} (a : R) (G : List R) (ok1 : KOk ns s hs) (ok2 : KOk ms r gs) (sub1 : ∀ x ∈ ns, x ∈ namesA) (sub2 : ∀ x ∈ ms, x ∈ namesA) (n5 : ns.length ≤ 5) (m5 : ms.length ≤ 5) (h2 : hs.length ≤ 2) (g4 : gs.length ≤ 4)
    (y0 y1 y2 y3 y6 y9 y10 y11 y12 y13 y14 y15 : Option D) :
    ∃ z9 z10 z11 z12 z13 z14 z15, evSs g_law restS [y0, y1, y2, y3, some (.tup (ns.map .str)), some (.tup (hs.map hD)), y6, some (.tup (gs.map hD)), some (.tup (ms.map .str)), y9, y10, y11, y12, y13, y14, y15] (a :: G) = some (.nx [y0, y1, y2, y3, some (.tup (ns.map .str)), some (.tup (hs.map hD)), y6, some (.tup (gs.map hD)), some (.tup (ms.map .str)), z9, z10, z11, z12, z13, z14, z15] (a :: G)) := by
  have hl1 := ok1.hl
  have hl2 := ok2.hl
  have hs1 := ok1.s1
  have hr1 := ok2.s1
  obtain ⟨M1, hM1⟩ : ∃ M : Nat → Str, ∀ k, mugAt hs s k ns = some (M k) := by
    have : ∀ k, ∃ y, mugAt hs s k ns = some y := fun k => get_ex (shelfAt_len hl1) (Nat.lt_of_lt_of_le (Nat.mod_lt k (by omega)) hs1.2)
    exact ⟨fun k => (this k).choose, fun k => (this k).choose_spec⟩
  obtain ⟨M2, hM2⟩ : ∃ M : Nat → Str, ∀ k, mugAt gs r k ms = some (M k) := by
    have : ∀ k, ∃ y, mugAt gs r k ms = some y := fun k => get_ex (shelfAt_len hl2) (Nat.lt_of_lt_of_le (Nat.mod_lt k (by omega)) hr1.2)
    exact ⟨fun k => (this k).choose, fun k => (this k).choose_spec⟩
  have hms1 : ∀ k, PyData.strOk (M1 k) = true := fun k => ok1.st _ ((shelfAt_perm hl1).mem_iff.mp (List.mem_of_getElem? (hM1 k)))
  have hms2 : ∀ k, PyData.strOk (M2 k) = true := fun k => ok2.st _ ((shelfAt_perm hl2).mem_iff.mp (List.mem_of_getElem? (hM2 k)))
  have e1 := fun m => mk_kitchen m ok1 (fun x hx => namesA_is x (sub1 x hx))
  have e2 := fun m => mk_kitchen m ok2 (fun x hx => namesA_is x (sub2 x hx))
  have hh1 := ok1.h1
  have hg1 := ok2.h1
  obtain ⟨h0, hh0⟩ := get_ex (l := hs) rfl (show 0 < hs.length by omega)
  have hs0 := (ok1.hab h0 (List.mem_of_getElem? hh0)).1
  obtain ⟨g0, hg0⟩ := get_ex (l := gs) rfl (show 0 < gs.length by omega)
  have gs0 := (ok2.hab g0 (List.mem_of_getElem? hg0)).1
  have b1 : s * hs.length ≤ 5 * 2 := Nat.mul_le_mul (by omega) h2
  have b2 : r * gs.length ≤ 5 * 4 := Nat.mul_le_mul (by omega) g4
  have b12 : s * hs.length * (r * gs.length) ≤ 5 * 2 * (5 * 4) := Nat.mul_le_mul b1 b2
  have b21 : r * gs.length * (s * hs.length) ≤ 5 * 4 * (5 * 2) := Nat.mul_le_mul b2 b1
  have p0 : 0 < s * hs.length * (r * gs.length) := Nat.mul_pos (Nat.mul_pos (by omega) (by omega)) (Nat.mul_pos (by omega) (by omega))
  obtain ⟨d, f1, f2, f3⟩ := first_difference (a :: G) ok1 ok2 M1 M2 hM1 hM2 (by omega)
  obtain ⟨d', f1', f2', f3'⟩ := first_difference (a :: G) ok2 ok1 M2 M1 hM2 hM1 (by omega)
  have hlcm : Nat.lcm (s * hs.length) (r * gs.length) ≤ s * hs.length * (r * gs.length) := Nat.le_of_dvd p0 (Nat.lcm_dvd_mul _ _)
  have qP : ((hs.length : Int) * (s : Int)) * (gs.length : Int) * (r : Int) = ((s * hs.length * (r * gs.length) : Nat) : Int) := by
    simp only [Int.natCast_mul, Int.mul_comm, Int.mul_left_comm]
  generalize s * hs.length * (r * gs.length) = P at *
  have q21 : (P : Int) * 21 = ((P * 21 : Nat) : Int) := by simp
  generalize hL : P * 21 = L at q21
  have hLb : L ≤ 4200 := by omega
  have e3 := fun m => law_played L M1 m ok1 hM1 (by omega)
  have e4 := fun m => law_played L M2 m ok2 hM2 (by omega)
  have qL : rngD 0 (L : Int) = (List.range L).map iN := rngD_0 L
  have enil : ∀ m, eqD m (.lst []) (.lst []) = some true := fun m => eqD_t (by simp [pl, plL])
  have enon : ∀ m, eqD m .non .non = some true := fun m => eqD_t (by simp [pl])
  have qmin : (if (4200 : Int) < (L : Int) then (4200 : Int) else (L : Int)) = (L : Int) := if_neg (by omega)
  generalize hSt1 : D.lst ((List.range (L + 1)).map (stD hs s ns)) = St1 at e3
  generalize hSt2 : D.lst ((List.range (L + 1)).map (stD gs r ms)) = St2 at e4
  generalize hB : evSs _ _ _ _ = B
  simp! [eq_self, restS, b_law_1, tl_cons, e1, e2, e3, e4, qL, qP, q21, qmin, hh0, hg0, len_hD, hs0, gs0] at hB
  generalize hR : List.range L = R1 at hB
  have hRl : R1.length = L := by rw [← hR]; simp
  rw [compL_fil (h := fun (k : Nat) => D.int ((k : Int) + 1)) (b := fun k => !decide (M1 k = M2 k)) R1 [] (fun k hk => by
    have hk' : k < L := by rw [← hR] at hk; exact List.mem_range.mp hk
    have h5 : R1[k]? = some k := by rw [← hR]; exact List.getElem?_range hk'
    by_cases hc : M1 k = M2 k
    · have h6 : ∀ m, eqD m (.str (M2 k)) (.str (M2 k)) = some true := fun m => eqD_t (pl_str (hms2 _))
      rw [decide_eq_true hc]
      simp! [eq_self, h5, hc, h6]
    · have h6 : ∀ m, eqD m (.str (M1 k)) (.str (M2 k)) = some false := fun m => by rw [q_eqS (hms1 _) (hms2 _), decide_eq_false hc]
      rw [decide_eq_false hc]
      simp! [eq_self, h5, h6]) (by rw [sizeLine_eq]; simp; omega), List.nil_append] at hB
  by_cases hall : ∀ k, M1 k = M2 k
  · obtain rfl := f2 hall
    obtain rfl := f2' fun k => (hall k).symm
    have hw : (R1.filter fun k => !decide (M1 k = M2 k)) = [] := List.filter_eq_nil_iff.mpr fun k _ => by rw [decide_eq_true (hall k)]; simp
    rw [hw] at hB
    simp! [eq_self, enil, enon, e1, e2, f1, f1', q21] at hB
    subst hB
    exact ⟨_, _, _, _, _, _, _, rfl⟩
  · obtain ⟨kx, hkx⟩ := Classical.not_forall.mp hall
    obtain ⟨k0, hk0, hk0m⟩ := least_of (P := fun k => M1 k ≠ M2 k) kx kx (Nat.le_refl _) hkx
    have hk0m : ∀ i, i < k0 → M1 i = M2 i := fun i hi => Classical.byContradiction (hk0m i hi)
    obtain ⟨rfl, -, u, v, hu0, hu, hv0, hv, huv⟩ := f3 k0 hk0 hk0m
    obtain ⟨rfl, -⟩ := f3' k0 (Ne.symm hk0) fun i hi => (hk0m i hi).symm
    have hkb : k0 < P * 20 := Nat.lt_of_lt_of_le huv (Nat.mul_le_mul hlcm (lcm5 u (by omega) v (by omega)))
    have hw : ∃ l, (R1.filter fun k => !decide (M1 k = M2 k)) = k0 :: l := by
      rw [← hR, show L = k0 + (L - k0) by omega, List.range_add, List.filter_append, List.filter_eq_nil_iff.mpr fun k hk => by rw [decide_eq_true (hk0m k (List.mem_range.mp hk))]; simp, List.nil_append, show L - k0 = (L - k0 - 1) + 1 by omega, List.range_succ_eq_map, List.map_cons, Nat.add_zero, List.filter_cons, decide_eq_false hk0]
      exact ⟨_, rfl⟩
    obtain ⟨l, hw⟩ := hw
    rw [hw, List.map_cons] at hB
    have hne : ∀ m, eqD m (.lst (D.int ((k0 : Int) + 1) :: l.map fun (k : Nat) => D.int ((k : Int) + 1))) (.lst []) = some false := fun m => by
      refine eqD_f (pl_lst ?_) (by simp [pl, plL]) (fun e => by injection e with e; cases e)
      exact plL_map (xs := k0 :: l) (f := fun (k : Nat) => D.int ((k : Int) + 1)) fun _ _ => rfl
    have hk9 : ((k0 : Int) + 1) = ((k0 + 1 : Nat) : Int) := by omega
    rw [hk9] at hB hne
    simp! [eq_self, hne, e1, e2, f1, f1', q21] at hB
    subst hB
    exact ⟨_, _, _, _, _, _, _, rfl⟩
end K07


namespace K07
open PySem Dv Mt
local macro_rules
  | `(tactic| simp! [$xs:simpLemma,*] $[$l:location]?) => `(tactic| simp -implicitDefEqProofs (disch := first | omega | assumption | (simp only [List.length_map, List.length_range, List.length_range', List.length_append, List.length_cons, List.length_nil, List.length_replicate, List.length_take, List.length_drop, List.length_set, List.length_reverse, List.length_zip, List.length_eraseIdx]; omega)) only [$xs,*, gm__law_start, gp__law_start, gt__law_start, gm__law_drawn, gp__law_drawn, gt__law_drawn, gx__law_random_names__15, gm__law_random_names, gp__law_random_names, gt__law_random_names, gx__law_random_habit__15, gm__law_random_habit, gp__law_random_habit, gt__law_random_habit, gx__law_random_habits__15, gx__law_random_habits__18, gm__law_random_habits, gp__law_random_habits, gt__law_random_habits, gm__law_washed, gp__law_washed, gt__law_washed, gx__law_played__20, gm__law_played, gp__law_played, gt__law_played, gm_is_name, gp_is_name, gt_is_name, gm_is_habit, gp_is_habit, gt_is_habit, gx_Kitchen___init____0, gx_Kitchen___init____1, gm_Kitchen___init__, gp_Kitchen___init__, gt_Kitchen___init__, gm_Kitchen_sink_size, gp_Kitchen_sink_size, gt_Kitchen_sink_size, gm_Kitchen_habits, gp_Kitchen_habits, gt_Kitchen_habits, gx_round_cups__5, gx_round_cups__4, gm_round_cups, gp_round_cups, gt_round_cups, gm_greatest_common_divisor, gp_greatest_common_divisor, gt_greatest_common_divisor, gm_Kitchen_mugs, gp_Kitchen_mugs, gt_Kitchen_mugs, gm_put_back, gp_put_back, gt_put_back, gm_inverse_of, gp_inverse_of, gt_inverse_of, gx_map_of__6, gx_map_of__7, gm_map_of, gp_map_of, gt_map_of, gm_cycles_of, gp_cycles_of, gt_cycles_of, gx_names_by_offset__3, gx_names_by_offset__5, gx_names_by_offset__10, gx_names_by_offset__4, gx_names_by_offset__8, gx_names_by_offset__9, gm_names_by_offset, gp_names_by_offset, gt_names_by_offset, gx_first_difference__10, gx_first_difference__11, gx_first_difference__12, gm_first_difference, gp_first_difference, gt_first_difference, gx_law__14, gx_law__15, gx_law__17, gx_law__19, gx_law__18, gx_law__21, gx_law__2, gx_law__13, gn_law__0, gm_law, gp_law, gt_law, ↓y_nil, ↓y_cons, ↓y_pass, ↓y_brk, ↓y_cnt, ↓y_never, ↓y_expr, ↓y_ret, ↓y_retN, ↓y_asg, ↓y_aug, ↓y_ifs, ↓y_whl, ↓y_forr, ↓y_sti, ↓y_stf, ↓x_var, ↓x_cst, ↓x_bop, ↓x_neg, ↓x_cmp, ↓x_chn, ↓x_and, ↓x_or, ↓x_not, ↓x_ite, ↓x_tup, ↓x_lst, ↓x_ix, ↓x_sl, ↓x_rsl, ↓x_cal, ↓x_mk, ↓x_bi, ↓x_rgl, ↓x_isi, ↓x_mth, ↓x_omt, ↓x_att, ↓x_cpr, ↓x_nilL, ↓x_consL, ↓x_non, ↓x_some, ↓x_seq, ↓x_rg1, ↓x_rg2, ↓x_enu, ↓x_zip, ↓x_ezp, ↓y_body, ↓x_turn, ↓x_lgn, ↓x_sst, ↓v_nil, ↓v_plain, ↓v_yld, ↓v_forr, ↓v_whl, ↓v_body, ↓y_forg, ↓c_nil, ↓c_plain, ↓c_yld, ↓c_forr, ↓c_whl, ↓c_body, endF_nx, endF_rt, endF_st, plnC_nx, plnC_rt, thnC_nx, thnC_st, itC_fix, outC_nx, outC_ct, outC_bk, outC_rt, yldC_ok, envC2_ok, bndLS_ok, endG_nx, endG_rt, plnG_nx, plnG_rt, thnG_nx, itG_fix, yldG_ok, envG_ok, lgnK_ok, varK_ok, negK_ok, chnK_t, chnK_f, andK_t, andK_f, orK_t, orK_f, notK_ok, iteK_t, iteK_f, rglK_t, rglK_f, mthK_t, omtK_ok, smK_ok, fldK_ok, attK_ok, att2_p, att2_f, cprK_ok, ioK_ok, liveK_ok, seqK_t, seqK_l, seqK_e, seqK_s, seqK_r, rg1K_ok, rg2K_ok, enuK_ok, zipK_ok, ezpK_ok, sqK_nx, sqK_rt, sqK_bk, sqK_ct, sqK_ex, sqK_none, ifK_t, ifK_f, augK_ok, forD_fix, forD_live, compD_fix, compD_live, envK_ok, eltK_ok, cndK_t, cndK_f, envC_ok, w_nm, w_tp, w_tpL, w_nil, setK_ok, w_cons, w_wipe0, w_wipe, w_len0, w_len, gtK_ok, atR_g, atX_g, atSt_g, isK_ok, isR_g, popK_ok, stiK_ok, cls_obj, cls_res, clK_ok, fld_obj, fld_res, flK_ok, ins_obj, ins_res, inK_ok, sfK_ok, stf_res, if_pos, if_neg, List.flatten_cons, List.flatten_nil, Int.reduceToNat, Int.reduceAdd, Int.reduceSub, Int.reduceMul, Int.reduceNeg, Int.reduceLT, Int.reduceLE, Int.reduceEq, Int.toNat_zero, Int.toNat_one, List.length_range', end_rtT, end_rtF, end_nxT, end_nxF, end_ex, bnd_ok, bndL_ok, bndS_ok, bndI_ok, toI_ok, bndSI_ok, q_okP, q_okB, q_consL, q_consK, q_newT, q_newF, Option.map_some, Option.map_none, Option.bind_some, ite_true, ite_false, if_true, if_false, eq_self, Bool.not_true, Bool.not_false, Bool.true_eq_false, Bool.false_eq_true, Nat.reduceLT, Nat.reduceEqDiff, Nat.reduceSub, Nat.reduceAdd, Int.toNat_natCast, List.map_cons, List.map_nil, List.length_cons, List.length_nil, List.replicate_zero, List.replicate_succ, List.cons_append, List.nil_append, List.append_nil, List.append_assoc, List.length_append, List.length_map, List.length_range, List.length_replicate, List.getElem?_cons_zero, List.getElem?_cons_succ, List.set_cons_zero, List.set_cons_succ, Nat.add_zero, Nat.zero_add, q_get0, q_getk, q_set0, q_setk, iN_eq, List.getElem?_map, q_le, q_lt, q_add, q_sub, q_mulr, q_mull, q_mulT, q_fdiv, q_mod, q_pow18, q_pow9, q_pow15, z_addRL, z_addLR, z_addRR, z_addLL, z_addTT, z_addSS, q_rep1, q_cmpLt, q_cmpLe, q_cmpGt, q_cmpGe, q_isN, q_notN, q_nonN, q_nonI, q_nonS, q_nonT, q_nonL, q_nonR, q_nonB, q_nonO, q_eq, q_ne, q_inn, q_nin, q_eqI, q_eqB, cut_lo, cut_hi, cut_lohi, cut_all, cut_him1, q_slT, q_rslT, q_slL, z_slR, z_ixR, ixD_tup, ixD_lst, ixD_ext, q_lenT, q_lenL, q_lenE, z_lenR, q_listT, q_listL, q_listE, z_listR, q_tupT, q_tupL, z_tupR, q_intI, q_intB, q_absI, q_maxII, q_minII, q_allL, z_append, z_extR, z_extL, z_insert, z_pop, z_pop0, z_mtR, q_mtL, q_mtT, z_sti, q_augA, q_augS, q_rngN, fsq_tup, fsq_lst, fsq_ext, atI_natN, atI_nn, ixN_nn, Bool.and_true, Bool.true_and, Bool.and_self, q_dT, q_dF, not_true_eq_false, not_false_eq_true, decide_true, decide_false, isi_non, isi_bl, isi_int, isi_str, isi_tup, isi_lst, isi_ext, List.any_cons, List.any_nil, Bool.or_false, Bool.false_or, Bool.or_true, Bool.true_or, ty_int_int, ty_int_bool, ty_int_str, ty_int_tuple, ty_int_list, ty_int_dict, ty_int_none, ty_bool_int, ty_bool_bool, ty_bool_str, ty_bool_tuple, ty_bool_list, ty_bool_dict, ty_bool_none, ty_str_int, ty_str_bool, ty_str_str, ty_str_tuple, ty_str_list, ty_str_dict, ty_str_none, ty_tuple_int, ty_tuple_bool, ty_tuple_str, ty_tuple_tuple, ty_tuple_list, ty_tuple_dict, ty_tuple_none, ty_list_int, ty_list_bool, ty_list_str, ty_list_tuple, ty_list_list, ty_list_dict, ty_list_none, ty_dict_int, ty_dict_bool, ty_dict_str, ty_dict_tuple, ty_dict_list, ty_dict_dict, ty_dict_none, ty_none_int, ty_none_bool, ty_none_str, ty_none_tuple, ty_none_list, ty_none_dict, ty_none_none] $[$l:location]?)
theorem kok {ns : List Str} {s : Nat} {hs : List (List Nat)} (n : Nat) (hn : ns.length = n) (n2 : 2 ≤ n) (n12 : n ≤ 12) (nd : ns.Nodup) (sub : ∀ x ∈ ns, x ∈ namesA) (h1 : 1 ≤ hs.length) (h6 : hs.length ≤ 6) (hab : ∀ h ∈ hs, HabOk n s h) : KOk ns s hs := by
  subst hn
  exact ⟨n2, n12, nd, fun x hx => namesA_ok x (sub x hx), h1, h6, hab⟩
theorem turn {r : R} (H : HdrA r) (g : List R) (sc x : D) (y2 y3 y4 y5 y6 y7 y8 y9 y10 y11 y12 y13 y14 y15 : Option D) :
    ∃ r' g' z2 z3 z4 z5 z6 z7 z8 z9 z10 z11 z12 z13 z14 z15, HdrA r' ∧ bodyD (.nm 2) (evSs g_law b_law_1) x [some sc, some (.res 0), y2, y3, y4, y5, y6, y7, y8, y9, y10, y11, y12, y13, y14, y15] (r :: g) = some (.nx [some sc, some (.res 0), z2, z3, z4, z5, z6, z7, z8, z9, z10, z11, z12, z13, z14, z15] (r' :: g')) := by
  obtain ⟨k, r1, H1, hk, e1⟩ := law_drawn H g 4 (by omega) (by omega)
  have hcount : ((2 : Int) + (k : Int)) = ((2 + k : Nat) : Int) := by omega
  generalize hN : 2 + k = n at hcount
  obtain ⟨ns, r2, g2, H2, hn, nd, sub, e2⟩ := law_random_names H1 g n (by omega)
  generalize g ++ g2 = G at e2
  obtain ⟨s, hs, r3, H3, s1, sn, hab, hl1, hl2, e3⟩ := law_random_habits H2 G n 2 (by omega) (by omega) (by omega) (by omega)
  have e3 : F__law_random_habits [.res 0, .int (n : Int), .int 2] (r2 :: G) = _ := e3
  obtain ⟨b, r4, H4, hb, e4⟩ := law_drawn H3 G 5 (by omega) (by omega)
  have ok1 : KOk ns s hs := kok n hn (by omega) (by omega) nd sub hl1 (by omega) hab
  obtain ⟨h0, hh0⟩ := get_ex (l := hs) rfl (show 0 < hs.length by omega)
  have hs0 := (hab h0 (List.mem_of_getElem? hh0)).1
  obtain ⟨hh, hhe⟩ : ∃ hh, hh = hs ++ hs := ⟨_, rfl⟩
  have hcat : hs.map hD ++ hs.map hD = hh.map hD := by rw [hhe, List.map_append]
  have hhl : hh.length = hs.length + hs.length := by rw [hhe, List.length_append]
  have hhab : ∀ h ∈ hh, HabOk n s h := fun h hm => by
    rw [hhe] at hm
    rcases List.mem_append.mp hm with h1 | h1 <;> exact hab h h1
  have okh : ∀ ms : List Str, ms.length = n → ms.Nodup → (∀ x ∈ ms, x ∈ namesA) → KOk ms s hh := fun ms hm nd sub => kok n hm (by omega) (by omega) nd sub (by omega) (by omega) hhab
  rcases (show b = 0 ∨ b = 1 ∨ b = 2 ∨ b = 3 ∨ b = 4 by omega) with rfl | rfl | rfl | rfl | rfl
  · have e4 : F__law_drawn [.res 0, .int 5] (r3 :: G) = some (.ok (.int 0) (r4 :: G)) := e4
    obtain ⟨v9, v10, v11, v12, v13, v14, v15, er⟩ := rest r4 G ok1 (okh ns hn nd sub) sub sub (by omega) (by omega) hl2 (by omega) (some sc) (some (.res 0)) (some x) (some (.int (n : Int))) (some (.int 0)) y9 y10 y11 y12 y13 y14 y15
    have hstep : bodyD (.nm 2) (evSs g_law b_law_1) x [some sc, some (.res 0), y2, y3, y4, y5, y6, y7, y8, y9, y10, y11, y12, y13, y14, y15] (r :: g) = evSs g_law restS [some sc, some (.res 0), some x, some (.int (n : Int)), some (.tup (ns.map .str)), some (.tup (hs.map hD)), some (.int 0), some (.tup (hh.map hD)), some (.tup (ns.map .str)), y9, y10, y11, y12, y13, y14, y15] (r4 :: G) := by
      simp! [eq_self, b_law_1, restS, tl_cons, e1, hcount, e2, e3, e4, hcat]
    exact ⟨r4, G, _, _, _, _, _, _, _, _, _, _, _, _, _, _, H4, hstep.trans er⟩
  · have e4 : F__law_drawn [.res 0, .int 5] (r3 :: G) = some (.ok (.int 1) (r4 :: G)) := e4
    obtain ⟨h', r5, H5, hab', e5⟩ := law_random_habit H4 G n s s1 sn (by omega)
    have ht1 : (hs.map hD).take 1 = [hD h0] := by
      cases hs with
      | nil => cases hh0
      | cons z zs => cases hh0; rfl
    have ok2 : KOk ns s [h0, h'] := kok n hn (by omega) (by omega) nd sub (by simp) (by simp) (fun h hm => by
      rcases List.mem_cons.mp hm with rfl | hm
      · exact hab _ (List.mem_of_getElem? hh0)
      · rw [List.mem_singleton.mp hm]; exact hab')
    obtain ⟨v9, v10, v11, v12, v13, v14, v15, er⟩ := rest r5 G ok1 ok2 sub sub (by omega) (by omega) hl2 (by simp) (some sc) (some (.res 0)) (some x) (some (.int (n : Int))) (some (.int 1)) y9 y10 y11 y12 y13 y14 y15
    have hstep : bodyD (.nm 2) (evSs g_law b_law_1) x [some sc, some (.res 0), y2, y3, y4, y5, y6, y7, y8, y9, y10, y11, y12, y13, y14, y15] (r :: g) = evSs g_law restS [some sc, some (.res 0), some x, some (.int (n : Int)), some (.tup (ns.map .str)), some (.tup (hs.map hD)), some (.int 1), some (.tup ([h0, h'].map hD)), some (.tup (ns.map .str)), y9, y10, y11, y12, y13, y14, y15] (r5 :: G) := by
      simp! [eq_self, b_law_1, restS, tl_cons, e1, hcount, e2, e3, e4, e5, hcat, hh0, len_hD, hs0, ht1]
    exact ⟨r5, G, _, _, _, _, _, _, _, _, _, _, _, _, _, _, H5, hstep.trans er⟩
  · have e4 : F__law_drawn [.res 0, .int 5] (r3 :: G) = some (.ok (.int 2) (r4 :: G)) := e4
    obtain ⟨s', gs, r5, H5, s1', sn', hab', gl1, gl2, e5⟩ := law_random_habits H4 G n 2 (by omega) (by omega) (by omega) (by omega)
    have e5 : F__law_random_habits [.res 0, .int (n : Int), .int 2] (r4 :: G) = _ := e5
    have ok2 : KOk ns s' gs := kok n hn (by omega) (by omega) nd sub gl1 (by omega) hab'
    obtain ⟨v9, v10, v11, v12, v13, v14, v15, er⟩ := rest r5 G ok1 ok2 sub sub (by omega) (by omega) hl2 (by omega) (some sc) (some (.res 0)) (some x) (some (.int (n : Int))) (some (.int 2)) y9 y10 y11 y12 y13 y14 y15
    have hstep : bodyD (.nm 2) (evSs g_law b_law_1) x [some sc, some (.res 0), y2, y3, y4, y5, y6, y7, y8, y9, y10, y11, y12, y13, y14, y15] (r :: g) = evSs g_law restS [some sc, some (.res 0), some x, some (.int (n : Int)), some (.tup (ns.map .str)), some (.tup (hs.map hD)), some (.int 2), some (.tup (gs.map hD)), some (.tup (ns.map .str)), y9, y10, y11, y12, y13, y14, y15] (r5 :: G) := by
      simp! [eq_self, b_law_1, restS, tl_cons, e1, hcount, e2, e3, e4, e5, hcat]
    exact ⟨r5, G, _, _, _, _, _, _, _, _, _, _, _, _, _, _, H5, hstep.trans er⟩
  · have e4 : F__law_drawn [.res 0, .int 5] (r3 :: G) = some (.ok (.int 3) (r4 :: G)) := e4
    obtain ⟨ms, r5, g5, H5, hm, nd', sub', e5⟩ := law_random_names H4 G n (by omega)
    generalize G ++ g5 = G5 at e5
    obtain ⟨v9, v10, v11, v12, v13, v14, v15, er⟩ := rest r5 G5 ok1 (okh ms hm nd' sub') sub sub' (by omega) (by omega) hl2 (by omega) (some sc) (some (.res 0)) (some x) (some (.int (n : Int))) (some (.int 3)) y9 y10 y11 y12 y13 y14 y15
    have hstep : bodyD (.nm 2) (evSs g_law b_law_1) x [some sc, some (.res 0), y2, y3, y4, y5, y6, y7, y8, y9, y10, y11, y12, y13, y14, y15] (r :: g) = evSs g_law restS [some sc, some (.res 0), some x, some (.int (n : Int)), some (.tup (ns.map .str)), some (.tup (hs.map hD)), some (.int 3), some (.tup (hh.map hD)), some (.tup (ms.map .str)), y9, y10, y11, y12, y13, y14, y15] (r5 :: G5) := by
      simp! [eq_self, b_law_1, restS, tl_cons, e1, hcount, e2, e3, e4, e5, hcat]
    exact ⟨r5, G5, _, _, _, _, _, _, _, _, _, _, _, _, _, _, H5, hstep.trans er⟩
  · have e4 : F__law_drawn [.res 0, .int 5] (r3 :: G) = some (.ok (.int 4) (r4 :: G)) := e4
    have hcat2 : (ns.map D.str).take s ++ ((ns.map D.str).drop s).reverse = (ns.take s ++ (ns.drop s).reverse).map .str := by simp
    have hperm : (ns.take s ++ (ns.drop s).reverse).Perm ns := by
      have h1 := List.Perm.append_left (ns.take s) (List.reverse_perm (ns.drop s))
      rw [List.take_append_drop] at h1
      exact h1
    generalize ns.take s ++ (ns.drop s).reverse = qs at hcat2 hperm
    have hq := hperm.length_eq
    obtain ⟨v9, v10, v11, v12, v13, v14, v15, er⟩ := rest r4 G ok1 (okh qs (by omega) (hperm.nodup_iff.mpr nd) (fun y hy => sub y (hperm.mem_iff.mp hy))) sub (fun y hy => sub y (hperm.mem_iff.mp hy)) (by omega) (by omega) hl2 (by omega) (some sc) (some (.res 0)) (some x) (some (.int (n : Int))) (some (.int 4)) y9 y10 y11 y12 y13 y14 y15
    have hstep : bodyD (.nm 2) (evSs g_law b_law_1) x [some sc, some (.res 0), y2, y3, y4, y5, y6, y7, y8, y9, y10, y11, y12, y13, y14, y15] (r :: g) = evSs g_law restS [some sc, some (.res 0), some x, some (.int (n : Int)), some (.tup (ns.map .str)), some (.tup (hs.map hD)), some (.int 4), some (.tup (hh.map hD)), some (.tup (qs.map .str)), y9, y10, y11, y12, y13, y14, y15] (r4 :: G) := by
      simp! [eq_self, b_law_1, restS, tl_cons, e1, hcount, e2, e3, e4, hcat, hh0, len_hD, hs0, hcat2]
    exact ⟨r4, G, _, _, _, _, _, _, _, _, _, _, _, _, _, _, H4, hstep.trans er⟩
theorem plain (ns : List Int) (hl : ns.length ≤ 63) : ∃ m, F_law [.ext (ns.map .int)] [] = some (.ok (.bl true) m) := by
  obtain ⟨r, H, e⟩ := law_start ns hl
  refine ⟨[], ?_⟩
  simp! [eq_self, F_law, b_law, N_law, runD_eq, runG_eq, runFor_eq, e]
  generalize hX : forF _ _ _ _ = X
  have hF := forF_gen hX
  clear hX
  obtain ⟨ρ', m', rfl, r, g, z2, z3, z4, z5, z6, z7, z8, z9, z10, z11, z12, z13, z14, z15, H, rfl, rfl⟩ := hF (fun i ρ m' => ∃ r g z2 z3 z4 z5 z6 z7 z8 z9 z10 z11 z12 z13 z14 z15, HdrA r ∧ ρ = [some (.ext (ns.map .int)), some (.res 0), z2, z3, z4, z5, z6, z7, z8, z9, z10, z11, z12, z13, z14, z15] ∧ m' = r :: g) ⟨r, [], _, _, _, _, _, _, _, _, _, _, _, _, _, _, H, rfl, rfl⟩ (by
    rintro i x ρ m' hx ⟨r, g, z2, z3, z4, z5, z6, z7, z8, z9, z10, z11, z12, z13, z14, z15, H, rfl, rfl⟩
    obtain ⟨r', g', w2, w3, w4, w5, w6, w7, w8, w9, w10, w11, w12, w13, w14, w15, H', e⟩ := turn H g (.ext (ns.map .int)) x z2 z3 z4 z5 z6 z7 z8 z9 z10 z11 z12 z13 z14 z15
    exact ⟨_, _, .inl e, r', g', w2, w3, w4, w5, w6, w7, w8, w9, w10, w11, w12, w13, w14, w15, H', rfl, rfl⟩)
  simp! [eq_self]
  exact fin_nil rfl
end K07


namespace K07
open PySem PySem.Spec PyProof.Rows L2 Dv
theorem walk {l : PySem.W.OpenLaw} {q : Program} {loose : List Str} {XP : (Str → Option Value) → Heap → Prop} {YP : World → Heap → Prop} {d : DefRec} {K : Params → PySem.W.Frag} (hn : l.most = some 63) (hdf : d.params.defaults = [])
    (hY : ∀ (w : World) (h : Heap), YP w h → (K w.params).In h)
    (F : ∀ (w : World) (mg : Str → Option Value) (fa : Addr) (h : Heap), (K w.params).In h → h.Ns mainGlobals mg → mg d.name = some (.ref fa) →
      ∃ fd : FuncData, (∀ (s : Shared) (u : Value), BindsTo s fd ⟨[u], []⟩ [("_law_script", u)]) ∧ ∀ base : Heap, (K w.params).In base → base.Ns mainGlobals mg → FnOk l.prog w (K w.params) mg base (L2.CX l.prog w) 6 fa fd ["_law_script"] (spLaw (K w.params))) :
    PySem.W.WalkO q loose XP YP l.row.toRowW d [] (fun f vs => PySem.call f vs) :=
  L2.walk_of (n := 63) (k := 6) (x := "_law_script") (CX := fun w => L2.CX l.prog w) (sp := fun w => spLaw (K w.params)) hn (by decide) hdf ⟨rfl, by decide, by decide⟩ hY F
    (fun _ _ a ns hl _ hS => ⟨rfl, a, ns, rfl, hS, hl, fun _ => rfl⟩) fun w H s e s' z => by
      obtain ⟨_, _, _, _, _, _, _, _, _, _, _, _, z⟩ := z
      exact z.elim
end K07
open PySem PySem.W PyProof.Rows in
set_option maxRecDepth 100000 in
set_option maxHeartbeats 0 in
theorem PySem.Challenge.cw_borrowedmugs_k07_first_difference_holds : PySem.Challenge.rw_borrowedmugs_k07_first_difference.Holds := by
  w_on; o_law; k_head; (case hw => w_witness2)
  k_fill
  refine K07.walk (l := PySem.Challenge.rw_borrowedmugs_k07_first_difference) rfl rfl (fun w h Y => PySem.W.kIn_of Y) ?F
  case F =>
    intro w mg fa h KX G hmg
    refine' K07.all_mk K07.plain KX G hmg ?aC0 ?pg0 ?hd0 ?po0 ?sa0 ?mk0 ?kc0 ?n0_shelf ?n0_customs ?rdhC_Kitchen_MAX_MUGS ?gahC_Kitchen_MAX_MUGS ?fchC_Kitchen_MAX_MUGS ?ruhC_Kitchen_MAX_MUGS ?rdhC_Kitchen_MAX_WASHERS ?gahC_Kitchen_MAX_WASHERS ?fchC_Kitchen_MAX_WASHERS ?ruhC_Kitchen_MAX_WASHERS ?a14 ?l14 ?c14 ?k14 ?a15 ?l15 ?c15 ?k15 ?a17 ?l17 ?c17 ?k17 ?a18 ?l18 ?c18 ?k18 ?a19 ?l19 ?c19 ?k19 ?a20 ?l20 ?c20 ?k20 ?a21 ?l21 ?c21 ?k21 ?a0 ?l0 ?c0 ?k0 ?a1 ?l1 ?c1 ?k1 ?a2 ?i2 ?l2 ?c2 ?k2 ?a5 ?pq5 ?pt5 ?pr5 ?l5 ?c5 ?k5 ?a4 ?pq4 ?pt4 ?pr4 ?l4 ?c4 ?k4 ?a10 ?l10 ?c10 ?k10 ?a11 ?l11 ?c11 ?k11 ?a3 ?pq3 ?pt3 ?pr3 ?l3 ?c3 ?k3 ?a6 ?l6 ?c6 ?k6 ?a7 ?l7 ?c7 ?k7 ?a8 ?l8 ?c8 ?k8 ?a9 ?l9 ?c9 ?k9 ?a12 ?l12 ?c12 ?k12 ?a13 ?l13 ?c13 ?k13 ?a22 ?l22 ?c22 ?k22 ?z_len ?z_range ?z_tuple ?z_list ?z_isinstance ?z_str ?yhG_MAX_LETTERS ?yhG_LETTERS ?z_all ?z_enumerate ?z_zip ?z_min
    (case aC0 => k_is)
    (case pg0 => k_is)
    (case hd0 => k_is)
    (case po0 => k_is)
    (case sa0 => k_is)
    (case mk0 => k_is)
    (case kc0 => k_is)
    (case n0_shelf => k_is)
    (case n0_customs => k_is)
    (case rdhC_Kitchen_MAX_MUGS => k_is)
    (case gahC_Kitchen_MAX_MUGS => k_is)
    (case fchC_Kitchen_MAX_MUGS => k_is)
    (case ruhC_Kitchen_MAX_MUGS => exact ⟨_, rfl⟩)
    (case rdhC_Kitchen_MAX_WASHERS => k_is)
    (case gahC_Kitchen_MAX_WASHERS => k_is)
    (case fchC_Kitchen_MAX_WASHERS => k_is)
    (case ruhC_Kitchen_MAX_WASHERS => exact ⟨_, rfl⟩)
    (case a14 => k_is)
    (case l14 => k_is)
    (case c14 => k_is)
    (case k14 => k_is)
    (case a15 => k_is)
    (case l15 => k_is)
    (case c15 => k_is)
    (case k15 => k_is)
    (case a17 => k_is)
    (case l17 => k_is)
    (case c17 => k_is)
    (case k17 => k_is)
    (case a18 => k_is)
    (case l18 => k_is)
    (case c18 => k_is)
    (case k18 => k_is)
    (case a19 => k_is)
    (case l19 => k_is)
    (case c19 => k_is)
    (case k19 => k_is)
    (case a20 => k_is)
    (case l20 => k_is)
    (case c20 => k_is)
    (case k20 => k_is)
    (case a21 => k_is)
    (case l21 => k_is)
    (case c21 => k_is)
    (case k21 => k_is)
    (case a0 => k_is)
    (case l0 => k_is)
    (case c0 => k_is)
    (case k0 => k_is)
    (case a1 => k_is)
    (case l1 => k_is)
    (case c1 => k_is)
    (case k1 => k_is)
    (case a2 => k_is)
    (case i2 => k_is)
    (case l2 => k_is)
    (case c2 => k_is)
    (case k2 => k_is)
    (case a5 => k_is)
    (case pq5 => k_is)
    (case pt5 => k_is)
    (case pr5 => k_is)
    (case l5 => k_is)
    (case c5 => k_is)
    (case k5 => k_is)
    (case a4 => k_is)
    (case pq4 => k_is)
    (case pt4 => k_is)
    (case pr4 => k_is)
    (case l4 => k_is)
    (case c4 => k_is)
    (case k4 => k_is)
    (case a10 => k_is)
    (case l10 => k_is)
    (case c10 => k_is)
    (case k10 => k_is)
    (case a11 => k_is)
    (case l11 => k_is)
    (case c11 => k_is)
    (case k11 => k_is)
    (case a3 => k_is)
    (case pq3 => k_is)
    (case pt3 => k_is)
    (case pr3 => k_is)
    (case l3 => k_is)
    (case c3 => k_is)
    (case k3 => k_is)
    (case a6 => k_is)
    (case l6 => k_is)
    (case c6 => k_is)
    (case k6 => k_is)
    (case a7 => k_is)
    (case l7 => k_is)
    (case c7 => k_is)
    (case k7 => k_is)
    (case a8 => k_is)
    (case l8 => k_is)
    (case c8 => k_is)
    (case k8 => k_is)
    (case a9 => k_is)
    (case l9 => k_is)
    (case c9 => k_is)
    (case k9 => k_is)
    (case a12 => k_is)
    (case l12 => k_is)
    (case c12 => k_is)
    (case k12 => k_is)
    (case a13 => k_is)
    (case l13 => k_is)
    (case c13 => k_is)
    (case k13 => k_is)
    (case a22 => k_is)
    (case l22 => k_is)
    (case c22 => k_is)
    (case k22 => k_is)
    (case z_len => k_is)
    (case z_range => k_is)
    (case z_tuple => k_is)
    (case z_list => k_is)
    (case z_isinstance => k_is)
    (case z_str => k_is)
    (case yhG_MAX_LETTERS => k_is)
    (case yhG_LETTERS => k_is)
    (case z_all => k_is)
    (case z_enumerate => k_is)
    (case z_zip => k_is)
    (case z_min => k_is)

import PyProof.Rows.All
import Wide.All
import OpenK.AllK
import Wide.FinOn
import HandS.Call
import HandS.List
import HandS.Comp
import HandS.Iter
import HandS.More
import HandS.Exc
import HandS.ExcOwn
import HandS.ExcCtx
import HandS.Lambda
import KE.KDflt
import KE.DataFind
import HandS.Dict
import HandS.TupAny
import HandS.TupMul
import HandS.Wide
import HandS.Deep
import HandS.IsInst
import HandS.Conv
import HandS.SortInts
import HandS.Text
import HandS.OwnEq
import HandS.TupLe
import HandS.CallSlots
import HandS.Property
import HandS.ClsMeth
import HandS.Strs
import HandS.SortRule
import KE.GoesNew
import HandS.Zip
import PyProof.Rows.TupIter
import HandS.Style
import HandS.WordsExc
import HandS.New
import HandS.SetFor
import HandS.GenList
import HandS.EndTab
import HandS.TryMany
import HandS.Defaults
import HandS.ExcInit
import HandS.MakeKwOnly
import HandS.ExcIs
import HandS.ExcField
import KE.KExcIs
import HandS.Replace
import HandS.Star
import HandS.CallLocal
import HandS.HeadHook3
import KE.KDictZip
import HandS.ListItems
import KE.KDictSum
import HandS.MapSum
import PyProof.Rows.MatchSeqLen
import HandS.Hot
import HandS.HotCalls
import HandS.Finally
import HandS.TupLen
import KE.KDictWalk
import KE.KDictDisplayH
import KE.KSortTupAny
import PyProof.TupleOfStr
import HandS.WideBits
import HandS.SetTxt0
import HandS.JoinGen
import PyProof.SumAny
import KE.KSuper
import PySem.Challenge.RW_borrowedmugs_k31_habits_of_washers
set_option Elab.async false
set_option linter.all false
set_option maxRecDepth 100000
set_option maxHeartbeats 4000000
namespace Dv
open PySem PySem.Spec PyProof.Rows
open L2 hiding Takes XE CX MkP PMk ps_raise ps_try_as ps_try_many HdsOk takes_of passAt passes_call mk_of pmk_own
open L2N (Takes XE CX MkP PMk ps_raise ps_try_as ps_try_many HdsOk takes_of passAt passes_call mk_of pmk_own Zn Zn.steady)

/-! ### data -/
inductive D where
  | non | bl (b : Bool) | int (i : Int) | str (x : Str)
  | tup (xs : List D) | lst (xs : List D) | ext (xs : List D) | obj (c : Nat) (xs : List D) | res (k : Nat)
  /-- the i-th lambda of the text, made where the cells are cl -/
  | fn (i : Nat) (cl : List (Str × Addr))
  /-- a dict that no longer changes: keys that are ints and texts -/
  | dct (ks : List Key) (xs : List D)
  /-- the exception that is being handled: its class, its attributes -/
  | exn (c : Nat) (ks : List Str) (xs : List D)
  /-- the i-th def of the text -/
  | dfn (i : Nat)
  deriving Inhabited
/-- what is changed: a list, an instance -/
inductive R where
  | lst (xs : List D) | obj (c : Nat) (fs : List (Str × D))
  /-- dicts: keys that are ints and texts; keys that are tuples of these -/
  | dK (kvs : List (Key × D)) | dT (kvs : List (List Key × D))
  /-- a dict while it is walked: its object stays -/
  | dL (o : Obj) (us : List (Key × V)) (kvs : List (Key × D))
/-- an exception: its class, its attributes -/
structure Exn where
  c : Nat
  fs : Option (List (Str × D))
inductive Rs where
  | ok (d : D) (m : List R) | ex (x : Exn) (m : List R)
noncomputable abbrev Ro := List (Option D)

/-- what is fixed: the written part, the classes, the attributes of frozen instances -/
structure Lam where
  qual : Str
  params : Arguments
  body : Expr
  scope : Scope
  dfl : Bool
structure Tb where
  K : PySem.W.Frag
  cl : Nat → Addr
  nm : Nat → List Str
  /-- the lambdas of the text; the tables of code objects that may grow -/
  lams : List Lam := []
  tb : List (Addr × Str) := []
  /-- what was frozen, what could change, when the maker of closures was left -/
  bs : Hp := fun _ => none
  ba : List Addr := []
  /-- the program and its world, where dicts with tuples as keys are used -/
  kd : Option (Program × World) := none
  /-- the exception that is being handled: where it stands, its class, its dict -/
  exc : Option (Addr × Nat × Option Addr) := none
  /-- where defs stand that are handed on as values -/
  dfs : Nat → Option Addr := fun _ => none
  /-- whether what leaves a closure may have any context -/
  any : Bool := false

structure Wd where
  H : Hp
  Hs : Hp
  al : List Addr

/-- a tuple's object as the library lays it -/
noncomputable def PTo (o : Obj) : Prop := ∃ its : List Value, o = { cls := .type "tuple", data := .seq its.toArray }
noncomputable def SqN (Hs : Hp) (a : Addr) (vs : List V) : Prop := ∃ o, Hs a = some (.frz o (.tup vs)) ∧ PTo o
theorem SqN.sqT {K : PySem.W.Frag} {H : Hp} {a : Addr} {vs : List V} (h : SqN H a vs) : SqT K H a vs := let ⟨o, e, _⟩ := h; .inl (.inr ⟨o, e⟩)
/-- an object that is told; nothing else is said of it -/
noncomputable def fnU : HO := .ext fun _ => True
/-- a closure of the i-th lambda -/
noncomputable def FnAt (T : Tb) (Hs : Hp) (a : Addr) (i : Nat) (cl : List (Str × Addr)) : Prop := ∃ (L : Lam) (dV doc pm ctv : Value) (c' : Addr), T.lams[i]? = some L ∧
  Hs a = some (.frz (PySem.W.kdv_obj "<lambda>" L.qual L.params (.expr L.body) L.scope (cloFrom cl L.scope.names []) dV doc pm c' ctv) fnU) ∧ Hs c' = some (LamX.CodeO c' L.qual) ∧
  ((L.dfl = false ∧ dV = .none) ∨ (L.dfl = true ∧ ∃ t, dV = .ref t ∧ SqN Hs t [.int 0]))
/-- a dict whose keys are tuples: its own object alone (the keys' tuples are told apart) -/
noncomputable def dtO (P : Program) (w : World) (a : Addr) (vs : List (List Key × Addr × V)) : HO := .ext fun h => ∃ xs : List (List Key × Addr × Value),
  Paired (fun (p : List Key × Addr × V) (q : List Key × Addr × Value) => (p.1 = q.1 ∧ p.2.1 = q.2.1) ∧ RelV p.2.2 q.2.2) vs xs ∧
  ∃ ob ens n, h.get? a = some ob ∧ ob.ExactDict ∧ ob.data = .dict ens n ∧ (ens.toList = xs.map (entryOfKey (tupleKind (mixKind P w))) ∧ (xs.map fun q => q.1).Nodup)
section
variable (T : Tb) (Hs : Hp) (al : List Addr)
mutual
inductive Rep : V → D → Prop
  | non : Rep .non .non
  | bl (b : Bool) : Rep (.bl b) (.bl b)
  | int (i : Int) : Rep (.int i) (.int i)
  | str (x : Str) : Rep (.str x) (.str x)
  | tup {a : Addr} {vs : List V} {xs : List D} : SqN Hs a vs → RepL vs xs → Rep (.ref a) (.tup xs)
  | lst {a : Addr} {vs : List V} {xs : List D} : Hs a = some (.lst vs) → RepL vs xs → Rep (.ref a) (.lst xs)
  | ext {a : Addr} {vs : List V} {xs : List D} : SqL T.K Hs a vs → RepL vs xs → Rep (.ref a) (.ext xs)
  | obj {a dx : Addr} {c : Nat} {vfs : List (Str × V)} {xs : List D} : Hs a = some (.ins (T.cl c) dx vfs) → vfs.map (·.1) = T.nm c → RepL (vfs.map (·.2)) xs → Rep (.ref a) (.obj c xs)
  | res {a : Addr} {k : Nat} : al[k]? = some a → Rep (.ref a) (.res k)
  | fn {a : Addr} {i : Nat} {cl : List (Str × Addr)} : FnAt T Hs a i cl → Rep (.ref a) (.fn i cl)
  | dfn {a : Addr} {i : Nat} : T.dfs i = some a → Rep (.ref a) (.dfn i)
  | dct {a : Addr} {kvs : List (Key × V)} {ks : List Key} {xs : List D} : Rd Hs a (.dK kvs) → kvs.map (·.1) = ks → RepL (kvs.map (·.2)) xs → Rep (.ref a) (.dct ks xs)
  | exn0 {a : Addr} {c : Nat} : T.exc = some (a, c, none) → Rep (.ref a) (.exn c [] [])
  | exn1 {a d : Addr} {c : Nat} {vfs : List (Str × V)} {ks : List Str} {xs : List D} : T.exc = some (a, c, some d) → Hs d = some (.xd vfs) → vfs.map (·.1) = ks → RepL (vfs.map (·.2)) xs → Rep (.ref a) (.exn c ks xs)
inductive RepL : List V → List D → Prop
  | nil : RepL [] []
  | cons {v : V} {d : D} {vs : List V} {ds : List D} : Rep v d → RepL vs ds → RepL (v :: vs) (d :: ds)
end
end

noncomputable def Le (H H' : Hp) : Prop := ∀ a o, H a = some o → H' a = some o
theorem Le.refl (H : Hp) : Le H H := fun _ _ h => h
theorem Le.trans {A B C : Hp} (h : Le A B) (k : Le B C) : Le A C := fun a o e => k a o (h a o e)
theorem Le.rd {H H' : Hp} (h : Le H H') {a : Addr} {u : HO} (r : Rd H a u) : Rd H' a u := by
  rcases r with r | ⟨o, r⟩
  · exact .inl (h _ _ r)
  · exact .inr ⟨o, h _ _ r⟩
theorem Le.sqT {H H' : Hp} (h : Le H H') {K : PySem.W.Frag} {a : Addr} {vs : List V} (r : SqT K H a vs) : SqT K H' a vs := by
  rcases r with r | r
  · exact .inl (h.rd r)
  · exact .inr r
theorem Le.sqN {H H' : Hp} (h : Le H H') {a : Addr} {vs : List V} (r : SqN H a vs) : SqN H' a vs := let ⟨o, e, p⟩ := r; ⟨o, h _ _ e, p⟩
theorem Le.sqL {H H' : Hp} (h : Le H H') {K : PySem.W.Frag} {a : Addr} {vs : List V} (r : SqL K H a vs) : SqL K H' a vs := by
  rcases r with r | r
  · exact .inl (h.rd r)
  · exact .inr r
theorem Le.fnAt {H H' : Hp} (h : Le H H') {T : Tb} {a : Addr} {i : Nat} {cl : List (Str × Addr)} (r : FnAt T H a i cl) : FnAt T H' a i cl := by
  obtain ⟨L, dV, doc, pm, ctv, c', h1, h2, h3, h4⟩ := r
  refine ⟨L, dV, doc, pm, ctv, c', h1, h _ _ h2, h _ _ h3, ?_⟩
  rcases h4 with z | ⟨z, t, e, q⟩
  · exact .inl z
  · exact .inr ⟨z, t, e, h.sqN q⟩
noncomputable def LeA (al al' : List Addr) : Prop := ∀ (k : Nat) a, al[k]? = some a → al'[k]? = some a
theorem LeA.refl (al : List Addr) : LeA al al := fun _ _ h => h
theorem LeA.trans {A B C : List Addr} (h : LeA A B) (k : LeA B C) : LeA A C := fun a o e => k a o (h a o e)
theorem LeA.app (al l : List Addr) : LeA al (al ++ l) := fun k a e => by
  rw [List.getElem?_append_left (List.getElem?_eq_some_iff.mp e).1]; exact e

mutual
theorem Rep.mono {T : Tb} {Hs Hs' : Hp} {al al' : List Addr} (h : Le Hs Hs') (ha : LeA al al') : ∀ {v : V} {d : D}, Rep T Hs al v d → Rep T Hs' al' v d
  | _, _, .non => .non
  | _, _, .bl b => .bl b
  | _, _, .int b => .int b
  | _, _, .str b => .str b
  | _, _, .tup s r => .tup (h.sqN s) (RepL.mono h ha r)
  | _, _, .lst s r => .lst (h _ _ s) (RepL.mono h ha r)
  | _, _, .ext s r => .ext (h.sqL s) (RepL.mono h ha r)
  | _, _, .obj s n r => .obj (h _ _ s) n (RepL.mono h ha r)
  | _, _, .res e => .res (ha _ _ e)
  | _, _, .fn q => .fn (h.fnAt q)
  | _, _, .dfn s => .dfn s
  | _, _, .dct s n r => .dct (h.rd s) n (RepL.mono h ha r)
  | _, _, .exn0 s => .exn0 s
  | _, _, .exn1 s t n r => .exn1 s (h _ _ t) n (RepL.mono h ha r)
theorem RepL.mono {T : Tb} {Hs Hs' : Hp} {al al' : List Addr} (h : Le Hs Hs') (ha : LeA al al') : ∀ {v : List V} {d : List D}, RepL T Hs al v d → RepL T Hs' al' v d
  | _, _, .nil => .nil
  | _, _, .cons r t => .cons (Rep.mono h ha r) (RepL.mono h ha t)
end
section
variable {T : Tb} {Hs : Hp} {al : List Addr}
theorem RepL.length : ∀ {vs : List V} {ds : List D}, RepL T Hs al vs ds → vs.length = ds.length
  | _, _, .nil => rfl
  | _, _, .cons _ t => by rw [List.length_cons, List.length_cons, t.length]
theorem RepL.get : ∀ {vs : List V} {ds : List D} {i : Nat} {d : D}, RepL T Hs al vs ds → ds[i]? = some d → ∃ v, vs[i]? = some v ∧ Rep T Hs al v d
  | _, _, _, _, .nil, e => by simp at e
  | _, _, 0, _, .cons r _, e => by
    have e' := Option.some.inj e
    subst e'
    exact ⟨_, rfl, r⟩
  | _, _, i + 1, _, .cons _ t, e => by
    obtain ⟨v, h1, h2⟩ := t.get (i := i) e
    exact ⟨v, h1, h2⟩
theorem RepL.append : ∀ {vs ws : List V} {ds es : List D}, RepL T Hs al vs ds → RepL T Hs al ws es → RepL T Hs al (vs ++ ws) (ds ++ es)
  | _, _, _, _, .nil, s => s
  | _, _, _, _, .cons r t, s => .cons r (t.append s)
theorem RepL.take : ∀ {vs : List V} {ds : List D} (n : Nat), RepL T Hs al vs ds → RepL T Hs al (vs.take n) (ds.take n)
  | _, _, 0, _ => .nil
  | _, _, _ + 1, .nil => .nil
  | _, _, n + 1, .cons r t => .cons r (t.take n)
theorem RepL.drop : ∀ {vs : List V} {ds : List D} (n : Nat), RepL T Hs al vs ds → RepL T Hs al (vs.drop n) (ds.drop n)
  | _, _, 0, r => r
  | _, _, _ + 1, .nil => .nil
  | _, _, n + 1, .cons _ t => t.drop n
theorem RepL.set : ∀ {vs : List V} {ds : List D} (i : Nat) {v : V} {d : D}, RepL T Hs al vs ds → Rep T Hs al v d → RepL T Hs al (vs.set i v) (ds.set i d)
  | _, _, _, _, _, .nil, _ => .nil
  | _, _, 0, _, _, .cons _ t, q => .cons q t
  | _, _, i + 1, _, _, .cons r t, q => .cons r (t.set i q)
theorem RepL.erase : ∀ {vs : List V} {ds : List D} (i : Nat), RepL T Hs al vs ds → RepL T Hs al (vs.eraseIdx i) (ds.eraseIdx i)
  | _, _, _, .nil => .nil
  | _, _, 0, .cons _ t => t
  | _, _, i + 1, .cons r t => .cons r (t.erase i)
theorem RepL.reverse : ∀ {vs : List V} {ds : List D}, RepL T Hs al vs ds → RepL T Hs al vs.reverse ds.reverse
  | _, _, .nil => .nil
  | _, _, .cons r t => by
    rw [List.reverse_cons, List.reverse_cons]
    exact t.reverse.append (.cons r .nil)
theorem RepL.one {v : V} {d : D} (h : Rep T Hs al v d) : RepL T Hs al [v] [d] := .cons h .nil
theorem RepL.rep : ∀ {vs : List V} {ds : List D}, RepL T Hs al vs ds → ∀ k : Nat, RepL T Hs al (List.replicate k vs).flatten (List.replicate k ds).flatten
  | _, _, _, 0 => .nil
  | _, _, r, k + 1 => by
    rw [List.replicate_succ, List.replicate_succ, List.flatten_cons, List.flatten_cons]
    exact r.append (r.rep k)
theorem RepL.ints : ∀ {vs : List V} {ns : List Int}, RepL T Hs al vs (ns.map D.int) → vs = ns.map V.int
  | _, [], .nil => rfl
  | _, _ :: _, .cons (.int _) t => by rw [RepL.ints t]; rfl
theorem RepL.strs : ∀ {vs : List V} {ns : List Str}, RepL T Hs al vs (ns.map D.str) → vs = ns.map V.str
  | _, [], .nil => rfl
  | _, _ :: _, .cons (.str _) t => by rw [RepL.strs t]; rfl
theorem RepL.bls : ∀ {vs : List V} {ns : List Bool}, RepL T Hs al vs (ns.map D.bl) → vs = ns.map V.bl
  | _, [], .nil => rfl
  | _, _ :: _, .cons (.bl _) t => by rw [RepL.bls t]; rfl
theorem RepL.ofInts : ∀ (ns : List Int), RepL T Hs al (ns.map V.int) (ns.map D.int)
  | [] => .nil
  | n :: ns => .cons (.int n) (RepL.ofInts ns)
theorem RepL.ofStrs : ∀ (ns : List Str), RepL T Hs al (ns.map V.str) (ns.map D.str)
  | [] => .nil
  | n :: ns => .cons (.str n) (RepL.ofStrs ns)
theorem RepL.two {vs : List V} {d e : D} (h : RepL T Hs al vs [d, e]) : ∃ v w, vs = [v, w] ∧ Rep T Hs al v d ∧ Rep T Hs al w e := by
  cases h with
  | cons r t =>
    cases t with
    | cons r2 t2 => cases t2; exact ⟨_, _, rfl, r, r2⟩
theorem RepL.inv1 {vs : List V} {d : D} (h : RepL T Hs al vs [d]) : ∃ v, vs = [v] ∧ Rep T Hs al v d := by
  cases h with
  | cons r t => cases t; exact ⟨_, rfl, r⟩
end

/-! ### the world -/
noncomputable def RO (T : Tb) (w : Wd) (a : Addr) : R → Prop
  | .lst xs => ∃ vs, w.H a = some (.lst vs) ∧ RepL T w.Hs w.al vs xs
  | .obj c fs => ∃ dx vfs, w.H a = some (.ins (T.cl c) dx vfs) ∧ vfs.map (·.1) = fs.map (·.1) ∧ RepL T w.Hs w.al (vfs.map (·.2)) (fs.map (·.2))
  | .dK kvs => ∃ vs, w.H a = some (.dK vs) ∧ vs.map (·.1) = kvs.map (·.1) ∧ RepL T w.Hs w.al (vs.map (·.2)) (kvs.map (·.2))
  | .dL o us kvs => w.H a = some (.frz o (.dK us)) ∧ us.map (·.1) = kvs.map (·.1) ∧ RepL T w.Hs w.al (us.map (·.2)) (kvs.map (·.2))
  | .dT kvs => ∃ P w0 vs, T.kd = some (P, w0) ∧ w.H a = some (dtO P w0 a vs) ∧ vs.map (·.1) = kvs.map (·.1) ∧ RepL T w.Hs w.al (vs.map fun p => p.2.2) (kvs.map (·.2)) ∧ (∀ p ∈ vs, SqN w.Hs p.2.1 (p.1.map kV)) ∧ (a == sysModules) = false
/-- a table of code objects, all of the name q -/
noncomputable def TabW (w : Wd) (P : Addr) (q : Str) : Prop := w.Hs P = none ∧ ∃ ps : Array Value, w.H P = some (.tbl ps) ∧ TriplesOk ps.toList ∧ ∀ (pos : Pos) (cv : Value), codeAmong pos ps.toList = some cv → ∃ c, cv = .ref c ∧ w.Hs c = some (LamX.CodeO c q)
structure Wf (T : Tb) (w : Wd) (m : List R) : Prop where
  sub : Le w.Hs w.H
  len : w.al.length = m.length
  nd : w.al.Nodup
  off : ∀ a ∈ w.al, w.Hs a = none
  ok : ∀ (k : Nat) a r, w.al[k]? = some a → m[k]? = some r → RO T w a r
  tab : ∀ p ∈ T.tb, TabW w p.1 p.2
  bse : Le T.bs w.Hs ∧ LeA T.ba w.al
theorem RO.there {T : Tb} {w : Wd} {a : Addr} {r : R} (h : RO T w a r) : ∃ o, w.H a = some o := by
  cases r with
  | lst xs => obtain ⟨vs, e, _⟩ := h; exact ⟨_, e⟩
  | obj c fs => obtain ⟨dx, vfs, e, _⟩ := h; exact ⟨_, e⟩
  | dK kvs => obtain ⟨vs, e, _⟩ := h; exact ⟨_, e⟩
  | dL o us kvs => obtain ⟨e, _⟩ := h; exact ⟨_, e⟩
  | dT kvs => obtain ⟨P, w0, vs, _, e, _⟩ := h; exact ⟨_, e⟩
theorem Wf.has {T : Tb} {w : Wd} {m : List R} (W : Wf T w m) {a : Addr} (h : a ∈ w.al) : ∃ o, w.H a = some o := by
  obtain ⟨k, hk⟩ := List.getElem?_of_mem h
  have hl : k < m.length := by
    have := (List.getElem?_eq_some_iff.mp hk).1
    rw [← W.len]; exact this
  exact (W.ok k a m[k] hk (List.getElem?_eq_getElem hl)).there
theorem Wf.new {T : Tb} {w : Wd} {m : List R} (W : Wf T w m) {a : Addr} (h : w.H a = none) : a ∉ w.al := fun hm => by
  obtain ⟨o, e⟩ := W.has hm
  rw [h] at e; cases e
theorem Wf.newS {T : Tb} {w : Wd} {m : List R} (W : Wf T w m) {a : Addr} (h : w.H a = none) : w.Hs a = none := by
  cases e : w.Hs a with
  | none => rfl
  | some o => rw [W.sub _ _ e] at h; cases h
theorem Wf.at {T : Tb} {w : Wd} {m : List R} (W : Wf T w m) {k : Nat} {r : R} (h : m[k]? = some r) : ∃ a, w.al[k]? = some a ∧ RO T w a r := by
  have hl : k < w.al.length := by
    have := (List.getElem?_eq_some_iff.mp h).1
    rw [W.len]; exact this
  exact ⟨w.al[k], List.getElem?_eq_getElem hl, W.ok k _ r (List.getElem?_eq_getElem hl) h⟩

structure Ext (w w' : Wd) : Prop where
  hs : Le w.Hs w'.Hs
  al : ∃ l, w'.al = w.al ++ l ∧ ∀ a ∈ l, w.H a = none
  fr : ∀ a, w'.Hs a ≠ none → w.Hs a ≠ none ∨ w.H a = none
  keep : ∀ a o, w.H a = some o → a ∉ w.al → (∀ ps, o ≠ .tbl ps) → w'.H a = some o
  tbl : ∀ a ps, w.H a = some (.tbl ps) → ∃ more, w'.H a = some (.tbl (ps ++ more))
theorem Ext.refl (w : Wd) : Ext w w := ⟨Le.refl _, ⟨[], by simp, by simp⟩, fun _ h => .inl h, fun _ _ h _ _ => h, fun _ ps h => ⟨#[], by rw [Array.append_empty]; exact h⟩⟩
theorem Ext.leA {w w' : Wd} (e : Ext w w') : LeA w.al w'.al := by
  obtain ⟨l, h, _⟩ := e.al
  rw [h]; exact LeA.app _ _
theorem Ext.non {T : Tb} {w w' : Wd} {m' : List R} (e : Ext w w') (W : Wf T w' m') {a : Addr} (h : w'.H a = none) : w.H a = none := by
  cases q : w.H a with
  | none => rfl
  | some o =>
    by_cases ha : a ∈ w.al
    · obtain ⟨l, hl, _⟩ := e.al
      have : a ∈ w'.al := by rw [hl]; exact List.mem_append_left _ ha
      obtain ⟨o', e'⟩ := W.has this
      rw [h] at e'; cases e'
    · by_cases ht : ∃ ps, o = .tbl ps
      · obtain ⟨ps, rfl⟩ := ht
        obtain ⟨more, z⟩ := e.tbl a ps q
        rw [h] at z; cases z
      · rw [e.keep a o q ha fun ps z => ht ⟨ps, z⟩] at h; cases h
theorem Ext.trans {T : Tb} {w1 w2 w3 : Wd} {m : List R} (a : Ext w1 w2) (b : Ext w2 w3) (W : Wf T w2 m) : Ext w1 w3 := by
  obtain ⟨l1, h1, f1⟩ := a.al
  obtain ⟨l2, h2, f2⟩ := b.al
  refine ⟨a.hs.trans b.hs, ⟨l1 ++ l2, by rw [h2, h1, List.append_assoc], fun x hx => ?_⟩, fun x hx => ?_, fun x o hx hn ht => ?_, fun x ps hx => ?_⟩
  · rcases List.mem_append.mp hx with hx | hx
    · exact f1 x hx
    · exact a.non W (f2 x hx)
  · rcases b.fr x hx with h | h
    · exact a.fr x h
    · exact .inr (a.non W h)
  · refine b.keep x o (a.keep x o hx hn ht) (fun hm => ?_) ht
    rw [h1] at hm
    rcases List.mem_append.mp hm with hm | hm
    · exact hn hm
    · rw [f1 x hm] at hx; cases hx
  · obtain ⟨m1, e1⟩ := a.tbl x ps hx
    obtain ⟨m2, e2⟩ := b.tbl x _ e1
    exact ⟨m1 ++ m2, by rw [← Array.append_assoc]; exact e2⟩
theorem Rep.on {T : Tb} {w w' : Wd} {v : V} {d : D} (h : Rep T w.Hs w.al v d) (e : Ext w w') : Rep T w'.Hs w'.al v d := h.mono e.hs e.leA
theorem RepL.on {T : Tb} {w w' : Wd} {v : List V} {d : List D} (h : RepL T w.Hs w.al v d) (e : Ext w w') : RepL T w'.Hs w'.al v d := h.mono e.hs e.leA

theorem nodup_ij {α : Type} {l : List α} {i j : Nat} {x : α} (h : l.Nodup) (hi : l[i]? = some x) (hj : l[j]? = some x) : i = j := by
  obtain ⟨h1, e1⟩ := List.getElem?_eq_some_iff.mp hi
  obtain ⟨h2, e2⟩ := List.getElem?_eq_some_iff.mp hj
  have p := List.pairwise_iff_getElem.mp h
  rcases Nat.lt_trichotomy i j with k | k | k
  · exact absurd (e1.trans e2.symm) (p i j h1 h2 k)
  · exact k
  · exact absurd (e2.trans e1.symm) (p j i h2 h1 k)
/-! ### changes of the world -/
section
variable {T : Tb} {w : Wd} {m : List R}
theorem RO.mono {w' : Wd} {a : Addr} {r : R} (h : RO T w a r) (hs : Le w.Hs w'.Hs) (ha : LeA w.al w'.al) (k : ∀ o, w.H a = some o → w'.H a = some o) : RO T w' a r := by
  cases r with
  | lst xs => obtain ⟨vs, e, q⟩ := h; exact ⟨vs, k _ e, q.mono hs ha⟩
  | obj c fs => obtain ⟨dx, vfs, e, n, q⟩ := h; exact ⟨dx, vfs, k _ e, n, q.mono hs ha⟩
  | dK kvs => obtain ⟨vs, e, n, q⟩ := h; exact ⟨vs, k _ e, n, q.mono hs ha⟩
  | dL o us kvs => obtain ⟨e, n, q⟩ := h; exact ⟨k _ e, n, q.mono hs ha⟩
  | dT kvs => obtain ⟨P, w0, vs, hk, e, n, q, t, z⟩ := h; exact ⟨P, w0, vs, hk, k _ e, n, q.mono hs ha, fun p hp => hs.sqN (t p hp), z⟩
theorem le_upd {H : Hp} {p : Addr} {o : HO} (h : H p = none) : Le H (upd H p o) := fun a u e => by
  rw [upd_ne (ne_of_none e h)]; exact e
theorem tbl_le {H H' : Hp} (h : Le H H') : ∀ a ps, H a = some (.tbl ps) → ∃ more, H' a = some (.tbl (ps ++ more)) := fun a ps e => ⟨#[], by rw [Array.append_empty]; exact h _ _ e⟩
theorem TabW.on {w w' : Wd} {P : Addr} {q : Str} (t : TabW w P q) (h : ∀ ps, w.H P = some (.tbl ps) → w'.H P = some (.tbl ps)) (hs : Le w.Hs w'.Hs) (hn : ∀ ps, w.H P = some (.tbl ps) → w.Hs P = none → w'.Hs P = none := by exact fun _ _ h => h) : TabW w' P q := by
  obtain ⟨h0, ps, h1, h2, h3⟩ := t
  refine ⟨hn _ h1 h0, ps, h _ h1, h2, fun pos cv hc => ?_⟩
  obtain ⟨c, e1, e2⟩ := h3 pos cv hc
  exact ⟨c, e1, hs _ _ e2⟩
theorem LeA.tr {A B C : List Addr} (h : LeA A B) (k : LeA B C) : LeA A C := h.trans k
/-- what may change is no table -/
theorem Wf.noTbl {T : Tb} {w : Wd} {m : List R} (W : Wf T w m) {a : Addr} (h : a ∈ w.al) (ps : Array Value) : w.H a ≠ some (.tbl ps) := fun z => by
  obtain ⟨k, hk⟩ := List.getElem?_of_mem h
  have hl : k < m.length := by
    have := (List.getElem?_eq_some_iff.mp hk).1
    rw [← W.len]; exact this
  have q := W.ok k a m[k] hk (List.getElem?_eq_getElem hl)
  cases e : m[k] with
  | lst xs => rw [e] at q; obtain ⟨vs, e, _⟩ := q; rw [z] at e; cases e
  | obj c fs => rw [e] at q; obtain ⟨dx, vfs, e, _⟩ := q; rw [z] at e; cases e
  | dK kvs => rw [e] at q; obtain ⟨vs, e, _⟩ := q; rw [z] at e; cases e
  | dL o us kvs => rw [e] at q; obtain ⟨e, _⟩ := q; rw [z] at e; cases e
  | dT kvs => rw [e] at q; obtain ⟨P, w0, vs, _, e, _⟩ := q; rw [z] at e; cases e
/-- a new frozen thing -/
noncomputable def Wd.fz (w : Wd) (p : Addr) (o : HO) : Wd := ⟨upd w.H p o, upd w.Hs p o, w.al⟩
theorem Wf.fz (W : Wf T w m) {p : Addr} (o : HO) (h : w.H p = none) : Wf T (w.fz p o) m ∧ Ext w (w.fz p o) := by
  have hs := W.newS h
  have hn := W.new h
  refine ⟨⟨fun a u e => ?_, W.len, W.nd, fun a ha => ?_, fun k a r hk hr => ?_, fun q hq => (W.tab q hq).on (fun ps e => le_upd h _ _ e) (le_upd hs) (fun ps e e2 => by show upd w.Hs p o q.1 = none; rw [upd_ne (ne_of_none e h)]; exact e2), W.bse.1.trans (le_upd hs), W.bse.2⟩, ⟨le_upd hs, ⟨[], by show w.al = _; simp, by simp⟩, fun a ha => ?_, fun a u e _ _ => le_upd h a u e, tbl_le (le_upd h)⟩⟩
  · show upd w.H p o a = some u
    have e : upd w.Hs p o a = some u := e
    by_cases q : a = p
    · subst q; rw [upd_same] at e ⊢; exact e
    · rw [upd_ne q] at e ⊢; exact W.sub _ _ e
  · show upd w.Hs p o a = none
    rw [upd_ne (fun q => hn (by rw [← q]; exact ha))]; exact W.off a ha
  · exact RO.mono (W.ok k a r hk hr) (le_upd hs) (LeA.refl _) fun u e => le_upd h a u e
  · have ha : upd w.Hs p o a ≠ none := ha
    by_cases q : a = p
    · subst q; exact .inr h
    · rw [upd_ne q] at ha; exact .inl ha
/-- a new thing that may change -/
noncomputable def Wd.mu (w : Wd) (p : Addr) (o : HO) : Wd := ⟨upd w.H p o, w.Hs, w.al ++ [p]⟩
theorem Wf.mu (W : Wf T w m) {p : Addr} {o : HO} {r : R} (h : w.H p = none) (hr : RO T (w.mu p o) p r) : Wf T (w.mu p o) (m ++ [r]) ∧ Ext w (w.mu p o) := by
  have hs := W.newS h
  have hn := W.new h
  refine ⟨⟨fun a u e => ?_, ?_, ?_, fun a ha => ?_, fun k a q hk hq => ?_, fun p hp => (W.tab p hp).on (fun ps e => le_upd h _ _ e) (Le.refl _), W.bse.1, W.bse.2.trans (LeA.app _ _)⟩, ⟨Le.refl _, ⟨[p], rfl, fun a ha => ?_⟩, fun a ha => .inl ha, fun a u e _ _ => le_upd h a u e, tbl_le (le_upd h)⟩⟩
  · exact le_upd h a u (W.sub _ _ e)
  · show (w.al ++ [p]).length = _
    simp [W.len]
  · show (w.al ++ [p]).Nodup
    exact List.nodup_append.mpr ⟨W.nd, by simp, fun a ha b hb e => by
      have hb : b = p := by simpa using hb
      subst hb; subst e; exact hn ha⟩
  · have ha : a ∈ w.al ++ [p] := ha
    rcases List.mem_append.mp ha with ha | ha
    · exact W.off a ha
    · have ha : a = p := by simpa using ha
      rw [ha]; exact hs
  · have hk : (w.al ++ [p])[k]? = some a := hk
    by_cases hl : k < w.al.length
    · rw [List.getElem?_append_left hl] at hk
      rw [List.getElem?_append_left (by rw [← W.len]; exact hl)] at hq
      exact RO.mono (W.ok k a q hk hq) (Le.refl _) (LeA.app _ _) fun u e => le_upd h a u e
    · rw [List.getElem?_append_right (by omega)] at hk
      rw [List.getElem?_append_right (by rw [← W.len]; omega)] at hq
      rw [W.len] at hk
      generalize k - m.length = j at hk hq
      cases j with
      | zero =>
        have e1 : p = a := Option.some.inj hk
        have e2 : r = q := Option.some.inj hq
        subst e1; subst e2; exact hr
      | succ j => simp at hk
  · have ha : a = p := by simpa using ha
    rw [ha]; exact h
/-- a thing changes -/
noncomputable def Wd.st (w : Wd) (p : Addr) (o : HO) : Wd := ⟨upd w.H p o, w.Hs, w.al⟩
theorem Wf.st (W : Wf T w m) {p : Addr} {o : HO} {r : R} {k : Nat} (h : w.al[k]? = some p) (hr : RO T (w.st p o) p r) : Wf T (w.st p o) (m.set k r) ∧ Ext w (w.st p o) := by
  have hp : p ∈ w.al := List.mem_of_getElem? h
  have hs := W.off p hp
  have ht : ∀ a ps, w.H a = some (.tbl ps) → upd w.H p o a = some (.tbl ps) := fun a ps e => by
    rw [upd_ne (fun z => W.noTbl hp ps (by rw [← z]; exact e))]; exact e
  refine ⟨⟨fun a u e => ?_, ?_, W.nd, W.off, fun j a q hj hq => ?_, fun p hp => (W.tab p hp).on (fun ps e => ht _ ps e) (Le.refl _), W.bse⟩, ⟨Le.refl _, ⟨[], by show w.al = _; simp, by simp⟩, fun a ha => .inl ha, fun a u e hn _ => ?_, fun a ps e => ⟨#[], by rw [Array.append_empty]; exact ht a ps e⟩⟩⟩
  · show upd w.H p o a = some u
    have e : w.Hs a = some u := e
    rw [upd_ne (ne_of_none e hs)]; exact W.sub _ _ e
  · show w.al.length = _
    rw [List.length_set]; exact W.len
  · by_cases e : j = k
    · subst e
      have hj : w.al[j]? = some a := hj
      rw [h] at hj
      cases hj
      rw [List.getElem?_set_self (by rw [← W.len]; exact (List.getElem?_eq_some_iff.mp h).1)] at hq
      cases hq
      exact hr
    · rw [List.getElem?_set_ne (Ne.symm e)] at hq
      refine RO.mono (W.ok j a q hj hq) (Le.refl _) (LeA.refl _) fun u hu => ?_
      have : a ≠ p := fun z => e (by
        subst z
        exact nodup_ij W.nd hj h)
      show upd w.H p o a = some u
      rw [upd_ne this]; exact hu
  · show upd w.H p o a = some u
    rw [upd_ne (fun z => hn (by rw [z]; exact hp))]; exact e
end
end Dv

namespace Dv
open PySem PySem.Spec PyProof.Rows
open L2 hiding Takes XE CX MkP PMk ps_raise ps_try_as ps_try_many HdsOk takes_of passAt passes_call mk_of pmk_own
open L2N (Takes XE CX MkP PMk ps_raise ps_try_as ps_try_many HdsOk takes_of passAt passes_call mk_of pmk_own Zn Zn.steady)

/-! ### what is reckoned on data -/
inductive Bop where
  | add | sub | mul | fdiv | mod | pow
  deriving DecidableEq
inductive Cop where
  | eq | ne | lt | le | gt | ge | isN | notN | inn | nin | eqE | eqK
  deriving DecidableEq
inductive Bi where
  | len | list | tuple | int | str | abs | max | min | sum | sorted | all | any
  deriving DecidableEq
inductive Ty where
  | int | bool | str | tuple | list | dict | none
  deriving DecidableEq
inductive Mt where
  | append | pop | insert | extend | index | count
  deriving DecidableEq

/-- methods of texts, of one argument -/
inductive Sm where
  | index | join | split
  deriving DecidableEq
/-- the items of a list or a tuple -/
noncomputable def sq (m : List R) : D → Option (List D)
  | .tup xs => some xs
  | .lst xs => some xs
  | .ext xs => some xs
  | .res k => match m[k]? with
    | some (.lst xs) => some xs
    | _ => none
  | _ => none
/-- the items of a list -/
noncomputable def lsq (m : List R) : D → Option (List D)
  | .lst xs => some xs
  | .res k => match m[k]? with
    | some (.lst xs) => some xs
    | _ => none
  | _ => none
/-- a new list -/
noncomputable def newL (mu : Bool) (m : List R) (xs : List D) : D × List R := if mu then (.res m.length, m ++ [.lst xs]) else (.lst xs, m)

mutual
/-- data as the library compares it -/
noncomputable def pd (m : List R) : D → Option PyData
  | .non => some .none
  | .bl b => some (.bool b)
  | .int i => some (.int i)
  | .str x => if PyData.strOk x then some (.str x) else none
  | .tup xs => (pdL m xs).map .tuple
  | .lst xs => (pdL m xs).map .list
  | .ext xs => (pdL m xs).map .list
  | .obj _ _ => none
  | .res _ => none
  | .fn _ _ => none
  | .dfn _ => none
  | .dct _ _ => none
  | .exn _ _ _ => none
noncomputable def pdL (m : List R) : List D → Option (List PyData)
  | [] => some []
  | x :: xs => match pd m x, pdL m xs with
    | some a, some as => some (a :: as)
    | _, _ => none
end
/-- .. a list that may change, too -/
noncomputable def pdR (m : List R) : D → Option PyData
  | .res k => match m[k]? with
    | some (.lst xs) => (pdL m xs).map .list
    | _ => none
  | d => pd m d
noncomputable def eqD (m : List R) (a b : D) : Option Bool := match pdR m a, pdR m b with
  | some x, some y => if x.depth ≤ 64 ∧ y.depth ≤ 64 then some (PyData.eqv x y) else none
  | _, _ => none
noncomputable def inD (m : List R) (a b : D) : Option Bool :=
  match a, b with
  | .str x, .str y => some (!(Builtin.Str.occurrences y x 0 y.length 1).isEmpty)
  | a, b => match pdR m a, pdR m b with
    | some x, some (.list ys) => if x.depth ≤ 64 ∧ (PyData.list ys).depth ≤ 64 then some (ys.any fun z => PyData.eqv z x) else none
    | some x, some (.tuple ys) => if x.depth ≤ 64 ∧ (PyData.tuple ys).depth ≤ 64 then some (ys.any fun z => PyData.eqv z x) else none
    | _, _ => none

noncomputable def addD (mu : Bool) (m : List R) : D → D → Option (D × List R)
  | .int a, .int b => some (.int (a + b), m)
  | .str a, .str b => if a.length + b.length ≤ sizeLine then some (.str (a ++ b), m) else none
  | .tup a, .tup b => if a.length + b.length ≤ sizeLine then some (.tup (a ++ b), m) else none
  | a, b => match lsq m a, lsq m b with
    | some xs, some ys => if xs.length + ys.length ≤ sizeLine then some (newL mu m (xs ++ ys)) else none
    | _, _ => none
noncomputable def mulD (mu : Bool) (m : List R) : D → D → Option (D × List R)
  | .int a, .int b => if (-(2 ^ 64) < a ∧ a < 2 ^ 64) ∨ (-(2 ^ 64) < b ∧ b < 2 ^ 64) then some (.int (a * b), m) else none
  | .tup xs, .int k => if xs.isEmpty = false ∧ 2 ≤ k ∧ k ≤ 1000 ∧ xs.length ≤ 1000 then some (.tup (List.replicate k.toNat xs).flatten, m) else none
  | a, .int k => match lsq m a with
    | some xs => if -(2 ^ 63) ≤ k ∧ k < 2 ^ 63 ∧ xs.length * k.toNat ≤ sizeLine then some (newL mu m (List.replicate k.toNat xs).flatten) else none
    | none => none
  | _, _ => none
noncomputable def bopD (o : Bop) (mu : Bool) (m : List R) (a b : D) : Option (D × List R) := match o with
  | .add => addD mu m a b
  | .mul => mulD mu m a b
  | .sub => match a, b with
    | .int x, .int y => some (.int (x - y), m)
    | _, _ => none
  | .fdiv => match a, b with
    | .int x, .int y => if 0 < y ∧ y < 2 ^ 64 then some (.int (x / y), m) else none
    | _, _ => none
  | .mod => match a, b with
    | .int x, .int y => if 0 < y then some (.int (x % y), m) else none
    | _, _ => none
  | .pow => match a, b with
    | .int x, .int y => if 0 ≤ y ∧ y ≤ 1000000 ∧ x.natAbs < 2 ^ 64 then some (.int (x ^ y.toNat), m) else none
    | _, _ => none
noncomputable def ltS (a b : Str) : Bool := decide (a.cps.toList < b.cps.toList)
noncomputable def cmpI (f : Int → Int → Bool) (h : Str → Str → Bool) : D → D → Option Bool
  | .int x, .int y => some (f x y)
  | .str x, .str y => some (h x y)
  | _, _ => none
noncomputable def isNon : D → Bool
  | .non => true
  | _ => false
/-- .. == () -/
noncomputable def eqED : D → D → Option Bool
  | .tup xs, .tup [] => some xs.isEmpty
  | _, _ => none
/-- the entries of a dict whose keys are ints and texts -/
noncomputable def entD (m : List R) : D → Option (List (Key × D))
  | .dct ks xs => if ks.length = xs.length then some (ks.zip xs) else none
  | .res k => match m[k]? with
    | some (.dK kvs) => some kvs
    | _ => none
  | _ => none
/-- equal entries in the same order, of plain values -/
noncomputable def sameE : List (Key × D) → List (Key × D) → Bool
  | [], [] => true
  | (k, .int i) :: r, (l, .int j) :: t => decide (k = l) && decide (i = j) && sameE r t
  | _, _ => false
noncomputable def dcEq (m : List R) (a b : D) : Option Bool := match entD m a, entD m b with
  | some p, some q => if sameE p q = true ∧ (p.map (·.1)).Nodup then some true else none
  | _, _ => none
noncomputable def copD (o : Cop) (m : List R) (a b : D) : Option Bool := match o with
  | .eqK => match eqD m a b with
    | some r => some r
    | none => dcEq m a b
  | .eq => eqD m a b
  | .ne => (eqD m a b).map (!·)
  | .lt => cmpI (fun x y => decide (x < y)) ltS a b
  | .le => cmpI (fun x y => decide (x ≤ y)) (fun x y => !ltS y x) a b
  | .gt => cmpI (fun x y => decide (y < x)) (fun x y => ltS y x) a b
  | .ge => cmpI (fun x y => decide (y ≤ x)) (fun x y => !ltS x y) a b
  | .isN => match b with
    | .non => some (isNon a)
    | .bl y => match a with
      | .bl x => some (decide (x = y))
      | _ => none
    | _ => none
  | .notN => match b with
    | .non => some (!isNon a)
    | .bl y => match a with
      | .bl x => some (!decide (x = y))
      | _ => none
    | _ => none
  | .inn => inD m a b
  | .nin => (inD m a b).map (!·)
  | .eqE => eqED a b

noncomputable def asInts : List D → Option (List Int)
  | [] => some []
  | .int i :: r => (asInts r).map (i :: ·)
  | _ :: _ => none
noncomputable def asStrs : List D → Option (List Str)
  | [] => some []
  | .str i :: r => (asStrs r).map (i :: ·)
  | _ :: _ => none
noncomputable def asBls : List D → Option (List Bool)
  | [] => some []
  | .bl i :: r => (asBls r).map (i :: ·)
  | _ :: _ => none
/-- in order -/
noncomputable def sortI (l : List Int) : List Int := l.mergeSort fun a b => decide (a ≤ b)
/-- each once -/
noncomputable def dd : List Int → List Int
  | [] => []
  | x :: l => if x ∈ l then dd l else x :: dd l
/-- in order, each once -/
noncomputable def ssI (l : List Int) : List Int := sortI (dd l)
noncomputable def sstD (mu : Bool) (m : List R) (a : D) : Option (D × List R) := match lsq m a with
  | some xs => match asInts xs with
    | some ns => if ns.length ≤ 4000 ∧ (dd ns).length < 64 then some (newL mu m ((ssI ns).map .int)) else none
    | none => none
  | none => none
noncomputable def leS (a b : Str) : Bool := !decide (b.cps.toList < a.cps.toList)
noncomputable def sortS (l : List Str) : List Str := l.mergeSort leS
noncomputable def asIS : List D → Option (List (Int × Str))
  | [] => some []
  | .tup [.int i, .str x] :: r => (asIS r).map fun ps => (i, x) :: ps
  | _ => none
/-- the int tells the text -/
noncomputable def conIS (ps : List (Int × Str)) : Bool := ps.all fun p => ps.all fun q => !decide (p.1 = q.1) || decide (p.2 = q.2)
noncomputable def sortIS (l : List (Int × Str)) : List (Int × Str) := l.mergeSort fun a b => decide (a.1 ≤ b.1)
noncomputable def pairD (p : Int × Str) : D := .tup [.int p.1, .str p.2]
noncomputable def biD (b : Bi) (mu : Bool) (m : List R) : List D → Option (D × List R)
  | [a] => match b with
    | .len => match a with
      | .str x => if x.length ≤ sizeLine then some (.int x.length, m) else none
      | a => (sq m a).map fun xs => (.int xs.length, m)
    | .list => (sq m a).map fun xs => newL mu m xs
    | .tuple => (sq m a).map fun xs => (.tup xs, m)
    | .int => match a with
      | .int i => some (.int i, m)
      | .bl k => some (.int (if k then 1 else 0), m)
      | .str x => if x.length ≤ 640 then (PySem.intText? x).map fun i => (.int i, m) else none
      | _ => none
    | .str => match a with
      | .int i => if i.natAbs.log2 < 1920 then some (.str (toString i), m) else none
      | _ => none
    | .abs => match a with
      | .int i => some (.int (if i < 0 then -i else i), m)
      | _ => none
    | .sorted => match sq m a with
      | some xs => match asInts xs with
        | some ns => some (newL mu m ((sortI ns).map .int))
        | none => match asStrs xs with
          | some zs => if zs.length < 64 then some (newL mu m ((sortS zs).map .str)) else none
          | none => match lsq m a with
            | some ys => match asIS ys with
              | some ps => if conIS ps = true then some (newL mu m ((sortIS ps).map pairD)) else none
              | none => none
            | none => none
      | none => none
    | .max => match lsq m a with
      | some xs => match asInts xs with
        | some ns => ns.max?.map fun i => (.int i, m)
        | none => none
      | none => none
    | .min => match lsq m a with
      | some xs => match asInts xs with
        | some ns => ns.min?.map fun i => (.int i, m)
        | none => none
      | none => none
    | .sum => match lsq m a with
      | some xs => (asInts xs).map fun ns => (.int ns.sum, m)
      | none => none
    | .all => match lsq m a with
      | some xs => (asBls xs).map fun ns => (.bl (ns.all id), m)
      | none => none
    | .any => match lsq m a with
      | some xs => (asBls xs).map fun ns => (.bl (ns.any id), m)
      | none => none
  | [.int i, .int j] => match b with
    | .max => some (.int (if j > i then j else i), m)
    | .min => some (.int (if j < i then j else i), m)
    | _ => none
  | _ => none
noncomputable def tyD (m : List R) : D → Option Ty
  | .non => some .none
  | .bl _ => some .bool
  | .int _ => some .int
  | .str _ => some .str
  | .tup _ => some .tuple
  | .lst _ => some .list
  | .ext _ => some .list
  | .obj _ _ => none
  | .fn _ _ => none
  | .dfn _ => none
  | .dct _ _ => some .dict
  | .exn _ _ _ => none
  | .res k => match m[k]? with
    | some (.lst _) => some .list
    | some (.dK _) => some .dict
    | _ => none
/-- isinstance of a value of a type -/
noncomputable def tyIs : Ty → Ty → Bool
  | .bool, .int => true
  | a, b => decide (a = b)
noncomputable def isiD (m : List R) (a : D) (ts : List Ty) : Option Bool := (tyD m a).map fun t => ts.any (tyIs t)
noncomputable def ixD (m : List R) (a i : D) : Option D := match i with
  | .int i => match a with
    | .str z => if z.length ≤ sizeLine then (atI z.cps.toList i).map fun c => .str ⟨#[c]⟩ else none
    | a => (sq m a).bind fun xs => atI xs i
  | _ => none
noncomputable def cutD (xs : List D) (lo hi : Option Int) : List D := (xs.drop (HT.sIx xs.length 0 lo)).take (HT.sIx xs.length xs.length hi - HT.sIx xs.length 0 lo)
noncomputable def slD (mu : Bool) (m : List R) (a : D) (lo hi : Option Int) : Option (D × List R) := match a with
  | .tup xs => some (.tup (cutD xs lo hi), m)
  | a => (lsq m a).map fun xs => newL mu m (cutD xs lo hi)
noncomputable def rslD (m : List R) : D → D → Option (D × List R)
  | .tup xs, .int i => if i = -1 then some (.tup xs.reverse, m) else none
  | _, _ => none
/-- the list that stands at k -/
noncomputable def resL (m : List R) : D → Option (Nat × List D)
  | .res k => match m[k]? with
    | some (.lst ys) => some (k, ys)
    | _ => none
  | _ => none
noncomputable def appendD (m : List R) (a : D) : List D → Option (D × List R)
  | [x] => match resL m a with
    | some (k, ys) => if ys.length < sizeLine then some (.non, m.set k (.lst (ys ++ [x]))) else none
    | none => none
  | _ => none
noncomputable def popD (m : List R) (a : D) : List D → Option (D × List R)
  | [] => match resL m a with
    | some (k, ys) => match ys[ys.length - 1]? with
      | some y => some (y, m.set k (.lst ys.dropLast))
      | none => none
    | none => none
  | [.int i] => match resL m a with
    | some (k, ys) => if 0 ≤ i ∧ i < 2 ^ 63 then match ys[i.toNat]? with
      | some y => some (y, m.set k (.lst (ys.eraseIdx i.toNat)))
      | none => none
      else none
    | none => none
  | _ => none
noncomputable def insertD (m : List R) (a : D) : List D → Option (D × List R)
  | [.int i, y] => match resL m a with
    | some (k, ys) => if ys.length < sizeLine ∧ 0 ≤ i ∧ i < 2 ^ 63 then some (.non, m.set k (.lst (ys.take i.toNat ++ [y] ++ ys.drop i.toNat))) else none
    | none => none
  | _ => none
noncomputable def extendD (m : List R) (a : D) : List D → Option (D × List R)
  | [b] => match resL m a with
    | some (k, ys) => match lsq m b with
      | some zs => if ys.length + zs.length ≤ sizeLine then some (.non, m.set k (.lst (ys ++ zs))) else none
      | none => none
    | none => none
  | _ => none
noncomputable def indexD (m : List R) (a : D) : List D → Option (D × List R)
  | [y] => match lsq m a with
    | some xs => match pdL m xs, pdR m y with
      | some ps, some p => if (PyData.list ps).depth ≤ 64 ∧ p.depth ≤ 64 then match ps.findIdx? (fun z => PyData.eqv z p) with
        | some j => some (.int (j : Int), m)
        | none => none
        else none
      | _, _ => none
    | none => match a, y with
      | .tup xs, .str z => match asStrs xs with
        | some zs => if z ∈ zs then some (.int (zs.idxOf z : Int), m) else none
        | none => none
      | _, _ => none
  | _ => none
noncomputable def countD (m : List R) (a : D) : List D → Option (D × List R)
  | [y] => match lsq m a with
    | some xs => match pdL m xs, pdR m y with
      | some ps, some p => if PyData.plainAll ps = true ∧ p.plain = true ∧ p.depth ≤ 64 then some (.int ((ps.countP fun z => PyData.eqv z p : Nat) : Int), m) else none
      | _, _ => none
    | none => none
  | _ => none
noncomputable def sm1D (f : Sm) (m : List R) (a b : D) : Option D := match a with
  | .str x => match f with
    | .index => match b with
      | .str z => match Builtin.Str.occurrences x z 0 x.length 1 with
        | i :: _ => some (.int (i : Int))
        | [] => none
      | _ => none
    | .join => match sq m b with
      | some ys => match asStrs ys with
        | some zs => if (zs.map (·.length)).sum + zs.length * x.length ≤ 16777216 then some (.str (Str.join x zs)) else none
        | none => none
      | none => none
    | .split => match b with
      | .str z => if (z.length == 0) = false ∧ x.length + 2 ≤ sizeLine then some (.lst ((Txt.split x z).map .str)) else none
      | _ => none
  | _ => none
noncomputable def isStr : D → Bool
  | .str _ => true
  | _ => false
noncomputable def mtD (f : Mt) (m : List R) (a : D) (xs : List D) : Option (D × List R) := match f with
  | .append => appendD m a xs
  | .pop => popD m a xs
  | .insert => insertD m a xs
  | .extend => extendD m a xs
  | .index => indexD m a xs
  | .count => countD m a xs

noncomputable def isTup : D → Bool
  | .tup _ => true
  | _ => false
noncomputable def mtOk (f : Mt) (m : List R) (x : D) : Bool := (lsq m x).isSome || (decide (f = .index) && isTup x)
/-! ### dicts -/
noncomputable def keyD : D → Option Key
  | .int i => some (.inl i)
  | .str x => some (.inr x)
  | _ => none
noncomputable def keysD : List D → Option (List Key)
  | [] => some []
  | x :: xs => match keyD x, keysD xs with
    | some k, some ks => some (k :: ks)
    | _, _ => none
noncomputable def dKey : Key → D
  | .inl i => .int i
  | .inr x => .str x
section
variable {κ α : Type} [DecidableEq κ]
noncomputable def dval (kvs : List (κ × α)) (k : κ) : Option α := (kvs.find? fun kv => decide (kv.1 = k)).map (·.2)
noncomputable def dput (kvs : List (κ × α)) (k : κ) (d : α) : List (κ × α) := if (kvs.any fun kv => decide (kv.1 = k)) then kvs.map fun kv => if kv.1 = k then (kv.1, d) else kv else kvs ++ [(k, d)]
end
/-- the look-up a[k] -/
noncomputable def dgetD (m : List R) (a k : D) : Option (Option D) := match a with
  | .dct ks xs => (keyD k).map fun q => dval (ks.zip xs) q
  | .res j => match m[j]? with
    | some (.dK kvs) => (keyD k).map fun q => dval kvs q
    | some (.dT kvs) => match k with
      | .tup xs => (keysD xs).map fun q => dval kvs q
      | _ => none
    | _ => none
  | _ => none
/-- the keys, the values -/
noncomputable def dkvD (m : List R) : D → Option (List D × List D)
  | .dct ks xs => if ks.length = xs.length then some (ks.map dKey, xs) else none
  | .res j => match m[j]? with
    | some (.dK kvs) => some (kvs.map fun p => dKey p.1, kvs.map (·.2))
    | some (.dT kvs) => if kvs.length ≤ sizeLine then some (kvs.map fun p => .tup (p.1.map dKey), kvs.map (·.2)) else none
    | _ => none
  | _ => none
/-- .. the keys ints or texts -/
noncomputable def dkvI (m : List R) : D → Option (List D × List D)
  | .dct ks xs => if ks.length = xs.length then some (ks.map dKey, xs) else none
  | .res j => match m[j]? with
    | some (.dK kvs) => some (kvs.map fun p => dKey p.1, kvs.map (·.2))
    | _ => none
  | _ => none
noncomputable def dstD (m : List R) (o i d : D) : Option (List R) := match o with
  | .res j => match m[j]? with
    | some (.dK kvs) => match keyD i with
      | some q => if kvs.length < sizeLine then some (m.set j (.dK (dput kvs q d))) else none
      | none => none
    | some (.dT kvs) => match i with
      | .tup xs => match keysD xs with
        | some q => if kvs.length < sizeLine then some (m.set j (.dT (dput kvs q d))) else none
        | none => none
      | _ => none
    | _ => none
  | _ => none
/-- tuples of texts -/
noncomputable def asSL : List D → Option (List (List Str))
  | [] => some []
  | .tup xs :: r => match asStrs xs with
    | some x => (asSL r).map (x :: ·)
    | none => none
  | _ => none
/-- in order: by the first text, then by the second .. -/
noncomputable def ltSL : List Str → List Str → Bool
  | [], [] => false
  | [], _ :: _ => true
  | _ :: _, [] => false
  | a :: l, b :: m => if a = b then ltSL l m else decide (a.cps.toList < b.cps.toList)
noncomputable def leSL (a b : List Str) : Bool := !ltSL b a
noncomputable def tupSL (x : List Str) : D := .tup (x.map .str)
/-- of one length -/
noncomputable def evenSL (ls : List (List Str)) : Bool := ls.all fun l => decide (1 ≤ l.length ∧ l.length = (ls.headD []).length)
noncomputable def dsoD (mu : Bool) (m : List R) (a : D) : Option (D × List R) := match dkvD m a with
  | some (ks, _) => match asStrs ks with
    | some zs => if ks.length < 64 then some (newL mu m ((sortS zs).map .str)) else none
    | none => match asSL ks with
      | some ls => if evenSL ls = true then some (newL mu m ((ls.mergeSort leSL).map tupSL)) else none
      | none => none
  | none => none
noncomputable def dzpD (mu : Bool) (m : List R) (xs ys : List D) : Option (D × List R) := match keysD xs with
  | some ks => let kvs := (ks.zip ys).foldl (fun acc p => dput acc p.1 p.2) []
    if mu then some (.res m.length, m ++ [.dK kvs]) else some (.dct (kvs.map (·.1)) (kvs.map (·.2)), m)
  | none => none
/-- pairs as entries -/
noncomputable def asPr : List D → Option (List (Key × D))
  | [] => some []
  | .tup [k, v] :: r => match keyD k, asPr r with
    | some q, some ps => some ((q, v) :: ps)
    | _, _ => none
  | _ => none
noncomputable def dprD (mu : Bool) (m : List R) (xs : List D) : Option (D × List R) := (asPr xs).map fun ps =>
  let kvs := ps.foldl (fun acc p => dput acc p.1 p.2) []
  if mu then (.res m.length, m ++ [.dK kvs]) else (.dct (kvs.map (·.1)) (kvs.map (·.2)), m)
noncomputable def dspD (t : Bool) (m : List R) (k v : D) : Option (D × List R) := match t with
  | false => match keyD k with
    | some q => some (.res m.length, m ++ [.dK [(q, v)]])
    | none => none
  | true => match k with
    | .tup xs => match keysD xs with
      | some q => some (.res m.length, m ++ [.dT [(q, v)]])
      | none => none
    | _ => none
noncomputable def bitD (o : Bool) : D → D → Option D
  | .int a, .int b => if 0 ≤ a ∧ 0 ≤ b then some (.int ((if o then a.toNat ||| b.toNat else a.toNat &&& b.toNat : Nat) : Int)) else none
  | _, _ => none
/-- each once -/
noncomputable def ddG {α : Type} [DecidableEq α] : List α → List α
  | [] => []
  | x :: l => if x ∈ l then ddG l else x :: ddG l
/-- sorted(set(a)) of texts, of tuples of texts -/
noncomputable def sssD (w mu : Bool) (m : List R) (a : D) : Option (D × List R) := match sq m a with
  | some xs => match w with
    | false => match asStrs xs with
      | some zs => if zs.length ≤ 4000 ∧ (ddG zs).length < 64 then some (newL mu m ((sortS (ddG zs)).map .str)) else none
      | none => none
    | true => match asSL xs with
      | some ls => if ls.length ≤ 4000 ∧ (ddG ls).length < 64 ∧ evenSL ls = true then some (newL mu m (((ddG ls).mergeSort leSL).map tupSL)) else none
      | none => none
  | none => none
/-- a[::-1], a a list -/
noncomputable def rsllD (mu : Bool) (m : List R) (a : D) : D → Option (D × List R)
  | .int i => if i = -1 then (lsq m a).map fun xs => newL mu m xs.reverse else none
  | _ => none
/-- sorted(a), a a list of tuples of texts, all of one length -/
noncomputable def stlD (mu : Bool) (m : List R) (a : D) : Option (D × List R) := match lsq m a with
  | some xs => match asSL xs with
    | some ls => if ls.length ≤ 4000 ∧ evenSL ls = true then some (newL mu m ((ls.mergeSort leSL).map tupSL)) else none
    | none => none
  | none => none
/-- len(set(a)) of texts -/
noncomputable def slnD (m : List R) (a : D) : Option D := match sq m a with
  | some xs => match asStrs xs with
    | some zs => if zs.length ≤ 4000 then some (.int ((ddG zs).length : Int)) else none
    | none => none
  | none => none
/-- sum((n - x) // k + 1 for x in a if x <= n) -/
noncomputable def sgxD (n k : Int) (m : List R) (a : D) : Option D := match lsq m a with
  | some xs => match asInts xs with
    | some zs => if 0 < k ∧ k < 2 ^ 64 ∧ zs.length ≤ 4000 then some (.int (((zs.filter fun z => decide (z ≤ n)).map fun z => (n - z) / k + 1).sum)) else none
    | none => none
  | none => none
/-- pairs as entries, the keys tuples -/
noncomputable def asPrT : List D → Option (List (List Key × D))
  | [] => some []
  | .tup [.tup ks, v] :: r => match keysD ks, asPrT r with
    | some q, some ps => some ((q, v) :: ps)
    | _, _ => none
  | _ => none
noncomputable def dptD (m : List R) (xs : List D) : Option (D × List R) := match asPrT xs with
  | some ps => if ps.length ≤ 4000 then some (.res m.length, m ++ [.dT (ps.foldl (fun acc p => dput acc p.1 p.2) [])]) else none
  | none => none
/-! ### code -/
mutual
inductive E where
  | var (i : Nat)
  | cst (d : D)
  | bop (o : Bop) (mu : Bool) (a b : E)
  | neg (a : E)
  | cmp (o : Cop) (a b : E)
  | chn (o p : Cop) (a b c : E)
  | and (a b : E)
  | or (a b : E)
  | not (a : E)
  | ite (c a b : E)
  | tup (es : Es)
  | lst (mu : Bool) (es : Es)
  | ix (a b : E)
  | sl (mu : Bool) (a : E) (lo hi : Oe)
  /-- a[::k], k = -1 -/
  | rsl (a k : E)
  | cal (f : Nat) (es : Es)
  | mk (c : Nat) (es : Es)
  | bi (b : Bi) (mu : Bool) (es : Es)
  | rgl (b : Bool) (mu : Bool) (it : It)
  | isi (a : E) (ts : List Ty)
  | mth (f : Mt) (a : E) (es : Es)
  | omt (n : Str) (a : E) (es : Es)
  | att (a : E) (f : Str)
  | cmpr (mu : Bool) (elt : E) (g : G) (it : It) (cond : E) (own : List Nat)
  | lgn (f : Nat) (mu : Bool) (es : Es)
  /-- .. of one that may raise before it hands out anything (the classes that it may raise) -/
  | lgx (f : Nat) (mu : Bool) (cs : List Nat) (es : Es)
  /-- tuple(a), a a text -/
  | tps (a : E)
  /-- a[lo:hi], a a text -/
  | sls (a : E) (lo hi : Oe)
  /-- sorted(set(a)) -/
  | sst (mu : Bool) (a : E)
  /-- the i-th lambda of the text, made here -/
  | lam (i : Nat)
  /-- a call of a def that calls what it gets: by the maker of the closures; by another such def -/
  | hof (f : Nat) (es : Es)
  | hfo (f : Nat) (es : Es)
  /-- [f(x) for x in it], f such a def -/
  | hmp (f : Nat) (mu : Bool) (it : It)
  /-- e() -/
  | act (e : E)
  /-- dicts: {} (t: its keys are tuples); {k: v}; a[b]; b in a; len(a); a.get(k); a.get(k, d); list(a.values()), list(a); sorted(a); sum(a.values()); dict(zip(a, b)) -/
  | dnw (t : Bool)
  | dsp (t : Bool) (k v : E)
  | dix (a b : E)
  | din (neg : Bool) (b a : E)
  | dln (a : E)
  | dgt (a k : E)
  | dg2 (a k d : E)
  | dls (w mu : Bool) (a : E)
  | dso (mu : Bool) (a : E)
  | dsm (a : E)
  | dzp (mu : Bool) (a b : E)
  /-- sum(elt for g in it if cond) -/
  | smg (elt : E) (g : G) (it : It) (cond : E) (own : List Nat)
  /-- a | b, a & b; divmod(a, b) -/
  | bit (o : Bool) (a b : E)
  | dvm (a b : E)
  /-- a.f(b), a a text -/
  | sm1 (f : Sm) (a b : E)
  /-- [a, *t] -/
  | lss (mu : Bool) (a t : E)
  /-- a call of the def that a local holds, one of cs -/
  | clv (v : Nat) (cs : List Nat) (es : Es)
  /-- a classmethod of the class q; a call of the local v, which holds the class q -/
  | cme (q i : Nat) (es : Es)
  | clk (v q c : Nat) (es : Es)
  /-- [elt for g in it], where elt may raise -/
  | cpx (mu : Bool) (elt : E) (g : G) (it : It) (own : List Nat)
  /-- of a dict of the module with text keys: a in it; it[a] -/
  | kdi (neg : Bool) (ks : List Str) (a : E)
  | kdx (kvs : List (Str × D)) (a : E)
  /-- dict(a), a a list of pairs -/
  | dpr (mu : Bool) (a : E)
  /-- list(a.items()) -/
  | dli (mu : Bool) (a : E)
  /-- isinstance(v, C), v.f, v the exception that is being handled -/
  | eis (v c : Nat)
  | eat (v : Nat) (f : Str)
  /-- sum((c - x) // p + 1 for x in a if x <= c), c and p names of the def -/
  | sgx (c p : Nat) (a : E)
  /-- sorted(set(a)), a of texts, of tuples of texts; len(set(a)) -/
  | sss (w mu : Bool) (a : E)
  | sln (a : E)
  /-- isinstance(a, C) -/
  | isc (a : E) (q : Nat)
  /-- {k: e, ..}, the keys written; dict(a), a a list of pairs whose keys are tuples -/
  | ddm (ks : List Key) (es : Es)
  | dpt (a : E)
  /-- super().__init__(..), the def i -/
  | spi (i q : Nat) (es : Es)
  /-- a.reverse(); a[::k], a a list, k = -1; sorted(a), a a list of tuples of texts -/
  | lrv (a : E)
  | rsll (mu : Bool) (a k : E)
  | stl (mu : Bool) (a : E)
inductive Es where
  | nil | cons (e : E) (r : Es)
inductive Oe where
  | non | some (e : E)
inductive It where
  | seq (e : E) | rg1 (e : E) | rg2 (a b : E) | enu (e : E) | zip (a b : E) | ezp (a b : E)
  /-- the keys of a dict; a.items() -/
  | dky (a : E) | dit (a : E)
inductive G where
  | nm (i : Nat) | tp (gs : Gs)
inductive Gs where
  | nil | cons (g : G) (r : Gs)
end
/-- an item of what an except clause returns: a text, an attribute of the exception -/
inductive HI where
  | s (x : Str) | a (f : Str)
mutual
inductive S where
  | pass | brk | cnt | never
  | expr (e : E)
  | ret (e : E)
  | retN
  | asg (g : G) (e : E)
  | aug (i : Nat) (o : Bop) (e : E)
  | ifs (c : E) (a b : Ss)
  | whl (n : Nat) (c : E) (b : Ss)
  | forr (g : G) (it : It) (b : Ss)
  | sti (o i e : E)
  | stf (o : E) (f : Str) (e : E)
  /-- for over the call of a generator def -/
  | forg (i : Nat) (xs : Es) (g : G) (b : Ss)
  /-- raise C(a text); raise C(f = e, ..) -/
  | rse (c : Nat)
  | rsk (c : Nat) (fs : List Str) (es : Es)
  /-- try: b, then for each clause its class and what it returns -/
  | tr (b : Ss) (hs : List (Nat × List HI))
  /-- o[i] = e, o a dict; o.f += e -/
  | dst (o i e : E)
  | aua (o : E) (f : Str) (p : Bop) (e : E)
  /-- o.f, .. = e; o[i], o[j] = a, b -/
  | ata (o : E) (fs : List Str) (e : E)
  | swp (o i j a b : E)
  /-- try: b, except C as i: h -/
  | tra (b : Ss) (c i : Nat) (h : Ss)
  /-- try: b, except C: h; raise -/
  | trr (b : Ss) (c : Nat) (h : S)
  /-- try: b, except C: h, .. -/
  | trm (b : Ss) (hs : Hh)
  /-- for g in v.items(): b, v a name -/
  | fori (g : G) (v : Nat) (b : Ss)
  /-- try: b, except C as e: .., where b raises nothing -/
  | trz (b : Ss)
inductive Ss where
  | nil | cons (s : S) (r : Ss)
inductive Hh where
  | nil | cons (c : Nat) (h : Ss) (r : Hh)
end

noncomputable def Es.len : Es → Nat
  | .nil => 0
  | .cons _ r => r.len + 1
inductive SO where
  | nx (ρ : Ro) (m : List R) | rt (d : D) (m : List R) | bk (ρ : Ro) (m : List R) | ct (ρ : Ro) (m : List R) | ex (x : Exn) (ρ : Ro) (m : List R)

/-- what the names of the text mean -/
structure Gt where
  /-- a def, or a class made: by its number -/
  F : Nat → List D → List R → Option Rs
  /-- an instance of a class made -/
  new : Nat → List D → List R → Option Rs
  /-- the def of a property, a method of a class -/
  prop : Nat → Str → Option Nat
  meth : Nat → Str → Nat → Option Nat
  nm : Nat → List Str
  /-- what a generator def hands out, by its number -/
  gen : Nat → List D → List R → Option (List D × List R) := fun _ _ _ => none
  /-- a generator def with its consumer's turn: (number, turn, arguments, the consumer's names, the store) -/
  gfr : Nat → (D → Ro → List R → Option SO) → List D → Ro → List R → Option SO := fun _ _ _ _ _ => none
  /-- the cells of the frame where closures are made; what the i-th lambda does at the names ρ; what a closure does that was got -/
  fr : List (Str × Addr) := []
  lamE : Nat → Ro → List R → Option Rs := fun _ _ _ => none
  clo : Nat → List R → Option Rs := fun _ _ => none
  /-- a def that calls what it gets, by its number -/
  hof : Nat → List (Str × Addr) → (Nat → List R → Option Rs) → List D → List R → Option Rs := fun _ _ _ _ _ => none
  /-- exception classes: (the class, a class above it) -/
  sub : Nat → Nat → Option Bool := fun _ _ => none
  /-- what a generator def raises before it hands out anything -/
  gex : Nat → List D → List R → Option (Exn × List R) := fun _ _ _ => none
  /-- classes: (a class, a class above it) -/
  isc : Nat → Nat → Option Bool := fun _ _ => none

noncomputable def bnd (r : Option Rs) (f : D → List R → Option Rs) : Option Rs := match r with
  | some (.ok d m) => f d m
  | some (.ex x m) => some (.ex x m)
  | none => none
@[simp] theorem bnd_ok (d : D) (m : List R) (f : D → List R → Option Rs) : bnd (some (.ok d m)) f = f d m := rfl
@[simp] theorem bnd_ex (x : Exn) (m : List R) (f : D → List R → Option Rs) : bnd (some (.ex x m)) f = some (.ex x m) := rfl
@[simp] theorem bnd_none (f : D → List R → Option Rs) : bnd none f = none := rfl
noncomputable def okP (r : Option (D × List R)) : Option Rs := r.map fun p => .ok p.1 p.2
noncomputable def okB (m : List R) (r : Option Bool) : Option Rs := r.map fun b => .ok (.bl b) m
inductive RsL where
  | ok (ds : List D) (m : List R) | ex (x : Exn) (m : List R)
noncomputable def bndL (r : Option RsL) (f : List D → List R → Option Rs) : Option Rs := match r with
  | some (.ok d m) => f d m
  | some (.ex x m) => some (.ex x m)
  | none => none
@[simp] theorem bndL_ok (d : List D) (m : List R) (f : List D → List R → Option Rs) : bndL (some (.ok d m)) f = f d m := rfl
@[simp] theorem bndL_ex (x : Exn) (m : List R) (f : List D → List R → Option Rs) : bndL (some (.ex x m)) f = some (.ex x m) := rfl
@[simp] theorem bndL_none (f : List D → List R → Option Rs) : bndL none f = none := rfl
noncomputable def consL (r : Option Rs) (f : List R → Option RsL) : Option RsL := match r with
  | some (.ok d m) => match f m with
    | some (.ok ds m') => some (.ok (d :: ds) m')
    | some (.ex x m') => some (.ex x m')
    | none => none
  | some (.ex x m) => some (.ex x m)
  | none => none
noncomputable def bndS (r : Option Rs) (ρ : Ro) (f : D → List R → Option SO) : Option SO := match r with
  | some (.ok d m) => f d m
  | some (.ex x m) => some (.ex x ρ m)
  | none => none
noncomputable def bndLS (r : Option RsL) (ρ : Ro) (f : List D → List R → Option SO) : Option SO := match r with
  | some (.ok d m) => f d m
  | some (.ex x m) => some (.ex x ρ m)
  | none => none
@[simp] theorem bndLS_ok (ρ : Ro) (d : List D) (m : List R) (f : List D → List R → Option SO) : bndLS (some (.ok d m)) ρ f = f d m := rfl
@[simp] theorem bndS_ok (ρ : Ro) (d : D) (m : List R) (f : D → List R → Option SO) : bndS (some (.ok d m)) ρ f = f d m := rfl
@[simp] theorem bndS_ex (ρ : Ro) (x : Exn) (m : List R) (f : D → List R → Option SO) : bndS (some (.ex x m)) ρ f = some (.ex x ρ m) := rfl
@[simp] theorem bndS_none (ρ : Ro) (f : D → List R → Option SO) : bndS none ρ f = none := rfl

/-- the next turn of a loop -/
inductive Src where
  | fix (xs : List D)
  | live (k n : Nat)
  /-- what is drawn from the thing at k, which stays r -/
  | dic (k : Nat) (r : R) (xs : List D)
inductive RsI where
  | ok (s : Src) (m : List R) | ex (x : Exn) (m : List R)
noncomputable def bndI (r : Option RsI) (f : Src → List R → Option Rs) : Option Rs := match r with
  | some (.ok d m) => f d m
  | some (.ex x m) => some (.ex x m)
  | none => none
@[simp] theorem bndI_ok (d : Src) (m : List R) (f : Src → List R → Option Rs) : bndI (some (.ok d m)) f = f d m := rfl
@[simp] theorem bndI_ex (x : Exn) (m : List R) (f : Src → List R → Option Rs) : bndI (some (.ex x m)) f = some (.ex x m) := rfl
@[simp] theorem bndI_none (f : Src → List R → Option Rs) : bndI none f = none := rfl
noncomputable def toI (r : Option Rs) (f : D → List R → Option RsI) : Option RsI := match r with
  | some (.ok d m) => f d m
  | some (.ex x m) => some (.ex x m)
  | none => none
@[simp] theorem toI_ok (d : D) (m : List R) (f : D → List R → Option RsI) : toI (some (.ok d m)) f = f d m := rfl
@[simp] theorem toI_ex (x : Exn) (m : List R) (f : D → List R → Option RsI) : toI (some (.ex x m)) f = some (.ex x m) := rfl
@[simp] theorem toI_none (f : D → List R → Option RsI) : toI none f = none := rfl
noncomputable def bndSI (r : Option RsI) (ρ : Ro) (f : Src → List R → Option SO) : Option SO := match r with
  | some (.ok d m) => f d m
  | some (.ex x m) => some (.ex x ρ m)
  | none => none
@[simp] theorem bndSI_ok (ρ : Ro) (d : Src) (m : List R) (f : Src → List R → Option SO) : bndSI (some (.ok d m)) ρ f = f d m := rfl
@[simp] theorem bndSI_ex (ρ : Ro) (x : Exn) (m : List R) (f : Src → List R → Option SO) : bndSI (some (.ex x m)) ρ f = some (.ex x ρ m) := rfl
@[simp] theorem bndSI_none (ρ : Ro) (f : Src → List R → Option SO) : bndSI none ρ f = none := rfl
noncomputable def wipeD (ρ : Ro) : List Nat → Ro
  | [] => ρ
  | v :: vs => (wipeD ρ vs).set v none

mutual
noncomputable def setG : G → D → Ro → Option Ro
  | .nm i, d, ρ => some (ρ.set i (some d))
  | .tp gs, .tup ds, ρ => setGs gs ds ρ
  | .tp gs, .lst ds, ρ => setGs gs ds ρ
  | .tp _, _, _ => none
noncomputable def setGs : Gs → List D → Ro → Option Ro
  | .nil, [], ρ => some ρ
  | .cons g r, d :: ds, ρ => match setG g d ρ with
    | some ρ' => setGs r ds ρ'
    | none => none
  | _, _, _ => none
end

noncomputable def rngD (lo hi : Int) : List D := (List.range (hi - lo).toNat).map fun (i : Nat) => D.int (lo + (i : Int))
noncomputable def enuD (xs : List D) : List D := xs.zipIdx.map fun p => .tup [.int (p.2 : Int), p.1]
noncomputable def zipD (xs ys : List D) : List D := (xs.zip ys).map fun p => .tup [p.1, p.2]
noncomputable def smallI (i : Int) : Bool := decide (-(2 ^ 62) ≤ i ∧ i < 2 ^ 62)
noncomputable def signsD (z : Str) : List D := z.cps.toList.map fun c => .str ⟨#[c]⟩
/-- what enumerate and zip walk -/
noncomputable def fsq : D → Option (List D)
  | .tup xs => some xs
  | .ext xs => some xs
  | .lst xs => some xs
  | _ => none

/-- the turns of a comprehension -/
noncomputable def compL (f : D → List R → Option (Option D × List R)) : List D → List D → List R → Option (List D × List R)
  | [], acc, m => some (acc, m)
  | x :: r, acc, m => match f x m with
    | some (some y, m') => if acc.length < sizeLine then compL f r (acc ++ [y]) m' else none
    | some (none, m') => compL f r acc m'
    | none => none

/-- .. over a list that may change -/
noncomputable def compV (f : D → List R → Option (Option D × List R)) (k : Nat) : Nat → Nat → List D → List R → Option (List D × List R)
  | n, i, acc, m => match m[k]? with
    | some (.lst ys) => match ys[i]? with
      | none => some (acc, m)
      | some x => match n with
        | 0 => none
        | n + 1 => match f x m with
          | some (some y, m') => if acc.length < sizeLine then compV f k n (i + 1) (acc ++ [y]) m' else none
          | some (none, m') => compV f k n (i + 1) acc m'
          | none => none
    | _ => none
noncomputable def compD (f : D → List R → Option (Option D × List R)) (s : Src) (m : List R) : Option (List D × List R) := match s with
  | .fix xs => compL f xs [] m
  | .live k n => compV f k n 0 [] m
  | .dic _ _ _ => none
/-- a turn of a comprehension -/
noncomputable def compT (tg : G) (own : List Nat) (c e : Ro → List R → Option Rs) (ρ : Ro) (x : D) (m : List R) : Option (Option D × List R) := match setG tg x (wipeD ρ own) with
  | some ρ' => match c ρ' m with
    | some (.ok (.bl true) m) => match e ρ' m with
      | some (.ok d m) => some (some d, m)
      | _ => none
    | some (.ok (.bl false) m) => some (none, m)
    | _ => none
  | none => none
/-- a comprehension whose element may raise -/
noncomputable def cpxL (f : D → List R → Option Rs) : List D → List D → List R → Option RsL
  | [], acc, m => some (.ok acc m)
  | x :: r, acc, m => match f x m with
    | some (.ok y m') => if acc.length < sizeLine then cpxL f r (acc ++ [y]) m' else none
    | some (.ex e m') => some (.ex e m')
    | none => none
noncomputable def cpxT (tg : G) (own : List Nat) (e : Ro → List R → Option Rs) (ρ : Ro) (x : D) (m : List R) : Option Rs := match setG tg x (wipeD ρ own) with
  | some ρ' => e ρ' m
  | none => none
/-- a turn of a loop -/
noncomputable def bodyD (t : G) (k : Ro → List R → Option SO) (d : D) (ρ : Ro) (m : List R) : Option SO := match setG t d ρ with
  | some ρ' => k ρ' m
  | none => none
/-- the class of an instance -/
noncomputable def clsD (m : List R) : D → Option Nat
  | .obj c _ => some c
  | .res k => match m[k]? with
    | some (.obj c _) => some c
    | _ => none
  | _ => none
/-- .. of one that has no attribute n of its own -/
noncomputable def insD (m : List R) (n : Str) : D → Option Nat
  | .obj c _ => some c
  | .res k => match m[k]? with
    | some (.obj c gs) => match gs.lookup n with
      | none => some c
      | some _ => none
    | _ => none
  | _ => none
/-- an attribute of an instance -/
noncomputable def fldD (nm : Nat → List Str) (m : List R) (f : Str) : D → Option D
  | .obj c xs => xs[(nm c).idxOf f]?
  | .res k => match m[k]? with
    | some (.obj c gs) => if (nm c).contains f then gs.lookup f else none
    | _ => none
  | _ => none
/-- all that a generator hands out, as a list -/
noncomputable def lgnK (mu : Bool) : Option (List D × List R) → Option Rs
  | some (xs, m) => okP (some (newL mu m xs))
  | none => none
/-- .. or what it raises -/
noncomputable def lgxK (mu : Bool) (cs : List Nat) (g : Option (List D × List R)) : Option (Exn × List R) → Option Rs
  | some (x, m) => if cs.contains x.c = true then some (.ex x m) else none
  | none => lgnK mu g
/-- no exception leaves the def that calls what it gets -/
noncomputable def hofX : Option Rs → Option Rs
  | some (.ok d m) => some (.ok d m)
  | _ => none
theorem hofX_ok (d : D) (m : List R) : hofX (some (.ok d m)) = some (.ok d m) := rfl
theorem hofX_some {r : Option Rs} {o : Rs} (e : hofX r = some o) : r = some o ∧ ∃ d m, o = .ok d m := by
  cases r with
  | none => cases e
  | some q =>
    cases q with
    | ok d m => cases e; exact ⟨rfl, _, _, rfl⟩
    | ex x m => cases e
/-- a turn of [f(x) for x in ..] -/
noncomputable def hmpT (g : Gt) (f : Nat) (ρ : Ro) (d : D) (m : List R) : Option (Option D × List R) := match g.hof f g.fr (fun i m => g.lamE i ρ m) [d] m with
  | some (.ok y m) => some (some y, m)
  | _ => none
/-- a closure called -/
noncomputable def actD (g : Gt) (x : D) (m : List R) : Option Rs := match x with
  | .fn i cl => if cl = g.fr then g.clo i m else none
  | _ => none
/-- what an except clause returns -/
noncomputable def hiD (x : Exn) : List HI → Option (List D)
  | [] => some []
  | .s t :: r => (hiD x r).map fun ds => .str t :: ds
  | .a f :: r => match x.fs with
    | some fs => match fs.lookup f, hiD x r with
      | some d, some ds => some (d :: ds)
      | _, _ => none
    | none => none
noncomputable def handD (g : Gt) (x : Exn) (ρ : Ro) (m : List R) : List (Nat × List HI) → Option SO
  | [] => some (.ex x ρ m)
  | (c, is) :: r => match g.sub x.c c with
    | some true => (hiD x is).map fun ds => .rt (.tup ds) m
    | some false => handD g x ρ m r
    | none => none
/-- a walk of a dict -/
noncomputable def dicI (m : List R) (x : D) (f : List D × List D → List D) : Option RsI := match dkvD m x with
  | some p => match x with
    | .res j => match m[j]? with
      | some r => some (.ok (.dic j r (f p)) m)
      | none => none
    | _ => some (.ok (.fix (f p)) m)
  | none => none
/-- .. of the items of a dict that is locked -/
noncomputable def ditI (m : List R) (x : D) : Option RsI := match x with
  | .res j => match m[j]? with
    | some (.dL o us kvs) => some (.ok (.dic j (.dL o us kvs) (zipD (kvs.map fun p => dKey p.1) (kvs.map (·.2)))) m)
    | _ => none
  | _ => none
mutual
noncomputable def evE (g : Gt) : E → Ro → List R → Option Rs
  | .var i, ρ, m => match ρ[i]? with
    | some (some d) => some (.ok d m)
    | _ => none
  | .cst d, _, m => some (.ok d m)
  | .bop o mu a b, ρ, m => bnd (evE g a ρ m) fun x m => bnd (evE g b ρ m) fun y m => okP (bopD o mu m x y)
  | .neg a, ρ, m => bnd (evE g a ρ m) fun x m => match x with
    | .int i => some (.ok (.int (-i)) m)
    | _ => none
  | .cmp o a b, ρ, m => bnd (evE g a ρ m) fun x m => bnd (evE g b ρ m) fun y m => okB m (copD o m x y)
  | .chn o p a b c, ρ, m => bnd (evE g a ρ m) fun x m => bnd (evE g b ρ m) fun y m => match copD o m x y with
    | some true => bnd (evE g c ρ m) fun z m => okB m (copD p m y z)
    | some false => some (.ok (.bl false) m)
    | none => none
  | .and a b, ρ, m => bnd (evE g a ρ m) fun x m => match x with
    | .bl true => evE g b ρ m
    | .bl false => some (.ok (.bl false) m)
    | _ => none
  | .or a b, ρ, m => bnd (evE g a ρ m) fun x m => match x with
    | .bl false => evE g b ρ m
    | .bl true => some (.ok (.bl true) m)
    | _ => none
  | .not a, ρ, m => bnd (evE g a ρ m) fun x m => match x with
    | .bl b => some (.ok (.bl (!b)) m)
    | _ => none
  | .ite c a b, ρ, m => bnd (evE g c ρ m) fun x m => match x with
    | .bl true => evE g a ρ m
    | .bl false => evE g b ρ m
    | _ => none
  | .tup es, ρ, m => bndL (evL g es ρ m) fun ds m => if ds.length ≤ sizeLine then some (.ok (.tup ds) m) else none
  | .lst mu es, ρ, m => bndL (evL g es ρ m) fun ds m => if ds.length ≤ sizeLine then okP (some (newL mu m ds)) else none
  | .ix a b, ρ, m => bnd (evE g a ρ m) fun x m => bnd (evE g b ρ m) fun y m => (ixD m x y).map fun d => .ok d m
  | .sl mu a lo hi, ρ, m => bnd (evE g a ρ m) fun x m => evO g lo ρ m fun l m => evO g hi ρ m fun h m => okP (slD mu m x l h)
  | .rsl a k, ρ, m => bnd (evE g a ρ m) fun x m => bnd (evE g k ρ m) fun y m => okP (rslD m x y)
  | .cal f es, ρ, m => bndL (evL g es ρ m) fun ds m => g.F f ds m
  | .mk c es, ρ, m => bndL (evL g es ρ m) fun ds m => g.new c ds m
  | .bi b mu es, ρ, m => bndL (evL g es ρ m) fun ds m => okP (biD b mu m ds)
  | .rgl b mu it, ρ, m => bndI (evI g it ρ m) fun s m => match s with
    | .fix xs => if xs.length ≤ 4000 then (if b then okP (some (newL mu m xs)) else some (.ok (.tup xs) m)) else none
    | _ => none
  | .isi a ts, ρ, m => bnd (evE g a ρ m) fun x m => okB m (isiD m x ts)
  | .mth f a es, ρ, m => bnd (evE g a ρ m) fun x m => if mtOk f m x then bndL (evL g es ρ m) fun ds m => okP (mtD f m x ds) else none
  | .omt n a es, ρ, m => bnd (evE g a ρ m) fun x m => match insD m n x with
    | some c => match g.meth c n es.len with
      | some f => bndL (evL g es ρ m) fun ds m => g.F f (x :: ds) m
      | none => none
    | none => none
  | .att a f, ρ, m => bnd (evE g a ρ m) fun x m => match clsD m x with
    | some c => match g.prop c f with
      | some p => g.F p [x] m
      | none => match fldD g.nm m f x with
        | some d => some (.ok d m)
        | none => none
    | none => none
  | .cmpr mu elt tg it cond own, ρ, m => bndI (evI g it ρ m) fun s m => match compD (compT tg own (evE g cond) (evE g elt) ρ) s m with
      | some (ys, m) => okP (some (newL mu m ys))
      | none => none
  | .lss mu a t, ρ, m => bnd (evE g a ρ m) fun x m => bnd (evE g t ρ m) fun y m => match sq m y with
    | some xs => if xs.length + 1 ≤ sizeLine then okP (some (newL mu m (x :: xs))) else none
    | none => none
  | .cme q i es, ρ, m => bndL (evL g es ρ m) fun ds m => g.F i (.dfn q :: ds) m
  | .clk v q c es, ρ, m => match ρ[v]? with
    | some (some (.dfn i)) => if i = q then bndL (evL g es ρ m) fun ds m => g.new c ds m else none
    | _ => none
  | .clv v cs es, ρ, m => match ρ[v]? with
    | some (some (.dfn i)) => if cs.contains i then bndL (evL g es ρ m) fun ds m => g.F i ds m else none
    | _ => none
  | .cpx mu elt tg it own, ρ, m => bndI (evI g it ρ m) fun s m => match s with
      | .fix xs => match cpxL (cpxT tg own (evE g elt) ρ) xs [] m with
        | some (.ok ys m) => okP (some (newL mu m ys))
        | some (.ex x m) => some (.ex x m)
        | none => none
      | _ => none
  | .lgn f mu es, ρ, m => bndL (evL g es ρ m) fun ds m => lgnK mu (g.gen f ds m)
  | .sls a lo hi, ρ, m => bnd (evE g a ρ m) fun x m => evO g lo ρ m fun l m => evO g hi ρ m fun h m => match x with
    | .str z => if z.length ≤ 1000 then some (.ok (.str (L2.cutS z l h)) m) else none
    | _ => none
  | .tps a, ρ, m => bnd (evE g a ρ m) fun x m => match x with
    | .str z => if z.length ≤ 1000 then some (.ok (.tup (signsD z)) m) else none
    | _ => none
  | .lgx f mu cs es, ρ, m => bndL (evL g es ρ m) fun ds m => lgxK mu cs (g.gen f ds m) (g.gex f ds m)
  | .sst mu a, ρ, m => bnd (evE g a ρ m) fun x m => okP (sstD mu m x)
  | .lam i, _, m => some (.ok (.fn i g.fr) m)
  | .hof f es, ρ, m => bndL (evL g es ρ m) fun ds m => hofX (g.hof f g.fr (fun i m => g.lamE i ρ m) ds m)
  | .hfo f es, ρ, m => bndL (evL g es ρ m) fun ds m => hofX (g.hof f g.fr g.clo ds m)
  | .hmp f mu it, ρ, m => bndI (evI g it ρ m) fun s m => match compD (hmpT g f ρ) s m with
      | some (ys, m) => okP (some (newL mu m ys))
      | none => none
  | .act e, ρ, m => bnd (evE g e ρ m) fun x m => actD g x m
  | .dnw t, _, m => some (.ok (.res m.length) (m ++ [if t then .dT [] else .dK []]))
  | .dsp t k v, ρ, m => bnd (evE g k ρ m) fun x m => bnd (evE g v ρ m) fun y m => okP (dspD t m x y)
  | .dix a b, ρ, m => bnd (evE g a ρ m) fun x m => bnd (evE g b ρ m) fun y m => match dgetD m x y with
    | some (some d) => some (.ok d m)
    | _ => none
  | .din neg b a, ρ, m => bnd (evE g b ρ m) fun y m => bnd (evE g a ρ m) fun x m => okB m ((dgetD m x y).map fun o => if neg then !o.isSome else o.isSome)
  | .dln a, ρ, m => bnd (evE g a ρ m) fun x m => (dkvD m x).map fun p => .ok (.int (p.2.length : Int)) m
  | .dgt a k, ρ, m => bnd (evE g a ρ m) fun x m => if (dkvD m x).isSome then bnd (evE g k ρ m) fun y m => (dgetD m x y).map fun o => .ok (o.getD .non) m else none
  | .dg2 a k d, ρ, m => bnd (evE g a ρ m) fun x m => if (dkvD m x).isSome then bnd (evE g k ρ m) fun y m => bnd (evE g d ρ m) fun z m => (dgetD m x y).map fun o => .ok (o.getD z) m else none
  | .dls w mu a, ρ, m => bnd (evE g a ρ m) fun x m => okP ((if w then dkvI m x else dkvD m x).map fun p => newL mu m (if w then p.2 else p.1))
  | .dso mu a, ρ, m => bnd (evE g a ρ m) fun x m => okP (dsoD mu m x)
  | .dsm a, ρ, m => bnd (evE g a ρ m) fun x m => match dkvD m x with
    | some (_, ys) => (asInts ys).map fun ns => .ok (.int ns.sum) m
    | none => none
  | .dzp mu a b, ρ, m => bnd (evE g a ρ m) fun x m => bnd (evE g b ρ m) fun y m => match fsq x, fsq y with
    | some xs, some ys => okP (dzpD mu m xs ys)
    | _, _ => none
  | .smg elt tg it cond own, ρ, m => bndI (evI g it ρ m) fun s m => match compD (compT tg own (evE g cond) (evE g elt) ρ) s m with
      | some (ys, m) => (asInts ys).map fun ns => .ok (.int ns.sum) m
      | none => none
  | .bit o a b, ρ, m => bnd (evE g a ρ m) fun x m => bnd (evE g b ρ m) fun y m => (bitD o x y).map fun d => .ok d m
  | .dvm a b, ρ, m => bnd (evE g a ρ m) fun x m => bnd (evE g b ρ m) fun y m => match x, y with
    | .int i, .int j => if 0 < j ∧ j < 2 ^ 64 then some (.ok (.tup [.int (i / j), .int (i % j)]) m) else none
    | _, _ => none
  | .kdi neg ks a, ρ, m => bnd (evE g a ρ m) fun x m => match x with
    | .str z => some (.ok (.bl (if neg then !(ks.contains z) else ks.contains z)) m)
    | _ => none
  | .kdx kvs a, ρ, m => bnd (evE g a ρ m) fun x m => match x with
    | .str z => (kvs.lookup z).map fun d => .ok d m
    | _ => none
  | .dli mu a, ρ, m => bnd (evE g a ρ m) fun x m => okP ((dkvD m x).map fun p => newL mu m (zipD p.1 p.2))
  | .dpr mu a, ρ, m => bnd (evE g a ρ m) fun x m => match lsq m x with
    | some xs => okP (dprD mu m xs)
    | none => none
  | .sm1 f a b, ρ, m => bnd (evE g a ρ m) fun x m => if isStr x then bnd (evE g b ρ m) fun y m => (sm1D f m x y).map fun d => .ok d m else none
  | .eis v c, ρ, m => match ρ[v]? with
    | some (some (.exn c1 _ _)) => okB m (g.sub c1 c)
    | _ => none
  | .eat v f, ρ, m => match ρ[v]? with
    | some (some (.exn c ks xs)) => (g.sub c c).bind fun _ => ((ks.zip xs).lookup f).map fun d => .ok d m
    | _ => none
  | .sgx c p a, ρ, m => match ρ[c]?, ρ[p]? with
    | some (some (.int n)), some (some (.int k)) => if 0 < k ∧ k < 2 ^ 64 then bnd (evE g a ρ m) fun x m => (sgxD n k m x).map fun d => .ok d m else none
    | _, _ => none
  | .sss w mu a, ρ, m => bnd (evE g a ρ m) fun x m => okP (sssD w mu m x)
  | .sln a, ρ, m => bnd (evE g a ρ m) fun x m => (slnD m x).map fun d => .ok d m
  | .isc a q, ρ, m => bnd (evE g a ρ m) fun x m => okB m ((clsD m x).bind fun c => g.isc c q)
  | .ddm ks es, ρ, m => bndL (evL g es ρ m) fun ds m => if ks.length = ds.length ∧ ks.Nodup ∧ ks.length ≤ 100 then some (.ok (.res m.length) (m ++ [.dK (ks.zip ds)])) else none
  | .dpt a, ρ, m => bnd (evE g a ρ m) fun x m => match lsq m x with
    | some xs => okP (dptD m xs)
    | none => none
  | .lrv a, ρ, m => bnd (evE g a ρ m) fun x m => match resL m x with
    | some (k, ys) => some (.ok .non (m.set k (.lst ys.reverse)))
    | none => none
  | .rsll mu a k, ρ, m => bnd (evE g a ρ m) fun x m => bnd (evE g k ρ m) fun y m => okP (rsllD mu m x y)
  | .stl mu a, ρ, m => bnd (evE g a ρ m) fun x m => okP (stlD mu m x)
  | .spi i q es, ρ, m => match ρ[(0 : Nat)]? with
    | some (some (.res k)) => if clsD m (.res k) = some q then bndL (evL g es ρ m) fun ds m => g.F i (.res k :: ds) m else none
    | _ => none
noncomputable def evL (g : Gt) : Es → Ro → List R → Option RsL
  | .nil, _, m => some (.ok [] m)
  | .cons e r, ρ, m => consL (evE g e ρ m) fun m => evL g r ρ m
noncomputable def evO (g : Gt) : Oe → Ro → List R → (Option Int → List R → Option Rs) → Option Rs
  | .non, _, m, k => k none m
  | .some e, ρ, m, k => bnd (evE g e ρ m) fun x m => match x with
    | .int i => k (some i) m
    | _ => none
noncomputable def evI (g : Gt) : It → Ro → List R → Option RsI
  | .seq e, ρ, m => toI (evE g e ρ m) fun x m => match x with
    | .tup xs => some (.ok (.fix xs) m)
    | .lst xs => some (.ok (.fix xs) m)
    | .ext xs => some (.ok (.fix xs) m)
    | .str z => some (.ok (.fix (signsD z)) m)
    | .res j => match m[j]? with
      | some (.lst xs) => some (.ok (.live j xs.length) m)
      | _ => none
    | _ => none
  | .rg1 e, ρ, m => toI (evE g e ρ m) fun x m => match x with
    | .int i => if smallI i then some (.ok (.fix (rngD 0 i)) m) else none
    | _ => none
  | .rg2 a b, ρ, m => toI (evE g a ρ m) fun x m => toI (evE g b ρ m) fun y m => match x, y with
    | .int i, .int j => if smallI i && smallI j then some (.ok (.fix (rngD i j)) m) else none
    | _, _ => none
  | .enu e, ρ, m => toI (evE g e ρ m) fun x m => match fsq x with
    | some xs => some (.ok (.fix (enuD xs)) m)
    | none => none
  | .zip a b, ρ, m => toI (evE g a ρ m) fun x m => toI (evE g b ρ m) fun y m => match fsq x, fsq y with
    | some xs, some ys => some (.ok (.fix (zipD xs ys)) m)
    | _, _ => none
  | .ezp a b, ρ, m => toI (evE g a ρ m) fun x m => toI (evE g b ρ m) fun y m => match fsq x, fsq y with
    | some xs, some ys => some (.ok (.fix (enuD (zipD xs ys))) m)
    | _, _ => none
  | .dky a, ρ, m => toI (evE g a ρ m) fun x m => dicI m x fun p => p.1
  | .dit a, ρ, m => toI (evE g a ρ m) fun x m => ditI m x
end
/-! ### statements -/
/-- a loop over items that stand still -/
noncomputable def forF (t : D → Ro → List R → Option SO) : List D → Ro → List R → Option SO
  | [], ρ, m => some (.nx ρ m)
  | x :: xs, ρ, m => match t x ρ m with
    | some (.nx ρ m) => forF t xs ρ m
    | some (.ct ρ m) => forF t xs ρ m
    | some (.bk ρ m) => some (.nx ρ m)
    | o => o
/-- a loop over a list that may change, n turns at most -/
noncomputable def forV (t : D → Ro → List R → Option SO) (k : Nat) : Nat → Nat → Ro → List R → Option SO
  | n, i, ρ, m => match m[k]? with
    | some (.lst ys) => match ys[i]? with
      | none => some (.nx ρ m)
      | some x => match n with
        | 0 => none
        | n + 1 => match t x ρ m with
          | some (.nx ρ m) => forV t k n (i + 1) ρ m
          | some (.ct ρ m) => forV t k n (i + 1) ρ m
          | some (.bk ρ m) => some (.nx ρ m)
          | o => o
    | _ => none
/-- a loop over what is drawn from a thing that stays as it is -/
noncomputable def forK (t : D → Ro → List R → Option SO) (k : Nat) (r : R) : List D → Ro → List R → Option SO
  | [], ρ, m => open Classical in if m[k]? = some r then some (.nx ρ m) else none
  | x :: xs, ρ, m => open Classical in if m[k]? = some r then match t x ρ m with
    | some (.nx ρ m) => forK t k r xs ρ m
    | some (.ct ρ m) => forK t k r xs ρ m
    | some (.bk ρ m) => some (.nx ρ m)
    | o => o
    else none
noncomputable def forD (t : D → Ro → List R → Option SO) (s : Src) (ρ : Ro) (m : List R) : Option SO := match s with
  | .dic k r xs => forK t k r xs ρ m
  | .fix xs => forF t xs ρ m
  | .live k n => forV t k n 0 ρ m
noncomputable def whlD (c : Ro → List R → Option Rs) (t : Ro → List R → Option SO) : Nat → Ro → List R → Option SO
  | 0, _, _ => none
  | n + 1, ρ, m => bndS (c ρ m) ρ fun b m => match b with
    | .bl true => match t ρ m with
      | some (.nx ρ m) => whlD c t n ρ m
      | some (.ct ρ m) => whlD c t n ρ m
      | some (.bk ρ m) => some (.nx ρ m)
      | o => o
    | .bl false => some (.nx ρ m)
    | _ => none
noncomputable def stiD (m : List R) (o i d : D) : Option (List R) := match i with
  | .int i => match resL m o with
    | some (k, ys) => match L2.ixN ys.length i with
      | some j => some (m.set k (.lst (ys.set j d)))
      | none => none
    | none => none
  | _ => none
noncomputable def putD (f : Str) (d : D) : List (Str × D) → List (Str × D)
  | [] => [(f, d)]
  | (g, e) :: r => if g = f then (g, d) :: r else (g, e) :: putD f d r
noncomputable def stfD (g : Gt) (m : List R) (o : D) (f : Str) (d : D) : Option (List R) := match o with
  | .res k => match m[k]? with
    | some (.obj c fs) => if fs.length < 20 ∧ (g.nm c).contains f ∧ (g.prop c f).isNone then some (m.set k (.obj c (putD f d fs))) else none
    | _ => none
  | _ => none
noncomputable def stfsD (g : Gt) (o : D) : List (Str × D) → List R → Option (List R)
  | [], m => some m
  | p :: r, m => (stfD g m o p.1 p.2).bind fun m => stfsD g o r m
noncomputable def augD (o : Bop) (a b : D) : Option D := match o with
  | .add => match a, b with
    | .int x, .int y => some (.int (x + y))
    | _, _ => none
  | .sub => match a, b with
    | .int x, .int y => some (.int (x - y))
    | _, _ => none
  | .mul => match a, b with
    | .int x, .int y => if y.natAbs < 2 ^ 64 then some (.int (x * y)) else none
    | _, _ => none
  | _ => none
mutual
/-- no exception is in it -/
noncomputable def noxD : D → Bool
  | .exn _ _ _ => false
  | .tup xs => noxDL xs
  | .lst xs => noxDL xs
  | .ext xs => noxDL xs
  | .obj _ xs => noxDL xs
  | .dct _ xs => noxDL xs
  | _ => true
noncomputable def noxDL : List D → Bool
  | [] => true
  | x :: xs => noxD x && noxDL xs
end
noncomputable def exnD (x : Exn) : D := match x.fs with
  | none => .exn x.c [] []
  | some fs => .exn x.c (fs.map (·.1)) (fs.map (·.2))
/-- the end of an except suite: it returns, nothing has changed -/
noncomputable def traK (m : List R) : Option SO → Option SO
  | some (.rt d m') => open Classical in if noxD d = true ∧ m' = m then some (.rt d m) else none
  | _ => none
/-- behind the suite of an except clause: nothing is raised there -/
noncomputable def trmK : Option SO → Option SO
  | some (.ex _ _ _) => none
  | o => o
/-- behind the suite of an except clause that raises on -/
noncomputable def trrK (x : Exn) : Option SO → Option SO
  | some (.nx ρ m) => some (.ex x ρ m)
  | _ => none
/-- what o.f += e reads -/
noncomputable def auaR (g : Gt) (m : List R) (o : D) (f : Str) : Option D := match clsD m o with
  | some c => match g.prop c f with
    | some _ => none
    | none => fldD g.nm m f o
  | none => none
/-- a loop over a dict's items: whatever its object is, the loop does the same -/
noncomputable def foriK (t : D → Ro → List R → Option SO) (k : Nat) (kvs : List (Key × D)) (ρ : Ro) (m : List R) : Option SO :=
  open Classical in if h : ∃ p : Ro × List R, p.2[k]? = some (.dK kvs) ∧ ∀ o us, forK t k (.dL o us kvs) (zipD (kvs.map fun p => dKey p.1) (kvs.map (·.2))) ρ (m.set k (.dL o us kvs)) = some (.nx p.1 (p.2.set k (.dL o us kvs))) then some (.nx h.choose.1 h.choose.2) else none
mutual
noncomputable def evS (g : Gt) : S → Ro → List R → Option SO
  | .pass, ρ, m => some (.nx ρ m)
  | .brk, ρ, m => some (.bk ρ m)
  | .cnt, ρ, m => some (.ct ρ m)
  | .never, _, _ => none
  | .expr e, ρ, m => bndS (evE g e ρ m) ρ fun _ m => some (.nx ρ m)
  | .ret e, ρ, m => bndS (evE g e ρ m) ρ fun d m => some (.rt d m)
  | .retN, _, m => some (.rt .non m)
  | .asg t e, ρ, m => bndS (evE g e ρ m) ρ fun d m => (setG t d ρ).map fun ρ' => .nx ρ' m
  | .aug i o e, ρ, m => match ρ[i]? with
    | some (some x) => bndS (evE g e ρ m) ρ fun y m => (augD o x y).map fun z => .nx (ρ.set i (some z)) m
    | _ => none
  | .ifs c a b, ρ, m => bndS (evE g c ρ m) ρ fun x m => match x with
    | .bl true => evSs g a ρ m
    | .bl false => evSs g b ρ m
    | _ => none
  | .whl n c b, ρ, m => whlD (evE g c) (evSs g b) n ρ m
  | .forr t it b, ρ, m => bndSI (evI g it ρ m) ρ fun s m => forD (bodyD t (evSs g b)) s ρ m
  | .sti o i e, ρ, m => bndS (evE g e ρ m) ρ fun d m => bndS (evE g o ρ m) ρ fun x m => bndS (evE g i ρ m) ρ fun j m => (stiD m x j d).map fun m => .nx ρ m
  | .ata o fs e, ρ, m => bndS (evE g e ρ m) ρ fun d m => match d with
    | .tup ds => if ds.length = fs.length then bndS (evE g o ρ m) ρ fun x m => (stfsD g x (fs.zip ds) m).map fun m => .nx ρ m else none
    | _ => none
  | .swp o i j a b, ρ, m => bndS (evE g a ρ m) ρ fun x m => bndS (evE g b ρ m) ρ fun y m => bndS (evE g o ρ m) ρ fun z m => bndS (evE g i ρ m) ρ fun u m => match stiD m z u x with
    | some m => bndS (evE g j ρ m) ρ fun v m => (stiD m z v y).map fun m => .nx ρ m
    | none => none
  | .stf o f e, ρ, m => bndS (evE g e ρ m) ρ fun d m => bndS (evE g o ρ m) ρ fun x m => (stfD g m x f d).map fun m => .nx ρ m
  | .forg i xs t b, ρ, m => bndLS (evL g xs ρ m) ρ fun ds m => g.gfr i (bodyD t (evSs g b)) ds ρ m
  | .rse c, ρ, m => some (.ex ⟨c, none⟩ ρ m)
  | .rsk c fs es, ρ, m => bndLS (evL g es ρ m) ρ fun ds m => some (.ex ⟨c, some (fs.zip ds).reverse⟩ ρ m)
  | .tr b hs, ρ, m => match evSs g b ρ m with
    | some (.ex x ρ m) => handD g x ρ m hs
    | o => o
  | .tra b c i h, ρ, m => match evSs g b ρ m with
    | some (.ex x ρ m) => match g.sub x.c c with
      | some true => traK m (evSs g h (ρ.set i (some (exnD x))) m)
      | some false => some (.ex x ρ m)
      | none => none
    | o => o
  | .trr b c h, ρ, m => match evSs g b ρ m with
    | some (.ex x ρ m) => match g.sub x.c c with
      | some true => trrK x (evS g h ρ m)
      | some false => some (.ex x ρ m)
      | none => none
    | o => o
  | .trm b hs, ρ, m => match evSs g b ρ m with
    | some (.ex x ρ m) => evH g hs x ρ m
    | o => o
  | .trz b, ρ, m => match evSs g b ρ m with
    | some (.ex _ _ _) => none
    | o => o
  | .fori tg v b, ρ, m => match ρ[v]? with
    | some (some (.res k)) => match m[k]? with
      | some (.dK kvs) => foriK (bodyD tg (evSs g b)) k kvs ρ m
      | _ => none
    | _ => none
  | .dst o i e, ρ, m => bndS (evE g e ρ m) ρ fun d m => bndS (evE g o ρ m) ρ fun x m => bndS (evE g i ρ m) ρ fun j m => (dstD m x j d).map fun m => .nx ρ m
  | .aua o f p e, ρ, m => bndS (evE g o ρ m) ρ fun x m => match auaR g m x f with
    | some v => bndS (evE g e ρ m) ρ fun y m' => if clsD m' x = clsD m x then match augD p v y with
      | some z => (stfD g m' x f z).map fun m => .nx ρ m
      | none => none else none
    | none => none
noncomputable def evSs (g : Gt) : Ss → Ro → List R → Option SO
  | .nil, ρ, m => some (.nx ρ m)
  | .cons s r, ρ, m => match evS g s ρ m with
    | some (.nx ρ m) => evSs g r ρ m
    | o => o
noncomputable def evH (g : Gt) : Hh → Exn → Ro → List R → Option SO
  | .nil, x, ρ, m => some (.ex x ρ m)
  | .cons c h r, x, ρ, m => match g.sub x.c c with
    | some true => trmK (evSs g h ρ m)
    | some false => evH g r x ρ m
    | none => none
end
end Dv

namespace Dv
open PySem PySem.Spec PyProof.Rows HT
open L2 hiding Takes XE CX MkP PMk ps_raise ps_try_as ps_try_many HdsOk takes_of passAt passes_call mk_of pmk_own
open L2N (Takes XE CX MkP PMk ps_raise ps_try_as ps_try_many HdsOk takes_of passAt passes_call mk_of pmk_own Zn Zn.steady)
/-! tuples, their objects told -/
section
variable {X : Cx} {pins : List (Addr × Obj)} {σ : L2.St} {H : Hp} {s : Shared}
/-- a new tuple is laid -/
theorem laidT (I : Inv X pins σ H s) {xs : List V} {us : List Value} {t' : Nat} (r : Vals xs us) (hz : xs.length ≤ sizeLine) :
    Inv X pins σ (upd H s.heap.objs.size (.frz { cls := .type "tuple", data := .seq us.toArray } (.tup xs))) { s with heap := s.heap.push { cls := .type "tuple", data := .seq us.toArray }, toks := t' } :=
  I.laid (t' := t') (fun b u e => Heap.get?_push_of_some _ e) (Nat.le_refl _) ⟨Heap.get?_push_size _ rfl, hz, us, r, IsTup.new _ _⟩
end
section
variable {X : Cx} {es : List Expr} {t : TA} {pos : Pos}
noncomputable def tTupF (t : TA) : TE := fun σ H Q => t σ H fun xs H1 => xs.length ≤ sizeLine ∧ ∀ p o, H1 p = none → PTo o → Q (.ref p) (upd H1 p (.frz o (.tup xs)))
theorem pe_tupF {x1} (h : PA X es t) : PE X (.Tuple es x1 pos) (tTupF t) := by
  refine ⟨fun pins s σ H Q I hq => ?_⟩
  refine wpAny_Tuple_spliced (thn (h.run pos pins s σ H _ I hq) fun us s1 ⟨xs, H1, I1, r, z, q⟩ => ⟨by rw [← r.length]; exact z, ?_⟩)
  exact ⟨.ref s1.heap.objs.size, _, laidT (t' := s1.toks) I1 r z, rfl, q _ _ (I1.hok.fresh (Nat.le_refl _)) ⟨us, rfl⟩⟩
/-- tuple(x) -/
theorem call_tupleF : CallR X (.type "tuple") (fun xs H Q => ∃ p ys, xs = [.ref p] ∧ ((SqL X.K H p ys ∧ ∀ l o, H l = none → PTo o → Q (.ref l) (upd H l (.frz o (.tup ys)))) ∨ (SqT X.K H p ys ∧ Q (.ref p) H))) := by
  intro pins s σ H xs us Q I r h
  obtain ⟨p, ys, rfl, h⟩ := h
  obtain ⟨u, rfl, rx⟩ := vals1 r
  cases rx
  rcases h with ⟨hq, q⟩ | ⟨hq, q⟩
  · obtain ⟨its, r', pl, hz⟩ := I.list hq
    have hlen := r'.length
    refine call_tuple_list pl.isList (fun h' kp => ?_) (by simp only [List.size_toArray] <;> omega)
    have I1 : Inv X pins σ H { s with heap := h' } := I.kept (t' := s.toks) kp
    exact ⟨.ref h'.objs.size, _, laidT (t' := s.toks) I1 r' hz, rfl, q _ _ (I1.hok.fresh (Nat.le_refl _)) ⟨its, rfl⟩⟩
  · obtain ⟨its, r', pl, hz⟩ := I.tuple hq
    exact call_tuple_same pl ⟨.ref p, H, I, rfl, q⟩
/-- t + u -/
noncomputable def rCatF (K : PySem.W.Frag) : R2 := fun x y H Q => ∃ a b xs ys, x = .ref a ∧ y = .ref b ∧ SqT K H a xs ∧ SqT K H b ys ∧ xs.length + ys.length ≤ sizeLine ∧
  (xs = [] → Q (.ref b) H) ∧ (xs ≠ [] → ys = [] → Q (.ref a) H) ∧ (xs ≠ [] → ys ≠ [] → ∀ p o, H p = none → PTo o → Q (.ref p) (upd H p (.frz o (.tup (xs ++ ys)))))
theorem op_catF : OpR X (binaryOp .Add) (rCatF X.K) := by
  intro pins s σ H x y v u Q I rx ry h
  obtain ⟨a, b, xs, ys, rfl, rfl, ha, hb, hz, q0, q1, q2⟩ := h
  by_cases hx : xs = []
  · subst hx
    cases rx
    cases ry
    obtain ⟨its, r1, p1, _⟩ := I.tuple ha
    obtain ⟨its2, r2, p2, _⟩ := I.tuple hb
    cases r1
    exact cat_tup0 p1 p2 ⟨.ref b, H, I, rfl, q0 rfl⟩
  · cases rx
    cases ry
    obtain ⟨its, r1, p1, z1⟩ := I.tuple ha
    obtain ⟨its2, r2, p2, z2⟩ := I.tuple hb
    have n1 : its ≠ [] := fun e => hx (r1.nil_iff.mp e)
    refine HT.cat_tup p1 p2 n1 (fun e => ⟨.ref a, H, I, rfl, q1 hx (r2.nil_iff.mp e)⟩) (fun e => ?_) (by rw [← r1.length, ← r2.length]; exact hz)
    exact ⟨.ref s.heap.objs.size, _, laidT (t' := s.toks) I (r1.append r2) (by rw [List.length_append]; exact hz), rfl, q2 hx (fun z => e (r2.nil_iff.mpr z)) _ _ (I.hok.fresh (Nat.le_refl _)) ⟨_, rfl⟩⟩
/-- t * k, both of some size -/
noncomputable def rMulF (K : PySem.W.Frag) : R2 := fun x y H Q => ∃ a k xs, x = .ref a ∧ y = .int k ∧ SqT K H a xs ∧ (xs ≠ [] ∧ 2 ≤ k ∧ k ≤ 1000 ∧ xs.length ≤ 1000) ∧
  ∀ p o, H p = none → PTo o → Q (.ref p) (upd H p (.frz o (.tup (List.replicate k.toNat xs).flatten)))
theorem op_mulF : OpR X (binaryOp .Mult) (rMulF X.K) := by
  intro pins s σ H x y v u Q I rx ry h
  obtain ⟨a, k, xs, rfl, rfl, hT, ⟨ne, k2, k1000, x1000⟩, q⟩ := h
  cases rx
  obtain ⟨tk, rfl⟩ := ry
  obtain ⟨ws, r, ⟨⟨cl, dd, da, sl⟩, ho, hc, n, hd⟩, -⟩ := I.tuple hT
  dsimp only at hc hd
  subst hc; subst hd
  have hl := r.length
  have hw : ws ≠ [] := fun e => ne (r.nil_iff.mp e)
  have z : ws.toArray.size = xs.length := by rw [List.size_toArray]; exact hl.symm
  have full : ws.toArray.isEmpty = false := by
    cases ws with
    | nil => exact absurd rfl hw
    | cons _ _ => rfl
  have small : (xs.length : Int) * k ≤ 1000000 := by
    have := Int.mul_le_mul_of_nonneg_right (show (xs.length : Int) ≤ 1000 by omega) (show 0 ≤ k by omega)
    omega
  have room : k.toNat * xs.length ≤ 16000000 := Nat.le_trans (Nat.mul_le_mul (show k.toNat ≤ 1000 by omega) x1000) (by decide)
  have room' : (List.replicate k.toNat ws).flatten.length ≤ sizeLine := by
    rw [PyProof.Rows.lm_len_rep_flat, ← hl, sizeLine_eq]
    omega
  have t4 : Builtin.Tuple.tupleTooMany ((ws.toArray.size : Int) * k) = false := decide_eq_false (by rw [z, sizeLine_eq]; omega)
  have go := tuple_mulW a ws.toArray n dd sl k tk (by simp only [Bool.or_eq_false_iff, decide_eq_false_iff_not]; omega) (by simp only [full, Bool.false_or, beq_eq_false_iff_ne]; omega)
    (by simp only [full, Bool.or_false, decide_eq_false_iff_not]; omega) (by rw [z]; omega) t4 (by rw [size_rep, List.size_toArray]; exact room')
  refine wpAny_binaryOp_repeat_ref (T := "tuple") (U := "int") (by decide) ⟨_, ho, rfl⟩ (typeIs_int · k tk) noFill_tuple_mul F.fills_int_mul F.slot_int_rmul repeat_tuple F.slot_int_index.lookup ?_
  refine call_meets F.slot_int_rmul (typeIs_int s k tk) F.entry_int_rmul (F.args_int_rmul_2 _ _) (int_rmul_tuple k tk a ws.toArray n dd sl) ⟨ho, rfl, ⟨_, ho, rfl⟩, ?_⟩
  refine call_meets F.slot_tuple_mul ⟨_, ho, rfl⟩ F.entry_tuple_mul (F.args_tuple_mul_2 _ _) go ⟨ho, ?_⟩
  rw [size_rep]
  exact ⟨.ref s.heap.objs.size, _, laidT (t' := s.toks) I (r.rep k.toNat) (by rw [PyProof.Rows.lm_len_rep_flat, sizeLine_eq]; omega), rfl, q _ _ (I.hok.fresh (Nat.le_refl _)) ⟨_, rfl⟩⟩
/-- the objects of tuples laid by a rule of the layer: told again -/
theorem PTo.of {o : Obj} {us : List Value} (h : o = { cls := .type "tuple", data := .seq us.toArray }) : PTo o := ⟨us, h⟩
end
end Dv

namespace Dv
open PySem PySem.Spec PyProof.Rows
open L2 hiding Takes XE CX MkP PMk ps_raise ps_try_as ps_try_many HdsOk takes_of passAt passes_call mk_of pmk_own
open L2N (Takes XE CX MkP PMk ps_raise ps_try_as ps_try_many HdsOk takes_of passAt passes_call mk_of pmk_own Zn Zn.steady)

section
variable {T : Tb} {w : Wd} {m : List R}
theorem lsq_rep (W : Wf T w m) {d : D} {v : V} {xs : List D} (h : Rep T w.Hs w.al v d) (e : lsq m d = some xs) : ∃ a vs, v = .ref a ∧ w.H a = some (.lst vs) ∧ RepL T w.Hs w.al vs xs := by
  cases h with
  | lst s r =>
    have e' := Option.some.inj e
    subst e'
    exact ⟨_, _, rfl, W.sub _ _ s, r⟩
  | @res a k hk =>
    unfold lsq at e
    simp only at e
    split at e
    · rename_i ys hm
      cases e
      obtain ⟨vs, h1, h2⟩ := W.ok k a _ hk hm
      exact ⟨_, _, rfl, h1, h2⟩
    · cases e
  | _ => cases e
theorem sq_rep (W : Wf T w m) {d : D} {v : V} {xs : List D} (h : Rep T w.Hs w.al v d) (e : sq m d = some xs) : ∃ a vs, v = .ref a ∧ (SqL T.K w.H a vs ∨ SqT T.K w.H a vs) ∧ RepL T w.Hs w.al vs xs := by
  cases h with
  | tup s r =>
    have e' := Option.some.inj e
    subst e'
    exact ⟨_, _, rfl, .inr (Le.sqN W.sub s).sqT, r⟩
  | lst s r =>
    have e' := Option.some.inj e
    subst e'
    exact ⟨_, _, rfl, .inl (SqL.of (W.sub _ _ s)), r⟩
  | ext s r =>
    have e' := Option.some.inj e
    subst e'
    exact ⟨_, _, rfl, .inl (Le.sqL W.sub s), r⟩
  | @res a k hk =>
    unfold sq at e
    simp only at e
    split at e
    · rename_i ys hm
      cases e
      obtain ⟨vs, h1, h2⟩ := W.ok k a _ hk hm
      exact ⟨_, _, rfl, .inl (SqL.of h1), h2⟩
    · cases e
  | _ => cases e

/-- a new list, by its readings' place -/
theorem new_list (W : Wf T w m) {mu : Bool} {vs : List V} {xs : List D} (r : RepL T w.Hs w.al vs xs) {Q : VK} {p : Addr} (hp : w.H p = none)
    (q : ∀ w' v, Ext w w' → Wf T w' (newL mu m xs).2 → Rep T w'.Hs w'.al v (newL mu m xs).1 → Q v w'.H) : Q (.ref p) (upd w.H p (.lst vs)) := by
  cases mu with
  | false =>
    obtain ⟨W', e⟩ := W.fz (.lst vs) hp
    exact q (w.fz p (.lst vs)) _ e W' (.lst (by show upd w.Hs p _ p = _; rw [upd_same]) (r.on e))
  | true =>
    have hr : RO T (w.mu p (.lst vs)) p (.lst xs) := ⟨vs, by show upd w.H p _ p = _; rw [upd_same], r.mono (Le.refl _) (LeA.app _ _)⟩
    obtain ⟨W', e⟩ := W.mu hp hr
    refine q (w.mu p (.lst vs)) _ e W' (.res ?_)
    show (w.al ++ [p])[m.length]? = some p
    rw [← W.len]
    simp
theorem new_tup (W : Wf T w m) {vs : List V} {xs : List D} (r : RepL T w.Hs w.al vs xs) {Q : VK} {p : Addr} {o : Obj} (hp : w.H p = none) (ho : PTo o)
    (q : ∀ w' v, Ext w w' → Wf T w' m → Rep T w'.Hs w'.al v (.tup xs) → Q v w'.H) : Q (.ref p) (upd w.H p (.frz o (.tup vs))) := by
  obtain ⟨W', e⟩ := W.fz (.frz o (.tup vs)) hp
  exact q (w.fz p (.frz o (.tup vs))) _ e W' (.tup ⟨o, by show upd w.Hs p _ p = _; rw [upd_same], ho⟩ (r.on e))
end

/-- a binary operator's reading does what g says -/
noncomputable def OpS (T : Tb) (r : R2) (g : List R → D → D → Option (D × List R)) : Prop :=
  ∀ (w : Wd) (m : List R) (x y : V) (dx dy : D) (p : D × List R) (Q : VK), Wf T w m → Rep T w.Hs w.al x dx → Rep T w.Hs w.al y dy → g m dx dy = some p →
    (∀ w' v, Ext w w' → Wf T w' p.2 → Rep T w'.Hs w'.al v p.1 → Q v w'.H) → r x y w.H Q
theorem OpS.here {T : Tb} {w : Wd} {m : List R} {Q : VK} {d : D} {v : V} (W : Wf T w m) (q : ∀ w' v, Ext w w' → Wf T w' m → Rep T w'.Hs w'.al v d → Q v w'.H) (h : Rep T w.Hs w.al v d) : Q v w.H := q w v (Ext.refl _) W h

section
variable {T : Tb}
noncomputable def rAdd4 (K : PySem.W.Frag) : R2 := fun x y H Q => (rI0 fun i j => .int (i + j)) x y H Q ∨ ((fun x y H Q => ∃ i j, x = .str i ∧ y = .str j ∧ i.length + j.length ≤ sizeLine ∧ Q (.str (i ++ j)) H) : R2) x y H Q ∨ rCatF K x y H Q ∨ rCat x y H Q
theorem op_add4 {X : Cx} : OpR X (binaryOp .Add) (rAdd4 X.K) := OpR.or op_add (OpR.or op_add_str (OpR.or op_catF op_cat))
theorem addD_lists {mu : Bool} {m : List R} {a b : D} {p : D × List R} (e : (match lsq m a, lsq m b with
    | some xs, some ys => if xs.length + ys.length ≤ sizeLine then some (newL mu m (xs ++ ys)) else none
    | _, _ => none) = some p) : ∃ xs ys, lsq m a = some xs ∧ lsq m b = some ys ∧ xs.length + ys.length ≤ sizeLine ∧ p = newL mu m (xs ++ ys) := by
  split at e
  · rename_i xs ys h1 h2
    split at e
    · cases e; exact ⟨xs, ys, h1, h2, by assumption, rfl⟩
    · cases e
  · cases e
theorem add_s (mu : Bool) : OpS T (rAdd4 T.K) (fun m a b => addD mu m a b) := by
  intro w m x y dx dy p Q W hx hy e q
  have cat : (∃ xs ys, lsq m dx = some xs ∧ lsq m dy = some ys ∧ xs.length + ys.length ≤ sizeLine ∧ p = newL mu m (xs ++ ys)) → rAdd4 T.K x y w.H Q := fun ⟨xs, ys, h1, h2, hl, ep⟩ => by
    subst ep
    obtain ⟨a, vs, rfl, ha, ra⟩ := lsq_rep W hx h1
    obtain ⟨b, us, rfl, hb, rb⟩ := lsq_rep W hy h2
    exact .inr (.inr (.inr ⟨a, b, vs, us, rfl, rfl, ha, hb, by rw [ra.length, rb.length]; exact hl, fun p hp => new_list W (ra.append rb) hp q⟩))
  cases dx with
  | int i =>
    cases dy with
    | int j =>
      cases hx; cases hy; cases e
      exact .inl ⟨i, j, rfl, rfl, OpS.here W q (.int _)⟩
    | _ => exact cat (addD_lists e)
  | str i =>
    cases dy with
    | str j =>
      cases hx; cases hy
      simp only [addD] at e
      split at e
      · cases e
        exact .inr (.inl ⟨i, j, rfl, rfl, by assumption, OpS.here W q (.str _)⟩)
      · cases e
    | _ => exact cat (addD_lists e)
  | tup xs =>
    cases dy with
    | tup ys =>
      simp only [addD] at e
      split at e
      · rename_i hl
        cases e
        cases hx with
        | tup sx rx =>
          cases hy with
          | tup sy ry =>
            rename_i a vs b us
            refine .inr (.inr (.inl ⟨a, b, vs, us, rfl, rfl, (Le.sqN W.sub sx).sqT, (Le.sqN W.sub sy).sqT, by rw [rx.length, ry.length]; exact hl, fun hn => ?_, fun h1 hn => ?_, fun _ _ p o hp ho => new_tup W (rx.append ry) hp ho q⟩))
            · subst hn
              cases rx
              exact OpS.here W q (.tup sy ry)
            · subst hn
              cases ry
              rw [List.append_nil] at q
              exact OpS.here W q (.tup sx rx)
      · cases e
    | _ => exact cat (addD_lists e)
  | _ => exact cat (addD_lists e)

noncomputable def rMul3 (K : PySem.W.Frag) : R2 := fun x y H Q => rI CMul (fun i j => .int (i * j)) x y H Q ∨ rRep x y H Q
noncomputable def rMul4 (K : PySem.W.Frag) : R2 := fun x y H Q => rMul3 K x y H Q ∨ rMulF K x y H Q
theorem op_mul4 {X : Cx} : OpR X (binaryOp .Mult) (rMul4 X.K) := OpR.or (OpR.or op_mul op_rep) op_mulF
theorem mul_s (mu : Bool) : OpS T (rMul4 T.K) (fun m a b => mulD mu m a b) := by
  intro w m x y dx dy p Q W hx hy e q
  have rp : ∀ k, dy = .int k → (∃ xs, lsq m dx = some xs ∧ (-(2 ^ 63) ≤ k ∧ k < 2 ^ 63 ∧ xs.length * k.toNat ≤ sizeLine) ∧ p = newL mu m (List.replicate k.toNat xs).flatten) → rMul4 T.K x y w.H Q := fun k ek ⟨xs, h1, hl, ep⟩ => by
    subst ep; subst ek
    cases hy
    obtain ⟨a, vs, rfl, ha, ra⟩ := lsq_rep W hx h1
    exact .inl (.inr ⟨a, k, vs, rfl, rfl, ha, hl.1, hl.2.1, by rw [ra.length]; exact hl.2.2, fun p hp => new_list W (ra.rep _) hp q⟩)
  have gen : ∀ k, dy = .int k → (match lsq m dx with
      | some xs => if -(2 ^ 63) ≤ k ∧ k < 2 ^ 63 ∧ xs.length * k.toNat ≤ sizeLine then some (newL mu m (List.replicate k.toNat xs).flatten) else none
      | none => none) = some p → rMul4 T.K x y w.H Q := fun k ek e => by
    split at e
    · rename_i xs h1
      split at e
      · cases e; exact rp k ek ⟨xs, h1, by assumption, rfl⟩
      · cases e
    · cases e
  cases dy with
  | int k =>
    cases dx with
    | int i =>
      cases hx; cases hy
      simp only [mulD] at e
      split at e
      · cases e
        exact .inl (.inl ⟨i, k, rfl, rfl, by assumption, OpS.here W q (.int _)⟩)
      · cases e
    | tup xs =>
      cases hx with
      | tup sx rx =>
        cases hy
        simp only [mulD] at e
        split at e
        · rename_i hc
          cases e
          refine .inr ⟨_, k, _, rfl, rfl, (Le.sqN W.sub sx).sqT, ⟨fun z => ?_, hc.2.1, hc.2.2.1, by rw [rx.length]; exact hc.2.2.2⟩, fun p o hp ho => new_tup W (rx.rep _) hp ho q⟩
          subst z
          cases rx
          exact absurd hc.1 (by decide)
        · cases e
    | _ => exact gen k rfl e
  | _ => cases dx <;> cases e

theorem sub_s : OpS T (rI0 fun i j => .int (i - j)) (fun m a b => bopD .sub false m a b) := by
  intro w m x y dx dy p Q W hx hy e q
  cases dx <;> cases dy <;> cases e
  cases hx; cases hy
  exact ⟨_, _, rfl, rfl, OpS.here W q (.int _)⟩
theorem fdiv_s : OpS T (rI CDivW fun i j => .int (i / j)) (fun m a b => bopD .fdiv false m a b) := by
  intro w m x y dx dy p Q W hx hy e q
  cases dx <;> cases dy <;> first | (cases e; done) | skip
  simp only [bopD] at e
  split at e
  · rename_i i j h
    cases e
    cases hx; cases hy
    exact ⟨_, _, rfl, rfl, wide_div h.1 (b := 64) (by omega) (by decide) (by decide), OpS.here W q (.int _)⟩
  · cases e
theorem mod_s : OpS T (rI (fun _ j => 0 < j) fun i j => .int (i % j)) (fun m a b => bopD .mod false m a b) := by
  intro w m x y dx dy p Q W hx hy e q
  cases dx <;> cases dy <;> first | (cases e; done) | skip
  simp only [bopD] at e
  split at e
  · rename_i i j h
    cases e
    cases hx; cases hy
    exact ⟨_, _, rfl, rfl, h, OpS.here W q (.int _)⟩
  · cases e
theorem pow_s : OpS T (rI CPow fun i j => .int (i ^ j.toNat)) (fun m a b => bopD .pow false m a b) := by
  intro w m x y dx dy p Q W hx hy e q
  cases dx <;> cases dy <;> first | (cases e; done) | skip
  simp only [bopD] at e
  split at e
  · rename_i i j h
    cases e
    cases hx; cases hy
    exact ⟨_, _, rfl, rfl, h, OpS.here W q (.int _)⟩
  · cases e

noncomputable def oprB : Bop → Operator
  | .add => .Add | .sub => .Sub | .mul => .Mult | .fdiv => .FloorDiv | .mod => .Mod | .pow => .Pow
end
end Dv

namespace GQ
open PySem PySem.SeqAt
open AutoSeq1 (wpAny_loadPart')
open MeetsSeq MeetsSeq2 MeetsSeq3 SeqRoads2
section
variable {prog : Program} {w : World} {A : Around} {R : Result → Shared → Prop} {E : Value → Shared → Prop} {s : Shared}
theorem tuple_eq0 (l b : Addr) (items : Array Value) (n n2 : Nat) (dd dd2 : Option Addr) (sl sl2 : Array (Option Value)) {s : Shared} (fin : R (.ok (.ret (.bool (items.size == 0)))) s)
    (hl1 : s.heap.get? l = some { cls := .type "tuple", dict := dd, data := .seq items n, slots := sl }) (hb1 : s.heap.get? b = some { cls := .type "tuple", dict := dd2, data := .seq #[] n2, slots := sl2 }) :
    wpAny (model prog w) A.in1 (Builtin.«tuple.__eq__» ⟨[.ref l, .ref b], []⟩) (FinOf prog w A R) (fun e s' => R (.error e) s') s := by
  have f2 := AutoSeq1.sub_tuple_tuple
  have h0 := fin
  obtain ⟨hp, g, d, tk, os⟩ := s
  wp_walk using wpAny_loadPart' hl1, wpAny_loadPart' hb1, wpAny_forIn_list _ (fun rest b s' => b.1 = none ∧ rest = [] ∧ R (.ok (.ret (.bool (items.size == 0)))) s') _
  case turn =>
    rintro ⟨y, x⟩ rest b s' ⟨hb', hz, hR⟩
    cases hz
  case fin =>
    rintro ⟨b1, b2⟩ s' ⟨hb', hz, hR⟩
    simp only at hb'
    subst hb'
    wp_walk
    simpa [Builtin.Tuple.tupleCompareSizes] using hR
  case h =>
    exact ⟨rfl, by simp, h0⟩
theorem rc_tup0 {l b : Addr} {items : Array Value} {Q : Value → Shared → Prop} (hu : A.units < cLine) (hl : s.heap.IsTuple l items) (hb : s.heap.IsTuple b #[]) (fin : Q (.bool (items.size == 0)) s) : wpAny (model prog w) A (richCompare .Eq (.ref l) (.ref b)) Q E s := by
  obtain ⟨⟨cls, dd, data, sl⟩, ho, hc, n, hd⟩ := id hl
  obtain ⟨⟨cls2, dd2, data2, sl2⟩, ho2, hc2, n2, hd2⟩ := id hb
  simp only at hc hd hc2 hd2
  subst hc hd hc2 hd2
  refine wpAny_richCompare_same_room (op := .Eq) ⟨_, ho, rfl⟩ ⟨_, ho2, rfl⟩ F.slot_tuple_eq (call_here F.slot_tuple_eq ⟨_, ho, rfl⟩ F.entry_tuple_eq (F.args_tuple_eq_2 _ _) ?_) hu
  exact tuple_eq0 (R := wants (fun v s' => v ≠ .notImplemented ∧ Q v s') E) l b items n n2 dd dd2 sl sl2 ⟨(fun x => nomatch x), fin⟩ ho ho2
end
end GQ
namespace Dv
open PySem PySem.Spec PyProof.Rows GQ
open L2 hiding Takes XE CX MkP PMk ps_raise ps_try_as ps_try_many HdsOk takes_of passAt passes_call mk_of pmk_own
open L2N (Takes XE CX MkP PMk ps_raise ps_try_as ps_try_many HdsOk takes_of passAt passes_call mk_of pmk_own Zn Zn.steady)

section
variable {T : Tb} {w : Wd} {m : List R}
mutual
theorem pd_dp (W : Wf T w m) : ∀ {d : D} {v : V} {x : PyData}, Rep T w.Hs w.al v d → pd m d = some x → Dp T.K w.H v x ∧ PyData.canLay0 x = true
  | _, _, _, .non, e => by cases e; exact ⟨.non, by simp only [PyData.canLay0]⟩
  | _, _, _, .bl b, e => by cases e; exact ⟨.bl b, by simp only [PyData.canLay0]⟩
  | _, _, _, .int b, e => by cases e; exact ⟨.int b, by simp only [PyData.canLay0]⟩
  | _, _, _, .str b, e => by
    simp only [pd] at e
    split at e
    · rename_i h
      cases e; exact ⟨.str b, by simp only [PyData.canLay0]; exact h⟩
    · cases e
  | .tup xs, _, _, .tup s r, e => by
    simp only [pd] at e
    cases h : pdL m xs with
    | none => rw [h] at e; cases e
    | some as =>
      rw [h] at e
      cases e
      obtain ⟨h1, h2⟩ := pdL_dp W r h
      exact ⟨.tup (Le.sqN W.sub s).sqT h1, by simp only [PyData.canLay0]; exact h2⟩
  | .lst xs, _, _, .lst s r, e => by
    simp only [pd] at e
    cases h : pdL m xs with
    | none => rw [h] at e; cases e
    | some as =>
      rw [h] at e
      cases e
      obtain ⟨h1, h2⟩ := pdL_dp W r h
      exact ⟨.lst (SqL.of (W.sub _ _ s)) h1, by simp only [PyData.canLay0]; exact h2⟩
  | .ext xs, _, _, .ext s r, e => by
    simp only [pd] at e
    cases h : pdL m xs with
    | none => rw [h] at e; cases e
    | some as =>
      rw [h] at e
      cases e
      obtain ⟨h1, h2⟩ := pdL_dp W r h
      exact ⟨.lst (Le.sqL W.sub s) h1, by simp only [PyData.canLay0]; exact h2⟩
  | _, _, _, .obj _ _ _, e => by cases e
  | _, _, _, .res _, e => by cases e
  | _, _, _, .fn _, e => by cases e
  | _, _, _, .dfn _, e => by cases e
  | _, _, _, .dct _ _ _, e => by cases e
  | _, _, _, .exn0 _, e => by cases e
  | _, _, _, .exn1 _ _ _ _, e => by cases e
theorem pdL_dp (W : Wf T w m) : ∀ {d : List D} {v : List V} {x : List PyData}, RepL T w.Hs w.al v d → pdL m d = some x → DpAll T.K w.H v x ∧ PyData.canLayAll0 x = true
  | _, _, _, .nil, e => by cases e; exact ⟨.nil, by simp only [PyData.canLayAll0]⟩
  | x :: xs, _, _, .cons r t, e => by
    simp only [pdL] at e
    cases h1 : pd m x with
    | none => rw [h1] at e; cases e
    | some a =>
      cases h2 : pdL m xs with
      | none => rw [h1, h2] at e; cases e
      | some as =>
        rw [h1, h2] at e
        cases e
        obtain ⟨a1, a2⟩ := pd_dp W r h1
        obtain ⟨b1, b2⟩ := pdL_dp W t h2
        exact ⟨.cons a1 b1, by simp only [PyData.canLayAll0, a2, b2, Bool.and_self]⟩
end
theorem pdR_dp (W : Wf T w m) {d : D} {v : V} {x : PyData} (h : Rep T w.Hs w.al v d) (e : pdR m d = some x) : Dp T.K w.H v x ∧ PyData.canLay0 x = true := by
  cases h with
  | @res a k hk =>
    simp only [pdR] at e
    split at e
    · rename_i ys hm
      cases h : pdL m ys with
      | none => rw [h] at e; cases e
      | some as =>
        rw [h] at e
        cases e
        obtain ⟨vs, g1, g2⟩ := W.ok k a _ hk hm
        obtain ⟨h1, h2⟩ := pdL_dp W g2 h
        exact ⟨.lst (SqL.of g1) h1, by simp only [PyData.canLay0]; exact h2⟩
    · cases e
  | non => exact pd_dp W .non e
  | bl b => exact pd_dp W (.bl b) e
  | int b => exact pd_dp W (.int b) e
  | str b => exact pd_dp W (.str b) e
  | tup s r => exact pd_dp W (.tup s r) e
  | lst s r => exact pd_dp W (.lst s r) e
  | ext s r => exact pd_dp W (.ext s r) e
  | obj s n r => exact pd_dp W (.obj s n r) e
  | fn q => exact pd_dp W (.fn q) e
  | dfn s => exact pd_dp W (.dfn s) e
  | dct s n r => exact pd_dp W (.dct s n r) e
  | exn0 s => exact pd_dp W (.exn0 s) e
  | exn1 s t n r => exact pd_dp W (.exn1 s t n r) e
theorem shaped_of {x : PyData} (h : PyData.canLay0 x = true) (d : x.depth ≤ 64) : SeqAt.shaped x = true := by
  unfold SeqAt.shaped
  rw [h, decide_eq_true d]; rfl
end

/-- a comparison's reading does what g says -/
noncomputable def CmpS (T : Tb) (r : R2) (g : List R → D → D → Option Bool) : Prop :=
  ∀ (w : Wd) (m : List R) (x y : V) (dx dy : D) (b : Bool) (Q : VK), Wf T w m → Rep T w.Hs w.al x dx → Rep T w.Hs w.al y dy → g m dx dy = some b → Q (.bl b) w.H → r x y w.H Q

section
variable {T : Tb} {X : Cx}
theorem eqD_some {m : List R} {a b : D} {k : Bool} (e : eqD m a b = some k) : ∃ x y, pdR m a = some x ∧ pdR m b = some y ∧ x.depth ≤ 64 ∧ y.depth ≤ 64 ∧ k = PyData.eqv x y := by
  unfold eqD at e
  split at e
  · rename_i x y h1 h2
    split at e
    · rename_i h
      cases e; exact ⟨x, y, h1, h2, h.1, h.2, rfl⟩
    · cases e
  · cases e
theorem eq_s : CmpS T (rEqD T.K) (fun m a b => eqD m a b) := by
  intro w m x y dx dy b Q W hx hy e q
  obtain ⟨a, c, h1, h2, d1, d2, rfl⟩ := eqD_some e
  obtain ⟨p1, c1⟩ := pdR_dp W hx h1
  obtain ⟨p2, c2⟩ := pdR_dp W hy h2
  exact ⟨a, c, p1, p2, shaped_of c1 d1, shaped_of c2 d2, q⟩
theorem ne_s : CmpS T (rNeD T.K) (fun m a b => (eqD m a b).map (!·)) := by
  intro w m x y dx dy b Q W hx hy e q
  cases h : eqD m dx dy with
  | none => simp only [h] at e; cases e
  | some k =>
    simp only [h] at e
    cases e
    obtain ⟨a, c, h1, h2, d1, d2, rfl⟩ := eqD_some h
    obtain ⟨p1, c1⟩ := pdR_dp W hx h1
    obtain ⟨p2, c2⟩ := pdR_dp W hy h2
    exact ⟨a, c, p1, p2, shaped_of c1 d1, shaped_of c2 d2, q⟩
noncomputable def rIS (f : Int → Int → Bool) (h : Str → Str → Bool) : R2 := fun x y H Q => rI0 (fun i j => .bl (f i j)) x y H Q ∨ ∃ i j, x = .str i ∧ y = .str j ∧ Q (.bl (h i j)) H
theorem op_ltIS {X : Cx} : OpR X (compareOp .Lt) (rIS (fun x y => decide (x < y)) ltS) := OpR.or op_lt op_lt_str
theorem op_leIS {X : Cx} : OpR X (compareOp .LtE) (rIS (fun x y => decide (x ≤ y)) fun x y => !ltS y x) := OpR.or op_le op_le_str
theorem op_gtIS {X : Cx} : OpR X (compareOp .Gt) (rIS (fun x y => decide (y < x)) fun x y => ltS y x) := OpR.or op_gt op_gt_str
theorem op_geIS {X : Cx} : OpR X (compareOp .GtE) (rIS (fun x y => decide (y ≤ x)) fun x y => !ltS x y) := OpR.or op_ge op_ge_str
theorem int_s (f : Int → Int → Bool) (h : Str → Str → Bool) : CmpS T (rIS f h) (fun _ a b => cmpI f h a b) := by
  intro w m x y dx dy b Q W hx hy e q
  cases dx <;> cases dy <;> cases e
  · cases hx; cases hy
    exact .inl ⟨_, _, rfl, rfl, q⟩
  · cases hx; cases hy
    exact .inr ⟨_, _, rfl, rfl, q⟩
theorem Rep.isNon {Hs : Hp} {al : List Addr} {v : V} {d : D} (h : Rep T Hs al v d) : decide (v = .non) = Dv.isNon d := by
  cases h <;> rfl
noncomputable def rIsN : R2 := fun x y H Q => (y = .non ∧ Q (.bl (decide (x = .non))) H) ∨ (∃ a b, x = .bl a ∧ y = .bl b ∧ Q (.bl (decide (a = b))) H)
noncomputable def rNotN : R2 := fun x y H Q => (y = .non ∧ Q (.bl (!decide (x = .non))) H) ∨ (∃ a b, x = .bl a ∧ y = .bl b ∧ Q (.bl (!decide (a = b))) H)
theorem op_isNB : OpR X (compareOp .Is) rIsN := by
  intro pins s σ H x y v u Q I rx ry h
  rcases h with h | h
  · exact op_isN pins s σ H x y v u Q I rx ry h
  · exact op_is_bl pins s σ H x y v u Q I rx ry h
theorem op_notNB : OpR X (compareOp .IsNot) rNotN := by
  intro pins s σ H x y v u Q I rx ry h
  rcases h with h | h
  · exact op_notN pins s σ H x y v u Q I rx ry h
  · exact op_isnot_bl pins s σ H x y v u Q I rx ry h
theorem isN_s : CmpS T rIsN (fun m a b => copD .isN m a b) := by
  intro w m x y dx dy b Q W hx hy e q
  cases dy <;> first | (cases e; done) | skip
  · cases hy
    cases e
    refine .inl ⟨rfl, ?_⟩
    rw [hx.isNon]; exact q
  · cases dx <;> cases e
    cases hx; cases hy
    exact .inr ⟨_, _, rfl, rfl, q⟩
theorem notN_s : CmpS T rNotN (fun m a b => copD .notN m a b) := by
  intro w m x y dx dy b Q W hx hy e q
  cases dy <;> first | (cases e; done) | skip
  · cases hy
    cases e
    refine .inl ⟨rfl, ?_⟩
    rw [hx.isNon]; exact q
  · cases dx <;> cases e
    cases hx; cases hy
    exact .inr ⟨_, _, rfl, rfl, q⟩

/-! `in` a tuple: as the library's for a list -/
noncomputable def rInDT (K : PySem.W.Frag) (neg : Bool) : R2 := fun x y H Q => ∃ d ds, Dp K H x d ∧ Dp K H y (.tuple ds) ∧ SeqAt.shaped d = true ∧ SeqAt.shaped (.tuple ds) = true ∧ Q (.bl (if neg then !(ds.any fun z => PyData.eqv z d) else ds.any fun z => PyData.eqv z d)) H
theorem op_inDT (hu : X.A.units + 65 < cLine) : OpR X (compareOp .In) (rInDT X.K false) := by
  intro pins s σ H x y v u Q I rx ry h
  obtain ⟨d, ds, hd, he, sd, se, q⟩ := h
  obtain ⟨as, r1⟩ := Dp.reads I d x v hd rx
  obtain ⟨bs, r2⟩ := Dp.reads I (.tuple ds) y u he ry
  exact SeqAt.in_tuple_reads r2 r1 (SeqAt.canLay_of_shaped se) (SeqAt.canLay_of_shaped sd) (room_in_shaped sd hu) ⟨.bl _, H, I, rfl, q⟩
theorem op_notInDT (hu : X.A.units + 65 < cLine) : OpR X (compareOp .NotIn) (rInDT X.K true) := by
  intro pins s σ H x y v u Q I rx ry h
  obtain ⟨d, ds, hd, he, sd, se, q⟩ := h
  obtain ⟨as, r1⟩ := Dp.reads I d x v hd rx
  obtain ⟨bs, r2⟩ := Dp.reads I (.tuple ds) y u he ry
  exact SeqAt.notIn_tuple_reads r2 r1 (SeqAt.canLay_of_shaped se) (SeqAt.canLay_of_shaped sd) (room_in_shaped sd hu) ⟨.bl _, H, I, rfl, q⟩
noncomputable def rInS (neg : Bool) : R2 := fun x y H Q => ∃ i j, x = .str i ∧ y = .str j ∧ Q (.bl (if neg then (!(!(Builtin.Str.occurrences j i 0 j.length 1).isEmpty)) else !(Builtin.Str.occurrences j i 0 j.length 1).isEmpty)) H
noncomputable def rIn3 (K : PySem.W.Frag) : R2 := fun x y H Q => rInS false x y H Q ∨ rInD K x y H Q ∨ rInDT K false x y H Q
noncomputable def rNotIn3 (K : PySem.W.Frag) : R2 := fun x y H Q => rInS true x y H Q ∨ rNotInD K x y H Q ∨ rInDT K true x y H Q
theorem op_in3 (hu : X.A.units + 65 < cLine) : OpR X (compareOp .In) (rIn3 X.K) := OpR.or op_in_str (OpR.or (op_inD hu) (op_inDT hu))
theorem op_notIn3 (hu : X.A.units + 65 < cLine) : OpR X (compareOp .NotIn) (rNotIn3 X.K) := OpR.or op_notIn_str (OpR.or (op_notInD hu) (op_notInDT hu))
theorem inD_some {m : List R} {a b : D} {k : Bool} (e : inD m a b = some k) : (∃ x y, a = .str x ∧ b = .str y ∧ k = !(Builtin.Str.occurrences y x 0 y.length 1).isEmpty) ∨
    ∃ x ys, pdR m a = some x ∧ x.depth ≤ 64 ∧ ((pdR m b = some (.list ys) ∧ (PyData.list ys).depth ≤ 64) ∨ (pdR m b = some (.tuple ys) ∧ (PyData.tuple ys).depth ≤ 64)) ∧ k = ys.any fun z => PyData.eqv z x := by
  unfold inD at e
  split at e
  · cases e; exact .inl ⟨_, _, rfl, rfl, rfl⟩
  · right
    split at e
    · rename_i x ys h1 h2
      split at e
      · rename_i h
        cases e; exact ⟨x, ys, h1, h.1, .inl ⟨h2, h.2⟩, rfl⟩
      · cases e
    · rename_i x ys h1 h2
      split at e
      · rename_i h
        cases e; exact ⟨x, ys, h1, h.1, .inr ⟨h2, h.2⟩, rfl⟩
      · cases e
    · cases e
theorem in_s : CmpS T (rIn3 T.K) (fun m a b => inD m a b) := by
  intro w m x y dx dy b Q W hx hy e q
  rcases inD_some e with ⟨i, j, rfl, rfl, rfl⟩ | ⟨a, ys, h1, d1, h2, rfl⟩
  · cases hx; cases hy
    exact .inl ⟨_, _, rfl, rfl, q⟩
  · obtain ⟨p1, c1⟩ := pdR_dp W hx h1
    rcases h2 with ⟨h2, d2⟩ | ⟨h2, d2⟩
    · obtain ⟨p2, c2⟩ := pdR_dp W hy h2
      exact .inr (.inl ⟨a, ys, p1, p2, shaped_of c1 d1, shaped_of c2 d2, q⟩)
    · obtain ⟨p2, c2⟩ := pdR_dp W hy h2
      exact .inr (.inr ⟨a, ys, p1, p2, shaped_of c1 d1, shaped_of c2 d2, q⟩)
theorem notIn_s : CmpS T (rNotIn3 T.K) (fun m a b => (inD m a b).map (!·)) := by
  intro w m x y dx dy b Q W hx hy e q
  cases h : inD m dx dy with
  | none => simp only [h] at e; cases e
  | some k =>
    simp only [h] at e
    cases e
    rcases inD_some h with ⟨i, j, rfl, rfl, rfl⟩ | ⟨a, ys, h1, d1, h2, rfl⟩
    · cases hx; cases hy
      exact .inl ⟨_, _, rfl, rfl, q⟩
    · obtain ⟨p1, c1⟩ := pdR_dp W hx h1
      rcases h2 with ⟨h2, d2⟩ | ⟨h2, d2⟩
      · obtain ⟨p2, c2⟩ := pdR_dp W hy h2
        exact .inr (.inl ⟨a, ys, p1, p2, shaped_of c1 d1, shaped_of c2 d2, q⟩)
      · obtain ⟨p2, c2⟩ := pdR_dp W hy h2
        exact .inr (.inr ⟨a, ys, p1, p2, shaped_of c1 d1, shaped_of c2 d2, q⟩)
/-! a tuple == () -/
noncomputable def rEqE (K : PySem.W.Frag) : R2 := fun x y H Q => ∃ a b xs, x = .ref a ∧ y = .ref b ∧ SqT K H a xs ∧ SqT K H b [] ∧ Q (.bl xs.isEmpty) H
theorem op_eqE (hu : X.A.units < cLine) : OpR X (compareOp .Eq) (rEqE X.K) := by
  intro pins s σ H x y v u Q I rx ry h
  obtain ⟨a, b, xs, rfl, rfl, h1, h2, q⟩ := h
  obtain rfl : v = Value.ref a := rx
  obtain rfl : u = Value.ref b := ry
  show wpAny (model X.prog X.w) X.A (richCompare .Eq (.ref a) (.ref b)) (EP X pins σ Q) X.xe s
  obtain ⟨its, rv, pl, hsz⟩ := I.tuple h1
  obtain ⟨its2, rv2, pl2, hsz2⟩ := I.tuple h2
  obtain rfl : its2 = [] := by cases rv2; rfl
  have hb := rc_tup0 (prog := X.prog) (w := X.w) (A := X.A) (E := X.xe) (Q := EP X pins σ Q) (s := s) (items := its.toArray) hu pl pl2
  refine hb ⟨.bl xs.isEmpty, H, I, ?_, q⟩
  have : xs.isEmpty = (its.toArray.size == 0) := by
    cases rv <;> rfl
  rw [this]
  rfl
theorem eqE_s : CmpS T (rEqE T.K) (fun _ a b => eqED a b) := by
  intro w m x y dx dy b Q W hx hy e q
  cases dx <;> first | (cases e; done) | skip
  cases dy <;> first | (cases e; done) | skip
  rename_i xs ys
  cases ys with
  | cons a b => cases e
  | nil =>
    cases e
    cases hx with
    | tup s r =>
      cases hy with
      | tup s2 r2 =>
        rename_i a vs a2 vs2
        have e2 : vs2 = [] := by cases r2; rfl
        subst e2
        refine ⟨a, a2, vs, rfl, rfl, (W.sub.sqN s).sqT, (W.sub.sqN s2).sqT, ?_⟩
        have : vs.isEmpty = xs.isEmpty := by cases r <;> rfl
        rw [this]; exact q
/-! ### == of dicts -/
theorem valV_self {κ : Type} [DecidableEq κ] : ∀ {ks : List (κ × V)}, (ks.map (·.1)).Nodup → ∀ p ∈ ks, valV ks p.1 = some p.2
  | [], _, p, h => (List.not_mem_nil h).elim
  | q :: ks, nd, p, h => by
    rw [List.map_cons, List.nodup_cons] at nd
    rcases List.mem_cons.mp h with rfl | h
    · exact valV_pos rfl
    · have hne : ¬ q.1 = p.1 := fun e => nd.1 (by rw [e]; exact List.mem_map_of_mem h)
      rw [valV_neg hne]
      exact valV_self nd.2 p h
noncomputable def rEqKK : R2 := fun x y H Q => ∃ a b ks, x = .ref a ∧ y = .ref b ∧ Rd H a (.dK ks) ∧ Rd H b (.dK ks) ∧ (ks.map (·.1)).Nodup ∧ (∀ p ∈ ks, flatB p.2 = true) ∧ Q (.bl true) H
theorem op_eqK (hu : X.A.units + 64 < cLine) : OpR X (compareOp .Eq) (fun x y H Q => rEqD X.K x y H Q ∨ rEqKK x y H Q) := by
  intro pins s σ H x y v u Q I rx ry h
  rcases h with h | h
  · exact op_eqD hu pins s σ H x y v u Q I rx ry h
  · obtain ⟨a, b, ks, rfl, rfl, ea, eb, nd, hf, q⟩ := h
    obtain rfl : v = Value.ref a := rx
    obtain rfl : u = Value.ref b := ry
    obtain ⟨_, ya, va, ra, da⟩ := dk_rd I.hok ea
    obtain ⟨_, yb, vb, rb, db⟩ := dk_rd I.hok eb
    have hl : va.length = vb.length := by rw [← ra.length, ← rb.length]
    exact PySem.W.keq_eq (knd := mixKind X.prog X.w) (r := true) ya yb da db (by omega) (fun _ => hits_all rb ra fun p hp => ⟨valV_self nd p hp, hf p hp⟩) (fin_bl I q (by simp [hl]))
theorem entD_rep {w : Wd} {m : List R} (W : Wf T w m) {x : V} {d : D} {p : List (Key × D)} (rx : Rep T w.Hs w.al x d) (e : entD m d = some p) : ∃ a kvs, x = .ref a ∧ Rd w.H a (.dK kvs) ∧ kvs.map (·.1) = p.map (·.1) ∧ RepL T w.Hs w.al (kvs.map (·.2)) (p.map (·.2)) := by
  unfold entD at e
  cases rx <;> first | (cases e; done) | skip
  · rename_i a j hj
    dsimp only at e
    cases hm : m[j]? with
    | none => rw [hm] at e; cases e
    | some R0 =>
      rw [hm] at e
      have ok := W.ok j a R0 hj hm
      cases R0 <;> first | (cases e; done) | skip
      obtain ⟨vs, e1, e2, e3⟩ := ok
      cases e
      exact ⟨a, vs, rfl, .inl e1, e2, e3⟩
  · rename_i a kvs ks xs hr hks rr
    dsimp only at e
    split at e
    · rename_i hl
      cases e
      refine ⟨a, kvs, rfl, W.sub.rd hr, ?_, ?_⟩
      · rw [hks, List.map_fst_zip (Nat.le_of_eq hl)]
      · rw [List.map_snd_zip (Nat.le_of_eq hl.symm)]
        exact rr
    · cases e
theorem sameE_inv {T : Tb} {Hs : Hp} {al : List Addr} : ∀ {p q : List (Key × D)} {ks ls : List (Key × V)}, sameE p q = true → ks.map (·.1) = p.map (·.1) → RepL T Hs al (ks.map (·.2)) (p.map (·.2)) → ls.map (·.1) = q.map (·.1) → RepL T Hs al (ls.map (·.2)) (q.map (·.2)) → ks = ls ∧ ∀ z ∈ ks, flatB z.2 = true
  | [], [], ks, ls, _, h1, _, h2, _ => by
    cases ks with
    | nil =>
      cases ls with
      | nil => exact ⟨rfl, fun z hz => (List.not_mem_nil hz).elim⟩
      | cons a b => cases h2
    | cons a b => cases h1
  | (k, .int i) :: r, (l, .int j) :: t, ks, ls, h, h1, r1, h2, r2 => by
    simp only [sameE, Bool.and_eq_true, decide_eq_true_eq] at h
    obtain ⟨⟨hk, hi⟩, ht⟩ := h
    cases ks with
    | nil => cases h1
    | cons a ks =>
      cases ls with
      | nil => cases h2
      | cons b ls =>
        rw [List.map_cons, List.map_cons] at h1 h2
        rw [List.map_cons, List.map_cons] at r1 r2
        obtain ⟨ea, e1⟩ := List.cons.inj h1
        obtain ⟨eb, e2⟩ := List.cons.inj h2
        obtain ⟨a1, a2⟩ := a
        obtain ⟨b1, b2⟩ := b
        cases r1 with
        | cons x1 y1 =>
          cases r2 with
          | cons x2 y2 =>
            obtain ⟨e3, hf⟩ := sameE_inv ht e1 y1 e2 y2
            cases x1
            cases x2
            dsimp only at ea eb
            subst ea eb hk hi e3
            refine ⟨rfl, fun z hz => ?_⟩
            rcases List.mem_cons.mp hz with rfl | hz
            · rfl
            · exact hf z hz
theorem eqK_s : CmpS T (fun x y H Q => rEqD T.K x y H Q ∨ rEqKK x y H Q) (fun m a b => copD .eqK m a b) := by
  intro w m x y dx dy b Q W hx hy e q
  cases h : eqD m dx dy with
  | some k =>
    simp only [copD, h] at e
    cases e
    exact .inl (eq_s w m x y dx dy _ Q W hx hy h q)
  | none =>
    simp only [copD, h] at e
    unfold dcEq at e
    cases h1 : entD m dx with
    | none => rw [h1] at e; cases e
    | some p =>
      cases h2 : entD m dy with
      | none => rw [h1, h2] at e; cases e
      | some p2 =>
        rw [h1, h2] at e
        dsimp only at e
        split at e
        · rename_i hh
          cases e
          obtain ⟨a, ks, rfl, ra, ka, va⟩ := entD_rep W hx h1
          obtain ⟨c, ls, rfl, rc, kc, vc⟩ := entD_rep W hy h2
          obtain ⟨rfl, hf⟩ := sameE_inv hh.1 ka va kc vc
          exact .inr ⟨a, c, ks, rfl, rfl, ra, rc, by rw [ka]; exact hh.2, hf, q⟩
        · cases e
noncomputable def oprC : Cop → CmpOp
  | .eqK => .Eq | .eqE => .Eq | .eq => .Eq | .ne => .NotEq | .lt => .Lt | .le => .LtE | .gt => .Gt | .ge => .GtE | .isN => .Is | .notN => .IsNot | .inn => .In | .nin => .NotIn
end
end Dv

namespace Dv
open PySem PySem.Spec PyProof.Rows
open L2 hiding Takes XE CX MkP PMk ps_raise ps_try_as ps_try_many HdsOk takes_of passAt passes_call mk_of pmk_own
open L2N (Takes XE CX MkP PMk ps_raise ps_try_as ps_try_many HdsOk takes_of passAt passes_call mk_of pmk_own Zn Zn.steady)

/-! ### what is wanted -/
noncomputable def RepX (T : Tb) (w : Wd) (cls : Value) (dd : Option Addr) (x : Exn) : Prop :=
  cls = .ref (T.cl x.c) ∧ match x.fs with
    | none => dd = none
    | some fs => ∃ a vfs, dd = some a ∧ w.Hs a = some (.xd vfs) ∧ vfs.map (·.1) = fs.map (·.1) ∧ RepL T w.Hs w.al (vfs.map (·.2)) (fs.map (·.2))
noncomputable def PostC (T : Tb) (w : Wd) (Q : VK) (E : XK) : Rs → Prop
  | .ok d m' => ∀ w' v, Ext w w' → Wf T w' m' → Rep T w'.Hs w'.al v d → Q v w'.H
  | .ex x m' => ∀ w' cls dd, Ext w w' → Wf T w' m' → RepX T w' cls dd x → E cls dd w'.H
noncomputable abbrev PostE (T : Tb) (W : WX) (σ : L2.St) (w : Wd) (Q : VK) : Rs → Prop := PostC T w Q (WE W σ)
theorem PostC.on {T : Tb} {w w1 : Wd} {m : List R} {Q : VK} {E : XK} {o : Rs} (h : PostC T w Q E o) (e : Ext w w1) (W : Wf T w1 m) : PostC T w1 Q E o := by
  cases o with
  | ok d m' => exact fun w' v e' W' r => h w' v (e.trans e' W) W' r
  | ex x m' => exact fun w' c d e' W' r => h w' c d (e.trans e' W) W' r
theorem PostC.here {T : Tb} {w : Wd} {m : List R} {Q : VK} {E : XK} {d : D} {v : V} (h : PostC T w Q E (.ok d m)) (W : Wf T w m) (r : Rep T w.Hs w.al v d) : Q v w.H := h w v (Ext.refl _) W r

noncomputable def ER (T : Tb) (w : Wd) (σ : L2.St) (ρ : Ro) : Prop := σ.length = ρ.length ∧ ∀ (i : Nat) d, ρ[i]? = some (some d) → ∃ v, σ[i]? = some (some v) ∧ Rep T w.Hs w.al v d
theorem ER.on {T : Tb} {w w' : Wd} {σ : L2.St} {ρ : Ro} (h : ER T w σ ρ) (e : Ext w w') : ER T w' σ ρ :=
  ⟨h.1, fun i d hd => let ⟨v, a, b⟩ := h.2 i d hd; ⟨v, a, b.on e⟩⟩
theorem ER.set {T : Tb} {w : Wd} {σ : L2.St} {ρ : Ro} (h : ER T w σ ρ) (i : Nat) {v : V} {d : D} (r : Rep T w.Hs w.al v d) : ER T w (σ.set i (some v)) (ρ.set i (some d)) := by
  refine ⟨by rw [List.length_set, List.length_set]; exact h.1, fun j e hj => ?_⟩
  by_cases hi : i = j
  · subst hi
    have hl := (List.getElem?_eq_some_iff.mp hj).1
    rw [List.length_set] at hl
    rw [List.getElem?_set_self hl] at hj
    cases hj
    exact ⟨v, List.getElem?_set_self (by rw [h.1]; exact hl), r⟩
  · rw [List.getElem?_set_ne hi] at hj
    obtain ⟨u, a, b⟩ := h.2 j e hj
    exact ⟨u, by rw [List.getElem?_set_ne hi]; exact a, b⟩
theorem ER.unset {T : Tb} {w : Wd} {σ : L2.St} {ρ : Ro} (h : ER T w σ ρ) (i : Nat) : ER T w (σ.set i none) (ρ.set i none) := by
  refine ⟨by rw [List.length_set, List.length_set]; exact h.1, fun j e hj => ?_⟩
  by_cases hi : i = j
  · subst hi
    have hl := (List.getElem?_eq_some_iff.mp hj).1
    rw [List.length_set] at hl
    rw [List.getElem?_set_self hl] at hj
    cases hj
  · rw [List.getElem?_set_ne hi] at hj
    obtain ⟨u, a, b⟩ := h.2 j e hj
    exact ⟨u, by rw [List.getElem?_set_ne hi]; exact a, b⟩
theorem ER.wipe {T : Tb} {w : Wd} {σ : L2.St} {ρ : Ro} (h : ER T w σ ρ) : ∀ vs : List Nat, ER T w (wipe σ vs) (wipeD ρ vs)
  | [] => h
  | v :: vs => (ER.wipe h vs).unset v

/-! ### the place where a body runs -/
structure Cs where
  T : Tb
  g : Gt
  P : Program
  w : World
  mg : Str → Option Value
  base : Heap
  N : List Str
  sc : Scope
  W : WX
  L : Nat
  fn : Str → Bool
  /-- cells that closures lean on, and what they hold -/
  cells : List (Addr × Option Value) := []
  /-- what is known of the frame -/
  hold : Env → Prop := fun _ => True
  /-- whether a try may stand here -/
  trb : Bool := false
  /-- whether an exception is being handled here -/
  hot : Bool := false
  /-- whether what leaves may have any context -/
  any : Bool := false
class Cold (C : Cs) : Prop where
  h : C.hot = false
class ColdB (b : Bool) : Prop where
  h : b = false
noncomputable instance : ColdB false := ⟨rfl⟩
noncomputable instance {C : Cs} [c : Cold C] : ColdB C.hot := ⟨c.h⟩
noncomputable instance mkCold {T : Tb} {g : Gt} {P : Program} {w : World} {mg : Str → Option Value} {base : Heap} {N : List Str} {sc : Scope} {W : WX} {L : Nat} {fn : Str → Bool} {cells : List (Addr × Option Value)} {hold : Env → Prop} {trb b an : Bool} [c : ColdB b] : Cold (Cs.mk T g P w mg base N sc W L fn cells hold trb b an) := ⟨c.h⟩
theorem Cold.out {C : Cs} [c : Cold C] : C.hot = false := c.h
structure Cs.Ok (C : Cs) (X : Cx) : Prop where
  prog : X.prog = C.P
  w : X.w = C.w
  K : X.K = C.T.K
  mg : X.mg = C.mg
  base : X.base = C.base
  N : X.N = C.N
  sc : X.env.scope = C.sc
  nd : C.N.Nodup
  calm : C.hot = false → X.calm = true
  room : C.hot = false → Room C.L X.A
  tk : Takes X C.W
  fn : X.fn = C.fn
  hld : C.hold X.env
  cel : ∀ p ∈ C.cells, X.s_0.heap.IsCell p.1 p.2 ∧ X.H_0 p.1 = none ∧ p.1 ∉ X.ex
  un : X.A.units + 65 < cLine
  exq : C.hot = true → ∀ a c dd, C.T.exc = some (a, c, dd) → ∃ oe, (a, oe) ∈ X.pn ∧ L2.Zc (.ref (C.T.cl c)) dd oe ∧ ∃ vs, oe.data = .fields vs
  frm : C.trb = true → X.stack = X.env :: X.outer ∧ X.env.frame = some X.env.locals
  tka : C.any = true → L2.Takes X C.W
/-- .. and statements run there -/
structure Cs.OkS (C : Cs) (X : Cx) : Prop extends C.Ok X where
  own : PassesOwn (model X.prog X.w) X.A X.env X.xe
  stk : C.trb = true → X.stack = X.env :: X.outer ∧ X.env.frame = some X.env.locals ∧ X.ex = []
theorem sky_nc {B : Heap} {l : List Env} {a : Addr} {cls : Value} {d : Option Addr} {L : Addr} {h : Heap} (k : L2.Sky B l a (Zn cls d) L h) : L2.Sky B l a (L2.Zc cls d) L h := by
  rcases k with ⟨h1, h2, h3, oe, vs, h4, h5, h6⟩ | ⟨h1, h2, h3, oe, vs, T, oT, ts, h4, h5, h6⟩ | ⟨h1, h2, h3, oe, vs, T, oT, ts, h4, h5, h6⟩
  · exact .inl ⟨h1, h2, h3, oe, vs, h4, ⟨h5.1, h5.2.1⟩, h6⟩
  · exact .inr (.inl ⟨h1, h2, h3, oe, vs, T, oT, ts, h4, ⟨h5.1, h5.2.1⟩, h6⟩)
  · exact .inr (.inr ⟨h1, h2, h3, oe, vs, T, oT, ts, h4, ⟨h5.1, h5.2.1⟩, h6⟩)
theorem takes_nc {X : Cx} {W : WX} (h : L2.Takes X W) : Takes X W := fun u s' ⟨a, B, sI, pins, σ, H, cls, d, h1, h2, h3, h4, h5, h6⟩ => h u s' ⟨a, B, sI, pins, σ, H, cls, d, h1, h2, h3, h4, sky_nc h5, h6⟩
/-- what leaves a closure -/
noncomputable def CXa (b : Bool) (P : Program) (w : World) : CXT := if b = true then L2.CX P w else L2N.CX P w
theorem Cs.Ok.passA {C : Cs} {X : Cx} (ok : C.Ok X) {b : Bool} (hb : b = true → C.any = true) (σ : L2.St) : PassesAt (CXa b X.prog X.w) X σ (WE C.W σ) := by
  cases b with
  | false => exact passAt ok.tk σ
  | true => exact L2.passAt (ok.tka (hb rfl)) σ
theorem takes_ofA {b : Bool} {X : Cx} {E : XK} (h1 : X.stack = X.env :: X.outer) (h2 : X.env.frame = some X.env.locals) (h3 : X.ex = []) {E₁ : Value → Shared → Prop} (hx : X.xe = fun e s' => wpAny (model X.prog X.w) X.A (leaving X.env e) (fun _ s'' => CXa b X.prog X.w X.outer X.H_0 X.s_0 E e s'') E₁ s') :
    Takes X (fun cls d _ H => E cls d H) ∧ (b = true → L2.Takes X (fun cls d _ H => E cls d H)) := by
  cases b with
  | false => exact ⟨takes_of h1 h2 h3 hx, fun h => by cases h⟩
  | true => exact ⟨takes_nc (L2.takes_of h1 h2 h3 hx), fun _ => L2.takes_of h1 h2 h3 hx⟩
theorem noEx {C : Cs} [c : Cold C] {q : Prop} (h : C.hot = true) : q := by rw [c.h] at h; cases h
theorem Cs.Ok.u65 {C : Cs} {X : Cx} (ok : C.Ok X) : X.A.units + 65 < cLine := ok.un
theorem Cs.Ok.u64 {C : Cs} {X : Cx} (ok : C.Ok X) : X.A.units + 64 < cLine := by have := ok.un; omega

section
variable (C : Cs)
noncomputable def Runs (t : TE) (f : Ro → List R → Option Rs) : Prop :=
  ∀ (σ : L2.St) (w : Wd) (ρ : Ro) (m : List R) (Q : VK) (o : Rs), Wf C.T w m → ER C.T w σ ρ → f ρ m = some o → PostE C.T C.W σ w Q o → t σ w.H Q
noncomputable def PostT (T : Tb) (W : WX) (σ : L2.St) (w : Wd) (Q : Bool → Hp → Prop) : Rs → Prop
  | .ok d m' => ∃ b, d = .bl b ∧ ∀ w', Ext w w' → Wf T w' m' → Q b w'.H
  | .ex x m' => ∀ w' cls dd, Ext w w' → Wf T w' m' → RepX T w' cls dd x → W cls dd σ w'.H
noncomputable def RunsT (t : TT) (f : Ro → List R → Option Rs) : Prop :=
  ∀ (σ : L2.St) (w : Wd) (ρ : Ro) (m : List R) (Q : Bool → Hp → Prop) (o : Rs), Wf C.T w m → ER C.T w σ ρ → f ρ m = some o → PostT C.T C.W σ w Q o → t σ w.H Q
noncomputable def PostL (T : Tb) (W : WX) (σ : L2.St) (w : Wd) (Q : List V → Hp → Prop) : RsL → Prop
  | .ok ds m' => ∀ w' vs, Ext w w' → Wf T w' m' → RepL T w'.Hs w'.al vs ds → Q vs w'.H
  | .ex x m' => ∀ w' cls dd, Ext w w' → Wf T w' m' → RepX T w' cls dd x → W cls dd σ w'.H
noncomputable def RunsL (t : TA) (f : Ro → List R → Option RsL) : Prop :=
  ∀ (σ : L2.St) (w : Wd) (ρ : Ro) (m : List R) (Q : List V → Hp → Prop) (o : RsL), Wf C.T w m → ER C.T w σ ρ → f ρ m = some o → PostL C.T C.W σ w Q o → t σ w.H Q
/-- the expression does what the code says, at every such place -/
noncomputable def DE (e : Expr) (f : Ro → List R → Option Rs) : Prop := ∃ t, (∀ X, C.Ok X → PE X e t) ∧ Runs C t f
noncomputable def DT (e : Expr) (f : Ro → List R → Option Rs) : Prop := ∃ t, (∀ X, C.Ok X → PT X e t) ∧ RunsT C t f
noncomputable def DW (e : Expr) (f : Ro → List R → Option Rs) : Prop := ∃ t, (∀ X, C.Ok X → PW X e t) ∧ RunsT C t f
noncomputable def DA (es : List Expr) (f : Ro → List R → Option RsL) : Prop := ∃ t, (∀ X, C.Ok X → PA X es t) ∧ RunsL C t f
end
theorem PostT.on {T : Tb} {W : WX} {σ : L2.St} {w w1 : Wd} {m : List R} {Q : Bool → Hp → Prop} {o : Rs} (h : PostT T W σ w Q o) (e : Ext w w1) (V : Wf T w1 m) : PostT T W σ w1 Q o := by
  cases o with
  | ok d m' =>
    obtain ⟨b, eb, q⟩ := h
    exact ⟨b, eb, fun w' e' W' => q w' (e.trans e' V) W'⟩
  | ex x m' => exact fun w' c d e' W' r => h w' c d (e.trans e' V) W' r
theorem PostL.on {T : Tb} {W : WX} {σ : L2.St} {w w1 : Wd} {m : List R} {Q : List V → Hp → Prop} {o : RsL} (h : PostL T W σ w Q o) (e : Ext w w1) (V : Wf T w1 m) : PostL T W σ w1 Q o := by
  cases o with
  | ok d m' => exact fun w' c e' W' r => h w' c (e.trans e' V) W' r
  | ex x m' => exact fun w' c d e' W' r => h w' c d (e.trans e' V) W' r

theorem bnd_some {r : Option Rs} {k : D → List R → Option Rs} {o : Rs} (e : bnd r k = some o) : (∃ d m, r = some (.ok d m) ∧ k d m = some o) ∨ ∃ x m, r = some (.ex x m) ∧ o = .ex x m := by
  cases r with
  | none => cases e
  | some q =>
    cases q with
    | ok d m => exact .inl ⟨d, m, rfl, e⟩
    | ex x m => cases e; exact .inr ⟨x, m, rfl, rfl⟩
theorem bndL_some {r : Option RsL} {k : List D → List R → Option Rs} {o : Rs} (e : bndL r k = some o) : (∃ d m, r = some (.ok d m) ∧ k d m = some o) ∨ ∃ x m, r = some (.ex x m) ∧ o = .ex x m := by
  cases r with
  | none => cases e
  | some q =>
    cases q with
    | ok d m => exact .inl ⟨d, m, rfl, e⟩
    | ex x m => cases e; exact .inr ⟨x, m, rfl, rfl⟩

section
variable {C : Cs}
/-- first an expression, then what follows -/
theorem Runs.bnd {t : TE} {f : Ro → List R → Option Rs} (h : Runs C t f) {σ : L2.St} {w : Wd} {ρ : Ro} {m : List R} {Q : VK} {o : Rs} {k : D → List R → Option Rs} (W : Wf C.T w m) (E : ER C.T w σ ρ) (e : Dv.bnd (f ρ m) k = some o) (p : PostE C.T C.W σ w Q o)
    {R' : VK} (c : ∀ d m1 w1 v1, k d m1 = some o → Ext w w1 → Wf C.T w1 m1 → Rep C.T w1.Hs w1.al v1 d → ER C.T w1 σ ρ → PostE C.T C.W σ w1 Q o → R' v1 w1.H) : t σ w.H R' := by
  rcases bnd_some e with ⟨d, m1, e1, e2⟩ | ⟨x, m1, e1, rfl⟩
  · exact h σ w ρ m R' _ W E e1 fun w1 v1 e' W1 r => c d m1 w1 v1 e2 e' W1 r (E.on e') (p.on e' W1)
  · exact h σ w ρ m R' _ W E e1 p
theorem Runs.bndT {t : TE} {f : Ro → List R → Option Rs} (h : Runs C t f) {σ : L2.St} {w : Wd} {ρ : Ro} {m : List R} {Q : Bool → Hp → Prop} {o : Rs} {k : D → List R → Option Rs} (W : Wf C.T w m) (E : ER C.T w σ ρ) (e : Dv.bnd (f ρ m) k = some o) (p : PostT C.T C.W σ w Q o)
    {R' : VK} (c : ∀ d m1 w1 v1, k d m1 = some o → Ext w w1 → Wf C.T w1 m1 → Rep C.T w1.Hs w1.al v1 d → ER C.T w1 σ ρ → PostT C.T C.W σ w1 Q o → R' v1 w1.H) : t σ w.H R' := by
  rcases bnd_some e with ⟨d, m1, e1, e2⟩ | ⟨x, m1, e1, rfl⟩
  · exact h σ w ρ m R' _ W E e1 fun w1 v1 e' W1 r => c d m1 w1 v1 e2 e' W1 r (E.on e') (p.on e' W1)
  · exact h σ w ρ m R' _ W E e1 p
theorem RunsT.bnd {t : TT} {f : Ro → List R → Option Rs} (h : RunsT C t f) {σ : L2.St} {w : Wd} {ρ : Ro} {m : List R} {Q : VK} {o : Rs} {k : Bool → List R → Option Rs} (W : Wf C.T w m) (E : ER C.T w σ ρ)
    (e : Dv.bnd (f ρ m) (fun x m => match x with | .bl b => k b m | _ => none) = some o) (p : PostE C.T C.W σ w Q o)
    {R' : Bool → Hp → Prop} (c : ∀ b m1 w1, k b m1 = some o → Ext w w1 → Wf C.T w1 m1 → ER C.T w1 σ ρ → PostE C.T C.W σ w1 Q o → R' b w1.H) : t σ w.H R' := by
  rcases bnd_some e with ⟨d, m1, e1, e2⟩ | ⟨x, m1, e1, rfl⟩
  · cases d with
    | bl b => exact h σ w ρ m R' _ W E e1 ⟨b, rfl, fun w1 e' W1 => c b m1 w1 e2 e' W1 (E.on e') (p.on e' W1)⟩
    | _ => cases e2
  · exact h σ w ρ m R' _ W E e1 p
theorem RunsT.bndT {t : TT} {f : Ro → List R → Option Rs} (h : RunsT C t f) {σ : L2.St} {w : Wd} {ρ : Ro} {m : List R} {Q : Bool → Hp → Prop} {o : Rs} {k : Bool → List R → Option Rs} (W : Wf C.T w m) (E : ER C.T w σ ρ)
    (e : Dv.bnd (f ρ m) (fun x m => match x with | .bl b => k b m | _ => none) = some o) (p : PostT C.T C.W σ w Q o)
    {R' : Bool → Hp → Prop} (c : ∀ b m1 w1, k b m1 = some o → Ext w w1 → Wf C.T w1 m1 → ER C.T w1 σ ρ → PostT C.T C.W σ w1 Q o → R' b w1.H) : t σ w.H R' := by
  rcases bnd_some e with ⟨d, m1, e1, e2⟩ | ⟨x, m1, e1, rfl⟩
  · cases d with
    | bl b => exact h σ w ρ m R' _ W E e1 ⟨b, rfl, fun w1 e' W1 => c b m1 w1 e2 e' W1 (E.on e') (p.on e' W1)⟩
    | _ => cases e2
  · exact h σ w ρ m R' _ W E e1 p
theorem RunsL.bnd {t : TA} {f : Ro → List R → Option RsL} (h : RunsL C t f) {σ : L2.St} {w : Wd} {ρ : Ro} {m : List R} {Q : VK} {o : Rs} {k : List D → List R → Option Rs} (W : Wf C.T w m) (E : ER C.T w σ ρ) (e : bndL (f ρ m) k = some o) (p : PostE C.T C.W σ w Q o)
    {R' : List V → Hp → Prop} (c : ∀ d m1 w1 v1, k d m1 = some o → Ext w w1 → Wf C.T w1 m1 → RepL C.T w1.Hs w1.al v1 d → ER C.T w1 σ ρ → PostE C.T C.W σ w1 Q o → R' v1 w1.H) : t σ w.H R' := by
  rcases bndL_some e with ⟨d, m1, e1, e2⟩ | ⟨x, m1, e1, rfl⟩
  · exact h σ w ρ m R' _ W E e1 fun w1 v1 e' W1 r => c d m1 w1 v1 e2 e' W1 r (E.on e') (p.on e' W1)
  · exact h σ w ρ m R' _ W E e1 p

/-! ### expressions -/
theorem de_var {i : Nat} {x : Str} {pos : Pos} (hN : C.N[i]? = some x) (hv : Vis C.sc x) (hd : (x == ("__debug__" : Str)) = false) (hcd : (x == ("__classdict__" : Str)) = false) : DE C (.Name x pos) (evE C.g (.var i)) := by
  refine ⟨tVar i, fun X ok => pe_var (by rw [ok.N]; exact hN) (by rw [ok.sc]; exact hv) hd hcd, fun σ w ρ m Q o W E e p => ?_⟩
  simp only [evE] at e
  split at e
  · rename_i d hd
    cases e
    obtain ⟨v, h1, h2⟩ := E.2 i d hd
    exact ⟨v, h1, p.here W h2⟩
  · cases e
theorem de_int {i : Int} {j : Nat} {pos : Pos} : DE C (.Constant (.int i) j pos) (evE C.g (.cst (.int i))) :=
  ⟨_, fun X ok => pe_int, fun σ w ρ m Q o W E e p => by simp only [evE] at e; cases e; exact p.here W (.int i)⟩
theorem de_bl {i : Bool} {j : Nat} {pos : Pos} : DE C (.Constant (.bool i) j pos) (evE C.g (.cst (.bl i))) :=
  ⟨_, fun X ok => pe_bl, fun σ w ρ m Q o W E e p => by simp only [evE] at e; cases e; exact p.here W (.bl i)⟩
theorem de_non {j : Nat} {pos : Pos} : DE C (.Constant .none j pos) (evE C.g (.cst .non)) :=
  ⟨_, fun X ok => pe_non, fun σ w ρ m Q o W E e p => by simp only [evE] at e; cases e; exact p.here W .non⟩
theorem de_str {i : Str} {j : Nat} {pos : Pos} : DE C (.Constant (.str i) j pos) (evE C.g (.cst (.str i))) :=
  ⟨_, fun X ok => pe_str, fun σ w ρ m Q o W E e p => by simp only [evE] at e; cases e; exact p.here W (.str i)⟩
theorem okP_some {r : Option (D × List R)} {o : Rs} (e : okP r = some o) : ∃ p, r = some p ∧ o = .ok p.1 p.2 := by
  cases r with
  | none => cases e
  | some p => cases e; exact ⟨p, rfl, rfl⟩
theorem okB_some {m : List R} {r : Option Bool} {o : Rs} (e : okB m r = some o) : ∃ b, r = some b ∧ o = .ok (.bl b) m := by
  cases r with
  | none => cases e
  | some p => cases e; exact ⟨p, rfl, rfl⟩
theorem de_bop {o : Bop} {mu : Bool} {a b : Expr} {xa xb : E} {pos : Pos} (ha : DE C a (evE C.g xa)) (hb : DE C b (evE C.g xb)) : DE C (.BinOp a (oprB o) b pos) (evE C.g (.bop o mu xa xb)) := by
  obtain ⟨ta, pa, ra⟩ := ha
  obtain ⟨tb, pb, rb⟩ := hb
  have key : ∃ r, (∀ X, C.Ok X → OpR X (binaryOp (oprB o)) r) ∧ OpS C.T r (fun m a b => bopD o mu m a b) := by
    cases o with
    | add => exact ⟨_, fun X ok => by have := op_add4 (X := X); rw [ok.K] at this; exact this, add_s mu⟩
    | sub => exact ⟨_, fun X ok => op_sub, sub_s⟩
    | mul => exact ⟨_, fun X ok => by have := op_mul4 (X := X); rw [ok.K] at this; exact this, mul_s mu⟩
    | fdiv => exact ⟨_, fun X ok => op_fdivW, fdiv_s⟩
    | mod => exact ⟨_, fun X ok => op_mod, mod_s⟩
    | pow => exact ⟨_, fun X ok => op_pow, pow_s⟩
  obtain ⟨r, hr, hs⟩ := key
  refine ⟨tOp r ta tb, fun X ok => pe_op (hr X ok) (pa X ok) (pb X ok), fun σ w ρ m Q oo W E e p => ?_⟩
  simp only [evE] at e
  refine ra.bnd W E e p fun d m1 w1 v1 e1 x1 W1 r1 E1 p1 => ?_
  refine rb.bnd W1 E1 e1 p1 fun d2 m2 w2 v2 e2 x2 W2 r2 E2 p2 => ?_
  obtain ⟨q, e3, rfl⟩ := okP_some e2
  exact hs w2 m2 v1 v2 d d2 q Q W2 (r1.on x2) r2 e3 fun w' v x' W' r' => p2 w' v x' W' r'
theorem cop_k (C : Cs) (o : Cop) : ∃ r, (∀ X, C.Ok X → OpR X (compareOp (oprC o)) r) ∧ CmpS C.T r (fun m a b => copD o m a b) := by
  cases o with
  | eq => exact ⟨_, fun X ok => by have := op_eqD (X := X) ok.u64; rw [ok.K] at this; exact this, eq_s⟩
  | ne => exact ⟨_, fun X ok => by have := op_neD (X := X) ok.u64; rw [ok.K] at this; exact this, ne_s⟩
  | eqK => exact ⟨_, fun X ok => by have := op_eqK (X := X) ok.u64; rw [ok.K] at this; exact this, eqK_s⟩
  | eqE => exact ⟨_, fun X ok => by have := op_eqE (X := X) (by have := ok.u64; omega); rw [ok.K] at this; exact this, eqE_s⟩
  | lt => exact ⟨_, fun X ok => op_ltIS, int_s _ _⟩
  | le => exact ⟨_, fun X ok => op_leIS, int_s _ _⟩
  | gt => exact ⟨_, fun X ok => op_gtIS, int_s _ _⟩
  | ge => exact ⟨_, fun X ok => op_geIS, int_s _ _⟩
  | isN => exact ⟨_, fun X ok => op_isNB, isN_s⟩
  | notN => exact ⟨_, fun X ok => op_notNB, notN_s⟩
  | inn => exact ⟨_, fun X ok => by have := op_in3 (X := X) ok.u65; rw [ok.K] at this; exact this, in_s⟩
  | nin => exact ⟨_, fun X ok => by have := op_notIn3 (X := X) ok.u65; rw [ok.K] at this; exact this, notIn_s⟩
theorem de_cmp {o : Cop} {a b : Expr} {xa xb : E} {pos : Pos} (ha : DE C a (evE C.g xa)) (hb : DE C b (evE C.g xb)) (hm : behindInMarks (oprC o) b = false) : DE C (.Compare a [oprC o] [b] pos) (evE C.g (.cmp o xa xb)) := by
  obtain ⟨ta, pa, ra⟩ := ha
  obtain ⟨tb, pb, rb⟩ := hb
  obtain ⟨r, hr, hs⟩ := cop_k C o
  refine ⟨_, fun X ok => pe_cmpR (hr X ok) (pa X ok) (pb X ok) hm, fun σ w ρ m Q oo W E e p => ?_⟩
  simp only [evE] at e
  refine ra.bnd W E e p fun d m1 w1 v1 e1 x1 W1 r1 E1 p1 => ?_
  refine rb.bnd W1 E1 e1 p1 fun d2 m2 w2 v2 e2 x2 W2 r2 E2 p2 => ?_
  obtain ⟨k, e3, rfl⟩ := okB_some e2
  exact hs w2 m2 v1 v2 d d2 k Q W2 (r1.on x2) r2 e3 (p2.here W2 (.bl k))
theorem dt_cmp {o : Cop} {a b : Expr} {xa xb : E} {pos : Pos} (ha : DE C a (evE C.g xa)) (hb : DE C b (evE C.g xb)) (hm : behindInMarks (oprC o) b = false) : DT C (.Compare a [oprC o] [b] pos) (evE C.g (.cmp o xa xb)) := by
  obtain ⟨ta, pa, ra⟩ := ha
  obtain ⟨tb, pb, rb⟩ := hb
  obtain ⟨r, hr, hs⟩ := cop_k C o
  refine ⟨_, fun X ok => pt_cmpR (hr X ok) (pa X ok) (pb X ok) hm, fun σ w ρ m Q oo W E e p => ?_⟩
  simp only [evE] at e
  refine ra.bndT W E e p fun d m1 w1 v1 e1 x1 W1 r1 E1 p1 => ?_
  refine rb.bndT W1 E1 e1 p1 fun d2 m2 w2 v2 e2 x2 W2 r2 E2 p2 => ?_
  obtain ⟨k, e3, rfl⟩ := okB_some e2
  refine hs w2 m2 v1 v2 d d2 k _ W2 (r1.on x2) r2 e3 ?_
  obtain ⟨b', eb, q⟩ := p2
  cases eb
  exact ⟨_, rfl, q w2 (Ext.refl _) W2⟩
theorem de_chn {o p : Cop} {a b c : Expr} {xa xb xc : E} {pos : Pos} (ha : DE C a (evE C.g xa)) (hb : DE C b (evE C.g xb)) (hc : DE C c (evE C.g xc)) (hm : lastMarks [oprC o, oprC p] [b, c] = false)
    (hpe : ∀ X, C.Ok X → ∀ r r' ta tb tc, OpR X (compareOp (oprC o)) r → OpR X (compareOp (oprC p)) r' → PE X a ta → PE X b tb → PE X c tc → PE X (.Compare a [oprC o, oprC p] [b, c] pos) (tChain r r' ta tb tc)) : DE C (.Compare a [oprC o, oprC p] [b, c] pos) (evE C.g (.chn o p xa xb xc)) := by
  obtain ⟨ta, pa, ra⟩ := ha
  obtain ⟨tb, pb, rb⟩ := hb
  obtain ⟨tc, pc, rc⟩ := hc
  obtain ⟨r, hr, hs⟩ := cop_k C o
  obtain ⟨r', hr', hs'⟩ := cop_k C p
  refine ⟨_, fun X ok => hpe X ok _ _ _ _ _ (hr X ok) (hr' X ok) (pa X ok) (pb X ok) (pc X ok), fun σ w ρ m Q oo W E e pp => ?_⟩
  simp only [evE] at e
  refine ra.bnd W E e pp fun d m1 w1 v1 e1 x1 W1 r1 E1 p1 => ?_
  refine rb.bnd W1 E1 e1 p1 fun d2 m2 w2 v2 e2 x2 W2 r2 E2 p2 => ?_
  split at e2
  · rename_i h
    refine hs w2 m2 v1 v2 d d2 true _ W2 (r1.on x2) r2 h ⟨true, rfl, ?_⟩
    rw [if_pos rfl]
    refine rc.bnd W2 E2 e2 p2 fun d3 m3 w3 v3 e3 x3 W3 r3 E3 p3 => ?_
    obtain ⟨k, e4, rfl⟩ := okB_some e3
    exact hs' w3 m3 v2 v3 d2 d3 k Q W3 (r2.on x3) r3 e4 (p3.here W3 (.bl k))
  · rename_i h
    cases e2
    refine hs w2 m2 v1 v2 d d2 false _ W2 (r1.on x2) r2 h ⟨false, rfl, ?_⟩
    rw [if_neg Bool.false_ne_true]
    exact p2.here W2 (.bl _)
  · cases e2
end
end Dv

namespace Dv
open PySem PySem.Spec PyProof PyProof.Rows
open L2 hiding Takes XE CX MkP PMk ps_raise ps_try_as ps_try_many HdsOk takes_of passAt passes_call mk_of pmk_own
open L2N (Takes XE CX MkP PMk ps_raise ps_try_as ps_try_many HdsOk takes_of passAt passes_call mk_of pmk_own Zn Zn.steady)

/-! ### t[::-1] of a tuple -/
section
variable {prog : Program} {w : World} {A : Around} {E : Value → Shared → Prop} {s : Shared}
end
end Dv

namespace Dv
open PySem PySem.Spec PyProof.Rows
open L2 hiding Takes XE CX MkP PMk ps_raise ps_try_as ps_try_many HdsOk takes_of passAt passes_call mk_of pmk_own
open L2N (Takes XE CX MkP PMk ps_raise ps_try_as ps_try_many HdsOk takes_of passAt passes_call mk_of pmk_own Zn Zn.steady)

/-! ### what the syntax asks -/
noncomputable def noStar : Expr → Bool
  | .Starred .. => false
  | _ => true
theorem star1 {e : Expr} (h : noStar e = true) (es : List Expr) (env : Env) : starEach (e :: es) env = (false, eval e env) :: starEach es env := by
  cases e <;> first | rfl | cases h
theorem stars {pos : Pos} {env : Env} : ∀ {es : List Expr}, es.all noStar = true → (backTo pos (starEach es env)).any (·.1) = false
  | [], _ => rfl
  | e :: es, h => by
    rw [List.all_cons, Bool.and_eq_true] at h
    rw [star1 h.1]
    show (false || _) = false
    rw [Bool.false_or]
    exact stars h.2

section
variable {C : Cs}
/-! ### arguments -/
theorem da_nil : DA C [] (evL C.g .nil) := ⟨_, fun X ok => pa_nil, fun σ w ρ m Q o W E e p => by simp only [evL] at e; cases e; exact p w [] (Ext.refl _) W .nil⟩
theorem da_cons {e : Expr} {es : List Expr} {x : Dv.E} {xs : Es} (he : DE C e (evE C.g x)) (hes : DA C es (evL C.g xs)) (hs : noStar e = true) : DA C (e :: es) (evL C.g (.cons x xs)) := by
  obtain ⟨t, p, r⟩ := he
  obtain ⟨u, q, s⟩ := hes
  refine ⟨_, fun X ok => pa_cons (p X ok) (q X ok) (star1 hs es _), fun σ w ρ m Q o W E e pp => ?_⟩
  simp only [evL] at e
  unfold consL at e
  split at e
  · rename_i d m1 e1
    refine r σ w ρ m _ _ W E e1 fun w1 v1 x1 W1 r1 => ?_
    have E1 := E.on x1
    have p1 := pp.on x1 W1
    split at e
    · rename_i ds m2 e2
      cases e
      exact s σ w1 ρ m1 _ _ W1 E1 e2 fun w2 vs x2 W2 r2 => p1 w2 _ x2 W2 (.cons (r1.on x2) r2)
    · rename_i y m2 e2
      cases e
      exact s σ w1 ρ m1 _ _ W1 E1 e2 p1
    · cases e
  · rename_i y m1 e1
    cases e
    exact r σ w ρ m _ _ W E e1 pp
  · cases e

/-! ### truth -/
theorem de_and {a : Expr} {b : Expr} {rest : List Expr} {xa xb : Dv.E} {pos : Pos} (ha : DE C a (evE C.g xa)) (hb : DE C (.BoolOp .And (b :: rest) pos) (evE C.g xb)) : DE C (.BoolOp .And (a :: b :: rest) pos) (evE C.g (.and xa xb)) := by
  obtain ⟨ta, pa, ra⟩ := ha
  obtain ⟨tb, pb, rb⟩ := hb
  refine ⟨_, fun X ok => pe_and (pa X ok) (pb X ok), fun σ w ρ m Q oo W E e p => ?_⟩
  simp only [evE] at e
  refine ra.bnd W E e p fun d m1 w1 v1 e1 x1 W1 r1 E1 p1 => ?_
  split at e1
  · cases r1
    refine ⟨true, rfl, ?_⟩
    rw [if_pos rfl]
    exact rb σ w1 ρ m1 Q oo W1 E1 e1 p1
  · cases r1
    cases e1
    refine ⟨false, rfl, ?_⟩
    rw [if_neg Bool.false_ne_true]
    exact p1.here W1 (.bl _)
  · cases e1
theorem de_one {op : BoolOp} {a : Expr} {f : Ro → List R → Option Rs} {pos : Pos} (ha : DE C a f) : DE C (.BoolOp op [a] pos) f := by
  obtain ⟨ta, pa, ra⟩ := ha
  exact ⟨_, fun X ok => pe_one (pa X ok), ra⟩
theorem de_not {a : Expr} {xa : Dv.E} {pos : Pos} (ha : DE C a (evE C.g xa)) : DE C (.UnaryOp .Not a pos) (evE C.g (.not xa)) := by
  obtain ⟨ta, pa, ra⟩ := ha
  refine ⟨_, fun X ok => pe_not (pa X ok), fun σ w ρ m Q oo W E e p => ?_⟩
  simp only [evE] at e
  refine ra.bnd W E e p fun d m1 w1 v1 e1 x1 W1 r1 E1 p1 => ?_
  split at e1
  · cases r1
    cases e1
    exact ⟨_, rfl, p1.here W1 (.bl _)⟩
  · cases e1
theorem de_ite {c a b : Expr} {xc xa xb : Dv.E} {pos : Pos} (hc : DT C c (evE C.g xc)) (ha : DE C a (evE C.g xa)) (hb : DE C b (evE C.g xb)) : DE C (.IfExp c a b pos) (evE C.g (.ite xc xa xb)) := by
  obtain ⟨tc, pc, rc⟩ := hc
  obtain ⟨ta, pa, ra⟩ := ha
  obtain ⟨tb, pb, rb⟩ := hb
  refine ⟨_, fun X ok => pe_ifExp (pc X ok) (pa X ok) (pb X ok), fun σ w ρ m Q oo W E e p => ?_⟩
  simp only [evE] at e
  refine rc.bnd (k := fun b m => if b = true then evE C.g xa ρ m else evE C.g xb ρ m) W E (Eq.trans (congrArg _ (funext fun x => funext fun m => ?_)) e) p fun k m1 w1 e1 x1 W1 E1 p1 => ?_
  · cases x <;> try rfl
    rename_i b
    cases b <;> rfl
  · cases k with
    | true => rw [if_pos rfl] at e1 ⊢; exact ra σ w1 ρ m1 Q oo W1 E1 e1 p1
    | false => rw [if_neg Bool.false_ne_true] at e1 ⊢; exact rb σ w1 ρ m1 Q oo W1 E1 e1 p1

/-! ### tests -/
theorem DW.dt {e : Expr} {f : Ro → List R → Option Rs} (h : DW C e f) : DT C e f := let ⟨t, p, r⟩ := h; ⟨t, fun X ok => (p X ok).pt, r⟩
theorem dt_val {e : Expr} {f : Ro → List R → Option Rs} (h : DE C e f) (he : ∀ (env : Env) whole, isTrue e env whole = (do let v ← whole; standAt e.pos; holding [v] (truthy v))) : DT C e f := by
  obtain ⟨t, p, r⟩ := h
  refine ⟨_, fun X ok => pt_val (p X ok) (he _), fun σ w ρ m Q oo W E e p => ?_⟩
  refine r σ w ρ m _ oo W E e ?_
  cases oo with
  | ok d m' =>
    obtain ⟨b, rfl, q⟩ := p
    exact fun w' v x' W' r' => by cases r'; exact ⟨b, rfl, q w' x' W'⟩
  | ex x m' => exact p
theorem dw_and1 {a : Expr} {f : Ro → List R → Option Rs} {pos : Pos} (h : DT C a f) : DW C (.BoolOp .And [a] pos) f := let ⟨t, p, r⟩ := h; ⟨t, fun X ok => pw_and1 (p X ok), r⟩
theorem dw_or1 {a : Expr} {f : Ro → List R → Option Rs} {pos : Pos} (h : DT C a f) : DW C (.BoolOp .Or [a] pos) f := let ⟨t, p, r⟩ := h; ⟨t, fun X ok => pw_or1 (p X ok), r⟩
theorem dw_and {a b : Expr} {rest : List Expr} {xa xb : Dv.E} {pos : Pos} (ha : DT C a (evE C.g xa)) (hb : DW C (.BoolOp .And (b :: rest) pos) (evE C.g xb)) : DW C (.BoolOp .And (a :: b :: rest) pos) (evE C.g (.and xa xb)) := by
  obtain ⟨ta, pa, ra⟩ := ha
  obtain ⟨tb, pb, rb⟩ := hb
  refine ⟨_, fun X ok => pw_and (pa X ok) (pb X ok), fun σ w ρ m Q oo W E e p => ?_⟩
  simp only [evE] at e
  refine ra.bndT (k := fun b m => if b = true then evE C.g xb ρ m else some (.ok (.bl false) m)) W E (Eq.trans (congrArg _ (funext fun x => funext fun m => ?_)) e) p fun k m1 w1 e1 x1 W1 E1 p1 => ?_
  · cases x <;> try rfl
    rename_i b
    cases b <;> rfl
  · cases k with
    | true => rw [if_pos rfl] at e1 ⊢; exact rb σ w1 ρ m1 Q oo W1 E1 e1 p1
    | false =>
      rw [if_neg Bool.false_ne_true] at e1 ⊢
      cases e1
      obtain ⟨b, eb, q⟩ := p1
      cases eb
      exact q w1 (Ext.refl _) W1
theorem dw_or {a b : Expr} {rest : List Expr} {xa xb : Dv.E} {pos : Pos} (ha : DT C a (evE C.g xa)) (hb : DW C (.BoolOp .Or (b :: rest) pos) (evE C.g xb)) : DW C (.BoolOp .Or (a :: b :: rest) pos) (evE C.g (.or xa xb)) := by
  obtain ⟨ta, pa, ra⟩ := ha
  obtain ⟨tb, pb, rb⟩ := hb
  refine ⟨_, fun X ok => pw_or (pa X ok) (pb X ok), fun σ w ρ m Q oo W E e p => ?_⟩
  simp only [evE] at e
  refine ra.bndT (k := fun b m => if b = true then some (.ok (.bl true) m) else evE C.g xb ρ m) W E (Eq.trans (congrArg _ (funext fun x => funext fun m => ?_)) e) p fun k m1 w1 e1 x1 W1 E1 p1 => ?_
  · cases x <;> try rfl
    rename_i b
    cases b <;> rfl
  · cases k with
    | false => rw [if_neg Bool.false_ne_true] at e1 ⊢; exact rb σ w1 ρ m1 Q oo W1 E1 e1 p1
    | true =>
      rw [if_pos rfl] at e1 ⊢
      cases e1
      obtain ⟨b, eb, q⟩ := p1
      cases eb
      exact q w1 (Ext.refl _) W1
theorem dt_not {a : Expr} {xa : Dv.E} {pos : Pos} (ha : DT C a (evE C.g xa)) : DT C (.UnaryOp .Not a pos) (evE C.g (.not xa)) := by
  obtain ⟨ta, pa, ra⟩ := ha
  refine ⟨_, fun X ok => pt_not (pa X ok), fun σ w ρ m Q oo W E e p => ?_⟩
  simp only [evE] at e
  refine ra.bndT (k := fun b m => some (.ok (.bl (!b)) m)) W E (Eq.trans (congrArg _ (funext fun x => funext fun m => ?_)) e) p fun k m1 w1 e1 x1 W1 E1 p1 => ?_
  · cases x <;> rfl
  · cases e1
    obtain ⟨b, eb, q⟩ := p1
    cases eb
    exact q w1 (Ext.refl _) W1
theorem dt_chn {o p : Cop} {a b c : Expr} {xa xb xc : Dv.E} {pos : Pos} (ha : DE C a (evE C.g xa)) (hb : DE C b (evE C.g xb)) (hc : DE C c (evE C.g xc)) (hm : lastMarks [oprC o, oprC p] [b, c] = false) :
    DT C (.Compare a [oprC o, oprC p] [b, c] pos) (evE C.g (.chn o p xa xb xc)) := by
  obtain ⟨ta, pa, ra⟩ := ha
  obtain ⟨tb, pb, rb⟩ := hb
  obtain ⟨tc, pc, rc⟩ := hc
  obtain ⟨r, hr, hs⟩ := cop_k C o
  obtain ⟨r', hr', hs'⟩ := cop_k C p
  refine ⟨_, fun X ok => pt_chain (hr X ok) (hr' X ok) (pa X ok) (pb X ok) (pc X ok) hm, fun σ w ρ m Q oo W E e pp => ?_⟩
  simp only [evE] at e
  refine ra.bndT W E e pp fun d m1 w1 v1 e1 x1 W1 r1 E1 p1 => ?_
  refine rb.bndT W1 E1 e1 p1 fun d2 m2 w2 v2 e2 x2 W2 r2 E2 p2 => ?_
  split at e2
  · rename_i h
    refine hs w2 m2 v1 v2 d d2 true _ W2 (r1.on x2) r2 h ⟨true, rfl, ?_⟩
    rw [if_pos rfl]
    refine rc.bndT W2 E2 e2 p2 fun d3 m3 w3 v3 e3 x3 W3 r3 E3 p3 => ?_
    obtain ⟨k, e4, rfl⟩ := okB_some e3
    refine hs' w3 m3 v2 v3 d2 d3 k _ W3 (r2.on x3) r3 e4 ?_
    obtain ⟨b', eb, q⟩ := p3
    cases eb
    exact ⟨_, rfl, q w3 (Ext.refl _) W3⟩
  · rename_i h
    cases e2
    refine hs w2 m2 v1 v2 d d2 false _ W2 (r1.on x2) r2 h ⟨false, rfl, ?_⟩
    rw [if_neg Bool.false_ne_true]
    obtain ⟨b', eb, q⟩ := p2
    cases eb
    exact ⟨_, rfl, q w2 (Ext.refl _) W2⟩
  · cases e2
theorem de_chn' {o p : Cop} {a b c : Expr} {xa xb xc : Dv.E} {pos : Pos} (ha : DE C a (evE C.g xa)) (hb : DE C b (evE C.g xb)) (hc : DE C c (evE C.g xc)) (hm : lastMarks [oprC o, oprC p] [b, c] = false) :
    DE C (.Compare a [oprC o, oprC p] [b, c] pos) (evE C.g (.chn o p xa xb xc)) := de_chn ha hb hc hm fun X ok r r' ta tb tc h1 h2 h3 h4 h5 => pe_chain h1 h2 h3 h4 h5 hm

/-! ### displays, subscripts -/
theorem de_tup {es : List Expr} {xs : Es} {k : Nat} {pos : Pos} (h : DA C es (evL C.g xs)) : DE C (.Tuple es k pos) (evE C.g (.tup xs)) := by
  obtain ⟨t, p, r⟩ := h
  refine ⟨_, fun X ok => pe_tupF (p X ok), fun σ w ρ m Q oo W E e pp => ?_⟩
  simp only [evE] at e
  refine r.bnd W E e pp fun d m1 w1 v1 e1 x1 W1 r1 E1 p1 => ?_
  split at e1
  · cases e1
    exact ⟨by rw [r1.length]; assumption, fun q o hq ho => new_tup W1 r1 hq ho fun w' v x' W' r' => p1 w' v x' W' r'⟩
  · cases e1
theorem de_lst {es : List Expr} {xs : Es} {mu : Bool} {pos : Pos} (h : DA C es (evL C.g xs)) : DE C (.List es pos) (evE C.g (.lst mu xs)) := by
  obtain ⟨t, p, r⟩ := h
  refine ⟨_, fun X ok => pe_lst (p X ok), fun σ w ρ m Q oo W E e pp => ?_⟩
  simp only [evE] at e
  refine r.bnd W E e pp fun d m1 w1 v1 e1 x1 W1 r1 E1 p1 => ?_
  split at e1
  · cases e1
    exact ⟨by rw [r1.length]; assumption, fun q hq => new_list W1 r1 hq fun w' v x' W' r' => p1 w' v x' W' r'⟩
  · cases e1
theorem RepL.atI {T : Tb} {Hs : Hp} {al : List Addr} {vs : List V} {ds : List D} (h : RepL T Hs al vs ds) {i : Int} {d : D} (e : atI ds i = some d) : ∃ v, L2.atI vs i = some v ∧ Rep T Hs al v d := by
  unfold L2.atI at e ⊢
  rw [h.length]
  cases h1 : ixN ds.length i with
  | none => rw [h1] at e; cases e
  | some j =>
    rw [h1] at e
    exact h.get e
noncomputable def IxS (T : Tb) (r : R2) : Prop :=
  ∀ (w : Wd) (m : List R) (x y : V) (dx dy d : D) (Q : VK), Wf T w m → Rep T w.Hs w.al x dx → Rep T w.Hs w.al y dy → ixD m dx dy = some d → (∀ v, Rep T w.Hs w.al v d → Q v w.H) → r x y w.H Q
theorem ix_s {T : Tb} : IxS T (rIx T.K) := by
  intro w m x y dx dy d Q W hx hy e q
  unfold ixD at e
  split at e
  · rename_i i
    cases hy
    have gen : (sq m dx).bind (fun xs => atI xs i) = some d → rIx T.K x (.int i) w.H Q := fun e => by
      cases h : sq m dx with
      | none => rw [h] at e; cases e
      | some xs =>
        rw [h] at e
        obtain ⟨a, vs, rfl, hs, r⟩ := sq_rep W hx h
        obtain ⟨v, h1, h2⟩ := r.atI e
        rcases hs with hs | hs
        · exact .inl ⟨a, vs, i, v, rfl, rfl, hs, h1, q v h2⟩
        · exact .inr (.inl ⟨a, vs, i, v, rfl, rfl, hs, h1, q v h2⟩)
    split at e
    · rename_i z
      split at e
      · rename_i hz
        cases hx
        cases h : atI z.cps.toList i with
        | none => rw [h] at e; cases e
        | some c =>
          rw [h] at e
          cases e
          exact .inr (.inr ⟨z, i, c, rfl, rfl, hz, h, q _ (.str _)⟩)
      · cases e
    · exact gen e
  · cases e
theorem de_ix {a b : Expr} {xa xb : Dv.E} {pos : Pos} (ha : DE C a (evE C.g xa)) (hb : DE C b (evE C.g xb)) (hs : PlainIx b) : DE C (.Subscript a b pos) (evE C.g (.ix xa xb)) := by
  obtain ⟨ta, pa, ra⟩ := ha
  obtain ⟨tb, pb, rb⟩ := hb
  refine ⟨tOp (rIx C.T.K) ta tb, fun X ok => pe_ix (by have := ix_seq (X := X); rw [ok.K] at this; exact this) (pa X ok) (pb X ok) hs, fun σ w ρ m Q oo W E e p => ?_⟩
  simp only [evE] at e
  refine ra.bnd W E e p fun d m1 w1 v1 e1 x1 W1 r1 E1 p1 => ?_
  refine rb.bnd W1 E1 e1 p1 fun d2 m2 w2 v2 e2 x2 W2 r2 E2 p2 => ?_
  cases h : ixD m2 d d2 with
  | none => rw [h] at e2; cases e2
  | some k =>
    rw [h] at e2
    cases e2
    exact ix_s w2 m2 v1 v2 d d2 k Q W2 (r1.on x2) r2 h fun v r' => p2.here W2 r'
theorem RepL.cut {T : Tb} {Hs : Hp} {al : List Addr} {vs : List V} {ds : List D} (h : RepL T Hs al vs ds) (lo hi : Option Int) : RepL T Hs al (cutV vs lo hi) (cutD ds lo hi) := by
  unfold cutV cutD
  rw [h.length]
  exact (h.drop _).take _
end
end Dv

namespace Dv
open PySem PySem.Spec PyProof.Rows
open L2 hiding Takes XE CX MkP PMk ps_raise ps_try_as ps_try_many HdsOk takes_of passAt passes_call mk_of pmk_own
open L2N (Takes XE CX MkP PMk ps_raise ps_try_as ps_try_many HdsOk takes_of passAt passes_call mk_of pmk_own Zn Zn.steady)

/-! ### the syntax of method calls and attributes -/
noncomputable def plainO : Expr → Bool
  | .Call (.Name _ _) [] [] _ => false
  | _ => true
theorem base_of {o : Expr} (h : plainO o = true) (f : Str) (env : Env) (whole : Sem Value) : attributeBase o f env whole = whole := by
  unfold attributeBase
  split
  · cases h
  · rfl
theorem form_of {pos : Pos} {env : Env} {es : List Expr} (h : es.all noStar = true) (hl : es.length < 30) : methodCallForm (es.length + ([] : List Keyword).length) (backTo pos (starEach es env)) (backToKw pos (keywordEach [] env)) = true := by
  have a : ∀ (es : List Expr), es.all noStar = true → (backTo pos (starEach es env)).all (!·.1) = true := fun es h => by
    induction es with
    | nil => rfl
    | cons e es ih =>
      rw [List.all_cons, Bool.and_eq_true] at h
      rw [star1 h.1]
      show (true && _) = true
      rw [Bool.true_and]
      exact ih h.2
  unfold methodCallForm
  rw [a es h]
  have : es.length + ([] : List Keyword).length + (if (backToKw pos (keywordEach [] env)).isEmpty then 0 else 1) < 30 := by
    show es.length + 0 + 0 < 30
    omega
  simp only [Bool.true_and, Bool.and_eq_true]
  exact ⟨rfl, decide_eq_true this⟩
theorem meth_tree {o : Expr} {m : Str} {apos pos : Pos} {es : List Expr} {env : Env} (ho : plainO o = true) (h : es.all noStar = true) (hl : es.length < 30) (hp : (apos.endLine == pos.line) = true) :
    eval (.Call (.Attribute o m apos) es [] pos) env = (do
      let ov ← eval o env
      standAt apos.atName
      let (f, first) ← holding [ov] (getMethod ov m (do return (← importBound o env).getD true))
      callWith pos f first (backTo pos (starEach es env)) (backToKw pos (keywordEach [] env))) := by
  rw [arm_eval_Call, base_of ho]
  have hf : methodCallForm (es.length + ([] : List Keyword).length) (backTo pos (starEach es env)) (backToKw pos (keywordEach [] env)) = true := form_of h hl
  congr 1
  funext ov
  congr 1
  funext _
  unfold methodCall
  rw [hf]
  have h2 : methodCallPos true o env apos pos = pure pos := by unfold methodCallPos; simp [hp]
  rw [h2]
  rfl

/-! ### what a def promises on data -/
noncomputable def spD (T : Tb) (f : List D → List R → Option Rs) : Sp := fun vs H Q E => ∃ w ds m o, w.H = H ∧ Wf T w m ∧ RepL T w.Hs w.al vs ds ∧ f ds m = some o ∧ PostC T w Q E o
/-- the def number i, under the name x, called with n arguments -/
noncomputable def FnE (C : Cs) (x : Str) (n i : Nat) : Prop := ∃ (k : Nat) (f : Addr) (fd : FuncData) (ps : List Str) (sp : Sp) (ds : List Value) (dvs : List V), FnOk C.P C.w C.T.K C.mg C.base (L2N.CX C.P C.w) k f fd ps sp ∧ k ≤ C.L ∧ C.mg x = some (.ref f) ∧ PySem.W.keepIn C.T.K (.ref f) = true ∧
  Binds C.T.K fd ps ds ∧ Vals dvs ds ∧ ∀ vs H Q E, vs.length = n → spD C.T (C.g.F i) vs H Q E → sp (vs ++ dvs) H Q E
/-- the method m of the class number c, called with n arguments -/
noncomputable def MtE (C : Cs) (c : Nat) (m : Str) (n i : Nat) : Prop := ∃ (k : Nat) (f : Addr) (fd : FuncData) (ps : List Str) (sp : Sp) (ds : List Value) (dvs : List V), FnOk C.P C.w C.T.K C.mg C.base (L2N.CX C.P C.w) k f fd ps sp ∧ k ≤ C.L ∧ Cls C.T.K (C.T.cl c) ∧ Meth C.T.K (C.T.cl c) m f ∧
  Binds C.T.K fd ps ds ∧ Vals dvs ds ∧ ∀ vs H Q E, vs.length = n + 1 → spD C.T (C.g.F i) vs H Q E → sp (vs ++ dvs) H Q E
/-- a property -/
noncomputable def PrE (C : Cs) (c : Nat) (f : Str) (i : Nat) : Prop := ∃ (k : Nat) (p g : Addr) (fd : FuncData) (ps : List Str) (sp : Sp), FnOk C.P C.w C.T.K C.mg C.base (L2N.CX C.P C.w) k g fd ps sp ∧ k + 1 ≤ C.L ∧ Cls C.T.K (C.T.cl c) ∧ PropOf C.T.K (C.T.cl c) f p g ∧
  Binds C.T.K fd ps [] ∧ ∀ vs H Q E, vs.length = 1 → spD C.T (C.g.F i) vs H Q E → sp vs H Q E
/-- a class made with n arguments -/
noncomputable def MkE (C : Cs) (x : Str) (c n i : Nat) : Prop := ∃ (k : Nat) (f : Addr) (fd : FuncData) (ps : List Str) (sp : Sp) (ds : List Value) (dvs : List V), FnOk C.P C.w C.T.K C.mg C.base (L2N.CX C.P C.w) k f fd ps sp ∧ k + 1 ≤ C.L ∧ C.mg x = some (.ref (C.T.cl c)) ∧ Mk C.T.K (C.T.cl c) f ∧
  Binds C.T.K fd ps ds ∧ Vals dvs ds ∧ ∀ vs H Q E, vs.length = n + 1 → spD C.T (C.g.F i) vs H Q E → sp (vs ++ dvs) H Q E

section
variable {C : Cs}
theorem spD_post {C : Cs} {i : Nat} {vs : List V} {ds : List D} {w : Wd} {m : List R} {o : Rs} {Q : VK} {σ : L2.St} (W : Wf C.T w m) (r : RepL C.T w.Hs w.al vs ds) (e : C.g.F i ds m = some o) (p : PostE C.T C.W σ w Q o) : spD C.T (C.g.F i) vs w.H Q (WE C.W σ) := ⟨w, ds, m, o, rfl, W, r, e, p⟩

theorem evL_len (g : Gt) : ∀ (xs : Es) (ρ : Ro) (m : List R) {ds : List D} {m' : List R}, evL g xs ρ m = some (.ok ds m') → ds.length = xs.len
  | .nil, _, _, _, _, e => by simp only [evL] at e; cases e; rfl
  | .cons x r, ρ, m, ds, m', e => by
    simp only [evL] at e
    unfold consL at e
    split at e
    · split at e
      · rename_i h
        cases e
        have := evL_len g r ρ _ h
        simp only [List.length_cons, Es.len, this]
      · cases e
      · cases e
    · cases e
    · cases e
/-- what is asked of the arguments' number is there -/
theorem RunsL.bndN {t : TA} {xs : Es} (h : RunsL C t (evL C.g xs)) {σ : L2.St} {w : Wd} {ρ : Ro} {m : List R} {Q : VK} {o : Rs} {k : List D → List R → Option Rs} (W : Wf C.T w m) (E : ER C.T w σ ρ) (e : bndL (evL C.g xs ρ m) k = some o) (p : PostE C.T C.W σ w Q o)
    {R' : List V → Hp → Prop} (c : ∀ d m1 w1 v1, v1.length = xs.len → k d m1 = some o → Ext w w1 → Wf C.T w1 m1 → RepL C.T w1.Hs w1.al v1 d → ER C.T w1 σ ρ → PostE C.T C.W σ w1 Q o → R' v1 w1.H) : t σ w.H R' := by
  rcases bndL_some e with ⟨d, m1, e1, e2⟩ | ⟨x, m1, e1, rfl⟩
  · exact h σ w ρ m R' _ W E e1 fun w1 v1 e' W1 r => c d m1 w1 v1 (r.length.trans (evL_len _ _ _ _ e1)) e2 e' W1 r (E.on e') (p.on e' W1)
  · exact h σ w ρ m R' _ W E e1 p
theorem de_cal [Cold C] {x : Str} {i : Nat} {e : Expr} {es : List Expr} {xs : Es} {p pos : Pos} (F : FnE C x xs.len i) (hg : C.sc.names.lookup x = some .globalImplicit) (ha : DA C (e :: es) (evL C.g xs)) (hs : (e :: es).all noStar = true) (hdb : (x == ("__debug__" : Str)) = false) :
    DE C (.Call (.Name x p) (e :: es) [] pos) (evE C.g (.cal i xs)) := by
  obtain ⟨k, f, fd, ps, sp, ds, dvs, F, hk, hm, kp, hb, hd, imp⟩ := F
  obtain ⟨t, pt, rt⟩ := ha
  rw [List.all_cons, Bool.and_eq_true] at hs
  refine ⟨tCallSD sp dvs (WE C.W) t, fun X ok => ?_, fun σ w ρ m Q oo W E e0 pp => ?_⟩
  · have F' : FnOk X.prog X.w X.K X.mg X.base (L2N.CX X.prog X.w) k f fd ps sp := by rw [ok.prog, ok.w, ok.K, ok.mg, ok.base]; exact F
    exact pe_callSD (X := X) (pos := pos) (p := p) (t := t) F' ((ok.room Cold.out).mono hk) (show X.env.scope.names.lookup x = some .globalImplicit by rw [ok.sc]; exact hg) (by rw [ok.mg]; exact hm) (by rw [ok.K]; exact kp) (by rw [ok.K]; exact hb) hd (fun σ => passAt ok.tk σ) (pt X ok) hdb (star1 hs.1 es _) (stars hs.2)
  · simp only [evE] at e0
    exact rt.bndN W E e0 pp fun d m1 w1 v1 hl e1 x1 W1 r1 E1 p1 => imp v1 _ Q _ hl (spD_post W1 r1 e1 p1)

/-! ### methods of the text's own classes -/
/-- the reading of o.m(..): whatever the class -/
noncomputable def tMet (C : Cs) (m : Str) (n : Nat) (ta : TE) (t : TA) : TE := fun σ H Q => ta σ H fun x H1 => ∃ c i a dx fs k f fd ps sp ds dvs, x = .ref a ∧ H1 a = some (.ins (C.T.cl c) dx fs) ∧ fs.lookup m = none ∧
  (FnOk C.P C.w C.T.K C.mg C.base (L2N.CX C.P C.w) k f fd ps sp ∧ k ≤ C.L ∧ Cls C.T.K (C.T.cl c) ∧ Meth C.T.K (C.T.cl c) m f ∧
  Binds C.T.K fd ps ds ∧ Vals dvs ds ∧ ∀ vs H Q E, vs.length = n + 1 → spD C.T (C.g.F i) vs H Q E → sp (vs ++ dvs) H Q E) ∧ t σ H1 fun vs H2 => sp (x :: vs ++ dvs) H2 Q (WE C.W σ)
theorem pe_met [Cold C] {X : Cx} (ok : C.Ok X) {o : Expr} {m : Str} {n : Nat} {e : Expr} {es : List Expr} {apos pos : Pos} {ta : TE} {t : TA} (he : PE X o ta) (ha : PA X (e :: es) t) (ho : plainO o = true) (h : (e :: es).all noStar = true) (hl : (e :: es).length < 30) (hp : (apos.endLine == pos.line) = true) :
    PE X (.Call (.Attribute o m apos) (e :: es) [] pos) (tMet C m n ta t) := by
  refine ⟨fun pins s σ H Q I hh => ?_⟩
  refine PySem.W.methodCall_KW (thn (he.run pins s σ H _ I hh) fun u s1 ⟨x, H1, I1, rx, c, i, a, dx, fs, k, f, fd, ps, sp, ds, dvs, ex, ea, l, ⟨F, hk, hc, hm, hb, hd, imp⟩, q⟩ => ?_) (meth_tree ho h hl hp)
  subst ex
  obtain rfl : u = Value.ref a := rx
  have F' : FnOk X.prog X.w X.K X.mg X.base (L2N.CX X.prog X.w) k f fd ps sp := by rw [ok.prog, ok.w, ok.K, ok.mg, ok.base]; exact F
  rw [← ok.K] at hc hm hb
  refine getmeth_ok I1 ea hc hm l ?_
  rw [List.all_cons, Bool.and_eq_true] at h
  refine PySem.W.callWith_K (first := [.ref a]) (h₀ := X.base) I.ok.mod.kin hm.kp (thn (ha.run pos pins s1 σ H1 _ I1 q) fun us s2 ⟨vs, H2, I2, r, q2⟩ => ⟨I2.kIn, ?_⟩) (star1 h.1 es _) (stars h.2)
  exact run_fnSD (us := .ref a :: us) (vs := .ref a :: vs) F' ((ok.room Cold.out).mono hk) hb hd (passAt ok.tk σ) I2 (.cons rfl r) q2
/-- an instance's class, on data -/
theorem Rep.inst {w : Wd} {m : List R} (W : Wf C.T w m) {v : V} {c : Nat} {xs : List D} (h : Rep C.T w.Hs w.al v (.obj c xs)) : ∃ a dx fs, v = .ref a ∧ w.H a = some (.ins (C.T.cl c) dx fs) ∧ fs.map (·.1) = C.T.nm c ∧ RepL C.T w.Hs w.al (fs.map (·.2)) xs := by
  cases h with
  | obj s n r => exact ⟨_, _, _, rfl, W.sub _ _ s, n, r⟩
theorem Rep.instR {w : Wd} {m : List R} (W : Wf C.T w m) {v : V} {k c : Nat} {gs : List (Str × D)} (h : Rep C.T w.Hs w.al v (.res k)) (e : m[k]? = some (.obj c gs)) :
    ∃ a dx fs, v = .ref a ∧ w.H a = some (.ins (C.T.cl c) dx fs) ∧ fs.map (·.1) = gs.map (·.1) ∧ RepL C.T w.Hs w.al (fs.map (·.2)) (gs.map (·.2)) := by
  cases h with
  | res hk =>
    obtain ⟨dx, fs, h1, h2, h3⟩ := W.ok k _ _ hk e
    exact ⟨_, dx, fs, rfl, h1, h2, h3⟩
theorem not_mem_of_lookup {α : Type} {f : Str} : ∀ {fs : List (Str × α)}, fs.lookup f = none → ∀ x, (f, x) ∉ fs
  | [], _, _, h => by cases h
  | (g, y) :: r, e, x, h => by
    rw [List.lookup_cons] at e
    by_cases z : f = g
    · subst z
      simp at e
    · have z2 : (f == g) = false := beq_eq_false_iff_ne.mpr z
      simp only [z2] at e
      rcases List.mem_cons.mp h with h | h
      · cases h; exact z rfl
      · exact not_mem_of_lookup e x h
theorem lookup_none {α : Type} {f : Str} : ∀ {fs : List (Str × α)}, f ∉ fs.map (·.1) → fs.lookup f = none
  | [], _ => rfl
  | (g, x) :: r, h => by
    rw [List.map_cons, List.mem_cons, not_or] at h
    rw [List.lookup_cons]
    have : (f == g) = false := beq_eq_false_iff_ne.mpr h.1
    rw [this]
    exact lookup_none h.2
/-- what the methods' table must say: no field bears the name -/
noncomputable def MetOk (C : Cs) (m : Str) (n : Nat) : Prop := (∀ c i, C.g.meth c m n = some i → MtE C c m n i) ∧ ∀ c i, C.g.meth c m n = some i → m ∉ C.T.nm c
theorem insD_rep {w : Wd} {mm : List R} {m : Str} {n : Nat} {c i : Nat} {d : D} {v : V} (hM : MetOk C m n) (W : Wf C.T w mm) (r : Rep C.T w.Hs w.al v d) (h : insD mm m d = some c) (hm : C.g.meth c m n = some i) :
    ∃ a dx fs, v = .ref a ∧ w.H a = some (.ins (C.T.cl c) dx fs) ∧ fs.lookup m = none := by
  cases d with
  | obj c' ys =>
    cases h
    obtain ⟨a, dx, fs, ev, ea, hn, hr⟩ := Rep.inst W r
    exact ⟨a, dx, fs, ev, ea, lookup_none (by rw [hn]; exact hM.2 c i hm)⟩
  | res k =>
    simp only [insD] at h
    split at h
    · rename_i c' gs hk
      split at h
      · rename_i hl
        cases h
        obtain ⟨a, dx, fs, ev, ea, hn, hr⟩ := Rep.instR W r hk
        refine ⟨a, dx, fs, ev, ea, lookup_none ?_⟩
        rw [hn]
        intro hin
        obtain ⟨⟨f, x⟩, h1, h2⟩ := List.mem_map.mp hin
        cases h2
        exact absurd h1 (not_mem_of_lookup hl x)
      · cases h
    · cases h
  | _ => cases h
theorem de_met [Cold C] {o : Expr} {m : Str} {e : Expr} {es : List Expr} {xo : Dv.E} {xs : Es} {apos pos : Pos} (hM : MetOk C m xs.len) (ho : DE C o (evE C.g xo)) (ha : DA C (e :: es) (evL C.g xs)) (hpo : plainO o = true) (h : (e :: es).all noStar = true) (hl : (e :: es).length < 30) (hp : (apos.endLine == pos.line) = true) :
    DE C (.Call (.Attribute o m apos) (e :: es) [] pos) (evE C.g (.omt m xo xs)) := by
  obtain ⟨ta, pa, ra⟩ := ho
  obtain ⟨t, pt, rt⟩ := ha
  refine ⟨tMet C m xs.len ta t, fun X ok => pe_met ok (pa X ok) (pt X ok) hpo h hl hp, fun σ w ρ mm Q oo W E e0 pp => ?_⟩
  simp only [evE] at e0
  refine ra.bnd W E e0 pp fun d m1 w1 v1 e1 x1 W1 r1 E1 p1 => ?_
  split at e1
  · rename_i c hc
    split at e1
    · rename_i i hm
      obtain ⟨a, dx, fs, ev, ea, hf⟩ := insD_rep hM W1 r1 hc hm
      obtain ⟨k, f, fd, ps, sp, ds, dvs, z⟩ := hM.1 c i hm
      refine ⟨c, i, a, dx, fs, k, f, fd, ps, sp, ds, dvs, ev, ea, hf, z, ?_⟩
      obtain ⟨_, _, _, _, _, _, imp⟩ := z
      exact rt.bndN W1 E1 e1 p1 fun d2 m2 w2 v2 hl2 e3 x2 W2 r2 E2 p2 => imp (v1 :: v2) _ Q _ (by rw [List.length_cons, hl2]) (spD_post W2 (.cons (r1.on x2) r2) e3 p2)
    · cases e1
  · cases e1
/-! ### attributes -/
noncomputable def tAtt (C : Cs) (f : Str) (ta : TE) : TE := fun σ H Q => ta σ H fun x H1 => ∃ c a dx fs, x = .ref a ∧ H1 a = some (.ins (C.T.cl c) dx fs) ∧
  ((∃ v, Cls C.T.K (C.T.cl c) ∧ NoAttr C.T.K (C.T.cl c) f ∧ fs.lookup f = some v ∧ Q v H1) ∨
   ∃ i k p g fd ps sp, (FnOk C.P C.w C.T.K C.mg C.base (L2N.CX C.P C.w) k g fd ps sp ∧ k + 1 ≤ C.L ∧ Cls C.T.K (C.T.cl c) ∧ PropOf C.T.K (C.T.cl c) f p g ∧
  Binds C.T.K fd ps [] ∧ ∀ vs H Q E, vs.length = 1 → spD C.T (C.g.F i) vs H Q E → sp vs H Q E) ∧ sp [x] H1 Q (fun _ _ _ => False))
theorem pe_att [Cold C] {X : Cx} (ok : C.Ok X) {o : Expr} {f : Str} {pos : Pos} {ta : TE} (he : PE X o ta) (ho : plainO o = true) : PE X (.Attribute o f pos) (tAtt C f ta) := by
  refine ⟨fun pins s σ H Q I hh => ?_⟩
  refine attr_of (base_of ho _ _ _) (thn (he.run pins s σ H _ I hh) fun u s1 ⟨x, H1, I1, rx, c, a, dx, fs, ex, ea, q⟩ => ?_)
  subst ex
  obtain rfl : u = Value.ref a := rx
  rcases q with ⟨v, hc, n, l, q⟩ | ⟨i, k, p, g, fd, ps, sp, ⟨F, hk, hc, hp, hb, imp⟩, q⟩
  · rw [← ok.K] at hc n
    exact getattr_ok I1 ea hc n l fun u' s2 I2 ru => ⟨v, H1, I2, ru, q⟩
  · have F' : FnOk X.prog X.w X.K X.mg X.base (L2N.CX X.prog X.w) k g fd ps sp := by rw [ok.prog, ok.w, ok.K, ok.mg, ok.base]; exact F
    rw [← ok.K] at hc hp hb
    exact getprop_ok I1 ea hc hp F' ((ok.room Cold.out).mono hk) hb .nil (fun pins σ H s e s' I z => by
      obtain ⟨_, _, _, _, _, _, _, _, _, _, _, _, z⟩ := z
      exact z) q
noncomputable def AttOk (C : Cs) (f : Str) : Prop := (∀ c i, C.g.prop c f = some i → PrE C c f i) ∧ (∀ c i d m x m', C.g.prop c f = some i → C.g.F i d m ≠ some (.ex x m')) ∧ ∀ c, C.g.prop c f = none → f ∈ C.T.nm c → Cls C.T.K (C.T.cl c) ∧ NoAttr C.T.K (C.T.cl c) f
theorem clsD_rep {w : Wd} {mm : List R} {c : Nat} {d : D} {v : V} (W : Wf C.T w mm) (r : Rep C.T w.Hs w.al v d) (h : clsD mm d = some c) : ∃ a dx fs, v = .ref a ∧ w.H a = some (.ins (C.T.cl c) dx fs) := by
  cases d with
  | obj c' ys =>
    cases h
    obtain ⟨a, dx, fs, ev, ea, hn, hr⟩ := Rep.inst W r
    exact ⟨a, dx, fs, ev, ea⟩
  | res k =>
    simp only [clsD] at h
    split at h
    · rename_i c' gs hk
      cases h
      obtain ⟨a, dx, fs, ev, ea, hn, hr⟩ := Rep.instR W r hk
      exact ⟨a, dx, fs, ev, ea⟩
    · cases h
  | _ => cases h
theorem lookup_idx {f : Str} : ∀ {fs : List (Str × V)} {v : V}, (fs.map (·.2))[(fs.map (·.1)).idxOf f]? = some v → fs.lookup f = some v
  | [], v, h => by simp at h
  | (g, x) :: r, v, h => by
    rw [List.map_cons, List.map_cons, List.idxOf_cons] at h
    rw [List.lookup_cons]
    by_cases e : g = f
    · subst e
      simp only [beq_self_eq_true, cond_true] at h ⊢
      exact h
    · have e1 : (g == f) = false := beq_eq_false_iff_ne.mpr e
      have e2 : (f == g) = false := beq_eq_false_iff_ne.mpr (Ne.symm e)
      rw [e1] at h
      simp only [cond_false, List.getElem?_cons_succ] at h
      simp only [e2]
      exact lookup_idx h
theorem lookup_pair {f : Str} : ∀ {gs : List (Str × D)} {fs : List (Str × V)} {w : Wd} {d : D}, fs.map (·.1) = gs.map (·.1) → RepL C.T w.Hs w.al (fs.map (·.2)) (gs.map (·.2)) → gs.lookup f = some d → ∃ v, fs.lookup f = some v ∧ Rep C.T w.Hs w.al v d
  | [], _, _, _, _, _, h => by cases h
  | (g, y) :: r, [], _, _, e, _, _ => by cases e
  | (g, y) :: r, (g', x) :: r', w, d, e, q, h => by
    rw [List.map_cons, List.map_cons] at e q
    injection e with e1 e2
    have e1 : g' = g := e1
    subst e1
    cases q with
    | cons q1 q2 =>
      rw [List.lookup_cons] at h ⊢
      by_cases z : f = g'
      · subst z
        simp only [beq_self_eq_true] at h ⊢
        cases h
        exact ⟨_, rfl, q1⟩
      · have z2 : (f == g') = false := beq_eq_false_iff_ne.mpr z
        simp only [z2] at h ⊢
        exact lookup_pair e2 q2 h
theorem fldD_rep {w : Wd} {mm : List R} {f : Str} {c : Nat} {d e : D} {v : V} (W : Wf C.T w mm) (r : Rep C.T w.Hs w.al v d) (hc : clsD mm d = some c) (h : fldD C.T.nm mm f d = some e) :
    ∃ a dx fs u, v = .ref a ∧ w.H a = some (.ins (C.T.cl c) dx fs) ∧ f ∈ C.T.nm c ∧ fs.lookup f = some u ∧ Rep C.T w.Hs w.al u e := by
  cases d with
  | obj c' ys =>
    cases hc
    obtain ⟨a, dx, fs, ev, ea, hn, hr⟩ := Rep.inst W r
    have h : ys[(C.T.nm c).idxOf f]? = some e := h
    obtain ⟨u, h1, h2⟩ := hr.get h
    have hl := (List.getElem?_eq_some_iff.mp h1).1
    rw [← hn] at h1
    refine ⟨a, dx, fs, u, ev, ea, ?_, lookup_idx h1, h2⟩
    rw [List.length_map] at hl
    have : (C.T.nm c).length = fs.length := by rw [← hn, List.length_map]
    exact List.idxOf_lt_length_iff.mp (by rw [this]; exact hl)
  | res k =>
    simp only [clsD] at hc
    split at hc
    · rename_i c' gs hk
      cases hc
      simp only [fldD, hk] at h
      split at h
      · rename_i hf
        obtain ⟨a, dx, fs, ev, ea, hn, hr⟩ := Rep.instR W r hk
        obtain ⟨u, h1, h2⟩ := lookup_pair hn hr h
        exact ⟨a, dx, fs, u, ev, ea, by simpa using hf, h1, h2⟩
      · cases h
    · cases hc
  | _ => cases hc
theorem de_att [Cold C] {o : Expr} {f : Str} {xo : Dv.E} {pos : Pos} (hA : AttOk C f) (hnm : C.g.nm = C.T.nm) (ho : DE C o (evE C.g xo)) (hpo : plainO o = true) : DE C (.Attribute o f pos) (evE C.g (.att xo f)) := by
  obtain ⟨ta, pa, ra⟩ := ho
  refine ⟨tAtt C f ta, fun X ok => pe_att ok (pa X ok) hpo, fun σ w ρ mm Q oo W E e0 pp => ?_⟩
  simp only [evE] at e0
  refine ra.bnd W E e0 pp fun d m1 w1 v1 e1 x1 W1 r1 E1 p1 => ?_
  split at e1
  · rename_i c hc
    split at e1
    · rename_i i hp
      obtain ⟨a, dx, fs, ev, ea⟩ := clsD_rep W1 r1 hc
      obtain ⟨k, p, g, fd, ps, sp, z⟩ := hA.1 c i hp
      refine ⟨c, a, dx, fs, ev, ea, .inr ⟨i, k, p, g, fd, ps, sp, z, ?_⟩⟩
      obtain ⟨_, _, _, _, _, imp⟩ := z
      refine imp [v1] _ Q _ rfl ⟨w1, [d], m1, oo, rfl, W1, .one r1, e1, ?_⟩
      cases oo with
      | ok d2 m2 => exact p1
      | ex x m2 => exact absurd e1 (hA.2.1 c i _ _ _ _ hp)
    · rename_i hp
      split at e1
      · rename_i y hy
        cases e1
        rw [hnm] at hy
        obtain ⟨a, dx, fs, u, ev, ea, hf, hu, ru⟩ := fldD_rep W1 r1 hc hy
        obtain ⟨c1, c2⟩ := hA.2.2 c hp hf
        exact ⟨c, a, dx, fs, ev, ea, .inl ⟨u, c1, c2, hu, p1.here W1 ru⟩⟩
      · cases e1
  · cases e1
end
end Dv

namespace Dv
open PySem PySem.Spec PyProof PyProof.Rows
open L2 hiding Takes XE CX MkP PMk ps_raise ps_try_as ps_try_many HdsOk takes_of passAt passes_call mk_of pmk_own
open L2N (Takes XE CX MkP PMk ps_raise ps_try_as ps_try_many HdsOk takes_of passAt passes_call mk_of pmk_own Zn Zn.steady)

/-! ### sorted of pairs (int, text), where the int tells the text -/
noncomputable def IsIS (h : Heap) (v : Value) (x : Int) (y : Str) : Prop := ∃ a o t u n, v = .ref a ∧ h.get? a = some o ∧ o.cls = .type "tuple" ∧ o.data = .seq #[.int x t, .str y u] n
theorem IsIS.keeps {h h' : Heap} {v : Value} {x : Int} {y : Str} (p : IsIS h v x y) (k : ∀ b o, h.get? b = some o → o.cls = .type "tuple" → h'.get? b = some o) : IsIS h' v x y := by
  obtain ⟨a, o, t, u, n, e, ho, hc, hd⟩ := p
  exact ⟨a, o, t, u, n, e, k _ _ ho hc, hc, hd⟩
theorem IsIS.uniq {h : Heap} {v : Value} {x x' : Int} {y y' : Str} (p : IsIS h v x y) (q : IsIS h v x' y') : x = x' := by
  obtain ⟨a, o, t, u, n, e, ho, hc, hd⟩ := p
  obtain ⟨a', o', t', u', n', e', ho', hc', hd'⟩ := q
  rw [e] at e'
  cases e'
  rw [ho] at ho'
  cases ho'
  rw [hd] at hd'
  injection hd' with h1 h2
  injection (Array.mk.inj h1) with h3 h4
  injection h3
theorem firsts_IS {h : Heap} : ∀ {vs : List Value}, (∀ v ∈ vs, ∃ x y, IsIS h v x y) → ∃ fs : List Value, PySem.W.KatTups h vs fs ∧ fs.length = vs.length ∧ ∀ f ∈ fs, ∃ x t, f = Value.int x t
  | [], _ => ⟨[], PySem.W.KatTups.nil, rfl, fun _ hm => by simp at hm⟩
  | v :: vs, hp => by
    obtain ⟨fs, h1, h2, h3⟩ := firsts_IS (vs := vs) fun v' hm => hp v' (List.mem_cons_of_mem _ hm)
    obtain ⟨x, y, a, o, t, u, n, e, ho, hc, hd⟩ := hp v (List.mem_cons_self ..)
    subst e
    refine ⟨.int x t :: fs, PySem.W.KatTups.cons ho hc hd rfl h1, by rw [List.length_cons, List.length_cons, h2], fun f hm => ?_⟩
    rcases List.mem_cons.mp hm with rfl | hm
    · exact ⟨x, t, rfl⟩
    · exact h3 f hm
section
variable {prog : Program} {w : World} {A : Around} {E : Value → Shared → Prop} {s : Shared}
theorem swo_fst (k : Value → Int) : SrtO.Swo fun v u => decide (k v < k u) := by
  refine ⟨fun x y h => ?_, fun x y z h1 h2 => ?_⟩
  · have a := of_decide_eq_true h
    exact decide_eq_false (by omega)
  · have a := of_decide_eq_false h1
    have b := of_decide_eq_false h2
    exact decide_eq_false (by omega)
open SrtO in
theorem IS_cmp {vs : List Value} {k : Value → Int} {f : Int → Str} (hp : ∀ v ∈ vs, IsIS s.heap v (k v) (f (k v))) : Cmp prog w A s (tuples' true) (fun p => p.1 ∈ vs) (lt2 fun v u => decide (k v < k u)) := by
  intro p q hm hm'
  have h1 := hp _ hm
  have h2 := hp _ hm'
  show wpAny (model prog w) A (keyLt' (tuples' true) p.1 q.1) (fun r s' => s' = s ∧ r = decide (k p.1 < k q.1)) (fun _ _ => False) s
  generalize k p.1 = x at h1 ⊢
  generalize k q.1 = x' at h2 ⊢
  obtain ⟨a, o, t, u, n, e, ho, hc, hd⟩ := h1
  obtain ⟨a', o', t', u', n', e', ho', hc', hd'⟩ := h2
  rw [e, e']
  refine PySem.W.kat_lt ho hd ho' hd' ?_
  show PySem.W.KatLex prog w A true (decide (2 < 2)) _ [(.int x t, .int x' t'), (.str (f x) u, .str (f x') u')] 0 s
  refine PySem.W.kat_cons (SeqAt.EqAt.int_int x t x' t' prog w _ _ ?_)
  refine PySem.W.kat_go (fun e1 => ?_) (fun e1 => ?_)
  · have ex : x = x' := by simpa using e1
    subst ex
    refine PySem.W.kat_yes (PySem.W.kat_cons (SeqAt.EqAt.str_str (f x) u (f x) u' prog w _ _ ?_))
    refine PySem.W.kat_go (fun e2 => ?_) (fun e2 => ?_)
    · exact PySem.W.kat_yes (PySem.W.kat_nil ⟨rfl, (decide_eq_false (Int.lt_irrefl _)).symm⟩)
    · simp at e2
  · exact PySem.W.kat_no (oneLt_int ⟨rfl, rfl⟩)
open SrtO in
theorem IS_sortableO {a : Addr} {vs : List Value} {k : Value → Int} {f : Int → Str} (h0 : 0 < vs.length) (hp : ∀ v ∈ vs, IsIS s.heap v (k v) (f (k v))) (ha : ∀ o, s.heap.get? a = some o → o.cls ≠ .type "tuple") : SortableO prog w A s a vs fun v u => decide (k v < k u) := by
  intro h' keep
  have hp' : ∀ v ∈ vs, IsIS h' v (k v) (f (k v)) := fun v hm => (hp v hm).keeps fun b o e c => keep b o (fun z => by subst z; exact ha o e c) e
  obtain ⟨fs, h1, h2, h3⟩ := firsts_IS fun v hm => ⟨_, _, hp' v hm⟩
  refine ⟨tuples' true, fun Q E hq => ?_, IS_cmp hp'⟩
  refine PySem.W.kat_kind (T := .type "int") h1 (by omega) (fun f hm => ?_) (by rfl) ?_
  · obtain ⟨x, t, rfl⟩ := h3 f hm
    exact PySem.W.Looks.now
  · have e : (Value.type "int" != Value.type "tuple") = true := by first | decide +kernel | rfl | decide
    rw [e]
    exact hq
open SrtO in
theorem sorted_IS {l : Addr} {vs : List Value} {k : Value → Int} {f : Int → Str} {Q : Value → Shared → Prop} (hl : s.heap.IsList l vs.toArray) (hz : vs.length ≤ sizeLine) (hp : ∀ v ∈ vs, IsIS s.heap v (k v) (f (k v)))
    (h : ∀ (h' : Heap) (d : Addr) (out : List Value), out.Pairwise (fun v u => k v ≤ k u) → out.Perm vs → (∀ b o, s.heap.get? b = some o → h'.get? b = some o) → s.heap.objs.size ≤ d → (∃ n, h'.get? d = some (seqObj "list" out.toArray n)) → Q (.ref d) { s with heap := h' }) :
    wpAny (model prog w) A (call (.builtin "sorted") [.ref l]) Q E s := by
  refine sorted_ord (swo_fst k) hl hz (fun h2 h₁ a ha kk => ?_) fun out hs hb => ?_
  · refine IS_sortableO (f := f) (s := { s with heap := h₁ }) (by omega) (fun v hm => (hp v hm).keeps fun b o e _ => (kk b o e).2) fun o e => ?_
    have e' : some o = some (seqObj "list" vs.toArray 0) := e.symm.trans ha
    cases e'
    intro c
    exact absurd (Value.type.inj c) (by decide)
  · exact h _ _ out (List.Pairwise.imp (fun h => Int.not_lt.mp (of_decide_eq_false h)) hs) hb.perm (fun b o e => sortedAll_old e) (Nat.le_succ _) (sortedAll_at s.heap vs out.toArray)
end
noncomputable def rSortedIS (K : PySem.W.Frag) : List V → Hp → VK → Prop := fun vs H Q => ∃ (a : Addr) (xs : List V) (f : Int → Str), vs = [V.ref a] ∧ SqL K H a xs ∧ (∀ x ∈ xs, ∃ t i, x = V.ref t ∧ SqT K H t [.int i, .str (f i)]) ∧
  ∀ ys p, ys.Perm xs → ys.Pairwise (fun x y => ∀ t u i j, x = V.ref t → y = V.ref u → SqT K H t [.int i, .str (f i)] → SqT K H u [.int j, .str (f j)] → i ≤ j) → H p = none → Q (.ref p) (upd H p (.lst ys))
theorem isIS_of {X : Cx} {pins : List (Addr × Obj)} {σ : L2.St} {H : Hp} {s : Shared} {t : Addr} {i : Int} {y : Str} (I : Inv X pins σ H s) (h : SqT X.K H t [.int i, .str y]) : IsIS s.heap (.ref t) i y := by
  obtain ⟨its, rv, ⟨o, ho, hc, n, hd⟩, hz⟩ := I.tuple h
  obtain ⟨u1, u2, rfl, ri, rj⟩ := vals2 rv
  obtain ⟨t1, rfl⟩ := ri
  obtain ⟨t2, rfl⟩ := rj
  exact ⟨t, o, t1, t2, _, rfl, ho, hc, hd⟩
open Classical in
theorem cr_sortedIS {X : Cx} : CallR X (.builtin "sorted") (rSortedIS X.K) := by
  intro pins s σ H vs us Q I r h
  obtain ⟨a, xs, f, rfl, hs, hx, q⟩ := h
  obtain ⟨its, rv, hl, hz⟩ := I.list hs
  obtain ⟨u, rfl, ru⟩ := vals1 r
  obtain rfl : u = Value.ref a := ru
  obtain ⟨e1, e2⟩ := refs_back rv fun x m => by
    obtain ⟨t, i, e, _⟩ := hx x m
    exact ⟨t, e⟩
  have hv0 : ∀ v ∈ its, ∃ i, IsIS s.heap v i (f i) := fun v hv => by
    obtain ⟨t, rfl⟩ := e2 v hv
    have hm : V.ref t ∈ xs := by rw [e1]; exact List.mem_map.mpr ⟨_, hv, rfl⟩
    obtain ⟨t', i, e, ht⟩ := hx _ hm
    cases e
    exact ⟨i, isIS_of I ht⟩
  let k : Value → Int := fun v => if h : ∃ i, IsIS s.heap v i (f i) then h.choose else 0
  have hk : ∀ v i, IsIS s.heap v i (f i) → k v = i := fun v i hi => by
    have hex : ∃ i, IsIS s.heap v i (f i) := ⟨i, hi⟩
    show (if h : ∃ i, IsIS s.heap v i (f i) then h.choose else 0) = i
    rw [dif_pos hex]
    exact IsIS.uniq hex.choose_spec hi
  refine sorted_IS (k := k) (f := f) hl.isList (by rw [← rv.length]; exact hz) (fun v hv => ?_) fun h' d out h1 h2 kp hd hn => ?_
  · obtain ⟨i, hi⟩ := hv0 v hv
    rw [hk v i hi]
    exact hi
  · have h3 : ∀ u ∈ out, ∃ a, u = Value.ref a := fun u hu => e2 u (h2.mem_iff.mp hu)
    obtain ⟨n, hn⟩ := hn
    have hb : (out.map backV).Perm xs := by
      rw [e1]
      exact h2.map _
    refine ⟨.ref d, upd H d (.lst (out.map backV)), I.laid (t' := s.toks) kp hd ⟨?_, out, n, vals_back h3, hn⟩, rfl, q _ d hb ?_ (I.hok.fresh hd)⟩
    · rw [hb.length_eq]
      exact hz
    · rw [List.pairwise_map]
      refine List.Pairwise.imp_of_mem (fun {x y} hx hy hxy t u i j ex ey ht hu => ?_) h1
      obtain ⟨t', rfl⟩ := h3 x hx
      obtain ⟨u', rfl⟩ := h3 y hy
      cases ex
      cases ey
      rw [hk _ i (isIS_of I ht), hk _ j (isIS_of I hu)] at hxy
      exact hxy
end Dv

namespace Dv
open PySem PySem.Spec PyProof.Rows
open L2 hiding Takes XE CX MkP PMk ps_raise ps_try_as ps_try_many HdsOk takes_of passAt passes_call mk_of pmk_own
open L2N (Takes XE CX MkP PMk ps_raise ps_try_as ps_try_many HdsOk takes_of passAt passes_call mk_of pmk_own Zn Zn.steady)

/-! ### sorted of a tuple -/
section
variable {X : Cx}
noncomputable def rSortedTI (K : PySem.W.Frag) : List V → Hp → VK → Prop := fun vs H Q => ∃ (a : Addr) (ns : List Int), vs = [V.ref a] ∧ SqT K H a (ns.map V.int) ∧
  ∀ (ns' : List Int) (p : Addr), ns'.Perm ns → ns'.Pairwise (· ≤ ·) → H p = none → Q (.ref p) (upd H p (.lst (ns'.map V.int)))
theorem cr_sortedTI : CallR X (.builtin "sorted") (rSortedTI X.K) := by
  intro pins s σ H vs us Q I r h
  obtain ⟨a, ns, rfl, hs, q⟩ := h
  obtain ⟨its, rv, ⟨o, ho, hc, n, hd⟩, hz⟩ := I.tuple hs
  rw [Vals.ref1 r]
  have hi := rv.ints
  have hzz : its.toArray.size ≤ sizeLine := by rw [List.size_toArray, ← rv.length]; exact hz
  refine Calls.call_function_entry PyProof.Rows.kind_sorted PyProof.Rows.plain_sorted PyProof.Rows.entry_sorted (PyProof.Rows.args_sorted1 _) ?_
  unfold Builtin.«sorted»
  refine wpAny_bind (m := checkCount "sorted" 1 1 _) (wpAny_pure ?_)
  refine wpAny_bind (wpAny_collect_seq a (.inr rfl) ho hc hd (fun h' hk => ?_) hzz)
  have I1 : Inv X pins σ H { s with heap := h' } := I.kept (t' := s.toks) hk
  refine wpAny_bind (wpAny_newList ?_ (by simpa using hzz))
  have hoL : (h'.push (seqObj "list" its.toArray.toList.toArray 0)).get? h'.objs.size = some (seqObj "list" its.toArray.toList.toArray 0) := Heap.get?_push_size _ rfl
  refine wpAny_bind (wpAny_holding (wpAny_call_entry PyProof.Rows.slot_list_sort ⟨_, hoL, rfl⟩ PyProof.Rows.entry_list_sort
    (SrtO.list_sort_ord (s := { s with heap := h'.push (seqObj "list" its.toArray.toList.toArray 0) }) SrtO.swo_int hoL (by simpa using hzz) (fun h2 => SrtO.ints_sortable (by simpa using hi) h2) fun out h1 h2 => ⟨.none, rfl, ?_⟩) (PyProof.Rows.args_list_sort _)))
  obtain ⟨k1, k2, k3⟩ := SrtO.ints_out (by simpa using hi) h1 h2
  obtain ⟨ep, he'⟩ := PyProof.Rows.sortedHeap_at (vs := its.toArray.toList) (out := out.toArray) hoL
  have hlen : ((out.map SrtO.iv).map V.int).length ≤ sizeLine := by
    rw [List.length_map, k2.length_eq]
    rw [List.length_map] at hz
    exact hz
  refine wpAny_pure ⟨_, rfl, .ref h'.objs.size, upd H h'.objs.size (.lst ((out.map SrtO.iv).map V.int)), I1.laid (t' := s.toks) (fun b u e => ?_) (Nat.le_refl _) ⟨hlen, out, ep, vals_of_ints k1, he'⟩, rfl, q _ _ k2 k3 (I1.hok.fresh (Nat.le_refl _))⟩
  have hb : b ≠ h'.objs.size := Nat.ne_of_lt (Heap.lt_size e)
  rw [PyProof.Rows.sortedHeap_old hb (Heap.lt_size (Heap.get?_push_of_some _ e))]
  exact Heap.get?_push_of_some _ e
noncomputable def rSortedTS (K : PySem.W.Frag) : List V → Hp → VK → Prop := fun vs H Q => ∃ (a : Addr) (xs : List Str), vs = [V.ref a] ∧ SqT K H a (xs.map V.str) ∧ xs.length < 64 ∧
  ∀ (ys : List Str) (p : Addr), ys.Perm xs → sortedS ys = true → H p = none → Q (.ref p) (upd H p (.lst (ys.map V.str)))
theorem cr_sortedTS : CallR X (.builtin "sorted") (rSortedTS X.K) := by
  intro pins s σ H vs us Q I r h
  obtain ⟨a, zs, rfl, hs, h64, q⟩ := h
  obtain ⟨its, rv, ⟨o, ho, hc, n, hd⟩, hz⟩ := I.tuple hs
  rw [Vals.ref1 r]
  have hS := rv.strs
  have hl : its.length = zs.length := by
    have z := rv.length
    rw [List.length_map] at z
    exact z.symm
  have hzz : its.toArray.size ≤ sizeLine := by rw [List.size_toArray, ← rv.length]; exact hz
  refine Calls.call_function_entry PyProof.Rows.kind_sorted PyProof.Rows.plain_sorted PyProof.Rows.entry_sorted (PyProof.Rows.args_sorted1 _) ?_
  unfold Builtin.«sorted»
  refine wpAny_bind (m := checkCount "sorted" 1 1 _) (wpAny_pure ?_)
  refine wpAny_bind (wpAny_collect_seq a (.inr rfl) ho hc hd (fun h' hk => ?_) hzz)
  have I1 : Inv X pins σ H { s with heap := h' } := I.kept (t' := s.toks) hk
  refine wpAny_bind (wpAny_newList ?_ (by simpa using hzz))
  have hoL : (h'.push (seqObj "list" its.toArray.toList.toArray 0)).get? h'.objs.size = some (seqObj "list" its.toArray.toList.toArray 0) := Heap.get?_push_size _ rfl
  have hS' : StrsAre its.toArray.toList zs := by simpa using hS
  refine wpAny_bind (wpAny_holding (wpAny_call_entry PyProof.Rows.slot_list_sort ⟨_, hoL, rfl⟩ PyProof.Rows.entry_list_sort
    (list_sort_treeK (s := { s with heap := h'.push (seqObj "list" its.toArray.toList.toArray 0) }) strKind_oneLt hoL hS'.keysOf (fun v₁ v₂ rest e => keyKind_strs (by rw [← e]; exact hS')) (by simpa [hl] using h64) fun st' hp hs => ?_) (PyProof.Rows.args_list_sort _)))
  obtain ⟨ys, g1, g2, g3⟩ := sorted_out_str hS' hp hs
  obtain ⟨ep, he'⟩ := PyProof.Rows.sortedHeap_at (vs := its.toArray.toList) (out := (arrOf st').map (·.2)) hoL
  have hlen : (ys.map V.str).length ≤ sizeLine := by
    rw [List.length_map, g2.length_eq]
    exact Nat.le_trans (Nat.le_of_lt h64) (by decide)
  refine ⟨_, rfl, wpAny_pure ⟨_, rfl, .ref h'.objs.size, upd H h'.objs.size (.lst (ys.map V.str)), I1.laid (t' := s.toks) (fun b u e => ?_) (Nat.le_refl _) ⟨hlen, ((arrOf st').map (·.2)).toList, ep, vals_of_strs g1, by rw [Array.toArray_toList]; exact he'⟩, rfl, q _ _ g2 g3 (I1.hok.fresh (Nat.le_refl _))⟩⟩
  have hb : b ≠ h'.objs.size := Nat.ne_of_lt (Heap.lt_size e)
  rw [PyProof.Rows.sortedHeap_old hb (Heap.lt_size (Heap.get?_push_of_some _ e))]
  exact Heap.get?_push_of_some _ e
end

/-! ### built-in calls -/
noncomputable def CallS (T : Tb) (r : List V → Hp → VK → Prop) (g : List R → List D → Option (D × List R)) : Prop :=
  ∀ (w : Wd) (m : List R) (vs : List V) (ds : List D) (p : D × List R) (Q : VK), Wf T w m → RepL T w.Hs w.al vs ds → g m ds = some p →
    (∀ w' v, Ext w w' → Wf T w' p.2 → Rep T w'.Hs w'.al v p.1 → Q v w'.H) → r vs w.H Q
theorem asInts_map : ∀ {xs : List D} {ns : List Int}, asInts xs = some ns → xs = ns.map .int
  | [], ns, e => by cases e; rfl
  | .int i :: r, ns, e => by
    simp only [asInts] at e
    cases h : asInts r with
    | none => rw [h] at e; cases e
    | some q => rw [h] at e; cases e; rw [asInts_map h]; rfl
  | .non :: _, _, e | .bl _ :: _, _, e | .str _ :: _, _, e | .tup _ :: _, _, e | .lst _ :: _, _, e | .ext _ :: _, _, e | .obj _ _ :: _, _, e | .res _ :: _, _, e => by cases e
theorem asStrs_map : ∀ {xs : List D} {ns : List Str}, asStrs xs = some ns → xs = ns.map .str
  | [], ns, e => by cases e; rfl
  | .str i :: r, ns, e => by
    simp only [asStrs] at e
    cases h : asStrs r with
    | none => rw [h] at e; cases e
    | some q => rw [h] at e; cases e; rw [asStrs_map h]; rfl
  | .non :: _, _, e | .bl _ :: _, _, e | .int _ :: _, _, e | .tup _ :: _, _, e | .lst _ :: _, _, e | .ext _ :: _, _, e | .obj _ _ :: _, _, e | .res _ :: _, _, e => by cases e
theorem asBls_map : ∀ {xs : List D} {ns : List Bool}, asBls xs = some ns → xs = ns.map .bl
  | [], ns, e => by cases e; rfl
  | .bl i :: r, ns, e => by
    simp only [asBls] at e
    cases h : asBls r with
    | none => rw [h] at e; cases e
    | some q => rw [h] at e; cases e; rw [asBls_map h]; rfl
  | .non :: _, _, e | .str _ :: _, _, e | .int _ :: _, _, e | .tup _ :: _, _, e | .lst _ :: _, _, e | .ext _ :: _, _, e | .obj _ _ :: _, _, e | .res _ :: _, _, e => by cases e
theorem sortI_uniq {ns ys : List Int} (p : ys.Perm ns) (s : ys.Pairwise (· ≤ ·)) : ys = sortI ns := by
  refine List.Perm.eq_of_pairwise (le := (· ≤ ·)) (fun a b _ _ h1 h2 => Int.le_antisymm h1 h2) s ?_ (p.trans (List.mergeSort_perm _ _).symm)
  have := List.pairwise_mergeSort (le := fun a b => decide (a ≤ b)) (fun a b c h1 h2 => decide_eq_true (Int.le_trans (of_decide_eq_true h1) (of_decide_eq_true h2))) (fun a b => by
    rcases Int.le_total a b with h | h <;> simp [h]) ns
  exact this.imp fun h => of_decide_eq_true h
theorem leS_iff {a b : Str} : leS a b = true ↔ a.cps.toList ≤ b.cps.toList := by
  unfold leS
  rw [Bool.not_eq_true', decide_eq_false_iff_not]
  exact Iff.rfl
theorem sortedS_pw : ∀ {ys : List Str}, sortedS ys = true → ys.Pairwise (fun a b => a.cps.toList ≤ b.cps.toList)
  | [], _ => .nil
  | [x], _ => List.pairwise_singleton _ _
  | x :: y :: r, h => by
    have h : (!ltCps y.cps.toList x.cps.toList && risingS y r) = true := h
    rw [Bool.and_eq_true] at h
    have ih := sortedS_pw (ys := y :: r) h.2
    have hxy : x.cps.toList ≤ y.cps.toList := by
      have h1 := h.1
      rw [PyProof.Rows.ltCps_eq, Bool.not_eq_true', decide_eq_false_iff_not] at h1
      exact h1
    refine .cons (fun z hz => ?_) ih
    rcases List.mem_cons.mp hz with rfl | hz
    · exact hxy
    · exact List.le_trans hxy (List.rel_of_pairwise_cons ih hz)
theorem str_of_cps {a b : Str} (h : a.cps.toList = b.cps.toList) : a = b := by
  cases a; cases b
  simp only at h
  congr 1
  exact Array.toList_inj.mp h
theorem sortS_uniq {zs ys : List Str} (p : ys.Perm zs) (s : sortedS ys = true) : ys = sortS zs := by
  refine List.Perm.eq_of_pairwise (le := fun a b => a.cps.toList ≤ b.cps.toList) (fun a b _ _ h1 h2 => str_of_cps (List.le_antisymm h1 h2)) (sortedS_pw s) ?_ (p.trans (List.mergeSort_perm _ _).symm)
  have := List.pairwise_mergeSort (le := leS) (fun a b c h1 h2 => leS_iff.mpr (List.le_trans (leS_iff.mp h1) (leS_iff.mp h2))) (fun a b => by
    rcases List.le_total a.cps.toList b.cps.toList with h | h
    · rw [leS_iff.mpr h]; rfl
    · rw [leS_iff.mpr h, Bool.or_true]) zs
  exact this.imp fun h => leS_iff.mp h

section
variable {T : Tb}
noncomputable def rLen2 (K : PySem.W.Frag) : List V → Hp → VK → Prop := fun xs H Q => (∃ p ys, xs = [.ref p] ∧ (SqL K H p ys ∨ SqT K H p ys) ∧ Q (.int ys.length) H) ∨ (∃ z, xs = [.str z] ∧ z.length ≤ sizeLine ∧ Q (.int z.length) H)
theorem len_s (mu : Bool) : CallS T (rLen2 T.K) (biD .len mu) := by
  intro w m vs ds p Q W r e q
  match ds, e with
  | [a], e =>
    obtain ⟨v, rfl, rv⟩ := r.inv1
    have gen : (sq m a).map (fun xs => ((.int xs.length, m) : D × List R)) = some p → rLen2 T.K [v] w.H Q := fun e => by
      cases h : sq m a with
      | none => rw [h] at e; cases e
      | some xs =>
        rw [h] at e
        cases e
        obtain ⟨b, us, rfl, hs, rs⟩ := sq_rep W rv h
        refine .inl ⟨b, us, rfl, hs, ?_⟩
        have := OpS.here W q (.int (xs.length : Int))
        rw [rs.length]; exact this
    cases a with
    | str x =>
      simp only [biD] at e
      split at e
      · cases e
        cases rv
        exact .inr ⟨x, rfl, by assumption, OpS.here W q (.int _)⟩
      · cases e
    | _ => exact gen e
  | [.int i, .int j], e => cases e
noncomputable def rLst1 (K : PySem.W.Frag) : List V → Hp → VK → Prop := fun xs H Q => ∃ p ys, xs = [.ref p] ∧ (SqL K H p ys ∨ SqT K H p ys) ∧ ∀ l, H l = none → Q (.ref l) (upd H l (.lst ys))
theorem list_s (mu : Bool) : CallS T (rLst1 T.K) (biD .list mu) := by
  intro w m vs ds p Q W r e q
  match ds, e with
  | [a], e =>
    obtain ⟨v, rfl, rv⟩ := r.inv1
    simp only [biD] at e
    cases h : sq m a with
    | none => rw [h] at e; cases e
    | some xs =>
      rw [h] at e
      cases e
      obtain ⟨b, us, rfl, hs, rs⟩ := sq_rep W rv h
      exact ⟨b, us, rfl, hs, fun l hl => new_list W rs hl q⟩
  | [.int i, .int j], e => cases e
noncomputable def rTup1 (K : PySem.W.Frag) : List V → Hp → VK → Prop := fun xs H Q => ∃ p ys, xs = [.ref p] ∧ ((SqL K H p ys ∧ ∀ l o, H l = none → PTo o → Q (.ref l) (upd H l (.frz o (.tup ys)))) ∨ (SqT K H p ys ∧ Q (.ref p) H))
theorem tuple_s (mu : Bool) : CallS T (rTup1 T.K) (biD .tuple mu) := by
  intro w m vs ds p Q W r e q
  match ds, e with
  | [a], e =>
    obtain ⟨v, rfl, rv⟩ := r.inv1
    simp only [biD] at e
    cases h : sq m a with
    | none => rw [h] at e; cases e
    | some xs =>
      rw [h] at e
      cases e
      have mk : ∀ b us, v = .ref b → SqL T.K w.H b us → RepL T w.Hs w.al us xs → rTup1 T.K [v] w.H Q := fun b us ev hs rs => ⟨b, us, by rw [ev], .inl ⟨hs, fun l o hl ho => new_tup W rs hl ho q⟩⟩
      cases rv with
      | tup s rs =>
        have e2 := Option.some.inj h
        subst e2
        exact ⟨_, _, rfl, .inr ⟨(Le.sqN W.sub s).sqT, OpS.here W q (.tup s rs)⟩⟩
      | lst s rs =>
        have e2 := Option.some.inj h
        subst e2
        exact mk _ _ rfl (SqL.of (W.sub _ _ s)) rs
      | ext s rs =>
        have e2 := Option.some.inj h
        subst e2
        exact mk _ _ rfl (Le.sqL W.sub s) rs
      | res hk =>
        obtain ⟨b, us, e1, h1, rs⟩ := lsq_rep W (.res hk) (xs := xs) h
        exact mk b us e1 (SqL.of h1) rs
      | _ => cases h
  | [.int i, .int j], e => cases e
theorem int_s1 (mu : Bool) : CallS T (fun xs H Q => ((∃ i, xs = [.int i] ∧ Q (.int i) H) ∨ ∃ k, xs = [.bl k] ∧ Q (.int (if k then 1 else 0)) H) ∨ ∃ a n, xs = [.str a] ∧ PySem.intText? a = some n ∧ a.length ≤ 640 ∧ Q (.int n) H) (biD .int mu) := by
  intro w m vs ds p Q W r e q
  match ds, e with
  | [a], e =>
    obtain ⟨v, rfl, rv⟩ := r.inv1
    cases a with
    | int i => cases e; cases rv; exact .inl (.inl ⟨i, rfl, OpS.here W q (.int _)⟩)
    | bl k => cases e; cases rv; exact .inl (.inr ⟨k, rfl, OpS.here W q (.int _)⟩)
    | str x =>
      simp only [biD] at e
      split at e
      · rename_i hl
        cases hi : PySem.intText? x with
        | none => rw [hi] at e; cases e
        | some i =>
          rw [hi] at e
          cases e; cases rv
          exact .inr ⟨x, i, rfl, hi, hl, OpS.here W q (.int _)⟩
      · cases e
    | _ => cases e
  | [.int i, .int j], e => cases e
theorem str_s1 (mu : Bool) : CallS T (fun xs H Q => ∃ i, xs = [.int i] ∧ i.natAbs.log2 < 1920 ∧ Q (.str (toString i)) H) (biD .str mu) := by
  intro w m vs ds p Q W r e q
  match ds, e with
  | [a], e =>
    obtain ⟨v, rfl, rv⟩ := r.inv1
    cases a with
    | int i =>
      simp only [biD] at e
      split at e
      · cases e; cases rv; exact ⟨i, rfl, by assumption, OpS.here W q (.str _)⟩
      · cases e
    | _ => cases e
  | [.int i, .int j], e => cases e
theorem abs_s1 (mu : Bool) : CallS T (fun xs H Q => ∃ i, xs = [.int i] ∧ Q (.int (if i < 0 then -i else i)) H) (biD .abs mu) := by
  intro w m vs ds p Q W r e q
  match ds, e with
  | [a], e =>
    obtain ⟨v, rfl, rv⟩ := r.inv1
    cases a with
    | int i => cases e; cases rv; exact ⟨i, rfl, OpS.here W q (.int _)⟩
    | _ => cases e
  | [.int i, .int j], e => cases e
theorem asIS_map : ∀ {xs : List D} {ps : List (Int × Str)}, asIS xs = some ps → xs = ps.map pairD
  | [], ps, e => by cases e; rfl
  | x :: r, ps, e => by
    unfold asIS at e
    split at e
    · rename_i h; cases h
    · rename_i i x r' h
      cases h
      cases hq : asIS r with
      | none => rw [hq] at e; cases e
      | some q => rw [hq] at e; cases e; rw [asIS_map hq]; rfl
    · cases e
noncomputable def fIS (ps : List (Int × Str)) (i : Int) : Str := ((ps.find? fun p => decide (p.1 = i)).map (·.2)).getD ⟨#[]⟩
theorem conIS_eq {ps : List (Int × Str)} (h : conIS ps = true) {p q : Int × Str} (hp : p ∈ ps) (hq : q ∈ ps) (e : p.1 = q.1) : p.2 = q.2 := by
  unfold conIS at h
  have h1 := List.all_eq_true.mp (List.all_eq_true.mp h p hp) q hq
  rw [decide_eq_true e] at h1
  simpa using h1
theorem fIS_eq {ps : List (Int × Str)} (h : conIS ps = true) {p : Int × Str} (hp : p ∈ ps) : p.2 = fIS ps p.1 := by
  unfold fIS
  cases hf : ps.find? (fun q => decide (q.1 = p.1)) with
  | none =>
    have := List.find?_eq_none.mp hf p hp
    simp at this
  | some q =>
    have h1 := List.find?_some hf
    have h2 := List.mem_of_find?_eq_some hf
    exact conIS_eq h hp h2 (of_decide_eq_true h1).symm
theorem perm_of_map {ps : List (Int × Str)} {ds : List D} (h : ds.Perm (ps.map pairD)) : ∃ qs : List (Int × Str), ds = qs.map pairD ∧ qs.Perm ps := by
  have key : ∀ {l m : List D}, l.Perm m → ∀ ps : List (Int × Str), m = ps.map pairD → ∃ qs : List (Int × Str), l = qs.map pairD ∧ qs.Perm ps := by
    intro l m h
    induction h with
    | nil => intro ps e; exact ⟨ps, e, List.Perm.refl _⟩
    | cons x _ ih =>
      intro ps e
      cases ps with
      | nil => cases e
      | cons p ps =>
        injection e with e1 e2
        obtain ⟨qs, h1, h2⟩ := ih ps e2
        exact ⟨p :: qs, by rw [h1, e1]; rfl, h2.cons p⟩
    | swap x y l =>
      intro ps e
      match ps, e with
      | p :: q :: ps, e =>
        injection e with e1 e2
        injection e2 with e2 e3
        exact ⟨q :: p :: ps, by rw [e1, e2, e3]; rfl, List.Perm.swap _ _ _⟩
    | trans _ _ ih1 ih2 =>
      intro ps e
      obtain ⟨qs, h1, h2⟩ := ih2 ps e
      obtain ⟨rs, h3, h4⟩ := ih1 qs h1
      exact ⟨rs, h3, h4.trans h2⟩
  exact key h ps rfl
theorem sortIS_uniq {ps qs : List (Int × Str)} (hc : conIS ps = true) (p : qs.Perm ps) (s : qs.Pairwise fun a b => a.1 ≤ b.1) : qs = sortIS ps := by
  refine List.Perm.eq_of_pairwise (le := fun a b : Int × Str => a.1 ≤ b.1) (fun a b ha hb h1 h2 => ?_) s ?_ (p.trans (List.mergeSort_perm _ _).symm)
  · have e := Int.le_antisymm h1 h2
    exact Prod.ext e (conIS_eq hc (p.mem_iff.mp ha) ((List.mergeSort_perm _ _).mem_iff.mp hb) e)
  · have := List.pairwise_mergeSort (le := fun a b : Int × Str => decide (a.1 ≤ b.1)) (fun a b c h1 h2 => decide_eq_true (Int.le_trans (of_decide_eq_true h1) (of_decide_eq_true h2))) (fun a b => by
      rcases Int.le_total a.1 b.1 with h | h <;> simp [h]) ps
    exact this.imp fun h => of_decide_eq_true h
theorem RepL.memV {T : Tb} {Hs : Hp} {al : List Addr} : ∀ {vs : List V} {ds : List D} {v : V}, RepL T Hs al vs ds → v ∈ vs → ∃ d, d ∈ ds ∧ Rep T Hs al v d
  | _, _, _, .nil, h => by cases h
  | _, _, _, .cons r t, h => by
    rcases List.mem_cons.mp h with rfl | h
    · exact ⟨_, List.mem_cons_self, r⟩
    · obtain ⟨d, h1, h2⟩ := RepL.memV t h
      exact ⟨d, List.mem_cons_of_mem _ h1, h2⟩
theorem RepL.permV {T : Tb} {Hs : Hp} {al : List Addr} {vs us : List V} (h : us.Perm vs) : ∀ {ds : List D}, RepL T Hs al vs ds → ∃ ds' : List D, ds'.Perm ds ∧ RepL T Hs al us ds' := by
  induction h with
  | nil => intro ds r; exact ⟨ds, List.Perm.refl _, r⟩
  | cons x _ ih =>
    intro ds r
    cases r with
    | cons r t =>
      obtain ⟨ds', h1, h2⟩ := ih t
      exact ⟨_, h1.cons _, .cons r h2⟩
  | swap x y l =>
    intro ds r
    cases r with
    | cons r t =>
      cases t with
      | cons r2 t => exact ⟨_, List.Perm.swap _ _ _, .cons r2 (.cons r t)⟩
  | trans _ _ ih1 ih2 =>
    intro ds r
    obtain ⟨d2, h1, h2⟩ := ih2 r
    obtain ⟨d3, h3, h4⟩ := ih1 h2
    exact ⟨d3, h3.trans h1, h4⟩
theorem pair_rep {T : Tb} {w : Wd} {m : List R} {v : V} {p : Int × Str} (W : Wf T w m) (r : Rep T w.Hs w.al v (pairD p)) : ∃ t, v = .ref t ∧ SqT T.K w.H t [.int p.1, .str p.2] := by
  unfold pairD at r
  cases r with
  | tup s rl =>
    cases rl with
    | cons r1 t =>
      cases t with
      | cons r2 t2 =>
        cases t2
        cases r1
        cases r2
        exact ⟨_, rfl, Le.sqT W.sub (SqN.sqT s)⟩
theorem pairs_sorted {T : Tb} {w : Wd} {m : List R} (W : Wf T w m) {f : Int → Str} : ∀ {ys : List V} {qs : List (Int × Str)}, RepL T w.Hs w.al ys (qs.map pairD) → (∀ q ∈ qs, q.2 = f q.1) →
    ys.Pairwise (fun x y => ∀ t u i j, x = V.ref t → y = V.ref u → SqT T.K w.H t [.int i, .str (f i)] → SqT T.K w.H u [.int j, .str (f j)] → i ≤ j) → qs.Pairwise fun a b => a.1 ≤ b.1
  | [], [], _, _, _ => List.Pairwise.nil
  | _, [], _, _, _ => List.Pairwise.nil
  | [], _ :: _, r, _, _ => by cases r
  | y :: ys, q :: qs, r, hf, hp => by
    cases r with
    | cons r t =>
      have hp2 := List.pairwise_cons.mp hp
      refine List.pairwise_cons.mpr ⟨fun q' hq' => ?_, pairs_sorted W t (fun q hq => hf q (List.mem_cons_of_mem _ hq)) hp2.2⟩
      obtain ⟨i, hi, e⟩ := List.getElem_of_mem hq'
      have hi2 : (qs.map pairD)[i]? = some (pairD q') := by rw [List.getElem?_map, List.getElem?_eq_getElem hi, e]; rfl
      obtain ⟨v, hv, rv⟩ := t.get hi2
      obtain ⟨t1, e1, s1⟩ := pair_rep W r
      obtain ⟨t2, e2, s2⟩ := pair_rep W rv
      rw [hf q List.mem_cons_self] at s1
      rw [hf q' (List.mem_cons_of_mem _ hq')] at s2
      exact hp2.1 v (List.mem_of_getElem? hv) t1 t2 q.1 q'.1 e1 e2 s1 s2
noncomputable def rSrt4 (K : PySem.W.Frag) : List V → Hp → VK → Prop := fun xs H Q => rSortedI K xs H Q ∨ rSortedTI K xs H Q ∨ rSortedS K xs H Q ∨ rSortedTS K xs H Q ∨ rSortedIS K xs H Q
theorem sorted_s (mu : Bool) : CallS T (rSrt4 T.K) (biD .sorted mu) := by
  intro w m vs ds p Q W r e q
  match ds, e with
  | [a], e =>
    obtain ⟨v, rfl, rv⟩ := r.inv1
    simp only [biD] at e
    split at e
    · rename_i xs h
      obtain ⟨b, us, rfl, hs, rs⟩ := sq_rep W rv h
      split at e
      · rename_i ns hn
        cases e
        have hx := asInts_map hn
        subst hx
        have hu := rs.ints
        subst hu
        have fin : ∀ (ns' : List Int) (p : Addr), ns'.Perm ns → ns'.Pairwise (· ≤ ·) → w.H p = none → Q (.ref p) (upd w.H p (.lst (ns'.map V.int))) := fun ns' p h1 h2 hp => by
          rw [sortI_uniq h1 h2]
          exact new_list W (RepL.ofInts _) hp q
        rcases hs with hs | hs
        · exact .inl ⟨b, ns, rfl, hs, fin⟩
        · exact .inr (.inl ⟨b, ns, rfl, hs, fin⟩)
      · split at e
        · rename_i zs hz
          split at e
          · rename_i h64
            cases e
            have hx := asStrs_map hz
            subst hx
            have hu := rs.strs
            subst hu
            have fin : ∀ (ys : List Str) (p : Addr), ys.Perm zs → sortedS ys = true → w.H p = none → Q (.ref p) (upd w.H p (.lst (ys.map V.str))) := fun ns' p h1 h2 hp => by
              rw [sortS_uniq h1 h2]
              exact new_list W (RepL.ofStrs _) hp q
            rcases hs with hs | hs
            · exact .inr (.inr (.inl ⟨b, zs, rfl, hs, h64, fin⟩))
            · exact .inr (.inr (.inr (.inl ⟨b, zs, rfl, hs, h64, fin⟩)))
          · cases e
        · split at e
          · rename_i zs hz
            obtain ⟨b2, us2, hb2, hs2, rs2⟩ := lsq_rep W rv hz
            split at e
            · rename_i ps hp
              split at e
              · rename_i hc
                cases e
                have hx := asIS_map hp
                subst hx
                refine .inr (.inr (.inr (.inr ⟨b2, us2, fIS ps, by rw [hb2], SqL.of hs2, fun x hx => ?_, fun ys p h1 h2 hp => ?_⟩)))
                · obtain ⟨d, hd, rd⟩ := RepL.memV rs2 hx
                  obtain ⟨pr, hpr, rfl⟩ := List.mem_map.mp hd
                  obtain ⟨t, rfl, ht⟩ := pair_rep W rd
                  refine ⟨t, pr.1, rfl, ?_⟩
                  rw [← fIS_eq hc hpr]
                  exact ht
                · obtain ⟨ds', h3, h4⟩ := RepL.permV h1 rs2
                  obtain ⟨qs, rfl, h5⟩ := perm_of_map h3
                  have h6 : qs = sortIS ps := sortIS_uniq hc h5 (pairs_sorted W h4 (fun q hq => fIS_eq hc (h5.mem_iff.mp hq)) h2)
                  rw [h6] at h4
                  exact new_list W h4 hp q
              · cases e
            · cases e
          · cases e
    · cases e
  | [.int i, .int j], e => cases e
noncomputable def rMx (K : PySem.W.Frag) : List V → Hp → VK → Prop := fun xs H Q => (∃ i j, xs = [.int i, .int j] ∧ Q (.int (if j > i then j else i)) H) ∨ rMax K xs H Q
noncomputable def rMn (K : PySem.W.Frag) : List V → Hp → VK → Prop := fun xs H Q => (∃ i j, xs = [.int i, .int j] ∧ Q (.int (if j < i then j else i)) H) ∨ rMin K xs H Q
theorem max_s (mu : Bool) : CallS T (rMx T.K) (biD .max mu) := by
  intro w m vs ds p Q W r e q
  match ds, e with
  | [a], e =>
    obtain ⟨v, rfl, rv⟩ := r.inv1
    simp only [biD] at e
    split at e
    · rename_i xs h
      obtain ⟨b, us, rfl, hs, rs⟩ := lsq_rep W rv h
      split at e
      · rename_i ns hn
        have hx := asInts_map hn
        subst hx
        have hu := rs.ints
        subst hu
        cases hm : ns.max? with
        | none => rw [hm] at e; cases e
        | some k =>
          rw [hm] at e
          cases e
          have hk := List.max?_eq_some_iff.mp hm
          refine .inr ⟨b, ns, rfl, SqL.of hs, List.length_pos_of_mem hk.1, fun m' h1 h2 => ?_⟩
          have : m' = k := Int.le_antisymm (hk.2 m' h1) (h2 k hk.1)
          rw [this]
          exact OpS.here W q (.int _)
      · cases e
    · cases e
  | [.int i, .int j], e =>
    cases e
    obtain ⟨v, u, rfl, r1, r2⟩ := r.two
    cases r1; cases r2
    exact .inl ⟨i, j, rfl, OpS.here W q (.int _)⟩
theorem min_s (mu : Bool) : CallS T (rMn T.K) (biD .min mu) := by
  intro w m vs ds p Q W r e q
  match ds, e with
  | [a], e =>
    obtain ⟨v, rfl, rv⟩ := r.inv1
    simp only [biD] at e
    split at e
    · rename_i xs h
      obtain ⟨b, us, rfl, hs, rs⟩ := lsq_rep W rv h
      split at e
      · rename_i ns hn
        have hx := asInts_map hn
        subst hx
        have hu := rs.ints
        subst hu
        cases hm : ns.min? with
        | none => rw [hm] at e; cases e
        | some k =>
          rw [hm] at e
          cases e
          have hk := List.min?_eq_some_iff.mp hm
          refine .inr ⟨b, ns, rfl, SqL.of hs, List.length_pos_of_mem hk.1, fun m' h1 h2 => ?_⟩
          have : m' = k := Int.le_antisymm (h2 k hk.1) (hk.2 m' h1)
          rw [this]
          exact OpS.here W q (.int _)
      · cases e
    · cases e
  | [.int i, .int j], e =>
    cases e
    obtain ⟨v, u, rfl, r1, r2⟩ := r.two
    cases r1; cases r2
    exact .inl ⟨i, j, rfl, OpS.here W q (.int _)⟩
theorem sum_s (mu : Bool) : CallS T (rSum T.K) (biD .sum mu) := by
  intro w m vs ds p Q W r e q
  match ds, e with
  | [a], e =>
    obtain ⟨v, rfl, rv⟩ := r.inv1
    simp only [biD] at e
    split at e
    · rename_i xs h
      obtain ⟨b, us, rfl, hs, rs⟩ := lsq_rep W rv h
      cases hn : asInts xs with
      | none => rw [hn] at e; cases e
      | some ns =>
        rw [hn] at e
        cases e
        have hx := asInts_map hn
        subst hx
        have hu := rs.ints
        subst hu
        exact ⟨b, ns, rfl, SqL.of hs, OpS.here W q (.int _)⟩
    · cases e
  | [.int i, .int j], e => cases e
theorem all_s (mu : Bool) : CallS T (rAll T.K) (biD .all mu) := by
  intro w m vs ds p Q W r e q
  match ds, e with
  | [a], e =>
    obtain ⟨v, rfl, rv⟩ := r.inv1
    simp only [biD] at e
    split at e
    · rename_i xs h
      obtain ⟨b, us, rfl, hs, rs⟩ := lsq_rep W rv h
      cases hn : asBls xs with
      | none => rw [hn] at e; cases e
      | some ns =>
        rw [hn] at e
        cases e
        have hx := asBls_map hn
        subst hx
        have hu := rs.bls
        subst hu
        exact ⟨b, ns, rfl, SqL.of hs, OpS.here W q (.bl _)⟩
    · cases e
  | [.int i, .int j], e => cases e
theorem any_s (mu : Bool) : CallS T (rAny T.K) (biD .any mu) := by
  intro w m vs ds p Q W r e q
  match ds, e with
  | [a], e =>
    obtain ⟨v, rfl, rv⟩ := r.inv1
    simp only [biD] at e
    split at e
    · rename_i xs h
      obtain ⟨b, us, rfl, hs, rs⟩ := lsq_rep W rv h
      cases hn : asBls xs with
      | none => rw [hn] at e; cases e
      | some ns =>
        rw [hn] at e
        cases e
        have hx := asBls_map hn
        subst hx
        have hu := rs.bls
        subst hu
        exact ⟨b, ns, rfl, SqL.of hs, OpS.here W q (.bl _)⟩
    · cases e
  | [.int i, .int j], e => cases e
end
end Dv

namespace Dv
open PySem PySem.Spec PyProof.Rows
open L2 hiding Takes XE CX MkP PMk ps_raise ps_try_as ps_try_many HdsOk takes_of passAt passes_call mk_of pmk_own
open L2N (Takes XE CX MkP PMk ps_raise ps_try_as ps_try_many HdsOk takes_of passAt passes_call mk_of pmk_own Zn Zn.steady)

section
variable {C : Cs}
/-! ### built-ins called by name -/
theorem de_fnB {x : Str} {id : String} {b : Bi} {mu : Bool} {r : List V → Hp → VK → Prop} {e : Expr} {es : List Expr} {xs : Es} {p pos : Pos} (hc : ∀ X, C.Ok X → CallR X (.builtin id) r) (hs : CallS C.T r (biD b mu)) (hg : C.sc.names.lookup x = some .globalImplicit)
    (hm : C.mg x = none) (hv : bootBuiltins x = some (.builtin id)) (hn : x ≠ "__name__") (hdb : (x == ("__debug__" : Str)) = false) (ha : DA C (e :: es) (evL C.g xs)) (hst : (e :: es).all noStar = true) : DE C (.Call (.Name x p) (e :: es) [] pos) (evE C.g (.bi b mu xs)) := by
  obtain ⟨t, pt, rt⟩ := ha
  rw [List.all_cons, Bool.and_eq_true] at hst
  refine ⟨tCB r t, fun X ok => pe_callB (hc X ok) (show X.env.scope.names.lookup x = some .globalImplicit by rw [ok.sc]; exact hg) (by rw [ok.mg]; exact hm) hv (pt X ok) hn hdb (star1 hst.1 es _) (stars hst.2), fun σ w ρ m Q oo W E e0 pp => ?_⟩
  simp only [evE] at e0
  refine rt.bnd W E e0 pp fun d m1 w1 v1 e1 x1 W1 r1 E1 p1 => ?_
  obtain ⟨q, e2, rfl⟩ := okP_some e1
  exact hs w1 m1 v1 d q Q W1 r1 e2 fun w' v x' W' r' => p1 w' v x' W' r'
theorem de_tyB {x : Str} {id : String} {b : Bi} {mu : Bool} {r : List V → Hp → VK → Prop} {e : Expr} {es : List Expr} {xs : Es} {p pos : Pos} (hc : ∀ X, C.Ok X → CallR X (.type id) r) (hs : CallS C.T r (biD b mu)) (hg : C.sc.names.lookup x = some .globalImplicit)
    (hm : C.mg x = none) (hv : bootBuiltins x = some (.type id)) (hn : x ≠ "__name__") (hdb : (x == ("__debug__" : Str)) = false) (ha : DA C (e :: es) (evL C.g xs)) (hst : (e :: es).all noStar = true) : DE C (.Call (.Name x p) (e :: es) [] pos) (evE C.g (.bi b mu xs)) := by
  obtain ⟨t, pt, rt⟩ := ha
  rw [List.all_cons, Bool.and_eq_true] at hst
  refine ⟨tCB r t, fun X ok => pe_callTy (hc X ok) (show X.env.scope.names.lookup x = some .globalImplicit by rw [ok.sc]; exact hg) (by rw [ok.mg]; exact hm) hv (pt X ok) hn hdb (star1 hst.1 es _) (stars hst.2), fun σ w ρ m Q oo W E e0 pp => ?_⟩
  simp only [evE] at e0
  refine rt.bnd W E e0 pp fun d m1 w1 v1 e1 x1 W1 r1 E1 p1 => ?_
  obtain ⟨q, e2, rfl⟩ := okP_some e1
  exact hs w1 m1 v1 d q Q W1 r1 e2 fun w' v x' W' r' => p1 w' v x' W' r'
noncomputable def biName : Bi → Str
  | .len => "len" | .list => "list" | .tuple => "tuple" | .int => "int" | .str => "str" | .abs => "abs" | .max => "max" | .min => "min" | .sum => "sum" | .sorted => "sorted" | .all => "all" | .any => "any"
theorem de_bi [Cold C] {b : Bi} {mu : Bool} {e : Expr} {es : List Expr} {xs : Es} {p pos : Pos} (hg : C.sc.names.lookup (biName b) = some .globalImplicit) (hm : C.mg (biName b) = none) (ha : DA C (e :: es) (evL C.g xs)) (hst : (e :: es).all noStar = true) :
    DE C (.Call (.Name (biName b) p) (e :: es) [] pos) (evE C.g (.bi b mu xs)) := by
  cases b with
  | len => exact de_fnB (fun X ok => by have := CallR.or (call_len_seq (X := X)) call_len_str; rw [ok.K] at this; exact this) (len_s mu) hg hm PySem.boot_len (by decide) (by decide) ha hst
  | list => exact de_tyB (fun X ok => by have := call_list_of (X := X); rw [ok.K] at this; exact this) (list_s mu) hg hm (by decide +kernel) (by decide) (by decide) ha hst
  | tuple => exact de_tyB (fun X ok => by have := call_tupleF (X := X); rw [ok.K] at this; exact this) (tuple_s mu) hg hm (by decide +kernel) (by decide) (by decide) ha hst
  | int => exact de_tyB (fun X ok => CallR.or call_int1 call_int_str) (int_s1 mu) hg hm (by decide +kernel) (by decide) (by decide) ha hst
  | str => exact de_tyB (fun X ok => call_str_int) (str_s1 mu) hg hm (by decide +kernel) (by decide) (by decide) ha hst
  | abs => exact de_fnB (fun X ok => call_abs) (abs_s1 mu) hg hm (by decide +kernel) (by decide) (by decide) ha hst
  | max => exact de_fnB (fun X ok => by have := CallR.or (call_max2 (X := X) (ok.calm Cold.out)) (cr_max (ok.calm Cold.out)); rw [ok.K] at this; exact this) (max_s mu) hg hm (by decide +kernel) (by decide) (by decide) ha hst
  | min => exact de_fnB (fun X ok => by have := CallR.or (call_min2 (X := X) (ok.calm Cold.out)) (cr_min (ok.calm Cold.out)); rw [ok.K] at this; exact this) (min_s mu) hg hm (by decide +kernel) (by decide) (by decide) ha hst
  | sum => exact de_fnB (fun X ok => by have := cr_sum (X := X) (ok.calm Cold.out); rw [ok.K] at this; exact this) (sum_s mu) hg hm (by decide +kernel) (by decide) (by decide) ha hst
  | sorted => exact de_fnB (fun X ok => by have := CallR.or (cr_sortedI (X := X)) (CallR.or cr_sortedTI (CallR.or cr_sortedS (CallR.or cr_sortedTS cr_sortedIS))); rw [ok.K] at this; exact this) (sorted_s mu) hg hm (by decide +kernel) (by decide) (by decide) ha hst
  | all => exact de_fnB (fun X ok => by have := cr_all (X := X) (ok.calm Cold.out); rw [ok.K] at this; exact this) (all_s mu) hg hm (by decide +kernel) (by decide) (by decide) ha hst
  | any => exact de_fnB (fun X ok => by have := cr_any (X := X) (ok.calm Cold.out); rw [ok.K] at this; exact this) (any_s mu) hg hm (by decide +kernel) (by decide) (by decide) ha hst

/-! ### isinstance -/
noncomputable def tyName : Ty → String
  | .int => "int" | .bool => "bool" | .str => "str" | .tuple => "tuple" | .list => "list" | .dict => "dict" | .none => "NoneType"
theorem kit_tys (a b : Ty) : kitB (tyName a) (tyName b) = some (tyIs a b) := by
  cases a <;> cases b <;> decide +kernel
theorem tyD_rep {w : Wd} {m : List R} (W : Wf C.T w m) {v : V} {d : D} {t : Ty} (r : Rep C.T w.Hs w.al v d) (e : tyD m d = some t) : TyX C.T.K w.H v (.type (tyName t)) := by
  cases r with
  | non => cases e; exact .base .non
  | bl b => cases e; exact .base (.bl b)
  | int b => cases e; exact .base (.int b)
  | str b => cases e; exact .base (.str b)
  | tup s r =>
    cases e
    obtain ⟨o, h, _⟩ := Le.sqN W.sub s
    exact .fTuple h
  | lst s r => cases e; exact .base (.lst (W.sub _ _ s))
  | ext s r =>
    cases e
    rcases Le.sqL W.sub s with (h | ⟨o, h⟩) | ⟨o, its, n, h, hc, _⟩
    · exact .base (.lst h)
    · exact .base (.frz h)
    · exact .kList h hc
  | obj s n r => cases e
  | fn q => cases e
  | dfn s => cases e
  | dct s n r =>
    cases e
    rcases W.sub.rd s with h | ⟨o, h⟩
    · exact .base (.dK h)
    · exact .fDict h
  | exn0 s => cases e
  | exn1 s t n r => cases e
  | @res a k hk =>
    simp only [tyD] at e
    split at e
    · rename_i ys hm
      cases e
      obtain ⟨vs, h1, h2⟩ := W.ok k a _ hk hm
      exact .base (.lst h1)
    · rename_i kvs hm
      cases e
      obtain ⟨vs, h1, h2⟩ := W.ok k a _ hk hm
      exact .base (.dK h1)
    · cases e
theorem isiD_some {m : List R} {d : D} {ts : List Ty} {b : Bool} (e : isiD m d ts = some b) : ∃ t, tyD m d = some t ∧ b = ts.any (tyIs t) := by
  unfold isiD at e
  cases h : tyD m d with
  | none => rw [h] at e; cases e
  | some t => rw [h] at e; cases e; exact ⟨t, rfl, rfl⟩
theorem de_isi1 {e : Expr} {x : Dv.E} {t : Ty} {y : Str} {p p2 pos : Pos} (hg : C.sc.names.lookup ("isinstance" : Str) = some .globalImplicit) (hm : C.mg "isinstance" = none) (hg2 : C.sc.names.lookup y = some .globalImplicit) (hm2 : C.mg y = none) (hv : bootBuiltins y = some (.type (tyName t)))
    (hn : y ≠ "__name__") (hdb : (y == ("__debug__" : Str)) = false) (he : DE C e (evE C.g x)) (hs : noStar e = true) : DE C (.Call (.Name "isinstance" p) [e, .Name y p2] [] pos) (evE C.g (.isi x [t])) := by
  obtain ⟨te, pe, re⟩ := he
  refine ⟨tCB (rIsi C.T.K) (tCons te (tCons (tC (.ty (tyName t))) tNil)), fun X ok => pe_callB (by have := call_isi (X := X); rw [ok.K] at this; exact this) (show X.env.scope.names.lookup _ = some .globalImplicit by rw [ok.sc]; exact hg) (by rw [ok.mg]; exact hm) (by decide +kernel)
    (pa_cons (pe X ok) (pa_cons (pe_bltn (show X.env.scope.names.lookup _ = some .globalImplicit by rw [ok.sc]; exact hg2) (by rw [ok.mg]; exact hm2) hv rfl hn hdb) pa_nil) (star1 hs _ _)) (by decide) (by decide) (star1 hs _ _) (by rfl), fun σ w ρ m Q oo W E e0 pp => ?_⟩
  simp only [evE] at e0
  refine re.bnd W E e0 pp fun d m1 w1 v1 e1 x1 W1 r1 E1 p1 => ?_
  obtain ⟨b, e2, rfl⟩ := okB_some e1
  obtain ⟨ty, h1, rfl⟩ := isiD_some e2
  refine ⟨v1, .ty (tyName t), .type (tyName ty), .type (tyName t), _, rfl, .ty _, tyD_rep W1 r1 h1, kit_ty (kit_tys ty t), ?_⟩
  have := p1.here W1 (.bl _)
  simpa using this
end
end Dv

namespace Dv
open PySem PySem.Spec PyProof.Rows
open L2 hiding Takes XE CX MkP PMk ps_raise ps_try_as ps_try_many HdsOk takes_of passAt passes_call mk_of pmk_own
open L2N (Takes XE CX MkP PMk ps_raise ps_try_as ps_try_many HdsOk takes_of passAt passes_call mk_of pmk_own Zn Zn.steady)

section
variable {C : Cs}
theorem few_of {pos : Pos} {env : Env} {e : Expr} {es : List Expr} (h : (e :: es).all noStar = true) (hl : (e :: es).length < 30) : ((backTo pos (starEach (e :: es) env)).all (fun x => !x.1) && (backToKw pos (keywordEach [] env)).all (fun x => x.1.isSome)
      && decide ((e :: es).length + ([] : List Keyword).length + (if ([] : List Keyword).isEmpty then 0 else 1) < 30)) = true := by
  have := form_of (pos := pos) (env := env) h hl
  unfold methodCallForm at this
  exact this
/-! ### methods of lists -/
noncomputable def mtName : Mt → Str
  | .append => "append" | .pop => "pop" | .insert => "insert" | .extend => "extend" | .index => "index" | .count => "count"
/-- a list's method: its reading does what mtD says -/
noncomputable def MtS (T : Tb) (r : V → List V → Hp → VK → Prop) (f : Mt) : Prop :=
  ∀ (w : Wd) (m : List R) (x : V) (vs : List V) (d : D) (ds : List D) (p : D × List R) (Q : VK), Wf T w m → Rep T w.Hs w.al x d → RepL T w.Hs w.al vs ds → isTup d = false → mtD f m d ds = some p →
    (∀ w' v, Ext w w' → Wf T w' p.2 → Rep T w'.Hs w'.al v p.1 → Q v w'.H) → r x vs w.H Q
/-- the list at a changes -/
theorem put_list {T : Tb} {w : Wd} {m : List R} (W : Wf T w m) {k : Nat} {a : Addr} {vs : List V} {xs : List D} {Q : VK} {y : V} {d : D} (hk : w.al[k]? = some a) (r : RepL T w.Hs w.al vs xs) (ry : Rep T w.Hs w.al y d)
    (q : ∀ w' v, Ext w w' → Wf T w' (m.set k (.lst xs)) → Rep T w'.Hs w'.al v d → Q v w'.H) : Q y (upd w.H a (.lst vs)) := by
  obtain ⟨W', e⟩ := W.st hk (o := .lst vs) (r := .lst xs) ⟨vs, upd_same, r⟩
  exact q (w.st a (.lst vs)) y e W' (ry.on e)
theorem res_list {T : Tb} {w : Wd} {m : List R} (W : Wf T w m) {x : V} {d : D} {k : Nat} {xs : List D} (r : Rep T w.Hs w.al x d) (h : resL m d = some (k, xs)) : ∃ a vs, x = .ref a ∧ w.al[k]? = some a ∧ w.H a = some (.lst vs) ∧ RepL T w.Hs w.al vs xs := by
  cases r with
  | @res a j hk =>
    simp only [resL] at h
    split at h
    · rename_i ys hm
      cases h
      obtain ⟨vs, h1, h2⟩ := W.ok _ _ _ hk hm
      exact ⟨_, vs, rfl, hk, h1, h2⟩
    · cases h
  | _ => cases h
theorem append_s {T : Tb} : MtS T rAppend .append := by
  intro w m x vs d ds p Q W rx rs _ e q
  simp only [mtD] at e
  unfold appendD at e
  split at e
  · split at e
    · rename_i k ys hm
      split at e
      · rename_i hl
        cases e
        obtain ⟨a, us, rfl, hk, ha, r⟩ := res_list W rx hm
        obtain ⟨v, rfl, ry⟩ := rs.inv1
        exact ⟨a, us, v, rfl, rfl, ha, by rw [r.length]; exact hl, put_list W hk (r.append (.one ry)) .non q⟩
      · cases e
    · cases e
  · cases e
noncomputable def rPop2 : V → List V → Hp → VK → Prop := fun x xs H Q => rPop x xs H Q ∨ rPopAt x xs H Q
theorem dropLast_rep {T : Tb} {Hs : Hp} {al : List Addr} {vs : List V} {ds : List D} (r : RepL T Hs al vs ds) : RepL T Hs al vs.dropLast ds.dropLast := by
  rw [List.dropLast_eq_take, List.dropLast_eq_take, r.length]
  exact r.take _
theorem pop_s {T : Tb} : MtS T rPop2 .pop := by
  intro w m x vs d ds p Q W rx rs _ e q
  simp only [mtD] at e
  unfold popD at e
  split at e
  · cases rs
    split at e
    · rename_i k ys hm
      split at e
      · rename_i y hy
        cases e
        obtain ⟨a, us, rfl, hk, ha, r⟩ := res_list W rx hm
        obtain ⟨v, h1, rv⟩ := r.get hy
        rw [← r.length] at h1
        exact .inl ⟨a, us, v, rfl, rfl, ha, h1, put_list W hk (dropLast_rep r) rv q⟩
      · cases e
    · cases e
  · rename_i i
    obtain ⟨v, rfl, rv⟩ := rs.inv1
    cases rv
    split at e
    · rename_i k ys hm
      split at e
      · rename_i hi
        split at e
        · rename_i y hy
          cases e
          obtain ⟨a, us, rfl, hk, ha, r⟩ := res_list W rx hm
          obtain ⟨v, h1, rv⟩ := r.get hy
          have hlt := (List.getElem?_eq_some_iff.mp h1).1
          have hs : seqIndex? i us.length = some i.toNat := (ixN_seq (n := us.length) (i := i) (j := i.toNat) (by
            unfold ixN
            rw [if_pos hi.1, if_pos (by omega)])).1
          exact .inr ⟨a, us, i, i.toNat, v, rfl, rfl, ha, by omega, hi.2, hs, h1, put_list W hk (r.erase _) rv q⟩
        · cases e
      · cases e
    · cases e
  · cases e
noncomputable def rIns : V → List V → Hp → VK → Prop := fun x vs H Q => ∃ (l : Addr) (xs : List V) (i : Int) (y : V), x = .ref l ∧ vs = [.int i, y] ∧ H l = some (.lst xs) ∧ xs.length < sizeLine ∧ 0 ≤ i ∧ i < 2 ^ 63 ∧
    Q .non (upd H l (.lst (xs.take i.toNat ++ [y] ++ xs.drop i.toNat)))
theorem insert_s {T : Tb} : MtS T rIns .insert := by
  intro w m x vs d ds p Q W rx rs _ e q
  simp only [mtD] at e
  unfold insertD at e
  split at e
  · rename_i i y
    split at e
    · rename_i k ys hm
      split at e
      · rename_i hl
        cases e
        obtain ⟨a, us, rfl, hk, ha, r⟩ := res_list W rx hm
        obtain ⟨v, u, rfl, r1, r2⟩ := rs.two
        cases r1
        exact ⟨a, us, i, u, rfl, rfl, ha, by rw [r.length]; exact hl.1, hl.2.1, hl.2.2, put_list W hk (((r.take _).append (.one r2)).append (r.drop _)) .non q⟩
      · cases e
    · cases e
  · cases e
theorem extend_s {T : Tb} : MtS T rExtend .extend := by
  intro w m x vs d ds p Q W rx rs _ e q
  simp only [mtD] at e
  unfold extendD at e
  split at e
  · rename_i b
    split at e
    · rename_i k ys hm
      split at e
      · rename_i zs hz
        split at e
        · rename_i hl
          cases e
          obtain ⟨a, us, rfl, hk, ha, r⟩ := res_list W rx hm
          obtain ⟨v, rfl, rv⟩ := rs.inv1
          obtain ⟨c, ws, rfl, hc, rz⟩ := lsq_rep W rv hz
          exact ⟨a, c, us, ws, rfl, rfl, ha, hc, by rw [r.length, rz.length]; exact hl, put_list W hk (r.append rz) .non q⟩
        · cases e
      · cases e
    · cases e
  · cases e
theorem DpAll.get {K : PySem.W.Frag} {H : Hp} : ∀ {vs : List V} {ds : List PyData}, DpAll K H vs ds → vs.length = ds.length
  | _, _, .nil => rfl
  | _, _, .cons _ t => by rw [List.length_cons, List.length_cons, DpAll.get t]
theorem index_s {T : Tb} : MtS T (rIndexD T.K) .index := by
  intro w m x vs d ds p Q W rx rs ht e q
  simp only [mtD] at e
  unfold indexD at e
  split at e
  · rename_i y
    split at e
    · rename_i xs hxs
      split at e
      · rename_i ps py h1 h2
        split at e
        · rename_i hd
          split at e
          · rename_i j hj
            cases e
            obtain ⟨v, rfl, rv⟩ := rs.inv1
            obtain ⟨a, us, rfl, ha, r⟩ := lsq_rep W rx hxs
            obtain ⟨p1, c1⟩ := pdL_dp W r h1
            obtain ⟨p2, c2⟩ := pdR_dp W rv h2
            rw [List.findIdx?_eq_some_iff_getElem] at hj
            obtain ⟨hlt, hz, hno⟩ := hj
            refine ⟨a, v, py, ps, j, ps[j], rfl, rfl, .lst (SqL.of ha) p1, p2, shaped_of (by simp only [PyData.canLay0]; exact c1) hd.1, shaped_of c2 hd.2, List.getElem?_eq_getElem hlt, hz, fun k z hk hz' => ?_, OpS.here W q (.int _)⟩
            have := hno k hk
            obtain ⟨hk2, e2⟩ := List.getElem?_eq_some_iff.mp hz'
            rw [e2] at this
            simpa using this
          · cases e
        · cases e
      · cases e
    · split at e
      · cases ht
      · cases e
  · cases e
/-- how often a value stands in a list -/
noncomputable def rCountD (K : PySem.W.Frag) : V → List V → Hp → VK → Prop := fun x xs H Q => ∃ (a : Addr) (y : V) (d : PyData) (us : List V) (ds : List PyData), x = V.ref a ∧ xs = [y] ∧ SqL K H a us ∧ DpAll K H us ds ∧ Dp K H y d ∧
  (PyData.plainAll ds = true ∧ d.plain = true ∧ d.depth ≤ 64) ∧ Q (.int ((ds.countP fun z => PyData.eqv z d : Nat) : Int)) H
theorem mt_countD {X : Cx} (hu : X.A.units + 65 < cLine) : MtR X "list.count" (rCountD X.K) := by
  intro pins s σ H x xs v us Q I rx rxs h
  obtain ⟨a, y, d, zs, ds, rfl, rfl, hs, ha, hy, ⟨h1, h2, h3⟩, q⟩ := h
  cases rx
  obtain ⟨uy, rfl, ry⟩ := rxs.one
  obtain ⟨bs, r1⟩ := Dp.reads I d y uy hy ry
  obtain ⟨its, rv, hl, hlen⟩ := I.list hs
  obtain ⟨as, r2⟩ := Dp.readsAll I ds zs its ha rv
  refine PySem.SeqAt.count_list_data (vs := its.toArray) (xs := ds) (let ⟨o, n, ho, hc, _, hd⟩ := hl; ⟨o, ho, hc, n, hd⟩) (by simpa using r2) r1 h1 h2 ?_ ⟨.int _, H, I.tok _, ⟨_, rfl⟩, q⟩
  have : min (PyData.depthAll ds) d.depth ≤ 64 := Nat.le_trans (Nat.min_le_right _ _) h3
  omega
theorem count_s {T : Tb} : MtS T (rCountD T.K) .count := by
  intro w m x vs d ds p Q W rx rs ht e q
  simp only [mtD] at e
  unfold countD at e
  split at e
  · rename_i y
    split at e
    · rename_i xs hxs
      split at e
      · rename_i ps py h1 h2
        split at e
        · rename_i hd
          cases e
          obtain ⟨v, rfl, rv⟩ := rs.inv1
          obtain ⟨a, us, rfl, ha, r⟩ := lsq_rep W rx hxs
          obtain ⟨p1, c1⟩ := pdL_dp W r h1
          obtain ⟨p2, c2⟩ := pdR_dp W rv h2
          exact ⟨a, v, py, us, ps, rfl, rfl, SqL.of ha, p1, p2, hd, OpS.here W q (.int _)⟩
        · cases e
      · cases e
    · cases e
  · cases e
/-- a tuple's index -/
noncomputable def tTix (K : PySem.W.Frag) (ta : TE) (t : TA) : TE := fun σ H Q => ta σ H fun x H1 => ∃ p ys, x = .ref p ∧ SqN H1 p ys ∧ t σ H1 fun xs H2 => ∃ (zs : List Str) (z : Str) (j : Nat), xs = [.str z] ∧ SqT K H2 p (zs.map V.str) ∧ zs[j]? = some z ∧ (∀ m, m < j → zs[m]? ≠ some z) ∧ Q (.int (j : Nat)) H2
theorem pe_tix {X : Cx} {o e : Expr} {es : List Expr} {ta : TE} {t : TA} {apos pos : Pos} (ho : PE X o ta) (ha : PA X (e :: es) t) (hpo : plainO o = true) (h : (e :: es).all noStar = true) (hl : (e :: es).length < 30) (hp : (apos.endLine == pos.line) = true) :
    PE X (.Call (.Attribute o "index" apos) (e :: es) [] pos) (tTix X.K ta t) := by
  refine ⟨fun pins s σ H Q I hh => ?_⟩
  have h1 := h
  rw [List.all_cons, Bool.and_eq_true] at h1
  refine wpAny_Call_method_late (base_of hpo _ _ _) (few_of h hl) hp rfl (thn (ho.run pins s σ H _ I hh) fun v s1 ⟨x, H1, I1, r1, p, ys, ex, ⟨ob, hob, its, hits⟩, q1⟩ => ?_)
  subst ex
  obtain rfl : v = Value.ref p := r1
  obtain ⟨hg, _⟩ := (show ObjOk X.prog X.w H1 s1.heap p (.frz ob (.tup ys)) from I1.hok p _ hob)
  subst hits
  refine ⟨"tuple", "tuple.index", PySem.F.plainAttrs_tuple, PySem.F.slot_tuple_index, PySem.F.type_tuple_index, ⟨_, hg, rfl⟩, fun a ea => by cases ea; exact ⟨_, hg, rfl⟩, ?_⟩
  have hA := ha.run pos pins s1 σ H1 _ I1 q1
  rw [star1 h1.1] at hA ⊢
  refine Calls.callWith_builtin (by show (false || (backTo pos (starEach es X.env)).any (·.1)) = false; rw [stars h1.2]; rfl) (Calls.evalArgs_plain ?_)
  refine thn hA fun us s2 ⟨vs, H2, I2, r2, zs, z, j, ev, hq, hy, hno, q2⟩ => ?_
  exact mt_tup_index pins s2 σ H2 (.ref p) vs (.ref p) us Q I2 rfl r2 ⟨p, zs, z, j, rfl, ev, hq, hy, hno, q2⟩
theorem run_tix {C : Cs} {xo : Dv.E} {xs : Es} {ta : TE} {t : TA} (ra : Runs C ta (evE C.g xo)) (rt : RunsL C t (evL C.g xs)) {σ : L2.St} {w : Wd} {ρ : Ro} {m m1 : List R} {d : D} {o : Rs} {Q : VK} (W : Wf C.T w m) (E : ER C.T w σ ρ) (e1 : evE C.g xo ρ m = some (.ok d m1)) (hd : isTup d = true)
    (e : bndL (evL C.g xs ρ m1) (fun ds m => okP (mtD .index m d ds)) = some o) (p : PostE C.T C.W σ w Q o) : tTix C.T.K ta t σ w.H Q := by
  refine ra σ w ρ m _ _ W E e1 fun w1 v1 x1 W1 r1 => ?_
  cases r1 <;> first | (cases hd; done) | skip
  rename_i a vs ys s r
  refine ⟨a, vs, rfl, Le.sqN W1.sub s, rt.bnd W1 (E.on x1) e (p.on x1 W1) fun ds m2 w2 us e2 x2 W2 r2 E2 p2 => ?_⟩
  obtain ⟨q, e3, rfl⟩ := okP_some e2
  simp only [mtD] at e3
  unfold indexD at e3
  split at e3
  · rename_i y
    cases y with
    | str z =>
      simp only [lsq] at e3
      split at e3
      · rename_i zs hz
        split at e3
        · rename_i hmem
          cases e3
          obtain ⟨u, rfl, ru⟩ := r2.inv1
          cases ru
          have hx := asStrs_map hz
          subst hx
          have hu := r.strs
          subst hu
          have hlt : zs.idxOf z < zs.length := List.idxOf_lt_length_iff.mpr hmem
          refine ⟨zs, z, zs.idxOf z, rfl, (Le.sqN (Le.trans x2.hs W2.sub) s).sqT, ?_, fun k hk hz' => ?_, p2.here W2 (.int _)⟩
          · rw [List.getElem?_eq_getElem hlt, List.getElem_idxOf hlt]
          · obtain ⟨hk2, e4⟩ := List.getElem?_eq_some_iff.mp hz'
            exact absurd (beq_iff_eq.mpr e4) (by simpa using List.not_of_lt_findIdx (p := (· == z)) (show k < zs.findIdx (· == z) from hk))
        · cases e3
      · cases e3
    | _ => cases e3
  · cases e3
theorem PE.or {X : Cx} {e : Expr} {t u : TE} (h : PE X e t) (k : PE X e u) : PE X e (fun σ H Q => t σ H Q ∨ u σ H Q) := ⟨fun pins s σ H Q I hh => hh.elim (h.run pins s σ H Q I) (k.run pins s σ H Q I)⟩
theorem lsq_kind {w : Wd} {m : List R} (W : Wf C.T w m) {v : V} {d : D} (r : Rep C.T w.Hs w.al v d) (h : (lsq m d).isSome = true) : tyV C.T.K "list" v w.H := by
  obtain ⟨xs, hx⟩ := Option.isSome_iff_exists.mp h
  obtain ⟨a, vs, rfl, ha, _⟩ := lsq_rep W r hx
  exact .inl ⟨rfl, vs, SqL.of ha⟩
/-- a method of a list, called with arguments -/
theorem lst_mth1 {f : Mt} {r : V → List V → Hp → VK → Prop} {o e : Expr} {es : List Expr} {xo : Dv.E} {xs : Es} {id : String} {apos pos : Pos} (slot : Slot "list" (mtName f) id) (hty : typeOf (.builtin id) = pure (.type "method_descriptor")) (hm : ∀ X, C.Ok X → MtR X id r) (hs : MtS C.T r f)
    (ho : DE C o (evE C.g xo)) (ha : DA C (e :: es) (evL C.g xs)) (hpo : plainO o = true) (h : (e :: es).all noStar = true) (hl : (e :: es).length < 30) (hp : (apos.endLine == pos.line) = true) :
    ∃ ta t, (∀ X, C.Ok X → PE X o ta) ∧ Runs C ta (evE C.g xo) ∧ (∀ X, C.Ok X → PA X (e :: es) t) ∧ RunsL C t (evL C.g xs) ∧ (∀ X, C.Ok X → PE X (.Call (.Attribute o (mtName f) apos) (e :: es) [] pos) (tBM C.T.K "list" r ta t)) ∧
      ∀ (σ : L2.St) (w : Wd) (ρ : Ro) (m m1 : List R) (d : D) (oo : Rs) (Q : VK), Wf C.T w m → ER C.T w σ ρ → evE C.g xo ρ m = some (.ok d m1) → (lsq m1 d).isSome = true → isTup d = false → bndL (evL C.g xs ρ m1) (fun ds m => okP (mtD f m d ds)) = some oo → PostE C.T C.W σ w Q oo → tBM C.T.K "list" r ta t σ w.H Q := by
  obtain ⟨ta, pa, ra⟩ := ho
  obtain ⟨t, pt, rt⟩ := ha
  have h1 := h
  rw [List.all_cons, Bool.and_eq_true] at h1
  refine ⟨ta, t, pa, ra, pt, rt, fun X ok => by
    have := pe_bm (X := X) (apos := apos) (cpos := pos) PySem.F.plainAttrs_list slot hty (hm X ok) (pa X ok) (pt X ok) (base_of hpo _ _ _) (few_of h hl) hp (star1 h1.1 es _) (stars h1.2)
    rw [ok.K] at this
    exact this, fun σ w ρ m m1 d oo Q W E e1 hk hd e2 pp => ?_⟩
  refine ra σ w ρ m _ _ W E e1 fun w1 v1 x1 W1 r1 => ?_
  refine ⟨lsq_kind W1 r1 hk, rt.bnd W1 (E.on x1) e2 (pp.on x1 W1) fun ds m2 w2 us e3 x2 W2 r2 E2 p2 => ?_⟩
  obtain ⟨q, e4, rfl⟩ := okP_some e3
  exact hs w2 m2 v1 us d ds q Q W2 (r1.on x2) r2 hd e4 fun w' v x' W' r' => p2 w' v x' W' r'
theorem lsq_notTup {m : List R} {d : D} (h : (lsq m d).isSome = true) : isTup d = false := by
  cases d <;> first | rfl | (simp [lsq] at h)
theorem de_mth1 {f : Mt} {o e : Expr} {es : List Expr} {xo : Dv.E} {xs : Es} {apos pos : Pos} (ho : DE C o (evE C.g xo)) (ha : DA C (e :: es) (evL C.g xs)) (hpo : plainO o = true) (h : (e :: es).all noStar = true) (hl : (e :: es).length < 30) (hp : (apos.endLine == pos.line) = true) :
    DE C (.Call (.Attribute o (mtName f) apos) (e :: es) [] pos) (evE C.g (.mth f xo xs)) := by
  have main : ∀ {r : V → List V → Hp → VK → Prop} {id : String}, f ≠ .index → Slot "list" (mtName f) id → typeOf (.builtin id) = pure (.type "method_descriptor") → (∀ X, C.Ok X → MtR X id r) → MtS C.T r f → DE C (.Call (.Attribute o (mtName f) apos) (e :: es) [] pos) (evE C.g (.mth f xo xs)) := fun hne slot hty hm hs => by
    obtain ⟨ta, t, pa, ra, pt, rt, hpe, run⟩ := lst_mth1 slot hty hm hs ho ha hpo h hl hp
    refine ⟨_, hpe, fun σ w ρ m Q oo W E e0 pp => ?_⟩
    simp only [evE] at e0
    rcases bnd_some e0 with ⟨d, m1, e1, e2⟩ | ⟨x, m1, e1, rfl⟩
    · split at e2
      · rename_i hk
        have hk2 : (lsq m1 d).isSome = true := by
          unfold mtOk at hk
          rw [decide_eq_false hne, Bool.false_and, Bool.or_false] at hk
          exact hk
        exact run σ w ρ m m1 d oo Q W E e1 hk2 (lsq_notTup hk2) e2 pp
      · cases e2
    · exact ra σ w ρ m _ _ W E e1 pp
  cases f with
  | append => exact main (by decide) PySem.F.slot_list_append PySem.F.type_list_append (fun X ok => mt_append) append_s
  | pop => exact main (by decide) PySem.F.slot_list_pop PySem.F.type_list_pop (fun X ok => MtR.or mt_pop mt_popAt) pop_s
  | insert => exact main (by decide) PySem.F.slot_list_insert PySem.F.type_list_insert (fun X ok => mt_insert) insert_s
  | extend => exact main (by decide) PySem.F.slot_list_extend PySem.F.type_list_extend (fun X ok => mt_extend) extend_s
  | count => exact main (by decide) PySem.F.slot_list_count PySem.F.type_list_count (fun X ok => by have := mt_countD (X := X) ok.u65; rw [ok.K] at this; exact this) count_s
  | index =>
    obtain ⟨ta, t, pa, ra, pt, rt, hpe, run⟩ := lst_mth1 (f := .index) PySem.F.slot_list_index PySem.F.type_list_index (fun X ok => by have := mt_indexD (X := X) ok.u65; rw [ok.K] at this; exact this) index_s ho ha hpo h hl hp
    refine ⟨_, fun X ok => PE.or (hpe X ok) (by have := pe_tix (X := X) (apos := apos) (pos := pos) (pa X ok) (pt X ok) hpo h hl hp; rw [ok.K] at this; exact this), fun σ w ρ m Q oo W E e0 pp => ?_⟩
    simp only [evE] at e0
    rcases bnd_some e0 with ⟨d, m1, e1, e2⟩ | ⟨x, m1, e1, rfl⟩
    · split at e2
      · rename_i hk
        cases hd : isTup d with
        | true => exact .inr (run_tix ra rt W E e1 hd e2 pp)
        | false =>
          have hk2 : (lsq m1 d).isSome = true := by
            unfold mtOk at hk
            rw [hd, Bool.and_false, Bool.or_false] at hk
            exact hk
          exact .inl (run σ w ρ m m1 d oo Q W E e1 hk2 hd e2 pp)
      · cases e2
    · exact .inr (ra σ w ρ m _ _ W E e1 pp)
end
end Dv

namespace Dv
open PySem PySem.Spec PyProof.Rows
open L2 hiding Takes XE CX MkP PMk ps_raise ps_try_as ps_try_many HdsOk takes_of passAt passes_call mk_of pmk_own
open L2N (Takes XE CX MkP PMk ps_raise ps_try_as ps_try_many HdsOk takes_of passAt passes_call mk_of pmk_own Zn Zn.steady)

/-! ### enumerate of a list or a tuple, zip of two: the pairs told as they are laid -/
noncomputable def itAt (b : Bool) (h : Heap) (it a : Addr) (i : Nat) : Prop := if b then h.IsListIter it a i else h.IsTupleIter it a i
noncomputable def srcAt (b : Bool) (h : Heap) (a : Addr) (xs : Array Value) : Prop := if b then h.IsList a xs else h.IsTuple a xs
noncomputable def SqX (b : Bool) (K : PySem.W.Frag) (H : Hp) (a : Addr) (xs : List V) : Prop := if b then SqL K H a xs else SqT K H a xs
noncomputable def itObj (b : Bool) (a : Addr) : Obj := if b then { cls := .type "list_iterator", data := .fields #[.ref a, .int 0 0] } else { cls := .type "tuple_iterator", data := .fields #[.ref a, .int 0 0] }
theorem itAt_move {b : Bool} {h h' : Heap} {it a : Addr} {i : Nat} (x : itAt b h it a i) (k : ∀ o, h.get? it = some o → h'.get? it = some o) : itAt b h' it a i := by
  cases b
  · exact Heap.IsTupleIter.at x k
  · exact Heap.IsListIter.at x k
theorem itAt_obj {b : Bool} {h : Heap} {it a : Addr} {i : Nat} (x : itAt b h it a i) : ∃ o, h.get? it = some o ∧ ∀ v, o.data ≠ .cell v := by
  cases b
  · obtain ⟨o, e, _, d⟩ := x
    exact ⟨o, e, fun v z => by rw [d] at z; cases z⟩
  · obtain ⟨o, e, _, d⟩ := x
    exact ⟨o, e, fun v z => by rw [d] at z; cases z⟩
theorem itAt_new {b : Bool} {h : Heap} {it a : Addr} (x : h.get? it = some (itObj b a)) : itAt b h it a 0 := by
  cases b <;> exact ⟨_, x, rfl, rfl⟩
theorem draws_of {P : Program} {w : World} {A : Around} (b : Bool) (hh : A.handled = none) (it a : Addr) (hne : a ≠ it) (xs : Array Value) :
    Draws P w A it [it, a] xs.size (fun i v => xs[i]? = some v) (fun i h => itAt b h it a i ∧ srcAt b h a xs) := by
  cases b
  · exact Draws.tuple hh it a hne xs
  · exact Draws.list hh it a hne xs
theorem begins_of (b : Bool) (a : Addr) (xs : Array Value) : Begins (.ref a) (itObj b a) fun h => srcAt b h a xs := by
  cases b
  · exact begins_tuple a xs
  · exact begins_list a xs
theorem srcAt_lt {b : Bool} {h : Heap} {a : Addr} {xs : Array Value} (x : srcAt b h a xs) : a < h.objs.size := by
  cases b
  · obtain ⟨o, e, _⟩ := x; exact Heap.lt_size e
  · obtain ⟨o, e, _⟩ := x; exact Heap.lt_size e
theorem inv_src {X : Cx} {pins : List (Addr × Obj)} {σ : L2.St} {H : Hp} {s : Shared} {b : Bool} {a : Addr} {xs : List V} (I : Inv X pins σ H s) (h : SqX b X.K H a xs) : ∃ its : List Value, Vals xs its ∧ srcAt b s.heap a its.toArray := by
  cases b
  · obtain ⟨its, rv, p, _⟩ := I.tuple h
    exact ⟨its, rv, p⟩
  · obtain ⟨its, rv, p, _⟩ := I.list h
    exact ⟨its, rv, p.isList⟩
theorem inv_inj {X : Cx} {pins : List (Addr × Obj)} {σ : L2.St} {H : Hp} {s : Shared} {b : Bool} {a : Addr} {xs ys : List V} (I : Inv X pins σ H s) (h : SqX b X.K H a xs) (h' : SqX b X.K H a ys) : xs = ys := by
  cases b
  · exact I.tuple_inj h h'
  · exact I.list_inj h h'

set_option maxHeartbeats 4000000 in
theorem enum1_new {v : Value} {ob : Obj} {Hw : Heap → Prop} (B : Begins v ob Hw) : Meets (Builtin.«enumerate.__new__» ⟨[.type "enumerate", v], []⟩) (fun _ R s => Hw s.heap ∧
    R (.ok (.ret (.ref (s.heap.push ob).objs.size))) { s with heap := (s.heap.push ob).push { cls := .type "enumerate", data := .fields #[.none, .bool false, .ref s.heap.objs.size, rawInt 0, .none, .none] } }) :=
  .of_wp fun P w A R sh hyp => by
    obtain ⟨h0, g, dr, tk, os⟩ := sh
    obtain ⟨a1, fin⟩ := hyp
    have hsub := sub_enumerate
    have go1 : ∀ {B2 : Around} {E2 : Value → Shared → Prop} {Q2 : Value → Shared → Prop}, Q2 (.ref h0.objs.size) ⟨h0.push ob, g, dr, tk, os⟩ → wpAny (model P w) B2 (pyIter v) Q2 E2 ⟨h0, g, dr, tk, os⟩ := fun q => B.iter P w _ _ ⟨h0, g, dr, tk, os⟩ _ a1 q
    wp_walk using go1
    refine wpAny_stack_any fun _ => wpAny_pure ?_
    split
    · rename_i cl _ _ _ _ _
      cases (cl == Value.type "enumerate")
      · wp_walk using go1
        exact ⟨_, rfl, fin⟩
      · wp_walk using go1
        exact ⟨_, rfl, fin⟩
    · wp_walk using go1
      exact ⟨_, rfl, fin⟩
theorem enum1_begins {P : Program} {w : World} {A : Around} {E : Value → Shared → Prop} {s : Shared} {v : Value} {ob : Obj} {Hw : Heap → Prop} {Q : Value → Shared → Prop} (B : Begins v ob Hw) (h1 : Hw s.heap)
    (k : ∀ h', IsEnum h' (s.heap.objs.size + 1) s.heap.objs.size 0 .none → h'.get? s.heap.objs.size = some ob → (∀ b o, s.heap.get? b = some o → h'.get? b = some o) → Q (.ref (s.heap.objs.size + 1)) { s with heap := h' }) :
    wpAny (model P w) A (call (.type "enumerate") [v]) Q E s := by
  refine callType_new F.called_enumerate (by decide) (F.typeCall_enumerate_1 _) (F.newCall_enumerate_1 _) (fun o => F.args_object_init_2 o _) F.entry_enumerate_new (enum1_new B) ⟨h1, ?_⟩
  have z1 : (s.heap.push ob).objs.size = s.heap.objs.size + 1 := Heap.size_push ..
  have he := Heap.get?_push_size (s.heap.push ob) (o := { cls := .type "enumerate", data := .fields #[.none, .bool false, .ref s.heap.objs.size, rawInt 0, .none, .none] }) rfl
  rw [z1] at he
  show _ ∧ _
  rw [z1]
  exact ⟨⟨_, he, rfl⟩, k _ he (Heap.get?_push_of_some _ (Heap.get?_push_size _ B.free)) fun b o x => Heap.get?_push_of_some _ (Heap.get?_push_of_some _ x)⟩

/-- (i, x) for the items x that stand at a -/
noncomputable def Iten (b : Bool) (K : PySem.W.Frag) (a : Addr) : L2.It where
  go := fun i H => ∃ (xs : List V) (x : V), SqX b K H a xs ∧ xs[i]? = some x
  yld := fun i H v H' => ∃ p o x, v = .ref p ∧ H p = none ∧ PTo o ∧ H' = upd H p (.frz o (.tup [.int (i : Nat), x])) ∧ ∀ xs, SqX b K H a xs → xs[i]? = some x
  stop := fun i H => ∃ xs : List V, SqX b K H a xs ∧ xs.length = i
theorem turn_en {P : Program} {w : World} {K : PySem.W.Frag} {elts : List Expr} {kk : Nat} {tpos : Pos} (b : Bool) (a e it : Addr) (he1 : e ≠ it) (he2 : e ≠ a) (he3 : a ≠ it) :
    Turn P w K (.Tuple elts kk tpos) (Iten b K a) [e, it] e (fun i h => (∃ old, IsEnum h e it ((i : Nat) : Int) old) ∧ itAt b h it a i) where
  mem := by simp
  obj := fun i h st c hc => by
    obtain ⟨⟨old, he⟩, hi⟩ := st
    rcases (by simpa using hc : c = e ∨ c = it) with z | z
    · rw [z]; exact ⟨_, he, fun v q => nomatch q⟩
    · rw [z]; exact itAt_obj hi
  keep := fun i h h' st k => ⟨st.1.imp fun old he => k e (by simp) _ he, itAt_move st.2 fun o q => k it (by simp) o q⟩
  item := by
    intro X hP hw hK hc i pins s σ H E I hf st hg
    subst hP hw hK
    obtain ⟨⟨old, he⟩, hit⟩ := st
    obtain ⟨xs, x, hq, hx⟩ := hg
    obtain ⟨its, rv, src⟩ := inv_src I hq
    have hl := rv.length
    have hlt : i < its.toArray.size := by
      have := (List.getElem?_eq_some_iff.mp hx).1
      simp only [List.size_toArray]
      omega
    have D := draws_of (P := X.prog) (w := X.w) (A := X.A.in1) b (I.ok.hd hc) it a he3 its.toArray
    refine wpAny_pyNext_enum_itemC D he ⟨hit, src⟩ hlt he1 (by simp [he1, he2]) fun u h1 tk hu out st1 lay hsz hk => ?_
    refine ⟨_, rfl, wpAny_letOwnedTupleGo_enum (s := { s with heap := h1, toks := tk + 1 }) out fun h2 en2 sb => ?_⟩
    have hel : e < s.heap.objs.size := Heap.lt_size he
    have hu2 : its[i]? = some u := by simpa using hu
    obtain ⟨u', hu', ru⟩ := rv.get hx
    obtain rfl : u' = u := Option.some.inj (hu'.symm.trans hu2)
    have lay2 : h2.get? s.heap.objs.size = some { cls := .type "tuple", data := .seq #[.int i tk, u'] } := (sb.2 _ (Nat.ne_of_gt hel)).trans lay
    have new : ObjOk X.prog X.w (upd H s.heap.objs.size (.frz { cls := .type "tuple", data := .seq #[.int i tk, u'] } (.tup [.int (i : Nat), x]))) h2 s.heap.objs.size (.frz { cls := .type "tuple", data := .seq #[.int i tk, u'] } (.tup [.int (i : Nat), x])) :=
      ⟨lay2, by show 2 ≤ sizeLine; decide, [.int i tk, u'], .cons ⟨_, rfl⟩ (.cons ru .nil), ⟨_, lay2, rfl, _, rfl⟩⟩
    have I1 := I.turnedNew (t' := tk + 1) (h' := h2) (ch := [e, it]) (fun c o hc q => (sb.2 c (fun z => hc (by simp [z]))).trans (hk c o (fun z => hc (by simp [z])) (fun z => hc (by simp [z])) q)) hf (Nat.le_refl _) new
    refine ⟨.ref s.heap.objs.size, _, I1, rfl, ⟨_, _, x, rfl, I.hok.fresh (Nat.le_refl _), ⟨[.int i tk, u'], rfl⟩, rfl, fun ys hy => by rw [inv_inj I hy hq]; exact hx⟩, ⟨⟨u', ?_⟩, itAt_move st1.1 fun o q => (sb.2 it (Ne.symm he1)).trans q⟩, fun c hc => ?_⟩
    · have e1 : ((i + 1 : Nat) : Int) = (i : Int) + 1 := by omega
      rw [e1]; exact en2
    · have hn : c ≠ s.heap.objs.size := by
        rcases (by simpa using hc : c = e ∨ c = it) with z | z
        · rw [z]; exact Nat.ne_of_lt hel
        · rw [z]
          obtain ⟨o, q, _⟩ := itAt_obj hit
          exact Nat.ne_of_lt (Heap.lt_size q)
      rw [upd_ne hn]
      exact (hf c hc).1
  done := by
    intro X hP hw hK hc i pins s σ H E I hf st hg
    subst hP hw hK
    obtain ⟨⟨old, he⟩, hit⟩ := st
    obtain ⟨xs, hq, hx⟩ := hg
    obtain ⟨its, rv, src⟩ := inv_src I hq
    have hl := rv.length
    have D := draws_of (P := X.prog) (w := X.w) (A := X.A.in1) b (I.ok.hd hc) it a he3 its.toArray
    have hn : its.toArray.size = i := by rw [List.size_toArray]; omega
    rw [hn] at D
    obtain ⟨f0, f1, f2, f3, f4, f5⟩ := hf it (by simp)
    exact wpAny_pyNext_enum_endD D he ⟨hit, src⟩ fun h' eb => ⟨rfl, I.turned (t' := s.toks) (fun c o hb q => eb c o hb q) f0 f1 f3 f4 f5⟩
  self := fun A i s Q E st h => let ⟨⟨_, he⟩, _⟩ := st; wpAny_pyIter_enum he h
noncomputable def iEn (K : PySem.W.Frag) (ta : TA) : L2.TI := fun σ H R => ta σ H fun vs H1 => ∃ b a xs, vs = [.ref a] ∧ SqX b K H1 a xs ∧ R (Iten b K a) H1
theorem pi_en {X : Cx} {e : Expr} {ta : TA} {p pos tpos : Pos} {elts : List Expr} {kk : Nat} (hg : Gl X "enumerate") (hm : X.mg "enumerate" = none) (ha : PA X [e] ta) (hs : noStar e = true) :
    PI X (.Tuple elts kk tpos) (.Call (.Name "enumerate" p) [e] [] pos) (iEn X.K ta) := by
  refine ⟨fun pins s σ H R I h => ?_⟩
  refine Call_ (ld_blt I hg hm boot_enumerate (PyProof.Rows.callWith_type1 (thn (ha.run pos pins s σ H _ I h) fun us s1 ⟨vs, H1, I1, r1, q1⟩ => ?_) (star1 hs [] _) rfl))
  obtain ⟨b, a, xs, ex, hq, q⟩ := q1
  subst ex
  cases r1 with
  | cons r rr =>
    cases rr
    cases r
    obtain ⟨its, rv, src⟩ := inv_src I1 hq
    have hal := srcAt_lt src
    refine enum1_begins (begins_of b a its.toArray) src fun h' he hit hk => wpAny_pyIter_enum he ?_
    refine ⟨s1.heap.objs.size + 1, [s1.heap.objs.size + 1, s1.heap.objs.size], _, _, H1, rfl, I1.kept (t' := s1.toks) hk, turn_en b a (s1.heap.objs.size + 1) s1.heap.objs.size (Nat.succ_ne_self _) (Nat.ne_of_gt (Nat.lt_succ_of_lt hal)) (Nat.ne_of_lt hal), ⟨⟨.none, he⟩, itAt_new hit⟩, fun c hc => ?_, q⟩
    have hle : s1.heap.objs.size ≤ c := by
      rcases (by simpa using hc : c = s1.heap.objs.size + 1 ∨ c = s1.heap.objs.size) with z | z
      · rw [z]; exact Nat.le_add_right _ _
      · rw [z]; exact Nat.le_refl _
    exact I1.fpOk hle (I1.hok.fresh hle)

end Dv

namespace Dv
open PySem PySem.Spec PyProof PyProof.Rows
open L2 hiding Takes XE CX MkP PMk ps_raise ps_try_as ps_try_many HdsOk takes_of passAt passes_call mk_of pmk_own
open L2N (Takes XE CX MkP PMk ps_raise ps_try_as ps_try_many HdsOk takes_of passAt passes_call mk_of pmk_own Zn Zn.steady)

/-! ### enumerate of a zip: the zip's own pair is never given back, so that a new one is laid at each turn -/
section
variable {prog : Program} {w : World} {A : Around} {E : Value → Shared → Prop} {s : Shared} {z TI TO i1 i2 : Addr} {fp1 fp2 : List Addr} {n1 n2 i : Nat} {P1 P2 : Nat → Value → Prop} {St1 St2 : Nat → Heap → Prop} {a1 a2 mk : Value} {fl : Bool}
end
end Dv

namespace Dv
open PySem PySem.Spec PyProof.Rows
open L2 hiding Takes XE CX MkP PMk ps_raise ps_try_as ps_try_many HdsOk takes_of passAt passes_call mk_of pmk_own
open L2N (Takes XE CX MkP PMk ps_raise ps_try_as ps_try_many HdsOk takes_of passAt passes_call mk_of pmk_own Zn Zn.steady)

/-! ### what is walked -/
/-- the turns' items, from a world on -/
noncomputable def Turns (T : Tb) (J : L2.It) (w : Wd) (m : List R) (i : Nat) (d : D) : Prop :=
  J.go i w.H ∧ ∀ v H', J.yld i w.H v H' → ∃ w', w'.H = H' ∧ Ext w w' ∧ Wf T w' m ∧ Rep T w'.Hs w'.al v d
noncomputable def SrcOk (T : Tb) (J : L2.It) (w1 : Wd) : Src → Prop
  | .fix xs => ∀ i w m, Ext w1 w → Wf T w m → (i = xs.length → J.stop i w.H) ∧ ∀ d, xs[i]? = some d → Turns T J w m i d
  | .live k _ => ∀ i w m ys, Ext w1 w → Wf T w m → m[k]? = some (.lst ys) → (ys[i]? = none → J.stop i w.H) ∧ ∀ d, ys[i]? = some d → Turns T J w m i d
  | .dic k r xs => ∀ i w m, Ext w1 w → Wf T w m → m[k]? = some r → (i = xs.length → J.stop i w.H) ∧ ∀ d, xs[i]? = some d → Turns T J w m i d
noncomputable def PostI (T : Tb) (W : WX) (σ : L2.St) (w : Wd) (R' : L2.It → Hp → Prop) : RsI → Prop
  | .ok s m' => ∀ w' J, Ext w w' → Wf T w' m' → SrcOk T J w' s → R' J w'.H
  | .ex x m' => ∀ w' cls dd, Ext w w' → Wf T w' m' → RepX T w' cls dd x → W cls dd σ w'.H
theorem PostI.on {T : Tb} {W : WX} {σ : L2.St} {w w1 : Wd} {m : List R} {Q : L2.It → Hp → Prop} {o : RsI} (h : PostI T W σ w Q o) (e : Ext w w1) (V : Wf T w1 m) : PostI T W σ w1 Q o := by
  cases o with
  | ok s m' => exact fun w' J e' W' r => h w' J (e.trans e' V) W' r
  | ex x m' => exact fun w' c d e' W' r => h w' c d (e.trans e' V) W' r
noncomputable def RunsI (C : Cs) (t : L2.TI) (f : Ro → List R → Option RsI) : Prop :=
  ∀ (σ : L2.St) (w : Wd) (ρ : Ro) (m : List R) (Q : L2.It → Hp → Prop) (o : RsI), Wf C.T w m → ER C.T w σ ρ → f ρ m = some o → PostI C.T C.W σ w Q o → t σ w.H Q
noncomputable def DI (C : Cs) (tg e : Expr) (f : Ro → List R → Option RsI) : Prop := ∃ t, (∀ X, C.Ok X → PI X tg e t) ∧ RunsI C t f

theorem toI_some {r : Option Rs} {k : D → List R → Option RsI} {o : RsI} (e : toI r k = some o) : (∃ d m, r = some (.ok d m) ∧ k d m = some o) ∨ ∃ x m, r = some (.ex x m) ∧ o = .ex x m := by
  cases r with
  | none => cases e
  | some q =>
    cases q with
    | ok d m => exact .inl ⟨d, m, rfl, e⟩
    | ex x m => cases e; exact .inr ⟨x, m, rfl, rfl⟩
theorem bndI_some {r : Option RsI} {k : Src → List R → Option Rs} {o : Rs} (e : bndI r k = some o) : (∃ d m, r = some (.ok d m) ∧ k d m = some o) ∨ ∃ x m, r = some (.ex x m) ∧ o = .ex x m := by
  cases r with
  | none => cases e
  | some q =>
    cases q with
    | ok d m => exact .inl ⟨d, m, rfl, e⟩
    | ex x m => cases e; exact .inr ⟨x, m, rfl, rfl⟩
section
variable {C : Cs}
theorem Runs.toI {t : TE} {f : Ro → List R → Option Rs} (h : Runs C t f) {σ : L2.St} {w : Wd} {ρ : Ro} {m : List R} {Q : L2.It → Hp → Prop} {o : RsI} {k : D → List R → Option RsI} (W : Wf C.T w m) (E : ER C.T w σ ρ) (e : Dv.toI (f ρ m) k = some o) (p : PostI C.T C.W σ w Q o)
    {R' : VK} (c : ∀ d m1 w1 v1, k d m1 = some o → Ext w w1 → Wf C.T w1 m1 → Rep C.T w1.Hs w1.al v1 d → ER C.T w1 σ ρ → PostI C.T C.W σ w1 Q o → R' v1 w1.H) : t σ w.H R' := by
  rcases toI_some e with ⟨d, m1, e1, e2⟩ | ⟨x, m1, e1, rfl⟩
  · exact h σ w ρ m R' _ W E e1 fun w1 v1 e' W1 r => c d m1 w1 v1 e2 e' W1 r (E.on e') (p.on e' W1)
  · exact h σ w ρ m R' _ W E e1 p
theorem PI.or {X : Cx} {tg e : Expr} {t u : L2.TI} (h : PI X tg e t) (k : PI X tg e u) : PI X tg e (fun σ H Q => t σ H Q ∨ u σ H Q) := ⟨fun pins s σ H Q I hh => hh.elim (h.run pins s σ H Q I) (k.run pins s σ H Q I)⟩
theorem get_len {α : Type} {xs : List α} {i : Nat} (h : xs[i]? = none) : xs.length ≤ i := List.getElem?_eq_none_iff.mp h
/-- a frozen list, walked -/
theorem src_fixL {w1 : Wd} {a : Addr} {vs : List V} {xs : List D} (hs : SqL C.T.K w1.Hs a vs) (r : RepL C.T w1.Hs w1.al vs xs) : SrcOk C.T (Itl C.T.K a) w1 (.fix xs) := by
  intro i w m x W
  have hs' := Le.sqL (Le.trans x.hs W.sub) hs
  have r' := r.on x
  refine ⟨fun e => ⟨vs, hs', by rw [r.length, e]; exact Nat.le_refl _⟩, fun d hd => ?_⟩
  obtain ⟨v, hv, rv⟩ := r'.get hd
  refine ⟨⟨vs, v, hs', hv⟩, fun u H' ⟨eH, hu⟩ => ⟨w, eH.symm, Ext.refl _, W, ?_⟩⟩
  have : v = u := Option.some.inj (hv.symm.trans (hu vs hs'))
  rw [← this]; exact rv
theorem src_fixT {w1 : Wd} {a : Addr} {vs : List V} {xs : List D} (hs : SqT C.T.K w1.Hs a vs) (r : RepL C.T w1.Hs w1.al vs xs) : SrcOk C.T (Itt C.T.K a) w1 (.fix xs) := by
  intro i w m x W
  have hs' := Le.sqT (Le.trans x.hs W.sub) hs
  have r' := r.on x
  refine ⟨fun e => ⟨vs, hs', by rw [r.length, e]; exact Nat.le_refl _⟩, fun d hd => ?_⟩
  obtain ⟨v, hv, rv⟩ := r'.get hd
  refine ⟨⟨vs, v, hs', hv⟩, fun u H' ⟨eH, hu⟩ => ⟨w, eH.symm, Ext.refl _, W, ?_⟩⟩
  have : v = u := Option.some.inj (hv.symm.trans (hu vs hs'))
  rw [← this]; exact rv
theorem src_str {w1 : Wd} {z : Str} : SrcOk C.T (Its z) w1 (.fix (signsD z)) := by
  intro i w m x W
  have hl : (signsD z).length = z.cps.size := by unfold signsD; rw [List.length_map, Array.length_toList]
  refine ⟨fun e => by show z.cps.size ≤ i; omega, fun d hd => ?_⟩
  have hi : i < z.cps.size := by rw [← hl]; exact (List.getElem?_eq_some_iff.mp hd).1
  refine ⟨hi, fun u H' ⟨eH, c, hc, hu⟩ => ⟨w, eH.symm, Ext.refl _, W, ?_⟩⟩
  have : d = .str ⟨#[c]⟩ := by
    unfold signsD at hd
    rw [List.getElem?_map, Array.getElem?_toList, hc] at hd
    exact (Option.some.inj hd).symm
  rw [this, hu]
  exact .str _
theorem src_live {w1 : Wd} {m1 : List R} {a : Addr} {k n : Nat} (hk : w1.al[k]? = some a) : SrcOk C.T (Itl C.T.K a) w1 (.live k n) := by
  intro i w m ys x W hm
  obtain ⟨vs, hv, rv⟩ := W.ok k a _ (x.leA k a hk) hm
  have hs : SqL C.T.K w.H a vs := .inl (.inl hv)
  refine ⟨fun e => ⟨vs, hs, by rw [rv.length]; exact get_len e⟩, fun d hd => ?_⟩
  obtain ⟨v, hv', r⟩ := rv.get hd
  refine ⟨⟨vs, v, hs, hv'⟩, fun u H' ⟨eH, hu⟩ => ⟨w, eH.symm, Ext.refl _, W, ?_⟩⟩
  have : v = u := Option.some.inj (hv'.symm.trans (hu vs hs))
  rw [← this]; exact r
theorem src_rng {w1 : Wd} {lo hi : Int} : SrcOk C.T (Itr lo (hi - lo).toNat) w1 (.fix (rngD lo hi)) := by
  intro i w m x W
  have hl : (rngD lo hi).length = (hi - lo).toNat := by unfold rngD; rw [List.length_map, List.length_range]
  refine ⟨fun e => by show (hi - lo).toNat ≤ i; omega, fun d hd => ?_⟩
  have hi' : i < (hi - lo).toNat := by rw [← hl]; exact (List.getElem?_eq_some_iff.mp hd).1
  refine ⟨hi', fun u H' ⟨eH, hu⟩ => ⟨w, eH.symm, Ext.refl _, W, ?_⟩⟩
  have : d = .int (lo + (i : Int)) := by
    unfold rngD at hd
    rw [List.getElem?_map, List.getElem?_range hi'] at hd
    exact (Option.some.inj hd).symm
  rw [this, hu]
  exact .int _
theorem sqX_of {T : Tb} {w : Wd} {m : List R} (W : Wf T w m) {v : V} {d : D} {xs : List D} (r : Rep T w.Hs w.al v d) (h : fsq d = some xs) : ∃ b a vs, v = .ref a ∧ SqX b T.K w.Hs a vs ∧ RepL T w.Hs w.al vs xs := by
  cases r with
  | tup s r =>
    cases h
    exact ⟨false, _, _, rfl, SqN.sqT s, r⟩
  | lst s r =>
    cases h
    exact ⟨true, _, _, rfl, .inl (.inl s), r⟩
  | ext s r =>
    cases h
    exact ⟨true, _, _, rfl, s, r⟩
  | _ => cases h
theorem Le.sqX {H H' : Hp} (h : Le H H') {b : Bool} {K : PySem.W.Frag} {a : Addr} {vs : List V} (r : SqX b K H a vs) : SqX b K H' a vs := by
  cases b
  · exact h.sqT r
  · exact h.sqL r
theorem src_en {w1 : Wd} {b : Bool} {a : Addr} {vs : List V} {xs : List D} (hs : SqX b C.T.K w1.Hs a vs) (r : RepL C.T w1.Hs w1.al vs xs) : SrcOk C.T (Iten b C.T.K a) w1 (.fix (enuD xs)) := by
  intro i w m x W
  have hs' := Le.sqX (Le.trans x.hs W.sub) hs
  have r' := r.on x
  have hl : (enuD xs).length = xs.length := by unfold enuD; rw [List.length_map, List.length_zipIdx]
  refine ⟨fun e => ⟨vs, hs', by rw [r.length, e, hl]⟩, fun d hd => ?_⟩
  have hi : i < xs.length := by rw [← hl]; exact (List.getElem?_eq_some_iff.mp hd).1
  have hx : xs[i]? = some xs[i] := List.getElem?_eq_getElem hi
  have ed : d = .tup [.int (i : Int), xs[i]] := by
    unfold enuD at hd
    rw [List.getElem?_map, List.getElem?_zipIdx, hx] at hd
    have := Option.some.inj hd
    simpa using this.symm
  subst ed
  obtain ⟨v, hv, rv⟩ := r'.get hx
  refine ⟨⟨vs, v, hs', hv⟩, fun u H' ⟨p, o, y, eu, hp, ho, eH, hy⟩ => ?_⟩
  obtain rfl : v = y := Option.some.inj (hv.symm.trans (hy vs hs'))
  obtain ⟨W', x'⟩ := W.fz (.frz o (.tup [.int (i : Nat), v])) hp
  subst eu
  exact ⟨_, eH.symm, x', W', .tup ⟨o, by show upd w.Hs p _ p = _; rw [upd_same], ho⟩ (.cons (.int _) (.cons (rv.on x') .nil))⟩
theorem di_seq {tg e : Expr} {x : Dv.E} (h : DE C e (evE C.g x)) : DI C tg e (evI C.g (.seq x)) := by
  obtain ⟨t, p, r⟩ := h
  refine ⟨fun σ H R' => iList C.T.K t σ H R' ∨ iTup C.T.K t σ H R' ∨ iStr t σ H R', fun X ok => by
    have h1 := pi_list (tg := tg) (p X ok)
    have h2 := pi_tup (tg := tg) (p X ok)
    rw [ok.K] at h1 h2
    exact Dv.PI.or h1 (Dv.PI.or h2 (pi_str (p X ok))), fun σ w ρ m Q o W E e pp => ?_⟩
  simp only [evI] at e
  have e0 := e
  rcases toI_some e with ⟨d, m1, e1, e2⟩ | ⟨y, m1, e1, rfl⟩
  · cases d with
    | tup xs =>
      cases e2
      refine .inr (.inl (r σ w ρ m _ _ W E e1 fun w1 v1 x1 W1 r1 => ?_))
      cases r1 with
      | tup s rr => exact ⟨_, rfl, ⟨_, Le.sqT W1.sub (SqN.sqT s)⟩, pp w1 _ x1 W1 (src_fixT (SqN.sqT s) rr)⟩
    | lst xs =>
      cases e2
      refine .inl (r σ w ρ m _ _ W E e1 fun w1 v1 x1 W1 r1 => ?_)
      cases r1 with
      | lst s rr => exact ⟨_, rfl, ⟨_, .inl (.inl (W1.sub _ _ s))⟩, pp w1 _ x1 W1 (src_fixL (.inl (.inl s)) rr)⟩
    | ext xs =>
      cases e2
      refine .inl (r σ w ρ m _ _ W E e1 fun w1 v1 x1 W1 r1 => ?_)
      cases r1 with
      | ext s rr => exact ⟨_, rfl, ⟨_, Le.sqL W1.sub s⟩, pp w1 _ x1 W1 (src_fixL s rr)⟩
    | str z =>
      cases e2
      refine .inr (.inr (r σ w ρ m _ _ W E e1 fun w1 v1 x1 W1 r1 => ?_))
      cases r1
      exact ⟨_, rfl, pp w1 _ x1 W1 src_str⟩
    | res k =>
      simp only at e2
      split at e2
      · rename_i ys hm
        cases e2
        refine .inl (r σ w ρ m _ _ W E e1 fun w1 v1 x1 W1 r1 => ?_)
        cases r1 with
        | res hk =>
          obtain ⟨vs, hv, rv⟩ := W1.ok k _ _ hk hm
          exact ⟨_, rfl, ⟨_, .inl (.inl hv)⟩, pp w1 _ x1 W1 (src_live (m1 := m1) hk)⟩
      · cases e2
    | _ => cases e2
  · exact .inl (r σ w ρ m _ _ W E e1 pp)
theorem smallI_iff {i : Int} (h : smallI i = true) : -(2 ^ 62) ≤ i ∧ i < 2 ^ 62 := by simpa [smallI] using h
theorem di_rg1 {tg a : Expr} {x : Dv.E} {p pos : Pos} (hg : C.sc.names.lookup ("range" : Str) = some .globalImplicit) (hm : C.mg "range" = none) (h : DE C a (evE C.g x)) (hs : noStar a = true) : DI C tg (.Call (.Name "range" p) [a] [] pos) (evI C.g (.rg1 x)) := by
  obtain ⟨t, pt, r⟩ := h
  refine ⟨iRng1 (tCons t tNil), fun X ok => pi_range1 (show X.env.scope.names.lookup ("range" : Str) = _ by rw [ok.sc]; exact hg) (by rw [ok.mg]; exact hm) (pa_cons (pt X ok) pa_nil (star1 hs [] _)) (star1 hs [] _), fun σ w ρ m Q o W E e pp => ?_⟩
  simp only [evI] at e
  refine r.toI W E e pp fun d m1 w1 v1 e1 x1 W1 r1 E1 p1 => ?_
  split at e1
  · split at e1
    · rename_i i hi
      cases e1
      cases r1
      obtain ⟨b1, b2⟩ := smallI_iff hi
      have := p1 w1 _ (Ext.refl _) W1 (src_rng (lo := 0) (hi := i))
      rw [Int.sub_zero] at this
      exact ⟨i, rfl, b1, b2, this⟩
    · cases e1
  · cases e1
theorem di_enu {elts : List Expr} {kk : Nat} {tpos : Pos} {a : Expr} {x : Dv.E} {p pos : Pos} (hg : C.sc.names.lookup ("enumerate" : Str) = some .globalImplicit) (hm : C.mg "enumerate" = none) (h : DE C a (evE C.g x)) (hs : noStar a = true) :
    DI C (.Tuple elts kk tpos) (.Call (.Name "enumerate" p) [a] [] pos) (evI C.g (.enu x)) := by
  obtain ⟨t, pt, r⟩ := h
  refine ⟨iEn C.T.K (tCons t tNil), fun X ok => by
    have := pi_en (X := X) (p := p) (pos := pos) (tpos := tpos) (elts := elts) (kk := kk) (show X.env.scope.names.lookup ("enumerate" : Str) = _ by rw [ok.sc]; exact hg) (by rw [ok.mg]; exact hm) (pa_cons (pt X ok) pa_nil (star1 hs [] _)) hs
    rw [ok.K] at this
    exact this, fun σ w ρ m Q o W E e pp => ?_⟩
  simp only [evI] at e
  refine r.toI W E e pp fun d m1 w1 v1 e1 x1 W1 r1 E1 p1 => ?_
  split at e1
  · rename_i xs hx
    cases e1
    obtain ⟨b, q, vs, rfl, hsq, rr⟩ := sqX_of W1 r1 hx
    exact ⟨b, q, vs, rfl, Le.sqX W1.sub hsq, p1 w1 _ (Ext.refl _) W1 (src_en hsq rr)⟩
  · cases e1
end
end Dv

namespace Dv
open PySem PySem.Spec PyProof PyProof.Rows
open L2 hiding Takes XE CX MkP PMk ps_raise ps_try_as ps_try_many HdsOk takes_of passAt passes_call mk_of pmk_own
open L2N (Takes XE CX MkP PMk ps_raise ps_try_as ps_try_many HdsOk takes_of passAt passes_call mk_of pmk_own Zn Zn.steady)

/-! ### (a, b, ..) = a list -/
section
variable {prog : Program} {w : World} {A : Around} {E : Value → Shared → Prop} {s : Shared}
theorem draw_lst {it t : Addr} {items : Array Value} (hne : t ≠ it) : ∀ (n i : Nat) (s : Shared) (Q : List Value → Shared → Prop), s.heap.IsListIter it t i → s.heap.IsList t items → i + n ≤ items.size →
    (∀ h', h'.IsListIter it t (i + n) → Heap.SameBut it s.heap h' → Q ((items.toList.drop i).take n) { s with heap := h' }) → wpAny (model prog w) A (draw (.ref it) n) Q E s
  | 0, i, s, Q, hit, _, _, hQ => by
    show wpAny _ _ (pure []) Q E s
    exact wpAny_pure (by simpa using hQ s.heap hit (Heap.SameBut.refl ..))
  | n + 1, i, s, Q, hit, ht, hle, hQ => by
    have hlt : i < items.size := by omega
    show wpAny _ _ (pyNext (.ref it) >>= _) Q E s
    refine wpAny_bind (wpAny_pyNext_list_item hit ht (x := items[i]) (by simp [hlt]) fun h₁ hit₁ hs₁ => ?_)
    refine wpAny_bind (wpAny_holding (draw_lst hne n (i + 1) _ _ hit₁ (ht.extBut hs₁.extBut hne) (by omega) fun h₂ hit₂ hs₂ => wpAny_pure ?_))
    have hd : items.toList.drop i = items[i] :: items.toList.drop (i + 1) := by simp [List.drop_eq_getElem_cons, hlt]
    have := hQ h₂ (by rw [show i + (n + 1) = i + 1 + n by omega]; exact hit₂) (hs₁.trans hs₂)
    rw [hd, List.take_succ_cons] at this
    exact this
theorem unpack_lst {t : Addr} {items : Array Value} {targets : List (Bool × (Value → Sem Unit))} {Q : Unit → Shared → Prop} (hh : A.handled = none) (ht : s.heap.IsList t items)
    (hn : targets.length = items.size) (hstar : targets.findIdx? (·.1) = none)
    (h : ∀ h', Heap.ExtBut s.heap.objs.size s.heap h' → wpAny (model prog w) A (assignInOrder (targets.map (·.2)) items.toList) Q E { s with heap := h' }) :
    wpAny (model prog w) A (unpack (.ref t) targets) Q E s := by
  have hlt : t ≠ s.heap.objs.size := by obtain ⟨o, ho, _⟩ := ht; exact Nat.ne_of_lt (Heap.lt_size ho)
  unfold unpack
  rw [hn, hstar]
  refine wpAny_bind (wpAny_holding ?_)
  unfold unpackItems
  refine wpAny_bind ?_
  unfold notIterableAtAll
  refine wpAny_bind (wpAny_specialOf ht.typeIs slot_list_iter.lookup ?_)
  refine wpAny_pure ?_
  simp only [Bool.false_eq_true, if_false]
  refine wpAny_bind (wpAny_holding (wpAny_pyIter_list ht ?_))
  refine wpAny_bind (wpAny_holding (draw_lst hlt items.size 0 _ _ ⟨_, Heap.get?_push_size _ rfl, rfl, rfl⟩ (ht.push _) (by omega) fun h₁ hit₁ hs₁ => ?_))
  have hall : List.take items.size (List.drop 0 items.toList) = items.toList := by
    rw [List.drop_zero]; exact List.take_of_length_le (by simp)
  rw [hall]
  rw [if_neg (by simp)]
  have ht₁ : h₁.IsList t items := (ht.push _).extBut hs₁.extBut hlt
  refine wpAny_bind (wpAny_holding (wpAny_pyNext_list_end hh hit₁ ht₁ (by simp) fun h₂ he₂ => ?_))
  simp only [Option.isSome_none, Bool.false_eq_true, if_false]
  exact wpAny_pure (h _ fun b o hb e => he₂ b o hb (hs₁.extBut b o hb (Heap.get?_push_of_some _ e)))
end
/-- (a, b, ..) = a tuple or a list of that length -/
noncomputable def gSeq (K : PySem.W.Frag) (n : Nat) (t : TGs) : TG := fun v σ H Q => ∃ a xs, v = .ref a ∧ (SqT K H a xs ∨ SqL K H a xs) ∧ xs.length = n ∧ t xs σ H Q
theorem pg_seq {X : Cx} {pos : Pos} {es : List Expr} {k : Nat} {t : TGs} {n : Nat} (hc : X.calm = true) (h : PGs X es t)
    (hn : (assignEach es X.env).length = n) (hst : (assignEach es X.env).findIdx? (·.1) = none) : PG X (.Tuple es k pos) (gSeq X.K n t) := by
  refine ⟨fun pins s σ H v u Q I r hw => ?_⟩
  obtain ⟨a, xs, e1, hq | hq, hl, hw⟩ := hw
  · exact (pg_tup (pos := pos) (k := k) hc h hn hst).run pins s σ H v u Q I r ⟨a, xs, e1, hq, hl, hw⟩
  · subst e1
    cases r
    obtain ⟨its, rv, ht, hz⟩ := I.list hq
    rw [assign_Tuple]
    refine wpAny_bind (wpAny_standAt (unpack_lst (I.ok.hd hc) ht.isList (by simp [hn, ← hl, rv.length]) hst fun h' hx => ?_))
    have I1 : Inv X pins σ H { s with heap := h' } := I.kept (t' := s.toks) fun b o e => hx b o (Nat.ne_of_lt (Heap.lt_size e)) e
    exact h.run pins _ σ H xs _ Q I1 (by simpa using rv) hw
end Dv

namespace Dv
open PySem PySem.Spec PyProof.Rows
open L2 hiding Takes XE CX MkP PMk ps_raise ps_try_as ps_try_many HdsOk takes_of passAt passes_call mk_of pmk_own
open L2N (Takes XE CX MkP PMk ps_raise ps_try_as ps_try_many HdsOk takes_of passAt passes_call mk_of pmk_own Zn Zn.steady)

/-! ### targets -/
mutual
noncomputable def G.ix : G → List Nat
  | .nm i => [i]
  | .tp gs => gs.ix
noncomputable def Gs.ix : Gs → List Nat
  | .nil => []
  | .cons g r => g.ix ++ r.ix
end
noncomputable def Gs.len : Gs → Nat
  | .nil => 0
  | .cons _ r => r.len + 1
theorem wipe_set {σ : L2.St} {i : Nat} {x : Option V} : ∀ {vs : List Nat}, i ∈ vs → wipe (σ.set i x) vs = wipe σ vs
  | [], h => by cases h
  | v :: vs, h => by
    show (wipe (σ.set i x) vs).set v none = (wipe σ vs).set v none
    by_cases hi : i ∈ vs
    · rw [wipe_set hi]
    · have e : i = v := by
        rcases List.mem_cons.mp h with h | h
        · exact h
        · exact absurd h hi
      subst e
      have c : ∀ (us : List Nat) (τ : L2.St), i ∉ us → wipe (τ.set i x) us = (wipe τ us).set i x := fun us => by
        induction us with
        | nil => intro τ _; rfl
        | cons u us ih =>
          intro τ hu
          rw [List.mem_cons, not_or] at hu
          show (wipe (τ.set i x) us).set u none = ((wipe τ us).set u none).set i x
          rw [ih τ hu.2, List.set_comm _ _ hu.1]
      rw [c vs σ hi, List.set_set]
theorem wipe_idem {σ : L2.St} : ∀ {vs : List Nat}, wipe (wipe σ vs) vs = wipe σ vs := by
  intro vs
  have key : ∀ us : List Nat, (∀ u ∈ us, u ∈ vs) → wipe (wipe σ us) vs = wipe σ vs := fun us => by
    induction us with
    | nil => intro _; rfl
    | cons u us ih =>
      intro h
      show wipe ((wipe σ us).set u none) vs = _
      rw [wipe_set (h u List.mem_cons_self)]
      exact ih fun x hx => h x (List.mem_cons_of_mem _ hx)
  exact key vs fun _ h => h
noncomputable def DG (C : Cs) (tg : Expr) (g : G) : Prop := ∃ t, (∀ X, C.Ok X → PG X tg t) ∧
  ∀ (σ : L2.St) (w : Wd) (ρ ρ' : Ro) (m : List R) (v : V) (d : D) (Q : L2.St → Hp → Prop), Wf C.T w m → ER C.T w σ ρ → Rep C.T w.Hs w.al v d → setG g d ρ = some ρ' → (∀ σ', ER C.T w σ' ρ' → (∀ vs : List Nat, (∀ i ∈ g.ix, i ∈ vs) → wipe σ' vs = wipe σ vs) → Q σ' w.H) → t v σ w.H Q
noncomputable def DGs (C : Cs) (es : List Expr) (g : Gs) : Prop := ∃ t, (∀ X, C.Ok X → PGs X es t) ∧
  ∀ (σ : L2.St) (w : Wd) (ρ ρ' : Ro) (m : List R) (vs : List V) (ds : List D) (Q : L2.St → Hp → Prop), Wf C.T w m → ER C.T w σ ρ → RepL C.T w.Hs w.al vs ds → setGs g ds ρ = some ρ' → (∀ σ', ER C.T w σ' ρ' → (∀ us : List Nat, (∀ i ∈ g.ix, i ∈ us) → wipe σ' us = wipe σ us) → Q σ' w.H) → t vs σ w.H Q
section
variable {C : Cs}
theorem dg_name {i : Nat} {x : Str} {pos : Pos} (hN : C.N[i]? = some x) (hx : Loc C.sc x) (hf : C.fn x = true ∨ C.sc.names.lookup x = some .local) : DG C (.Name x pos) (.nm i) := by
  refine ⟨gName i, fun X ok => pg_name (by rw [ok.N]; exact ok.nd) (by rw [ok.N]; exact hN) (by rw [ok.sc]; exact hx) (by rw [ok.fn, ok.sc]; exact hf), fun σ w ρ ρ' m v d Q W E r e q => ?_⟩
  simp only [setG] at e
  cases e
  exact q _ (E.set i r) fun vs h => wipe_set (h i (by simp [G.ix]))
theorem dgs_nil : DGs C [] .nil := by
  refine ⟨gNil, fun X ok => pgs_nil, fun σ w ρ ρ' m vs ds Q W E r e q => ?_⟩
  cases r with
  | nil =>
    simp only [setGs] at e
    cases e
    exact ⟨rfl, q _ E fun _ _ => rfl⟩
  | cons a b => simp only [setGs] at e; cases e
theorem dgs_cons {e : Expr} {es : List Expr} {g : G} {gs : Gs} (h1 : DG C e g) (h2 : DGs C es gs) (hs : ∀ env, (assignEach (e :: es) env).map (·.2) = assign e env :: (assignEach es env).map (·.2)) : DGs C (e :: es) (.cons g gs) := by
  obtain ⟨t, p, r⟩ := h1
  obtain ⟨u, q, s⟩ := h2
  refine ⟨gCons t u, fun X ok => pgs_cons (p X ok) (q X ok) (hs _), fun σ w ρ ρ' m vs ds Q W E rr e0 k => ?_⟩
  cases rr with
  | nil => simp only [setGs] at e0; cases e0
  | cons a b =>
    simp only [setGs] at e0
    split at e0
    · rename_i ρ1 e1
      refine ⟨_, _, rfl, r σ w ρ ρ1 m _ _ _ W E a e1 fun σ1 E1 w1 => ?_⟩
      refine s σ1 w ρ1 ρ' m _ _ _ W E1 b e0 fun σ2 E2 w2 => k σ2 E2 fun us hu => ?_
      rw [w2 us fun i hi => hu i (by simp [Gs.ix, hi]), w1 us fun i hi => hu i (by simp [Gs.ix, hi])]
    · cases e0
theorem setGs_len : ∀ {g : Gs} {ds : List D} {ρ ρ' : Ro}, setGs g ds ρ = some ρ' → ds.length = g.len
  | .nil, [], _, _, _ => rfl
  | .nil, _ :: _, _, _, e => by simp only [setGs] at e; cases e
  | .cons _ _, [], _, _, e => by simp only [setGs] at e; cases e
  | .cons g r, d :: ds, ρ, ρ', e => by
    simp only [setGs] at e
    split at e
    · rw [List.length_cons, setGs_len e]; rfl
    · cases e
theorem dg_tup [Cold C] {es : List Expr} {gs : Gs} {k : Nat} {pos : Pos} (h : DGs C es gs) (hn : ∀ env, (assignEach es env).length = gs.len) (hst : ∀ env, (assignEach es env).findIdx? (·.1) = none) : DG C (.Tuple es k pos) (.tp gs) := by
  obtain ⟨t, p, r⟩ := h
  refine ⟨gSeq C.T.K gs.len t, fun X ok => by
    have := pg_seq (X := X) (pos := pos) (k := k) (ok.calm Cold.out) (p X ok) (hn _) (hst _)
    rw [ok.K] at this
    exact this, fun σ w ρ ρ' m v d Q W E rr e k => ?_⟩
  cases rr with
  | tup s rl =>
    simp only [setG] at e
    exact ⟨_, _, rfl, .inl (Le.sqT W.sub (SqN.sqT s)), by rw [rl.length]; exact setGs_len e, r σ w ρ ρ' m _ _ Q W E rl e k⟩
  | lst s rl =>
    simp only [setG] at e
    exact ⟨_, _, rfl, .inr (SqL.of (W.sub _ _ s)), by rw [rl.length]; exact setGs_len e, r σ w ρ ρ' m _ _ Q W E rl e k⟩
  | _ => simp only [setG] at e; cases e

/-! ### list(range(..)), tuple(range(..)) -/
end
end Dv

namespace Dv
open PySem PySem.Spec PyProof.Rows
open L2 hiding Takes XE CX MkP PMk ps_raise ps_try_as ps_try_many HdsOk takes_of passAt passes_call mk_of pmk_own
open L2N (Takes XE CX MkP PMk ps_raise ps_try_as ps_try_many HdsOk takes_of passAt passes_call mk_of pmk_own Zn Zn.steady)

/-! ### comprehensions -/
noncomputable def Cs.blk (C : Cs) (scope : Scope) : Cs := { C with sc := relS scope C.sc, W := fun _ _ _ _ => False, fn := fun x => scope.names.lookup x == some .cell, cells := [], hold := fun _ => True, trb := false, any := false }
theorem takesF {X : Cx} : Takes X (fun _ _ _ _ => False) := fun _ _ x => by
  obtain ⟨_, _, _, _, _, _, _, _, _, _, _, _, _, _, _, _, z⟩ := x
  exact z.elim
noncomputable instance blkCold {C : Cs} [c : Cold C] {scope : Scope} : Cold (C.blk scope) := ⟨c.h⟩
theorem Cs.Ok.blk {C : Cs} [Cold C] {X : Cx} (ok : C.Ok X) {scope : Scope} {s : Shared} {H : Hp} {c : Addr} {cl : List (Str × Addr)} {fp : List Addr} : (C.blk scope).Ok (X.blk s H scope (compEnvC scope cl c X.env) fp) where
  prog := ok.prog
  w := ok.w
  K := ok.K
  mg := ok.mg
  base := ok.base
  N := ok.N
  sc := by
    show relabel scope X.env = relS scope C.sc
    rw [← ok.sc]
    rfl
  nd := ok.nd
  calm := ok.calm
  room := ok.room
  un := ok.un
  exq := fun h => noEx (C := C.blk scope) h
  frm := fun h => nomatch h
  tka := fun h => nomatch h
  tk := takesF
  fn := rfl
  hld := True.intro
  cel := fun _ h => nomatch h
/-- the tests of a comprehension -/
noncomputable def DTs (C : Cs) (es : List Expr) (f : Ro → List R → Option Rs) : Prop := ∃ t, (∀ X, C.Ok X → PTs X es t) ∧ RunsT C t f
section
variable {C : Cs}
theorem dts_nil : DTs C [] (evE C.g (.cst (.bl true))) := ⟨tYes, fun X ok => pts_nil, fun σ w ρ m Q o W E e p => by
  simp only [evE] at e
  cases e
  obtain ⟨b, hb, q⟩ := p
  cases hb
  exact q w (Ext.refl _) W⟩
theorem dts_one {e : Expr} {f : Ro → List R → Option Rs} (h : DT C e f) : DTs C [e] f := let ⟨t, p, r⟩ := h; ⟨t, fun X ok => pts_one (p X ok), r⟩

/-- a list that is being made, not yet told -/
structure Mak (T : Tb) (w1 w : Wd) (m : List R) (a : Addr) (xs : List D) : Prop where
  ext : Ext w1 w
  wf : Wf T w m
  nal : a ∉ w.al
  nhs : w.Hs a = none
  at_ : ∃ vs, w.H a = some (.lst vs) ∧ RepL T w.Hs w.al vs xs
theorem Mak.start {w1 : Wd} {m : List R} (W : Wf C.T w1 m) {a : Addr} (h : w1.H a = none) : Mak C.T w1 ⟨upd w1.H a (.lst []), w1.Hs, w1.al⟩ m a [] := by
  have hs := W.newS h
  have hn := W.new h
  refine ⟨⟨Le.refl _, ⟨[], by simp, by simp⟩, fun x hx => .inl hx, fun x o hx _ _ => le_upd h x o hx, tbl_le (le_upd h)⟩, ⟨fun x u e => le_upd h x u (W.sub _ _ e), W.len, W.nd, W.off, fun k x r hk hr => ?_, fun p hp => (W.tab p hp).on (fun ps e => le_upd h _ _ e) (Le.refl _), W.bse⟩, hn, hs, ⟨[], upd_same, .nil⟩⟩
  exact RO.mono (w' := ⟨upd w1.H a (.lst []), w1.Hs, w1.al⟩) (W.ok k x r hk hr) (Le.refl _) (LeA.refl _) fun o e => le_upd h x o e
theorem Mak.on {w1 w w' : Wd} {m m' : List R} {a : Addr} {xs : List D} (M : Mak C.T w1 w m a xs) (e : Ext w w') (W : Wf C.T w' m') : Mak C.T w1 w' m' a xs := by
  obtain ⟨vs, hv, r⟩ := M.at_
  have na : a ∉ w'.al := by
    obtain ⟨l, hl, fl⟩ := e.al
    rw [hl]
    intro hm
    rcases List.mem_append.mp hm with z | z
    · exact M.nal z
    · rw [fl a z] at hv; cases hv
  refine ⟨M.ext.trans e M.wf, W, na, ?_, ⟨vs, e.keep a _ hv M.nal (fun ps z => by cases z), r.on e⟩⟩
  cases q : w'.Hs a with
  | none => rfl
  | some o =>
    rcases e.fr a (by rw [q]; simp) with z | z
    · exact absurd M.nhs z
    · rw [z] at hv; cases hv
theorem Mak.step {w1 w : Wd} {m : List R} {a : Addr} {xs : List D} {d : D} {v : V} {vs : List V} (M : Mak C.T w1 w m a xs) (h1 : w1.H a = none) (hv : w.H a = some (.lst vs)) (rl : RepL C.T w.Hs w.al vs xs) (r : Rep C.T w.Hs w.al v d) :
    Mak C.T w1 ⟨upd w.H a (.lst (vs ++ [v])), w.Hs, w.al⟩ m a (xs ++ [d]) := by
  have W := M.wf
  have ht : ∀ x ps, w.H x = some (.tbl ps) → upd w.H a (.lst (vs ++ [v])) x = some (.tbl ps) := fun x ps e => by
    rw [upd_ne (fun z => by rw [z, hv] at e; cases e)]; exact e
  refine ⟨⟨M.ext.hs, M.ext.al, M.ext.fr, fun x o hx hn hnt => ?_, fun x ps hx => ?tb⟩, ⟨fun x u e => ?_, W.len, W.nd, W.off, fun k x q hk hq => ?_, fun p hp => (W.tab p hp).on (fun ps e => ht _ ps e) (Le.refl _), W.bse⟩, M.nal, M.nhs, ⟨vs ++ [v], upd_same, rl.append (.one r)⟩⟩
  case tb =>
    obtain ⟨more, e⟩ := M.ext.tbl x ps hx
    exact ⟨more, ht x _ e⟩
  · have : x ≠ a := fun z => by rw [z, h1] at hx; cases hx
    show upd w.H a _ x = _
    rw [upd_ne this]
    exact M.ext.keep x o hx hn hnt
  · have e : w.Hs x = some u := e
    have : x ≠ a := fun z => by rw [z, M.nhs] at e; cases e
    show upd w.H a _ x = _
    rw [upd_ne this]
    exact W.sub _ _ e
  · have hk : w.al[k]? = some x := hk
    have : x ≠ a := fun z => M.nal (by rw [← z]; exact List.mem_of_getElem? hk)
    exact RO.mono (w' := ⟨upd w.H a (.lst (vs ++ [v])), w.Hs, w.al⟩) (W.ok k x q hk hq) (Le.refl _) (LeA.refl _) fun o e => by
      show upd w.H a _ x = _
      rw [upd_ne this]; exact e
theorem Mak.done {w1 w : Wd} {m : List R} {a : Addr} {xs : List D} {mu : Bool} {Q : VK} (M : Mak C.T w1 w m a xs) (h1 : w1.H a = none)
    (q : ∀ w' v, Ext w1 w' → Wf C.T w' (newL mu m xs).2 → Rep C.T w'.Hs w'.al v (newL mu m xs).1 → Q v w'.H) : Q (.ref a) w.H := by
  have W := M.wf
  obtain ⟨vs, hv, rl⟩ := M.at_
  cases mu
  · have lh : Le w.Hs (upd w.Hs a (.lst vs)) := le_upd M.nhs
    refine q ⟨w.H, upd w.Hs a (.lst vs), w.al⟩ _ ⟨M.ext.hs.trans lh, M.ext.al, fun x hx => ?_, M.ext.keep, M.ext.tbl⟩ ⟨fun x u e => ?_, W.len, W.nd, fun x hx => ?_, fun k x r hk hr => RO.mono (w' := ⟨w.H, upd w.Hs a (.lst vs), w.al⟩) (W.ok k x r hk hr) lh (LeA.refl _) fun o e => e, fun p hp => (W.tab p hp).on (fun ps e => e) lh (fun ps e e2 => by show upd w.Hs a _ p.1 = none; rw [upd_ne (fun z => by rw [z, hv] at e; cases e)]; exact e2), W.bse.1.trans lh, W.bse.2⟩ (.lst (vs := vs) upd_same (rl.mono lh (LeA.refl _)))
    · by_cases z : x = a
      · rw [z]; exact .inr h1
      · have hx : upd w.Hs a (.lst vs) x ≠ none := hx
        rw [upd_ne z] at hx
        exact M.ext.fr x hx
    · have e : upd w.Hs a (.lst vs) x = some u := e
      by_cases z : x = a
      · subst z
        rw [upd_same] at e
        cases e
        exact hv
      · rw [upd_ne z] at e
        exact W.sub _ _ e
    · show upd w.Hs a _ x = none
      rw [upd_ne (fun z => M.nal (by rw [← z]; exact hx))]
      exact W.off x hx
  · obtain ⟨l, hl, fl⟩ := M.ext.al
    refine q ⟨w.H, w.Hs, w.al ++ [a]⟩ _ ⟨M.ext.hs, ⟨l ++ [a], by show w.al ++ [a] = _; rw [hl, List.append_assoc], fun x hx => ?_⟩, M.ext.fr, M.ext.keep, M.ext.tbl⟩ ⟨W.sub, by show (w.al ++ [a]).length = (m ++ [R.lst xs]).length; simp [W.len], ?_, fun x hx => ?_, fun k x r hk hr => ?_, fun p hp => (W.tab p hp).on (fun ps e => e) (Le.refl _), W.bse.1, W.bse.2.trans (LeA.app _ _)⟩ ?_
    · rcases List.mem_append.mp hx with z | z
      · exact fl x z
      · have : x = a := by simpa using z
        rw [this]; exact h1
    · show (w.al ++ [a]).Nodup
      exact List.nodup_append.mpr ⟨W.nd, by simp, fun x hx y hy e => by
        have hy : y = a := by simpa using hy
        subst hy; subst e; exact M.nal hx⟩
    · have hx : x ∈ w.al ++ [a] := hx
      rcases List.mem_append.mp hx with z | z
      · exact W.off x z
      · have : x = a := by simpa using z
        rw [this]; exact M.nhs
    · have hk : (w.al ++ [a])[k]? = some x := hk
      have hr : (m ++ [R.lst xs])[k]? = some r := hr
      by_cases z : k < w.al.length
      · rw [List.getElem?_append_left z] at hk
        rw [List.getElem?_append_left (by rw [← W.len]; exact z)] at hr
        exact RO.mono (w' := ⟨w.H, w.Hs, w.al ++ [a]⟩) (W.ok k x r hk hr) (Le.refl _) (LeA.app _ _) fun o e => e
      · rw [List.getElem?_append_right (by omega)] at hk
        rw [List.getElem?_append_right (by rw [← W.len]; omega)] at hr
        rw [W.len] at hk
        generalize k - m.length = j at hk hr
        cases j with
        | zero =>
          have e1 : a = x := Option.some.inj hk
          have e2 : R.lst xs = r := Option.some.inj hr
          subst e1; subst e2
          exact ⟨vs, hv, rl.mono (Le.refl _) (LeA.app _ _)⟩
        | succ j => simp at hk
    · refine .res (k := m.length) ?_
      show (w.al ++ [a])[m.length]? = some a
      rw [← W.len]
      simp

/-- the item of the next turn -/
noncomputable def Item (s : Src) (m : List R) (i : Nat) (x : Option D) : Prop := match s with
  | .fix xs => i ≤ xs.length ∧ xs[i]? = x
  | .live k _ => ∃ ys, m[k]? = some (.lst ys) ∧ ys[i]? = x
  | .dic k r xs => m[k]? = some r ∧ i ≤ xs.length ∧ xs[i]? = x
theorem SrcOk.none {J : L2.It} {w1 w : Wd} {s : Src} {m : List R} {i : Nat} (S : SrcOk C.T J w1 s) (x : Ext w1 w) (W : Wf C.T w m) (h : Item s m i none) : J.stop i w.H := by
  cases s with
  | fix xs =>
    have := List.getElem?_eq_none_iff.mp h.2
    exact (S i w m x W).1 (Nat.le_antisymm h.1 this)
  | live k n =>
    obtain ⟨ys, h1, h2⟩ := h
    exact (S i w m ys x W h1).1 h2
  | dic k r xs => exact (S i w m x W h.1).1 (Nat.le_antisymm h.2.1 (List.getElem?_eq_none_iff.mp h.2.2))
theorem SrcOk.some {J : L2.It} {w1 w : Wd} {s : Src} {m : List R} {i : Nat} {d : D} (S : SrcOk C.T J w1 s) (x : Ext w1 w) (W : Wf C.T w m) (h : Item s m i (some d)) : Turns C.T J w m i d := by
  cases s with
  | fix xs => exact (S i w m x W).2 d h.2
  | live k n =>
    obtain ⟨ys, h1, h2⟩ := h
    exact (S i w m ys x W h1).2 d h2
  | dic k r xs => exact (S i w m x W h.1).2 d h.2.2
/-- what is left of a comprehension: i turns gone, n at most to come -/
noncomputable def CompGo (f : D → List R → Option (Option D × List R)) (s : Src) (i n : Nat) (acc : List D) (m : List R) (o : List D × List R) : Prop := match s with
  | .fix xs => i ≤ xs.length ∧ n = xs.length - i ∧ compL f (xs.drop i) acc m = some o
  | .live k _ => compV f k n i acc m = some o
  | .dic _ _ _ => False
theorem CompGo.start {f : D → List R → Option (Option D × List R)} {s : Src} {m : List R} {o : List D × List R} (h : compD f s m = some o) : ∃ n, CompGo f s 0 n [] m o := by
  cases s with
  | fix xs => exact ⟨xs.length, Nat.zero_le _, rfl, h⟩
  | live k n => exact ⟨n, h⟩
  | dic k r xs => cases h
theorem CompGo.next {f : D → List R → Option (Option D × List R)} {s : Src} {i n : Nat} {acc : List D} {m : List R} {o : List D × List R} (h : CompGo f s i n acc m o) :
    (Item s m i none ∧ o = (acc, m)) ∨ ∃ d n', Item s m i (some d) ∧ n = n' + 1 ∧ ((∃ y m', f d m = some (some y, m') ∧ acc.length < sizeLine ∧ CompGo f s (i + 1) n' (acc ++ [y]) m' o) ∨ ∃ m', f d m = some (none, m') ∧ CompGo f s (i + 1) n' acc m' o) := by
  cases s with
  | dic k r xs => exact h.elim
  | fix xs =>
    obtain ⟨hi, hn, h⟩ := h
    cases e : xs[i]? with
    | none =>
      have hl := List.getElem?_eq_none_iff.mp e
      rw [List.drop_eq_nil_of_le hl] at h
      simp only [compL] at h
      cases h
      exact .inl ⟨⟨hi, e⟩, rfl⟩
    | some d =>
      obtain ⟨hl, e'⟩ := List.getElem?_eq_some_iff.mp e
      rw [List.drop_eq_getElem_cons hl, e'] at h
      simp only [compL] at h
      refine .inr ⟨d, xs.length - (i + 1), ⟨hi, e⟩, by omega, ?_⟩
      split at h
      · rename_i y m' e1
        split at h
        · exact .inl ⟨y, m', e1, by assumption, hl, rfl, h⟩
        · cases h
      · rename_i m' e1
        exact .inr ⟨m', e1, hl, rfl, h⟩
      · cases h
  | live k n0 =>
    have h : compV f k n i acc m = some o := h
    unfold compV at h
    split at h
    · rename_i ys hm
      split at h
      · rename_i e
        cases h
        exact .inl ⟨⟨ys, hm, e⟩, rfl⟩
      · rename_i d e
        cases n with
        | zero => cases h
        | succ n' =>
          simp only at h
          refine .inr ⟨d, n', ⟨ys, hm, e⟩, rfl, ?_⟩
          split at h
          · rename_i y m' e1
            split at h
            · exact .inl ⟨y, m', e1, by assumption, h⟩
            · cases h
          · rename_i m' e1
            exact .inr ⟨m', e1, h⟩
          · cases h
    · cases h
theorem de_lc [Cold C] {elt tg iter : Expr} {ifs : List Expr} {scope : Scope} {own : List (Str × Nat)} {pos : Pos} {mu : Bool} {xe xc : Dv.E} {gt : G} {it : It} (hb : blkC C.N C.sc scope own = true) (hi : DI C tg iter (evI C.g it)) (hg : DG (C.blk scope) tg gt) (ht : DTs (C.blk scope) ifs (evE C.g xc)) (he : DE (C.blk scope) elt (evE C.g xe))
    (hix : ∀ i ∈ gt.ix, i ∈ own.map (·.2)) :
    ∃ t, (∀ X, C.Ok X → X.N.Nodup ∧ BlkOk X.N X.env.scope scope own ∧ ∃ wi g tt te, t = tLc wi g tt te (own.map (·.2)) ∧ PI X tg iter wi ∧ (∀ (s : Shared) (H : Hp) (c : Addr) (cl : List (Str × Addr)) (fp : List Addr), PG (X.blk s H scope (compEnvC scope cl c X.env) fp) tg g) ∧
        (∀ (s : Shared) (H : Hp) (c : Addr) (cl : List (Str × Addr)) (fp : List Addr), PTs (X.blk s H scope (compEnvC scope cl c X.env) fp) ifs tt) ∧ ∀ (s : Shared) (H : Hp) (c : Addr) (cl : List (Str × Addr)) (fp : List Addr), PE (X.blk s H scope (compEnvC scope cl c X.env) fp) elt te) ∧
      Runs C t (evE C.g (.cmpr mu xe gt it xc (own.map (·.2)))) := by
  obtain ⟨wi, pi, ri⟩ := hi
  obtain ⟨g, pg, rg⟩ := hg
  obtain ⟨tt, pt, rt⟩ := ht
  obtain ⟨te, pe, re⟩ := he
  refine ⟨tLc wi g tt te (own.map (·.2)), fun X ok => ⟨by rw [ok.N]; exact ok.nd, by rw [ok.N, ok.sc]; exact blkOk_by hb, wi, g, tt, te, rfl, pi X ok, fun s H c cl fp => pg _ ok.blk, fun s H c cl fp => pt _ ok.blk, fun s H c cl fp => pe _ ok.blk⟩, fun σ w ρ m Q oo W E e p => ?_⟩
  simp only [evE] at e
  rcases bndI_some e with ⟨s, m1, e1, e2⟩ | ⟨x, m1, e1, rfl⟩
  · refine ri σ w ρ m _ _ W E e1 fun w1 J x1 W1 S a ha => ?_
    have E1 := E.on x1
    have p1 := p.on x1 W1
    generalize hf : compT gt (own.map (·.2)) (evE C.g xc) (evE C.g xe) ρ = f at e2
    split at e2
    · rename_i ys m2 e3
      obtain ⟨q, eq, rfl⟩ := okP_some e2
      cases eq
      obtain ⟨n0, g0⟩ := CompGo.start e3
      refine ⟨fun i n H => ∃ w2 mm acc, w2.H = H ∧ Mak C.T w1 w2 mm a acc ∧ CompGo f s i n acc mm (ys, m2), ⟨n0, _, m1, [], rfl, Mak.start W1 ha, g0⟩, ?_⟩
      rintro i n H ⟨w2, mm, acc, rfl, M, go⟩
      rcases go.next with ⟨it0, eo⟩ | ⟨d, n', itm, rfl, step⟩
      · cases eo
        exact .inl ⟨S.none M.ext M.wf it0, M.done ha fun w' v x' W' r' => p1 w' v x' W' r'⟩
      · obtain ⟨jgo, jy⟩ := S.some M.ext M.wf itm
        refine .inr ⟨jgo, fun H' => ∃ w2 mm acc, w2.H = H' ∧ Mak C.T w1 w2 mm a acc ∧ CompGo f s (i + 1) n' acc mm (ys, m2), fun H' h => ⟨n', Nat.lt_succ_self _, h⟩, fun v H' hy => ?_⟩
        obtain ⟨w3, rfl, x3, W3, r3⟩ := jy v H' hy
        have M3 := M.on x3 W3
        have E3 : ER C.T w3 (wipe σ (own.map (·.2))) (wipeD ρ (own.map (·.2))) := (E1.on M3.ext).wipe _
        rw [← hf] at step
        simp only [compT] at step
        cases e4 : setG gt d (wipeD ρ (own.map (·.2))) with
        | none => simp [e4] at step
        | some ρ' =>
          simp only [e4] at step
          refine rg _ w3 _ ρ' mm v d _ W3 E3 r3 e4 fun σ2 E4 hw => ⟨?_, ?_⟩
          · rw [hw _ hix]; exact wipe_idem
          cases e5 : evE C.g xc ρ' mm with
          | none => simp [e5] at step
          | some o5 =>
            cases o5 with
            | ex x5 m5 => simp [e5] at step
            | ok d5 m5 =>
              cases d5 with
              | bl b5 =>
                refine rt σ2 w3 ρ' mm _ _ W3 E4 e5 ⟨b5, rfl, fun w5 x5 W5 => ?_⟩
                have M5 := M3.on x5 W5
                cases b5 with
                | false =>
                  simp only [e5] at step
                  show if false = true then _ else _
                  rw [if_neg Bool.false_ne_true]
                  rcases step with ⟨y, m', z, _⟩ | ⟨m', z, k⟩
                  · cases z
                  · cases z
                    exact ⟨w5, _, acc, rfl, M5, by rw [← hf]; exact k⟩
                | true =>
                  simp only [e5] at step
                  show if true = true then _ else _
                  rw [if_pos rfl]
                  cases e6 : evE C.g xe ρ' m5 with
                  | none => simp [e6] at step
                  | some o6 =>
                    cases o6 with
                    | ex x6 m6 => simp [e6] at step
                    | ok d6 m6 =>
                      simp only [e6] at step
                      refine re σ2 w5 ρ' m5 _ _ W5 (E4.on x5) e6 fun w6 v6 x6 W6 r6 => ?_
                      have M6 := M5.on x6 W6
                      obtain ⟨vs, hv, rl⟩ := M6.at_
                      rcases step with ⟨y, m', z, hl, k⟩ | ⟨m', z, _⟩
                      · cases z
                        exact ⟨vs, hv, by rw [rl.length]; exact hl, _, _, _, rfl, M6.step ha hv rl r6, by rw [← hf]; exact k⟩
                      · cases z
              | _ => simp [e5] at step
    · cases e2
  · exact ri σ w ρ m _ _ W E e1 p
/-- .. as a value -/
theorem de_lcE [Cold C] {elt tg iter : Expr} {ifs : List Expr} {scope : Scope} {own : List (Str × Nat)} {pos : Pos} {mu : Bool} {xe xc : Dv.E} {gt : G} {it : It} (hb : blkC C.N C.sc scope own = true) (hi : DI C tg iter (evI C.g it)) (hg : DG (C.blk scope) tg gt) (ht : DTs (C.blk scope) ifs (evE C.g xc)) (he : DE (C.blk scope) elt (evE C.g xe))
    (hix : ∀ i ∈ gt.ix, i ∈ own.map (·.2)) (hs : ∀ env x, foldedSetIterable iter env x = pure x) : DE C (.ListComp elt [⟨tg, iter, ifs, 0⟩] scope pos) (evE C.g (.cmpr mu xe gt it xc (own.map (·.2)))) := by
  obtain ⟨t, p, r⟩ := de_lc (pos := pos) (mu := mu) hb hi hg ht he hix
  refine ⟨t, fun X ok => ?_, r⟩
  obtain ⟨nd, bo, wi, g, tt, te, rfl, h1, h2, h3, h4⟩ := p X ok
  exact pe_lc (ok.calm Cold.out) nd h1 bo h2 h3 h4 (hs _)
end
end Dv

namespace Dv
open PySem PySem.Spec PyProof.Rows
open L2 hiding Takes XE CX MkP PMk ps_raise ps_try_as ps_try_many HdsOk takes_of passAt passes_call mk_of pmk_own
open L2N (Takes XE CX MkP PMk ps_raise ps_try_as ps_try_many HdsOk takes_of passAt passes_call mk_of pmk_own Zn Zn.steady)

theorem env_of {env : Env} {sc : Scope} {p : Env → Prop} (h : env.scope = sc) (k : p { env with scope := sc }) : p env := by subst h; exact k
/-! ### statements -/
noncomputable def PostS (T : Tb) (W : WX) (w : Wd) (D : Ends) : SO → Prop
  | .nx ρ m => ∀ w' σ, Ext w w' → Wf T w' m → ER T w' σ ρ → D.nx σ w'.H
  | .rt d m => ∀ w' v, Ext w w' → Wf T w' m → Rep T w'.Hs w'.al v d → D.rt v w'.H
  | .bk ρ m => ∀ w' σ, Ext w w' → Wf T w' m → ER T w' σ ρ → D.bk σ w'.H
  | .ct ρ m => ∀ w' σ, Ext w w' → Wf T w' m → ER T w' σ ρ → D.ct σ w'.H
  | .ex x ρ m => ∀ w' σ cls dd, Ext w w' → Wf T w' m → ER T w' σ ρ → RepX T w' cls dd x → W cls dd σ w'.H
theorem PostS.on {T : Tb} {W : WX} {w w1 : Wd} {m : List R} {D : Ends} {o : SO} (h : PostS T W w D o) (e : Ext w w1) (V : Wf T w1 m) : PostS T W w1 D o := by
  cases o with
  | nx ρ m' => exact fun w' s e' W' r => h w' s (e.trans e' V) W' r
  | rt ρ m' => exact fun w' s e' W' r => h w' s (e.trans e' V) W' r
  | bk ρ m' => exact fun w' s e' W' r => h w' s (e.trans e' V) W' r
  | ct ρ m' => exact fun w' s e' W' r => h w' s (e.trans e' V) W' r
  | ex x ρ m' => exact fun w' s c d e' W' r k => h w' s c d (e.trans e' V) W' r k
noncomputable def RunsS (C : Cs) (t : TS) (f : Ro → List R → Option SO) : Prop :=
  ∀ (σ : L2.St) (w : Wd) (ρ : Ro) (m : List R) (D : Ends) (o : SO), Wf C.T w m → ER C.T w σ ρ → f ρ m = some o → PostS C.T C.W w D o → t D σ w.H
noncomputable def DS (C : Cs) (st : Stmt) (f : Ro → List R → Option SO) : Prop := ∃ t, (∀ X, C.OkS X → PS X st t) ∧ RunsS C t f
noncomputable def DSs (C : Cs) (sts : List Stmt) (f : Ro → List R → Option SO) : Prop := ∃ t, (∀ X, C.OkS X → PSs X sts t) ∧ RunsS C t f
theorem bndS_some {r : Option Rs} {ρ : Ro} {k : D → List R → Option SO} {o : SO} (e : bndS r ρ k = some o) : (∃ d m, r = some (.ok d m) ∧ k d m = some o) ∨ ∃ x m, r = some (.ex x m) ∧ o = .ex x ρ m := by
  cases r with
  | none => cases e
  | some q =>
    cases q with
    | ok d m => exact .inl ⟨d, m, rfl, e⟩
    | ex x m => cases e; exact .inr ⟨x, m, rfl, rfl⟩
theorem bndSI_some {r : Option RsI} {ρ : Ro} {k : Src → List R → Option SO} {o : SO} (e : bndSI r ρ k = some o) : (∃ d m, r = some (.ok d m) ∧ k d m = some o) ∨ ∃ x m, r = some (.ex x m) ∧ o = .ex x ρ m := by
  cases r with
  | none => cases e
  | some q =>
    cases q with
    | ok d m => exact .inl ⟨d, m, rfl, e⟩
    | ex x m => cases e; exact .inr ⟨x, m, rfl, rfl⟩
section
variable {C : Cs}
theorem Runs.bndS {t : TE} {f : Ro → List R → Option Rs} (h : Runs C t f) {σ : L2.St} {w : Wd} {ρ : Ro} {m : List R} {D : Ends} {o : SO} {k : Dv.D → List R → Option SO} (W : Wf C.T w m) (E : ER C.T w σ ρ) (e : Dv.bndS (f ρ m) ρ k = some o) (p : PostS C.T C.W w D o)
    {R' : VK} (c : ∀ d m1 w1 v1, k d m1 = some o → Ext w w1 → Wf C.T w1 m1 → Rep C.T w1.Hs w1.al v1 d → ER C.T w1 σ ρ → PostS C.T C.W w1 D o → R' v1 w1.H) : t σ w.H R' := by
  rcases bndS_some e with ⟨d, m1, e1, e2⟩ | ⟨x, m1, e1, rfl⟩
  · exact h σ w ρ m R' _ W E e1 fun w1 v1 e' W1 r => c d m1 w1 v1 e2 e' W1 r (E.on e') (p.on e' W1)
  · exact h σ w ρ m R' _ W E e1 fun w1 cls dd e' W1 r => p w1 σ cls dd e' W1 (E.on e') r
theorem RunsT.bndS {t : TT} {f : Ro → List R → Option Rs} (h : RunsT C t f) {σ : L2.St} {w : Wd} {ρ : Ro} {m : List R} {D : Ends} {o : SO} {k : Dv.D → List R → Option SO} (W : Wf C.T w m) (E : ER C.T w σ ρ) (hk : ∀ d m, k d m ≠ none → ∃ b, d = .bl b) (e : Dv.bndS (f ρ m) ρ k = some o) (p : PostS C.T C.W w D o)
    {R' : Bool → Hp → Prop} (c : ∀ b m1 w1, k (.bl b) m1 = some o → Ext w w1 → Wf C.T w1 m1 → ER C.T w1 σ ρ → PostS C.T C.W w1 D o → R' b w1.H) : t σ w.H R' := by
  rcases bndS_some e with ⟨d, m1, e1, e2⟩ | ⟨x, m1, e1, rfl⟩
  · obtain ⟨b, rfl⟩ := hk d m1 (by rw [e2]; simp)
    exact h σ w ρ m R' _ W E e1 ⟨b, rfl, fun w1 e' W1 => c b m1 w1 e2 e' W1 (E.on e') (p.on e' W1)⟩
  · exact h σ w ρ m R' _ W E e1 fun w1 cls dd e' W1 r => p w1 σ cls dd e' W1 (E.on e') r

theorem dss_nil : DSs C [] (evSs C.g .nil) := ⟨tNext, fun X ok => pss_nil, fun σ w ρ m D o W E e p => by
  simp only [evSs] at e
  cases e
  exact p w σ (Ext.refl _) W E⟩
theorem dss_cons {st : Stmt} {sts : List Stmt} {s : S} {r : Ss} (h1 : DS C st (evS C.g s)) (h2 : DSs C sts (evSs C.g r)) : DSs C (st :: sts) (evSs C.g (.cons s r)) := by
  obtain ⟨t, p, k⟩ := h1
  obtain ⟨u, q, j⟩ := h2
  refine ⟨tSeq t u, fun X ok => pss_cons (p X ok) (q X ok), fun σ w ρ m D o W E e pp => ?_⟩
  simp only [evSs] at e
  cases e1 : evS C.g s ρ m with
  | none => rw [e1] at e; cases e
  | some o1 =>
    rw [e1] at e
    refine k σ w ρ m _ o1 W E e1 ?_
    cases o1 with
    | nx ρ1 m1 => exact fun w1 σ1 x1 W1 E1 => j σ1 w1 ρ1 m1 D o W1 E1 e (pp.on x1 W1)
    | rt d m1 => cases e; exact pp
    | bk d m1 => cases e; exact pp
    | ct d m1 => cases e; exact pp
    | ex x d m1 => cases e; exact pp
theorem ds_expr {e : Expr} {x : Dv.E} {pos : Pos} (h : DE C e (evE C.g x)) (hs : ∀ env, swapsWith e none pos.line env = pure false) : DS C (.Expr e pos) (evS C.g (.expr x)) := by
  obtain ⟨t, p, r⟩ := h
  refine ⟨tDrop t, fun X ok => ps_expr (p X ok.toOk) (hs _), fun σ w ρ m D o W E e pp => ?_⟩
  simp only [evS] at e
  refine r.bndS W E e pp fun d m1 w1 v1 e1 x1 W1 r1 E1 p1 => ?_
  cases e1
  exact p1 w1 σ (Ext.refl _) W1 E1
theorem ds_ret {e : Expr} {x : Dv.E} {pos : Pos} (h : DE C e (evE C.g x)) : DS C (.Return (some e) pos) (evS C.g (.ret x)) := by
  obtain ⟨t, p, r⟩ := h
  refine ⟨tRet t, fun X ok => ps_ret (p X ok.toOk), fun σ w ρ m D o W E e pp => ?_⟩
  simp only [evS] at e
  refine r.bndS W E e pp fun d m1 w1 v1 e1 x1 W1 r1 E1 p1 => ?_
  cases e1
  exact p1 w1 v1 (Ext.refl _) W1 r1
theorem ds_set {i : Nat} {y : Str} {py pos : Pos} {e : Expr} {x : Dv.E} (hN : C.N[i]? = some y) (hx : Loc C.sc y) (hf : C.fn y = true ∨ C.sc.names.lookup y = some .local) (h : DE C e (evE C.g x)) (hs : ∀ env : Env, swapsWith e (some (.Name y py)) pos.line { env with scope := C.sc } = pure false) :
    DS C (.Assign [.Name y py] e pos) (evS C.g (.asg (.nm i) x)) := by
  obtain ⟨t, p, r⟩ := h
  refine ⟨tAsg t (gName i), fun X ok => ps_set (by rw [ok.N]; exact ok.nd) (by rw [ok.N]; exact hN) (by rw [ok.sc]; exact hx) (p X ok.toOk) (env_of (p := fun e => swapsWith _ _ _ e = pure _) ok.sc (hs _)) (by rw [ok.fn, ok.sc]; exact hf), fun σ w ρ m D o W E e pp => ?_⟩
  simp only [evS] at e
  refine r.bndS W E e pp fun d m1 w1 v1 e1 x1 W1 r1 E1 p1 => ?_
  simp only [setG, Option.map_some] at e1
  cases e1
  exact p1 w1 _ (Ext.refl _) W1 (E1.set i r1)
theorem ds_setLc [Cold C] {i : Nat} {y : Str} {py pos spos : Pos} {elt tg iter : Expr} {ifs : List Expr} {scope : Scope} {own : List (Str × Nat)} {mu : Bool} {xe xc : Dv.E} {gt : G} {it : It} (hN : C.N[i]? = some y) (hy : C.sc.names.lookup y = some .local)
    (hsw : ∀ env : Env, swapsWith (.ListComp elt [⟨tg, iter, ifs, 0⟩] scope pos) (some (.Name y py)) spos.line { env with scope := C.sc } = pure true) (hb : blkC C.N C.sc scope own = true) (hi : DI C tg iter (evI C.g it)) (hg : DG (C.blk scope) tg gt) (ht : DTs (C.blk scope) ifs (evE C.g xc)) (he : DE (C.blk scope) elt (evE C.g xe))
    (hix : ∀ i ∈ gt.ix, i ∈ own.map (·.2)) (hs : ∀ env x, foldedSetIterable iter env x = pure x) : DS C (.Assign [.Name y py] (.ListComp elt [⟨tg, iter, ifs, 0⟩] scope pos) spos) (evS C.g (.asg (.nm i) (.cmpr mu xe gt it xc (own.map (·.2))))) := by
  obtain ⟨t, p, r⟩ := de_lc (pos := pos) (mu := mu) hb hi hg ht he hix
  refine ⟨tAsg t (gName i), fun X ok => ?_, fun σ w ρ m D o W E e pp => ?_⟩
  · obtain ⟨nd, bo, wi, g, tt, te, rfl, h1, h2, h3, h4⟩ := p X ok.toOk
    exact ps_setLc (ok.calm Cold.out) nd (by rw [ok.N]; exact hN) (by rw [ok.sc]; exact hy) (env_of (p := fun e => swapsWith _ _ _ e = pure _) ok.sc (hsw _)) h1 bo h2 h3 h4 (hs _)
  · simp only [evS] at e
    refine r.bndS W E e pp fun d m1 w1 v1 e1 x1 W1 r1 E1 p1 => ?_
    simp only [setG, Option.map_some] at e1
    cases e1
    exact p1 w1 _ (Ext.refl _) W1 (E1.set i r1)
theorem ds_asg {tg e : Expr} {x : Dv.E} {g : G} {pos : Pos} (h : DE C e (evE C.g x)) (hg : DG C tg g) (hs : ∀ env : Env, swapsWithSole [tg] e pos.line { env with scope := C.sc } = pure false) (hw : ∀ env : Env, swappedStores [tg] e { env with scope := C.sc } = pure none) (h1 : ∀ env, (assignEach [tg] env).map (·.2) = [assign tg env]) :
    DS C (.Assign [tg] e pos) (evS C.g (.asg g x)) := by
  obtain ⟨t, p, r⟩ := h
  obtain ⟨u, q, k⟩ := hg
  refine ⟨tAsg t u, fun X ok => ps_asg (p X ok.toOk) (q X ok.toOk) (env_of (p := fun e => swapsWithSole _ _ _ e = pure _) ok.sc (hs _)) (env_of (p := fun e => swappedStores _ _ e = pure _) ok.sc (hw _)) (h1 _), fun σ w ρ m D o W E e pp => ?_⟩
  simp only [evS] at e
  refine r.bndS W E e pp fun d m1 w1 v1 e1 x1 W1 r1 E1 p1 => ?_
  cases e2 : setG g d ρ with
  | none => rw [e2] at e1; cases e1
  | some ρ' =>
    rw [e2] at e1
    cases e1
    exact k σ w1 ρ ρ' m1 v1 d _ W1 E1 r1 e2 fun σ' E' _ => p1 w1 σ' (Ext.refl _) W1 E'
theorem aug_key {o : Bop} (ho : o = .add ∨ o = .sub ∨ o = .mul) : ∃ t : TIp, (∀ X, PIp X (oprB o) t) ∧ ∀ a b z, augD o a b = some z → ∃ i j n, a = .int i ∧ b = .int j ∧ z = .int n ∧ ∀ H Q, Q (.int n) H → t (.int i) (.int j) H Q := by
  rcases ho with rfl | rfl | rfl
  · refine ⟨ipI fun i j => i + j, fun X => ip_add, fun a b z hz => ?_⟩
    cases a <;> cases b <;> simp only [augD] at hz <;> first | cases hz | skip
    exact ⟨_, _, _, rfl, rfl, rfl, fun H Q q => ⟨_, _, rfl, rfl, q⟩⟩
  · refine ⟨ipI fun i j => i - j, fun X => ip_sub, fun a b z hz => ?_⟩
    cases a <;> cases b <;> simp only [augD] at hz <;> first | cases hz | skip
    exact ⟨_, _, _, rfl, rfl, rfl, fun H Q q => ⟨_, _, rfl, rfl, q⟩⟩
  · refine ⟨rI CMul fun i j => .int (i * j), fun X pins s σ H x y v u Q I r1 r2 h => iop_mul pins s σ H x y v u Q I r1 r2 h, fun a b z hz => ?_⟩
    cases a with
    | int x =>
      cases b with
      | int y =>
        simp only [augD] at hz
        split at hz
        · rename_i h
          cases hz
          exact ⟨_, _, _, rfl, rfl, rfl, fun H Q q => ⟨_, _, rfl, rfl, .inr (by omega), q⟩⟩
        · cases hz
      | _ => cases hz
    | _ => cases hz
theorem ds_aug {i : Nat} {y : Str} {e : Expr} {x : Dv.E} {py pos : Pos} {o : Bop} (ho : o = .add ∨ o = .sub ∨ o = .mul) (hN : C.N[i]? = some y) (hx : Loc C.sc y) (hf : C.fn y = true ∨ C.sc.names.lookup y = some .local) (h : DE C e (evE C.g x)) : DS C (.AugAssign (.Name y py) (oprB o) e pos) (evS C.g (.aug i o x)) := by
  obtain ⟨t, p, r⟩ := h
  obtain ⟨k, hp, hd⟩ := aug_key ho
  refine ⟨tAug i t k, fun X ok => ps_aug (by rw [ok.N]; exact ok.nd) (by rw [ok.N]; exact hN) (by rw [ok.sc]; exact hx) (p X ok.toOk) (hp X) (by rw [ok.fn, ok.sc]; exact hf), fun σ w ρ m D oo W E e pp => ?_⟩
  simp only [evS] at e
  split at e
  · rename_i a ha
    obtain ⟨v, hv, rv⟩ := E.2 i a ha
    refine ⟨v, hv, r.bndS W E e pp fun d m1 w1 v1 e1 x1 W1 r1 E1 p1 => ?_⟩
    cases hz : augD o a d with
    | none => rw [hz] at e1; cases e1
    | some z =>
      rw [hz] at e1
      cases e1
      obtain ⟨i1, j1, n1, rfl, rfl, rfl, hq⟩ := hd _ _ _ hz
      cases rv
      cases r1
      exact hq _ _ (p1 w1 _ (Ext.refl _) W1 (E1.set i (.int _)))
  · cases e
theorem ds_if {c : Expr} {a b : List Stmt} {xc : Dv.E} {xa xb : Ss} {pos : Pos} (hc : DT C c (evE C.g xc)) (ha : DSs C a (evSs C.g xa)) (hb : DSs C b (evSs C.g xb)) : DS C (.If c a b pos) (evS C.g (.ifs xc xa xb)) := by
  obtain ⟨tc, pc, rc⟩ := hc
  obtain ⟨ta, pa, ra⟩ := ha
  obtain ⟨tb, pb, rb⟩ := hb
  refine ⟨tIfS tc ta tb, fun X ok => ps_if (pc X ok.toOk) (pa X ok) (pb X ok), fun σ w ρ m D o W E e pp => ?_⟩
  simp only [evS] at e
  refine rc.bndS W E (fun d m hd => ?_) e pp fun b m1 w1 e1 x1 W1 E1 p1 => ?_
  · split at hd
    · exact ⟨_, rfl⟩
    · exact ⟨_, rfl⟩
    · exact absurd rfl hd
  · cases b with
    | true => exact ra σ w1 ρ m1 D o W1 E1 e1 p1
    | false => exact rb σ w1 ρ m1 D o W1 E1 e1 p1
theorem ds_while {n : Nat} {c : Expr} {b : List Stmt} {xc : Dv.E} {xb : Ss} {pos : Pos} (hc : DT C c (evE C.g xc)) (hb : DSs C b (evSs C.g xb)) : DS C (.While c b [] pos) (evS C.g (.whl n xc xb)) := by
  obtain ⟨tc, pc, rc⟩ := hc
  obtain ⟨tb, pb, rb⟩ := hb
  refine ⟨tWhile tc tb, fun X ok => ps_while ok.own (pc X ok.toOk) (pb X ok), fun σ w ρ m D o W E e pp => ?_⟩
  simp only [evS] at e
  refine ⟨fun k σ H => ∃ w1 ρ1 m1, w1.H = H ∧ Ext w w1 ∧ Wf C.T w1 m1 ∧ ER C.T w1 σ ρ1 ∧ whlD (evE C.g xc) (evSs C.g xb) k ρ1 m1 = some o, ⟨n, w, ρ, m, rfl, Ext.refl _, W, E, e⟩, ?_⟩
  rintro k σ1 H1 ⟨w1, ρ1, m1, rfl, x1, W1, E1, e1⟩
  have p1 := pp.on x1 W1
  cases k with
  | zero => simp only [whlD] at e1; cases e1
  | succ k =>
    simp only [whlD] at e1
    refine rc.bndS W1 E1 (fun d m hd => ?_) e1 p1 fun b m2 w2 e2 x2 W2 E2 p2 => ?_
    · split at hd
      · exact ⟨_, rfl⟩
      · exact ⟨_, rfl⟩
      · exact absurd rfl hd
    · cases b with
      | false =>
        simp only at e2
        cases e2
        show if false = true then _ else _
        rw [if_neg Bool.false_ne_true]
        exact p2 w2 σ1 (Ext.refl _) W2 E2
      | true =>
        simp only at e2
        show if true = true then _ else _
        rw [if_pos rfl]
        refine ⟨fun σ H => ∃ w1 ρ1 m1, w1.H = H ∧ Ext w w1 ∧ Wf C.T w1 m1 ∧ ER C.T w1 σ ρ1 ∧ whlD (evE C.g xc) (evSs C.g xb) k ρ1 m1 = some o, fun σ' H' h => ⟨k, Nat.lt_succ_self _, h⟩, ?_⟩
        cases e3 : evSs C.g xb ρ1 m2 with
        | none => rw [e3] at e2; cases e2
        | some o3 =>
          rw [e3] at e2
          refine rb σ1 w2 ρ1 m2 _ o3 W2 E2 e3 ?_
          cases o3 with
          | nx ρ3 m3 => exact fun w3 σ3 x3 W3 E3 => ⟨w3, ρ3, m3, rfl, x1.trans (x2.trans x3 W2) W1, W3, E3, e2⟩
          | ct ρ3 m3 => exact fun w3 σ3 x3 W3 E3 => ⟨w3, ρ3, m3, rfl, x1.trans (x2.trans x3 W2) W1, W3, E3, e2⟩
          | bk ρ3 m3 => cases e2; exact p2
          | rt d m3 => cases e2; exact p2
          | ex z ρ3 m3 => cases e2; exact p2
/-- what is left of a loop -/
noncomputable def ForGo (f : Dv.D → Ro → List R → Option SO) (s : Src) (i n : Nat) (ρ : Ro) (m : List R) (o : SO) : Prop := match s with
  | .fix xs => i ≤ xs.length ∧ n = xs.length - i ∧ forF f (xs.drop i) ρ m = some o
  | .live k _ => forV f k n i ρ m = some o
  | .dic k r xs => i ≤ xs.length ∧ n = xs.length - i ∧ forK f k r (xs.drop i) ρ m = some o
theorem ForGo.start {f : Dv.D → Ro → List R → Option SO} {s : Src} {ρ : Ro} {m : List R} {o : SO} (h : forD f s ρ m = some o) : ∃ n, ForGo f s 0 n ρ m o := by
  cases s with
  | fix xs => exact ⟨xs.length, Nat.zero_le _, rfl, h⟩
  | live k n => exact ⟨n, h⟩
  | dic k r xs => exact ⟨xs.length, Nat.zero_le _, rfl, h⟩
/-- .. after a turn -/
noncomputable def ForAft (f : Dv.D → Ro → List R → Option SO) (s : Src) (i n : Nat) (o : SO) : SO → Prop
  | .nx ρ m => ForGo f s i n ρ m o
  | .ct ρ m => ForGo f s i n ρ m o
  | .bk ρ m => o = .nx ρ m
  | .rt d m => o = .rt d m
  | .ex x ρ m => o = .ex x ρ m
theorem ForGo.next {f : Dv.D → Ro → List R → Option SO} {s : Src} {i n : Nat} {ρ : Ro} {m : List R} {o : SO} (h : ForGo f s i n ρ m o) :
    (Item s m i none ∧ o = .nx ρ m) ∨ ∃ d n' o1, Item s m i (some d) ∧ n = n' + 1 ∧ f d ρ m = some o1 ∧ ForAft f s (i + 1) n' o o1 := by
  cases s with
  | fix xs =>
    obtain ⟨hi, hn, h⟩ := h
    cases e : xs[i]? with
    | none =>
      have hl := List.getElem?_eq_none_iff.mp e
      rw [List.drop_eq_nil_of_le hl] at h
      simp only [forF] at h
      cases h
      exact .inl ⟨⟨hi, e⟩, rfl⟩
    | some d =>
      obtain ⟨hl, e'⟩ := List.getElem?_eq_some_iff.mp e
      rw [List.drop_eq_getElem_cons hl, e'] at h
      simp only [forF] at h
      cases e1 : f d ρ m with
      | none => rw [e1] at h; cases h
      | some o1 =>
        rw [e1] at h
        refine .inr ⟨d, xs.length - (i + 1), o1, ⟨hi, e⟩, by omega, e1, ?_⟩
        cases o1 with
        | nx ρ1 m1 => exact ⟨hl, rfl, h⟩
        | ct ρ1 m1 => exact ⟨hl, rfl, h⟩
        | bk ρ1 m1 => cases h; rfl
        | rt d1 m1 => cases h; rfl
        | ex z ρ1 m1 => cases h; rfl
  | dic k r xs =>
    obtain ⟨hi, hn, h⟩ := h
    cases e : xs[i]? with
    | none =>
      have hl := List.getElem?_eq_none_iff.mp e
      rw [List.drop_eq_nil_of_le hl] at h
      simp only [forK] at h
      split at h
      · rename_i hm
        cases h
        exact .inl ⟨⟨hm, hi, e⟩, rfl⟩
      · cases h
    | some d =>
      obtain ⟨hl, e'⟩ := List.getElem?_eq_some_iff.mp e
      rw [List.drop_eq_getElem_cons hl, e'] at h
      simp only [forK] at h
      split at h
      · rename_i hm
        cases e1 : f d ρ m with
        | none => rw [e1] at h; cases h
        | some o1 =>
          rw [e1] at h
          refine .inr ⟨d, xs.length - (i + 1), o1, ⟨hm, hi, e⟩, by omega, e1, ?_⟩
          cases o1 with
          | nx ρ1 m1 => exact ⟨hl, rfl, h⟩
          | ct ρ1 m1 => exact ⟨hl, rfl, h⟩
          | bk ρ1 m1 => cases h; rfl
          | rt d1 m1 => cases h; rfl
          | ex z ρ1 m1 => cases h; rfl
      · cases h
  | live k n0 =>
    have h : forV f k n i ρ m = some o := h
    unfold forV at h
    split at h
    · rename_i ys hm
      split at h
      · rename_i e
        cases h
        exact .inl ⟨⟨ys, hm, e⟩, rfl⟩
      · rename_i d e
        cases n with
        | zero => cases h
        | succ n' =>
          simp only at h
          cases e1 : f d ρ m with
          | none => rw [e1] at h; cases h
          | some o1 =>
            rw [e1] at h
            refine .inr ⟨d, n', o1, ⟨ys, hm, e⟩, rfl, e1, ?_⟩
            cases o1 with
            | nx ρ1 m1 => exact h
            | ct ρ1 m1 => exact h
            | bk ρ1 m1 => cases h; rfl
            | rt d1 m1 => cases h; rfl
            | ex z ρ1 m1 => cases h; rfl
    · cases h
theorem ds_for [Cold C] {tg iter : Expr} {b : List Stmt} {g : G} {it : It} {xb : Ss} {pos : Pos} (hi : DI C tg iter (evI C.g it)) (hg : DG C tg g) (hb : DSs C b (evSs C.g xb)) (hs : ∀ env x, foldedSetIterable iter env x = pure x) : DS C (.For tg iter b [] pos) (evS C.g (.forr g it xb)) := by
  obtain ⟨wi, pi, ri⟩ := hi
  obtain ⟨tg', pg, rg⟩ := hg
  obtain ⟨tb, pb, rb⟩ := hb
  refine ⟨tFor wi tg' tb, fun X ok => ps_for ok.own (ok.calm Cold.out) (pi X ok.toOk) (pg X ok.toOk) (pb X ok) (hs _), fun σ w ρ m D o W E e pp => ?_⟩
  simp only [evS] at e
  rcases bndSI_some e with ⟨s, m1, e1, e2⟩ | ⟨z, m1, e1, rfl⟩
  · refine ri σ w ρ m _ _ W E e1 fun w1 J x1 W1 S => ?_
    obtain ⟨n0, g0⟩ := ForGo.start e2
    refine ⟨fun i n σ H => ∃ w2 ρ2 m2, w2.H = H ∧ Ext w1 w2 ∧ Wf C.T w2 m2 ∧ ER C.T w2 σ ρ2 ∧ ForGo _ s i n ρ2 m2 o, ⟨n0, w1, ρ, m1, rfl, Ext.refl _, W1, E.on x1, g0⟩, ?_⟩
    rintro i n σ2 H2 ⟨w2, ρ2, m2, rfl, x2, W2, E2, go⟩
    have p2 := pp.on (x1.trans x2 W1) W2
    rcases go.next with ⟨it0, rfl⟩ | ⟨d, n', o1, itm, rfl, e3, aft⟩
    · exact .inl ⟨S.none x2 W2 it0, p2 w2 σ2 (Ext.refl _) W2 E2⟩
    · obtain ⟨jgo, jy⟩ := S.some x2 W2 itm
      refine .inr ⟨jgo, fun σ H => ∃ w2 ρ2 m2, w2.H = H ∧ Ext w1 w2 ∧ Wf C.T w2 m2 ∧ ER C.T w2 σ ρ2 ∧ ForGo _ s (i + 1) n' ρ2 m2 o, fun σ' H' h => ⟨n', Nat.lt_succ_self _, h⟩, fun v H' hy => ?_⟩
      obtain ⟨w3, rfl, x3, W3, r3⟩ := jy v H' hy
      unfold bodyD at e3
      split at e3
      · rename_i ρ' e4
        refine rg σ2 w3 ρ2 ρ' m2 v d _ W3 (E2.on x3) r3 e4 fun σ4 E4 _ => ?_
        refine rb σ4 w3 ρ' m2 _ o1 W3 E4 e3 ?_
        cases o1 with
        | nx ρ5 m5 => exact fun w5 σ5 x5 W5 E5 => ⟨w5, ρ5, m5, rfl, x2.trans (x3.trans x5 W3) W2, W5, E5, aft⟩
        | ct ρ5 m5 => exact fun w5 σ5 x5 W5 E5 => ⟨w5, ρ5, m5, rfl, x2.trans (x3.trans x5 W3) W2, W5, E5, aft⟩
        | bk ρ5 m5 => cases aft; exact p2.on x3 W3
        | rt d m5 => cases aft; exact p2.on x3 W3
        | ex z ρ5 m5 => cases aft; exact p2.on x3 W3
      · cases e3
  · exact ri σ w ρ m _ _ W E e1 fun w1 cls dd x1 W1 rx => pp w1 σ cls dd x1 W1 (E.on x1) rx
theorem resL_rep {T : Tb} {w : Wd} {m : List R} (W : Wf T w m) {v : V} {d : Dv.D} {k : Nat} {ys : List Dv.D} (r : Rep T w.Hs w.al v d) (h : resL m d = some (k, ys)) : ∃ a vs, v = .ref a ∧ w.al[k]? = some a ∧ w.H a = some (.lst vs) ∧ RepL T w.Hs w.al vs ys ∧ m[k]? = some (.lst ys) := by
  cases r with
  | res hk =>
    simp only [resL] at h
    split at h
    · rename_i zs hm
      cases h
      obtain ⟨vs, hv, rl⟩ := W.ok _ _ _ hk hm
      exact ⟨_, vs, rfl, hk, hv, rl, hm⟩
    · cases h
  | _ => simp only [resL] at h; cases h
theorem ds_sti {o i e : Expr} {xo xi x : Dv.E} {p pos : Pos} (h : DE C e (evE C.g x)) (ho : DE C o (evE C.g xo)) (hi : DE C i (evE C.g xi)) (ha : ∀ env v, assign (.Subscript o i p) env v = (do
      let ov ← holding [v] (eval o env)
      let iv ← holding [v, ov] (eval i env)
      standAt p
      holding [v, ov, iv] (setItem ov iv v)
      release [v, ov, iv] [])) (hs : ∀ env : Env, swapsWithSole [.Subscript o i p] e pos.line { env with scope := C.sc } = pure false) (hw : ∀ env : Env, swappedStores [.Subscript o i p] e { env with scope := C.sc } = pure none) (h1 : ∀ env, (assignEach [.Subscript o i p] env).map (·.2) = [assign (.Subscript o i p) env]) :
    DS C (.Assign [.Subscript o i p] e pos) (evS C.g (.sti xo xi x)) := by
  obtain ⟨t, pt, r⟩ := h
  obtain ⟨to, po, ro⟩ := ho
  obtain ⟨ti, pi, ri⟩ := hi
  refine ⟨tAsg t (gSub to ti rSetL), fun X ok => ps_asg (pt X ok.toOk) (pg_sub (po X ok.toOk) (pi X ok.toOk) set_list (ha _)) (env_of (p := fun e => swapsWithSole _ _ _ e = pure _) ok.sc (hs _)) (env_of (p := fun e => swappedStores _ _ e = pure _) ok.sc (hw _)) (h1 _), fun σ w ρ m D oo W E e pp => ?_⟩
  simp only [evS] at e
  refine r.bndS W E e pp fun d m1 w1 v1 e1 x1 W1 r1 E1 p1 => ?_
  refine ro.bndS W1 E1 e1 p1 fun d2 m2 w2 v2 e2 x2 W2 r2 E2 p2 => ?_
  refine ri.bndS W2 E2 e2 p2 fun d3 m3 w3 v3 e3 x3 W3 r3 E3 p3 => ?_
  cases hz : stiD m3 d2 d3 d with
  | none => rw [hz] at e3; cases e3
  | some m4 =>
    rw [hz] at e3
    cases e3
    unfold stiD at hz
    split at hz
    · rename_i z
      split at hz
      · rename_i k ys hk
        split at hz
        · rename_i j hj
          cases hz
          cases r3
          obtain ⟨a, vs, rfl, hal, hH, rl, hm⟩ := resL_rep W3 (r2.on x3) hk
          refine ⟨a, vs, z, j, rfl, rfl, hH, by rw [rl.length]; exact hj, ?_⟩
          have r1' := (r1.on x2).on x3
          obtain ⟨W4, x4⟩ := W3.st (o := .lst (vs.set j v1)) (r := .lst (ys.set j d)) hal ⟨vs.set j v1, by show upd w3.H a _ a = _; rw [upd_same], rl.set j r1'⟩
          exact p3 _ σ x4 W4 (E3.on x4)
        · cases hz
      · cases hz
    · cases hz
theorem putF_keys {f : Str} {v : V} {d : Dv.D} : ∀ {fs : List (Str × V)} {gs : List (Str × Dv.D)}, fs.map (·.1) = gs.map (·.1) → (L2.putF f v fs).map (·.1) = (putD f d gs).map (·.1)
  | [], [], _ => rfl
  | [], _ :: _, h => by cases h
  | _ :: _, [], h => by cases h
  | (a, x) :: fs, (b, y) :: gs, h => by
    rw [List.map_cons, List.map_cons] at h
    injection h with h1 h2
    have h1 : a = b := h1
    subst h1
    unfold L2.putF putD
    by_cases e : a = f
    · rw [if_pos e, if_pos e, List.map_cons, List.map_cons, h2]
    · rw [if_neg e, if_neg e, List.map_cons, List.map_cons, putF_keys h2]
theorem putF_vals {T : Tb} {Hs : Hp} {al : List Addr} {f : Str} {v : V} {d : Dv.D} (rv : Rep T Hs al v d) : ∀ {fs : List (Str × V)} {gs : List (Str × Dv.D)}, fs.map (·.1) = gs.map (·.1) → RepL T Hs al (fs.map (·.2)) (gs.map (·.2)) → RepL T Hs al ((L2.putF f v fs).map (·.2)) ((putD f d gs).map (·.2))
  | [], [], _, _ => .one rv
  | [], _ :: _, h, _ => by cases h
  | _ :: _, [], h, _ => by cases h
  | (a, x) :: fs, (b, y) :: gs, h, r => by
    rw [List.map_cons, List.map_cons] at h r
    injection h with h1 h2
    have h1 : a = b := h1
    subst h1
    cases r with
    | cons r1 r2 =>
      unfold L2.putF putD
      by_cases e : a = f
      · rw [if_pos e, if_pos e]
        exact .cons rv r2
      · rw [if_neg e, if_neg e]
        exact .cons r1 (putF_vals rv h2 r2)
theorem ds_stf {o e : Expr} {f : Str} {xo x : Dv.E} {p pos : Pos} (hA : AttOk C f) (hnm : C.g.nm = C.T.nm) (h : DE C e (evE C.g x)) (ho : DE C o (evE C.g xo)) (hs : ∀ env : Env, swapsWith e (some (.Attribute o f p)) pos.line { env with scope := C.sc } = pure false) :
    DS C (.Assign [.Attribute o f p] e pos) (evS C.g (.stf xo f x)) := by
  obtain ⟨t, pt, r⟩ := h
  obtain ⟨to, po, ro⟩ := ho
  refine ⟨sFld C.T.K to t f, fun X ok => by
    have := ps_fld (pos := pos) (f := f) (pos' := p) (po X ok.toOk) (pt X ok.toOk) (env_of (p := fun e => swapsWith _ _ _ e = pure _) ok.sc (hs _))
    rw [ok.K] at this
    exact this, fun σ w ρ m D oo W E e pp => ?_⟩
  simp only [evS] at e
  refine r.bndS W E e pp fun d m1 w1 v1 e1 x1 W1 r1 E1 p1 => ?_
  refine ro.bndS W1 E1 e1 p1 fun d2 m2 w2 v2 e2 x2 W2 r2 E2 p2 => ?_
  cases hz : stfD C.g m2 d2 f d with
  | none => rw [hz] at e2; cases e2
  | some m4 =>
    rw [hz] at e2
    cases e2
    unfold stfD at hz
    split at hz
    · rename_i k
      split at hz
      · rename_i c gs hm
        split at hz
        · rename_i hc
          cases hz
          obtain ⟨h1, h2, h3⟩ := hc
          cases r2 with
          | res hk =>
            rename_i a
            obtain ⟨dx, fs, hH, hn, hr⟩ := W2.ok k _ _ hk hm
            rw [hnm] at h2
            obtain ⟨c1, c2⟩ := hA.2.2 c (by simpa using h3) (by simpa using h2)
            have hl : fs.length = gs.length := by simpa using congrArg List.length hn
            refine ⟨a, C.T.cl c, dx, fs, rfl, hH, c1, c2, by omega, ?_⟩
            have r1' := r1.on x2
            obtain ⟨W4, x4⟩ := W2.st (o := .ins (C.T.cl c) dx (L2.putF f v1 fs)) (r := .obj c (putD f d gs)) hk ⟨dx, L2.putF f v1 fs, by show upd w2.H a _ a = _; rw [upd_same], putF_keys hn, putF_vals r1' hn hr⟩
            exact p2 _ σ x4 W4 (E2.on x4)
        · cases hz
      · cases hz
    · cases hz
end
end Dv

namespace Dv
open PySem PySem.Spec PyProof.Rows
open L2 hiding Takes XE CX MkP PMk ps_raise ps_try_as ps_try_many HdsOk takes_of passAt passes_call mk_of pmk_own
open L2N (Takes XE CX MkP PMk ps_raise ps_try_as ps_try_many HdsOk takes_of passAt passes_call mk_of pmk_own Zn Zn.steady)

/-! ### what a def gives back: its own things let go -/
mutual
/-- only things below n are named -/
noncomputable def okD (n : Nat) : D → Bool
  | .res k => decide (k < n)
  | .tup xs => okDL n xs
  | .lst xs => okDL n xs
  | .ext xs => okDL n xs
  | .obj _ xs => okDL n xs
  | .dct _ xs => okDL n xs
  | .exn _ _ xs => okDL n xs
  | _ => true
noncomputable def okDL (n : Nat) : List D → Bool
  | [] => true
  | x :: xs => okD n x && okDL n xs
end
noncomputable def okR (n : Nat) : R → Bool
  | .lst xs => okDL n xs
  | .obj _ fs => okDL n (fs.map (·.2))
  | .dK kvs => okDL n (kvs.map (·.2))
  | .dL _ _ kvs => okDL n (kvs.map (·.2))
  | .dT kvs => okDL n (kvs.map (·.2))
noncomputable def okM (n : Nat) : List R → Bool
  | [] => true
  | r :: rs => okR n r && okM n rs
noncomputable def allO (f : D → Option D) : List D → Option (List D)
  | [] => some []
  | x :: xs => match f x, allO f xs with
    | some y, some ys => some (y :: ys)
    | _, _ => none
/-- own lists and instances told as what no longer changes -/
noncomputable def conv (nm : Nat → List Str) (n : Nat) (m : List R) : Nat → D → Option D
  | 0, d => if okD n d then some d else none
  | f + 1, d => if okD n d then some d else match d with
    | .res k => match m[k]? with
      | some (.lst xs) => (allO (conv nm n m f) xs).map .lst
      | some (.obj c fs) => if fs.map (·.1) = nm c then (allO (conv nm n m f) (fs.map (·.2))).map (.obj c) else none
      | some (.dK kvs) => (allO (conv nm n m f) (kvs.map (·.2))).map (.dct (kvs.map (·.1)))
      | some (.dT _) => none
      | some (.dL _ _ _) => none
      | none => none
    | .tup xs => (allO (conv nm n m f) xs).map .tup
    | .lst xs => (allO (conv nm n m f) xs).map .lst
    | .obj c xs => (allO (conv nm n m f) xs).map (.obj c)
    | _ => none
/-- m: what stood at the start (n things); m': at the end -/
noncomputable def fin (nm : Nat → List Str) (m m' : List R) (d : D) : Option Rs :=
  open Classical in if m'.take m.length = m ∨ okM m.length (m'.take m.length) = true then (conv nm m.length m' 6 d).map fun d' => .ok d' (m'.take m.length) else none

mutual
theorem Rep.okD {T : Tb} {Hs : Hp} {al : List Addr} : ∀ {v : V} {d : D}, Rep T Hs al v d → Dv.okD al.length d = true
  | _, _, .non => by simp only [Dv.okD]
  | _, _, .bl b => by simp only [Dv.okD]
  | _, _, .int b => by simp only [Dv.okD]
  | _, _, .str b => by simp only [Dv.okD]
  | _, _, .tup s r => by simp only [Dv.okD]; exact RepL.okDL r
  | _, _, .lst s r => by simp only [Dv.okD]; exact RepL.okDL r
  | _, _, .ext s r => by simp only [Dv.okD]; exact RepL.okDL r
  | _, _, .obj s n r => by simp only [Dv.okD]; exact RepL.okDL r
  | _, _, .fn _ => by simp only [Dv.okD]
  | _, _, .dfn _ => by simp only [Dv.okD]
  | _, _, .dct s n r => by simp only [Dv.okD]; exact RepL.okDL r
  | _, _, .exn0 s => by simp only [Dv.okD, Dv.okDL]
  | _, _, .exn1 s t n r => by simp only [Dv.okD]; exact RepL.okDL r
  | _, _, .res e => by simp only [Dv.okD]; exact decide_eq_true (List.getElem?_eq_some_iff.mp e).1
theorem RepL.okDL {T : Tb} {Hs : Hp} {al : List Addr} : ∀ {v : List V} {d : List D}, RepL T Hs al v d → Dv.okDL al.length d = true
  | _, _, .nil => by simp only [Dv.okDL]
  | _, _, .cons r t => by simp only [Dv.okDL, Bool.and_eq_true]; exact ⟨Rep.okD r, RepL.okDL t⟩
end
mutual
theorem Rep.cut {T : Tb} {Hs Hs' : Hp} {al : List Addr} {n : Nat} (h : Le Hs Hs') : ∀ {v : V} {d : D}, Rep T Hs al v d → Dv.okD n d = true → Rep T Hs' (al.take n) v d
  | _, _, .non, _ => .non
  | _, _, .bl b, _ => .bl b
  | _, _, .int b, _ => .int b
  | _, _, .str b, _ => .str b
  | _, _, .tup s r, o => .tup (h.sqN s) (RepL.cut' h r (by simpa only [Dv.okD] using o))
  | _, _, .lst s r, o => .lst (h _ _ s) (RepL.cut' h r (by simpa only [Dv.okD] using o))
  | _, _, .ext s r, o => .ext (h.sqL s) (RepL.cut' h r (by simpa only [Dv.okD] using o))
  | _, _, .obj s n r, o => .obj (h _ _ s) n (RepL.cut' h r (by simpa only [Dv.okD] using o))
  | _, _, .fn q, _ => .fn (h.fnAt q)
  | _, _, .dfn s, _ => .dfn s
  | _, _, .dct s n r, o => .dct (h.rd s) n (RepL.cut' h r (by simpa only [Dv.okD] using o))
  | _, _, .exn0 s, _ => .exn0 s
  | _, _, .exn1 s t n r, o => .exn1 s (h _ _ t) n (RepL.cut' h r (by simpa only [Dv.okD] using o))
  | _, _, .res e, o => .res (by
    have : _ < n := of_decide_eq_true (by simpa only [Dv.okD] using o)
    rw [List.getElem?_take, if_pos this]; exact e)
theorem RepL.cut' {T : Tb} {Hs Hs' : Hp} {al : List Addr} {n : Nat} (h : Le Hs Hs') : ∀ {v : List V} {d : List D}, RepL T Hs al v d → Dv.okDL n d = true → RepL T Hs' (al.take n) v d
  | _, _, .nil, _ => .nil
  | _, _, .cons r t, o => by
    simp only [Dv.okDL, Bool.and_eq_true] at o
    exact .cons (Rep.cut h r o.1) (RepL.cut' h t o.2)
end
theorem okM_get {n : Nat} : ∀ {m : List R} {k : Nat} {r : R}, okM n m = true → m[k]? = some r → okR n r = true
  | [], _, _, _, e => by simp at e
  | r :: rs, 0, _, h, e => by
    simp only [okM, Bool.and_eq_true] at h
    cases e
    exact h.1
  | r :: rs, k + 1, _, h, e => by
    simp only [okM, Bool.and_eq_true] at h
    exact okM_get h.2 (k := k) e
theorem Wf.okM {T : Tb} {w : Wd} {m : List R} (W : Wf T w m) : ∀ (k : Nat) (r : R), m[k]? = some r → okR m.length r = true := fun k r hr => by
  obtain ⟨a, ha, ro⟩ := W.at hr
  have hl := W.len
  cases r with
  | lst xs =>
    obtain ⟨vs, _, rl⟩ := ro
    have := rl.okDL
    rw [hl] at this
    exact this
  | obj c fs =>
    obtain ⟨dx, vfs, _, _, rl⟩ := ro
    have := rl.okDL
    rw [hl] at this
    exact this
  | dK kvs =>
    obtain ⟨vs, _, _, rl⟩ := ro
    have := rl.okDL
    rw [hl] at this
    exact this
  | dL o us kvs =>
    obtain ⟨_, _, rl⟩ := ro
    have := rl.okDL
    rw [hl] at this
    exact this
  | dT kvs =>
    obtain ⟨_, _, vs, _, _, _, rl, _⟩ := ro
    have := rl.okDL
    rw [hl] at this
    exact this
/-- the world with what the def made told as frozen -/
noncomputable def Wd.drop (w : Wd) (n : Nat) : Wd := ⟨w.H, fun a => if a ∈ w.al.drop n then w.H a else w.Hs a, w.al.take n⟩
theorem Wd.drop_le {T : Tb} {w : Wd} {m : List R} (W : Wf T w m) (n : Nat) : Le w.Hs (w.drop n).Hs := fun a o e => by
  show (if a ∈ w.al.drop n then w.H a else w.Hs a) = some o
  split
  · exact W.sub _ _ e
  · exact e
theorem RO.cut {T : Tb} {w : Wd} {m : List R} (W : Wf T w m) {n : Nat} {a : Addr} {r : R} (h : RO T w a r) (o : okR n r = true) : RO T (w.drop n) a r := by
  cases r with
  | lst xs =>
    obtain ⟨vs, e, q⟩ := h
    exact ⟨vs, e, RepL.cut' (Wd.drop_le W n) q o⟩
  | obj c fs =>
    obtain ⟨dx, vfs, e, k, q⟩ := h
    exact ⟨dx, vfs, e, k, RepL.cut' (Wd.drop_le W n) q o⟩
  | dK kvs =>
    obtain ⟨vs, e, k, q⟩ := h
    exact ⟨vs, e, k, RepL.cut' (Wd.drop_le W n) q o⟩
  | dL ob us kvs =>
    obtain ⟨e, k, q⟩ := h
    exact ⟨e, k, RepL.cut' (Wd.drop_le W n) q o⟩
  | dT kvs =>
    obtain ⟨P, w0, vs, hk, e, k, q, t, z⟩ := h
    exact ⟨P, w0, vs, hk, e, k, RepL.cut' (Wd.drop_le W n) q o, fun p hp => (Wd.drop_le W n).sqN (t p hp), z⟩
theorem allO_rep {T : Tb} {Hs Hs' : Hp} {al al' : List Addr} {f : D → Option D} (h : ∀ v d d', Rep T Hs al v d → f d = some d' → Rep T Hs' al' v d') : ∀ {vs : List V} {ds ds' : List D}, RepL T Hs al vs ds → allO f ds = some ds' → RepL T Hs' al' vs ds'
  | _, _, _, .nil, e => by cases e; exact .nil
  | _, _, _, .cons r t, e => by
    simp only [allO] at e
    split at e
    · rename_i y ys h1 h2
      cases e
      exact .cons (h _ _ _ r h1) (allO_rep h t h2)
    · cases e
theorem conv_rep {T : Tb} {w : Wd} {m : List R} (W : Wf T w m) {n : Nat} : ∀ (f : Nat) (v : V) (d d' : D), Rep T w.Hs w.al v d → conv T.nm n m f d = some d' → Rep T (w.drop n).Hs (w.drop n).al v d'
  | 0, v, d, d', r, e => by
    simp only [conv] at e
    split at e
    · cases e
      exact Rep.cut (Wd.drop_le W n) r (by assumption)
    · cases e
  | f + 1, v, d, d', r, e => by
    simp only [conv] at e
    split at e
    · cases e
      exact Rep.cut (Wd.drop_le W n) r (by assumption)
    · rename_i hno
      have ih : ∀ {vs : List V} {ds ds' : List D}, RepL T w.Hs w.al vs ds → allO (conv T.nm n m f) ds = some ds' → RepL T (w.drop n).Hs (w.drop n).al vs ds' := fun r e => allO_rep (fun v d d' => conv_rep W f v d d') r e
      cases r with
      | @res a k hk =>
        simp only at e
        have hin : a ∈ w.al.drop n := by
          have hkn : n ≤ k := by simpa [Dv.okD] using hno
          refine List.mem_of_getElem? (i := k - n) ?_
          rw [List.getElem?_drop]
          rw [show n + (k - n) = k by omega]
          exact hk
        have hH : (w.drop n).Hs a = w.H a := if_pos hin
        split at e
        · rename_i xs hm
          obtain ⟨vs, hv, rl⟩ := W.ok k a _ hk hm
          cases h2 : allO (conv T.nm n m f) xs with
          | none => rw [h2] at e; cases e
          | some ys =>
            rw [h2] at e
            cases e
            exact .lst (hH.trans hv) (ih rl h2)
        · rename_i c fs hm
          obtain ⟨dx, vfs, hv, hn, rl⟩ := W.ok k a _ hk hm
          split at e
          · rename_i hnm
            cases h2 : allO (conv T.nm n m f) (fs.map (·.2)) with
            | none => rw [h2] at e; cases e
            | some ys =>
              rw [h2] at e
              cases e
              exact .obj (hH.trans hv) (hn.trans hnm) (ih rl h2)
          · cases e
        · rename_i kvs hm
          obtain ⟨vs, hv, hn, rl⟩ := W.ok k a _ hk hm
          cases h2 : allO (conv T.nm n m f) (kvs.map (·.2)) with
          | none => rw [h2] at e; cases e
          | some ys =>
            rw [h2] at e
            cases e
            exact .dct (.inl (hH.trans hv)) hn (ih rl h2)
        · cases e
        · cases e
        · cases e
      | tup s rl =>
        simp only at e
        cases h2 : allO (conv T.nm n m f) _ with
        | none => rw [h2] at e; cases e
        | some ys =>
          rw [h2] at e
          cases e
          exact .tup ((Wd.drop_le W n).sqN s) (ih rl h2)
      | lst s rl =>
        simp only at e
        cases h2 : allO (conv T.nm n m f) _ with
        | none => rw [h2] at e; cases e
        | some ys =>
          rw [h2] at e
          cases e
          exact .lst ((Wd.drop_le W n) _ _ s) (ih rl h2)
      | obj s hn rl =>
        simp only at e
        cases h2 : allO (conv T.nm n m f) _ with
        | none => rw [h2] at e; cases e
        | some ys =>
          rw [h2] at e
          cases e
          exact .obj ((Wd.drop_le W n) _ _ s) hn (ih rl h2)
      | _ => cases e
theorem drop_wf {T : Tb} {w w' : Wd} {m m' : List R} (W : Wf T w m) (x : Ext w w') (W' : Wf T w' m') (h : m'.take m.length = m ∨ Dv.okM m.length (m'.take m.length) = true) : Wf T (w'.drop m.length) (m'.take m.length) ∧ Ext w (w'.drop m.length) := by
  obtain ⟨l, hl, fl⟩ := x.al
  have ht : w'.al.take m.length = w.al := by
    rw [hl, ← W.len]
    simp
  have hd : w'.al.drop m.length = l := by
    rw [hl, ← W.len]
    simp
  have hlen : m.length ≤ m'.length := by
    rw [← W.len, ← W'.len, hl]; simp
  refine ⟨⟨fun a o e => ?_, ?_, ?_, fun a ha => ?_, fun k a r hk hr => ?_, fun p hp => (W'.tab p hp).on (fun ps e => e) (Wd.drop_le W' _) (fun ps e e2 => by show (if p.1 ∈ w'.al.drop m.length then w'.H p.1 else w'.Hs p.1) = none; rw [if_neg (fun z => W'.noTbl (List.mem_of_mem_drop z) ps e)]; exact e2), W'.bse.1.trans (Wd.drop_le W' _), by show LeA T.ba (w'.al.take m.length); rw [ht]; exact W.bse.2⟩, ⟨x.hs.trans (Wd.drop_le W' _), ⟨[], by show w'.al.take m.length = _; rw [ht]; simp, by simp⟩, fun a ha => ?_, x.keep, x.tbl⟩⟩
  · have e : (if a ∈ w'.al.drop m.length then w'.H a else w'.Hs a) = some o := e
    split at e
    · exact e
    · exact W'.sub _ _ e
  · show (w'.al.take m.length).length = _
    rw [ht, W.len, List.length_take]
    omega
  · show (w'.al.take m.length).Nodup
    rw [ht]; exact W.nd
  · have ha : a ∈ w'.al.take m.length := ha
    show (if a ∈ w'.al.drop m.length then w'.H a else w'.Hs a) = none
    have hn : a ∉ w'.al.drop m.length := fun z => by
      have nd := W'.nd
      rw [← List.take_append_drop m.length w'.al] at nd
      exact (List.nodup_append.mp nd).2.2 a ha a z rfl
    rw [if_neg hn]
    exact W'.off a (List.mem_of_mem_take ha)
  · have hk : (w'.al.take m.length)[k]? = some a := hk
    rw [List.getElem?_take] at hk hr
    split at hk
    · rename_i hkn
      rw [if_pos hkn] at hr
      refine RO.cut W' (W'.ok k a r hk hr) ?_
      rcases h with h | h
      · refine W.okM k r ?_
        rw [← h, List.getElem?_take, if_pos hkn]
        exact hr
      · exact okM_get h (k := k) (by rw [List.getElem?_take, if_pos hkn]; exact hr)
    · cases hk
  · have ha : (if a ∈ w'.al.drop m.length then w'.H a else w'.Hs a) ≠ none := ha
    split at ha
    · rename_i z
      rw [hd] at z
      exact .inr (fl a z)
    · exact x.fr a ha
theorem fin_rep {T : Tb} {w w' : Wd} {m m' : List R} {d : D} {o : Rs} {v : V} (W : Wf T w m) (x : Ext w w') (W' : Wf T w' m') (r : Rep T w'.Hs w'.al v d) (h : fin T.nm m m' d = some o) : ∃ d' m2 w2, o = .ok d' m2 ∧ w2.H = w'.H ∧ Ext w w2 ∧ Wf T w2 m2 ∧ Rep T w2.Hs w2.al v d' := by
  unfold fin at h
  split at h
  · rename_i hc
    cases e : conv T.nm m.length m' 6 d with
    | none => rw [e] at h; cases h
    | some d' =>
      rw [e] at h
      cases h
      obtain ⟨W2, x2⟩ := drop_wf W x W' hc
      exact ⟨d', _, w'.drop m.length, rfl, rfl, x2, W2, conv_rep W' 6 v d d' r e⟩
  · cases h

/-! ### defs -/
/-- what a def's body gives: fz, whether its own things are told as frozen at its end -/
noncomputable def runD (g : Gt) (N : Nat) (b : Ss) (fz : Bool) (ds : List D) (m : List R) : Option Rs := match evSs g b (ds.map some ++ List.replicate (N - ds.length) none) m with
  | some (.rt d m') => if fz then fin g.nm m m' d else some (.ok d m')
  | some (.nx _ m') => if fz then fin g.nm m m' .non else some (.ok .non m')
  | some (.ex x _ m') => some (.ex x m')
  | _ => none
theorem start_er {T : Tb} {w : Wd} {N : List Str} {vs : List V} {ds : List D} (r : RepL T w.Hs w.al vs ds) : ER T w (L2.start N vs) (ds.map some ++ List.replicate (N.length - ds.length) none) := by
  have hl := r.length
  refine ⟨by unfold L2.start; simp [hl], fun i d hd => ?_⟩
  have hi : i < ds.length := by
    by_cases h : i < ds.length
    · exact h
    · rw [List.getElem?_append_right (by rw [List.length_map]; omega), List.getElem?_replicate] at hd
      split at hd <;> cases hd
  rw [List.getElem?_append_left (by rw [List.length_map]; exact hi), List.getElem?_map] at hd
  cases h2 : ds[i]? with
  | none => rw [h2] at hd; cases hd
  | some e =>
    rw [h2] at hd
    cases hd
    obtain ⟨v, h3, h4⟩ := r.get h2
    refine ⟨v, ?_, h4⟩
    unfold L2.start
    rw [List.getElem?_append_left (by rw [List.length_map]; exact (List.getElem?_eq_some_iff.mp h3).1), List.getElem?_map, h3]
    rfl
/-- where a def's body stands, of level L -/
noncomputable def Cs.at (C : Cs) (N : List Str) (sc : Scope) (E : XK) : Cs := { C with N := N, sc := sc, W := fun cls d _ H => E cls d H, fn := fun _ => true }
noncomputable instance atCold {C : Cs} [c : Cold C] {N : List Str} {sc : Scope} {E : XK} : Cold (C.at N sc E) := ⟨c.h⟩
/-- a def as it stands behind the top, whatever its defaults -/
structure FnD (K : PySem.W.Frag) (x qual : Str) (st : Stmt) (f : Addr) (fd : FuncData) : Prop where
  ex : ∃ (oc : Value) (od : Option Addr) (dV kV doc pm : Value) (an : Option Addr) (cdv ct : Value) (osl : Array (Option Value)),
    fd = PySem.W.fnOf x qual (defArgs st) (defBody st) (defScope st) dV kV doc pm an cdv ct ∧ K.lookup f = some ⟨oc, od, .func fd, osl⟩ ∧ PySem.W.codeIn K cdv qual = true
theorem FnD.okX {P : Program} {w : World} {K : PySem.W.Frag} {mg : Str → Option Value} {base : Heap} {x qual : Str} {st : Stmt} {f : Addr} {fd : FuncData} {N ps : List Str} {k : Nat} {sp : Sp} (F : FnD K x qual st f fd) (S : FnScope N ps (defScope st)) (len : ∀ vs H Q E, sp vs H Q E → vs.length = ps.length)
    (hbody : ∀ (cdv : Value) (A : Around) (outer : List Env) (s : Shared) (H : Hp) (vs : List V) (Q : VK) (E : XK), Room k (A.deeper (envOfC qual (defScope st) s.heap.objs.size f cdv)) → sp vs H Q E →
      ∃ t, PSs (cxOf (L2N.CX P w) P w K mg base N qual (defScope st) f cdv A outer s H E) (defBody st) t ∧ t { nx := fun _ H' => Q .non H', rt := Q } (start N vs) H) : FnOk P w K mg base (L2N.CX P w) (k + 1) f fd ps sp := by
  obtain ⟨oc, od, dV, kV, doc, pm, an, cdv, ct, osl, rfl, lk, hcd⟩ := F.ex
  exact fn_of lk hcd S len fun A outer s H vs Q E hr hsp => hbody cdv A outer s H vs Q E hr hsp
theorem fun_d {K : PySem.W.Frag} {x qual : Str} {st : Stmt} {f : Addr} {fd : FuncData} (F : L2.Fun K x qual st f fd) : FnD K x qual st f fd :=
  let ⟨oc, od, kV, doc, pm, an, cdv, ct, osl, e, lk, hcd⟩ := F.ex
  ⟨⟨oc, od, .none, kV, doc, pm, an, cdv, ct, osl, e, lk, hcd⟩⟩
/-- a def by its body: its own things told as frozen at its end (fz), or not -/
theorem un_of {k : Nat} {A : Around} (h : Room k A) : A.units + 65 < cLine := by have := h.un; omega
theorem def_ok (C : Cs) [Cold C] {x qual : Str} {st : Stmt} {f : Addr} {fd : FuncData} {N ps : List Str} {b : Ss} {fz : Bool} (F : FnD C.T.K x qual st f fd) (S : FnScope N ps (defScope st)) (hnm : C.g.nm = C.T.nm) (hb : ∀ E : XK, DSs (C.at N (defScope st) E) (defBody st) (evSs C.g b)) (hc : C.cells = [] := by rfl) (hh : ∀ e, C.hold e := by exact fun _ => True.intro) (hany : C.any = false := by rfl) :
    FnOk C.P C.w C.T.K C.mg C.base (L2N.CX C.P C.w) (C.L + 1) f fd ps (fun vs H Q E => vs.length = ps.length ∧ spD C.T (runD C.g N.length b fz) vs H Q E) := by
  refine F.okX S (fun vs H Q E h => h.1) fun cdv A outer s H vs Q E hr h => ?_
  obtain ⟨t, pt, rt⟩ := hb E
  obtain ⟨hl, w, ds, m, o, rfl, W, r, e, p⟩ := h
  refine ⟨t, pt _ ⟨⟨rfl, rfl, rfl, rfl, rfl, rfl, rfl, S.nd, (fun _ => rfl), (fun _ => hr), takes_of rfl rfl rfl rfl, rfl, hh _, fun p hp => (by rw [show (C.at N (defScope st) E).cells = [] from hc] at hp; cases hp), un_of hr, noEx, fun _ => ⟨rfl, rfl⟩, fun z => by rw [show (C.at N (defScope st) E).any = false from hany] at z; cases z⟩, passes_of rfl, fun _ => ⟨rfl, rfl, rfl⟩⟩, ?_⟩
  unfold runD at e
  cases e1 : evSs C.g b (ds.map some ++ List.replicate (N.length - ds.length) none) m with
  | none => rw [e1] at e; cases e
  | some o1 =>
    rw [e1] at e
    refine rt _ w _ m _ o1 W (start_er r) e1 ?_
    have go : ∀ (d : D) (m' : List R) (w' : Wd) (v : V), (if fz then fin C.g.nm m m' d else some (Rs.ok d m')) = some o → Ext w w' → Wf C.T w' m' → Rep C.T w'.Hs w'.al v d → Q v w'.H := fun d m' w' v e x' W' r' => by
      cases fz with
      | true =>
        rw [if_pos rfl, hnm] at e
        obtain ⟨d2, m2, w2, rfl, hH, x2, W2, r2⟩ := fin_rep W x' W' r' e
        rw [← hH]
        exact p w2 v x2 W2 r2
      | false =>
        rw [if_neg Bool.false_ne_true] at e
        cases e
        exact p w' v x' W' r'
    cases o1 with
    | rt d m' => exact fun w' v x' W' r' => go d m' w' v e x' W' r'
    | nx ρ m' => exact fun w' σ x' W' _ => go .non m' w' .non e x' W' .non
    | ex x ρ m' =>
      cases e
      exact fun w' σ cls dd x' W' _ rx => p w' cls dd x' W' rx
    | bk ρ m' => cases e
    | ct ρ m' => cases e
/-- .. as a def that is called: its defaults told by dvs, dds -/
theorem fnE_of {C : Cs} {x : Str} {k n i : Nat} {f : Addr} {fd : FuncData} {ps : List Str} {F : List D → List R → Option Rs} {ds : List Value} {dvs : List V} {dds : List D} (G : FnOk C.P C.w C.T.K C.mg C.base (L2N.CX C.P C.w) k f fd ps (fun vs H Q E => vs.length = ps.length ∧ spD C.T F vs H Q E)) (hk : k ≤ C.L) (hm : C.mg x = some (.ref f))
    (kp : PySem.W.keepIn C.T.K (.ref f) = true) (hb : Binds C.T.K fd ps ds) (hd : Vals dvs ds) (hdd : ∀ Hs al, RepL C.T Hs al dvs dds) (hn : n + dds.length = ps.length) (hg : ∀ as m, as.length = n → C.g.F i as m = F (as ++ dds) m) : FnE C x n i := by
  refine ⟨k, f, fd, ps, _, ds, dvs, G, hk, hm, kp, hb, hd, fun vs H Q E hl h => ?_⟩
  obtain ⟨w, as, m, o, rfl, W, r, e, p⟩ := h
  have l1 := r.length
  have l2 := (hdd w.Hs w.al).length
  refine ⟨by rw [List.length_append]; omega, w, as ++ dds, m, o, rfl, W, r.append (hdd _ _), ?_, p⟩
  rw [← hg as m (by omega)]
  exact e
theorem fnE_0 {C : Cs} {x : Str} {k n i : Nat} {f : Addr} {fd : FuncData} {ps : List Str} (G : FnOk C.P C.w C.T.K C.mg C.base (L2N.CX C.P C.w) k f fd ps (fun vs H Q E => vs.length = ps.length ∧ spD C.T (C.g.F i) vs H Q E)) (hk : k ≤ C.L) (hm : C.mg x = some (.ref f))
    (kp : PySem.W.keepIn C.T.K (.ref f) = true) (hb : Binds C.T.K fd ps []) (hn : n = ps.length) : FnE C x n i :=
  fnE_of (dds := []) G hk hm kp hb .nil (fun _ _ => .nil) (by simpa using hn) fun as m _ => by rw [List.append_nil]
end Dv

namespace Dv
open PySem PySem.Spec PyProof.Rows
open L2 hiding Takes XE CX MkP PMk ps_raise ps_try_as ps_try_many HdsOk takes_of passAt passes_call mk_of pmk_own
open L2N (Takes XE CX MkP PMk ps_raise ps_try_as ps_try_many HdsOk takes_of passAt passes_call mk_of pmk_own Zn Zn.steady)

/-! ### names of the module, constants of a class -/
inductive Fixed : D → V → Prop
  | non : Fixed .non .non
  | bl (b : Bool) : Fixed (.bl b) (.bl b)
  | int (i : Int) : Fixed (.int i) (.int i)
  | str (x : Str) : Fixed (.str x) (.str x)
theorem Fixed.rep {T : Tb} {Hs : Hp} {al : List Addr} {d : D} {v : V} (h : Fixed d v) : Rep T Hs al v d := by
  cases h
  · exact .non
  · exact .bl _
  · exact .int _
  · exact .str _
section
variable {C : Cs}
theorem de_glob {x : Str} {d : D} {v : V} {u : Value} {pos : Pos} (hg : C.sc.names.lookup x = some .globalImplicit) (hm : C.mg x = some u) (r : RelV v u) (f : Fixed d v) (hd : (x == ("__debug__" : Str)) = false) : DE C (.Name x pos) (evE C.g (.cst d)) :=
  ⟨_, fun X ok => pe_glob (show X.env.scope.names.lookup x = _ by rw [ok.sc]; exact hg) (by rw [ok.mg]; exact hm) r hd, fun σ w ρ m Q o W E e p => by simp only [evE] at e; cases e; exact p.here W f.rep⟩
/-- C.f, a constant of a class of the text -/
noncomputable def CvE (C : Cs) (x f : Str) (d : D) : Prop := ∃ a mc v u, C.mg x = some (.ref a) ∧ ClX.CRead C.T.K a mc ∧ ClX.CVal C.T.K a mc f v u ∧ Fixed d v
theorem de_cval {x f : Str} {d : D} {p pos : Pos} (hg : C.sc.names.lookup x = some .globalImplicit) (h : CvE C x f d) (hd : (x == ("__debug__" : Str)) = false) : DE C (.Attribute (.Name x p) f pos) (evE C.g (.cst d)) := by
  obtain ⟨a, mc, v, u, hm, h1, h2, h3⟩ := h
  refine ⟨_, fun X ok => by
    have := ClX.pe_cval (X := X) (f := f) (pos := pos) (pe_glob (pos := p) (show X.env.scope.names.lookup x = _ by rw [ok.sc]; exact hg) (by rw [ok.mg]; exact hm) (v := .ref a) rfl hd) rfl
    rw [ok.K] at this
    exact this, fun σ w ρ m Q o W E e p => ?_⟩
  simp only [evE] at e
  cases e
  exact ⟨a, mc, v, u, rfl, h1, h2, p.here W h3.rep⟩

/-! ### instances -/
/-- an instance made: its __init__ runs, then (fz) it is told as frozen -/
noncomputable def mkD (nm : Nat → List Str) (fz : Bool) (F : List D → List R → Option Rs) (c : Nat) (ds : List D) (m : List R) : Option Rs := match F (.res m.length :: ds) (m ++ [.obj c []]) with
  | some (.ok .non m') => if fz then fin nm m m' (.res m.length) else some (.ok (.res m.length) m')
  | some (.ex x m') => some (.ex x m')
  | _ => none
theorem Wf.un {T : Tb} {w : Wd} {m : List R} (W : Wf T w m) {p : Addr} (o : HO) (h : w.H p = none) : Wf T ⟨upd w.H p o, w.Hs, w.al⟩ m ∧ Ext w ⟨upd w.H p o, w.Hs, w.al⟩ :=
  ⟨⟨fun x u e => le_upd h x u (W.sub _ _ e), W.len, W.nd, W.off, fun k x r hk hr => RO.mono (w' := ⟨upd w.H p o, w.Hs, w.al⟩) (W.ok k x r hk hr) (Le.refl _) (LeA.refl _) fun u e => le_upd h x u e, fun p hp => (W.tab p hp).on (fun ps e => le_upd h _ _ e) (Le.refl _), W.bse⟩,
    ⟨Le.refl _, ⟨[], by simp, by simp⟩, fun x hx => .inl hx, fun x u hx _ _ => le_upd h x u hx, tbl_le (le_upd h)⟩⟩
theorem run_mkSD {X : Cx} {CX : CXT} {k : Nat} {f c : Addr} {fd : FuncData} {ps : List Str} {sp : Sp} {dvs : List V} {ds : List Value} {E : L2.St → XK} {pins : List (Addr × Obj)} {σ : L2.St} {H : Hp} {s : Shared} {Q : VK} {us : List Value} {vs : List V} (M : Mk X.K c f)
    (F : FnOk X.prog X.w X.K X.mg X.base CX k f fd ps sp) (hr : Room (k + 1) X.A) (hb : Binds X.K fd ps ds) (hd : Vals dvs ds) (hx : PassesAt CX X σ (E σ)) (I : Inv X pins σ H s) (r : Vals vs us)
    (h : ∀ x dx, H x = none → H dx = none → dx ≠ x → sp (.ref x :: (vs ++ dvs)) (upd (upd H dx (.own x)) x (.ins c dx [])) (fun v H2 => v = .non ∧ Q (.ref x) H2) (E σ)) :
    wpAny (model X.prog X.w) X.A (call (.ref c) us) (EP X pins σ Q) X.xe s := by
  have n1 : H (s.heap.objs.size + 1) = none := I.hok.fresh (Nat.le_succ _)
  have n2 : H s.heap.objs.size = none := I.hok.fresh (Nat.le_refl _)
  have q0 := h _ _ n1 n2 (Nat.ne_of_lt (Nat.lt_succ_self _))
  have J := Inv.made (C := c) I
  have rr : Vals (V.ref (s.heap.objs.size + 1) :: (vs ++ dvs)) (Value.ref (s.heap.objs.size + 1) :: (us ++ ds)) := .cons rfl (r.append hd)
  have ln := F.len _ _ _ _ q0
  rw [rr.length] at ln
  refine wpAny_call (make_map (f := f) I.kIn M.makes M.init (beq_iff_eq.mp M.fn) (codeAny_mono (F.run _ X.stack _ _ ⟨Value.ref (s.heap.objs.size + 1) :: us, []⟩ (Value.ref (s.heap.objs.size + 1) :: us ++ ds) _ _ (E σ) (hr.make c us []) (J.env0.make c us []) (hb _ _ J.kIn ln) rr q0) fun res s2 hq => ?_))
  cases res with
  | error e => exact hx pins _ _ e s2 J hq
  | ok fl =>
    cases fl with
    | ret u =>
      obtain ⟨v, H2, J2, rv, ev, q⟩ := J.after hq
      subst ev
      exact ⟨rv, .ref (s.heap.objs.size + 1), H2, J2, rfl, q⟩
    | next => exact hq.elim
    | brk => exact hq.elim
    | cont => exact hq.elim
noncomputable def tMkSD (c : Addr) (sp : Sp) (dvs : List V) (E : L2.St → XK) (t : TA) : TE := fun σ H Q => t σ H fun vs H1 => ∀ x dx, H1 x = none → H1 dx = none → dx ≠ x →
  sp (.ref x :: (vs ++ dvs)) (upd (upd H1 dx (.own x)) x (.ins c dx [])) (fun v H2 => v = .non ∧ Q (.ref x) H2) (E σ)
theorem pe_mkSD {X : Cx} {CX : CXT} {k : Nat} {f c : Addr} {fd : FuncData} {ps : List Str} {sp : Sp} {dvs : List V} {ds : List Value} {E : L2.St → XK} {x : Str} {p pos : Pos} {e : Expr} {es : List Expr} {t : TA} (M : Mk X.K c f) (F : FnOk X.prog X.w X.K X.mg X.base CX k f fd ps sp) (hr : Room (k + 1) X.A)
    (hg : Gl X x) (hm : X.mg x = some (.ref c)) (hb : Binds X.K fd ps ds) (hd : Vals dvs ds) (hx : ∀ σ, PassesAt CX X σ (E σ)) (ha : PA X (e :: es) t) (hdb : (x == ("__debug__" : Str)) = false) (he : starEach (e :: es) X.env = (false, eval e X.env) :: starEach es X.env) (hpl : (backTo pos (starEach es X.env)).any (·.1) = false) :
    PE X (.Call (.Name x p) (e :: es) [] pos) (tMkSD c sp dvs E t) := by
  refine ⟨fun pins s σ H Q I hh => ?_⟩
  refine wpAny_Call_Name_kw (ld_glob I hg hm ?_ hdb)
  exact PySem.W.callWith_K (h₀ := X.base) I.ok.mod.kin M.kp (thn (ha.run pos pins s σ H _ I hh) fun us s1 ⟨vs, H1, I1, r, q⟩ => ⟨I1.kIn, run_mkSD M F hr hb hd (hx σ) I1 r q⟩) he hpl
theorem mk_post {T : Tb} {g : Gt} {F : List D → List R → Option Rs} {fz : Bool} {nm : Nat → List Str} (hnm : nm = T.nm) {c : Nat} {w : Wd} {vs : List V} {ds : List D} {m : List R} {o : Rs} {Q : VK} {E : XK} (W : Wf T w m) (r : RepL T w.Hs w.al vs ds) (e : mkD nm fz F c ds m = some o) (p : PostC T w Q E o) {x dx : Addr} (hx : w.H x = none) (hdx : w.H dx = none) (ne : dx ≠ x) :
    spD T F (.ref x :: vs) (upd (upd w.H dx (.own x)) x (.ins (T.cl c) dx [])) (fun v H2 => v = .non ∧ Q (.ref x) H2) E := by
  obtain ⟨W1, x1⟩ := W.un (.own x) hdx
  have hx1 : (⟨upd w.H dx (.own x), w.Hs, w.al⟩ : Wd).H x = none := by
    show upd w.H dx _ x = none
    rw [upd_ne (Ne.symm ne)]; exact hx
  obtain ⟨W2, x2⟩ := W1.mu (o := .ins (T.cl c) dx []) (r := .obj c []) hx1 ⟨dx, [], by show upd (upd w.H dx _) x _ x = _; rw [upd_same], rfl, .nil⟩
  have x12 := x1.trans x2 W1
  have hal : (w.al ++ [x])[m.length]? = some x := by rw [← W.len]; simp
  unfold mkD at e
  cases e1 : F (.res m.length :: ds) (m ++ [.obj c []]) with
  | none => rw [e1] at e; cases e
  | some o1 =>
    rw [e1] at e
    refine ⟨_, .res m.length :: ds, m ++ [.obj c []], o1, rfl, W2, .cons (.res hal) (r.on x12), e1, ?_⟩
    cases o1 with
    | ex z m' =>
      cases e
      exact fun w' cls dd x' W' rx => p w' cls dd (x12.trans x' W2) W' rx
    | ok d m' =>
      cases d with
      | non =>
        intro w' v x' W' rv
        cases rv
        refine ⟨rfl, ?_⟩
        have rx : Rep T w'.Hs w'.al (.ref x) (.res m.length) := .res (x'.leA _ _ hal)
        have x3 := x12.trans x' W2
        cases fz with
        | true =>
          simp only [if_true] at e
          rw [hnm] at e
          obtain ⟨d2, m2, w2, rfl, hH, x4, W4, r4⟩ := fin_rep W x3 W' rx e
          rw [← hH]
          exact p w2 _ x4 W4 r4
        | false =>
          simp only [Bool.false_eq_true, if_false] at e
          cases e
          exact p w' _ x3 W' rx
      | _ => cases e
theorem de_mk [Cold C] {x : Str} {c i : Nat} {fz : Bool} {e : Expr} {es : List Expr} {xs : Es} {p pos : Pos} (M : MkE C x c xs.len i) (hnm : C.g.nm = C.T.nm) (hn : ∀ ds m, C.g.new c ds m = mkD C.g.nm fz (C.g.F i) c ds m) (hg : C.sc.names.lookup x = some .globalImplicit) (ha : DA C (e :: es) (evL C.g xs)) (hs : (e :: es).all noStar = true) (hdb : (x == ("__debug__" : Str)) = false) :
    DE C (.Call (.Name x p) (e :: es) [] pos) (evE C.g (.mk c xs)) := by
  obtain ⟨k, f, fd, ps, sp, ds, dvs, F, hk, hm, M, hb, hd, imp⟩ := M
  obtain ⟨t, pt, rt⟩ := ha
  rw [List.all_cons, Bool.and_eq_true] at hs
  refine ⟨tMkSD (C.T.cl c) sp dvs (WE C.W) t, fun X ok => ?_, fun σ w ρ m Q oo W E e0 pp => ?_⟩
  · have F' : FnOk X.prog X.w X.K X.mg X.base (L2N.CX X.prog X.w) k f fd ps sp := by rw [ok.prog, ok.w, ok.K, ok.mg, ok.base]; exact F
    exact pe_mkSD (X := X) (pos := pos) (p := p) (t := t) (by rw [ok.K]; exact M) F' ((ok.room Cold.out).mono hk) (show X.env.scope.names.lookup x = some .globalImplicit by rw [ok.sc]; exact hg) (by rw [ok.mg]; exact hm) (by rw [ok.K]; exact hb) hd (fun σ => passAt ok.tk σ) (pt X ok) hdb (star1 hs.1 es _) (stars hs.2)
  · simp only [evE] at e0
    refine rt.bndN W E e0 pp fun d m1 w1 v1 hl e1 x1 W1 r1 E1 p1 => fun x dx hx hdx ne => ?_
    rw [hn] at e1
    exact imp (.ref x :: v1) _ _ _ (by rw [List.length_cons, hl]) (mk_post (g := C.g) hnm W1 r1 e1 p1 hx hdx ne)
end
end Dv

namespace Dv
open PySem PySem.Spec PyProof.Rows
open L2 hiding Takes XE CX MkP PMk ps_raise ps_try_as ps_try_many HdsOk takes_of passAt passes_call mk_of pmk_own
open L2N (Takes XE CX MkP PMk ps_raise ps_try_as ps_try_many HdsOk takes_of passAt passes_call mk_of pmk_own Zn Zn.steady)

section
variable {C : Cs}
end
section
variable {C : Cs}
theorem de_v (i : Nat) {x : Str} {pos : Pos} (hN : C.N[i]? = some x := by rfl) (hv : Vis C.sc x := by first | exact Or.inl rfl | exact Or.inr (Or.inl rfl) | exact Or.inr (Or.inr rfl)) (hd : (x == ("__debug__" : Str)) = false := by decide) (hcd : (x == ("__classdict__" : Str)) = false := by decide) : DE C (.Name x pos) (evE C.g (.var i)) := de_var hN hv hd hcd
theorem dg_n (i : Nat) {x : Str} {pos : Pos} (hN : C.N[i]? = some x := by rfl) (hx : Loc C.sc x := by first | exact Or.inl rfl | exact Or.inr rfl) (hf : C.fn x = true ∨ C.sc.names.lookup x = some .local := by first | exact Or.inl rfl | exact Or.inr rfl) : DG C (.Name x pos) (.nm i) := dg_name hN hx hf
theorem ds_s (i : Nat) {y : Str} {py pos : Pos} {e : Expr} {x : Dv.E} (h : DE C e (evE C.g x)) (hN : C.N[i]? = some y := by rfl) (hx : Loc C.sc y := by first | exact Or.inl rfl | exact Or.inr rfl) (hf : C.fn y = true ∨ C.sc.names.lookup y = some .local := by first | exact Or.inl rfl | exact Or.inr rfl)
    (hs : ∀ env : Env, swapsWith e (some (.Name y py)) pos.line { env with scope := C.sc } = pure false := by intro _; rfl) : DS C (.Assign [.Name y py] e pos) (evS C.g (.asg (.nm i) x)) := ds_set hN hx hf h hs
theorem ds_a (i : Nat) {y : Str} {e : Expr} {x : Dv.E} {py pos : Pos} (o : Bop) (h : DE C e (evE C.g x)) (ho : o = .add ∨ o = .sub ∨ o = .mul := by decide) (hN : C.N[i]? = some y := by rfl) (hx : Loc C.sc y := by first | exact Or.inl rfl | exact Or.inr rfl) (hf : C.fn y = true ∨ C.sc.names.lookup y = some .local := by first | exact Or.inl rfl | exact Or.inr rfl) :
    DS C (.AugAssign (.Name y py) (oprB o) e pos) (evS C.g (.aug i o x)) := ds_aug ho hN hx hf h
end
/-- what raises is told as nothing -/
noncomputable def noX : Option Rs → Option Rs
  | some (.ok d m) => some (.ok d m)
  | _ => none
theorem noX_some {r : Option Rs} {o : Rs} (h : noX r = some o) : r = some o := by
  cases r with
  | none => cases h
  | some q => cases q with
    | ok d m => exact h
    | ex x m => cases h
theorem noX_noex {r : Option Rs} {x : Exn} {m : List R} : noX r ≠ some (.ex x m) := by
  cases r with
  | none => intro h; cases h
  | some q => cases q with
    | ok d m' => intro h; cases h
    | ex y m' => intro h; cases h
theorem spD_imp {T : Tb} {f g : List D → List R → Option Rs} (h : ∀ ds m o, g ds m = some o → f ds m = some o) {vs : List V} {H : Hp} {Q : VK} {E : XK} (s : spD T g vs H Q E) : spD T f vs H Q E := by
  obtain ⟨w, ds, m, o, e, W, r, e1, p⟩ := s
  exact ⟨w, ds, m, o, e, W, r, h _ _ _ e1, p⟩
/-- the same def at a place of a higher level, in a place that knows more -/
theorem fnE_at {C : Cs} {x : Str} {k n i : Nat} {f : Addr} {fd : FuncData} {ps : List Str} {F : List D → List R → Option Rs} (G : FnOk C.P C.w C.T.K C.mg C.base (L2N.CX C.P C.w) k f fd ps (fun vs H Q E => vs.length = ps.length ∧ spD C.T F vs H Q E)) (hk : k ≤ C.L) (hm : C.mg x = some (.ref f))
    (kp : PySem.W.keepIn C.T.K (.ref f) = true) (hb : Binds C.T.K fd ps []) (hn : n = ps.length) (hF : C.g.F i = F) : FnE C x n i := by
  subst hF
  exact fnE_0 G hk hm kp hb hn
theorem prE_at {C : Cs} {c i k : Nat} {x : Str} {p f : Addr} {fd : FuncData} {ps : List Str} {F : List D → List R → Option Rs} (G : FnOk C.P C.w C.T.K C.mg C.base (L2N.CX C.P C.w) k f fd ps (fun vs H Q E => vs.length = ps.length ∧ spD C.T F vs H Q E)) (hk : k + 1 ≤ C.L) (hc : Cls C.T.K (C.T.cl c)) (hp : PropOf C.T.K (C.T.cl c) x p f)
    (hb : Binds C.T.K fd ps []) (hn : ps.length = 1) (hF : ∀ ds m o, C.g.F i ds m = some o → F ds m = some o) : PrE C c x i :=
  ⟨k, p, f, fd, ps, _, G, hk, hc, hp, hb, fun vs H Q E hl h => ⟨hl.trans hn.symm, spD_imp hF h⟩⟩
theorem mkE_at {C : Cs} {c i k n : Nat} {x : Str} {f : Addr} {fd : FuncData} {ps : List Str} {F : List D → List R → Option Rs} (G : FnOk C.P C.w C.T.K C.mg C.base (L2N.CX C.P C.w) k f fd ps (fun vs H Q E => vs.length = ps.length ∧ spD C.T F vs H Q E)) (hk : k + 1 ≤ C.L) (hm : C.mg x = some (.ref (C.T.cl c))) (M : Mk C.T.K (C.T.cl c) f)
    (hb : Binds C.T.K fd ps []) (hn : n + 1 = ps.length) (hF : C.g.F i = F) : MkE C x c n i := by
  subst hF
  refine ⟨k, f, fd, ps, _, [], [], G, hk, hm, M, hb, .nil, fun vs H Q E hl h => ?_⟩
  rw [List.append_nil]
  exact ⟨hl.trans hn, h⟩
theorem mtE_at {C : Cs} {c i k n : Nat} {x : Str} {f : Addr} {fd : FuncData} {ps : List Str} {F : List D → List R → Option Rs} (G : FnOk C.P C.w C.T.K C.mg C.base (L2N.CX C.P C.w) k f fd ps (fun vs H Q E => vs.length = ps.length ∧ spD C.T F vs H Q E)) (hk : k ≤ C.L) (hc : Cls C.T.K (C.T.cl c)) (hm : Meth C.T.K (C.T.cl c) x f)
    (hb : Binds C.T.K fd ps []) (hn : n + 1 = ps.length) (hF : C.g.F i = F) : MtE C c x n i := by
  subst hF
  refine ⟨k, f, fd, ps, _, [], [], G, hk, hc, hm, hb, .nil, fun vs H Q E hl h => ?_⟩
  rw [List.append_nil]
  exact ⟨hl.trans hn, h⟩
/-- all but the tables -/
noncomputable def noTbl (H : Hp) : Hp := fun b => match H b with
  | some (.tbl _) => none
  | o => o
theorem noTbl_le (H : Hp) : Le (noTbl H) H := fun a o e => by
  unfold noTbl at e
  split at e
  · cases e
  · exact e
theorem noTbl_get {H : Hp} {a : Addr} {o : HO} (e : H a = some o) (n : ∀ ps, o ≠ .tbl ps) : noTbl H a = some o := by
  unfold noTbl
  rw [e]
  cases o <;> first | rfl | exact absurd rfl (n _)
/-- the law's own promise, from its answer on data -/
theorem law_end {T : Tb} {F : List D → List R → Option Rs} {n : Nat} (h : ∀ ns : List Int, ns.length ≤ n → ∃ m, F [.ext (ns.map .int)] [] = some (.ok (.bl true) m)) {H : Hp} {a : Addr} {ns : List Int} (hn : ns.length ≤ n) (hS : SqL T.K H a (ns.map V.int)) {Q : VK} {E : XK} (hq : ∀ H', Q (.bl true) H') (ht : ∀ p ∈ T.tb, H p.1 = some (.tbl #[])) (hb : T.bs = fun _ => none) (ha : T.ba = []) : spD T F [.ref a] H Q E := by
  obtain ⟨m, e⟩ := h ns hn
  have hS' : SqL T.K (noTbl H) a (ns.map V.int) := by
    rcases hS with (z | ⟨o, z⟩) | z
    · exact .inl (.inl (noTbl_get z fun ps q => by cases q))
    · exact .inl (.inr ⟨o, noTbl_get z fun ps q => by cases q⟩)
    · exact .inr z
  refine ⟨⟨H, noTbl H, []⟩, [.ext (ns.map .int)], [], _, rfl, ⟨noTbl_le H, rfl, .nil, fun a h => (List.not_mem_nil h).elim, fun k a r h _ => by simp at h, fun p hp => ⟨?_, #[], ht p hp, True.intro, fun pos cv hc => ?_⟩, by rw [hb]; exact fun a o e => (by cases e), by rw [ha]; exact fun k a e => (by simp at e)⟩, .one (.ext hS' (RepL.ofInts ns)), e, fun w' v x' W' r => ?_⟩
  · show noTbl H p.1 = none
    unfold noTbl
    rw [ht p hp]
  · have z : codeAmong pos [] = some cv := hc
    simp [codeAmong] at z
  · cases r
    exact hq _
/-- a field of one class, no property anywhere -/
theorem attOk_fld {C : Cs} {f : Str} {c0 : Nat} (hp : ∀ c, C.g.prop c f = none) (hf : ∀ c, f ∈ C.T.nm c → c = c0) (hc : Cls C.T.K (C.T.cl c0)) (hn : NoAttr C.T.K (C.T.cl c0) f) : AttOk C f :=
  ⟨fun c i h => (by rw [hp] at h; cases h), fun c i d m x m' h => (by rw [hp] at h; cases h), fun c _ h => (by rw [hf c h]; exact ⟨hc, hn⟩)⟩
/-- a def that nobody may call: no promise -/
theorem def_none {P : Program} {w : World} {K : PySem.W.Frag} {mg : Str → Option Value} {base : Heap} {CX : CXT} {k : Nat} {f : Addr} {fd : FuncData} {ps : List Str} {T : Tb} : FnOk P w K mg base CX k f fd ps (fun vs H Q E => vs.length = ps.length ∧ spD T (fun _ _ => none) vs H Q E) :=
  ⟨fun _ _ _ _ h => h.1, fun A outer s H args us vs Q E _ _ _ _ h => by obtain ⟨_, _, _, _, _, _, _, _, e, _⟩ := h; cases e⟩
end Dv

namespace Dv
open PySem PySem.Spec PyProof.Rows
open L2 hiding Takes XE CX MkP PMk ps_raise ps_try_as ps_try_many HdsOk takes_of passAt passes_call mk_of pmk_own
open L2N (Takes XE CX MkP PMk ps_raise ps_try_as ps_try_many HdsOk takes_of passAt passes_call mk_of pmk_own Zn Zn.steady)

/-! ### plain: what a def's end does -/
theorem okDL_map {α : Type} {n : Nat} {f : α → D} (h : ∀ x, okD n (f x) = true) : ∀ xs : List α, okDL n (xs.map f) = true
  | [] => by simp only [List.map_nil, okDL]
  | x :: xs => by simp only [List.map_cons, okDL, h, okDL_map h xs, Bool.and_self]
@[simp] theorem okDL_ints (n : Nat) (xs : List Int) : okDL n (xs.map D.int) = true := okDL_map (fun x => by simp only [okD]) xs
@[simp] theorem okDL_strs (n : Nat) (xs : List Str) : okDL n (xs.map D.str) = true := okDL_map (fun x => by simp only [okD]) xs
@[simp] theorem okD_non (n : Nat) : okD n .non = true := by simp only [okD]
@[simp] theorem okD_bl (n : Nat) (b : Bool) : okD n (.bl b) = true := by simp only [okD]
@[simp] theorem okD_int (n : Nat) (b : Int) : okD n (.int b) = true := by simp only [okD]
@[simp] theorem okD_str (n : Nat) (b : Str) : okD n (.str b) = true := by simp only [okD]
@[simp] theorem okD_tup (n : Nat) (xs : List D) : okD n (.tup xs) = okDL n xs := by simp only [okD]
@[simp] theorem okD_lst (n : Nat) (xs : List D) : okD n (.lst xs) = okDL n xs := by simp only [okD]
@[simp] theorem okD_ext (n : Nat) (xs : List D) : okD n (.ext xs) = okDL n xs := by simp only [okD]
@[simp] theorem okD_obj (n c : Nat) (xs : List D) : okD n (.obj c xs) = okDL n xs := by simp only [okD]
@[simp] theorem okD_res (n k : Nat) : okD n (.res k) = decide (k < n) := by simp only [okD]
@[simp] theorem okDL_nil (n : Nat) : okDL n [] = true := by simp only [okDL]
@[simp] theorem okDL_cons (n : Nat) (x : D) (xs : List D) : okDL n (x :: xs) = (okD n x && okDL n xs) := by simp only [okDL]
theorem conv_ok {nm : Nat → List Str} {n : Nat} {m : List R} {f : Nat} {d : D} (h : okD n d = true) : conv nm n m f d = some d := by
  cases f <;> simp only [conv, h, if_true]
theorem fin_self {nm : Nat → List Str} {m : List R} {d : D} (h : okD m.length d = true) : fin nm m m d = some (.ok d m) := by
  unfold fin
  rw [if_pos (.inl (List.take_length)), conv_ok h, List.take_length]
  rfl
theorem fin_app {nm : Nat → List Str} {m l : List R} {d : D} (h : okD m.length d = true) : fin nm m (m ++ l) d = some (.ok d m) := by
  unfold fin
  have e : (m ++ l).take m.length = m := List.take_left
  rw [if_pos (.inl e), conv_ok h, e]
  rfl
theorem get_app0 {m : List R} {r : R} {l : List R} : (m ++ r :: l)[m.length]? = some r := by simp
/-- a loop, by an invariant -/
theorem forF_inv {t : D → Ro → List R → Option SO} : ∀ (xs : List D) (P : Nat → Ro → List R → Prop) {ρ : Ro} {m : List R}, P 0 ρ m → (∀ i x ρ m, xs[i]? = some x → P i ρ m → ∃ ρ' m', (t x ρ m = some (.nx ρ' m') ∨ t x ρ m = some (.ct ρ' m')) ∧ P (i + 1) ρ' m') → ∃ ρ' m', forF t xs ρ m = some (.nx ρ' m') ∧ P xs.length ρ' m'
  | [], P, ρ, m, h0, _ => ⟨ρ, m, rfl, h0⟩
  | x :: xs, P, ρ, m, h0, hs => by
    obtain ⟨ρ1, m1, e1, p1⟩ := hs 0 x ρ m rfl h0
    obtain ⟨ρ2, m2, e2, p2⟩ := forF_inv xs (fun i => P (i + 1)) p1 (fun i y ρ m hy p => hs (i + 1) y ρ m hy p)
    refine ⟨ρ2, m2, ?_, p2⟩
    rcases e1 with e1 | e1 <;> simp only [forF, e1, e2]
/-- a small number -/
noncomputable def iN (n : Nat) : D := .int (n : Int)
@[simp] theorem okDL_iN (n : Nat) (xs : List Nat) : okDL n (xs.map iN) = true := okDL_map (fun x => by simp only [iN, okD]) xs
theorem forF_gen {t : D → Ro → List R → Option SO} {xs : List D} {ρ : Ro} {m : List R} {X : Option SO} (hX : forF t xs ρ m = X) (P : Nat → Ro → List R → Prop) (h0 : P 0 ρ m) (hs : ∀ i x ρ m, xs[i]? = some x → P i ρ m → ∃ ρ' m', (t x ρ m = some (.nx ρ' m') ∨ t x ρ m = some (.ct ρ' m')) ∧ P (i + 1) ρ' m') : ∃ ρ' m', X = some (.nx ρ' m') ∧ P xs.length ρ' m' := by
  rw [← hX]
  exact forF_inv xs P h0 hs
@[simp] theorem sq_tup (m : List R) (xs : List D) : sq m (.tup xs) = some xs := rfl
@[simp] theorem sq_lst (m : List R) (xs : List D) : sq m (.lst xs) = some xs := rfl
@[simp] theorem sq_ext (m : List R) (xs : List D) : sq m (.ext xs) = some xs := rfl
theorem sq_res {m : List R} {k : Nat} {xs : List D} (h : m[k]? = some (.lst xs)) : sq m (.res k) = some xs := by simp only [sq, h]
@[simp] theorem lsq_lst (m : List R) (xs : List D) : lsq m (.lst xs) = some xs := rfl
@[simp] theorem lsq_tup (m : List R) (xs : List D) : lsq m (.tup xs) = none := rfl
theorem lsq_res {m : List R} {k : Nat} {xs : List D} (h : m[k]? = some (.lst xs)) : lsq m (.res k) = some xs := by simp only [lsq, h]
@[simp] theorem fsq_tup (xs : List D) : fsq (.tup xs) = some xs := rfl
@[simp] theorem fsq_lst (xs : List D) : fsq (.lst xs) = some xs := rfl
@[simp] theorem fsq_ext (xs : List D) : fsq (.ext xs) = some xs := rfl
theorem resL_res {m : List R} {k : Nat} {xs : List D} (h : m[k]? = some (.lst xs)) : resL m (.res k) = some (k, xs) := by simp only [resL, h]
@[simp] theorem sq_top (m l : List R) (xs : List D) : sq (m ++ R.lst xs :: l) (.res m.length) = some xs := sq_res get_app0
@[simp] theorem lsq_top (m l : List R) (xs : List D) : lsq (m ++ R.lst xs :: l) (.res m.length) = some xs := lsq_res get_app0
@[simp] theorem resL_top (m l : List R) (xs : List D) : resL (m ++ R.lst xs :: l) (.res m.length) = some (m.length, xs) := resL_res get_app0
theorem compL_mapA {α : Type} {f : D → List R → Option (Option D × List R)} {m : List R} {g h : α → D} : ∀ (xs : List α) (acc : List D), (∀ x ∈ xs, f (g x) m = some (some (h x), m)) → acc.length + xs.length ≤ sizeLine → compL f (xs.map g) acc m = some (acc ++ xs.map h, m)
  | [], acc, _, _ => by simp [compL]
  | x :: xs, acc, hx, hl => by
    rw [List.length_cons] at hl
    simp only [List.map_cons, compL, hx x List.mem_cons_self]
    rw [if_pos (by omega), compL_mapA xs (acc ++ [h x]) (fun y hy => hx y (List.mem_cons_of_mem _ hy)) (by rw [List.length_append, List.length_singleton]; omega)]
    simp
@[simp] theorem ixD_tup (m : List R) (xs : List D) (i : Int) : ixD m (.tup xs) (.int i) = L2.atI xs i := rfl
@[simp] theorem ixD_lst (m : List R) (xs : List D) (i : Int) : ixD m (.lst xs) (.int i) = L2.atI xs i := rfl
@[simp] theorem ixD_ext (m : List R) (xs : List D) (i : Int) : ixD m (.ext xs) (.int i) = L2.atI xs i := rfl
theorem ixD_res {m : List R} {k : Nat} {xs : List D} (i : Int) (h : m[k]? = some (.lst xs)) : ixD m (.res k) (.int i) = L2.atI xs i := by
  show (sq m (.res k)).bind (fun xs => L2.atI xs i) = _
  rw [sq_res h]
  rfl
@[simp] theorem ixD_top (m l : List R) (xs : List D) (i : Int) : ixD (m ++ R.lst xs :: l) (.res m.length) (.int i) = L2.atI xs i := ixD_res i get_app0
theorem atI_at {α : Type} {xs : List α} {i : Nat} {x : α} (h : xs[i]? = some x) : L2.atI xs (i : Int) = some x := L2.atI_nat h
theorem getD_some {xs : List Nat} {i : Nat} (h : i < xs.length) : xs[i]? = some (xs[i]?.getD 0) := by
  rw [List.getElem?_eq_getElem h]
  rfl
theorem rngD_iN (a b : Nat) : rngD (a : Int) (b : Int) = (List.range' a (b - a)).map iN := by
  unfold rngD
  have : ((b : Int) - (a : Int)).toNat = b - a := by omega
  rw [this, List.range'_eq_map_range, List.map_map]
  refine List.map_congr_left fun x _ => ?_
  simp only [Function.comp_apply, iN]
  congr 1
theorem rngD_0 (b : Nat) : rngD 0 (b : Int) = (List.range b).map iN := by
  have := rngD_iN 0 b
  rw [List.range_eq_range']
  simpa using this
theorem flat_rep (x : D) : ∀ n : Nat, (List.replicate n [x]).flatten = List.replicate n x
  | 0 => rfl
  | n + 1 => by
    rw [List.replicate_succ, List.flatten_cons, flat_rep x n]
    rfl
end Dv

namespace Dv
open PySem PySem.Spec PyProof.Rows
open L2 hiding Takes XE CX MkP PMk ps_raise ps_try_as ps_try_many HdsOk takes_of passAt passes_call mk_of pmk_own
open L2N (Takes XE CX MkP PMk ps_raise ps_try_as ps_try_many HdsOk takes_of passAt passes_call mk_of pmk_own Zn Zn.steady)

/-! ### reckoning step by step: what simp is given -/
theorem q_okP (d : D) (m : List R) : okP (some (d, m)) = some (.ok d m) := rfl
theorem q_okB (b : Bool) (m : List R) : okB m (some b) = some (.ok (.bl b) m) := rfl
noncomputable def consK (d : D) : Option RsL → Option RsL
  | some (.ok ds m') => some (.ok (d :: ds) m')
  | some (.ex x m') => some (.ex x m')
  | none => none
theorem q_consL (d : D) (m : List R) (f : List R → Option RsL) : consL (some (.ok d m)) f = consK d (f m) := rfl
theorem q_consK (d : D) (ds : List D) (m : List R) : consK d (some (.ok ds m)) = some (.ok (d :: ds) m) := rfl
theorem q_newT (m : List R) (xs : List D) : newL true m xs = (.res m.length, m ++ [.lst xs]) := rfl
theorem q_newF (m : List R) (xs : List D) : newL false m xs = (.lst xs, m) := rfl
theorem q_le {n : Nat} (h : n ≤ 16000000) : (n ≤ sizeLine) = True := by
  rw [sizeLine_eq]
  exact eq_true (by omega)
/-! operators -/
theorem q_add (mu : Bool) (m : List R) (a b : Int) : bopD .add mu m (.int a) (.int b) = some (.int (a + b), m) := rfl
theorem q_sub (mu : Bool) (m : List R) (a b : Int) : bopD .sub mu m (.int a) (.int b) = some (.int (a - b), m) := rfl
theorem q_mulr {mu : Bool} {m : List R} {a b : Int} (h1 : -18446744073709551616 < b) (h2 : b < 18446744073709551616) : bopD .mul mu m (.int a) (.int b) = some (.int (a * b), m) := by
  show mulD mu m (.int a) (.int b) = _
  exact if_pos (.inr ⟨h1, h2⟩)
theorem q_fdiv {mu : Bool} {m : List R} {a b : Int} (h1 : 0 < b) (h2 : b < 18446744073709551616) : bopD .fdiv mu m (.int a) (.int b) = some (.int (a / b), m) := if_pos ⟨h1, h2⟩
theorem q_mod {mu : Bool} {m : List R} {a b : Int} (h1 : 0 < b) : bopD .mod mu m (.int a) (.int b) = some (.int (a % b), m) := if_pos h1
theorem powD {mu : Bool} {m : List R} {x y z : Int} (h : 0 ≤ y ∧ y ≤ 1000000 ∧ x.natAbs < 2 ^ 64) (e : x ^ y.toNat = z) : bopD .pow mu m (.int x) (.int y) = some (.int z, m) := by
  subst e
  exact if_pos h
theorem q_pow18 (mu : Bool) (m : List R) : bopD .pow mu m (.int 10) (.int 18) = some (.int 1000000000000000000, m) := powD (by decide) (by decide)
theorem q_addS {mu : Bool} {m : List R} {a b : Str} (h : a.length + b.length ≤ 16000000) : bopD .add mu m (.str a) (.str b) = some (.str (a ++ b), m) := by
  show addD mu m (.str a) (.str b) = _
  exact if_pos (by rw [sizeLine_eq]; omega)
/-- one item many times -/
theorem q_rep1 {mu : Bool} {m : List R} {x : D} {n : Int} (h1 : 0 ≤ n) (h : n ≤ 16000000) : bopD .mul mu m (.lst [x]) (.int n) = some (newL mu m (List.replicate n.toNat x)) := by
  show mulD mu m (.lst [x]) (.int n) = _
  have c : -(2 ^ 63) ≤ (n : Int) ∧ (n : Int) < 2 ^ 63 ∧ [x].length * (n : Int).toNat ≤ sizeLine := by
    refine ⟨by omega, by omega, ?_⟩
    rw [sizeLine_eq, List.length_singleton]
    omega
  simp only [mulD, lsq, if_pos c]
  rw [flat_rep]
/-! comparisons -/
theorem beq_dec {α : Type} [BEq α] [LawfulBEq α] [DecidableEq α] (a b : α) : (a == b) = decide (a = b) := by
  rw [Bool.eq_iff_iff, beq_iff_eq, decide_eq_true_eq]
theorem q_cmpLt (m : List R) (a b : Int) : copD .lt m (.int a) (.int b) = some (decide (a < b)) := rfl
theorem q_cmpLe (m : List R) (a b : Int) : copD .le m (.int a) (.int b) = some (decide (a ≤ b)) := rfl
theorem q_cmpGt (m : List R) (a b : Int) : copD .gt m (.int a) (.int b) = some (decide (b < a)) := rfl
theorem q_cmpGe (m : List R) (a b : Int) : copD .ge m (.int a) (.int b) = some (decide (b ≤ a)) := rfl
theorem q_isN (m : List R) (a : D) : copD .isN m a .non = some (isNon a) := rfl
theorem q_nonN : isNon .non = true := rfl
theorem q_nonI (i : Int) : isNon (.int i) = false := rfl
theorem q_nonS (i : Str) : isNon (.str i) = false := rfl
theorem q_nonT (i : List D) : isNon (.tup i) = false := rfl
theorem q_nonL (i : List D) : isNon (.lst i) = false := rfl
theorem q_nonB (i : Bool) : isNon (.bl i) = false := rfl
theorem q_eq (m : List R) (a b : D) : copD .eq m a b = eqD m a b := rfl
theorem q_ne (m : List R) (a b : D) : copD .ne m a b = (eqD m a b).map (!·) := rfl
theorem q_inn (m : List R) (a b : D) : copD .inn m a b = inD m a b := rfl
theorem q_eqI (m : List R) (a b : Int) : eqD m (.int a) (.int b) = some (decide (a = b)) := by
  have h : eqD m (.int a) (.int b) = some (PyData.eqv (.int a) (.int b)) := by
    show (if (PyData.int a).depth ≤ 64 ∧ (PyData.int b).depth ≤ 64 then some (PyData.eqv (.int a) (.int b)) else none) = _
    exact if_pos ⟨Nat.zero_le _, Nat.zero_le _⟩
  rw [h]
  simp only [PyData.eqv, beq_dec]
theorem q_eqB (m : List R) (a b : Bool) : eqD m (.bl a) (.bl b) = some (decide (a = b)) := by
  have h : eqD m (.bl a) (.bl b) = some (PyData.eqv (.bool a) (.bool b)) := by
    show (if (PyData.bool a).depth ≤ 64 ∧ (PyData.bool b).depth ≤ 64 then some (PyData.eqv (.bool a) (.bool b)) else none) = _
    exact if_pos ⟨Nat.zero_le _, Nat.zero_le _⟩
  rw [h]
  simp only [PyData.eqv, beq_dec]

/-! ### data that == compares as it stands -/
mutual
/-- numbers (no truth values), texts, None, and tuples and lists of these; at most n deep -/
noncomputable def pl : Nat → D → Bool
  | _, .non => true
  | _, .int _ => true
  | _, .str x => PyData.strOk x
  | n, .tup xs => decide (0 < n) && plL (n - 1) xs
  | n, .lst xs => decide (0 < n) && plL (n - 1) xs
  | _, _ => false
noncomputable def plL : Nat → List D → Bool
  | _, [] => true
  | n, x :: xs => pl n x && plL n xs
end
mutual
theorem pl_pd {m : List R} : ∀ {n : Nat} {d : D}, pl n d = true → ∃ p, pd m d = some p ∧ p.depth ≤ n
  | n, .non, _ => ⟨_, rfl, Nat.zero_le _⟩
  | n, .int i, _ => ⟨_, rfl, Nat.zero_le _⟩
  | n, .str x, h => by
    simp only [pl] at h
    exact ⟨.str x, by simp only [pd, h, if_true], Nat.zero_le _⟩
  | n, .tup xs, h => by
    simp only [pl, Bool.and_eq_true, decide_eq_true_eq] at h
    obtain ⟨p, e, k⟩ := plL_pd (m := m) h.2
    refine ⟨.tuple p, by simp only [pd, e, Option.map_some], ?_⟩
    simp only [PyData.depth]
    omega
  | n, .lst xs, h => by
    simp only [pl, Bool.and_eq_true, decide_eq_true_eq] at h
    obtain ⟨p, e, k⟩ := plL_pd (m := m) h.2
    refine ⟨.list p, by simp only [pd, e, Option.map_some], ?_⟩
    simp only [PyData.depth]
    omega
  | n, .bl b, h => by simp only [pl] at h; cases h
  | n, .ext b, h => by simp only [pl] at h; cases h
  | n, .obj c b, h => by simp only [pl] at h; cases h
  | n, .res c, h => by simp only [pl] at h; cases h
theorem plL_pd {m : List R} : ∀ {n : Nat} {ds : List D}, plL n ds = true → ∃ p, pdL m ds = some p ∧ PyData.depthAll p ≤ n
  | n, [], _ => ⟨_, rfl, Nat.zero_le _⟩
  | n, x :: xs, h => by
    simp only [plL, Bool.and_eq_true] at h
    obtain ⟨p, e, k⟩ := pl_pd (m := m) h.1
    obtain ⟨q, f, l⟩ := plL_pd (m := m) h.2
    refine ⟨p :: q, by simp only [pdL, e, f], ?_⟩
    simp only [PyData.depthAll]
    omega
end
theorem pl_pdR {m : List R} {n : Nat} {d : D} (h : pl n d = true) : ∃ p, pdR m d = some p ∧ p.depth ≤ n := by
  obtain ⟨p, e, k⟩ := pl_pd (m := m) h
  refine ⟨p, ?_, k⟩
  cases d <;> first | exact e | (simp only [pl] at h; cases h)
mutual
theorem eqv_pl {m : List R} : ∀ {n : Nat} {a b : D} {p q : PyData}, pl n a = true → pl n b = true → pd m a = some p → pd m b = some q → (PyData.eqv p q = true ↔ a = b)
  | n, .non, b, p, q, ha, hb, hp, hq => by
    cases hp
    cases b <;> simp only [pl, pd] at hb hq <;> first | cases hb | skip
    · cases hq; simp [PyData.eqv]
    · cases hq; simp [PyData.eqv]
    · rw [if_pos hb] at hq; cases hq; simp [PyData.eqv]
    · simp only [Bool.and_eq_true] at hb
      obtain ⟨p, e, k⟩ := plL_pd (m := m) hb.2
      rw [e] at hq; cases hq; simp [PyData.eqv]
    · simp only [Bool.and_eq_true] at hb
      obtain ⟨p, e, k⟩ := plL_pd (m := m) hb.2
      rw [e] at hq; cases hq; simp [PyData.eqv]
  | n, .int i, b, p, q, ha, hb, hp, hq => by
    simp only [pd] at hp
    cases hp
    cases b <;> simp only [pl, pd] at hb hq <;> first | cases hb | skip
    · cases hq; simp [PyData.eqv]
    · cases hq; simp [PyData.eqv]
    · rw [if_pos hb] at hq; cases hq; simp [PyData.eqv]
    · simp only [Bool.and_eq_true] at hb
      obtain ⟨p, e, k⟩ := plL_pd (m := m) hb.2
      rw [e] at hq; cases hq; simp [PyData.eqv]
    · simp only [Bool.and_eq_true] at hb
      obtain ⟨p, e, k⟩ := plL_pd (m := m) hb.2
      rw [e] at hq; cases hq; simp [PyData.eqv]
  | n, .str x, b, p, q, ha, hb, hp, hq => by
    simp only [pl] at ha
    simp only [pd, ha, if_true] at hp
    cases hp
    cases b <;> simp only [pl, pd] at hb hq <;> first | cases hb | skip
    · cases hq; simp [PyData.eqv]
    · cases hq; simp [PyData.eqv]
    · rw [if_pos hb] at hq; cases hq; simp [PyData.eqv]
    · simp only [Bool.and_eq_true] at hb
      obtain ⟨p, e, k⟩ := plL_pd (m := m) hb.2
      rw [e] at hq; cases hq; simp [PyData.eqv]
    · simp only [Bool.and_eq_true] at hb
      obtain ⟨p, e, k⟩ := plL_pd (m := m) hb.2
      rw [e] at hq; cases hq; simp [PyData.eqv]
  | n, .tup xs, b, p, q, ha, hb, hp, hq => by
    simp only [pl, Bool.and_eq_true] at ha
    obtain ⟨ps, e, k⟩ := plL_pd (m := m) ha.2
    simp only [pd, e, Option.map_some] at hp
    cases hp
    cases b <;> simp only [pl, pd] at hb hq <;> first | cases hb | skip
    · cases hq; simp [PyData.eqv]
    · cases hq; simp [PyData.eqv]
    · rw [if_pos hb] at hq; cases hq; simp [PyData.eqv]
    · simp only [Bool.and_eq_true] at hb
      obtain ⟨p', e', k⟩ := plL_pd (m := m) hb.2
      rw [e'] at hq; cases hq
      simp only [PyData.eqv]
      rw [eqv_plL ha.2 hb.2 e e']
      exact ⟨fun h => by rw [h], fun h => by cases h; rfl⟩
    · simp only [Bool.and_eq_true] at hb
      obtain ⟨p, e, k⟩ := plL_pd (m := m) hb.2
      rw [e] at hq; cases hq; simp [PyData.eqv]
  | n, .lst xs, b, p, q, ha, hb, hp, hq => by
    simp only [pl, Bool.and_eq_true] at ha
    obtain ⟨ps, e, k⟩ := plL_pd (m := m) ha.2
    simp only [pd, e, Option.map_some] at hp
    cases hp
    cases b <;> simp only [pl, pd] at hb hq <;> first | cases hb | skip
    · cases hq; simp [PyData.eqv]
    · cases hq; simp [PyData.eqv]
    · rw [if_pos hb] at hq; cases hq; simp [PyData.eqv]
    · simp only [Bool.and_eq_true] at hb
      obtain ⟨p, e, k⟩ := plL_pd (m := m) hb.2
      rw [e] at hq; cases hq; simp [PyData.eqv]
    · simp only [Bool.and_eq_true] at hb
      obtain ⟨p', e', k⟩ := plL_pd (m := m) hb.2
      rw [e'] at hq; cases hq
      simp only [PyData.eqv]
      rw [eqv_plL ha.2 hb.2 e e']
      exact ⟨fun h => by rw [h], fun h => by cases h; rfl⟩
  | n, .bl i, b, p, q, ha, hb, hp, hq => by simp only [pl] at ha; cases ha
  | n, .ext i, b, p, q, ha, hb, hp, hq => by simp only [pl] at ha; cases ha
  | n, .obj c i, b, p, q, ha, hb, hp, hq => by simp only [pl] at ha; cases ha
  | n, .res c, b, p, q, ha, hb, hp, hq => by simp only [pl] at ha; cases ha
theorem eqv_plL {m : List R} : ∀ {n : Nat} {a b : List D} {p q : List PyData}, plL n a = true → plL n b = true → pdL m a = some p → pdL m b = some q → (PyData.eqvAll p q = true ↔ a = b)
  | n, [], [], p, q, _, _, hp, hq => by cases hp; cases hq; simp [PyData.eqvAll]
  | n, [], y :: ys, p, q, _, hb, hp, hq => by
    cases hp
    simp only [plL, Bool.and_eq_true] at hb
    obtain ⟨p1, e1, _⟩ := pl_pd (m := m) hb.1
    obtain ⟨p2, e2, _⟩ := plL_pd (m := m) hb.2
    simp only [pdL, e1, e2] at hq
    cases hq
    simp [PyData.eqvAll]
  | n, x :: xs, [], p, q, ha, _, hp, hq => by
    cases hq
    simp only [plL, Bool.and_eq_true] at ha
    obtain ⟨p1, e1, _⟩ := pl_pd (m := m) ha.1
    obtain ⟨p2, e2, _⟩ := plL_pd (m := m) ha.2
    simp only [pdL, e1, e2] at hp
    cases hp
    simp [PyData.eqvAll]
  | n, x :: xs, y :: ys, p, q, ha, hb, hp, hq => by
    simp only [plL, Bool.and_eq_true] at ha hb
    obtain ⟨p1, e1, _⟩ := pl_pd (m := m) ha.1
    obtain ⟨p2, e2, _⟩ := plL_pd (m := m) ha.2
    obtain ⟨p3, e3, _⟩ := pl_pd (m := m) hb.1
    obtain ⟨p4, e4, _⟩ := plL_pd (m := m) hb.2
    simp only [pdL, e1, e2] at hp
    simp only [pdL, e3, e4] at hq
    cases hp
    cases hq
    simp only [PyData.eqvAll, Bool.and_eq_true]
    rw [eqv_pl ha.1 hb.1 e1 e3, eqv_plL ha.2 hb.2 e2 e4]
    constructor
    · rintro ⟨rfl, rfl⟩; rfl
    · intro h; cases h; exact ⟨rfl, rfl⟩
end
theorem eqD_iff {m : List R} {a b : D} (ha : pl 60 a = true) (hb : pl 60 b = true) : ∃ c, eqD m a b = some c ∧ (c = true ↔ a = b) := by
  obtain ⟨p, e, k⟩ := pl_pdR (m := m) ha
  obtain ⟨q, f, l⟩ := pl_pdR (m := m) hb
  refine ⟨PyData.eqv p q, ?_, ?_⟩
  · simp only [eqD, e, f]
    exact if_pos ⟨by omega, by omega⟩
  · refine eqv_pl (m := m) ha hb ?_ ?_
    · cases a <;> first | exact e | (simp only [pl] at ha; cases ha)
    · cases b <;> first | exact f | (simp only [pl] at hb; cases hb)
theorem eqD_t {m : List R} {a : D} (ha : pl 60 a = true) : eqD m a a = some true := by
  obtain ⟨c, e, k⟩ := eqD_iff (m := m) ha ha
  rw [e, k.mpr rfl]
theorem eqD_f {m : List R} {a b : D} (ha : pl 60 a = true) (hb : pl 60 b = true) (h : a ≠ b) : eqD m a b = some false := by
  obtain ⟨c, e, k⟩ := eqD_iff (m := m) ha hb
  rw [e]
  cases c with
  | false => rfl
  | true => exact absurd (k.mp rfl) h
theorem pl_int (n : Nat) (i : Int) : pl n (.int i) = true := by simp only [pl]
theorem pl_iN (n : Nat) (i : Nat) : pl n (iN i) = true := by simp only [pl, iN]
theorem pl_str {n : Nat} {x : Str} (h : PyData.strOk x = true) : pl n (.str x) = true := by simp only [pl, h]
theorem pl_tup {n : Nat} {xs : List D} (h : plL n xs = true) : pl (n + 1) (.tup xs) = true := by simp [pl, h]
theorem pl_lst {n : Nat} {xs : List D} (h : plL n xs = true) : pl (n + 1) (.lst xs) = true := by simp [pl, h]
theorem plL_all {n : Nat} : ∀ {xs : List D}, (∀ x ∈ xs, pl n x = true) → plL n xs = true
  | [], _ => by simp only [plL]
  | x :: xs, h => by
    simp only [plL, Bool.and_eq_true]
    exact ⟨h x List.mem_cons_self, plL_all fun y hy => h y (List.mem_cons_of_mem _ hy)⟩
theorem plL_map {α : Type} {n : Nat} {f : α → D} {xs : List α} (h : ∀ x ∈ xs, pl n (f x) = true) : plL n (xs.map f) = true := plL_all fun y hy => by
  obtain ⟨x, hx, rfl⟩ := List.mem_map.mp hy
  exact h x hx
theorem plL_iN (n : Nat) (xs : List Nat) : plL n (xs.map iN) = true := plL_map fun x _ => pl_iN n x
theorem plL_ints (n : Nat) (xs : List Int) : plL n (xs.map .int) = true := plL_map fun x _ => pl_int n x
theorem plL_mem {n : Nat} : ∀ {xs : List D} {x : D}, plL n xs = true → x ∈ xs → pl n x = true
  | [], _, _, h => by cases h
  | y :: ys, x, h, hx => by
    simp only [plL, Bool.and_eq_true] at h
    rcases List.mem_cons.mp hx with e | e
    · rw [e]; exact h.1
    · exact plL_mem h.2 e
mutual
theorem pl_mono : ∀ {n k : Nat} {d : D}, n ≤ k → pl n d = true → pl k d = true
  | n, k, .non, _, _ => by simp only [pl]
  | n, k, .int _, _, _ => by simp only [pl]
  | n, k, .str _, _, h => by simp only [pl] at h ⊢; exact h
  | n, k, .tup xs, l, h => by
    simp only [pl, Bool.and_eq_true, decide_eq_true_eq] at h ⊢
    exact ⟨by omega, plL_mono (by omega) h.2⟩
  | n, k, .lst xs, l, h => by
    simp only [pl, Bool.and_eq_true, decide_eq_true_eq] at h ⊢
    exact ⟨by omega, plL_mono (by omega) h.2⟩
  | n, k, .bl b, _, h => by simp only [pl] at h; cases h
  | n, k, .ext b, _, h => by simp only [pl] at h; cases h
  | n, k, .obj c b, _, h => by simp only [pl] at h; cases h
  | n, k, .res c, _, h => by simp only [pl] at h; cases h
theorem plL_mono : ∀ {n k : Nat} {d : List D}, n ≤ k → plL n d = true → plL k d = true
  | n, k, [], _, _ => by simp only [plL]
  | n, k, x :: xs, l, h => by
    simp only [plL, Bool.and_eq_true] at h ⊢
    exact ⟨pl_mono l h.1, plL_mono l h.2⟩
end
mutual
theorem okD_pl {k : Nat} : ∀ {n : Nat} {d : D}, pl n d = true → okD k d = true
  | n, .non, _ => by simp only [okD]
  | n, .int i, _ => by simp only [okD]
  | n, .str x, h => by simp only [okD]
  | n, .tup xs, h => by
    simp only [pl, Bool.and_eq_true] at h
    simp only [okD]
    exact okDL_pl h.2
  | n, .lst xs, h => by
    simp only [pl, Bool.and_eq_true] at h
    simp only [okD]
    exact okDL_pl h.2
  | n, .bl b, h => by simp only [pl] at h; cases h
  | n, .ext b, h => by simp only [pl] at h; cases h
  | n, .obj c b, h => by simp only [pl] at h; cases h
  | n, .res c, h => by simp only [pl] at h; cases h
theorem okDL_pl {k : Nat} : ∀ {n : Nat} {d : List D}, plL n d = true → okDL k d = true
  | n, [], _ => by simp only [okDL]
  | n, x :: xs, h => by
    simp only [plL, Bool.and_eq_true] at h
    simp only [okDL, Bool.and_eq_true]
    exact ⟨okD_pl h.1, okDL_pl h.2⟩
end
end Dv

namespace Dv
open PySem PySem.Spec PyProof.Rows
open L2 hiding Takes XE CX MkP PMk ps_raise ps_try_as ps_try_many HdsOk takes_of passAt passes_call mk_of pmk_own
open L2N (Takes XE CX MkP PMk ps_raise ps_try_as ps_try_many HdsOk takes_of passAt passes_call mk_of pmk_own Zn Zn.steady)

/-! ### the code, step by step, without a match in sight -/
noncomputable def varK (m : List R) : Option (Option D) → Option Rs
  | some (some d) => some (.ok d m)
  | _ => none
theorem varK_ok (m : List R) (d : D) : varK m (some (some d)) = some (.ok d m) := rfl
noncomputable def chnK (m : List R) (k : Option Rs) : Option Bool → Option Rs
  | some true => k
  | some false => some (.ok (.bl false) m)
  | none => none
theorem chnK_t (m : List R) (k : Option Rs) : chnK m k (some true) = k := rfl
theorem chnK_f (m : List R) (k : Option Rs) : chnK m k (some false) = some (.ok (.bl false) m) := rfl
noncomputable def andK (k : List R → Option Rs) (x : D) (m : List R) : Option Rs := match x with
  | .bl true => k m
  | .bl false => some (.ok (.bl false) m)
  | _ => none
theorem andK_t (k : List R → Option Rs) (m : List R) : andK k (.bl true) m = k m := rfl
theorem andK_f (k : List R → Option Rs) (m : List R) : andK k (.bl false) m = some (.ok (.bl false) m) := rfl
noncomputable def orK (k : List R → Option Rs) (x : D) (m : List R) : Option Rs := match x with
  | .bl false => k m
  | .bl true => some (.ok (.bl true) m)
  | _ => none
theorem orK_t (k : List R → Option Rs) (m : List R) : orK k (.bl false) m = k m := rfl
theorem orK_f (k : List R → Option Rs) (m : List R) : orK k (.bl true) m = some (.ok (.bl true) m) := rfl
noncomputable def notK (x : D) (m : List R) : Option Rs := match x with
  | .bl b => some (.ok (.bl (!b)) m)
  | _ => none
theorem notK_ok (b : Bool) (m : List R) : notK (.bl b) m = some (.ok (.bl (!b)) m) := rfl
noncomputable def iteK (a b : List R → Option Rs) (x : D) (m : List R) : Option Rs := match x with
  | .bl true => a m
  | .bl false => b m
  | _ => none
theorem iteK_t (a b : List R → Option Rs) (m : List R) : iteK a b (.bl true) m = a m := rfl
theorem iteK_f (a b : List R → Option Rs) (m : List R) : iteK a b (.bl false) m = b m := rfl
noncomputable def mthK (f : Mt) (x : D) (m : List R) (k : List R → Option Rs) : Bool → Option Rs
  | true => k m
  | false => none
theorem mthK_t (f : Mt) (x : D) (m : List R) (k : List R → Option Rs) : mthK f x m k true = k m := rfl
noncomputable def omtK (g : Gt) (n : Str) (k : Nat) (c : Nat → Option Rs) : Option Nat → Option Rs
  | some cl => match g.meth cl n k with
    | some f => c f
    | none => none
  | none => none
noncomputable def smK (c : Nat → Option Rs) : Option Nat → Option Rs
  | some f => c f
  | none => none
theorem smK_ok (c : Nat → Option Rs) (f : Nat) : smK c (some f) = c f := rfl
theorem omtK_ok (g : Gt) (n : Str) (k : Nat) (c : Nat → Option Rs) (cl : Nat) : omtK g n k c (some cl) = smK c (g.meth cl n k) := by
  unfold omtK smK
  rfl
noncomputable def fldK (m : List R) : Option D → Option Rs
  | some d => some (.ok d m)
  | none => none
theorem fldK_ok (m : List R) (d : D) : fldK m (some d) = some (.ok d m) := rfl
noncomputable def attK (g : Gt) (f : Str) (x : D) (m : List R) : Option Nat → Option Rs
  | some c => match g.prop c f with
    | some p => g.F p [x] m
    | none => fldK m (fldD g.nm m f x)
  | none => none
noncomputable def att2 (g : Gt) (f : Str) (x : D) (m : List R) : Option Nat → Option Rs
  | some p => g.F p [x] m
  | none => fldK m (fldD g.nm m f x)
theorem attK_ok (g : Gt) (f : Str) (x : D) (m : List R) (c : Nat) : attK g f x m (some c) = att2 g f x m (g.prop c f) := rfl
theorem att2_p (g : Gt) (f : Str) (x : D) (m : List R) (p : Nat) : att2 g f x m (some p) = g.F p [x] m := rfl
theorem att2_f (g : Gt) (f : Str) (x : D) (m : List R) : att2 g f x m none = fldK m (fldD g.nm m f x) := rfl
noncomputable def cprK (mu : Bool) : Option (List D × List R) → Option Rs
  | some (ys, m) => okP (some (newL mu m ys))
  | none => none
theorem cprK_ok (mu : Bool) (ys : List D) (m : List R) : cprK mu (some (ys, m)) = okP (some (newL mu m ys)) := rfl
noncomputable def liveK (j : Nat) (m : List R) : Option R → Option RsI
  | some (.lst xs) => some (.ok (.live j xs.length) m)
  | _ => none
noncomputable def seqK (x : D) (m : List R) : Option RsI := match x with
  | .tup xs => some (.ok (.fix xs) m)
  | .lst xs => some (.ok (.fix xs) m)
  | .ext xs => some (.ok (.fix xs) m)
  | .str z => some (.ok (.fix (signsD z)) m)
  | .res j => liveK j m m[j]?
  | _ => none
theorem seqK_t (xs : List D) (m : List R) : seqK (.tup xs) m = some (.ok (.fix xs) m) := rfl
theorem seqK_l (xs : List D) (m : List R) : seqK (.lst xs) m = some (.ok (.fix xs) m) := rfl
theorem seqK_e (xs : List D) (m : List R) : seqK (.ext xs) m = some (.ok (.fix xs) m) := rfl
noncomputable def rg1K (x : D) (m : List R) : Option RsI := match x with
  | .int i => if smallI i then some (.ok (.fix (rngD 0 i)) m) else none
  | _ => none
theorem rg1K_ok {i : Int} {m : List R} (h1 : -4611686018427387904 ≤ i) (h2 : i < 4611686018427387904) : rg1K (.int i) m = some (.ok (.fix (rngD 0 i)) m) := if_pos (decide_eq_true ⟨h1, h2⟩)
noncomputable def enuK (m : List R) : Option (List D) → Option RsI
  | some xs => some (.ok (.fix (enuD xs)) m)
  | none => none
theorem enuK_ok (m : List R) (xs : List D) : enuK m (some xs) = some (.ok (.fix (enuD xs)) m) := rfl
section
variable (g : Gt) (ρ : Ro) (m : List R)
theorem x_var (i : Nat) : evE g (.var i) ρ m = varK m ρ[i]? := by
  rw [evE]; unfold varK; rfl
theorem x_cst (d : D) : evE g (.cst d) ρ m = some (.ok d m) := by rw [evE]
theorem x_bop (o : Bop) (mu : Bool) (a b : E) : evE g (.bop o mu a b) ρ m = bnd (evE g a ρ m) fun x m => bnd (evE g b ρ m) fun y m => okP (bopD o mu m x y) := by rw [evE]
theorem x_cmp (o : Cop) (a b : E) : evE g (.cmp o a b) ρ m = bnd (evE g a ρ m) fun x m => bnd (evE g b ρ m) fun y m => okB m (copD o m x y) := by rw [evE]
theorem x_chn (o p : Cop) (a b c : E) : evE g (.chn o p a b c) ρ m = bnd (evE g a ρ m) fun x m => bnd (evE g b ρ m) fun y m => chnK m (bnd (evE g c ρ m) fun z m => okB m (copD p m y z)) (copD o m x y) := by
  rw [evE]
  rfl
theorem x_and (a b : E) : evE g (.and a b) ρ m = bnd (evE g a ρ m) (andK (evE g b ρ)) := by rw [evE]; rfl
theorem x_or (a b : E) : evE g (.or a b) ρ m = bnd (evE g a ρ m) (orK (evE g b ρ)) := by rw [evE]; rfl
theorem x_not (a : E) : evE g (.not a) ρ m = bnd (evE g a ρ m) notK := by rw [evE]; rfl
theorem x_ite (c a b : E) : evE g (.ite c a b) ρ m = bnd (evE g c ρ m) (iteK (evE g a ρ) (evE g b ρ)) := by rw [evE]; rfl
theorem x_tup (es : Es) : evE g (.tup es) ρ m = bndL (evL g es ρ m) fun ds m => if ds.length ≤ sizeLine then some (.ok (.tup ds) m) else none := by rw [evE]
theorem x_lst (mu : Bool) (es : Es) : evE g (.lst mu es) ρ m = bndL (evL g es ρ m) fun ds m => if ds.length ≤ sizeLine then okP (some (newL mu m ds)) else none := by rw [evE]
theorem x_ix (a b : E) : evE g (.ix a b) ρ m = bnd (evE g a ρ m) fun x m => bnd (evE g b ρ m) fun y m => fldK m (ixD m x y) := by
  rw [evE]
  congr 1
  funext x m
  congr 1
  funext y m
  unfold fldK
  cases ixD m x y <;> rfl
theorem x_cal (f : Nat) (es : Es) : evE g (.cal f es) ρ m = bndL (evL g es ρ m) fun ds m => g.F f ds m := by rw [evE]
theorem x_mk (f : Nat) (es : Es) : evE g (.mk f es) ρ m = bndL (evL g es ρ m) fun ds m => g.new f ds m := by rw [evE]
theorem x_bi (b : Bi) (mu : Bool) (es : Es) : evE g (.bi b mu es) ρ m = bndL (evL g es ρ m) fun ds m => okP (biD b mu m ds) := by rw [evE]
theorem x_isi (a : E) (ts : List Ty) : evE g (.isi a ts) ρ m = bnd (evE g a ρ m) fun x m => okB m (isiD m x ts) := by rw [evE]
theorem x_mth (f : Mt) (a : E) (es : Es) : evE g (.mth f a es) ρ m = bnd (evE g a ρ m) fun x m => mthK f x m (fun m => bndL (evL g es ρ m) fun ds m => okP (mtD f m x ds)) (mtOk f m x) := by
  rw [evE]
  congr 1
  funext x m
  cases h : mtOk f m x <;> rfl
theorem x_omt (n : Str) (a : E) (es : Es) : evE g (.omt n a es) ρ m = bnd (evE g a ρ m) fun x m => omtK g n es.len (fun f => bndL (evL g es ρ m) fun ds m => g.F f (x :: ds) m) (insD m n x) := by
  rw [evE]
  congr 1
theorem x_att (a : E) (f : Str) : evE g (.att a f) ρ m = bnd (evE g a ρ m) fun x m => attK g f x m (clsD m x) := by
  rw [evE]
  congr 1
theorem x_cpr (mu : Bool) (elt : E) (tg : G) (it : It) (cond : E) (own : List Nat) : evE g (.cmpr mu elt tg it cond own) ρ m = bndI (evI g it ρ m) fun s m => cprK mu (compD (compT tg own (evE g cond) (evE g elt) ρ) s m) := by
  rw [evE]
  congr 1
theorem x_nilL : evL g .nil ρ m = some (.ok [] m) := by rw [evL]
theorem x_consL (e : E) (r : Es) : evL g (.cons e r) ρ m = consL (evE g e ρ m) fun m => evL g r ρ m := by rw [evL]
theorem x_seq (e : E) : evI g (.seq e) ρ m = toI (evE g e ρ m) seqK := by
  rw [evI]
  congr 1
theorem x_rg1 (e : E) : evI g (.rg1 e) ρ m = toI (evE g e ρ m) rg1K := by rw [evI]; rfl
theorem x_enu (a : E) : evI g (.enu a) ρ m = toI (evE g a ρ m) fun x m => enuK m (fsq x) := by rw [evI]; rfl
end
/-! statements -/
noncomputable def sqK (k : Ro → List R → Option SO) : Option SO → Option SO
  | some (.nx ρ m) => k ρ m
  | o => o
theorem sqK_nx (k : Ro → List R → Option SO) (ρ : Ro) (m : List R) : sqK k (some (.nx ρ m)) = k ρ m := rfl
theorem sqK_rt (k : Ro → List R → Option SO) (d : D) (m : List R) : sqK k (some (.rt d m)) = some (.rt d m) := rfl
theorem sqK_ex (k : Ro → List R → Option SO) (x : Exn) (ρ : Ro) (m : List R) : sqK k (some (.ex x ρ m)) = some (.ex x ρ m) := rfl
noncomputable def ifK (a b : List R → Option SO) (x : D) (m : List R) : Option SO := match x with
  | .bl true => a m
  | .bl false => b m
  | _ => none
theorem ifK_t (a b : List R → Option SO) (m : List R) : ifK a b (.bl true) m = a m := rfl
theorem ifK_f (a b : List R → Option SO) (m : List R) : ifK a b (.bl false) m = b m := rfl
noncomputable def augK (k : D → Option SO) : Option (Option D) → Option SO
  | some (some x) => k x
  | _ => none
theorem augK_ok (k : D → Option SO) (x : D) : augK k (some (some x)) = k x := rfl
section
variable (g : Gt) (ρ : Ro) (m : List R)
theorem y_expr (e : E) : evS g (.expr e) ρ m = bndS (evE g e ρ m) ρ fun _ m => some (.nx ρ m) := by rw [evS]
theorem y_ret (e : E) : evS g (.ret e) ρ m = bndS (evE g e ρ m) ρ fun d m => some (.rt d m) := by rw [evS]
theorem y_asg (t : G) (e : E) : evS g (.asg t e) ρ m = bndS (evE g e ρ m) ρ fun d m => (setG t d ρ).map fun ρ' => .nx ρ' m := by rw [evS]
theorem y_aug (i : Nat) (o : Bop) (e : E) : evS g (.aug i o e) ρ m = augK (fun x => bndS (evE g e ρ m) ρ fun y m => (augD o x y).map fun z => .nx (ρ.set i (some z)) m) ρ[i]? := by
  rw [evS]; unfold augK; rfl
theorem y_ifs (c : E) (a b : Ss) : evS g (.ifs c a b) ρ m = bndS (evE g c ρ m) ρ (ifK (evSs g a ρ) (evSs g b ρ)) := by rw [evS]; rfl
theorem y_whl (n : Nat) (c : E) (b : Ss) : evS g (.whl n c b) ρ m = whlD (evE g c) (evSs g b) n ρ m := by rw [evS]
theorem y_forr (t : G) (it : It) (b : Ss) : evS g (.forr t it b) ρ m = bndSI (evI g it ρ m) ρ fun s m => forD (bodyD t (evSs g b)) s ρ m := by rw [evS]
theorem y_sti (o i e : E) : evS g (.sti o i e) ρ m = bndS (evE g e ρ m) ρ fun d m => bndS (evE g o ρ m) ρ fun x m => bndS (evE g i ρ m) ρ fun j m => (stiD m x j d).map fun m => .nx ρ m := by rw [evS]
theorem y_stf (o e : E) (f : Str) : evS g (.stf o f e) ρ m = bndS (evE g e ρ m) ρ fun d m => bndS (evE g o ρ m) ρ fun x m => (stfD g m x f d).map fun m => .nx ρ m := by rw [evS]
theorem y_nil : evSs g .nil ρ m = some (.nx ρ m) := by rw [evSs]
theorem y_cons (s : S) (r : Ss) : evSs g (.cons s r) ρ m = sqK (evSs g r) (evS g s ρ m) := by
  rw [evSs]; unfold sqK
  cases evS g s ρ m with
  | none => rfl
  | some o => cases o <;> rfl
end
theorem forD_fix (t : D → Ro → List R → Option SO) (xs : List D) (ρ : Ro) (m : List R) : forD t (.fix xs) ρ m = forF t xs ρ m := rfl
theorem compD_fix (f : D → List R → Option (Option D × List R)) (xs : List D) (m : List R) : compD f (.fix xs) m = compL f xs [] m := rfl
/-! a turn -/
noncomputable def envK (k : Ro → Option SO) : Option Ro → Option SO
  | some ρ => k ρ
  | none => none
theorem envK_ok (k : Ro → Option SO) (ρ : Ro) : envK k (some ρ) = k ρ := rfl
theorem y_body (t : G) (k : Ro → List R → Option SO) (d : D) (ρ : Ro) (m : List R) : bodyD t k d ρ m = envK (fun ρ' => k ρ' m) (setG t d ρ) := by
  unfold bodyD envK; rfl
noncomputable def cndK (e : List R → Option Rs) : Option Rs → Option (Option D × List R)
  | some (.ok (.bl true) m) => match e m with
    | some (.ok d m) => some (some d, m)
    | _ => none
  | some (.ok (.bl false) m) => some (none, m)
  | _ => none
noncomputable def eltK : Option Rs → Option (Option D × List R)
  | some (.ok d m) => some (some d, m)
  | _ => none
theorem eltK_ok (d : D) (m : List R) : eltK (some (.ok d m)) = some (some d, m) := rfl
theorem cndK_t (e : List R → Option Rs) (m : List R) : cndK e (some (.ok (.bl true) m)) = eltK (e m) := by
  unfold cndK eltK; rfl
theorem cndK_f (e : List R → Option Rs) (m : List R) : cndK e (some (.ok (.bl false) m)) = some (none, m) := rfl
noncomputable def envC (k : Ro → Option (Option D × List R)) : Option Ro → Option (Option D × List R)
  | some ρ => k ρ
  | none => none
theorem envC_ok (k : Ro → Option (Option D × List R)) (ρ : Ro) : envC k (some ρ) = k ρ := rfl
theorem x_turn (tg : G) (own : List Nat) (c e : Ro → List R → Option Rs) (ρ : Ro) (x : D) (m : List R) : compT tg own c e ρ x m = envC (fun ρ' => cndK (fun m => e ρ' m) (c ρ' m)) (setG tg x (wipeD ρ own)) := by
  unfold compT envC
  cases setG tg x (wipeD ρ own) with
  | none => rfl
  | some ρ' =>
    simp only
    cases c ρ' m with
    | none => rfl
    | some o =>
      cases o with
      | ex x m => rfl
      | ok d m =>
        cases d with
        | bl b => cases b <;> rfl
        | _ => rfl
theorem w_nm (i : Nat) (d : D) (ρ : Ro) : setG (.nm i) d ρ = some (ρ.set i (some d)) := by rw [setG]
theorem w_tp (gs : Gs) (ds : List D) (ρ : Ro) : setG (.tp gs) (.tup ds) ρ = setGs gs ds ρ := by rw [setG]
theorem w_nil (ρ : Ro) : setGs .nil [] ρ = some ρ := by rw [setGs]
noncomputable def setK (gs : Gs) (ds : List D) : Option Ro → Option Ro
  | some ρ => setGs gs ds ρ
  | none => none
theorem setK_ok (gs : Gs) (ds : List D) (ρ : Ro) : setK gs ds (some ρ) = setGs gs ds ρ := rfl
theorem w_cons (g : G) (r : Gs) (d : D) (ds : List D) (ρ : Ro) : setGs (.cons g r) (d :: ds) ρ = setK r ds (setG g d ρ) := by
  rw [setGs]; unfold setK; rfl
theorem w_wipe0 (ρ : Ro) : wipeD ρ [] = ρ := rfl
theorem w_wipe (ρ : Ro) (v : Nat) (vs : List Nat) : wipeD ρ (v :: vs) = (wipeD ρ vs).set v none := rfl
theorem w_len0 : Es.len .nil = 0 := rfl
theorem w_len (e : E) (r : Es) : Es.len (.cons e r) = r.len + 1 := rfl
end Dv

namespace Dv
open PySem PySem.Spec PyProof.Rows
open L2 hiding Takes XE CX MkP PMk ps_raise ps_try_as ps_try_many HdsOk takes_of passAt passes_call mk_of pmk_own
open L2N (Takes XE CX MkP PMk ps_raise ps_try_as ps_try_many HdsOk takes_of passAt passes_call mk_of pmk_own Zn Zn.steady)

/-! ### set of a list of numbers, in order -/
section
variable {P : Program} {w : World} {A : Around} {E : Value → Shared → Prop} {s : Shared}
end
noncomputable def rSetL (K : PySem.W.Frag) (w : World) : List V → Hp → VK → Prop := fun xs H Q => ∃ (a : Addr) (ns : List Int), xs = [V.ref a] ∧ SqL K H a (ns.map V.int) ∧ ns.length ≤ 4000 ∧ ∀ p, H p = none → Q (.ref p) (upd H p (SetO w p (fun j => decide (j ∈ ns)) (dd ns).length))
section
variable {C : Cs}
end
end Dv

namespace Dv
open PySem PySem.Spec PyProof.Rows GenW
open L2 hiding Takes XE CX MkP PMk ps_raise ps_try_as ps_try_many HdsOk takes_of passAt passes_call mk_of pmk_own
open L2N (Takes XE CX MkP PMk ps_raise ps_try_as ps_try_many HdsOk takes_of passAt passes_call mk_of pmk_own Zn Zn.steady)

/-! ### for, in a generator's body -/
section
variable {prog : Program} {w : World} {A : Around} {R : GenEnd} {Y : Protocol} {n : Nat} {s₀ : Shared} {c : Code} {fs : List PySem.Frame} {s : Shared} {env : Env} {K : Flow → Sem PySem.Fin} {J : Value → Sem PySem.Fin} {gd : Bool → Bool} {lv : List Value → List Value} {M : Model}
end
section
variable {prog : Program} {w : World} {A : Around} {R : GenEnd} {Y : Protocol} {n : Nat} {s₀ : Shared} {fs : List PySem.Frame} {s : Shared} {env : Env}
end
end Dv

namespace Dv
open PySem PySem.Spec PyProof.Rows GenW
open L2 hiding Takes XE CX MkP PMk ps_raise ps_try_as ps_try_many HdsOk takes_of passAt passes_call mk_of pmk_own
open L2N (Takes XE CX MkP PMk ps_raise ps_try_as ps_try_many HdsOk takes_of passAt passes_call mk_of pmk_own Zn Zn.steady)

/-! ### the code of a generator's body -/
inductive GB where
  | nil
  | plain (s : S) (r : GB)
  | yld (e : E) (r : GB)
  | forr (g : G) (it : It) (b : GB) (r : GB)
  | whl (n : Nat) (c : E) (b : GB) (r : GB)
inductive GO where
  | nx (ρ : Ro) (m : List R) (ys : List D) | rt (m : List R) (ys : List D) | bk (ρ : Ro) (m : List R) (ys : List D) | ct (ρ : Ro) (m : List R) (ys : List D)
/-- a loop over items that stand still -/
noncomputable def forG (t : D → Ro → List R → List D → Option GO) : List D → Ro → List R → List D → Option GO
  | [], ρ, m, ys => some (.nx ρ m ys)
  | x :: xs, ρ, m, ys => match t x ρ m ys with
    | some (.nx ρ m ys) => forG t xs ρ m ys
    | some (.ct ρ m ys) => forG t xs ρ m ys
    | some (.bk ρ m ys) => some (.nx ρ m ys)
    | o => o
noncomputable def whlG (c : Ro → List R → Option Rs) (t : Ro → List R → List D → Option GO) : Nat → Ro → List R → List D → Option GO
  | 0, _, _, _ => none
  | n + 1, ρ, m, ys => match c ρ m with
    | some (.ok (.bl true) m) => match t ρ m ys with
      | some (.nx ρ m ys) => whlG c t n ρ m ys
      | some (.ct ρ m ys) => whlG c t n ρ m ys
      | some (.bk ρ m ys) => some (.nx ρ m ys)
      | o => o
    | some (.ok (.bl false) m) => some (.nx ρ m ys)
    | _ => none
/-- what a plain statement leaves to what follows -/
noncomputable def plnG (k : Ro → List R → List D → Option GO) (ys : List D) : Option SO → Option GO
  | some (.nx ρ m) => k ρ m ys
  | some (.rt .non m) => some (.rt m ys)
  | some (.bk ρ m) => some (.bk ρ m ys)
  | some (.ct ρ m) => some (.ct ρ m ys)
  | _ => none
noncomputable def yldG (k : Ro → List R → List D → Option GO) (ρ : Ro) (ys : List D) : Option Rs → Option GO
  | some (.ok d m) => if ys.length < sizeLine then k ρ m (ys ++ [d]) else none
  | _ => none
noncomputable def thnG (k : Ro → List R → List D → Option GO) : Option GO → Option GO
  | some (.nx ρ m ys) => k ρ m ys
  | o => o
noncomputable def itG (k : List D → List R → Option GO) : Option RsI → Option GO
  | some (.ok (.fix xs) m) => k xs m
  | _ => none
noncomputable def bodyG (t : G) (k : Ro → List R → List D → Option GO) (d : D) (ρ : Ro) (m : List R) (ys : List D) : Option GO := match setG t d ρ with
  | some ρ' => k ρ' m ys
  | none => none
noncomputable def evG (g : Gt) : GB → Ro → List R → List D → Option GO
  | .nil, ρ, m, ys => some (.nx ρ m ys)
  | .plain s r, ρ, m, ys => plnG (evG g r) ys (evS g s ρ m)
  | .yld e r, ρ, m, ys => yldG (evG g r) ρ ys (evE g e ρ m)
  | .forr tg it b r, ρ, m, ys => thnG (evG g r) (itG (fun xs m => forG (bodyG tg (evG g b)) xs ρ m ys) (evI g it ρ m))
  | .whl n c b r, ρ, m, ys => thnG (evG g r) (whlG (evE g c) (evG g b) n ρ m ys)

/-! ### what is wanted -/
noncomputable def PostG (T : Tb) (w : Wd) (D : GEnds) : GO → Prop
  | .nx ρ m ys => ∀ w' σ vs, Ext w w' → Wf T w' m → ER T w' σ ρ → RepL T w'.Hs w'.al vs ys → D.nx vs σ w'.H
  | .rt m ys => ∀ w' vs, Ext w w' → Wf T w' m → RepL T w'.Hs w'.al vs ys → D.rt vs .non w'.H
  | .bk ρ m ys => ∀ w' σ vs, Ext w w' → Wf T w' m → ER T w' σ ρ → RepL T w'.Hs w'.al vs ys → D.bk vs σ w'.H
  | .ct ρ m ys => ∀ w' σ vs, Ext w w' → Wf T w' m → ER T w' σ ρ → RepL T w'.Hs w'.al vs ys → D.ct vs σ w'.H
theorem PostG.on {T : Tb} {w w1 : Wd} {m : List R} {D : GEnds} {o : GO} (h : PostG T w D o) (e : Ext w w1) (V : Wf T w1 m) : PostG T w1 D o := by
  cases o with
  | nx ρ m' ys => exact fun w' s vs e' W' r q => h w' s vs (e.trans e' V) W' r q
  | rt m' ys => exact fun w' vs e' W' q => h w' vs (e.trans e' V) W' q
  | bk ρ m' ys => exact fun w' s vs e' W' r q => h w' s vs (e.trans e' V) W' r q
  | ct ρ m' ys => exact fun w' s vs e' W' r q => h w' s vs (e.trans e' V) W' r q
noncomputable def RunsG (C : Cs) (t : TGn) (f : Ro → List R → List D → Option GO) : Prop :=
  ∀ (σ : L2.St) (w : Wd) (ρ : Ro) (m : List R) (ys : List D) (vs : List V) (D : GEnds) (o : GO), Wf C.T w m → ER C.T w σ ρ → RepL C.T w.Hs w.al vs ys → f ρ m ys = some o → PostG C.T w D o → t D vs σ w.H
section
variable {C : Cs}
/-- the outcome of a statement that hands out, for what follows it -/
theorem PostG.thn {w : Wd} {m : List R} {ys : List D} {D : GEnds} {u : TGn} {r : GB} {o1 o : GO} (j : RunsG C u (evG C.g r)) (e : thnG (evG C.g r) (some o1) = some o) (pp : PostG C.T w D o) (V : ∀ w', Ext w w' → ∀ m', Wf C.T w' m' → PostG C.T w' D o) : PostG C.T w { D with nx := fun ys' σ' H' => u D ys' σ' H' } o1 := by
  cases o1 with
  | nx ρ1 m1 ys1 => exact fun w1 σ1 vs1 x1 W1 E1 r1 => j σ1 w1 ρ1 m1 ys1 vs1 D o W1 E1 r1 e (V w1 x1 m1 W1)
  | rt m1 ys1 => cases e; exact pp
  | bk ρ1 m1 ys1 => cases e; exact pp
  | ct ρ1 m1 ys1 => cases e; exact pp
/-! ### generator defs -/
/-- what a generator def hands out (its own things stay changeable) -/
noncomputable def runG (g : Gt) (N : Nat) (b : GB) (ds : List D) (m : List R) : Option (List D × List R) := match evG g b (ds.map some ++ List.replicate (N - ds.length) none) m [] with
  | some (.nx _ m' ys) => some (ys, m')
  | some (.rt m' ys) => some (ys, m')
  | _ => none
end
end Dv

namespace Dv
open PySem PySem.Spec PyProof.Rows
open L2 hiding Takes XE CX MkP PMk ps_raise ps_try_as ps_try_many HdsOk takes_of passAt passes_call mk_of pmk_own
open L2N (Takes XE CX MkP PMk ps_raise ps_try_as ps_try_many HdsOk takes_of passAt passes_call mk_of pmk_own Zn Zn.steady)

theorem iN_eq (n : Nat) : iN n = .int (n : Int) := rfl
theorem atI_nn {α : Type} {xs : List α} {i : Int} (h : 0 ≤ i) : L2.atI xs i = xs[i.toNat]? := by
  unfold L2.atI L2.ixN
  rw [if_pos h]
  by_cases h2 : i < xs.length
  · rw [if_pos h2]; rfl
  · rw [if_neg h2, List.getElem?_eq_none (by omega)]; rfl
theorem atI_natN {α : Type} {xs : List α} (i : Nat) : L2.atI xs (i : Int) = xs[i]? := by
  rw [atI_nn (by omega)]; rfl
theorem ixN_nn {n : Nat} {i : Int} (h : 0 ≤ i) (h2 : i < n) : L2.ixN n i = some i.toNat := by
  unfold L2.ixN
  rw [if_pos h, if_pos h2]
theorem q_lenT (mu : Bool) (m : List R) (xs : List D) : biD .len mu m [.tup xs] = some (.int xs.length, m) := rfl
theorem q_lenL (mu : Bool) (m : List R) (xs : List D) : biD .len mu m [.lst xs] = some (.int xs.length, m) := rfl
theorem q_listT (mu : Bool) (m : List R) (xs : List D) : biD .list mu m [.tup xs] = some (newL mu m xs) := rfl
theorem q_tupL (mu : Bool) (m : List R) (xs : List D) : biD .tuple mu m [.lst xs] = some (.tup xs, m) := rfl
theorem q_absI (mu : Bool) (m : List R) (i : Int) : biD .abs mu m [.int i] = some (.int (if i < 0 then -i else i), m) := rfl
theorem q_minII (mu : Bool) (m : List R) (i j : Int) : biD .min mu m [.int i, .int j] = some (.int (if j < i then j else i), m) := rfl
theorem asBlsM : ∀ xs : List Bool, asBls (xs.map .bl) = some xs
  | [] => rfl
  | x :: xs => by simp only [List.map_cons, asBls, asBlsM xs, Option.map_some]
theorem q_allL {mu : Bool} {m : List R} {bs : List Bool} : biD .all mu m [.lst (bs.map .bl)] = some (.bl (bs.all id), m) := by
  simp only [biD, lsq, asBlsM, Option.map_some]
theorem q_mtL {f : Mt} {m : List R} {ys : List D} : mtOk f m (.lst ys) = true := by
  simp [mtOk, lsq]
theorem q_augA (a b : Int) : augD .add (.int a) (.int b) = some (.int (a + b)) := rfl
theorem q_rngN (n : Nat) : rngD 0 (n : Int) = (List.range n).map iN := rngD_0 n

/-- what stands at k -/
noncomputable def atR (m : List R) (k : Nat) (f : List D → Option (D × List R)) : Option (D × List R) := match m[k]? with
  | some (.lst xs) => f xs
  | _ => none
noncomputable def gtK {α : Type} (f : List D → Option α) : Option R → Option α
  | some (.lst xs) => f xs
  | _ => none
theorem gtK_ok {α : Type} (f : List D → Option α) (xs : List D) : gtK f (some (.lst xs)) = f xs := rfl
theorem atR_g (m : List R) (k : Nat) (f : List D → Option (D × List R)) : atR m k f = gtK f m[k]? := by
  unfold atR gtK; rfl
theorem z_addRR (mu : Bool) (m : List R) (k j : Nat) : bopD .add mu m (.res k) (.res j) = atR m k fun a => atR m j fun b => if a.length + b.length ≤ sizeLine then some (newL mu m (a ++ b)) else none := by
  show addD mu m (.res k) (.res j) = _
  unfold atR
  simp only [addD, lsq]
  cases m[k]? with
  | none => rfl
  | some r =>
    cases r with
    | obj c fs => rfl
    | dK kvs => rfl
    | dL o us kvs => rfl
    | dT kvs => rfl
    | lst a =>
      cases m[j]? with
      | none => rfl
      | some r => cases r <;> rfl
theorem z_addLL (mu : Bool) (m : List R) (a b : List D) : bopD .add mu m (.lst a) (.lst b) = if a.length + b.length ≤ sizeLine then some (newL mu m (a ++ b)) else none := rfl
/-- an item of what stands at k -/
noncomputable def atX (m : List R) (k : Nat) (f : List D → Option D) : Option D := match m[k]? with
  | some (.lst xs) => f xs
  | _ => none
theorem atX_g (m : List R) (k : Nat) (f : List D → Option D) : atX m k f = gtK f m[k]? := by
  unfold atX gtK; rfl
theorem z_ixR (m : List R) (k : Nat) (i : Int) : ixD m (.res k) (.int i) = atX m k fun xs => L2.atI xs i := by
  show (sq m (.res k)).bind (fun xs => L2.atI xs i) = _
  unfold atX
  simp only [sq]
  cases m[k]? with
  | none => rfl
  | some r => cases r <;> rfl
theorem z_lenR (mu : Bool) (m : List R) (k : Nat) : biD .len mu m [.res k] = atR m k fun xs => some (.int xs.length, m) := by
  unfold atR
  simp only [biD, sq]
  cases m[k]? with
  | none => rfl
  | some r => cases r <;> rfl
noncomputable def popK (f : D → Option (D × List R)) : Option D → Option (D × List R)
  | some y => f y
  | none => none
theorem popK_ok (f : D → Option (D × List R)) (y : D) : popK f (some y) = f y := rfl
theorem z_pop {m : List R} {k : Nat} {i : Int} (h0 : 0 ≤ i) (h1 : i < 9000000000000000000) : mtD .pop m (.res k) [.int i] = atR m k fun ys => popK (fun y => some (y, m.set k (.lst (ys.eraseIdx i.toNat)))) ys[i.toNat]? := by
  show popD m (.res k) [.int i] = _
  unfold atR
  simp only [popD, resL]
  have c : 0 ≤ i ∧ i < 2 ^ 63 := ⟨h0, by omega⟩
  cases m[k]? with
  | none => rfl
  | some r =>
    cases r with
    | obj c fs => rfl
    | dK kvs => rfl
    | dL o us kvs => rfl
    | dT kvs => rfl
    | lst a =>
      simp only [if_pos c]
      cases a[i.toNat]? <;> rfl
/-- a test that asks for a list at k -/
noncomputable def isR (m : List R) (k : Nat) : Bool := match m[k]? with
  | some (.lst _) => true
  | _ => false
noncomputable def isK : Option R → Bool
  | some (.lst _) => true
  | _ => false
theorem isK_ok (xs : List D) : isK (some (.lst xs)) = true := rfl
theorem isR_g (m : List R) (k : Nat) : isR m k = isK m[k]? := by
  unfold isR isK; rfl
theorem z_mtR (f : Mt) (m : List R) (k : Nat) : mtOk f m (.res k) = isR m k := by
  unfold mtOk isR isTup
  simp only [lsq]
  cases m[k]? with
  | none => simp
  | some r => cases r <;> simp
noncomputable def atSt (m : List R) (k : Nat) (f : List D → Option (List R)) : Option (List R) := match m[k]? with
  | some (.lst xs) => f xs
  | _ => none
theorem atSt_g (m : List R) (k : Nat) (f : List D → Option (List R)) : atSt m k f = gtK f m[k]? := by
  unfold atSt gtK; rfl
noncomputable def stiK (f : Nat → Option (List R)) : Option Nat → Option (List R)
  | some j => f j
  | none => none
theorem stiK_ok (f : Nat → Option (List R)) (j : Nat) : stiK f (some j) = f j := rfl
theorem z_sti (m : List R) (k : Nat) (i : Int) (d : D) : stiD m (.res k) (.int i) d = atSt m k fun ys => stiK (fun j => some (m.set k (.lst (ys.set j d)))) (L2.ixN ys.length i) := by
  unfold atSt
  simp only [stiD, resL]
  cases m[k]? with
  | none => rfl
  | some r => cases r <;> rfl
theorem any_eqv {m : List R} {n : Nat} {a : D} {p : PyData} (ha : pl n a = true) (hp : pd m a = some p) : ∀ {xs : List D} {ps : List PyData}, plL n xs = true → pdL m xs = some ps → (ps.any (fun z => PyData.eqv z p) = true ↔ a ∈ xs)
  | [], ps, _, e => by cases e; simp
  | x :: xs, ps, h, e => by
    simp only [plL, Bool.and_eq_true] at h
    obtain ⟨p1, e1, _⟩ := pl_pd (m := m) h.1
    obtain ⟨p2, e2, _⟩ := plL_pd (m := m) h.2
    simp only [pdL, e1, e2] at e
    cases e
    rw [List.any_cons, Bool.or_eq_true, List.mem_cons, any_eqv ha hp h.2 e2, eqv_pl h.1 ha e1 hp]
    constructor
    · rintro (h | h)
      · exact .inl h.symm
      · exact .inr h
    · rintro (h | h)
      · exact .inl h.symm
      · exact .inr h
theorem plL_strs {n : Nat} {xs : List Str} (h : ∀ x ∈ xs, PyData.strOk x = true) : plL n (xs.map .str) = true := plL_map fun x hx => pl_str (h x hx)
theorem noX_okk (d : D) (m : List R) : noX (some (.ok d m)) = some (.ok d m) := rfl
/-- a while loop of K turns -/
theorem whlD_run {c : Ro → List R → Option Rs} {t : Ro → List R → Option SO} (P : Nat → Ro → List R → Prop) (K : Nat) (hs : ∀ i ρ m, i < K → P i ρ m → c ρ m = some (.ok (.bl true) m) ∧ ∃ ρ' m', (t ρ m = some (.nx ρ' m') ∨ t ρ m = some (.ct ρ' m')) ∧ P (i + 1) ρ' m') (he : ∀ ρ m, P K ρ m → c ρ m = some (.ok (.bl false) m)) :
    ∀ (n i : Nat) {ρ : Ro} {m : List R}, i ≤ K → K < n + i → P i ρ m → ∃ ρ' m', whlD c t n ρ m = some (.nx ρ' m') ∧ P K ρ' m'
  | 0, i, ρ, m, h1, h2, _ => by omega
  | n + 1, i, ρ, m, h1, h2, p => by
    by_cases hi : i = K
    · subst hi
      refine ⟨ρ, m, ?_, p⟩
      unfold whlD
      rw [he ρ m p]
      rfl
    · obtain ⟨e1, ρ1, m1, e2, p1⟩ := hs i ρ m (by omega) p
      obtain ⟨ρ2, m2, e3, p2⟩ := whlD_run P K hs he n (i + 1) (by omega) (by omega) p1
      refine ⟨ρ2, m2, ?_, p2⟩
      unfold whlD
      rw [e1]
      rcases e2 with e2 | e2 <;> simp only [bndS_ok, e2, e3]
theorem whlD_gen {c : Ro → List R → Option Rs} {t : Ro → List R → Option SO} {n : Nat} {ρ : Ro} {m : List R} {X : Option SO} (hX : whlD c t n ρ m = X) (P : Nat → Ro → List R → Prop) (K : Nat) (hn : K < n) (h0 : P 0 ρ m) (hs : ∀ i ρ m, i < K → P i ρ m → c ρ m = some (.ok (.bl true) m) ∧ ∃ ρ' m', (t ρ m = some (.nx ρ' m') ∨ t ρ m = some (.ct ρ' m')) ∧ P (i + 1) ρ' m') (he : ∀ ρ m, P K ρ m → c ρ m = some (.ok (.bl false) m)) :
    ∃ ρ' m', X = some (.nx ρ' m') ∧ P K ρ' m' := by
  rw [← hX]
  exact whlD_run P K hs he n 0 (Nat.zero_le _) (by omega) h0
theorem cls_obj (m : List R) (c : Nat) (xs : List D) : clsD m (.obj c xs) = some c := rfl
noncomputable def clK : Option R → Option Nat
  | some (.obj c _) => some c
  | _ => none
theorem clK_ok (c : Nat) (fs : List (Str × D)) : clK (some (.obj c fs)) = some c := rfl
theorem cls_res (m : List R) (k : Nat) : clsD m (.res k) = clK m[k]? := by
  unfold clsD clK; rfl
theorem fld_obj (nm : Nat → List Str) (m : List R) (f : Str) (c : Nat) (xs : List D) : fldD nm m f (.obj c xs) = xs[(nm c).idxOf f]? := rfl
theorem ins_obj (m : List R) (n : Str) (c : Nat) (xs : List D) : insD m n (.obj c xs) = some c := rfl
noncomputable def sfK (g : Gt) (m : List R) (k : Nat) (f : Str) (d : D) : Option R → Option (List R)
  | some (.obj c fs) => if fs.length < 20 ∧ (g.nm c).contains f ∧ (g.prop c f).isNone then some (m.set k (.obj c (putD f d fs))) else none
  | _ => none
theorem sfK_ok {g : Gt} {m : List R} {k : Nat} {f : Str} {d : D} {c : Nat} {fs : List (Str × D)} (h1 : fs.length < 20) (h2 : (g.nm c).contains f = true) (h3 : g.prop c f = none) : sfK g m k f d (some (.obj c fs)) = some (m.set k (.obj c (putD f d fs))) :=
  if_pos ⟨h1, h2, by rw [h3]; rfl⟩
theorem stf_res (g : Gt) (m : List R) (k : Nat) (f : Str) (d : D) : stfD g m (.res k) f d = sfK g m k f d m[k]? := by
  unfold stfD sfK; rfl
theorem allO_ok {nm : Nat → List Str} {n : Nat} {m : List R} {f : Nat} : ∀ {ys : List D}, okDL n ys = true → allO (conv nm n m f) ys = some ys
  | [], _ => rfl
  | y :: ys, h => by
    simp only [okDL, Bool.and_eq_true] at h
    simp only [allO, conv_ok h.1, allO_ok h.2]
theorem compL_fil {α : Type} {f : D → List R → Option (Option D × List R)} {m : List R} {g h : α → D} {b : α → Bool} : ∀ (xs : List α) (acc : List D), (∀ x ∈ xs, f (g x) m = some (if b x = true then some (h x) else none, m)) → acc.length + xs.length ≤ sizeLine → compL f (xs.map g) acc m = some (acc ++ (xs.filter b).map h, m)
  | [], acc, _, _ => by simp [compL]
  | x :: xs, acc, hx, hl => by
    rw [List.length_cons] at hl
    have e := hx x List.mem_cons_self
    cases hb : b x with
    | false =>
      rw [hb, if_neg Bool.false_ne_true] at e
      simp only [List.map_cons, compL, e]
      rw [compL_fil xs acc (fun y hy => hx y (List.mem_cons_of_mem _ hy)) (by omega), List.filter_cons_of_neg (by simp [hb])]
    | true =>
      rw [hb, if_pos rfl] at e
      simp only [List.map_cons, compL, e]
      rw [if_pos (by omega), compL_fil xs (acc ++ [h x]) (fun z hz => hx z (List.mem_cons_of_mem _ hz)) (by rw [List.length_append, List.length_singleton]; omega), List.filter_cons_of_pos hb]
      simp
theorem compL_inv {f : D → List R → Option (Option D × List R)} : ∀ (xs : List D) (P : Nat → List D → List R → Prop) {acc : List D} {m : List R}, P 0 acc m → (∀ i x acc m, xs[i]? = some x → P i acc m → ∃ y m', f x m = some (some y, m') ∧ P (i + 1) (acc ++ [y]) m') → acc.length + xs.length ≤ sizeLine → ∃ acc' m', compL f xs acc m = some (acc', m') ∧ P xs.length acc' m'
  | [], P, acc, m, h0, _, _ => ⟨acc, m, rfl, h0⟩
  | x :: xs, P, acc, m, h0, hs, hl => by
    rw [List.length_cons] at hl
    obtain ⟨y, m1, e1, p1⟩ := hs 0 x acc m rfl h0
    obtain ⟨acc2, m2, e2, p2⟩ := compL_inv xs (fun i => P (i + 1)) p1 (fun i y acc m hy p => hs (i + 1) y acc m hy p) (by rw [List.length_append, List.length_singleton]; omega)
    refine ⟨acc2, m2, ?_, p2⟩
    simp only [compL, e1]
    rw [if_pos (by omega), e2]
theorem compL_gen {f : D → List R → Option (Option D × List R)} {xs : List D} {m : List R} {X : Option (List D × List R)} (hX : compL f xs [] m = X) (hl : xs.length ≤ 16000000) (P : Nat → List D → List R → Prop) (h0 : P 0 [] m) (hs : ∀ i x acc m, xs[i]? = some x → P i acc m → ∃ y m', f x m = some (some y, m') ∧ P (i + 1) (acc ++ [y]) m') : ∃ acc' m', X = some (acc', m') ∧ P xs.length acc' m' := by
  rw [← hX]
  exact compL_inv xs P h0 hs (by rw [sizeLine_eq, List.length_nil]; omega)
theorem emod_bd (a : Int) {b : Int} (h : 0 < b) : 0 ≤ a % b ∧ a % b < b := ⟨Int.emod_nonneg _ (by omega), Int.emod_lt_of_pos _ h⟩
/-! isinstance -/
theorem isi_bl (m : List R) (b : Bool) (ts : List Ty) : isiD m (.bl b) ts = some (ts.any (tyIs .bool)) := rfl
theorem isi_int (m : List R) (b : Int) (ts : List Ty) : isiD m (.int b) ts = some (ts.any (tyIs .int)) := rfl
theorem isi_str (m : List R) (b : Str) (ts : List Ty) : isiD m (.str b) ts = some (ts.any (tyIs .str)) := rfl
theorem isi_tup (m : List R) (b : List D) (ts : List Ty) : isiD m (.tup b) ts = some (ts.any (tyIs .tuple)) := rfl
theorem isi_lst (m : List R) (b : List D) (ts : List Ty) : isiD m (.lst b) ts = some (ts.any (tyIs .list)) := rfl
theorem ty_int_int : tyIs .int .int = true := rfl
theorem ty_int_bool : tyIs .int .bool = false := rfl
theorem ty_bool_bool : tyIs .bool .bool = true := rfl
theorem ty_str_int : tyIs .str .int = false := rfl
theorem ty_str_bool : tyIs .str .bool = false := rfl
theorem ty_str_str : tyIs .str .str = true := rfl
theorem ty_tuple_int : tyIs .tuple .int = false := rfl
theorem ty_tuple_bool : tyIs .tuple .bool = false := rfl
theorem ty_tuple_str : tyIs .tuple .str = false := rfl
theorem ty_tuple_tuple : tyIs .tuple .tuple = true := rfl
theorem ty_tuple_list : tyIs .tuple .list = false := rfl
theorem ty_list_int : tyIs .list .int = false := rfl
theorem ty_list_bool : tyIs .list .bool = false := rfl
theorem ty_list_str : tyIs .list .str = false := rfl
theorem ty_list_tuple : tyIs .list .tuple = false := rfl
theorem ty_list_list : tyIs .list .list = true := rfl
mutual
/-- short everywhere -/
noncomputable def shD : D → Bool
  | .tup xs => decide (xs.length ≤ 4000) && shDL xs
  | .lst xs => decide (xs.length ≤ 4000) && shDL xs
  | _ => true
noncomputable def shDL : List D → Bool
  | [] => true
  | x :: xs => shD x && shDL xs
end
theorem shDL_mem : ∀ {xs : List D} {x : D}, shDL xs = true → x ∈ xs → shD x = true
  | y :: ys, x, h, hx => by
    simp only [shDL, Bool.and_eq_true] at h
    rcases List.mem_cons.mp hx with e | e
    · rw [e]; exact h.1
    · exact shDL_mem h.2 e
theorem fin_nil {nm : Nat → List Str} {m : List R} {d : D} (h : okD 0 d = true) : fin nm [] m d = some (.ok d []) := by
  have := fin_app (nm := nm) (m := []) (l := m) h
  exact this
/-! generators -/
noncomputable def endG : Option GO → Option (List D × List R)
  | some (.nx _ m' ys) => some (ys, m')
  | some (.rt m' ys) => some (ys, m')
  | _ => none
theorem runG_eq (g : Gt) (N : Nat) (b : GB) (ds : List D) (m : List R) : runG g N b ds m = endG (evG g b (ds.map some ++ List.replicate (N - ds.length) none) m []) := by
  unfold runG endG
  cases evG g b (ds.map some ++ List.replicate (N - ds.length) none) m [] with
  | none => rfl
  | some o => cases o <;> rfl
section
variable (g : Gt) (ρ : Ro) (m : List R) (ys : List D)
end
theorem inL_iff {m : List R} {a : D} {xs : List D} (ha : pl 60 a = true) (hx : plL 60 xs = true) : ∃ c, inD m a (.lst xs) = some c ∧ (c = true ↔ a ∈ xs) := by
  obtain ⟨p, e, k⟩ := pl_pdR (m := m) ha
  obtain ⟨ps, f, l⟩ := plL_pd (m := m) hx
  have e' : pd m a = some p := by
    cases a <;> first | exact e | (simp only [pl] at ha; cases ha)
  refine ⟨ps.any fun z => PyData.eqv z p, ?_, any_eqv ha e' hx f⟩
  have g : pdR m (.lst xs) = some (.list ps) := by
    show pd m (.lst xs) = _
    simp only [pd, f, Option.map_some]
  have c : p.depth ≤ 64 ∧ (PyData.list ps).depth ≤ 64 := ⟨by omega, by simp only [PyData.depth]; omega⟩
  unfold inD
  split
  · rename_i x y h1 h2
    cases h2
  · simp only [e, g]
    exact if_pos c
theorem inL_f {m : List R} {a : D} {xs : List D} (ha : pl 60 a = true) (hx : plL 60 xs = true) (h : a ∉ xs) : inD m a (.lst xs) = some false := by
  obtain ⟨c, e, k⟩ := inL_iff (m := m) ha hx
  rw [e]
  cases c with
  | false => rfl
  | true => exact absurd (k.mp rfl) h
theorem q_eqS {m : List R} {a b : Str} (ha : PyData.strOk a = true) (hb : PyData.strOk b = true) : eqD m (.str a) (.str b) = some (decide (a = b)) := by
  by_cases h : a = b
  · subst h
    rw [eqD_t (pl_str ha), decide_eq_true rfl]
  · rw [eqD_f (pl_str ha) (pl_str hb) (fun e => h (D.str.inj e)), decide_eq_false h]
/-! the source of draws: what stands first in the store -/
/-- a def's end -/
noncomputable def endD (nm : Nat → List Str) (fz : Bool) (m : List R) : Option SO → Option Rs
  | some (.rt d m') => if fz then fin nm m m' d else some (.ok d m')
  | some (.nx _ m') => if fz then fin nm m m' .non else some (.ok .non m')
  | some (.ex x _ m') => some (.ex x m')
  | _ => none
theorem runD_eq (g : Gt) (N : Nat) (b : Ss) (fz : Bool) (ds : List D) (m : List R) : runD g N b fz ds m = endD g.nm fz m (evSs g b (ds.map some ++ List.replicate (N - ds.length) none) m) := by
  unfold runD endD
  cases evSs g b (ds.map some ++ List.replicate (N - ds.length) none) m with
  | none => rfl
  | some o => cases o <;> rfl
theorem end_rtT (nm : Nat → List Str) (m : List R) (d : D) (m' : List R) : endD nm true m (some (.rt d m')) = fin nm m m' d := rfl
theorem end_rtF (nm : Nat → List Str) (m : List R) (d : D) (m' : List R) : endD nm false m (some (.rt d m')) = some (.ok d m') := rfl
theorem end_nxF (nm : Nat → List Str) (m : List R) (d : Ro) (m' : List R) : endD nm false m (some (.nx d m')) = some (.ok .non m') := rfl
theorem end_ex (nm : Nat → List Str) (fz : Bool) (m : List R) (x : Exn) (d : Ro) (m' : List R) : endD nm fz m (some (.ex x d m')) = some (.ex x m') := rfl
/-! the store -/
theorem q_get0 {m l : List R} : (m ++ l)[m.length]? = l[0]? := by
  rw [List.getElem?_append_right (Nat.le_refl _), Nat.sub_self]
theorem q_set0 {m l : List R} {r : R} : (m ++ l).set m.length r = m ++ l.set 0 r := by
  rw [List.set_append_right _ _ (Nat.le_refl _), Nat.sub_self]
theorem q_dT {p : Prop} [Decidable p] (h : p) : decide p = true := decide_eq_true h
theorem q_dF {p : Prop} [Decidable p] (h : ¬ p) : decide p = false := decide_eq_false h
end Dv

namespace Dv
open PySem PySem.Spec PyProof.Rows GenW
open L2 hiding Takes XE CX MkP PMk ps_raise ps_try_as ps_try_many HdsOk takes_of passAt passes_call mk_of pmk_own
open L2N (Takes XE CX MkP PMk ps_raise ps_try_as ps_try_many HdsOk takes_of passAt passes_call mk_of pmk_own Zn Zn.steady)

/-! ### sleeping generators are not touched by what does not wake them -/
noncomputable def poison : GenState → GenState
  | .suspended _ l c p fs cl => .suspended (fun _ => .unsupported "") l c p fs cl
  | x => x
noncomputable def OkRet (fs : List Frame) : Prop := ∀ F ∈ fs, ∃ k h g l c p kp, F = .ret k h g l c p kp
structure Sw (D : Nat → Option GenState) (a b : Array GenState) : Prop where
  size : b.size = a.size
  dom : ∀ i G, D i = some G → (∃ k l c p fs cl, G = .suspended k l c p fs cl) ∧ a[i]? = some (poison G) ∧ b[i]? = some G
  off : ∀ i, D i = none → b[i]? = a[i]? ∧ ∀ k l c p fs cl, a[i]? = some (.suspended k l c p fs cl) → OkRet fs
theorem Sw.set {D : Nat → Option GenState} {a b : Array GenState} (h : Sw D a b) {g : Nat} {x : GenState} (hg : D g = none) (hx : ∀ k l c p fs cl, x = .suspended k l c p fs cl → OkRet fs) : Sw D (a.setIfInBounds g x) (b.setIfInBounds g x) := by
  refine ⟨by simp [h.size], fun i G hd => ?_, fun i hd => ?_⟩
  · have ne : g ≠ i := fun e => by rw [e, hd] at hg; cases hg
    obtain ⟨h1, h2, h3⟩ := h.dom i G hd
    exact ⟨h1, by rw [Array.getElem?_setIfInBounds_ne ne]; exact h2, by rw [Array.getElem?_setIfInBounds_ne ne]; exact h3⟩
  · obtain ⟨h1, h2⟩ := h.off i hd
    by_cases e : g = i
    · subst e
      by_cases hl : g < a.size
      · rw [Array.getElem?_setIfInBounds_self_of_lt hl, Array.getElem?_setIfInBounds_self_of_lt (by rw [h.size]; exact hl)]
        exact ⟨rfl, fun k l c p fs cl e => hx k l c p fs cl (Option.some.inj e)⟩
      · rw [Array.getElem?_eq_none (by simp [h.size]; omega), Array.getElem?_eq_none (by simp; omega)]
        exact ⟨rfl, fun k l c p fs cl e => by cases e⟩
    · rw [Array.getElem?_setIfInBounds_ne e, Array.getElem?_setIfInBounds_ne e]
      exact ⟨h1, h2⟩
theorem Sw.push {D : Nat → Option GenState} {a b : Array GenState} (h : Sw D a b) (c : Code) : Sw D (a.push (.fresh c)) (b.push (.fresh c)) := by
  refine ⟨by simp [h.size], fun i G hd => ?_, fun i hd => ?_⟩
  · obtain ⟨h1, h2, h3⟩ := h.dom i G hd
    have l1 := (Array.getElem?_eq_some_iff.mp h2).1
    have l2 := (Array.getElem?_eq_some_iff.mp h3).1
    exact ⟨h1, by rw [Array.getElem?_push, if_neg (by omega)]; exact h2, by rw [Array.getElem?_push, if_neg (by omega)]; exact h3⟩
  · obtain ⟨h1, h2⟩ := h.off i hd
    rw [Array.getElem?_push, Array.getElem?_push, h.size]
    by_cases e : i = a.size
    · rw [if_pos e, if_pos e]
      exact ⟨rfl, fun k l c p fs cl e => by cases e⟩
    · rw [if_neg e, if_neg e]
      exact ⟨h1, h2⟩
end Dv

namespace Dv
open PySem PySem.Spec PyProof.Rows GenW
open L2 hiding Takes XE CX MkP PMk ps_raise ps_try_as ps_try_many HdsOk takes_of passAt passes_call mk_of pmk_own
open L2N (Takes XE CX MkP PMk ps_raise ps_try_as ps_try_many HdsOk takes_of passAt passes_call mk_of pmk_own Zn Zn.steady)

/-! ### a generator's frame, woken at another state -/
noncomputable def cutH (h : Heap) (L : Nat) : Heap := { h with objs := h.objs.extract 0 L }
/-- the same frame, seen from another state; no exception leaves -/
noncomputable def reX (X : Cx) (s : Shared) (H : Hp) : Cx := { X with s_0 := { s with heap := cutH s.heap X.env.locals }, H_0 := H, xe := fun _ _ => False }
/-- of a generator's frame: no cells, nothing turns -/
structure GFr (X : Cx) : Prop where
  ex : X.ex = []
  cells : X.env.cells = []
  nocell : ∀ x, X.env.kindOf x ≠ some .cell ∧ X.env.kindOf x ≠ some .free
theorem GFr.re {X : Cx} (g : GFr X) (s : Shared) (H : Hp) : GFr (reX X s H) := ⟨g.ex, g.cells, g.nocell⟩
end Dv

namespace Dv
open PySem PySem.Spec PyProof.Rows GenW
open L2 hiding Takes XE CX MkP PMk ps_raise ps_try_as ps_try_many HdsOk takes_of passAt passes_call mk_of pmk_own
open L2N (Takes XE CX MkP PMk ps_raise ps_try_as ps_try_many HdsOk takes_of passAt passes_call mk_of pmk_own Zn Zn.steady)

/-! ### a generator's code with its consumer: cb is the consumer's turn, κ the consumer's names, c how many items are out -/
noncomputable abbrev CB := D → Ro → List R → Option SO
inductive GCO where
  | nx (ρ κ : Ro) (m : List R) (c : Nat) | rt (κ : Ro) (m : List R) (c : Nat) | bk (ρ κ : Ro) (m : List R) (c : Nat) | ct (ρ κ : Ro) (m : List R) (c : Nat) | st (o : SO)
noncomputable abbrev GF := Ro → Ro → List R → Nat → Option GCO
noncomputable def plnC (k : GF) (κ : Ro) (c : Nat) : Option SO → Option GCO
  | some (.nx ρ m) => k ρ κ m c
  | some (.rt .non m) => some (.rt κ m c)
  | some (.bk ρ m) => some (.bk ρ κ m c)
  | some (.ct ρ m) => some (.ct ρ κ m c)
  | _ => none
/-- behind the consumer's turn -/
noncomputable def outC (k : GF) (ρ : Ro) (c : Nat) : Option SO → Option GCO
  | some (.nx κ m) => k ρ κ m c
  | some (.ct κ m) => k ρ κ m c
  | some (.bk κ m) => some (.st (.nx κ m))
  | some (.rt d m) => some (.st (.rt d m))
  | _ => none
noncomputable def yldC (cb : CB) (k : GF) (ρ κ : Ro) (c : Nat) : Option Rs → Option GCO
  | some (.ok d m) => if c < sizeLine then outC k ρ (c + 1) (cb d κ m) else none
  | _ => none
noncomputable def thnC (k : GF) : Option GCO → Option GCO
  | some (.nx ρ κ m c) => k ρ κ m c
  | o => o
noncomputable def itC (k : List D → List R → Option GCO) : Option RsI → Option GCO
  | some (.ok (.fix xs) m) => k xs m
  | _ => none
noncomputable def forC (t : D → GF) : List D → GF
  | [], ρ, κ, m, c => some (.nx ρ κ m c)
  | x :: xs, ρ, κ, m, c => match t x ρ κ m c with
    | some (.nx ρ κ m c) => forC t xs ρ κ m c
    | some (.ct ρ κ m c) => forC t xs ρ κ m c
    | some (.bk ρ κ m c) => some (.nx ρ κ m c)
    | o => o
noncomputable def whlC (cnd : Ro → List R → Option Rs) (t : GF) : Nat → GF
  | 0, _, _, _, _ => none
  | n + 1, ρ, κ, m, c => match cnd ρ m with
    | some (.ok (.bl true) m) => match t ρ κ m c with
      | some (.nx ρ κ m c) => whlC cnd t n ρ κ m c
      | some (.ct ρ κ m c) => whlC cnd t n ρ κ m c
      | some (.bk ρ κ m c) => some (.nx ρ κ m c)
      | o => o
    | some (.ok (.bl false) m) => some (.nx ρ κ m c)
    | _ => none
noncomputable def bodyC (t : G) (k : GF) (d : D) : GF := fun ρ κ m c => match setG t d ρ with
  | some ρ' => k ρ' κ m c
  | none => none
noncomputable def evC (g : Gt) (cb : CB) : GB → GF
  | .nil, ρ, κ, m, c => some (.nx ρ κ m c)
  | .plain s r, ρ, κ, m, c => plnC (evC g cb r) κ c (evS g s ρ m)
  | .yld e r, ρ, κ, m, c => yldC cb (evC g cb r) ρ κ c (evE g e ρ m)
  | .forr tg it b r, ρ, κ, m, c => thnC (evC g cb r) (itC (fun xs m => forC (bodyC tg (evC g cb b)) xs ρ κ m c) (evI g it ρ m))
  | .whl n cnd b r, ρ, κ, m, c => thnC (evC g cb r) (whlC (evE g cnd) (evC g cb b) n ρ κ m c)

/-! ### the two frames -/
structure Pair (T : Tb) where
  X : Cx
  Y : Cx
  pins : List (Addr × Obj)
  cb : CB
  o : SO
  w0 : Wd
  /-- what only the consumer changes -/
  fix : List Addr
  /-- the consumer's names -/
  er : Wd → L2.St → Ro → Shared → Prop
structure PairOk (C : Cs) (p : Pair C.T) : Prop where
  g : GFr p.X
  outer : p.X.outer = p.Y.stack
  prog : p.X.prog = p.Y.prog
  w : p.X.w = p.Y.w
  K : p.X.K = p.Y.K
  mg : p.X.mg = p.Y.mg
  base : p.X.base = p.Y.base
  ok : ∀ s H, C.OkS (reX p.X s H)
  hy : p.Y.s_0.heap.objs.size ≤ p.X.env.locals
  hyl : p.Y.env.locals < p.X.env.locals
  hyc : ∀ x c, p.Y.env.cells.lookup x = some c → c < p.X.env.locals
  hyp : ∀ q ∈ p.Y.pn ++ p.pins, q.1 < p.X.env.locals
  pn : ∀ q ∈ p.X.pn, p.X.env.locals < q.1
  fixy : ∀ b ∈ p.fix, p.X.env.locals < b ∧ ∀ q ∈ p.X.pn, q.1 ≠ b
  erOn : ∀ {w w' : Wd} {m' : List R} {σ : L2.St} {κ : Ro} {s : Shared}, p.er w σ κ s → Ext w w' → p.er w' σ κ s
  erFix : ∀ {w : Wd} {σ : L2.St} {κ : Ro} {s s' : Shared}, p.er w σ κ s → (∀ b ∈ p.fix, ∀ o, s.heap.get? b = some o → s'.heap.get? b = some o) → p.er w σ κ s'
section
variable {C : Cs}
/-- the consumer's own things stand in the store -/
noncomputable def FixOk (p : Pair C.T) (H : Hp) (s : Shared) : Prop := ∀ b ∈ p.fix, ∃ o, s.heap.get? b = some o ∧ H b = none ∧ ∀ v, o.data ≠ .cell v
/-- running: the consumer sleeps since it woke us at sw -/
noncomputable def GSt (p : Pair C.T) (sw : Shared) (ip : List (Addr × Obj)) (σ : L2.St) (κ : Ro) (w : Wd) (m : List R) (s : Shared) : Prop :=
  ∃ Hw σc, Inv p.Y p.pins σc Hw sw ∧ p.X.env.locals ≤ sw.heap.objs.size ∧ p.er w σc κ sw ∧ Inv (reX p.X sw Hw) (ip ++ pinsAt p.fix sw.heap) σ w.H s ∧ Wf C.T w m ∧ Ext p.w0 w ∧ ∀ b ∈ p.fix, ∃ o, sw.heap.get? b = some o
/-- what the consumer asks of an item that comes -/
noncomputable def YC (p : Pair C.T) (a : Addr) (go : Obj) : Protocol := fun n s₀ v s kap =>
  ∃ (c : Nat) (d : D) (x : V) (w : Wd) (m : List R) (κ : Ro) (σc : L2.St) (gp : List (Addr × Obj)) (oc : SO), n + 1 + c = sizeLine ∧ RelV x v ∧ Rep C.T w.Hs w.al x d ∧ Wf C.T w m ∧ Ext p.w0 w ∧ Inv p.Y (p.pins ++ gp) σc w.H s ∧ p.er w σc κ s ∧ (a, go) ∈ gp ∧ FixOk p w.H s ∧ (∀ q ∈ gp, q.1 ∉ p.fix) ∧
    p.cb d κ m = some oc ∧ match oc with
      | .nx κ' m' => ∀ s' w' σc', Ext w w' → Wf C.T w' m' → Inv p.Y (p.pins ++ gp) σc' w'.H s' → p.er w' σc' κ' s' → FixOk p w'.H s' → kap (.send .none) s'
      | .ct κ' m' => ∀ s' w' σc', Ext w w' → Wf C.T w' m' → Inv p.Y (p.pins ++ gp) σc' w'.H s' → p.er w' σc' κ' s' → FixOk p w'.H s' → kap (.send .none) s'
      | .bk κ' m' => p.o = .nx κ' m'
      | .rt d' m' => p.o = .rt d' m'
      | .ex _ _ _ => False
/-- .. of the end -/
noncomputable def RC (p : Pair C.T) : GenEnd := fun n s₀ r s =>
  ((r = .ok (.ret .none) ∨ r = .ok .next) ∧ ∃ κ m w σc, Wf C.T w m ∧ Ext p.w0 w ∧ Inv p.Y p.pins σc w.H s ∧ p.er w σc κ s ∧ FixOk p w.H s ∧ p.o = .nx κ m) ∨ ∃ e, r = .error e ∧ False
/-- where the code stands -/
structure GCc (p : Pair C.T) (ip : List (Addr × Obj)) (A : Around) (c : Code) (fs : List Frame) (gd : Bool → Bool) : Prop where
  ip : ∀ q ∈ ip, p.X.env.locals < q.1 ∧ q.1 ∉ p.fix
  over : A.over c fs = p.X.A
  split : splitAtGen fs = none
  guard : fs.any Frame.guarded = false
  gd : gd false = false
/-- what follows -/
noncomputable def GKc (p : Pair C.T) (a : Addr) (go : Obj) (ip : List (Addr × Obj)) (A : Around) (code : Code) (fs : List Frame) (K : Flow → Sem PySem.Fin) (w : Wd) : GCO → Prop
  | .nx ρ κ m c => ∀ n s₀ s w' σ, Ext w w' → n + c = sizeLine → GSt p s₀ ip σ κ w' m s → ER C.T w' σ ρ → Seg (model p.X.prog p.X.w) A (RC p) (YC p a go) n s₀ code (K .next) fs s
  | .bk ρ κ m c => ∀ n s₀ s w' σ, Ext w w' → n + c = sizeLine → GSt p s₀ ip σ κ w' m s → ER C.T w' σ ρ → Seg (model p.X.prog p.X.w) A (RC p) (YC p a go) n s₀ code (K .brk) fs s
  | .ct ρ κ m c => ∀ n s₀ s w' σ, Ext w w' → n + c = sizeLine → GSt p s₀ ip σ κ w' m s → ER C.T w' σ ρ → Seg (model p.X.prog p.X.w) A (RC p) (YC p a go) n s₀ code (K .cont) fs s
  | .rt κ m c => ∀ n s₀ s w' σ, Ext w w' → n + c = sizeLine → GSt p s₀ ip σ κ w' m s → Seg (model p.X.prog p.X.w) A (RC p) (YC p a go) n s₀ code (K (.ret .none)) fs s
  | .st o => o = p.o
theorem GKc.on {p : Pair C.T} {a : Addr} {go : Obj} {ip : List (Addr × Obj)} {A : Around} {code : Code} {fs : List Frame} {K : Flow → Sem PySem.Fin} {w w1 : Wd} {m : List R} {oc : GCO} (h : GKc p a go ip A code fs K w oc) (e : Ext w w1) (V : Wf C.T w1 m) : GKc p a go ip A code fs K w1 oc := by
  cases oc with
  | nx ρ κ m c => exact fun n s₀ s w' σ x => h n s₀ s w' σ (e.trans x V)
  | bk ρ κ m c => exact fun n s₀ s w' σ x => h n s₀ s w' σ (e.trans x V)
  | ct ρ κ m c => exact fun n s₀ s w' σ x => h n s₀ s w' σ (e.trans x V)
  | rt κ m c => exact fun n s₀ s w' σ x => h n s₀ s w' σ (e.trans x V)
  | st o => exact h
/-- a generator's suite does what the code says, its consumer between -/
noncomputable def DGC (C : Cs) (sts : List Stmt) (f : CB → GF) : Prop :=
  ∀ (p : Pair C.T) (a : Addr) (go : Obj) (A : Around) (ip : List (Addr × Obj)) (n c : Nat) (s₀ s : Shared) (code : Code) (fs : List Frame) (K : Flow → Sem PySem.Fin) (J : Value → Sem PySem.Fin) (gd : Bool → Bool) (lv : List Value → List Value) (σ : L2.St) (ρ κ : Ro) (w : Wd) (m : List R) (oc : GCO),
    PairOk C p → (a, go) ∈ p.X.pn → GCc p ip A code fs gd → n + c = sizeLine → GSt p s₀ ip σ κ w m s → ER C.T w σ ρ → f p.cb ρ κ m c = some oc → GKc p a go ip A code fs K w oc →
    Seg (model p.X.prog p.X.w) A (RC p) (YC p a go) n s₀ code ((execs sts p.X.env).wrap K J gd lv) fs s
/-- a stretch of code that hands out nothing, from the one state to the other -/
theorem GSt.next {p : Pair C.T} (P : PairOk C p) {ip : List (Addr × Obj)} {σ' : L2.St} {κ : Ro} {w w' : Wd} {m m' : List R} {s' sw : Shared} {Hw : Hp} {σc : L2.St} (I : Inv p.Y p.pins σc Hw sw) (hL : p.X.env.locals ≤ sw.heap.objs.size) (E : p.er w σc κ sw) (x0 : Ext p.w0 w) (V : Wf C.T w m) (hf : ∀ b ∈ p.fix, ∃ o, sw.heap.get? b = some o)
    (J : Inv (reX p.X sw Hw) (ip ++ pinsAt p.fix sw.heap) σ' w'.H s') (x : Ext w w') (W : Wf C.T w' m') : GSt p sw ip σ' κ w' m' s' := ⟨Hw, σc, I, hL, P.erOn (m' := m') E x, J, W, x0.trans x V, hf⟩
end
end Dv

namespace Dv
open PySem PySem.Spec PyProof.Rows GenW
open L2 hiding Takes XE CX MkP PMk ps_raise ps_try_as ps_try_many HdsOk takes_of passAt passes_call mk_of pmk_own
open L2N (Takes XE CX MkP PMk ps_raise ps_try_as ps_try_many HdsOk takes_of passAt passes_call mk_of pmk_own Zn Zn.steady)
section
variable {C : Cs}
/-- what follows a statement, from what follows the suite -/
theorem GKc.thn {p : Pair C.T} {a : Addr} {go : Obj} {A : Around} {ip : List (Addr × Obj)} {code : Code} {fs : List Frame} {K : Flow → Sem PySem.Fin} {J : Value → Sem PySem.Fin} {gd : Bool → Bool} {lv : List Value → List Value} {w : Wd} {m : List R} {o1 oc : GCO} {sts : List Stmt} {r : GB}
    (P : PairOk C p) (ha : (a, go) ∈ p.X.pn) (g : GCc p ip A code fs gd) (h2 : DGC C sts (fun cb => evC C.g cb r)) (e : thnC (evC C.g p.cb r) (some o1) = some oc) (k : GKc p a go ip A code fs K w oc) (V : Wf C.T w m) (x0 : Ext p.w0 w)
    {K' : Flow → Sem PySem.Fin} (hn : K' .next = (execs sts p.X.env).wrap K J gd lv) (hr : ∀ u, K' (.ret u) = K (.ret u)) (hb : K' .brk = K .brk) (hct : K' .cont = K .cont) : GKc p a go ip A code fs K' w o1 := by
  cases o1 with
  | nx ρ κ m' c =>
    intro n s₀ s w' σ x hnn st E
    rw [hn]
    obtain ⟨_, _, _, _, _, _, V', _, _⟩ := id st
    exact h2 p a go A ip n c s₀ s code fs K J gd lv σ ρ κ w' m' oc P ha g hnn st E e (k.on x V')
  | bk ρ κ m c => cases e; exact fun n s₀ s w' σ x hnn st E => by rw [hb]; exact k n s₀ s w' σ x hnn st E
  | ct ρ κ m c => cases e; exact fun n s₀ s w' σ x hnn st E => by rw [hct]; exact k n s₀ s w' σ x hnn st E
  | rt κ m c => cases e; exact fun n s₀ s w' σ x hnn st => by rw [hr]; exact k n s₀ s w' σ x hnn st
  | st o => cases e; exact k
end
end Dv

namespace Dv
open PySem PySem.Spec PyProof.Rows GenW
open L2 hiding Takes XE CX MkP PMk ps_raise ps_try_as ps_try_many HdsOk takes_of passAt passes_call mk_of pmk_own
open L2N (Takes XE CX MkP PMk ps_raise ps_try_as ps_try_many HdsOk takes_of passAt passes_call mk_of pmk_own Zn Zn.steady)

/-! ### the call of a generator def, for a consumer that turns -/
/-- a generator that has not begun, and its frame -/
structure GNew (C : Cs) (N : List Str) (sc : Scope) (body : List Stmt) (vs : List V) (Aw : Around) (outer : List Env) (s : Shared) (H : Hp) (a : Addr) (g : Nat) (go : Obj) (X : Cx) (oL : Obj) (s' : Shared) : Prop where
  loc : X.env.locals = s.heap.objs.size
  prog : X.prog = C.P
  w : X.w = C.w
  K : X.K = C.T.K
  mg : X.mg = C.mg
  base : X.base = C.base
  outer : X.outer = outer
  gfr : GFr X
  ok : ∀ s H, (C.at N sc fun _ _ _ => False).OkS (reX X s H)
  pn : X.pn = [(a, go)]
  young : X.env.locals < a
  over : Aw.over (.func body X.env) [] = X.A
  gen : s'.gens[g]? = some (.fresh (.func body X.env))
  at_ : s'.heap.get? a = some go
  isGen : ∀ h : Heap, h.get? a = some go → h.IsGen a g
  cls : go.cls = .type "generator"
  dat : ∃ vs, go.data = .fields vs
  oL : s'.heap.get? X.env.locals = some oL
  inv : Inv X [] (start N vs) H s'
  os : s'.os = s.os
  bare : AllBare s'.gens
  kept : ∀ b o, s.heap.get? b = some o → s'.heap.get? b = some o
end Dv

namespace Dv
open PySem PySem.Spec PyProof.Rows GenW
open L2 hiding Takes XE CX MkP PMk ps_raise ps_try_as ps_try_many HdsOk takes_of passAt passes_call mk_of pmk_own
open L2N (Takes XE CX MkP PMk ps_raise ps_try_as ps_try_many HdsOk takes_of passAt passes_call mk_of pmk_own Zn Zn.steady)

/-! ### a generator is woken: behind an item it sleeps -/
end Dv

namespace Dv
open PySem PySem.Spec PyProof.Rows GenW
open L2 hiding Takes XE CX MkP PMk ps_raise ps_try_as ps_try_many HdsOk takes_of passAt passes_call mk_of pmk_own
open L2N (Takes XE CX MkP PMk ps_raise ps_try_as ps_try_many HdsOk takes_of passAt passes_call mk_of pmk_own Zn Zn.steady)

end Dv

namespace Dv
open PySem PySem.Spec PyProof.Rows GenW
open L2 hiding Takes XE CX MkP PMk ps_raise ps_try_as ps_try_many HdsOk takes_of passAt passes_call mk_of pmk_own
open L2N (Takes XE CX MkP PMk ps_raise ps_try_as ps_try_many HdsOk takes_of passAt passes_call mk_of pmk_own Zn Zn.steady)

/-! ### for over the call of a generator def -/
noncomputable def endF : Option GCO → Option SO
  | some (.nx _ κ m _) => some (.nx κ m)
  | some (.rt κ m _) => some (.nx κ m)
  | some (.st o) => some o
  | _ => none
/-- a generator def's code from its start, the consumer's turn cb between -/
noncomputable def runFor (g : Gt) (N : Nat) (b : GB) (cb : CB) (ds : List D) (κ : Ro) (m : List R) : Option SO :=
  endF (evC g cb b (ds.map some ++ List.replicate (N - ds.length) none) κ m 0)
/-- no exception leaves -/
noncomputable def Cs.calm (C : Cs) : Cs := { C with W := fun _ _ _ _ => False }
theorem Inv.kept {X : Cx} {pins : List (Addr × Obj)} {σ : L2.St} {H : Hp} {s s' : Shared} (I : Inv X pins σ H s) (ho : s'.os = s.os) (hg : AllBare s'.gens) (hk : ∀ b o, s.heap.get? b = some o → s'.heap.get? b = some o) : Inv X pins σ H s' :=
  I.call' (ch := []) ho (Un.kept hk) (I.hok.kept hk) hg fun b z => by cases z
end Dv

namespace Dv
open PySem PySem.Spec PyProof.Rows
open L2 hiding Takes XE CX MkP PMk ps_raise ps_try_as ps_try_many HdsOk takes_of passAt passes_call mk_of pmk_own
open L2N (Takes XE CX MkP PMk ps_raise ps_try_as ps_try_many HdsOk takes_of passAt passes_call mk_of pmk_own Zn Zn.steady)

/-! ### the same tables, other things known at the start -/
structure TbSim (T T' : Tb) : Prop where
  K : T.K = T'.K
  cl : T.cl = T'.cl
  nm : T.nm = T'.nm
  lams : T.lams = T'.lams
  kd : T.kd = T'.kd
  exc : T.exc = T'.exc
  dfs : T.dfs = T'.dfs
  any : T.any = T'.any
theorem TbSim.symm {T T' : Tb} (h : TbSim T T') : TbSim T' T := ⟨h.K.symm, h.cl.symm, h.nm.symm, h.lams.symm, h.kd.symm, h.exc.symm, h.dfs.symm, h.any.symm⟩
theorem FnAt.cv {T T' : Tb} (h : TbSim T T') {Hs : Hp} {a : Addr} {i : Nat} {cl : List (Str × Addr)} (q : FnAt T Hs a i cl) : FnAt T' Hs a i cl := by
  obtain ⟨L, dV, doc, pm, ctv, c', h1, r⟩ := q
  exact ⟨L, dV, doc, pm, ctv, c', by rw [← h.lams]; exact h1, r⟩
mutual
theorem Rep.cv {T T' : Tb} (h : TbSim T T') {Hs : Hp} {al : List Addr} : ∀ {v : V} {d : D}, Rep T Hs al v d → Rep T' Hs al v d
  | _, _, .non => .non
  | _, _, .bl b => .bl b
  | _, _, .int b => .int b
  | _, _, .str b => .str b
  | _, _, .tup s r => .tup s (RepL.cv h r)
  | _, _, .lst s r => .lst s (RepL.cv h r)
  | _, _, .ext s r => .ext (by rw [← h.K]; exact s) (RepL.cv h r)
  | _, _, .obj s n r => .obj (by rw [← h.cl]; exact s) (by rw [← h.nm]; exact n) (RepL.cv h r)
  | _, _, .res e => .res e
  | _, _, .fn q => .fn (q.cv h)
  | _, _, .dfn s => .dfn (by rw [← h.dfs]; exact s)
  | _, _, .dct s n r => .dct s n (RepL.cv h r)
  | _, _, .exn0 s => .exn0 (by rw [← h.exc]; exact s)
  | _, _, .exn1 s t n r => .exn1 (by rw [← h.exc]; exact s) t n (RepL.cv h r)
theorem RepL.cv {T T' : Tb} (h : TbSim T T') {Hs : Hp} {al : List Addr} : ∀ {v : List V} {d : List D}, RepL T Hs al v d → RepL T' Hs al v d
  | _, _, .nil => .nil
  | _, _, .cons r t => .cons (Rep.cv h r) (RepL.cv h t)
end
theorem RO.cv {T T' : Tb} (h : TbSim T T') {w : Wd} {a : Addr} {r : R} (q : RO T w a r) : RO T' w a r := by
  cases r with
  | lst xs => obtain ⟨vs, e, q⟩ := q; exact ⟨vs, e, q.cv h⟩
  | obj c fs => obtain ⟨dx, vfs, e, n, q⟩ := q; exact ⟨dx, vfs, by rw [← h.cl]; exact e, n, q.cv h⟩
  | dK kvs => obtain ⟨vs, e, n, q⟩ := q; exact ⟨vs, e, n, q.cv h⟩
  | dL o us kvs => obtain ⟨e, n, q⟩ := q; exact ⟨e, n, q.cv h⟩
  | dT kvs => obtain ⟨P, w0, vs, hk, e, n, q, t, z⟩ := q; exact ⟨P, w0, vs, by rw [← h.kd]; exact hk, e, n, q.cv h, t, z⟩
theorem Wf.cv {T T' : Tb} (h : TbSim T T') {w : Wd} {m : List R} (W : Wf T w m) (ht : T'.tb = T.tb ∨ T'.tb = []) (hb : Le T'.bs w.Hs ∧ LeA T'.ba w.al) : Wf T' w m :=
  ⟨W.sub, W.len, W.nd, W.off, fun k a r e1 e2 => (W.ok k a r e1 e2).cv h, fun p hp => by
    (rcases ht with z | z
     · rw [z] at hp; exact W.tab p hp
     · rw [z] at hp; cases hp), hb⟩
theorem RepX.cv {T T' : Tb} (h : TbSim T T') {w : Wd} {cls : Value} {dd : Option Addr} {x : Exn} (q : RepX T w cls dd x) : RepX T' w cls dd x := by
  obtain ⟨e, r⟩ := q
  refine ⟨by rw [← h.cl]; exact e, ?_⟩
  cases hf : x.fs with
  | none => rw [hf] at r; exact r
  | some fs =>
    rw [hf] at r
    obtain ⟨a, vfs, h1, h2, h3, h4⟩ := r
    exact ⟨a, vfs, h1, h2, h3, h4.cv h⟩
theorem ER.cv {T T' : Tb} (h : TbSim T T') {w : Wd} {σ : L2.St} {ρ : Ro} (E : ER T w σ ρ) : ER T' w σ ρ := ⟨E.1, fun i d hd => let ⟨v, a, b⟩ := E.2 i d hd; ⟨v, a, b.cv h⟩⟩
/-- .. where the tables that may grow stay, and what was known is known -/
theorem PostC.cv {T T' : Tb} (h : TbSim T T') {w : Wd} {Q : VK} {E : XK} {o : Rs} (p : PostC T' w Q E o) (ht : T'.tb = T.tb ∨ T'.tb = []) (hb : Le T'.bs w.Hs ∧ LeA T'.ba w.al) : PostC T w Q E o := by
  cases o with
  | ok d m' => exact fun w' v x' W' r' => p w' v x' (W'.cv h ht ⟨hb.1.trans x'.hs, hb.2.trans x'.leA⟩) (r'.cv h)
  | ex x m' => exact fun w' c d x' W' r' => p w' c d x' (W'.cv h ht ⟨hb.1.trans x'.hs, hb.2.trans x'.leA⟩) (r'.cv h)

/-! ### closures -/
/-- the cells hold what is said -/
noncomputable def CellsAt (L : List (Addr × Option Value)) (s : Shared) (H : Hp) : Prop := ∀ p ∈ L, s.heap.IsCell p.1 p.2 ∧ H p.1 = none
theorem Cs.Ok.now {C : Cs} {X : Cx} (ok : C.Ok X) {pins : List (Addr × Obj)} {σ : L2.St} {H : Hp} {s : Shared} (I : Inv X pins σ H s) : CellsAt C.cells s H := fun p hp => by
  obtain ⟨⟨o, ho, hd⟩, hn, hx⟩ := ok.cel p hp
  obtain ⟨sl, q⟩ := I.base.any ho hn hx
  exact ⟨⟨_, q, hd⟩, I.base.free p.1 o ho hn hx⟩
/-- what the cells of a frame hold -/
theorem cells_list {s : Shared} : ∀ {l : List (Str × Addr)}, (∀ y c, (y, c) ∈ l → ∃ v, s.heap.IsCell c v) → ∃ L : List (Addr × Option Value), (∀ p ∈ L, s.heap.IsCell p.1 p.2 ∧ ∃ y, (y, p.1) ∈ l) ∧ ∀ y c, (y, c) ∈ l → ∃ v, (c, v) ∈ L
  | [], _ => ⟨[], (fun p h => by cases h), (fun y c h => by cases h)⟩
  | (y, c) :: l, h => by
    obtain ⟨L, h1, h2⟩ := cells_list (l := l) fun z d hz => h z d (List.mem_cons_of_mem _ hz)
    obtain ⟨v, hv⟩ := h y c List.mem_cons_self
    refine ⟨(c, v) :: L, fun p hp => ?_, fun z d hz => ?_⟩
    · rcases List.mem_cons.mp hp with e | hp
      · subst e; exact ⟨hv, y, List.mem_cons_self⟩
      · obtain ⟨a, z, b⟩ := h1 p hp
        exact ⟨a, z, List.mem_cons_of_mem _ b⟩
    · rcases List.mem_cons.mp hz with e | hz
      · cases e; exact ⟨v, List.mem_cons_self⟩
      · obtain ⟨u, hu⟩ := h2 z d hz
        exact ⟨u, List.mem_cons_of_mem _ hu⟩
theorem isCell_fun {h : Heap} {c : Addr} {u v : Option Value} (a : h.IsCell c u) (b : h.IsCell c v) : u = v := by
  obtain ⟨o, e, d⟩ := a
  obtain ⟨o', e', d'⟩ := b
  rw [e] at e'; cases e'
  rw [d] at d'; cases d'
  rfl
/-- a call of a closure made where the cells are cl does clo, wherever the cells L hold what is said -/
noncomputable def CloOk (T : Tb) (P : Program) (w : World) (mg : Str → Option Value) (base : Heap) (L : List (Addr × Option Value)) (cl : List (Str × Addr)) (clo : Nat → List R → Option Rs) (k : Nat) : Prop :=
  ∀ (i : Nat) (a : Addr) (A : Around) (outer : List Env) (s : Shared) (wd : Wd) (m : List R) (Q : VK) (E : XK) (o : Rs), Room (k + 1) A → Env0 P w T.K mg base A outer s wd.H → CellsAt L s wd.H → Wf T wd m → FnAt T wd.Hs a i cl →
    clo i m = some o → PostC T wd Q E o → codeAny (model P w) A (.call (.ref a) ⟨[], []⟩) (CR (CXa T.any P w) outer P w wd.H s Q E) s
/-- a lambda in the def of scope sc, whose names are N -/
structure LamIn (sc : Scope) (N : List Str) (L : Lam) : Prop where
  kind : L.scope.kind = .function
  co : L.scope.isCoroutine = false
  gen : L.scope.isGenerator = false
  own : ∀ y ∈ L.scope.names, y.2 ≠ .cell
  free : ∀ y ∈ L.scope.names, y.2 = .free → sc.names.lookup y.1 = some .cell ∨ sc.names.lookup y.1 = some .free
  vis : ∀ x ∈ N, Vis L.scope x → L.scope.names.lookup x = some .free
  bind : ∀ (s : Shared) (cl : List (Str × Addr)) (dV doc pm cv ctv : Value), (L.dfl = false → dV = .none → BindsTo s (PySem.W.kdv_fn "<lambda>" L.qual L.params (.expr L.body) L.scope cl dV doc pm cv ctv) ⟨[], []⟩ []) ∧
    (L.dfl = true → ∀ (t : Addr) (o : Obj) (u : Value), dV = .ref t → s.heap.get? t = some o → o.data = .seq #[u] → ∃ x, L.scope.names.lookup x = some .local ∧ BindsTo s (PySem.W.kdv_fn "<lambda>" L.qual L.params (.expr L.body) L.scope cl dV doc pm cv ctv) ⟨[], []⟩ [(x, u)])
noncomputable abbrev lamE0 (qual : Str) (scope : Scope) (l f c' : Addr) (clos : List (Str × Addr)) : Env := PySem.W.envX qual scope l f (.ref c') clos
/-- where a lambda's body runs -/
noncomputable def lamX (an : Bool) (P : Program) (w : World) (K : PySem.W.Frag) (mg : Str → Option Value) (base : Heap) (N : List Str) (A : Around) (outer : List Env) (s : Shared) (H : Hp) (E : XK) (e : Env) : Cx where
  prog := P
  w := w
  K := K
  mg := mg
  base := base
  A := A.deeper e
  N := N
  s_0 := s
  H_0 := H
  env := e
  outer := outer
  stack := e :: outer
  ex := []
  fn := fun _ => false
  calm := true
  pn := []
  xe := fun z s' => wpAny (model P w) (A.deeper e) (leaving e z) (fun _ s'' => CXa an P w outer H s E z s'') (fun z' s'' => CXa an P w outer H s E z' s'') s'
noncomputable def Cs.lam (C : Cs) (L : Lam) (E : XK) : Cs := { C with sc := L.scope, W := fun cls d _ H => E cls d H, fn := fun _ => false, cells := [], hold := fun _ => True, any := C.T.any }
noncomputable instance lamCold {C : Cs} [c : Cold C] {L : Lam} {E : XK} : Cold (C.lam L E) := ⟨c.h⟩
end Dv

namespace Dv
open PySem PySem.Spec PyProof.Rows
open L2 hiding Takes XE CX MkP PMk ps_raise ps_try_as ps_try_many HdsOk takes_of passAt passes_call mk_of pmk_own
open L2N (Takes XE CX MkP PMk ps_raise ps_try_as ps_try_many HdsOk takes_of passAt passes_call mk_of pmk_own Zn Zn.steady)

theorem clos_up {cl : List (Str × Addr)} {names : List (Str × NameKind)} (hf : ∀ y ∈ names, y.2 = .free → ∃ c, cl.lookup y.1 = some c) {y : Str} {c : Addr} (e : (cloFrom cl names []).lookup y = some c) : cl.lookup y = some c := by
  rcases cloFrom_mem (PySem.mem_of_lookup e) with h | ⟨h, q⟩
  · cases h
  · obtain ⟨d, hd⟩ := hf _ h rfl
    have hd : cl.lookup y = some d := hd
    rw [hd] at q
    rw [hd, q]; rfl
theorem clos_has {cl : List (Str × Addr)} {names : List (Str × NameKind)} {y : Str} (h : names.lookup y = some .free) : ∃ c, (cloFrom cl names []).lookup y = some c := mem_lookup (cloFrom_has (acc := []) (PySem.mem_of_lookup h))
/-- a lambda's body begins -/
theorem lam_inv {an : Bool} {P : Program} {w : World} {K : PySem.W.Frag} {mg : Str → Option Value} {base : Heap} {N : List Str} {A : Around} {outer : List Env} {s : Shared} {H : Hp} {E : XK} {qual : Str} {scope : Scope} {f c' : Addr} {cl : List (Str × Addr)} {sc : Scope} {L : Lam} {h₁ : Heap} {tk : Nat} {m : Str → Option Value} {σ : L2.St}
    (ln : LamIn sc N L) (e0 : Env0 P w K mg base A outer s H) (hd : A.handled = none) (hns : h₁.Ns s.heap.objs.size m) (kp : ∀ b o, s.heap.get? b = some o → h₁.get? b = some o) (hlen : σ.length = N.length)
    (inj : ∀ y z c, cl.lookup y = some c → cl.lookup z = some c → y = z) (hf : ∀ y ∈ L.scope.names, y.2 = .free → ∃ c, cl.lookup y.1 = some c)
    (hc : ∀ y c, cl.lookup y = some c → ∃ v, s.heap.IsCell c v ∧ H c = none) (hloc : ∀ (i : Nat) (x : Str) (v : V), N[i]? = some x → σ[i]? = some (some v) → L.scope.names.lookup x = some .free → ∃ c u, cl.lookup x = some c ∧ RelV v u ∧ s.heap.IsCell c (some u)) :
    Inv (lamX an P w K mg base N A outer s H E (lamE0 L.qual L.scope s.heap.objs.size f c' (cloFrom cl L.scope.names []))) [] σ H { s with heap := h₁, toks := tk } := by
  have cellK : ∀ {c : Addr} {v : Option Value}, s.heap.IsCell c v → h₁.IsCell c v := fun ⟨o, e, d⟩ => ⟨o, kp _ _ e, d⟩
  have up : ∀ {y c}, (cloFrom cl L.scope.names []).lookup y = some c → cl.lookup y = some c := fun e => clos_up hf e
  have ok : (lamX an P w K mg base N A outer s H E (lamE0 L.qual L.scope s.heap.objs.size f c' (cloFrom cl L.scope.names []))).Ok := {
    mod := e0.mod
    kind := ln.kind
    glob := rfl
    blt := rfl
    above := Nat.le_refl _
    inj := fun x y c e1 e2 => inj x y c (up e1) (up e2)
    has := fun x hx => by
      have hx : L.scope.names.lookup x = some .cell ∨ L.scope.names.lookup x = some .free := hx
      rcases hx with z | z
      · exact absurd rfl (ln.own _ (PySem.mem_of_lookup z))
      · exact clos_has z
    cab := fun x c z => by cases (show false = true from z)
    hd := fun _ => hd
    frames := Around.frames_deeper e0.frames
    stk := .inr ⟨rfl, rfl⟩
    exf := fun b hb => nomatch (show b ∈ ([] : List Addr) from hb)
    bs := e0.bs
    bsz := e0.bsz
    noex := fun b o _ hb => nomatch (show b ∈ ([] : List Addr) from hb)
    exfs := fun b hb => nomatch (show b ∈ ([] : List Addr) from hb)
    funs := e0.funs
    frf := e0.frf }
  exact {
    ok := ok
    os := rfl
    bare := e0.bare
    base := Un.kept kp
    loc := ⟨m, hns, fun i x v hN hv hvis => by
      have fr := ln.vis x (List.mem_of_getElem? hN) hvis
      obtain ⟨c, u, h1, h2, h3⟩ := hloc i x v hN hv fr
      obtain ⟨c2, h4⟩ := clos_has (cl := cl) fr
      have h5 := up h4
      rw [h1] at h5; cases h5
      exact ⟨u, h2, .inr ⟨.inr fr, c, h4, cellK h3⟩⟩⟩
    cell := fun x c e => by
      obtain ⟨v, h1, _⟩ := hc x c (up e)
      exact ⟨v, cellK h1⟩
    free := e0.hok.fresh (Nat.le_refl _)
    freeC := fun x c e => (hc x c (up e)).elim fun v z => z.2
    pin := fun p hp => nomatch (show p ∈ ([] : List (Addr × Obj)) from hp)
    hok := e0.hok.kept kp
    len := hlen }
/-- the tables where closures are called -/
noncomputable def Tb.at (T : Tb) (w : Wd) : Tb := { T with bs := w.Hs, ba := w.al }
theorem Tb.at_sim (T : Tb) (w : Wd) : TbSim T (T.at w) := ⟨rfl, rfl, rfl, rfl, rfl, rfl, rfl, rfl⟩
/-- the closures of a frame, called later -/
theorem clo_of {C : Cs} [Cold C] {X : Cx} {pins : List (Addr × Obj)} {σ : L2.St} {ρ : Ro} {s0 : Shared} {w0 : Wd} {m0 : List R} (ok : C.Ok X) (I : Inv X pins σ w0.H s0) (W0 : Wf C.T w0 m0) (E0 : ER C.T w0 σ ρ) (lamE : Nat → Ro → List R → Option Rs) (k : Nat)
    (hl : ∀ i L, C.T.lams[i]? = some L → (∀ ρ m, lamE i ρ m = none) ∨ LamIn C.sc C.N L ∧ ∀ E, DE (({ C with L := k } : Cs).lam L E) L.body (lamE i)) :
    ∃ Ls, CellsAt Ls s0 w0.H ∧ (∀ p ∈ Ls, ∃ y, X.env.cells.lookup y = some p.1) ∧ CloOk (C.T.at w0) C.P C.w C.mg C.base Ls X.env.cells (fun i m => lamE i ρ m) k := by
  obtain ⟨Ls, h1, h2⟩ := cells_list (s := s0) (l := X.env.cells.filter fun q => decide (X.env.cells.lookup q.1 = some q.2)) fun y c h => by
    have := (List.mem_filter.mp h).2
    exact I.cell y c (of_decide_eq_true this)
  have hin : ∀ p ∈ Ls, ∃ y, X.env.cells.lookup y = some p.1 := fun p hp => by
    obtain ⟨_, y, hy⟩ := h1 p hp
    exact ⟨y, of_decide_eq_true (List.mem_filter.mp hy).2⟩
  have has : ∀ y c, X.env.cells.lookup y = some c → ∃ v, (c, v) ∈ Ls := fun y c e => h2 y c (List.mem_filter.mpr ⟨PySem.mem_of_lookup e, decide_eq_true e⟩)
  refine ⟨Ls, fun p hp => ⟨(h1 p hp).1, (hin p hp).elim fun y e => I.freeC y _ e⟩, hin, ?_⟩
  intro i a A outer s wd m Q E o hr e0 hcs W r hclo p
  obtain ⟨L, dV, doc, pm, ctv, c', hL, hf, hc', hd⟩ := r
  rcases hl i L hL with z | ⟨ln, hde⟩
  · exact absurd ((z ρ m).symm.trans hclo) (by intro h; cases h)
  obtain ⟨hobj, _⟩ := e0.hok a _ (W.sub _ _ hf)
  obtain ⟨⟨oc, vs, t, hoc, hdc, hvc⟩, _, _⟩ := e0.hok c' _ (W.sub _ _ hc')
  have hfree : ∀ y ∈ L.scope.names, y.2 = .free → ∃ c, X.env.cells.lookup y.1 = some c := fun y hy e => I.ok.has _ (by
    have := ln.free y hy e
    show X.env.scope.names.lookup y.1 = _ ∨ X.env.scope.names.lookup y.1 = _
    rw [ok.sc]; exact this)
  have hcell : ∀ y c, X.env.cells.lookup y = some c → ∃ v, s.heap.IsCell c v ∧ wd.H c = none := fun y c e => by
    obtain ⟨v, hv⟩ := has y c e
    exact ⟨v, hcs _ hv⟩
  have hloc : ∀ (i : Nat) (x : Str) (v : V), C.N[i]? = some x → σ[i]? = some (some v) → L.scope.names.lookup x = some .free → ∃ c u, X.env.cells.lookup x = some c ∧ RelV v u ∧ s.heap.IsCell c (some u) := fun j x v e1 e2 e3 => by
    obtain ⟨mm, _, q⟩ := I.loc
    have hk := ln.free _ (PySem.mem_of_lookup e3) rfl
    have hk : X.env.scope.names.lookup x = some .cell ∨ X.env.scope.names.lookup x = some .free := by rw [ok.sc]; exact hk
    obtain ⟨u, r1, r2⟩ := q j x v (by rw [ok.N]; exact e1) e2 (hk.elim (fun z => .inr (.inl z)) fun z => .inr (.inr z))
    rcases r2 with ⟨z, _⟩ | ⟨_, c, z, hcv⟩
    · have z : X.env.scope.names.lookup x = some .local := z
      rcases hk with k | k <;> rw [z] at k <;> cases k
    · obtain ⟨v', hv'⟩ := has x c z
      have := isCell_fun (h1 _ hv').1 hcv
      have hz := (hcs _ hv').1
      rw [show v' = some u from this] at hz
      exact ⟨c, u, z, r1, hz⟩
  have KX : C.T.K.In s.heap := e0.mod.kin.keeps fun b o e => (e0.bs b o e).1
  have lim : s.heap.NoLimit := e0.mod.nolimit.keeps fun b o e => (e0.bs b o e).1
  obtain ⟨tt, pt, rt⟩ := hde E
  have hlen : σ.length = C.N.length := by rw [← ok.N]; exact I.len
  have inj : ∀ y z c, X.env.cells.lookup y = some c → X.env.cells.lookup z = some c → y = z := I.ok.inj
  have ec : ER C.T wd σ ρ := ⟨E0.1, fun j d hd => let ⟨v, x1, x2⟩ := E0.2 j d hd; ⟨v, x1, x2.mono W.bse.1 W.bse.2⟩⟩
  have wc : Wf C.T wd m := W.cv (C.T.at_sim w0).symm (.inl rfl) ⟨W0.bse.1.trans W.bse.1, W0.bse.2.trans W.bse.2⟩
  have pc : PostC C.T wd Q E o := p.cv (C.T.at_sim w0) (.inl rfl) W.bse
  -- the call, its binds told
  have go : ∀ binds : List (Str × Value), (∀ y ∈ binds, L.scope.names.lookup y.1 = some .local) → BindsTo s (PySem.W.kdv_fn "<lambda>" L.qual L.params (.expr L.body) L.scope (cloFrom X.env.cells L.scope.names []) dV doc pm (.ref c') ctv) ⟨[], []⟩ binds →
      codeAny (model C.P C.w) A (.call (.ref a) ⟨[], []⟩) (CR (CXa C.T.any C.P C.w) outer C.P C.w wd.H s Q E) s := fun binds hb hbt => by
    refine PySem.W.kla_callFunE hr.depth hobj rfl ln.co ln.gen rfl ⟨c', oc, vs, t, rfl, hoc, hdc, hvc⟩ (hbt _ _ _ _ ?_)
    refine wpAny_newFunctionEnv ln.own hb (fun h₁ hns hsb => ⟨lim.fresh _ hsb, ?_⟩) ln.kind
    show codeAny _ _ (.expr L.body (lamE0 L.qual L.scope s.heap.objs.size a c' (cloFrom X.env.cells L.scope.names []))) _ _
    have kp : ∀ b o, s.heap.get? b = some o → h₁.get? b = some o := fun b o e => hsb.extBut b o (Nat.ne_of_lt (Heap.lt_size e)) (Heap.get?_push_of_some _ e)
    have J := lam_inv (an := C.T.any) (E := E) (f := a) (c' := c') (qual := L.qual) (scope := L.scope) (tk := s.toks + binds.length) ln e0 hr.hd hns kp hlen inj hfree hcell hloc
    have pe := pt (lamX C.T.any C.P C.w C.T.K C.mg C.base C.N A outer s wd.H E (lamE0 L.qual L.scope s.heap.objs.size a c' (cloFrom X.env.cells L.scope.names []))) ⟨rfl, rfl, rfl, rfl, rfl, rfl, rfl, ok.nd, (fun _ => rfl), (fun _ => hr.deeper _), (takes_ofA (b := C.T.any) rfl rfl rfl rfl).1, rfl, True.intro, (fun _ h => nomatch h), un_of (hr.deeper _), noEx, (fun _ => ⟨rfl, rfl⟩), (takes_ofA (b := C.T.any) rfl rfl rfl rfl).2⟩
    refine PySem.W.kla_codeExpr (wpAny_mono (pe.run [] _ σ wd.H Q J (rt σ wd ρ m Q o wc ec hclo pc)) (fun v s' hq => ?_) fun e s' hq => hq)
    obtain ⟨v', H', J', rv, q⟩ := hq
    exact ⟨v', H', J'.os, J'.bare, J'.base, J'.hok, rv, q⟩
  rcases hd with ⟨d0, rfl⟩ | ⟨d1, tu, rfl, ou, hu, hpt⟩
  · exact go [] (fun y hy => nomatch hy) ((ln.bind s _ _ doc pm (.ref c') ctv).1 d0 rfl)
  · obtain ⟨hou, _, its, rv, ot, hot, hcl⟩ := e0.hok tu _ (W.sub _ _ hu)
    obtain ⟨its2, rfl⟩ := hpt
    rw [hou] at hot
    cases hot
    obtain ⟨_, _, hda⟩ := hcl
    cases rv with
    | cons r0 rn =>
      cases rn
      rename_i u
      have hda : Data.seq its2.toArray 0 = Data.seq [u].toArray _ := hda
      injection hda with h3 h4
      obtain ⟨x, hx, hbt⟩ := (ln.bind s (cloFrom X.env.cells L.scope.names []) (.ref tu) doc pm (.ref c') ctv).2 d1 tu _ u rfl hou (by show Data.seq its2.toArray = _; rw [h3])
      exact go [(x, u)] (fun y hy => by rw [List.mem_singleton.mp hy]; exact hx) hbt
end Dv

namespace Dv
open PySem PySem.Spec PyProof.Rows
open L2 hiding Takes XE CX MkP PMk ps_raise ps_try_as ps_try_many HdsOk takes_of passAt passes_call mk_of pmk_own
open L2N (Takes XE CX MkP PMk ps_raise ps_try_as ps_try_many HdsOk takes_of passAt passes_call mk_of pmk_own Zn Zn.steady)

/-- a reading that is its own question -/
theorem de_all {C : Cs} {e : Expr} {f : Ro → List R → Option Rs} (h : ∀ (X : Cx) (pins : List (Addr × Obj)) (s : Shared) (σ : L2.St) (w : Wd) (ρ : Ro) (m : List R) (Q : VK) (o : Rs), C.Ok X → Inv X pins σ w.H s → Wf C.T w m → ER C.T w σ ρ → f ρ m = some o → PostE C.T C.W σ w Q o →
    wpAny (model X.prog X.w) X.A (eval e X.env) (EP X pins σ Q) X.xe s) : DE C e f :=
  ⟨fun σ H Q => ∀ X pins s, C.Ok X → Inv X pins σ H s → wpAny (model X.prog X.w) X.A (eval e X.env) (EP X pins σ Q) X.xe s, fun X ok => ⟨fun pins s σ H Q I h => h X pins s ok I⟩, fun σ w ρ m Q o W E e0 p X pins s ok I => h X pins s σ w ρ m Q o ok I W E e0 p⟩
theorem Cs.Ok.env0 {C : Cs} {X : Cx} (ok : C.Ok X) {pins : List (Addr × Obj)} {σ : L2.St} {H : Hp} {s : Shared} (I : Inv X pins σ H s) : Env0 C.P C.w C.T.K C.mg C.base X.A X.stack s H := by
  have := I.env0
  rw [ok.prog, ok.w, ok.K, ok.mg, ok.base] at this
  exact this
/-- what comes back from a call -/
theorem call_back {C : Cs} {X : Cx} {pins : List (Addr × Obj)} {σ : L2.St} {H : Hp} {s : Shared} {Q : VK} {c : Code} {b : Bool} (ok : C.Ok X) (hb : b = true → C.any = true) (I : Inv X pins σ H s) (h : codeAny (model C.P C.w) X.A c (CR (CXa b C.P C.w) X.stack C.P C.w H s Q (WE C.W σ)) s) :
    codeAny (model X.prog X.w) X.A c (fun r s' => match r with
      | .ok (.ret u) => EP X pins σ Q u s'
      | .ok _ => False
      | .error e => X.xe e s') s := by
  rw [← ok.prog, ← ok.w] at h
  refine codeAny_mono h fun r s' hq => ?_
  cases r with
  | error e => exact ok.passA hb σ pins H s e s' I hq
  | ok fl =>
    cases fl with
    | ret u => exact I.after hq
    | next => exact False.elim hq
    | brk => exact False.elim hq
    | cont => exact False.elim hq
/-- .. from one that raises nothing -/
theorem call_back0 {C : Cs} {X : Cx} {pins : List (Addr × Obj)} {σ : L2.St} {H : Hp} {s : Shared} {Q : VK} {c : Code} {b : Bool} (ok : C.Ok X) (I : Inv X pins σ H s) (h : codeAny (model C.P C.w) X.A c (CR (CXa b C.P C.w) X.stack C.P C.w H s Q (fun _ _ _ => False)) s) :
    codeAny (model X.prog X.w) X.A c (fun r s' => match r with
      | .ok (.ret u) => EP X pins σ Q u s'
      | .ok _ => False
      | .error e => X.xe e s') s := by
  rw [← ok.prog, ← ok.w] at h
  refine codeAny_mono h fun r s' hq => ?_
  cases r with
  | error e =>
    have hq : CXa b X.prog X.w X.stack H s (fun _ _ _ => False) e s' := hq
    cases b with
    | false => obtain ⟨_, _, _, _, _, _, _, _, _, _, _, _, z⟩ := hq; exact z.elim
    | true => obtain ⟨_, _, _, _, _, _, _, _, _, _, _, _, z⟩ := hq; exact z.elim
  | ok fl =>
    cases fl with
    | ret u => exact I.after hq
    | next => exact False.elim hq
    | brk => exact False.elim hq
    | cont => exact False.elim hq
/-! ### a closure that was got is called -/
noncomputable def CloE (C : Cs) : Prop := ∃ k, CloOk C.T C.P C.w C.mg C.base C.cells C.g.fr C.g.clo k ∧ k + 1 ≤ C.L ∧ (C.T.any = true → C.any = true)
theorem de_act {C : Cs} [Cold C] {i : Nat} {x : Str} {p p2 : Pos} (hc : CloE C) (hN : C.N[i]? = some x) (hv : Vis C.sc x) (hd : (x == ("__debug__" : Str)) = false) (hcd : (x == ("__classdict__" : Str)) = false) : DE C (.Call (.Name x p) [] [] p2) (evE C.g (.act (.var i))) := by
  refine de_all fun X pins s σ w ρ m Q o ok I W E e0 pp => ?_
  simp only [evE] at e0
  split at e0
  · rename_i d hd0
    rw [bnd_ok] at e0
    cases d with
    | fn j cl =>
      simp only [actD] at e0
      split at e0
      · rename_i hcl
        subst hcl
        obtain ⟨v, hs, rv⟩ := E.2 i _ hd0
        cases rv with
        | @fn a _ _ q =>
          refine wpAny_Call_Name_kw (thn ((pe_var (pos := p) (i := i) (X := X) (by rw [ok.N]; exact hN) (by rw [ok.sc]; exact hv) hd hcd).run pins s σ w.H (fun v H1 => v = .ref a ∧ H1 = w.H) I ⟨.ref a, hs, rfl, rfl⟩) fun u s1 ⟨v, H1, I1, r1, q1⟩ => ?_)
          obtain ⟨rfl, rfl⟩ := q1
          obtain rfl : u = Value.ref a := r1
          obtain ⟨k, hk, hkL, hca⟩ := hc
          obtain ⟨L, dV, doc, pm, ctv, c', hL, hf, hc', hdf⟩ := id q
          obtain ⟨hobj, _⟩ := I1.hok a _ (W.sub _ _ hf)
          refine PySem.W.callWith_F0 ⟨_, _, _, _, hobj⟩ ?_
          refine wpAny_call (codeAny_mono (call_back ok hca I1 (hk j a X.A X.stack s1 w m Q (WE C.W σ) o ((ok.room Cold.out).mono hkL) (ok.env0 I1) (ok.now I1) W q e0 pp)) fun r s' hq => ?_)
          cases r with
          | error e => exact hq
          | ok fl => cases fl <;> exact hq
      · cases e0
    | _ => cases e0
  · cases e0
/-! ### a def that calls what it gets -/
/-- its promise, whatever the closures, as long as their cells stand -/
noncomputable def HFn (P : Program) (w : World) (mg : Str → Option Value) (base : Heap) (T : Tb) (j : Nat) (f : Addr) (fd : FuncData) (ps : List Str) (Fh : List (Str × Addr) → (Nat → List R → Option Rs) → List D → List R → Option Rs) : Prop :=
  ∀ (T' : Tb), TbSim T T' → T'.tb = T.tb → ∀ (Ls : List (Addr × Option Value)) (fr : List (Str × Addr)) (clo : Nat → List R → Option Rs) (kc : Nat), CloOk T' P w mg base Ls fr clo kc →
    ∀ (A : Around) (outer : List Env) (s : Shared) (wd : Wd) (args : Args) (us : List Value) (vs : List V) (ds : List D) (m : List R) (Q : VK) (E : XK) (o : Rs), Room (kc + j) A → Env0 P w T.K mg base A outer s wd.H → CellsAt Ls s wd.H → BindsTo s fd args (ps.zip us) → Vals vs us → RepL T' wd.Hs wd.al vs ds →
      ds.length = ps.length → Wf T' wd m → Fh fr clo ds m = some o → PostC T' wd Q E o → codeAny (model P w) A (.call (.ref f) args) (CR (CXa T.any P w) outer P w wd.H s Q E) s
noncomputable def hofC (P : Program) (w : World) (mg : Str → Option Value) (base : Heap) (T : Tb) (g : Gt) (Ls : List (Addr × Option Value)) (L : Nat) (sc : Scope) (trb : Bool := false) : Cs :=
  { trb := trb, T := T, g := g, P := P, w := w, mg := mg, base := base, N := [], sc := sc, W := fun _ _ _ _ => False, L := L, fn := fun _ => true, cells := Ls, any := T.any }
noncomputable instance hofCold {P : Program} {w : World} {mg : Str → Option Value} {base : Heap} {T : Tb} {g : Gt} {Ls : List (Addr × Option Value)} {L : Nat} {sc : Scope} {trb : Bool} : Cold (hofC P w mg base T g Ls L sc trb) := ⟨rfl⟩
theorem def_okH {P : Program} {w : World} {mg : Str → Option Value} {base : Heap} (T : Tb) (j : Nat) {x qual : Str} {st : Stmt} {f : Addr} {fd : FuncData} {N ps : List Str} {b : Ss} {fz : Bool} (F : FnD T.K x qual st f fd) (S : FnScope N ps (defScope st))
    (g : List (Str × Addr) → (Nat → List R → Option Rs) → Gt) (trb : Bool) (hg : ∀ fr clo, (g fr clo).nm = T.nm)
    (hb : ∀ T', TbSim T T' → T'.tb = T.tb → ∀ Ls fr clo kc, CloOk T' P w mg base Ls fr clo kc → ∀ E : XK, DSs ((hofC P w mg base T' (g fr clo) Ls (kc + j) (defScope st) trb).at N (defScope st) E) (defBody st) (evSs (g fr clo) b)) :
    HFn P w mg base T (j + 1) f fd ps (fun fr clo ds m => runD (g fr clo) N.length b fz ds m) := by
  intro T' sim htb Ls fr clo kc hclo A outer s wd args us vs ds m Q E o hr e0 hcs hbt r rd hdl W e p
  obtain ⟨oc, od, dV, kV, doc, pm, an, cdv, ct, osl, rfl, lk, hcd⟩ := F.ex
  have hl : vs.length = ps.length := by rw [rd.length]; exact hdl
  refine LamX.run_ofS (CX := CXa T.any P w) (N := N) (ps := ps) (us := us) (vs := vs) lk hcd S hr e0 hbt r hl fun hr' => ?_
  obtain ⟨t, pt, rt⟩ := hb T' sim htb Ls fr clo kc hclo E
  refine ⟨t, pt _ ⟨⟨rfl, rfl, sim.K, rfl, rfl, rfl, rfl, S.nd, (fun _ => rfl), (fun _ => hr'), (takes_ofA (b := T.any) rfl rfl rfl rfl).1, rfl, True.intro, (fun p hp => ⟨(hcs p hp).1, (hcs p hp).2, by simp [cxOf]⟩), un_of hr', noEx, (fun _ => ⟨rfl, rfl⟩), fun z => (takes_ofA (b := T.any) rfl rfl rfl rfl).2 (sim.any.trans z)⟩, passes_of rfl, fun _ => ⟨rfl, rfl, rfl⟩⟩, ?_⟩
  have e : runD (g fr clo) N.length b fz ds m = some o := e
  unfold runD at e
  cases e1 : evSs (g fr clo) b (ds.map some ++ List.replicate (N.length - ds.length) none) m with
  | none => rw [e1] at e; cases e
  | some o1 =>
    rw [e1] at e
    refine rt _ wd _ m _ o1 W (start_er rd) e1 ?_
    have go : ∀ (d : D) (m' : List R) (w' : Wd) (v : V), (if fz then fin (g fr clo).nm m m' d else some (Rs.ok d m')) = some o → Ext wd w' → Wf T' w' m' → Rep T' w'.Hs w'.al v d → Q v w'.H := fun d m' w' v e x' W' r' => by
      cases fz with
      | true =>
        rw [if_pos rfl, hg, sim.nm] at e
        obtain ⟨d2, m2, w2, rfl, hH, x2, W2, r2⟩ := fin_rep W x' W' r' e
        rw [← hH]
        exact p w2 v x2 W2 r2
      | false =>
        rw [if_neg Bool.false_ne_true] at e
        cases e
        exact p w' v x' W' r'
    cases o1 with
    | rt d m' => exact fun w' v x' W' r' => go d m' w' v e x' W' r'
    | nx ρ m' => exact fun w' σ x' W' _ => go .non m' w' .non e x' W' .non
    | ex x ρ m' =>
      cases e
      exact fun w' σ cls dd x' W' _ rx => p w' cls dd x' W' rx
    | bk ρ m' => cases e
    | ct ρ m' => cases e
/-- the def number i, that calls what it gets, under the name x, called with n arguments; k: the room that the closures want -/
noncomputable def HofE (C : Cs) (x : Str) (n i k : Nat) : Prop := ∃ (j : Nat) (f : Addr) (fd : FuncData) (ps : List Str), HFn C.P C.w C.mg C.base C.T j f fd ps (C.g.hof i) ∧ k + j ≤ C.L ∧ C.mg x = some (.ref f) ∧ PySem.W.keepIn C.T.K (.ref f) = true ∧ Binds C.T.K fd ps [] ∧ n = ps.length
/-- the common part of its calls -/
theorem hof_run {C : Cs} [Cold C] {X : Cx} {pins : List (Addr × Obj)} {σ : L2.St} {s1 : Shared} {w1 : Wd} {m1 : List R} {Q : VK} {o : Rs} {us : List Value} {vs : List V} {ds : List D} {f : Addr} {fd : FuncData} {ps : List Str} {j kc : Nat} {Fh : List (Str × Addr) → (Nat → List R → Option Rs) → List D → List R → Option Rs} {T' : Tb} {Ls : List (Addr × Option Value)} {fr : List (Str × Addr)} {clo : Nat → List R → Option Rs}
    (ok : C.Ok X) (H : HFn C.P C.w C.mg C.base C.T j f fd ps Fh) (hkL : kc + j ≤ C.L) (hb : Binds C.T.K fd ps []) (sim : TbSim C.T T') (htb : T'.tb = C.T.tb) (hclo : CloOk T' C.P C.w C.mg C.base Ls fr clo kc) (I1 : Inv X pins σ w1.H s1) (hcs : CellsAt Ls s1 w1.H)
    (r : Vals vs us) (rd : RepL C.T w1.Hs w1.al vs ds) (hdl : ds.length = ps.length) (W1 : Wf C.T w1 m1) (hbs : Le T'.bs w1.Hs ∧ LeA T'.ba w1.al) (e1 : Fh fr clo ds m1 = some o) (p1 : PostE C.T C.W σ w1 Q o) (ho : ∃ d m', o = .ok d m') :
    wpAny (model X.prog X.w) X.A (call (.ref f) us) (EP X pins σ Q) X.xe s1 := by
  have hus : us.length = ps.length := by rw [← r.length, rd.length]; exact hdl
  have b := hb s1 us (by rw [← ok.K]; exact I1.kIn) (by rw [List.append_nil]; exact hus)
  rw [List.append_nil] at b
  refine wpAny_call (codeAny_mono (call_back0 ok I1 (H T' sim htb Ls fr clo kc hclo X.A X.stack s1 w1 ⟨us, []⟩ us vs ds m1 Q (fun _ _ _ => False) o ((ok.room Cold.out).mono hkL) (ok.env0 I1) hcs b r (rd.cv sim) hdl (W1.cv sim (.inl htb) hbs) e1 ?_)) fun r s' hq => ?_)
  · -- back in the tables of the caller
    have back : ∀ {w' : Wd} {m' : List R}, Ext w1 w' → Wf T' w' m' → Wf C.T w' m' := fun x' W' => W'.cv sim.symm (.inl htb.symm) ⟨W1.bse.1.trans x'.hs, W1.bse.2.trans x'.leA⟩
    obtain ⟨d, m', rfl⟩ := ho
    exact fun w' v x' W' r' => p1 w' v x' (back x' W') (r'.cv sim.symm)
  · cases r with
    | error e => exact hq
    | ok fl => cases fl <;> exact hq
/-- the maker of closures -/
structure MkrE (C : Cs) (kc : Nat) : Prop where
  cells : ∀ env, C.hold env → env.cells = C.g.fr
  lam : ∀ i L, C.T.lams[i]? = some L → (∀ ρ m, C.g.lamE i ρ m = none) ∨ LamIn C.sc C.N L ∧ ∀ E, DE (({ C with L := kc } : Cs).lam L E) L.body (C.g.lamE i)
theorem de_hof {C : Cs} [Cold C] {x : Str} {i : Nat} {e : Expr} {es : List Expr} {xs : Es} {p pos : Pos} (kc : Nat) (M : MkrE C kc) (hc : HofE C x xs.len i kc) (hg : C.sc.names.lookup x = some .globalImplicit) (ha : DA C (e :: es) (evL C.g xs)) (hs : (e :: es).all noStar = true) (hdb : (x == ("__debug__" : Str)) = false) :
    DE C (.Call (.Name x p) (e :: es) [] pos) (evE C.g (.hof i xs)) := by
  obtain ⟨j, f, fd, ps, H, hkL, hm, kp, hb, hn⟩ := hc
  obtain ⟨t, pt, rt⟩ := ha
  rw [List.all_cons, Bool.and_eq_true] at hs
  refine de_all fun X pins s σ w ρ m Q o ok I W E e0 pp => ?_
  simp only [evE] at e0
  refine wpAny_Call_Name_kw (ld_glob I (show X.env.scope.names.lookup x = some .globalImplicit by rw [ok.sc]; exact hg) (by rw [ok.mg]; exact hm) ?_ hdb)
  refine PySem.W.callWith_K (h₀ := X.base) I.ok.mod.kin (by rw [ok.K]; exact kp) ?_ (star1 hs.1 es _) (stars hs.2)
  refine thn ((pt X ok).run pos pins s σ w.H (fun vs H' => ∃ w1 ds m1, w1.H = H' ∧ Ext w w1 ∧ Wf C.T w1 m1 ∧ RepL C.T w1.Hs w1.al vs ds ∧ ds.length = xs.len ∧ hofX (C.g.hof i C.g.fr (fun i m => C.g.lamE i ρ m) ds m1) = some o) I (rt.bndN (R' := fun vs H' => _) W E e0 pp fun d m1 w1 v1 hl e1 x1 W1 r1 E1 p1 => ⟨w1, d, m1, rfl, x1, W1, r1, r1.length ▸ hl, e1⟩)) fun us s1 ⟨vs, H1, I1, r, w1, ds, m1, hH, x1, W1, r1, hdl, e1⟩ => ?_
  subst hH
  obtain ⟨e1, ho⟩ := hofX_some e1
  obtain ⟨Ls, hcs, _, hclo⟩ := clo_of ok I1 W1 (E.on x1) C.g.lamE kc M.lam
  rw [M.cells _ ok.hld] at hclo
  exact ⟨I1.kIn, hof_run ok H hkL hb (C.T.at_sim w1) rfl hclo I1 hcs r r1 (hdl.trans hn) W1 ⟨Le.refl _, LeA.refl _⟩ e1 (pp.on x1 W1) ho⟩
end Dv

namespace Dv
open PySem PySem.Spec PyProof.Rows
open L2 hiding Takes XE CX MkP PMk ps_raise ps_try_as ps_try_many HdsOk takes_of passAt passes_call mk_of pmk_own
open L2N (Takes XE CX MkP PMk ps_raise ps_try_as ps_try_many HdsOk takes_of passAt passes_call mk_of pmk_own Zn Zn.steady)

/-! ### a closure is made -/
/-- the frame of the maker -/
structure MkrT (C : Cs) (c P : Addr) (q : Str) : Prop where
  tab : LamX.TabB C.base C.mg c P
  hold : ∀ env, C.hold env → env.cells = C.g.fr ∧ env.code = .ref c ∧ env.qual = q
  mem : (P, q ++ "<lambda>") ∈ C.T.tb
  uniq : ∀ p ∈ C.T.tb, p.1 = P → p.2 = q ++ "<lambda>"
theorem fnU_ok {P : Program} {w : World} {H : Hp} {h : Heap} {a : Addr} {o : Obj} (e : h.get? a = some o) : ObjOk P w H h a (.frz o fnU) := ⟨e, True.intro, ⟨o, e⟩, fun _ _ _ _ => True.intro⟩
section
variable {C : Cs} {X : Cx} {pins : List (Addr × Obj)} {σ : L2.St} {s : Shared} {w : Wd} {m : List R}
theorem lam_tail {c P : Addr} {q : Str} {params : Arguments} {body : Expr} {scope : Scope} {pos : Pos} {i : Nat} {L : Lam} {dV : Value} {E : Value → Shared → Prop} {Q : Value → Shared → Prop} (ok : C.Ok X) (M : MkrT C c P q) (hL : C.T.lams[i]? = some L) (h1 : L.qual = q ++ "<lambda>") (h2 : L.params = params) (h3 : L.body = body) (h4 : L.scope = scope)
    (hfree : ∀ y ∈ scope.names, y.2 = .free → ∃ c, X.env.cells.lookup y.1 = some c) (I : Inv X pins σ w.H s) (W : Wf C.T w m) (hdv : (L.dfl = false ∧ dV = .none) ∨ (L.dfl = true ∧ ∃ t, dV = .ref t ∧ SqN w.Hs t [.int 0]))
    (k : ∀ (w' : Wd) (f : Addr) (s' : Shared), Ext w w' → Wf C.T w' m → Inv X pins σ w'.H s' → Rep C.T w'.Hs w'.al (.ref f) (.fn i C.g.fr) → Q (.ref f) s') :
    wpAny (model X.prog X.w) X.A (makeTail "<lambda>" (X.env.qual ++ "<lambda>") params (.expr body) scope X.env dV .none none pos pos.line) Q E s := by
  obtain ⟨hcl, hcode, hq⟩ := M.hold _ ok.hld
  obtain ⟨hPs, ps, hP, ht, ha⟩ := W.tab _ M.mem
  have hPs : w.Hs P = none := hPs
  have hP : w.H P = some (.tbl ps) := hP
  have TB := M.tab
  rw [← ok.base, ← ok.mg] at TB
  have bP : s.heap.BuiltinsAt X.mg P := TB.bm.keeps I.bk
  have hP' : s.heap.get? P = some { cls := .none, data := .fields ps } := I.hok P _ hP
  subst h2; subst h3; subst h4
  have fin : ∀ {w1 : Wd} {s1 : Shared} {h' : Heap} {tk : Nat} {c' : Addr} {doc ctv : Value}, s1.heap = h' → Ext w w1 → Wf C.T w1 m → Inv X pins σ w1.H s1 → w1.Hs c' = some (LamX.CodeO c' L.qual) →
      Q (.ref h'.objs.size) { s1 with heap := h'.push (PySem.W.kdv_obj "<lambda>" (X.env.qual ++ "<lambda>") L.params (.expr L.body) L.scope (cloFrom X.env.cells L.scope.names []) dV doc ((X.mg "__name__").getD .none) c' ctv), toks := tk } := fun {w1 s1 h' tk c' doc ctv} eh x1 W1 I1 hc => by
    subst eh
    have hn : w1.H s1.heap.objs.size = none := I1.hok.fresh (Nat.le_refl _)
    obtain ⟨W2, x2⟩ := W1.fz (.frz (PySem.W.kdv_obj "<lambda>" (X.env.qual ++ "<lambda>") L.params (.expr L.body) L.scope (cloFrom X.env.cells L.scope.names []) dV doc ((X.mg "__name__").getD .none) c' ctv) fnU) hn
    refine k _ _ _ (x1.trans x2 W1) W2 (I1.laid (t' := tk) (fun b u e => Heap.get?_push_of_some _ e) (Nat.le_refl _) (fnU_ok (Heap.get?_push_size _ rfl))) ?_
    refine .fn ⟨L, dV, doc, (X.mg "__name__").getD .none, ctv, c', hL, ?_, ?_, ?_⟩
    · show upd w1.Hs _ _ _ = _
      rw [upd_same, h1, hq, hcl]
    · exact x2.hs _ _ hc
    · rcases hdv with z | ⟨z, t, e, hs⟩
      · exact .inl z
      · exact .inr ⟨z, t, e, (x1.hs.trans x2.hs).sqN hs⟩
  cases hc : codeAmong pos ps.toList with
  | none =>
    refine PySem.W.kdv_makeTail (mg := X.mg) (c := c) (P := P) (ps := ps) (closure_ok hfree) I.ok.glob (I.mod.glob.keeps I.bk) hcode (TB.code.keeps I.bk) hP' ht hc TB.gP bP fun c' ctv doc h' tk hx hge hlt hrec htb => ?_
    obtain ⟨c2, oc, vs, t, e2, hoc, hd, hv⟩ := hrec
    cases e2
    have nC : w.H c' = none := I.hok.fresh hge
    have nCs : w.Hs c' = none := W.newS nC
    have nPc : P ≠ c' := ne_of_none hP nC
    have I1 := LamX.inv_table (t' := tk) (more := #[rawInt pos.line, rawInt pos.col, .ref c']) (h' := h') (c := c') (q := X.env.qual ++ "<lambda>") I hP (fun b o hb e => hx b o hb e) htb hge ⟨oc, vs, t, hoc, hd, hv⟩
    -- the world with the grown table
    have at_ : ∀ b o, w.H b = some o → (∀ qs, o ≠ .tbl qs) → upd (upd w.H P (.tbl (ps ++ #[rawInt pos.line, rawInt pos.col, .ref c']))) c' (LamX.CodeO c' (X.env.qual ++ "<lambda>")) b = some o := fun b o e n => by
      rw [upd_ne (ne_of_none e nC), upd_ne (fun z => n ps (by rw [z, hP] at e; exact (Option.some.inj e).symm))]
      exact e
    have atT : ∀ b qs, w.H b = some (.tbl qs) → b ≠ P → upd (upd w.H P (.tbl (ps ++ #[rawInt pos.line, rawInt pos.col, .ref c']))) c' (LamX.CodeO c' (X.env.qual ++ "<lambda>")) b = some (.tbl qs) := fun b qs e n => by
      rw [upd_ne (ne_of_none e nC), upd_ne n]
      exact e
    have atP : upd (upd w.H P (.tbl (ps ++ #[rawInt pos.line, rawInt pos.col, .ref c']))) c' (LamX.CodeO c' (X.env.qual ++ "<lambda>")) P = some (.tbl (ps ++ #[rawInt pos.line, rawInt pos.col, .ref c'])) := by
      rw [upd_ne nPc, upd_same]
    have les : Le w.Hs (upd w.Hs c' (LamX.CodeO c' (X.env.qual ++ "<lambda>"))) := le_upd nCs
    have nt : ∀ (k : Nat) a, w.al[k]? = some a → ∀ o, w.H a = some o → ∀ qs, o ≠ .tbl qs := fun k a hk o ho qs z => W.noTbl (List.mem_of_getElem? hk) qs (by rw [ho, z])
    have x1 : Ext w ⟨upd (upd w.H P (.tbl (ps ++ #[rawInt pos.line, rawInt pos.col, .ref c']))) c' (LamX.CodeO c' (X.env.qual ++ "<lambda>")), upd w.Hs c' (LamX.CodeO c' (X.env.qual ++ "<lambda>")), w.al⟩ := by
      refine ⟨les, ⟨[], by simp, by simp⟩, fun a ha => ?_, fun a o e _ n => at_ a o e n, fun a qs e => ?_⟩
      · have ha : upd w.Hs c' _ a ≠ none := ha
        by_cases z : a = c'
        · rw [z]; exact .inr nC
        · rw [upd_ne z] at ha; exact .inl ha
      · by_cases z : a = P
        · subst z
          rw [hP] at e; cases e
          exact ⟨_, atP⟩
        · exact ⟨#[], by rw [Array.append_empty]; exact atT a qs e z⟩
    have W1 : Wf C.T ⟨upd (upd w.H P (.tbl (ps ++ #[rawInt pos.line, rawInt pos.col, .ref c']))) c' (LamX.CodeO c' (X.env.qual ++ "<lambda>")), upd w.Hs c' (LamX.CodeO c' (X.env.qual ++ "<lambda>")), w.al⟩ m := by
      refine ⟨fun a o e => ?_, W.len, W.nd, fun a ha => ?_, fun k a r hk hr => ?_, fun p hp => ?_, W.bse.1.trans les, W.bse.2⟩
      · have e : upd w.Hs c' _ a = some o := e
        show upd (upd w.H P _) c' _ a = some o
        by_cases z : a = c'
        · rw [z, upd_same] at e ⊢; exact e
        · rw [upd_ne z] at e ⊢
          rw [upd_ne (ne_of_none e hPs)]
          exact W.sub _ _ e
      · have ha : a ∈ w.al := ha
        obtain ⟨o, ho⟩ := W.has ha
        show upd w.Hs c' _ a = none
        rw [upd_ne (ne_of_none ho nC)]
        exact W.off a ha
      · have hk : w.al[k]? = some a := hk
        exact RO.mono (W.ok k a r hk hr) les (LeA.refl _) fun o e => at_ a o e (nt k a hk o e)
      · by_cases z : p.1 = P
        · have hq2 := M.uniq p hp z
          refine ⟨?_, _, by rw [z]; exact atP, ?_, fun pos' cv hcv => ?_⟩
          · show upd w.Hs c' _ p.1 = none
            rw [z, upd_ne nPc]; exact hPs
          · have e9 : (ps ++ #[rawInt pos.line, rawInt pos.col, Value.ref c']).toList = ps.toList ++ [rawInt pos.line, rawInt pos.col, .ref c'] := by simp
            rw [e9]
            exact PySem.TriplesOk_snoc _ _ _ _ ht
          · have e9 : (ps ++ #[rawInt pos.line, rawInt pos.col, Value.ref c']).toList = ps.toList ++ [rawInt pos.line, rawInt pos.col, .ref c'] := by simp
            rw [e9] at hcv
            rcases LamX.among_app _ ht hcv with z2 | z2
            · obtain ⟨c0, a1, a2⟩ := ha pos' cv z2
              refine ⟨c0, a1, ?_⟩
              rw [hq2]
              exact les _ _ a2
            · refine ⟨c', z2, ?_⟩
              show upd w.Hs c' _ c' = _
              rw [upd_same, hq2, hq]
        · refine (W.tab p hp).on (fun qs e => atT _ qs e z) les fun qs e e2 => ?_
          show upd w.Hs c' _ p.1 = none
          rw [upd_ne (ne_of_none e nC)]; exact e2
    exact fin (s1 := { s with heap := h', toks := tk }) rfl x1 W1 I1 (by show upd w.Hs c' _ c' = _; rw [upd_same, h1, hq])
  | some cv =>
    obtain ⟨c', e, hco⟩ := ha pos cv hc
    subst e
    refine PySem.W.kdv_makeTailHit (mg := X.mg) (c := c) (P := P) (ps := ps) (closure_ok hfree) I.ok.glob (I.mod.glob.keeps I.bk) hcode (TB.code.keeps I.bk) hP' ht hc bP fun ctv doc h' tk hx hsz => ?_
    have I1 : Inv X pins σ w.H { s with heap := h', toks := tk } := I.kept fun b o e => hx b o e
    exact fin (s1 := { s with heap := h', toks := tk }) rfl (Ext.refl _) W I1 (by rw [h1]; exact hco)
end
end Dv

namespace Dv
open PySem PySem.Spec PyProof.Rows
open L2 hiding Takes XE CX MkP PMk ps_raise ps_try_as ps_try_many HdsOk takes_of passAt passes_call mk_of pmk_own
open L2N (Takes XE CX MkP PMk ps_raise ps_try_as ps_try_many HdsOk takes_of passAt passes_call mk_of pmk_own Zn Zn.steady)

section
variable {C : Cs}
/-- lambda: body -/
theorem de_lam {i : Nat} {c P : Addr} {q : Str} {L : Lam} {params : Arguments} {body : Expr} {scope : Scope} {pos : Pos} (M : MkrT C c P q) (hL : C.T.lams[i]? = some L) (h1 : L.qual = q ++ "<lambda>") (h2 : L.params = params) (h3 : L.body = body) (h4 : L.scope = scope) (h5 : L.dfl = false)
    (hf : ∀ y ∈ scope.names, y.2 = .free → C.sc.names.lookup y.1 = some .cell ∨ C.sc.names.lookup y.1 = some .free) (hdef : ∀ env, defaultsOf params env = ([], [])) : DE C (.Lambda params body scope pos) (evE C.g (.lam i)) := by
  refine de_all fun X pins s σ w ρ m Q o ok I W E e0 p => ?_
  simp only [evE] at e0
  cases e0
  refine PySem.W.kla_eval (hdef _) ?_
  rw [makeFunction_eq]
  simp only [List.zip_nil_right, List.filterMap_nil, List.isEmpty_nil, if_true, pure_bind]
  refine lam_tail (i := i) ok M hL h1 h2 h3 h4 (fun y hy e => I.ok.has _ ?_) I W (.inl ⟨h5, rfl⟩) fun w' f s' x' W' I' r' => ⟨.ref f, w'.H, I', rfl, p w' _ x' W' r'⟩
  have := hf y hy e
  rw [← ok.sc] at this
  exact this
/-! ### raise -/
structure ExcE (T : Tb) (mg : Str → Option Value) (x : Str) (c : Nat) : Prop where
  mg : mg x = some (.ref (T.cl c))
  exc : PySem.W.excIn T.K (T.cl c) [.type "ValueError", .type "Exception", .type "BaseException", .type "object"] "ValueError.__new__" = true
  keep : PySem.W.keepIn T.K (.ref (T.cl c)) = true
  sub : PySem.W.subIn T.K (.ref (T.cl c)) (.type "BaseException") = some true
  typ : PySem.W.typeIn T.K (.ref (T.cl c)) = some (.type "type")
theorem ds_rse [Cold C] {x t : Str} {c j : Nat} {p p2 pos pos2 : Pos} (X0 : ExcE C.T C.mg x c) (hg : C.sc.names.lookup x = some .globalImplicit) (hdb : (x == ("__debug__" : Str)) = false) : DS C (.Raise (some (.Call (.Name x p) [.Constant (.str t) j p2] [] pos)) none pos2) (evS C.g (.rse c)) := by
  refine ⟨fun D σ H => C.W (.ref (C.T.cl c)) none σ H, fun X ok => ?_, fun σ w ρ m D o W E e pp => ?_⟩
  · have := ps_raise (pos := pos2) (ok.calm Cold.out) ok.tk (pmk_own (X := X) (x := x) (m := t) (j := j) (p := p) (p2 := p2) (pos := pos) (C := C.T.cl c) PySem.F.excBase_ValueError (by rw [ok.K]; exact X0.exc) (by rw [ok.mg]; exact X0.mg) (by rw [ok.K]; exact X0.keep) (raises_own (by rw [ok.K]; exact X0.sub) (by rw [ok.K]; exact X0.typ)) (show X.env.scope.names.lookup x = some .globalImplicit by rw [ok.sc]; exact hg) hdb)
    exact this
  · simp only [evS] at e
    cases e
    exact pp w σ _ _ (Ext.refl _) W E ⟨rfl, rfl⟩
/-! ### try -/
/-- a clause: its class is found, and tells whether an exception is its own -/
structure HdE (C : Cs) (x : Str) (c : Nat) : Prop where
  mg : C.mg x = some (.ref (C.T.cl c))
  glo : C.sc.names.lookup x = some .globalImplicit
  deb : (x == ("__debug__" : Str)) = false
  sub : ∀ c1 b, C.g.sub c1 c = some b → PySem.W.exmOne C.T.K (.ref (C.T.cl c1)) (.ref (C.T.cl c)) = some b
inductive HdsD (C : Cs) : List ExceptHandler → List (Nat × List HI) → Prop
  | nil : HdsD C [] []
  | cons {x t : Str} {c j k : Nat} {np p1 p2 p3 p4 : Pos} {hds : List ExceptHandler} {l : List (Nat × List HI)} (h : HdE C x c) (r : HdsD C hds l) :
    HdsD C (.ExceptHandler (some (.Name x np)) none [.Return (some (.Tuple [.Constant (.str t) j p1] k p2)) p3] p4 :: hds) ((c, [.s t]) :: l)
end
end Dv

namespace Dv
open PySem PySem.Spec PyProof.Rows
open L2 hiding Takes XE CX MkP PMk ps_raise ps_try_as ps_try_many HdsOk takes_of passAt passes_call mk_of pmk_own
open L2N (Takes XE CX MkP PMk ps_raise ps_try_as ps_try_many HdsOk takes_of passAt passes_call mk_of pmk_own Zn Zn.steady)

/-! ### [f(x) for x in it], by the maker of the closures in it -/
end Dv

namespace Dv
open PySem PySem.Spec PyProof.Rows
open L2 hiding Takes XE CX MkP PMk ps_raise ps_try_as ps_try_many HdsOk takes_of passAt passes_call mk_of pmk_own
open L2N (Takes XE CX MkP PMk ps_raise ps_try_as ps_try_many HdsOk takes_of passAt passes_call mk_of pmk_own Zn Zn.steady)

/-- other data functions, the same place -/
theorem de_g {C : Cs} [Cold C] {g : Gt} {e : Expr} {f : Ro → List R → Option Rs} (h : DE ({ C with g := g } : Cs) e f) : DE C e f :=
  let ⟨t, pt, rt⟩ := h
  ⟨t, fun X ok => pt X ⟨ok.prog, ok.w, ok.K, ok.mg, ok.base, ok.N, ok.sc, ok.nd, ok.calm, ok.room, ok.tk, ok.fn, ok.hld, ok.cel, ok.un, ok.exq, ok.frm, ok.tka⟩, rt⟩
/-- what all frames agree on -/
noncomputable def runM (F : List (Str × Addr) → List D → List R → Option Rs) (ds : List D) (m : List R) : Option Rs :=
  open Classical in if h : ∃ o, ∀ fr, F fr ds m = some o then some h.choose else none
theorem runM_at {F : List (Str × Addr) → List D → List R → Option Rs} {ds : List D} {m : List R} {o : Rs} (h : runM F ds m = some o) (fr : List (Str × Addr)) : F fr ds m = some o := by
  unfold runM at h
  split at h
  · rename_i q
    cases h
    exact q.choose_spec fr
  · cases h
theorem runM_of {F : List (Str × Addr) → List D → List R → Option Rs} {ds : List D} {m : List R} {o : Rs} (h : ∀ fr, F fr ds m = some o) : runM F ds m = some o := by
  have q : ∃ o, ∀ fr, F fr ds m = some o := ⟨o, h⟩
  unfold runM
  rw [dif_pos q]
  have e := q.choose_spec []
  rw [h []] at e
  exact e.symm
/-- where a maker of closures runs -/
noncomputable def mkC (P : Program) (w : World) (mg : Str → Option Value) (base : Heap) (T : Tb) (g : Gt) (fr : List (Str × Addr)) (c : Addr) (q : Str) (L : Nat) (sc : Scope) (trb : Bool := false) : Cs :=
  { trb := trb, T := T, g := g, P := P, w := w, mg := mg, base := base, N := [], sc := sc, W := fun _ _ _ _ => False, L := L, fn := fun _ => true, hold := fun env => env.cells = fr ∧ env.code = .ref c ∧ env.qual = q }
noncomputable instance mkCCold {P : Program} {w : World} {mg : Str → Option Value} {base : Heap} {T : Tb} {g : Gt} {fr : List (Str × Addr)} {c : Addr} {q : Str} {L : Nat} {sc : Scope} {trb : Bool} : Cold (mkC P w mg base T g fr c q L sc trb) := ⟨rfl⟩
theorem def_okM {P : Program} {w : World} {mg : Str → Option Value} {base : Heap} (T : Tb) (L : Nat) {x qual : Str} {st : Stmt} {f c : Addr} {fd : FuncData} {N ps : List Str} {b : Ss} {fz : Bool} (F : FnD T.K x qual st f fd) (S : FnScope N ps (defScope st)) (hcode : fd.code = .ref c)
    (g : List (Str × Addr) → Gt) (trb : Bool) (hg : ∀ fr, (g fr).nm = T.nm)
    (hb : ∀ (fr : List (Str × Addr)) (E : XK), DSs ((mkC P w mg base T (g fr) fr c (qual ++ ".<locals>.") L (defScope st) trb).at N (defScope st) E) (defBody st) (evSs (g fr) b)) :
    FnOk P w T.K mg base (L2N.CX P w) (L + 1) f fd ps (fun vs H Q E => vs.length = ps.length ∧ spD T (runM fun fr => runD (g fr) N.length b fz) vs H Q E) := by
  obtain ⟨oc, od, dV, kV, doc, pm, an, cdv, ct, osl, rfl, lk, hcd⟩ := F.ex
  obtain rfl : cdv = .ref c := hcode
  refine fn_of lk hcd S (fun vs H Q E h => h.1) fun A outer s H vs Q E hr h => ?_
  have hb := hb (cellsFrom (s.heap.objs.size + 1) (defScope st).names [])
  generalize hfr : cellsFrom (s.heap.objs.size + 1) (defScope st).names [] = fr at hb
  obtain ⟨t, pt, rt⟩ := hb E
  obtain ⟨hl, w, ds, m, o, rfl, W, r, e, p⟩ := h
  refine ⟨t, pt _ ⟨⟨rfl, rfl, rfl, rfl, rfl, rfl, rfl, S.nd, (fun _ => rfl), (fun _ => hr), takes_of rfl rfl rfl rfl, rfl, ⟨hfr, rfl, rfl⟩, (fun p hp => nomatch hp), un_of hr, noEx, (fun _ => ⟨rfl, rfl⟩), fun z => (by cases z)⟩, passes_of rfl, fun _ => ⟨rfl, rfl, rfl⟩⟩, ?_⟩
  have e := runM_at e fr
  unfold runD at e
  cases e1 : evSs (g fr) b (ds.map some ++ List.replicate (N.length - ds.length) none) m with
  | none => rw [e1] at e; cases e
  | some o1 =>
    rw [e1] at e
    refine rt _ w _ m _ o1 W (start_er r) e1 ?_
    have go : ∀ (d : D) (m' : List R) (w' : Wd) (v : V), (if fz then fin (g fr).nm m m' d else some (Rs.ok d m')) = some o → Ext w w' → Wf T w' m' → Rep T w'.Hs w'.al v d → Q v w'.H := fun d m' w' v e x' W' r' => by
      cases fz with
      | true =>
        rw [if_pos rfl, hg] at e
        obtain ⟨d2, m2, w2, rfl, hH, x2, W2, r2⟩ := fin_rep W x' W' r' e
        rw [← hH]
        exact p w2 v x2 W2 r2
      | false =>
        rw [if_neg Bool.false_ne_true] at e
        cases e
        exact p w' v x' W' r'
    cases o1 with
    | rt d m' => exact fun w' v x' W' r' => go d m' w' v e x' W' r'
    | nx ρ m' => exact fun w' σ x' W' _ => go .non m' w' .non e x' W' .non
    | ex x ρ m' =>
      cases e
      exact fun w' σ cls dd x' W' _ rx => p w' cls dd x' W' rx
    | bk ρ m' => cases e
    | ct ρ m' => cases e
/-! ### the law's end -/
theorem walk_T {l : PySem.W.OpenLaw} {n k : Nat} {q : Program} {loose : List Str} {XP : (Str → Option Value) → Heap → Prop} {YP : World → Heap → Prop} {d : DefRec} {K : Params → PySem.W.Frag} {CX : World → CXT} {x : Str} (xs : List Str)
    (hn : l.most = some n) (hn2 : n ≤ sizeLine) (hdf : d.params.defaults = []) (hr : Room k callerA) (hY : ∀ (w : World) (h : Heap), YP w h → (K w.params).In h)
    (hq : ∀ y ∈ xs, ((recsOf q).find? fun e => e.name == y).isSome = true)
    (F : ∀ (w : World) (mg : Str → Option Value) (fa : Addr) (h : Heap), (K w.params).In h → h.Ns mainGlobals mg → mg d.name = some (.ref fa) →
      (∀ y ∈ xs, ∀ c P, PySem.W.tabIn (K w.params) y = some (c, P) → PySem.W.CodeHd h c P ∧ h.get? P = some { cls := .none, data := .fields #[] }) → LamX.LawAtS l w (K w.params) (CX w) k n x mg fa h)
    (hCX : ∀ (w : World) (H : Hp) (s : Shared) (e : Value) (s' : Shared), CX w [] H s (fun _ _ _ => False) e s' → False) :
    PySem.W.WalkO q loose XP YP l.row.toRowW d [] (fun f vs => PySem.call f vs) := by
  refine Att.attach_callB hn hdf fun w s₀ s₁ mg mb fa o pm cd doc a vs ns G Y ho hd hcd hmg hobj hints hlen hbits hg => ?_
  have KX := hY w _ Y
  obtain ⟨fd, cs, sp, hT, nT, C, hb, hsp, hF⟩ := F w mg fa _ KX G.T.g hmg fun y hy c P ht => by
    obtain ⟨d', hd'⟩ := Option.isSome_iff_exists.mp (hq y hy)
    exact PySem.W.tab_of G.T KX hd' ht
  exact LamX.law_callTs KX G.T.g G.T.b G.T.builtins G.T.nolimit hg hT nT C G.T.bmain hobj hints (Nat.le_trans hlen hn2) hr hF hb (fun H hH hS => hsp H a ns hlen hbits hH hS) fun H e s' => hCX w H s₁ e s'
theorem lawAt_of {l : PySem.W.OpenLaw} {w : World} {K : PySem.W.Frag} {k n : Nat} {x : Str} {mg : Str → Option Value} {fa : Addr} {h : Heap} {fd : FuncData} {T : Tb} {F : List D → List R → Option Rs} (cs : List (Addr × Addr))
    (hT : ∀ p ∈ cs, PySem.W.CodeHd h p.1 p.2 ∧ h.get? p.2 = some { cls := .none, data := .fields #[] }) (nT : ∀ p ∈ cs, K.lookup p.2 = none) (hbind : ∀ (s : Shared) (u : Value), BindsTo s fd ⟨[u], []⟩ [(x, u)]) (hTK : T.K = K) (htb : ∀ p ∈ T.tb, ∃ q ∈ cs, q.2 = p.1)
    (pl : ∀ ns : List Int, ns.length ≤ n → ∃ m, F [.ext (ns.map .int)] [] = some (.ok (.bl true) m)) (hb : T.bs = fun _ => none) (ha : T.ba = [])
    (ok : ∀ base : Heap, K.In base → base.Ns mainGlobals mg → (∀ p ∈ cs, LamX.TabB base mg p.1 p.2) → FnOk l.prog w K mg base (L2N.CX l.prog w) k fa fd [x] (fun vs H Q E => vs.length = 1 ∧ spD T F vs H Q E)) : LamX.LawAtS l w K (L2N.CX l.prog w) k n x mg fa h := by
  subst hTK
  exact ⟨fd, cs, _, fun p hp => (hT p hp).2, nT, fun p hp => (hT p hp).1, hbind, fun H a ns hl _ hH hS => ⟨rfl, law_end pl hl hS (fun _ => rfl) (fun p hp => by
    obtain ⟨q, hq, e⟩ := htb p hp
    rw [← e]; exact hH q hq) hb ha⟩, ok⟩
end Dv

namespace Dv
open PySem PySem.Spec PyProof.Rows
open L2 hiding Takes XE CX MkP PMk ps_raise ps_try_as ps_try_many HdsOk takes_of passAt passes_call mk_of pmk_own
open L2N (Takes XE CX MkP PMk ps_raise ps_try_as ps_try_many HdsOk takes_of passAt passes_call mk_of pmk_own Zn Zn.steady)

noncomputable instance visDec {sc : Scope} {x : Str} : Decidable (Vis sc x) := inferInstanceAs (Decidable (_ ∨ _ ∨ _))
/-! ### lambdas in the text, by their place -/
noncomputable def noE : Expr := .Name "" ⟨0, 0, 0, 0⟩
noncomputable def eS : Stmt → List Expr
  | .Assign _ v _ => [v]
  | .Return (some v) _ => [v]
  | .Expr v _ => [v]
  | .If t _ _ _ => [t]
  | .While t _ _ _ => [t]
  | .For _ it _ _ _ => [it]
  | .AugAssign _ _ v _ => [v]
  | _ => []
noncomputable def sS : Stmt → List Stmt
  | .If _ b o _ => b ++ o
  | .While _ b o _ => b ++ o
  | .For _ _ b o _ => b ++ o
  | .Try b _ o f _ => b ++ (o ++ f)
  | _ => []
noncomputable def eE : Expr → List Expr
  | .BoolOp _ vs _ => vs
  | .BinOp l _ r _ => [l, r]
  | .UnaryOp _ x _ => [x]
  | .IfExp t b o _ => [t, b, o]
  | .ListComp e gs _ _ => e :: gs.map (·.iter)
  | .Compare l _ cs _ => l :: cs
  | .Call f as _ _ => f :: as
  | .Attribute v _ _ => [v]
  | .Subscript v i _ => [v, i]
  | .List es _ => es
  | .Tuple es _ _ => es
  | _ => []
noncomputable def nS (l : List Stmt) (k : Nat) : Stmt := l.getD k (.Pass ⟨0, 0, 0, 0⟩)
noncomputable def nE (l : List Expr) (k : Nat) : Expr := l.getD k noE
noncomputable def mkLam (q : Str) : Expr → Lam
  | .Lambda a b s _ => ⟨q, a, b, s, !a.defaults.isEmpty⟩
  | e => ⟨q, defArgs (.Pass ⟨0, 0, 0, 0⟩), e, defScope (.Pass ⟨0, 0, 0, 0⟩), false⟩
/-- the code and the table of a def -/
theorem tabIn_of {K : PySem.W.Frag} {x : Str} {f c P : Addr} {oc xc : Value} {od xd : Option Addr} {fd : FuncData} {sl xs : Array (Option Value)} {vs : Array Value} (h1 : PySem.W.nsIn K mainGlobals x = some (some (.ref f))) (h2 : K.lookup f = some ⟨oc, od, .func fd, sl⟩) (h3 : fd.code = .ref c) (h4 : K.lookup c = some ⟨xc, xd, .fields vs, xs⟩) (h5 : vs[11]? = some (.ref P)) : PySem.W.tabIn K x = some (c, P) := by
  unfold PySem.W.tabIn
  rw [h1]
  show (match K.lookup f with | some ⟨_, _, .func fd, _⟩ => _ | _ => none) = _
  rw [h2]
  show (match fd.code with | .ref c => _ | _ => none) = _
  rw [h3]
  show (match K.lookup c with | some ⟨_, _, .fields vs, _⟩ => _ | _ => none) = _
  rw [h4]
  show (match (vs[11]? : Option Value) with | some (.ref P) => some (c, P) | _ => none) = _
  rw [h5]
end Dv

namespace Dv
open PySem PySem.Spec PyProof.Rows
open L2 hiding Takes XE CX MkP PMk ps_raise ps_try_as ps_try_many HdsOk takes_of passAt passes_call mk_of pmk_own
open L2N (Takes XE CX MkP PMk ps_raise ps_try_as ps_try_many HdsOk takes_of passAt passes_call mk_of pmk_own Zn Zn.steady)
/-! ### a op1 b op2 v op3 d, v a name -/
section
variable {X : Cx} {a b c d : Expr} {pos : Pos} {ta tb tc td : TE}
end
section
variable {C : Cs}
end
end Dv

namespace Dv
open PySem PySem.Spec PyProof.Rows
open L2 hiding Takes XE CX MkP PMk ps_raise ps_try_as ps_try_many HdsOk takes_of passAt passes_call mk_of pmk_own
open L2N (Takes XE CX MkP PMk ps_raise ps_try_as ps_try_many HdsOk takes_of passAt passes_call mk_of pmk_own Zn Zn.steady)

/-! ### keys -/
section
variable {T : Tb} {Hs : Hp} {al : List Addr}
/-! ### entries as data -/
variable {κ : Type} [DecidableEq κ]
noncomputable def RepO (T : Tb) (Hs : Hp) (al : List Addr) : Option V → Option D → Prop
  | some v, some d => Rep T Hs al v d
  | none, none => True
  | _, _ => False
noncomputable def RKV (T : Tb) (Hs : Hp) (al : List Addr) (vs : List (κ × V)) (kvs : List (κ × D)) : Prop := vs.map (·.1) = kvs.map (·.1) ∧ RepL T Hs al (vs.map (·.2)) (kvs.map (·.2))
theorem RKV.nil : RKV T Hs al ([] : List (κ × V)) [] := ⟨rfl, .nil⟩
theorem RKV.inv {v : κ × V} {vs : List (κ × V)} {x : κ × D} {kvs : List (κ × D)} (h : RKV T Hs al (v :: vs) (x :: kvs)) : v.1 = x.1 ∧ Rep T Hs al v.2 x.2 ∧ RKV T Hs al vs kvs := by
  obtain ⟨h1, h2⟩ := h
  rw [List.map_cons, List.map_cons] at h1 h2
  injection h1 with e1 e2
  cases h2 with
  | cons a b => exact ⟨e1, a, e2, b⟩
theorem RKV.ind {vs : List (κ × V)} {kvs : List (κ × D)} (h : RKV T Hs al vs kvs) : ∀ (P : List (κ × V) → List (κ × D) → Prop), P [] [] → (∀ v vs x kvs, v.1 = x.1 → Rep T Hs al v.2 x.2 → P vs kvs → P (v :: vs) (x :: kvs)) → P vs kvs := by
  intro P h0 hs
  induction vs generalizing kvs with
  | nil =>
    cases kvs with
    | nil => exact h0
    | cons x kvs => have := h.1; simp at this
  | cons v vs ih =>
    cases kvs with
    | nil => have := h.1; simp at this
    | cons x kvs =>
      obtain ⟨a, b, c⟩ := h.inv
      exact hs v vs x kvs a b (ih c)
theorem RKV.val {vs : List (κ × V)} {kvs : List (κ × D)} (h : RKV T Hs al vs kvs) (k : κ) : RepO T Hs al (valV vs k) (dval kvs k) := by
  refine h.ind (fun vs kvs => RepO T Hs al (valV vs k) (dval kvs k)) True.intro fun v vs x kvs h1 h2 ih => ?_
  by_cases e : v.1 = k
  · have e2 : dval (x :: kvs) k = some x.2 := by simp [dval, List.find?_cons, h1.symm.trans e]
    rw [valV_pos e, e2]; exact h2
  · have e2 : dval (x :: kvs) k = dval kvs k := by unfold dval; rw [List.find?_cons_of_neg (by simpa using fun z => e (h1.trans z))]
    rw [valV_neg e, e2]; exact ih
theorem RKV.any {vs : List (κ × V)} {kvs : List (κ × D)} (h : RKV T Hs al vs kvs) (k : κ) : (vs.any fun p => decide (p.1 = k)) = kvs.any fun p => decide (p.1 = k) := by
  refine h.ind (fun vs kvs => (vs.any fun p => decide (p.1 = k)) = kvs.any fun p => decide (p.1 = k)) rfl fun v vs x kvs h1 _ ih => ?_
  rw [List.any_cons, List.any_cons, ih, h1]
theorem RKV.length {vs : List (κ × V)} {kvs : List (κ × D)} (h : RKV T Hs al vs kvs) : vs.length = kvs.length := by
  have := congrArg List.length h.1
  simpa using this
end
/-! ### tuple keys -/
noncomputable def prj (vs : List (List Key × Addr × V)) : List (List Key × V) := vs.map fun p => (p.1, p.2.2)
noncomputable abbrev P3 : List (List Key × Addr × V) → List (List Key × Addr × Value) → Prop := Paired fun p q => (p.1 = q.1 ∧ p.2.1 = q.2.1) ∧ RelV p.2.2 q.2.2
theorem P3.look {vs : List (List Key × Addr × V)} {xs : List (List Key × Addr × Value)} (r : P3 vs xs) (k : List Key) : RelO (valV (prj vs) k) ((atKey xs k).map (·.2)) := by
  induction r with
  | nil => exact True.intro
  | @cons p q ps qs hp _ ih =>
    obtain ⟨⟨a, _⟩, c⟩ := hp
    show RelO (valV ((p.1, p.2.2) :: prj ps) k) _
    by_cases z : p.1 = k
    · have zq : atKey (q :: qs) k = some q.2 := by unfold atKey; rw [List.find?_cons_of_pos (by simpa using a.symm.trans z)]; rfl
      rw [valV_pos (show (p.1, p.2.2).1 = k from z), zq]; exact c
    · have zq : atKey (q :: qs) k = atKey qs k := by unfold atKey; rw [List.find?_cons_of_neg (by simpa using fun y => z (a.trans y))]
      rw [valV_neg (show ¬ (p.1, p.2.2).1 = k from z), zq]; exact ih
theorem P3.len {vs : List (List Key × Addr × V)} {xs : List (List Key × Addr × Value)} (r : P3 vs xs) : vs.length = xs.length := Paired.length r
section
variable {P : Program} {w : World} {H : Hp} {h : Heap} {a : Addr}
end
/-! ### the look-up, in the heap -/
/-- .. what stands there -/
noncomputable def DSee (P : Program) (w : World) (h : Heap) (a : Addr) (u : Value) (r : Option V) : Prop :=
  (∃ k vs, (mixKind P w).is k u = true ∧ h.DictOf (mixKind P w) a vs ∧ RelO r (valueAt vs k)) ∨
  ∃ k b xs, u = .ref b ∧ (tupleKind (mixKind P w)).is h k b ∧ h.DictOfH (tupleKind (mixKind P w)) a xs ∧ RelO r ((atKey xs k).map (·.2))
section
variable {X : Cx} {pins : List (Addr × Obj)} {σ : L2.St} {H : Hp} {s : Shared} {a : Addr} {y : V} {u : Value} {r : Option V} {A : Around} {E : Value → Shared → Prop}
theorem DSee.typeIs (g : DSee X.prog X.w s.heap a u r) : s.TypeIs (.ref a) "dict" := by
  rcases g with ⟨_, _, _, d, _⟩ | ⟨_, _, _, _, _, d, _⟩
  · exact d.typeIs
  · exact d.typeIs
end
end Dv

namespace Dv
open PySem PySem.Spec PyProof.Rows
open L2 hiding Takes XE CX MkP PMk ps_raise ps_try_as ps_try_many HdsOk takes_of passAt passes_call mk_of pmk_own
open L2N (Takes XE CX MkP PMk ps_raise ps_try_as ps_try_many HdsOk takes_of passAt passes_call mk_of pmk_own Zn Zn.steady)

/-! ### own exceptions whose __init__ has keyword-only parameters -/
section
variable {X : Cx}
end
end Dv

namespace Dv
open PySem PySem.Spec PyProof.Rows PySem.HandSPX PySem.W PySem.Calls
open L2 hiding Takes XE CX MkP PMk ps_raise ps_try_as ps_try_many HdsOk takes_of passAt passes_call mk_of pmk_own
open L2N (Takes XE CX MkP PMk ps_raise ps_try_as ps_try_many HdsOk takes_of passAt passes_call mk_of pmk_own Zn Zn.steady)
section
variable {M : Model} {A : Around} {E : Value → Shared → Prop} {h : Heap} {g : Array GenState} {d : Drawn} {t : Nat} {os : OsState}
variable {nm q : Str} {C N : Addr} {bs bm bmB : List Value} {hdct : Bool} {sn : List Str} {sub : List Value} {ab : Bool} {col : Option Bool} {dd : Option Addr} {k0 k1 k2 k3 k5 : Option Value} {B newId initId : String}
end
section
variable {prog : Program} {w : World} {A : Around} {E : Value → Shared → Prop} {R : Result → Shared → Prop} {h : Heap} {g : Array GenState} {d : Drawn} {t : Nat} {os : OsState}
variable {nm q : Str} {C N : Addr} {bs bm bmB : List Value} {hdct : Bool} {sn : List Str} {sub : List Value} {ab : Bool} {col : Option Bool} {dd : Option Addr} {k0 k1 k2 k3 k5 : Option Value} {B newId initId : String}
end
end Dv

namespace Dv
open PySem PySem.Spec PyProof.Rows
open L2 hiding Takes XE CX MkP PMk ps_raise ps_try_as ps_try_many HdsOk takes_of passAt passes_call mk_of pmk_own
open L2N (Takes XE CX MkP PMk ps_raise ps_try_as ps_try_many HdsOk takes_of passAt passes_call mk_of pmk_own Zn Zn.steady)
section
variable {X : Cx}
end
end Dv

namespace Dv
open PySem PySem.Spec PyProof.Rows
open L2 hiding Takes XE CX MkP PMk ps_raise ps_try_as ps_try_many HdsOk takes_of passAt passes_call mk_of pmk_own
open L2N (Takes XE CX MkP PMk ps_raise ps_try_as ps_try_many HdsOk takes_of passAt passes_call mk_of pmk_own Zn Zn.steady)
/-! ### __init__(self, *, f, ..): B.__init__(self, text), then the attributes -/
/-- the class above, as the text of __init__ finds it -/
structure BaseE (K : PySem.W.Frag) (mg : Str → Option Value) (x : Str) (B : Addr) : Prop where
  mg : mg x = some (.ref B)
  ga : PySem.W.specialIn K (.ref B) "__getattribute__" = some (some (.builtin "type.__getattribute__"))
  rd : PySem.W.readsIn K B (.type "type") = true
  tm : PySem.W.typeIn K (.ref B) = some (.type "type")
  fv : PySem.W.findCls K (.ref B) (.type "type") "__init__" = some (.val (.builtin "ValueError.__init__"))
section
variable {P : Program} {w : World} {K : PySem.W.Frag} {mg : Str → Option Value} {base : Heap} {k : Nat} {x qual B t f1 f2 : Str} {st : Stmt} {f Ba : Addr} {fd : FuncData} {j : Nat} {p1 p2 p3 p4 p5 p6 p7 p8 p9 p10 p11 p12 p13 p14 : Pos}
end
/-! ### raise C(f = e, ..) -/
/-- the promise of __init__, as raise wants it -/
noncomputable def SxE (C : Addr) (fs : List Str) (sp : Sp) (gV : List V → List V → List V) : Prop := ∀ (zs : List V) (G : Hp) (a : Addr) (Q : XK), zs.length = fs.length → G a = none → (∀ d, G d = none → Q (.ref C) (some d) (upd G d (.xd (fs.zip zs).reverse))) →
  sp (gV [.ref a] zs) (upd G a (exo a C none)) (fun v G2 => v = .non ∧ ∃ (d : Addr) (gs : List (Str × V)), G2 a = some (exo a C (some d)) ∧ G2 d = some (exd d gs) ∧ G d = none ∧ Q (.ref C) (some d) (upd (del G2 a) d (.xd gs))) (fun _ _ _ => False)
structure RskE (C : Cs) (x : Str) (c : Nat) (fs : List Str) : Prop where
  mg : C.mg x = some (.ref (C.T.cl c))
  T : OexC C.T.K (C.T.cl c)
  init : ∃ (k : Nat) (fI : Addr) (fd : FuncData) (ps : List Str) (sp : Sp) (g : List Value → List Value → List Value) (gV : List V → List V → List V), PySem.W.findIn C.T.K (.ref (C.T.cl c)) "__init__" = some (some (.ref fI)) ∧ PySem.W.typeIn C.T.K (.ref fI) = some (.type "function") ∧
    FnOk C.P C.w C.T.K C.mg C.base (L2N.CX C.P C.w) k fI fd ps sp ∧ k + 1 ≤ C.L ∧ KBn C.T.K fd ps 1 fs g gV ∧ SxE (C.T.cl c) fs sp gV
section
variable {C : Cs}
end
end Dv

namespace Dv
open PySem PySem.Spec PyProof.Rows
open L2 hiding Takes XE CX MkP PMk ps_raise ps_try_as ps_try_many HdsOk takes_of passAt passes_call mk_of pmk_own
open L2N (Takes XE CX MkP PMk ps_raise ps_try_as ps_try_many HdsOk takes_of passAt passes_call mk_of pmk_own Zn Zn.steady)
/-! ### try .. except X as e -/
noncomputable abbrev Tb.xc (T : Tb) (e : Option (Addr × Nat × Option Addr)) : Tb := { T with exc := e }
section
variable {T : Tb} {Hs : Hp} {al : List Addr} {e : Option (Addr × Nat × Option Addr)}
mutual
theorem Rep.nox (hx : T.exc = none) : ∀ {v : V} {d : D}, Rep T Hs al v d → noxD d = true
  | _, _, .non => rfl
  | _, _, .bl b => rfl
  | _, _, .int b => rfl
  | _, _, .str b => rfl
  | _, _, .tup s r => by rw [noxD]; exact RepL.nox hx r
  | _, _, .lst s r => by rw [noxD]; exact RepL.nox hx r
  | _, _, .ext s r => by rw [noxD]; exact RepL.nox hx r
  | _, _, .obj s n r => by rw [noxD]; exact RepL.nox hx r
  | _, _, .res e => rfl
  | _, _, .fn q => rfl
  | _, _, .dfn s => rfl
  | _, _, .dct s n r => by rw [noxD]; exact RepL.nox hx r
  | _, _, .exn0 s => by rw [hx] at s; cases s
  | _, _, .exn1 s t n r => by rw [hx] at s; cases s
theorem RepL.nox (hx : T.exc = none) : ∀ {v : List V} {d : List D}, RepL T Hs al v d → noxDL d = true
  | _, _, .nil => rfl
  | _, _, .cons r t => by rw [noxDL, Rep.nox hx r, RepL.nox hx t]; rfl
end
mutual
theorem Rep.toX (hx : T.exc = none) : ∀ {v : V} {d : D}, Rep T Hs al v d → Rep (T.xc e) Hs al v d
  | _, _, .non => .non
  | _, _, .bl b => .bl b
  | _, _, .int b => .int b
  | _, _, .str b => .str b
  | _, _, .tup s r => .tup s (RepL.toX hx r)
  | _, _, .lst s r => .lst s (RepL.toX hx r)
  | _, _, .ext s r => .ext s (RepL.toX hx r)
  | _, _, .obj s n r => .obj s n (RepL.toX hx r)
  | _, _, .res e => .res e
  | _, _, .fn q => .fn q
  | _, _, .dfn s => .dfn s
  | _, _, .dct s n r => .dct s n (RepL.toX hx r)
  | _, _, .exn0 s => by rw [hx] at s; cases s
  | _, _, .exn1 s t n r => by rw [hx] at s; cases s
theorem RepL.toX (hx : T.exc = none) : ∀ {v : List V} {d : List D}, RepL T Hs al v d → RepL (T.xc e) Hs al v d
  | _, _, .nil => .nil
  | _, _, .cons r t => .cons (Rep.toX hx r) (RepL.toX hx t)
end
mutual
theorem Rep.ofX : ∀ {v : V} {d : D}, noxD d = true → Rep (T.xc e) Hs al v d → Rep T Hs al v d
  | _, _, _, .non => .non
  | _, _, _, .bl b => .bl b
  | _, _, _, .int b => .int b
  | _, _, _, .str b => .str b
  | _, _, h, .tup s r => .tup s (RepL.ofX (by rw [noxD] at h; exact h) r)
  | _, _, h, .lst s r => .lst s (RepL.ofX (by rw [noxD] at h; exact h) r)
  | _, _, h, .ext s r => .ext s (RepL.ofX (by rw [noxD] at h; exact h) r)
  | _, _, h, .obj s n r => .obj s n (RepL.ofX (by rw [noxD] at h; exact h) r)
  | _, _, _, .res e => .res e
  | _, _, _, .fn q => .fn q
  | _, _, _, .dfn s => .dfn s
  | _, _, h, .dct s n r => .dct s n (RepL.ofX (by rw [noxD] at h; exact h) r)
  | _, _, h, .exn0 s => by rw [noxD] at h; cases h
  | _, _, h, .exn1 s t n r => by rw [noxD] at h; cases h
theorem RepL.ofX : ∀ {v : List V} {d : List D}, noxDL d = true → RepL (T.xc e) Hs al v d → RepL T Hs al v d
  | _, _, _, .nil => .nil
  | _, _, h, .cons r t => by
    rw [noxDL, Bool.and_eq_true] at h
    exact .cons (Rep.ofX h.1 r) (RepL.ofX h.2 t)
end
end
noncomputable def noxR : R → Bool
  | .lst xs => noxDL xs
  | .obj _ fs => noxDL (fs.map (·.2))
  | .dK kvs => noxDL (kvs.map (·.2))
  | .dL _ _ kvs => noxDL (kvs.map (·.2))
  | .dT kvs => noxDL (kvs.map (·.2))
section
variable {T : Tb} {w : Wd} {m : List R} {e : Option (Addr × Nat × Option Addr)}
theorem RO.nox (hx : T.exc = none) {a : Addr} {r : R} (h : RO T w a r) : noxR r = true := by
  cases r with
  | lst xs => obtain ⟨vs, _, q⟩ := h; exact q.nox hx
  | obj c fs => obtain ⟨dx, vfs, _, _, q⟩ := h; exact q.nox hx
  | dK kvs => obtain ⟨vs, _, _, q⟩ := h; exact q.nox hx
  | dL o us kvs => obtain ⟨_, _, q⟩ := h; exact q.nox hx
  | dT kvs => obtain ⟨P, w0, vs, _, _, _, q, _⟩ := h; exact q.nox hx
theorem RO.toX (hx : T.exc = none) {a : Addr} {r : R} (h : RO T w a r) : RO (T.xc e) w a r := by
  cases r with
  | lst xs => obtain ⟨vs, h1, q⟩ := h; exact ⟨vs, h1, q.toX hx⟩
  | obj c fs => obtain ⟨dx, vfs, h1, h2, q⟩ := h; exact ⟨dx, vfs, h1, h2, q.toX hx⟩
  | dK kvs => obtain ⟨vs, h1, h2, q⟩ := h; exact ⟨vs, h1, h2, q.toX hx⟩
  | dL o us kvs => obtain ⟨h1, h2, q⟩ := h; exact ⟨h1, h2, q.toX hx⟩
  | dT kvs => obtain ⟨P, w0, vs, h0, h1, h2, q, h3⟩ := h; exact ⟨P, w0, vs, h0, h1, h2, q.toX hx, h3⟩
theorem RO.ofX {a : Addr} {r : R} (hn : noxR r = true) (h : RO (T.xc e) w a r) : RO T w a r := by
  cases r with
  | lst xs => obtain ⟨vs, h1, q⟩ := h; exact ⟨vs, h1, q.ofX hn⟩
  | obj c fs => obtain ⟨dx, vfs, h1, h2, q⟩ := h; exact ⟨dx, vfs, h1, h2, q.ofX hn⟩
  | dK kvs => obtain ⟨vs, h1, h2, q⟩ := h; exact ⟨vs, h1, h2, q.ofX hn⟩
  | dL o us kvs => obtain ⟨h1, h2, q⟩ := h; exact ⟨h1, h2, q.ofX hn⟩
  | dT kvs => obtain ⟨P, w0, vs, h0, h1, h2, q, h3⟩ := h; exact ⟨P, w0, vs, h0, h1, h2, q.ofX hn, h3⟩
theorem Wf.toX (hx : T.exc = none) (W : Wf T w m) : Wf (T.xc e) w m := ⟨W.sub, W.len, W.nd, W.off, fun k a r h1 h2 => (W.ok k a r h1 h2).toX hx, W.tab, W.bse⟩
theorem Wf.nox (hx : T.exc = none) (W : Wf T w m) : ∀ (k : Nat) r, m[k]? = some r → noxR r = true := fun k r h => by
  obtain ⟨a, _, q⟩ := W.at h
  exact q.nox hx
theorem Wf.ofX (hn : ∀ (k : Nat) r, m[k]? = some r → noxR r = true) (W : Wf (T.xc e) w m) : Wf T w m := ⟨W.sub, W.len, W.nd, W.off, fun k a r h1 h2 => (W.ok k a r h1 h2).ofX (hn k r h2), W.tab, W.bse⟩
theorem ER.toX (hx : T.exc = none) {σ : L2.St} {ρ : Ro} (E : ER T w σ ρ) : ER (T.xc e) w σ ρ := ⟨E.1, fun i d h => let ⟨v, a, b⟩ := E.2 i d h; ⟨v, a, b.toX hx⟩⟩
end
/-- the place of the suite: a the exception, c1 its class, dd its dict -/
noncomputable abbrev Cs.sui (C : Cs) (a : Addr) (c1 : Nat) (dd : Option Addr) : Cs := { C with T := C.T.xc (some (a, c1, dd)), hot := true, W := fun _ _ _ _ => False, cells := [], hold := fun _ => True, trb := false }
theorem sui_ok {C : Cs} {X : Cx} (ok : C.OkS X) {a : Addr} {c1 : Nat} {d : Option Addr} {oe : Obj} {pn : List (Addr × Obj)} (hz : L2.Zc (.ref (C.T.cl c1)) d oe) (hd : ∃ vs, oe.data = .fields vs) : (C.sui a c1 d).OkS (X.suite a ((a, oe) :: pn)) := by
  refine ⟨⟨ok.prog, ok.w, ok.K, ok.mg, ok.base, ok.N, ok.sc, ok.nd, (fun h => by cases h), (fun h => by cases h), ?_, ok.fn, trivial, (fun p hp => by cases hp), ok.un, ?_, (fun h => by cases h), (fun _ u s' x => by
    obtain ⟨_, _, _, _, _, _, _, _, _, _, _, _, _, _, _, _, w⟩ := x
    exact w)⟩, (fun _ _ h => h.elim), (fun h => by cases h)⟩
  · rintro u s' ⟨_, _, _, _, _, _, _, _, _, _, _, _, _, _, _, _, w⟩
    exact w
  · intro _ a' c' dd' h
    cases h
    exact ⟨oe, List.mem_cons_self, hz, hd⟩
theorem ds_tra {C : Cs} [Cold C] {body suite : List Stmt} {b₀ : Stmt} {b h : Ss} {c i : Nat} {x n : Str} {np pos pos' : Pos} (ht : C.trb = true) (hx : C.T.exc = none) (hb : ∀ W, DSs ({ C with W := W } : Cs) body (evSs C.g b)) (hs : ∀ a c1 dd, DSs (C.sui a c1 dd) (b₀ :: suite) (evSs C.g h)) (hN : C.N[i]? = some n) (hln : C.sc.names.lookup n = some .local) (hh : HdE C x c) : DS C (.Try body [.ExceptHandler (some (.Name x np)) (some n) (b₀ :: suite) pos'] [] [] pos) (evS C.g (.tra b c i h)) := by
  let ts : Addr → Value → Option Addr → TS := fun a cls d => fun D σ H => ∃ c1, cls = .ref (C.T.cl c1) ∧ (hs a c1 d).choose D σ H
  refine ⟨fun D σ H => (hb (wAs C.T.K (.ref (C.T.cl c)) i ts C.W D)).choose D σ H, fun X ok => ?_, fun σ w ρ m D o W E e pp => ?_⟩
  · obtain ⟨hst, hfr, _⟩ := ok.stk ht
    rcases Bool.eq_false_or_eq_true C.any with han | han
    case inr =>
      have h1 := ps_try_as (X := X) (x := x) (n := n) (c := .ref (C.T.cl c)) (np := np) (pos := pos) (pos' := pos') (Wout := C.W) (tb := fun W => (hb W).choose) (ts := ts) (b₀ := b₀) (suite := suite) (i := i) hst hfr (by rw [ok.N]; exact ok.nd) (by rw [ok.N]; exact hN) (by show X.env.scope.names.lookup n = _; rw [ok.sc]; exact hln) ⟨show X.env.scope.names.lookup _ = _ by rw [ok.sc]; exact hh.glo, hh.deb, .inl (by rw [ok.mg]; exact hh.mg)⟩ ok.tk
          (fun W pn xe tk own => (hb W).choose_spec.1 (X.tr pn xe) ⟨⟨ok.prog, ok.w, ok.K, ok.mg, ok.base, ok.N, ok.sc, ok.nd, ok.calm, ok.room, tk, ok.fn, ok.hld, ok.cel, ok.un, noEx, ok.frm, fun z => (by rw [show C.any = false from han] at z; cases z)⟩, own, ok.stk⟩)
          (fun a oe cls d pn hz hd => ⟨fun pins s σ H D I hq => by
            obtain ⟨c1, rfl, hq⟩ := hq
            exact ((hs a c1 d).choose_spec.1 _ (sui_ok ok ⟨hz.1, hz.2.1⟩ hd)).run pins s σ H D I hq⟩)
      rw [ok.K] at h1
      exact h1
    case inl =>
      have h1 := L2.ps_try_as (X := X) (x := x) (n := n) (c := .ref (C.T.cl c)) (np := np) (pos := pos) (pos' := pos') (Wout := C.W) (tb := fun W => (hb W).choose) (ts := ts) (b₀ := b₀) (suite := suite) (i := i) hst hfr (by rw [ok.N]; exact ok.nd) (by rw [ok.N]; exact hN) (by show X.env.scope.names.lookup n = _; rw [ok.sc]; exact hln) ⟨show X.env.scope.names.lookup _ = _ by rw [ok.sc]; exact hh.glo, hh.deb, .inl (by rw [ok.mg]; exact hh.mg)⟩ (ok.tka han)
        (fun W pn xe tk own => (hb W).choose_spec.1 (X.tr pn xe) ⟨⟨ok.prog, ok.w, ok.K, ok.mg, ok.base, ok.N, ok.sc, ok.nd, ok.calm, ok.room, takes_nc tk, ok.fn, ok.hld, ok.cel, ok.un, noEx, ok.frm, fun _ => tk⟩, own, ok.stk⟩)
        (fun a oe cls d pn hz hd => ⟨fun pins s σ H D I hq => by
          obtain ⟨c1, rfl, hq⟩ := hq
          exact ((hs a c1 d).choose_spec.1 _ (sui_ok ok hz hd)).run pins s σ H D I hq⟩)
      rw [ok.K] at h1
      exact h1
  · simp only [evS] at e
    have rt := (hb (wAs C.T.K (.ref (C.T.cl c)) i ts C.W D)).choose_spec.2
    cases e1 : evSs C.g b ρ m with
    | none => rw [e1] at e; cases e
    | some o1 =>
      rw [e1] at e
      refine rt σ w ρ m D o1 W E e1 ?_
      cases o1 with
      | ex z ρ1 m1 =>
        intro w1 σ1 cls dd x1 W1 E1 r1
        obtain ⟨rfl, r2⟩ := id r1
        dsimp only at e
        cases hsb : C.g.sub z.c c with
        | none => rw [hsb] at e; cases e
        | some bb =>
          rw [hsb] at e
          refine ⟨bb, hh.sub _ _ hsb, fun hb1 a ha => ?_, fun hb1 => ?_⟩
          · subst hb1
            refine ⟨z.c, rfl, ?_⟩
            dsimp only at e
            cases e2 : evSs C.g h (ρ1.set i (some (exnD z))) m1 with
            | none => rw [e2] at e; cases e
            | some o2 =>
              rw [e2] at e
              cases o2 with
              | rt d2 m2 =>
                simp only [traK] at e
                split at e
                · rename_i hnn
                  cases e
                  obtain ⟨hnd, hmm⟩ := hnn
                  subst hmm
                  refine (hs a z.c dd).choose_spec.2 _ w1 _ m2 _ _ (W1.toX hx) ((E1.toX hx).set i (d := exnD z) ?_) e2 fun w' v x' W' r' => ?_
                  · unfold exnD
                    cases hf : z.fs with
                    | none =>
                      rw [hf] at r2
                      subst r2
                      exact .exn0 rfl
                    | some fs =>
                      rw [hf] at r2
                      obtain ⟨ad, vfs, rfl, h3, h4, h5⟩ := r2
                      exact .exn1 rfl h3 h4 (h5.toX hx)
                  · exact pp w' v (x1.trans x' W1) (W'.ofX (W1.nox hx)) (r'.ofX hnd)
                · cases e
              | nx _ _ => cases e
              | bk _ _ => cases e
              | ct _ _ => cases e
              | ex _ _ _ => cases e
          · subst hb1
            dsimp only at e
            cases e
            exact pp w1 σ1 _ dd x1 W1 E1 r1
      | nx ρ1 m1 => cases e; exact pp
      | rt d m1 => cases e; exact pp
      | bk ρ1 m1 => cases e; exact pp
      | ct ρ1 m1 => cases e; exact pp
end Dv

namespace Dv
open PySem PySem.Spec PyProof.Rows
open L2 hiding Takes XE CX MkP PMk ps_raise ps_try_as ps_try_many HdsOk takes_of passAt passes_call mk_of pmk_own
open L2N (Takes XE CX MkP PMk ps_raise ps_try_as ps_try_many HdsOk takes_of passAt passes_call mk_of pmk_own Zn Zn.steady)
/-! ### isinstance(e, c) and e.f, e the exception that is being handled -/
/-- its dict, if it has one, is told -/
noncomputable def DctX (dd : Option Addr) (H : Hp) : Prop := dd = none ∨ ∃ d fs, dd = some d ∧ H d = some (.xd fs)
theorem inst_exc {X : Cx} {pins : List (Addr × Obj)} {σ : L2.St} {H : Hp} {s : Shared} {a D : Addr} {oe : Obj} {dd : Option Addr} (I : Inv X pins σ H s) (hp : (a, oe) ∈ X.pn) (hz : L2.Zc (.ref D) dd oe) (hf : ∃ vs, oe.data = .fields vs) (hd : DctX dd H) : ∃ od, PySem.W.InstAt s.heap a oe D od := by
  obtain ⟨ha, _⟩ := I.pin (a, oe) (List.mem_append_left _ hp)
  obtain ⟨vs, hv⟩ := hf
  have hn : PySem.W.notCls oe = true := by unfold PySem.W.notCls; rw [hv] <;> rfl
  rcases hd with rfl | ⟨d, fs, rfl, e⟩
  · exact ⟨none, ha, hz.1, hn, by rw [hz.2]; trivial⟩
  · have hx : ObjOk X.prog X.w H s.heap d (.xd fs) := I.hok d _ e
    obtain ⟨mA, hns, hr⟩ := hx
    obtain ⟨od, ho, hl⟩ := lookIn_ns hns
    exact ⟨some od, ha, hz.1, hn, by rw [hz.2]; exact ho⟩
noncomputable def rIsX (K : PySem.W.Frag) (D a : Addr) (dd : Option Addr) : List V → Hp → VK → Prop := fun xs H Q => ∃ (c : V) (cv : Value) (b : Bool), xs = [.ref a, c] ∧ (∀ u, RelV c u → u = cv) ∧ PySem.W.kitOne K (.ref D) cv = some b ∧ DctX dd H ∧ Q (.bl b) H
theorem call_isX {X : Cx} {a D : Addr} {oe : Obj} {dd : Option Addr} (S : ExcC X.K D) (hp : (a, oe) ∈ X.pn) (hz : L2.Zc (.ref D) dd oe) (hf : ∃ vs, oe.data = .fields vs) : CallR X (.builtin "isinstance") (rIsX X.K D a dd) := by
  intro pins s σ H xs us Q I r h
  obtain ⟨c, cv, b, rfl, hcv, e, hd, q⟩ := h
  match us, r with
  | [ux, uc], .cons rx (.cons rt .nil) =>
    have e1 : ux = .ref a := rx
    have e2 := hcv _ rt
    subst e1; subst e2
    obtain ⟨od, J⟩ := inst_exc I hp hz hf hd
    have hcl : (PySem.W.clsIn X.K D).isSome = true := by
      obtain ⟨cd, hc, _⟩ := PySem.W.any_some S.hd
      rw [hc]; rfl
    exact PySem.W.kia_one (PySem.W.kitx_exc hcl S.hg S.hk S.hs S.ha S.hn S.ht S.hm) I.kIn J e (fun z => nomatch z) fun tk => ⟨.bl b, H, I.kept (t' := tk) fun _ _ z => z, rfl, q⟩
/-- the class that isinstance is asked for -/
structure EisE (C : Cs) (y : Str) (c : Nat) : Prop where
  val : ∃ (v : V) (cv : Value), (∀ X p, C.Ok X → PE X (.Name y p) (tC v)) ∧ (∀ u, RelV v u → u = cv) ∧ ∀ c1 b, C.g.sub c1 c = some b → PySem.W.kitOne C.T.K (.ref (C.T.cl c1)) cv = some b
  cls : ∀ c1 b, C.g.sub c1 c = some b → ExcC C.T.K (C.T.cl c1)
section
variable {C : Cs}
theorem eis_own {y : Str} {c : Nat} (hg : C.sc.names.lookup y = some .globalImplicit) (hm : C.mg y = some (.ref (C.T.cl c))) (hdb : (y == ("__debug__" : Str)) = false) (hs : ∀ c1 b, C.g.sub c1 c = some b → PySem.W.kitOne C.T.K (.ref (C.T.cl c1)) (.ref (C.T.cl c)) = some b) (hc : ∀ c1 b, C.g.sub c1 c = some b → ExcC C.T.K (C.T.cl c1)) : EisE C y c :=
  ⟨⟨.ref (C.T.cl c), .ref (C.T.cl c), fun X p ok => pe_glob (show X.env.scope.names.lookup y = _ by rw [ok.sc]; exact hg) (by rw [ok.mg]; exact hm) rfl hdb, fun u h => h, hs⟩, hc⟩
theorem eis_blt {y : Str} {t : String} {c : Nat} (hg : C.sc.names.lookup y = some .globalImplicit) (hm : C.mg y = none) (hv : bootBuiltins y = some (.type t)) (hn : y ≠ "__name__") (hdb : (y == ("__debug__" : Str)) = false) (hs : ∀ c1 b, C.g.sub c1 c = some b → PySem.W.kitOne C.T.K (.ref (C.T.cl c1)) (.type t) = some b) (hc : ∀ c1 b, C.g.sub c1 c = some b → ExcC C.T.K (C.T.cl c1)) : EisE C y c :=
  ⟨⟨.ty t, .type t, fun X p ok => pe_bltn (show X.env.scope.names.lookup y = _ by rw [ok.sc]; exact hg) (by rw [ok.mg]; exact hm) hv rfl hn hdb, fun u h => h, hs⟩, hc⟩
theorem de_eis {i c : Nat} {n y : Str} {p p1 p2 pos : Pos} (hh : C.hot = true) (hg : C.sc.names.lookup ("isinstance" : Str) = some .globalImplicit) (hm : C.mg "isinstance" = none) (hN : C.N[i]? = some n) (hv : Vis C.sc n) (hd : (n == ("__debug__" : Str)) = false) (hcd : (n == ("__classdict__" : Str)) = false) (hy : EisE C y c) :
    DE C (.Call (.Name "isinstance" p) [.Name n p1, .Name y p2] [] pos) (evE C.g (.eis i c)) := by
  obtain ⟨⟨v, cv, hpe, hcv, hk⟩, hcl⟩ := hy
  cases hx : C.T.exc with
  | none =>
    refine ⟨fun _ _ _ => False, fun X ok => ⟨fun _ _ _ _ _ _ h => h.elim⟩, fun σ w ρ m Q oo W E e0 pp => ?_⟩
    simp only [evE] at e0
    split at e0
    · rename_i c1 ks xs hr
      obtain ⟨u, _, ru⟩ := E.2 i _ hr
      cases ru with
      | exn0 s => rw [hx] at s; cases s
      | exn1 s _ _ _ => rw [hx] at s; cases s
    · cases e0
  | some q =>
    obtain ⟨a, c1, dd⟩ := q
    cases hb : C.g.sub c1 c with
    | none =>
      refine ⟨fun _ _ _ => False, fun X ok => ⟨fun _ _ _ _ _ _ h => h.elim⟩, fun σ w ρ m Q oo W E e0 pp => ?_⟩
      simp only [evE] at e0
      split at e0
      · rename_i c2 ks xs hr
        obtain ⟨u, _, ru⟩ := E.2 i _ hr
        cases ru with
        | exn0 s => rw [hx] at s; cases s; rw [hb] at e0; cases e0
        | exn1 s _ _ _ => rw [hx] at s; cases s; rw [hb] at e0; cases e0
      · cases e0
    | some b =>
      refine ⟨tCB (rIsX C.T.K (C.T.cl c1) a dd) (tCons (tVar i) (tCons (tC v) tNil)), fun X ok => ?_, fun σ w ρ m Q oo W E e0 pp => ?_⟩
      · obtain ⟨oe, hp, hz, hf⟩ := ok.exq hh a c1 dd hx
        refine pe_callB (by have := call_isX (X := X) (by rw [ok.K]; exact hcl c1 b hb) hp hz hf; rw [ok.K] at this; exact this) (show X.env.scope.names.lookup _ = some .globalImplicit by rw [ok.sc]; exact hg) (by rw [ok.mg]; exact hm) (by decide +kernel)
          (pa_cons (pe_var (by rw [ok.N]; exact hN) (by rw [ok.sc]; exact hv) hd hcd) (pa_cons (hpe X p2 ok) pa_nil)) (by decide) (by decide)
      · simp only [evE] at e0
        split at e0
        · rename_i c2 ks xs hr
          obtain ⟨b2, e2, rfl⟩ := okB_some e0
          obtain ⟨u, hu, ru⟩ := E.2 i _ hr
          cases ru with
          | exn0 s =>
            rw [hx] at s; cases s
            exact ⟨_, hu, v, cv, b2, rfl, hcv, hk _ _ e2, .inl rfl, pp.here W (.bl b2)⟩
          | exn1 s t _ _ =>
            rw [hx] at s; cases s
            exact ⟨_, hu, v, cv, b2, rfl, hcv, hk _ _ e2, .inr ⟨_, _, rfl, W.sub _ _ t⟩, pp.here W (.bl b2)⟩
        · cases e0
/-- the reading of e.f -/
noncomputable def tXa (a : Addr) (od : Option Addr) (f : Str) (te : TE) : TE := fun σ H Q => te σ H fun x H1 => x = .ref a ∧ ∃ (d : Addr) (fs : List (Str × V)) (v : V), od = some d ∧ H1 d = some (.xd fs) ∧ fs.lookup f = some v ∧ Q v H1
theorem pe_xa {X : Cx} {a D : Addr} {oe : Obj} {dd : Option Addr} {e : Expr} {te : TE} {pos : Pos} {f : Str} (S : XfC X.K D) (hno : PySem.W.findIn X.K (.ref D) f = some none) (hp : (a, oe) ∈ X.pn) (hz : L2.Zc (.ref D) dd oe) (hf : ∃ vs, oe.data = .fields vs) (he : PE X e te) (hb : attributeBase e f X.env (eval e X.env) = eval e X.env) :
    PE X (.Attribute e f pos) (tXa a dd f te) := by
  refine ⟨fun pins s σ H Q I h => attr_of hb (thn (he.run pins s σ H _ I h) fun u s1 ⟨x, H1, I1, rx, ex, d, fs, v, ed, ea, l, q⟩ => ?_)⟩
  subst ex; subst ed
  have eu : u = Value.ref a := rx
  subst eu
  obtain ⟨ha, _⟩ := I1.pin (a, oe) (List.mem_append_left _ hp)
  obtain ⟨vs, hv⟩ := hf
  obtain ⟨mA, hns, hr⟩ := (I1.hok d _ ea : ObjOk X.prog X.w H1 s1.heap d (.xd fs))
  obtain ⟨od, ho, hl⟩ := lookIn_ns hns
  obtain ⟨u, hu, ru⟩ := RelO.some_of (v := v) (o := mA f) (by rw [← l]; exact hr f)
  have hn : PySem.W.notCls oe = true := by unfold PySem.W.notCls; rw [hv] <;> rfl
  have J : PySem.W.InstAt s1.heap a oe D (some od) := ⟨ha, hz.1, hn, by rw [hz.2]; exact ho⟩
  exact HandSPX.exc_get I1.kIn J S.ga S.gg S.exC (PySem.W.findObj_own S.hdC hno rfl (by rw [hl, hu])) (handed_of ru) ⟨v, H1, I1.tok _, ru, q⟩
theorem lookup_rep {T : Tb} {Hs : Hp} {al : List Addr} {f : Str} : ∀ {vfs : List (Str × V)} {ks : List Str} {xs : List D} {d : D}, vfs.map (·.1) = ks → RepL T Hs al (vfs.map (·.2)) xs → (ks.zip xs).lookup f = some d → ∃ v, vfs.lookup f = some v ∧ Rep T Hs al v d
  | [], _, _, _, rfl, .nil, e => by cases e
  | (k, v) :: vfs, _, _, _, rfl, .cons r t, e => by
    simp only [List.map_cons, List.zip_cons_cons, List.lookup_cons] at e ⊢
    split at e
    · cases e
      exact ⟨v, rfl, r⟩
    · exact lookup_rep rfl t e
theorem de_eat {i : Nat} {n f : Str} {p pos : Pos} (hh : C.hot = true) (hN : C.N[i]? = some n) (hv : Vis C.sc n) (hd : (n == ("__debug__" : Str)) = false) (hcd : (n == ("__classdict__" : Str)) = false)
    (hX : ∀ c1 b, C.g.sub c1 c1 = some b → XfC C.T.K (C.T.cl c1) ∧ PySem.W.findIn C.T.K (.ref (C.T.cl c1)) f = some none) (hb : ∀ env, attributeBase (.Name n p) f env (eval (.Name n p) env) = eval (.Name n p) env) : DE C (.Attribute (.Name n p) f pos) (evE C.g (.eat i f)) := by
  cases hx : C.T.exc with
  | none =>
    refine ⟨fun _ _ _ => False, fun X ok => ⟨fun _ _ _ _ _ _ h => h.elim⟩, fun σ w ρ m Q oo W E e0 pp => ?_⟩
    simp only [evE] at e0
    split at e0
    · rename_i c1 ks xs hr
      obtain ⟨u, _, ru⟩ := E.2 i _ hr
      cases ru with
      | exn0 s => rw [hx] at s; cases s
      | exn1 s _ _ _ => rw [hx] at s; cases s
    · cases e0
  | some q =>
    obtain ⟨a, c1, dd⟩ := q
    cases hs : C.g.sub c1 c1 with
    | none =>
      refine ⟨fun _ _ _ => False, fun X ok => ⟨fun _ _ _ _ _ _ h => h.elim⟩, fun σ w ρ m Q oo W E e0 pp => ?_⟩
      simp only [evE] at e0
      split at e0
      · rename_i c2 ks xs hr
        obtain ⟨u, _, ru⟩ := E.2 i _ hr
        cases ru with
        | exn0 s => rw [hx] at s; cases s; rw [hs] at e0; cases e0
        | exn1 s _ _ _ => rw [hx] at s; cases s; rw [hs] at e0; cases e0
      · cases e0
    | some b =>
      obtain ⟨h1, h2⟩ := hX c1 b hs
      refine ⟨tXa a dd f (tVar i), fun X ok => ?_, fun σ w ρ m Q oo W E e0 pp => ?_⟩
      · obtain ⟨oe, hp, hz, hf⟩ := ok.exq hh a c1 dd hx
        exact pe_xa (by rw [ok.K]; exact h1) (by rw [ok.K]; exact h2) hp hz hf (pe_var (by rw [ok.N]; exact hN) (by rw [ok.sc]; exact hv) hd hcd) (hb _)
      · simp only [evE] at e0
        split at e0
        · rename_i c2 ks xs hr
          obtain ⟨u, hu, ru⟩ := E.2 i _ hr
          cases ru with
          | exn0 s =>
            rw [hx] at s; cases s
            rw [hs] at e0
            cases e0
          | exn1 s t hk r =>
            rw [hx] at s; cases s
            rw [hs, Option.bind_some] at e0
            obtain ⟨d, hl, rfl⟩ := Option.map_eq_some_iff.mp e0
            obtain ⟨v, hv1, hv2⟩ := lookup_rep hk r hl
            exact ⟨_, hu, rfl, _, _, v, rfl, W.sub _ _ t, hv1, pp.here W hv2⟩
        · cases e0
/-! ### o.f += e -/
end
end Dv

namespace Dv
open PySem PySem.Spec PyProof.Rows
open L2 hiding Takes XE CX MkP PMk ps_raise ps_try_as ps_try_many HdsOk takes_of passAt passes_call mk_of pmk_own
open L2N (Takes XE CX MkP PMk ps_raise ps_try_as ps_try_many HdsOk takes_of passAt passes_call mk_of pmk_own Zn Zn.steady)
/-! ### a.f(b), a a text -/
noncomputable def smName : Sm → Str
  | .index => "index" | .join => "join" | .split => "split"
noncomputable def rSm (K : PySem.W.Frag) : Sm → V → List V → Hp → VK → Prop
  | .index => fun x xs H Q => ∃ a b i rest, x = .str a ∧ xs = [.str b] ∧ Builtin.Str.occurrences a b 0 a.length 1 = i :: rest ∧ Q (.int (i : Nat)) H
  | .join => fun x xs H Q => ∃ a p, ∃ ys : List Str, x = .str a ∧ xs = [.ref p] ∧ (SqL K H p (ys.map V.str) ∨ SqT K H p (ys.map V.str)) ∧ (ys.map (·.length)).sum + ys.length * a.length ≤ 16777216 ∧ Q (.str (Txt.join a ys)) H
  | .split => fun x xs H Q => ∃ a b, x = .str a ∧ xs = [.str b] ∧ (b.length == 0) = false ∧ a.length + 2 ≤ sizeLine ∧ rNewStrs (Txt.split a b) H Q
theorem repL_strs {T : Tb} {Hs : Hp} {al : List Addr} : ∀ l : List Str, RepL T Hs al (l.map V.str) (l.map D.str)
  | [] => .nil
  | x :: l => .cons (.str x) (repL_strs l)
theorem sm1_s {T : Tb} {f : Sm} {w : Wd} {m : List R} {x y : V} {d e z : D} {Q : VK} (W : Wf T w m) (rx : Rep T w.Hs w.al x d) (ry : Rep T w.Hs w.al y e) (h : sm1D f m d e = some z) (q : ∀ w' v, Ext w w' → Wf T w' m → Rep T w'.Hs w'.al v z → Q v w'.H) : rSm T.K f x [y] w.H Q := by
  unfold sm1D at h
  split at h
  · rename_i a
    cases rx
    cases f with
    | index =>
      dsimp only at h
      split at h
      · rename_i b
        split at h
        · rename_i i r hi
          cases h
          cases ry
          exact ⟨_, _, i, r, rfl, rfl, hi, q _ _ (Ext.refl _) W (.int _)⟩
        · cases h
      · cases h
    | join =>
      dsimp only at h
      split at h
      · rename_i ys hy
        split at h
        · rename_i zs hz
          split at h
          · rename_i hl
            cases h
            obtain ⟨p, vs, rfl, hs, r⟩ := sq_rep W ry hy
            have e1 := asStrs_map hz
            subst e1
            have e2 := r.strs
            subst e2
            refine ⟨_, p, zs, rfl, rfl, hs, hl, ?_⟩
            rw [TL.join_eq]
            exact q _ _ (Ext.refl _) W (.str _)
          · cases h
        · cases h
      · cases h
    | split =>
      dsimp only at h
      split at h
      · rename_i b
        split at h
        · rename_i hc
          cases h
          cases ry
          exact ⟨_, _, rfl, rfl, hc.1, hc.2, fun p hp => new_list (mu := false) W (repL_strs _) hp fun w' v x' W' r' => q w' v x' W' r'⟩
        · cases h
      · cases h
  · cases h
section
variable {C : Cs}
theorem de_sm1 {f : Sm} {o e : Expr} {xo x : Dv.E} {apos pos : Pos} (ho : DE C o (evE C.g xo)) (he : DE C e (evE C.g x)) (hpo : plainO o = true) (hs : noStar e = true) (hp : (apos.endLine == pos.line) = true) :
    DE C (.Call (.Attribute o (smName f) apos) [e] [] pos) (evE C.g (.sm1 f xo x)) := by
  obtain ⟨ta, pa, ra⟩ := ho
  obtain ⟨t, pt, rt⟩ := he
  refine ⟨tM1 (rSm C.T.K f) ta t, fun X ok => ?_, fun σ w ρ m Q oo W E e0 pp => ?_⟩
  · cases f with
    | index => exact pe_m1 PySem.F.slot_str_index PySem.F.type_str_index mt_sindex (pa X ok) (pt X ok) (star1 hs [] _) (base_of hpo _ _ _) hp
    | join =>
      have := pe_m1 (X := X) (apos := apos) (pos := pos) PySem.F.slot_str_join PySem.F.type_str_join mt_join (pa X ok) (pt X ok) (star1 hs [] _) (base_of hpo _ _ _) hp
      rw [ok.K] at this
      exact this
    | split => exact pe_m1 PySem.F.slot_str_split PySem.F.type_str_split mt_split (pa X ok) (pt X ok) (star1 hs [] _) (base_of hpo _ _ _) hp
  · simp only [evE] at e0
    refine ra.bnd W E e0 pp fun d m1 w1 v1 e1 x1 W1 r1 E1 p1 => ?_
    split at e1
    · rename_i hd
      refine ⟨?_, rt.bnd W1 E1 e1 p1 fun d2 m2 w2 v2 e2 x2 W2 r2 E2 p2 => ?_⟩
      · cases r1 <;> first | exact ⟨_, rfl⟩ | (exact absurd hd (by decide)) | (simp [isStr] at hd)
      · obtain ⟨z, hz, rfl⟩ := Option.map_eq_some_iff.mp e2
        exact sm1_s W2 (r1.on x2) r2 hz fun w' v x' W' rv => p2 w' v x' W' rv
    · cases e1
end
end Dv

/-! a list comprehension whose element may raise -/
namespace Dv
open PySem PySem.Spec PyProof.Rows
open L2 hiding Takes XE CX MkP PMk ps_raise ps_try_as ps_try_many HdsOk takes_of passAt passes_call mk_of pmk_own
open L2N (Takes XE CX MkP PMk ps_raise ps_try_as ps_try_many HdsOk takes_of passAt passes_call mk_of pmk_own Zn Zn.steady)
theorem Inv.xe {X : Cx} {pins : List (Addr × Obj)} {σ : L2.St} {H : Hp} {s : Shared} (I : Inv X pins σ H s) (E : Value → Shared → Prop) : Inv { X with xe := E } pins σ H s :=
  ⟨⟨I.ok.mod, I.ok.kind, I.ok.glob, I.ok.blt, I.ok.above, I.ok.inj, I.ok.has, I.ok.cab, I.ok.hd, I.ok.frames, I.ok.stk, I.ok.exf, I.ok.bs, I.ok.bsz, I.ok.noex, I.ok.exfs, I.ok.funs, I.ok.frf⟩, I.os, I.bare, I.base, I.loc, I.cell, I.free, I.freeC, I.pin, I.hok, I.len⟩
theorem Inv.xeBack {X : Cx} {pins : List (Addr × Obj)} {σ : L2.St} {H : Hp} {s : Shared} {E : Value → Shared → Prop} (I : Inv { X with xe := E } pins σ H s) : Inv X pins σ H s :=
  ⟨⟨I.ok.mod, I.ok.kind, I.ok.glob, I.ok.blt, I.ok.above, I.ok.inj, I.ok.has, I.ok.cab, I.ok.hd, I.ok.frames, I.ok.stk, I.ok.exf, I.ok.bs, I.ok.bsz, I.ok.noex, I.ok.exfs, I.ok.funs, I.ok.frf⟩, I.os, I.bare, I.base, I.loc, I.cell, I.free, I.freeC, I.pin, I.hok, I.len⟩
end Dv

/-! the walk of a comprehension whose element may raise -/
namespace Dv
open PySem PySem.Spec
open L2 hiding Takes XE CX MkP PMk ps_raise ps_try_as ps_try_many HdsOk takes_of passAt passes_call mk_of pmk_own
open L2N (Takes XE CX MkP PMk ps_raise ps_try_as ps_try_many HdsOk takes_of passAt passes_call mk_of pmk_own Zn Zn.steady)
/-- the block's place, exceptions taken -/
noncomputable abbrev blkX (X : Cx) (W : WX) (s : Shared) (H : Hp) (scope : Scope) (cenv : Env) (fp : List Addr) : Cx := { X.blk s H scope cenv fp with xe := XE (X.blk s H scope cenv fp) W }
end Dv

/-! a comprehension whose element may raise, as data -/
namespace Dv
open PySem PySem.Spec PyProof.Rows
open L2 hiding Takes XE CX MkP PMk ps_raise ps_try_as ps_try_many HdsOk takes_of passAt passes_call mk_of pmk_own
open L2N (Takes XE CX MkP PMk ps_raise ps_try_as ps_try_many HdsOk takes_of passAt passes_call mk_of pmk_own Zn Zn.steady)
noncomputable def Cs.blkX (C : Cs) (W : WX) (scope : Scope) : Cs := { C with sc := relS scope C.sc, W := W, fn := fun x => scope.names.lookup x == some .cell, cells := [], hold := fun _ => True, trb := false, any := false }
noncomputable instance blkXCold {C : Cs} [c : Cold C] {W : WX} {scope : Scope} : Cold (C.blkX W scope) := ⟨c.h⟩
theorem takesXE {X : Cx} {W : WX} {s : Shared} {H : Hp} {scope : Scope} {cenv : Env} {fp : List Addr} : Takes (Dv.blkX X W s H scope cenv fp) W := fun u s' x => by
  obtain ⟨a, B, sI, pins, σ, H', cls, d, e, I, r⟩ := x
  exact ⟨a, B, sI, pins, σ, H', cls, d, e, Inv.xeBack I, r⟩
theorem Cs.Ok.blkX {C : Cs} [Cold C] {X : Cx} (ok : C.Ok X) {W : WX} {scope : Scope} {s : Shared} {H : Hp} {c : Addr} {cl : List (Str × Addr)} {fp : List Addr} : (C.blkX W scope).Ok (Dv.blkX X W s H scope (compEnvC scope cl c X.env) fp) where
  prog := ok.prog
  w := ok.w
  K := ok.K
  mg := ok.mg
  base := ok.base
  N := ok.N
  sc := by
    show relabel scope X.env = relS scope C.sc
    rw [← ok.sc]
    rfl
  nd := ok.nd
  calm := ok.calm
  room := ok.room
  un := ok.un
  exq := fun h => noEx (C := C.blkX W scope) h
  tk := takesXE
  fn := rfl
  hld := True.intro
  cel := fun _ h => nomatch h
  frm := fun h => nomatch h
  tka := fun h => nomatch h
end Dv

/-! [a, *t]; defs as values -/
namespace Dv
open PySem PySem.Spec PyProof.Rows
open L2 hiding Takes XE CX MkP PMk ps_raise ps_try_as ps_try_many HdsOk takes_of passAt passes_call mk_of pmk_own
open L2N (Takes XE CX MkP PMk ps_raise ps_try_as ps_try_many HdsOk takes_of passAt passes_call mk_of pmk_own Zn Zn.steady)
section
variable {C : Cs}
end
end Dv

/-! dicts: of the module, with text keys; dict(pairs); look-ups -/
namespace Dv
open PySem PySem.Spec PyProof.Rows
open L2 hiding Takes XE CX MkP PMk ps_raise ps_try_as ps_try_many HdsOk takes_of passAt passes_call mk_of pmk_own
open L2N (Takes XE CX MkP PMk ps_raise ps_try_as ps_try_many HdsOk takes_of passAt passes_call mk_of pmk_own Zn Zn.steady)
/-! ### a dict of the module -/
section
variable {C : Cs}
/-! ### dict(pairs) -/
/-! ### look-ups -/
/-! ### d[k] = v, keys ints or texts -/
end
end Dv

/-! dict(zip(a, b)) over lists and tuples -/
namespace PySem
open Sem (wp)
section
variable {prog : Program} {w : World} {A : Around} {E : Value → Shared → Prop} {s : Shared} {z TI TO i1 i2 T : Addr} {fp1 fp2 : List Addr} {n1 n2 i : Nat} {P1 P2 : Nat → Value → Prop} {St1 St2 : Nat → Heap → Prop} {f : Bool} {oT : Obj}
theorem zipH_next_item {Q : Value → Shared → Prop} (S : ZipSep2 z TI TO i1 i2 fp1 fp2) (D1 : Draws prog w A i1 fp1 n1 P1 St1) (D2 : Draws prog w A i2 fp2 n2 P2 St2)
    (hz : IsZipHeld s.heap z TI TO T f) (hT : s.heap.get? T = some oT) (hTI : IsTupOf2 s.heap TI (.ref i1) (.ref i2)) (st1 : St1 i s.heap) (st2 : St2 i s.heap) (hlt1 : i < n1) (hlt2 : i < n2)
    (hQ : ∀ x1 x2 h' tk, P1 i x1 → P2 i x2 → IsZipHeld h' z TI TO T true → St1 (i + 1) h' → St2 (i + 1) h' → IsTupOf2 h' s.heap.objs.size x1 x2 → h'.objs.size = s.heap.objs.size + 1 →
      (∀ c o, c ≠ z → c ≠ i1 → c ≠ i2 → s.heap.get? c = some o → h'.get? c = some o) → Q (.ref s.heap.objs.size) { s with heap := h', toks := tk }) :
    wpAny (model prog w) A (Builtin.«zip.__next__» ⟨[.ref z], []⟩) (fun fin s' => ∃ v, fin = .done (.ret v) ∧ Q v s') E s := by
  obtain ⟨hp, g, d, tk0, os⟩ := s
  show wpAny _ _ (field (.ref z) 2 >>= _) _ _ _
  refine wpAny_bind (wpAny_field hz rfl (x := .bool false) rfl ?_)
  show wpAny _ _ (field (.ref z) 3 >>= _) _ _ _
  refine wpAny_bind (wpAny_field hz rfl (x := .ref TI) rfl ?_)
  refine wpAny_bind (wpAny_seqItems hTI rfl ?_)
  show wpAny _ _ (Builtin.SmallTypes.ownedTupleIsFree (.ref z) >>= _) _ _ _
  refine wpAny_bind (wpAny_tupleHeld_zip hz hT fun h₁ hz₁ hs₁ => ?_)
  replace hs₁ : Heap.SameBut z hp h₁ := hs₁
  simp only [Bool.false_eq_true, if_false]
  refine wpAny_bind ?_
  rw [← Array.forIn_toList]
  simp only [List.forIn_cons, List.forIn_nil]
  refine wpAny_bind (wpAny_bind (wpAny_holding ?_))
  show wpAny _ _ (Builtin.SmallTypes.nextOf (.ref i1) >>= _) _ _ ⟨h₁, g, d, tk0, os⟩
  refine wpAny_bind (D1.item i _ _ _ hlt1 (D1.over st1 hs₁ S.zf1) fun x1 h₂ tk1 hx1 sn1 hs₂ => wpAny_pure ?_)
  replace hs₂ : Heap.SameBut i1 h₁ h₂ := hs₂
  refine wpAny_pure ?_
  refine wpAny_bind (wpAny_bind (wpAny_holding ?_))
  show wpAny _ _ (Builtin.SmallTypes.nextOf (.ref i2) >>= _) _ _ ⟨h₂, g, d, tk1, os⟩
  refine wpAny_bind (D2.item i ⟨h₂, g, d, tk1, os⟩ _ _ hlt2 (D2.over (D2.over st2 hs₁ S.zf2) hs₂ S.sep1_2) fun x2 h₃ tk2 hx2 sn2 hs₃ => wpAny_pure ?_)
  replace hs₃ : Heap.SameBut i2 h₂ h₃ := hs₃
  refine wpAny_pure (wpAny_pure ?_)
  show wpAny _ _ (newTuple [x1, x2] >>= _) _ _ ⟨h₃, g, d, tk2, os⟩
  refine wpAny_bind (wpAny_newTuple ?_)
  have hsz : h₃.objs.size = hp.objs.size := by rw [hs₃.1, hs₂.1, hs₁.1]
  have hz₃ : IsZipHeld h₃ z TI TO T true := hs₃.extBut _ _ S.zi2 (hs₂.extBut _ _ S.zi1 hz₁)
  have hk : ∀ c o, c ≠ z → c ≠ i1 → c ≠ i2 → hp.get? c = some o → h₃.get? c = some o := fun c o c1 c2 c3 e => hs₃.extBut _ _ c3 (hs₂.extBut _ _ c2 (hs₁.extBut _ _ c1 e))
  refine wpAny_pure ⟨_, rfl, ?_⟩
  show Q (.ref h₃.objs.size) ⟨h₃.push { cls := .type "tuple", data := .seq #[x1, x2] }, g, d, tk2, os⟩
  have hpp : IsTupOf2 (h₃.push { cls := .type "tuple", data := .seq #[x1, x2] }) h₃.objs.size x1 x2 := Heap.get?_push_size _ rfl
  have hz4 : (h₃.push { cls := .type "tuple", data := .seq #[x1, x2] }).objs.size = h₃.objs.size + 1 := Heap.size_push ..
  have s1' : St1 (i + 1) (h₃.push { cls := .type "tuple", data := .seq #[x1, x2] }) := D1.frame _ _ _ (D1.over sn1 hs₃ S.sep2_1) fun b hb o e => Heap.get?_push_of_some _ e
  have s2' : St2 (i + 1) (h₃.push { cls := .type "tuple", data := .seq #[x1, x2] }) := D2.frame _ _ _ sn2 fun b hb o e => Heap.get?_push_of_some _ e
  rw [hsz] at hpp hz4 ⊢
  exact hQ x1 x2 _ tk2 hx1 hx2 (Heap.get?_push_of_some _ hz₃) s1' s2' hpp hz4 fun c o c1 c2 c3 e => Heap.get?_push_of_some _ (hk c o c1 c2 c3 e)
theorem zipH_next_end {Q : Fin → Shared → Prop} (S : ZipSep2 z TI TO i1 i2 fp1 fp2) (D1 : Draws prog w A i1 fp1 n1 P1 St1) (D2 : Draws prog w A i2 fp2 n2 P2 St2)
    (hz : IsZipHeld s.heap z TI TO T f) (hT : s.heap.get? T = some oT) (hTI : IsTupOf2 s.heap TI (.ref i1) (.ref i2)) (st1 : St1 i s.heap) (st2 : St2 i s.heap) (hle1 : i ≤ n1) (hle2 : i ≤ n2) (hend : i = n1 ∨ i = n2)
    (hE : ∀ h' tk e, (∀ c o, c ≠ z → c ≠ i1 → c ≠ i2 → s.heap.get? c = some o → h'.get? c = some o) → (∃ o, h'.get? e = some o ∧ o.cls = .type "StopIteration") → E (.ref e) { s with heap := h', toks := tk }) :
    wpAny (model prog w) A (Builtin.«zip.__next__» ⟨[.ref z], []⟩) Q E s := by
  obtain ⟨hp, g, d, tk0, os⟩ := s
  show wpAny _ _ (field (.ref z) 2 >>= _) _ _ _
  refine wpAny_bind (wpAny_field hz rfl (x := .bool false) rfl ?_)
  show wpAny _ _ (field (.ref z) 3 >>= _) _ _ _
  refine wpAny_bind (wpAny_field hz rfl (x := .ref TI) rfl ?_)
  refine wpAny_bind (wpAny_seqItems hTI rfl ?_)
  show wpAny _ _ (Builtin.SmallTypes.ownedTupleIsFree (.ref z) >>= _) _ _ _
  refine wpAny_bind (wpAny_tupleHeld_zip hz hT fun h₁ hz₁ hs₁ => ?_)
  replace hs₁ : Heap.SameBut z hp h₁ := hs₁
  simp only [Bool.false_eq_true, if_false]
  refine wpAny_bind ?_
  rw [← Array.forIn_toList]
  simp only [List.forIn_cons, List.forIn_nil]
  refine wpAny_bind (wpAny_bind (wpAny_holding ?_))
  show wpAny _ _ (Builtin.SmallTypes.nextOf (.ref i1) >>= _) _ _ ⟨h₁, g, d, tk0, os⟩
  by_cases hlt1 : i < n1
  · refine wpAny_bind (D1.item i _ _ _ hlt1 (D1.over st1 hs₁ S.zf1) fun x1 h₂ tk1 hx1 sn1 hs₂ => wpAny_pure ?_)
    replace hs₂ : Heap.SameBut i1 h₁ h₂ := hs₂
    refine wpAny_pure ?_
    have hi2 : i = n2 := by omega
    refine wpAny_bind (wpAny_bind (wpAny_holding ?_))
    show wpAny _ _ (Builtin.SmallTypes.nextOf (.ref i2) >>= _) _ _ ⟨h₂, g, d, tk1, os⟩
    refine wpAny_bind (D2.done ⟨h₂, g, d, tk1, os⟩ _ _ (by rw [← hi2]; exact D2.over (D2.over st2 hs₁ S.zf2) hs₂ S.sep1_2) fun q e hq he => ?_)
    replace hq : Heap.ExtBut i2 h₂ q := hq
    exact hE q tk1 e (fun c o cz c1 c2 x => hq _ _ c2 (hs₂.extBut _ _ c1 (hs₁.extBut _ _ cz x))) he
  · have hi1 : i = n1 := by omega
    refine wpAny_bind (D1.done ⟨h₁, g, d, tk0, os⟩ _ _ (by rw [← hi1]; exact D1.over st1 hs₁ S.zf1) fun q e hq he => ?_)
    replace hq : Heap.ExtBut i1 h₁ q := hq
    exact hE q tk0 e (fun c o cz c1 c2 x => hq _ _ c1 (hs₁.extBut _ _ cz x)) he
theorem pyNext_zipH_item {Q : Option Value → Shared → Prop} (S : ZipSep2 z TI TO i1 i2 fp1 fp2) (D1 : Draws prog w A.in1 i1 fp1 n1 P1 St1) (D2 : Draws prog w A.in1 i2 fp2 n2 P2 St2)
    (hz : IsZipHeld s.heap z TI TO T f) (hT : s.heap.get? T = some oT) (hTI : IsTupOf2 s.heap TI (.ref i1) (.ref i2)) (st1 : St1 i s.heap) (st2 : St2 i s.heap) (hlt1 : i < n1) (hlt2 : i < n2)
    (hQ : ∀ x1 x2 h' tk, P1 i x1 → P2 i x2 → IsZipHeld h' z TI TO T true → St1 (i + 1) h' → St2 (i + 1) h' → IsTupOf2 h' s.heap.objs.size x1 x2 → h'.objs.size = s.heap.objs.size + 1 →
      (∀ c o, c ≠ z → c ≠ i1 → c ≠ i2 → s.heap.get? c = some o → h'.get? c = some o) → Q (some (.ref s.heap.objs.size)) { s with heap := h', toks := tk }) :
    wpAny (model prog w) A (pyNext (.ref z)) Q E s := by
  have hTy : s.TypeIs (.ref z) "zip" := ⟨_, hz, rfl⟩
  unfold pyNext
  exact wpAny_bind (wpAny_attempt (wpAny_callSpecial?_slot (name := Str.ofString "__next__") hTy F.slot_zip_next
    (wpAny_call_entry F.slot_zip_next hTy F.entry_zip_next
      (zipH_next_item S D1 D2 hz hT hTI st1 st2 hlt1 hlt2 fun x1 x2 h' tk a1 a2 a3 a4 a5 a6 a7 a8 => wpAny_pure (hQ x1 x2 h' tk a1 a2 a3 a4 a5 a6 a7 a8)) (F.args_zip_next_1 _))))
theorem pyNext_zipH_end {Q : Option Value → Shared → Prop} (S : ZipSep2 z TI TO i1 i2 fp1 fp2) (D1 : Draws prog w A.in1 i1 fp1 n1 P1 St1) (D2 : Draws prog w A.in1 i2 fp2 n2 P2 St2)
    (hz : IsZipHeld s.heap z TI TO T f) (hT : s.heap.get? T = some oT) (hTI : IsTupOf2 s.heap TI (.ref i1) (.ref i2)) (st1 : St1 i s.heap) (st2 : St2 i s.heap) (hle1 : i ≤ n1) (hle2 : i ≤ n2) (hend : i = n1 ∨ i = n2)
    (hQ : ∀ h' tk, (∀ c o, c ≠ z → c ≠ i1 → c ≠ i2 → s.heap.get? c = some o → h'.get? c = some o) → Q none { s with heap := h', toks := tk }) : wpAny (model prog w) A (pyNext (.ref z)) Q E s := by
  have hTy : s.TypeIs (.ref z) "zip" := ⟨_, hz, rfl⟩
  unfold pyNext
  refine wpAny_bind (wpAny_attempt (wpAny_callSpecial?_slot (name := Str.ofString "__next__") hTy F.slot_zip_next
    (wpAny_call_entry F.slot_zip_next hTy F.entry_zip_next (zipH_next_end S D1 D2 hz hT hTI st1 st2 hle1 hle2 hend fun h' tk e hk he => ?_) (F.args_zip_next_1 _))))
  obtain ⟨o, ho, hc⟩ := he
  refine wpAny_bind (wpAny_isInstance (T := "StopIteration") (b := true) ⟨o, ho, hc⟩ isSubtype_stop ?_)
  exact wpAny_pure (hQ _ _ hk)
end
section
variable {prog : Program} {w : World}
/-- zip over two sources that are read by Draws (at every around without a handled exception), as an argument of dict -/
theorem PairArg.zipD (z TI TO i1 i2 a1 a2 : Addr) (n1 n2 : Nat) {P1 P2 : Nat → Value → Prop} {St1 St2 : Nat → Heap → Prop} (S : ZipSep2 z TI TO i1 i2 [i1, a1] [i2, a2])
    (D1 : ∀ A : Around, A.handled = none → Draws prog w A i1 [i1, a1] n1 P1 St1) (D2 : ∀ A : Around, A.handled = none → Draws prog w A i2 [i2, a2] n2 P2 St2) (src1 : ∀ h, St1 0 h → ∃ o, h.get? a1 = some o) (src2 : ∀ h, St2 0 h → ∃ o, h.get? a2 = some o) (A0 : Around) (hA0 : A0.handled = none) :
    PairArg prog w "zip" z [z, TI, TO, i1, i2, a1, a2] [z, TO, i1, i2] (min n1 n2) (fun i k v => P1 i k ∧ P2 i v)
      (fun h => IsZip h z TI TO .none ∧ IsTupOf2 h TI (.ref i1) (.ref i2) ∧ (∃ a b, IsTupOf2 h TO a b) ∧ St1 0 h ∧ St2 0 h) where
  type := fun s ok => ⟨_, ok.1, rfl⟩
  notDict := by decide
  keep := fun h h' ok hk => by
    obtain ⟨hz, hTI, ⟨a, b, hTO⟩, h1, h2⟩ := ok
    exact ⟨hk _ _ hz, hk _ _ hTI, ⟨a, b, hk _ _ hTO⟩, (D1 A0 hA0).frame _ _ _ h1 fun b _ o e => hk _ o e, (D2 A0 hA0).frame _ _ _ h2 fun b _ o e => hk _ o e⟩
  there := fun h ok b hb => by
    obtain ⟨hz, hTI, ⟨a, c, hTO⟩, h1, h2⟩ := ok
    obtain ⟨o1, g1⟩ := (D1 A0 hA0).live _ _ h1
    obtain ⟨o2, g2⟩ := (D2 A0 hA0).live _ _ h2
    obtain ⟨o3, g3⟩ := src1 _ h1
    obtain ⟨o4, g4⟩ := src2 _ h2
    simp only [List.mem_cons, List.not_mem_nil, or_false] at hb
    rcases hb with rfl | rfl | rfl | rfl | rfl | rfl | rfl
    all_goals first | exact ⟨_, hz⟩ | exact ⟨_, hTI⟩ | exact ⟨_, hTO⟩ | exact ⟨_, g1⟩ | exact ⟨_, g2⟩ | exact ⟨_, g3⟩ | exact ⟨_, g4⟩
  sub := fun b hb => by simp at hb ⊢; rcases hb with rfl | rfl | rfl | rfl <;> simp
  noKeys := fun A s Q E hA ok h => getAttrOr_miss_zip ok.1 rfl rfl rfl zip_no_keys (by decide +kernel) hA h
  iter := fun A s d Q E hA ok hd hdf h => by
    obtain ⟨hz, hTI, ⟨a, b, hTO⟩, h1, h2⟩ := ok
    simp only [List.mem_cons, List.not_mem_nil, or_false, not_or] at hdf
    obtain ⟨dz, dTI, dTO, di1, di2, da1, da2⟩ := hdf
    have e1 := D1 A.in1 hA
    have e2 := D2 A.in1 hA
    refine wpAny_pyIter_zip hz (h z [z, TO, i1, i2] (fun i h => IsTupOf2 h TI (.ref i1) (.ref i2) ∧ St1 i h ∧ St2 i h ∧
      ((IsZip h z TI TO .none ∧ ∃ a b, IsTupOf2 h TO a b) ∨ ∃ T f oT, IsZipHeld h z TI TO T f ∧ h.get? T = some oT ∧ T ≠ z ∧ T ≠ i1 ∧ T ≠ i2 ∧ T ≠ d)) s.heap s.toks ?_
      ⟨hTI, h1, h2, .inl ⟨hz, a, b, hTO⟩⟩ (fun _ _ e => e) fun b hb => .inl hb)
    exact {
      off := fun hm => by
        simp only [List.mem_cons, List.not_mem_nil, or_false] at hm
        rcases hm with e | e | e | e
        · exact dz e
        · exact dTO e
        · exact di1 e
        · exact di2 e
      frame := fun i h₁ h₂ st hk => by
        obtain ⟨hTI, h1, h2, hz⟩ := st
        refine ⟨hk _ _ (Ne.symm dTI) hTI, e1.frame _ _ _ h1 fun b hb o e => hk _ o (fun q => ?_) e, e2.frame _ _ _ h2 fun b hb o e => hk _ o (fun q => ?_) e, ?_⟩
        · simp only [List.mem_cons, List.not_mem_nil, or_false] at hb
          rcases hb with hb | hb
          · exact di1 (q.symm.trans hb)
          · exact da1 (q.symm.trans hb)
        · simp only [List.mem_cons, List.not_mem_nil, or_false] at hb
          rcases hb with hb | hb
          · exact di2 (q.symm.trans hb)
          · exact da2 (q.symm.trans hb)
        · rcases hz with ⟨hz, a, b, hTO⟩ | ⟨T, f, oT, hz, hT, r1, r2, r3, r4⟩
          · exact .inl ⟨hk _ _ (Ne.symm dz) hz, a, b, hk _ _ (Ne.symm dTO) hTO⟩
          · exact .inr ⟨T, f, oT, hk _ _ (Ne.symm dz) hz, hk _ _ r4 hT, r1, r2, r3, r4⟩
      item := fun i s₁ Q₁ E₁ hi st hds hQ => by
        obtain ⟨hTI, h1, h2, hz⟩ := st
        have hix : i < n1 := Nat.lt_of_lt_of_le hi (Nat.min_le_left ..)
        have hiy : i < n2 := Nat.lt_of_lt_of_le hi (Nat.min_le_right ..)
        have lt : ∀ {c o}, s₁.heap.get? c = some o → s₁.heap.objs.size ≠ c := fun e => Nat.ne_of_gt (Heap.lt_size e)
        have l1 : s₁.heap.objs.size ≠ i1 := by obtain ⟨_, e⟩ := e1.live _ _ h1; exact lt e
        have l2 : s₁.heap.objs.size ≠ i2 := by obtain ⟨_, e⟩ := e2.live _ _ h2; exact lt e
        rcases hz with ⟨hz, a, b, hTO⟩ | ⟨T, f, oT, hz, hT, r1, r2, r3, r4⟩
        · refine wpAny_pyNext_zipD2_item S e1 e2 hz hTI hTO h1 h2 hix hiy fun x1 x2 h' tk y1 y2 b1 b2 d1 d2 b5 b6 hk => ?_
          exact hQ s₁.heap.objs.size x1 x2 h' tk ⟨y1, y2⟩ (.inl ⟨_, b5, rfl, _, rfl⟩)
            ⟨hk _ _ S.TIz S.TITO S.TIi1 S.TIi2 hTI, d1, d2, .inr ⟨s₁.heap.objs.size, false, _, b1, b5, lt hz, l1, l2, Nat.ne_of_gt hds⟩⟩
            fun c o hc e => hk c o (fun x => hc (by simp [x])) (fun x => hc (by simp [x])) (fun x => hc (by simp [x])) (fun x => hc (by simp [x])) e
        · refine pyNext_zipH_item S e1 e2 hz hT hTI h1 h2 hix hiy fun x1 x2 h' tk y1 y2 b1 d1 d2 b5 b6 hk => ?_
          exact hQ s₁.heap.objs.size x1 x2 h' tk ⟨y1, y2⟩ (.inl ⟨_, b5, rfl, _, rfl⟩)
            ⟨hk _ _ S.TIz S.TIi1 S.TIi2 hTI, d1, d2, .inr ⟨T, true, oT, b1, hk _ _ r1 r2 r3 hT, r1, r2, r3, r4⟩⟩
            fun c o hc e => hk c o (fun x => hc (by simp [x])) (fun x => hc (by simp [x])) (fun x => hc (by simp [x])) e
      done := fun s₁ Q₁ E₁ st hQ => by
        obtain ⟨hTI, h1, h2, hz⟩ := st
        rcases hz with ⟨hz, a, b, hTO⟩ | ⟨T, f, oT, hz, hT, r1, r2, r3, r4⟩
        · exact wpAny_pyNext_zipD2_end S e1 e2 hz hTI hTO h1 h2 (Nat.min_le_left ..) (Nat.min_le_right ..) (by omega) fun h' tk hk => hQ h' tk fun c o hc e => hk c o (fun x => hc (by simp [x])) (fun x => hc (by simp [x])) (fun x => hc (by simp [x])) (fun x => hc (by simp [x])) e
        · exact pyNext_zipH_end S e1 e2 hz hT hTI h1 h2 (Nat.min_le_left ..) (Nat.min_le_right ..) (by omega) fun h' tk hk => hQ h' tk fun c o hc e => hk c o (fun x => hc (by simp [x])) (fun x => hc (by simp [x])) (fun x => hc (by simp [x])) e }
end
end PySem
namespace Dv
open PySem PySem.Spec PyProof.Rows
open L2 hiding Takes XE CX MkP PMk ps_raise ps_try_as ps_try_many HdsOk takes_of passAt passes_call mk_of pmk_own
open L2N (Takes XE CX MkP PMk ps_raise ps_try_as ps_try_many HdsOk takes_of passAt passes_call mk_of pmk_own Zn Zn.steady)
section
variable {C : Cs}
end
end Dv

/-! list(d.items()) -/
namespace Dv
open PySem PySem.Spec PyProof.Rows
open L2 hiding Takes XE CX MkP PMk ps_raise ps_try_as ps_try_many HdsOk takes_of passAt passes_call mk_of pmk_own
open L2N (Takes XE CX MkP PMk ps_raise ps_try_as ps_try_many HdsOk takes_of passAt passes_call mk_of pmk_own Zn Zn.steady)
noncomputable def putF (f : Addr → Obj) : Hp → List Addr → List (Key × V) → Hp
  | H, a :: as, p :: kvs => putF f (upd H a (.frz (f a) (.tup [kV p.1, p.2]))) as kvs
  | H, _, _ => H
section
variable {X : Cx} {e : Expr} {te : TE} {p apos cpos pos : Pos}
end
section
variable {C : Cs}
end
end Dv

/-! {}; sorted(d); tuple targets that are attributes or items -/
namespace Dv
open PySem PySem.Spec PyProof.Rows
open L2 hiding Takes XE CX MkP PMk ps_raise ps_try_as ps_try_many HdsOk takes_of passAt passes_call mk_of pmk_own
open L2N (Takes XE CX MkP PMk ps_raise ps_try_as ps_try_many HdsOk takes_of passAt passes_call mk_of pmk_own Zn Zn.steady)
section
variable {C : Cs}
/-! ### o.f, o.h, .. = e -/
/-! ### o[i], o[j] = a, b -/
end
end Dv

/-! sum(d.values()); attributes of several classes; methods with defaults -/
namespace Dv
open PySem PySem.Spec PyProof.Rows
open L2 hiding Takes XE CX MkP PMk ps_raise ps_try_as ps_try_many HdsOk takes_of passAt passes_call mk_of pmk_own
open L2N (Takes XE CX MkP PMk ps_raise ps_try_as ps_try_many HdsOk takes_of passAt passes_call mk_of pmk_own Zn Zn.steady)
section
variable {prog : Program} {w : World} {A : Around} {E : Value → Shared → Prop} {s : Shared} {T : String} {r d : Addr} {n : Nat} {P : Nat → Value → Prop} {OK : Heap → Prop} {Q : Value → Shared → Prop}
end
section
variable {X : Cx} {e : Expr} {te : TE} {p apos cpos pos : Pos}
end
section
variable {C : Cs}
/-- an attribute of several classes -/
theorem attOk_gen {C : Cs} {f : Str} (hp : ∀ c i, C.g.prop c f = some i → PrE C c f i ∧ ∀ d m x m', C.g.F i d m ≠ some (.ex x m')) (hf : ∀ c, f ∈ C.T.nm c → Cls C.T.K (C.T.cl c) ∧ NoAttr C.T.K (C.T.cl c) f) : AttOk C f :=
  ⟨fun c i h => (hp c i h).1, fun c i d m x m' h => (hp c i h).2 d m x m', fun c _ h => hf c h⟩
theorem metOk_gen {C : Cs} {m : Str} {n : Nat} (hp : ∀ c i, C.g.meth c m n = some i → MtE C c m n i) (hf : ∀ c, m ∉ C.T.nm c) : MetOk C m n := ⟨hp, fun c _ _ => hf c⟩
end
end Dv

namespace Dv
open PySem PySem.Spec PyProof.Rows
open L2 hiding Takes XE CX MkP PMk ps_raise ps_try_as ps_try_many HdsOk takes_of passAt passes_call mk_of pmk_own
open L2N (Takes XE CX MkP PMk ps_raise ps_try_as ps_try_many HdsOk takes_of passAt passes_call mk_of pmk_own Zn Zn.steady)

/-! ### generators with their consumers, step by step -/
theorem runFor_eq (g : Gt) (N : Nat) (b : GB) (cb : CB) (ds : List D) (κ : Ro) (m : List R) : runFor g N b cb ds κ m = endF (evC g cb b (ds.map some ++ List.replicate (N - ds.length) none) κ m 0) := rfl
section
variable (g : Gt) (cb : CB) (ρ κ : Ro) (m : List R) (c : Nat)
end
/-! ### sorted(set(..)) -/
end Dv

namespace Dv
open PySem
/-! tuple * int -/
end Dv

namespace Dv
open PySem
/-! lambdas, defs that call what they get, raise, try: step by step -/
section
variable (g : Gt) (ρ : Ro) (m : List R)
theorem x_lam (i : Nat) : evE g (.lam i) ρ m = some (.ok (.fn i g.fr) m) := by rw [evE]
theorem x_hof (f : Nat) (es : Es) : evE g (.hof f es) ρ m = bndL (evL g es ρ m) fun ds m => hofX (g.hof f g.fr (fun i m => g.lamE i ρ m) ds m) := by rw [evE]
theorem x_act (e : E) : evE g (.act e) ρ m = bnd (evE g e ρ m) fun x m => actD g x m := by rw [evE]
theorem y_rse (c : Nat) : evS g (.rse c) ρ m = some (.ex ⟨c, none⟩ ρ m) := by rw [evS]
end
theorem compL_0 (f : D → List R → Option (Option D × List R)) (acc : List D) (m : List R) : compL f [] acc m = some (acc, m) := rfl
noncomputable def cmpK (f : D → List R → Option (Option D × List R)) (r acc : List D) : Option (Option D × List R) → Option (List D × List R)
  | some (some y, m') => if acc.length < sizeLine then compL f r (acc ++ [y]) m' else none
  | some (none, m') => compL f r acc m'
  | none => none
theorem compL_1 (f : D → List R → Option (Option D × List R)) (x : D) (r acc : List D) (m : List R) : compL f (x :: r) acc m = cmpK f r acc (f x m) := by
  rw [compL]; unfold cmpK; rfl
theorem cmpK_s {f : D → List R → Option (Option D × List R)} {r acc : List D} {y : D} {m : List R} (h : acc.length < 16777216) : cmpK f r acc (some (some y, m)) = compL f r (acc ++ [y]) m := if_pos (by rw [sizeLine_eq]; exact h)
end Dv

namespace Dv
open PySem
/-! try .. as e, isinstance(e), e.f, o.f += e, a.index(b), a.join(b): step by step -/
noncomputable def eisK (g : Gt) (c : Nat) (m : List R) : Option (Option D) → Option Rs
  | some (some (.exn c1 _ _)) => okB m (g.sub c1 c)
  | _ => none
theorem eis_q (g : Gt) (c : Nat) (m : List R) (c1 : Nat) (ks : List Str) (xs : List D) : eisK g c m (some (some (.exn c1 ks xs))) = okB m (g.sub c1 c) := rfl
noncomputable def smtK (f : Sm) (r : List R → Option Rs) (x : D) (m : List R) : Option Rs := if isStr x then bnd (r m) fun y m => (sm1D f m x y).map fun d => .ok d m else none
theorem sm_q (f : Sm) (r : List R → Option Rs) (x : Str) (m : List R) : smtK f r (.str x) m = bnd (r m) fun y m => (sm1D f m (.str x) y).map fun d => .ok d m := if_pos rfl
noncomputable def trxK (g : Gt) (c : Nat) (k : Ro → List R → Exn → Option SO) : Option SO → Option SO
  | some (.ex x ρ m) => match g.sub x.c c with
    | some true => k ρ m x
    | some false => some (.ex x ρ m)
    | none => none
  | o => o
theorem trx_ex {g : Gt} {c : Nat} {k : Ro → List R → Exn → Option SO} {x : Exn} {ρ : Ro} {m : List R} (h : g.sub x.c c = some true) : trxK g c k (some (.ex x ρ m)) = k ρ m x := by
  show (match g.sub x.c c with
    | some true => k ρ m x
    | some false => some (.ex x ρ m)
    | none => none) = k ρ m x
  rw [h]
theorem tra_q {m : List R} {d : D} (h : noxD d = true) : traK m (some (.rt d m)) = some (.rt d m) := if_pos ⟨h, rfl⟩
theorem exnD_0 (c : Nat) : exnD ⟨c, none⟩ = .exn c [] [] := rfl
section
variable (g : Gt) (ρ : Ro) (m : List R)
theorem x_eis (v c : Nat) : evE g (.eis v c) ρ m = eisK g c m ρ[v]? := by rw [evE]; unfold eisK; rfl
theorem x_sm1 (f : Sm) (a b : E) : evE g (.sm1 f a b) ρ m = bnd (evE g a ρ m) fun x m => smtK f (fun m => evE g b ρ m) x m := by rw [evE]; rfl
theorem y_tra (b : Ss) (c i : Nat) (h : Ss) : evS g (.tra b c i h) ρ m = trxK g c (fun ρ m x => traK m (evSs g h (ρ.set i (some (exnD x))) m)) (evSs g b ρ m) := by
  rw [evS]; unfold trxK; rfl
end
theorem q_join {m : List R} {x : Str} {d : D} {ys : List D} {zs : List Str} (h1 : sq m d = some ys) (h2 : asStrs ys = some zs) (h3 : (zs.map (·.length)).sum + zs.length * x.length ≤ 16777216) : sm1D .join m (.str x) d = some (.str (Str.join x zs)) := by
  unfold sm1D
  simp only [h1, h2, h3, if_true]
end Dv

namespace Dv
open PySem
/-! a comprehension whose element may raise, step by step -/
/-! [a, *t]; a call of the def that a local holds; a.split(b); int(text) -/
theorem q_strI {mu : Bool} {m : List R} {i : Int} (h : i.natAbs.log2 < 1920) : biD .str mu m [.int i] = some (.str (toString i), m) := if_pos h
end Dv

namespace Dv
open PySem
/-! dicts, step by step -/
end Dv

/-! match x: case ["word", a, ..]: .. -/
namespace Dv
open PySem PySem.Spec PyProof PyProof.Rows
open L2 hiding Takes XE CX MkP PMk ps_raise ps_try_as ps_try_many HdsOk takes_of passAt passes_call mk_of pmk_own
open L2N (Takes XE CX MkP PMk ps_raise ps_try_as ps_try_many HdsOk takes_of passAt passes_call mk_of pmk_own Zn Zn.steady)
section
variable {prog : Program} {w : World} {A : Around} {E : Value → Shared → Prop} {s : Shared}
end
section
variable {X : Cx}
/-- where the names stand -/
noncomputable def NmOk (X : Cx) : List (Str × Pos) → List Nat → Prop
  | [], [] => True
  | n :: ns, i :: is => X.N[i]? = some n.1 ∧ Loc X.env.scope n.1 ∧ (X.fn n.1 = true ∨ X.env.scope.names.lookup n.1 = some .local) ∧ NmOk X ns is
  | _, _ => False
end
end Dv

/-! match on data -/
namespace Dv
open PySem PySem.Spec PyProof PyProof.Rows
open L2 hiding Takes XE CX MkP PMk ps_raise ps_try_as ps_try_many HdsOk takes_of passAt passes_call mk_of pmk_own
open L2N (Takes XE CX MkP PMk ps_raise ps_try_as ps_try_many HdsOk takes_of passAt passes_call mk_of pmk_own Zn Zn.steady)
noncomputable def seqOf (m : List R) : Dv.D → Option (List Dv.D)
  | .tup xs => some xs
  | d => lsq m d
theorem seqOf_sq {m : List R} {d : Dv.D} {xs : List Dv.D} (h : seqOf m d = some xs) : sq m d = some xs := by
  unfold seqOf at h
  split at h
  · exact h
  · rename_i hd
    unfold lsq at h
    split at h
    · exact h
    · exact h
    · cases h
theorem ix_seq {m : List R} {d : Dv.D} {xs : List Dv.D} {k : Nat} {z : Dv.D} (h : seqOf m d = some xs) (e : ixD m d (.int (k : Int)) = some z) : xs[k]? = some z := by
  have hs := seqOf_sq h
  unfold ixD at e
  dsimp only at e
  split at e
  · cases h
  · rw [hs] at e
    have e : atI xs (k : Int) = some z := e
    rw [atI_natN] at e
    exact e
section
variable {C : Cs}
noncomputable def NmC (C : Cs) : List (Str × Pos) → List Nat → Prop
  | [], [] => True
  | n :: ns, i :: is => C.N[i]? = some n.1 ∧ Loc C.sc n.1 ∧ (C.fn n.1 = true ∨ C.sc.names.lookup n.1 = some .local) ∧ NmC C ns is
  | _, _ => False
theorem NmC.ok {X : Cx} (ok : C.Ok X) : ∀ {ns : List (Str × Pos)} {is : List Nat}, NmC C ns is → NmOk X ns is
  | [], [], _ => trivial
  | [], _ :: _, h => h.elim
  | _ :: _, [], h => h.elim
  | n :: ns, i :: is, ⟨h1, h2, h3, h4⟩ => ⟨by rw [ok.N]; exact h1, by rw [ok.sc]; exact h2, by rw [ok.fn, ok.sc]; exact h3, NmC.ok ok h4⟩
theorem NmC.len : ∀ {ns : List (Str × Pos)} {is : List Nat}, NmC C ns is → ns.length = is.length
  | [], [], _ => rfl
  | [], _ :: _, h => h.elim
  | _ :: _, [], h => h.elim
  | n :: ns, i :: is, ⟨_, _, _, h4⟩ => by rw [List.length_cons, List.length_cons, NmC.len h4]
end
end Dv

/-! try .. except X: o.f, o.h = x; raise -/
namespace Dv
open PySem PySem.Spec PyProof PyProof.Rows HotX
open L2 hiding Takes XE CX MkP PMk ps_raise ps_try_as ps_try_many HdsOk takes_of passAt passes_call mk_of pmk_own
open L2N (Takes XE CX MkP PMk ps_raise ps_try_as ps_try_many HdsOk takes_of passAt passes_call mk_of pmk_own Zn Zn.steady)
section
variable {prog : Program} {w : World} {A : Around} {E : Value → Shared → Prop} {s : Shared}
end
section
variable {X : Cx} {x : Str} {c : Value} {body : List Stmt} {b₀ : Stmt} {np pos pos' rp : Pos} {tb : WX → TS} {ts : Addr → Value → Option Addr → TS} {Wout : WX}
end
end Dv

/-! try: b, except X: o.f, .. = e; raise -/
namespace Dv
open PySem PySem.Spec PyProof PyProof.Rows
open L2 hiding Takes XE CX MkP PMk ps_raise ps_try_as ps_try_many HdsOk takes_of passAt passes_call mk_of pmk_own
open L2N (Takes XE CX MkP PMk ps_raise ps_try_as ps_try_many HdsOk takes_of passAt passes_call mk_of pmk_own Zn Zn.steady)
theorem RepX.on {T : Tb} {w w' : Wd} {cls : Value} {dd : Option Addr} {x : Exn} (h : RepX T w cls dd x) (e : Ext w w') : RepX T w' cls dd x := by
  obtain ⟨h1, h2⟩ := h
  refine ⟨h1, ?_⟩
  cases hf : x.fs with
  | none => rw [hf] at h2; exact h2
  | some fs =>
    rw [hf] at h2
    obtain ⟨a, vfs, e1, e2, e3, r⟩ := h2
    exact ⟨a, vfs, e1, e.hs _ _ e2, e3, r.on e⟩
/-- the place of a suite that only stores -/
noncomputable abbrev Cs.suj (C : Cs) : Cs := { C with hot := true, W := fun _ _ _ _ => False, cells := [], hold := fun _ => True, trb := false }
end Dv

/-! C.m(..), m a classmethod; cls(..), cls a local that holds a class -/
namespace Dv
open PySem PySem.Spec PyProof PyProof.Rows
open L2 hiding Takes XE CX MkP PMk ps_raise ps_try_as ps_try_many HdsOk takes_of passAt passes_call mk_of pmk_own
open L2N (Takes XE CX MkP PMk ps_raise ps_try_as ps_try_many HdsOk takes_of passAt passes_call mk_of pmk_own Zn Zn.steady)
theorem run_cmSD {X : Cx} {CX : CXT} {k : Nat} {g c q : Addr} {fd : FuncData} {ps : List Str} {sp : Sp} {dvs : List V} {ds : List Value} {E : L2.St → XK} {pins : List (Addr × Obj)} {σ : L2.St} {H : Hp} {s : Shared} {Q : VK} {us : List Value} {vs : List V}
    (F : FnOk X.prog X.w X.K X.mg X.base CX k g fd ps sp) (hr : Room k X.A) (hb : Binds X.K fd ps ds) (hd : Vals dvs ds) (hx : PassesAt CX X σ (E σ)) (I : Inv X ((q, PySem.W.methodObj (.ref g) (.ref c)) :: pins) σ H s) (r : Vals vs us)
    (h : sp (.ref c :: (vs ++ dvs)) H Q (E σ)) : wpAny (model X.prog X.w) X.A (call (.ref q) us) (EP X pins σ Q) X.xe s := by
  have rr : Vals (V.ref c :: (vs ++ dvs)) (Value.ref c :: (us ++ ds)) := .cons rfl (r.append hd)
  have ln := F.len _ _ _ _ h
  rw [rr.length] at ln
  have z : wpAny (model X.prog X.w) X.A (call (.ref q) us) (EP X ((q, PySem.W.methodObj (.ref g) (.ref c)) :: pins) σ Q) X.xe s := by
    refine wpAny_call (PySem.W.method_call (ClX.pin_at I) (codeAny_mono (F.run _ X.stack _ _ ⟨Value.ref c :: us, []⟩ (Value.ref c :: us ++ ds) _ _ (E σ) hr I.env0 (hb _ _ I.kIn ln) rr h) fun res s2 hq => ?_))
    cases res with
    | error e => exact hx _ _ _ e s2 I hq
    | ok fl =>
      cases fl with
      | ret u => exact I.after hq
      | next => exact hq.elim
      | brk => exact hq.elim
      | cont => exact hq.elim
  exact thn z fun _ _ y => ClX.unpinE y
section
variable {C : Cs}
end
end Dv

/-! a comprehension whose tests and elements call what the def has got: the cells stand in its block, too -/
namespace Dv
open PySem PySem.Spec PyProof.Rows
open L2 hiding Takes XE CX MkP PMk ps_raise ps_try_as ps_try_many HdsOk takes_of passAt passes_call mk_of pmk_own
open L2N (Takes XE CX MkP PMk ps_raise ps_try_as ps_try_many HdsOk takes_of passAt passes_call mk_of pmk_own Zn Zn.steady)
noncomputable def Cs.blkc (C : Cs) (scope : Scope) : Cs := { C.blk scope with cells := C.cells }
noncomputable instance blkcCold {C : Cs} [c : Cold C] {scope : Scope} : Cold (C.blkc scope) := ⟨c.h⟩
theorem Cs.Ok.blkc {C : Cs} [Cold C] {X : Cx} (ok : C.Ok X) {scope : Scope} {s : Shared} {H : Hp} {c : Addr} {cl : List (Str × Addr)} {fp : List Addr} (hc : ∀ p ∈ C.cells, s.heap.IsCell p.1 p.2 ∧ H p.1 = none ∧ p.1 ∉ fp) : (C.blkc scope).Ok (X.blk s H scope (compEnvC scope cl c X.env) fp) where
  prog := ok.prog
  w := ok.w
  K := ok.K
  mg := ok.mg
  base := ok.base
  N := ok.N
  sc := by
    show relabel scope X.env = relS scope C.sc
    rw [← ok.sc]
    rfl
  nd := ok.nd
  calm := ok.calm
  room := ok.room
  un := ok.un
  exq := fun h => noEx (C := C.blkc scope) h
  frm := fun h => nomatch h
  tka := fun h => nomatch h
  tk := takesF
  fn := rfl
  hld := True.intro
  cel := hc
theorem TbSim.trans {T T' T'' : Tb} (a : TbSim T T') (b : TbSim T' T'') : TbSim T T'' := by
  obtain ⟨a1, a2, a3, a4, a5, a6, a7, a8⟩ := a
  obtain ⟨b1, b2, b3, b4, b5, b6, b7, b8⟩ := b
  exact ⟨a1.trans b1, a2.trans b2, a3.trans b3, a4.trans b4, a5.trans b5, a6.trans b6, a7.trans b7, a8.trans b8⟩
/-- the promise of a def that calls what it gets, in like tables -/
theorem HFn.sim {P : Program} {w : World} {mg : Str → Option Value} {base : Heap} {T T' : Tb} {j : Nat} {f : Addr} {fd : FuncData} {ps : List Str} {Fh : List (Str × Addr) → (Nat → List R → Option Rs) → List D → List R → Option Rs} (H : HFn P w mg base T j f fd ps Fh) (s : TbSim T T') (hb : T'.tb = T.tb) : HFn P w mg base T' j f fd ps Fh := by
  intro T'' s2 hb2
  have h := H T'' (s.trans s2) (hb2.trans hb)
  rw [s.K, s.any] at h
  exact h
end Dv

/-! try: b, except X: h, ..; list(d) -/
namespace Dv
open PySem PySem.Spec PyProof PyProof.Rows
open L2 hiding Takes XE CX MkP PMk ps_raise ps_try_as ps_try_many HdsOk takes_of passAt passes_call mk_of pmk_own
open L2N (Takes XE CX MkP PMk ps_raise ps_try_as ps_try_many HdsOk takes_of passAt passes_call mk_of pmk_own Zn Zn.steady)
section
variable {C : Cs}
/-- clauses, their suites by what they want -/
inductive HdsM (C : Cs) : List ExceptHandler → Hh → List (Value × (Addr → Value → Option Addr → TS)) → Prop
  | nil : HdsM C [] .nil []
  | cons {x : Str} {c : Nat} {np p : Pos} {b₀ : Stmt} {suite : List Stmt} {h : Ss} {t : TS} {hds : List ExceptHandler} {r : Hh} {l : List (Value × (Addr → Value → Option Addr → TS))} (e : HdE C x c) (pt : ∀ X, C.suj.OkS X → PSs X (b₀ :: suite) t)
    (rt : ∀ (σ : L2.St) (w : Wd) (ρ : Ro) (m : List R) (D : Ends) (o : SO), Wf C.T w m → ER C.T w σ ρ → evSs C.g h ρ m = some o → PostS C.T (fun _ _ _ _ => False) w D o → t D σ w.H) (q : HdsM C hds r l) :
    HdsM C (.ExceptHandler (some (.Name x np)) none (b₀ :: suite) p :: hds) (.cons c h r) ((.ref (C.T.cl c), fun _ _ _ => t) :: l)
end
end Dv

/-! {k: v}; len(d); list(d.values()) -/
namespace Dv
open PySem PySem.Spec PyProof PyProof.Rows
open L2 hiding Takes XE CX MkP PMk ps_raise ps_try_as ps_try_many HdsOk takes_of passAt passes_call mk_of pmk_own
open L2N (Takes XE CX MkP PMk ps_raise ps_try_as ps_try_many HdsOk takes_of passAt passes_call mk_of pmk_own Zn Zn.steady)
/-! ### a thing that stands in the heap, but is not told yet -/
section
variable {T : Tb} {w : Wd} {m : List R}
end
section
variable {C : Cs}
/-! ### len(d) -/
/-! ### list(d.values()) -/
end
end Dv

/-! dicts whose keys are tuples: d[k] = v, len(d), {k: v} -/
namespace Dv
open PySem PySem.Spec PyProof PyProof.Rows
open L2 hiding Takes XE CX MkP PMk ps_raise ps_try_as ps_try_many HdsOk takes_of passAt passes_call mk_of pmk_own
open L2N (Takes XE CX MkP PMk ps_raise ps_try_as ps_try_many HdsOk takes_of passAt passes_call mk_of pmk_own Zn Zn.steady)
section
variable {X : Cx} {pins : List (Addr × Obj)} {σ : L2.St} {H : Hp} {s : Shared} {a : Addr} {y v : V} {u r : Value} {A : Around} {E : Value → Shared → Prop}
end
/-! ### what a put leaves -/
/-! ### len(d) -/
/-! ### list(d) -/
/-! ### {k: v}, k a tuple -/
/-! ### d.get(k) -/
end Dv

/-! dicts whose keys are tuples, as data: d[k] = v, len(d), list(d), {k: v}, {}, d.get(k) -/
namespace Dv
open PySem PySem.Spec PyProof PyProof.Rows
open L2 hiding Takes XE CX MkP PMk ps_raise ps_try_as ps_try_many HdsOk takes_of passAt passes_call mk_of pmk_own
open L2N (Takes XE CX MkP PMk ps_raise ps_try_as ps_try_many HdsOk takes_of passAt passes_call mk_of pmk_own Zn Zn.steady)
section
variable {C : Cs}
/-! ### d[k] = v -/
/-! ### len(d), list(d) -/
/-! ### {k: v}, {} with tuple keys -/
/-! ### d.get(k) -/
end
end Dv

namespace Dv
open PySem PySem.Spec PyProof.Rows GenW
open L2 hiding Takes XE CX MkP PMk ps_raise ps_try_as ps_try_many HdsOk takes_of passAt passes_call mk_of pmk_own
open L2N (Takes XE CX MkP PMk ps_raise ps_try_as ps_try_many HdsOk takes_of passAt passes_call mk_of pmk_own Zn Zn.steady)

/-! ### [x for x in G(..)]: the consumer that only gathers -/
end Dv

namespace Dv
open PySem PySem.Spec PyProof.Rows GenW
open L2 hiding Takes XE CX MkP PMk ps_raise ps_try_as ps_try_many HdsOk takes_of passAt passes_call mk_of pmk_own
open L2N (Takes XE CX MkP PMk ps_raise ps_try_as ps_try_many HdsOk takes_of passAt passes_call mk_of pmk_own Zn Zn.steady)

/-! ### [x for x in G(..)] -/
end Dv

namespace Dv
open PySem PySem.Spec PyProof.Rows GenW
open L2 hiding Takes XE CX MkP PMk ps_raise ps_try_as ps_try_many HdsOk takes_of passAt passes_call mk_of pmk_own
open L2N (Takes XE CX MkP PMk ps_raise ps_try_as ps_try_many HdsOk takes_of passAt passes_call mk_of pmk_own Zn Zn.steady)

/-! ### list(G(..)) where G raises before it hands out anything -/
section
variable {C : Cs}
end
section
variable {C : Cs}
end
/-! ### steps -/
end Dv

/-! sorted(d), the keys of d tuples of texts -/
namespace Dv
open PySem PySem.Spec PyProof PyProof.Rows
open L2 hiding Takes XE CX MkP PMk ps_raise ps_try_as ps_try_many HdsOk takes_of passAt passes_call mk_of pmk_own
open L2N (Takes XE CX MkP PMk ps_raise ps_try_as ps_try_many HdsOk takes_of passAt passes_call mk_of pmk_own Zn Zn.steady)
/-! ### the order -/
/-! ### tuples of texts -/
noncomputable def IsTx (h : Heap) (v : Value) (x : List Str) : Prop := ∃ (a : Addr) (o : Obj) (us : Array Value) (n : Nat), v = .ref a ∧ h.get? a = some o ∧ o.cls = .type "tuple" ∧ o.data = .seq us n ∧ Vals (x.map V.str) us.toList
theorem IsTx.keeps {h h' : Heap} {v : Value} {x : List Str} (p : IsTx h v x) (k : ∀ b o, h.get? b = some o → o.cls = .type "tuple" → h'.get? b = some o) : IsTx h' v x := by
  obtain ⟨a, o, us, n, e, ho, hc, hd, r⟩ := p
  exact ⟨a, o, us, n, e, k _ _ ho hc, hc, hd, r⟩
theorem vals_strs_inj : ∀ {x y : List Str} {us : List Value}, Vals (x.map V.str) us → Vals (y.map V.str) us → x = y
  | [], [], _, _, _ => rfl
  | [], b :: m, _, p, q => by cases p; cases q
  | a :: l, [], _, p, q => by cases q; cases p
  | a :: l, b :: m, _, p, q => by
    cases p with
    | cons p1 p2 =>
      cases q with
      | cons q1 q2 =>
        obtain ⟨t, e1⟩ := p1
        obtain ⟨t', e2⟩ := q1
        rw [e1] at e2
        injection e2 with e3 _
        rw [e3, vals_strs_inj p2 q2]
theorem IsTx.uniq {h : Heap} {v : Value} {x x' : List Str} (p : IsTx h v x) (q : IsTx h v x') : x = x' := by
  obtain ⟨a, o, us, n, e, ho, hc, hd, r⟩ := p
  obtain ⟨a', o', us', n', e', ho', hc', hd', r'⟩ := q
  rw [e] at e'
  cases e'
  rw [ho] at ho'
  cases ho'
  rw [hd] at hd'
  injection hd' with h1 h2
  subst h1
  exact vals_strs_inj r r'
section
variable {prog : Program} {w : World} {A : Around} {E : Value → Shared → Prop} {s : Shared}
end
/-! ### the rule -/
section
variable {C : Cs}
end
end Dv

/-! defs with a star parameter; slices of texts, tuple(text) -/
namespace Dv
open PySem PySem.Spec PyProof PyProof.Rows
open L2 hiding Takes XE CX MkP PMk ps_raise ps_try_as ps_try_many HdsOk takes_of passAt passes_call mk_of pmk_own
open L2N (Takes XE CX MkP PMk ps_raise ps_try_as ps_try_many HdsOk takes_of passAt passes_call mk_of pmk_own Zn Zn.steady)
/-- as the library's cxUp, of exceptions whose context is not told -/
theorem cxUpN {P : Program} {w : World} : StX.CXUp (L2N.CX P w) := by
  intro outer s0 H0 s2 H2 E e s' un kp ho c
  obtain ⟨a, B, H', cls, d, ea, fl, hok, ub, na, os, ag, he⟩ := c
  have t : ∀ b ps, H0 b = some (.tbl ps) → ∃ more, H' b = some (.tbl (ps ++ more)) := fun b ps q => by
    obtain ⟨m1, e1⟩ := un.tbls b ps q
    obtain ⟨m2, e2⟩ := ub.tbls b _ e1
    exact ⟨m1 ++ m2, by rw [e2, Array.append_assoc]⟩
  have ub' : UB (frs outer) H0 H' s0.heap B s'.heap := by
    constructor
    · exact fun b o q n hb => ub.keep b o (kp b o q) (un.free b o q n (by simp)) hb
    · exact fun b o q hb => ub.slot b o (kp b o q) hb
    · exact fun b o q n => ub.free b o (kp b o q) (un.free b o q n (by simp))
    · exact fun b o q hb => ub.there b o (kp b o q) hb
    · exact fun b xs q => ub.tups b xs (un.tups b xs q)
    · exact fun b o xs q => ub.frzs b o xs (un.frzs b o xs q)
    · exact t
  exact ⟨a, B, H', cls, d, ea, fl, hok, ub', na, os.trans ho, ag, he⟩
section
variable {P : Program} {w : World} {K : PySem.W.Frag} {mg : Str → Option Value} {base : Heap}
/-- what is left over of the arguments is a new tuple whose object is told -/
noncomputable def spStar (n : Nat) (sp : Sp) : Sp := fun vs H Q E => ∃ ws rest : List V, vs = ws ++ rest ∧ ws.length = n ∧ rest.length ≤ sizeLine ∧ ∀ p o, H p = none → PTo o → sp (ws ++ [V.ref p]) (upd H p (.frz o (.tup rest))) Q E
end
/-! ### C.m(a, *b), m a classmethod with a star parameter -/
section
variable {C : Cs}
/-! ### a[lo:hi], tuple(a), a a text -/
end
/-! ### d.get(k, x) -/
section
variable {C : Cs}
end
end Dv

/-! slices of texts, tuple(text), d.get(k, x), sorted(d): step by step -/
namespace Dv
open PySem
end Dv

/-! a & b, a | b; divmod; for k, v in d.items() -/
namespace Dv
open PySem PySem.Spec PyProof.Rows
open L2 hiding Takes XE CX MkP PMk ps_raise ps_try_as ps_try_many HdsOk takes_of passAt passes_call mk_of pmk_own
open L2N (Takes XE CX MkP PMk ps_raise ps_try_as ps_try_many HdsOk takes_of passAt passes_call mk_of pmk_own Zn Zn.steady)
section
variable {C : Cs}
/-! ### divmod -/
theorem call_divmodF {X : Cx} : CallR X (.builtin "divmod") (fun xs H Q => ∃ i j, xs = [.int i, .int j] ∧ 0 < j ∧ j < 2 ^ 64 ∧ ∀ p o, H p = none → PTo o → Q (.ref p) (upd H p (.frz o (.tup [.int (i / j), .int (i % j)])))) := by
  intro pins s σ H xs us Q I r h
  obtain ⟨i, j, rfl, h1, h2, q⟩ := h
  obtain ⟨u, w', rfl, ⟨t, rfl⟩, ⟨t', rfl⟩⟩ := vals2 r
  refine divmod_int (by omega) ?_ (.inl (PyProof.noPylong_of_log2 (by
    have h0 : ¬ j.natAbs = 0 := by omega
    have h3 : j.natAbs.log2 < 64 := (Nat.log2_lt h0).mpr (by omega)
    omega)))
  rw [Int.fdiv_eq_ediv_of_nonneg i (by omega), Int.fmod_eq_emod_of_nonneg i (by omega)]
  have hn : H s.heap.objs.size = none := I.hok.fresh (Nat.le_refl _)
  refine ⟨.ref s.heap.objs.size, _, ?_, rfl, q _ { cls := .type "tuple", data := .seq #[.int (i / j) s.toks, .int (i % j) (s.toks + 1)] } hn ⟨[.int (i / j) s.toks, .int (i % j) (s.toks + 1)], rfl⟩⟩
  exact laidT I (xs := [.int (i / j), .int (i % j)]) (us := [.int (i / j) s.toks, .int (i % j) (s.toks + 1)]) (.cons ⟨_, rfl⟩ (.cons ⟨_, rfl⟩ .nil)) (by rw [sizeLine_eq]; simp)
theorem de_dvm {a b : Expr} {xa xb : Dv.E} {p pos : Pos} (hg : C.sc.names.lookup ("divmod" : Str) = some .globalImplicit) (hm : C.mg "divmod" = none) (ha : DE C a (evE C.g xa)) (hb : DE C b (evE C.g xb)) (hs : noStar a = true) (hs2 : noStar b = true) :
    DE C (.Call (.Name "divmod" p) [a, b] [] pos) (evE C.g (.dvm xa xb)) := by
  obtain ⟨ta, pa, ra⟩ := ha
  obtain ⟨tb, pb, rb⟩ := hb
  refine ⟨_, fun X ok => pe_callB (call_divmodF (X := X)) (show X.env.scope.names.lookup ("divmod" : Str) = some .globalImplicit by rw [ok.sc]; exact hg) (by rw [ok.mg]; exact hm) (by rfl) (pa_cons (pa X ok) (pa_cons (pb X ok) pa_nil (star1 hs2 [] _)) (star1 hs _ _)) (by decide) (by decide) (star1 hs _ _) (by rw [star1 hs2]; rfl), fun σ w ρ m Q oo W E e p => ?_⟩
  simp only [evE] at e
  refine ra.bnd W E e p fun d m1 w1 v1 e1 x1 W1 r1 E1 p1 => ?_
  refine rb.bnd W1 E1 e1 p1 fun d2 m2 w2 v2 e2 x2 W2 r2 E2 p2 => ?_
  split at e2
  · rename_i i j
    split at e2
    · rename_i hj
      cases e2
      cases r1
      cases r2
      refine ⟨i, j, rfl, hj.1, hj.2, fun q o hq ho => ?_⟩
      exact new_tup W2 (.cons (.int _) (.cons (.int _) .nil)) hq ho fun w' v x' W' r' => p2 w' v x' W' r'
    · cases e2
  · cases e2
end
/-! ### the items of a dict that is locked: the pairs told as they are laid -/
section
variable {P : Program} {w : World} {K : PySem.W.Frag} {d : Addr} {o : Obj} {es : Array DictEntry} {ep : Nat}
end
section
variable {X : Cx} {e : Expr} {td : TE} {apos cpos : Pos}
end
section
variable {C : Cs}
end
/-! ### for k, v in d.items(): d locked -/
end Dv

/-! sorted(set(xs)), len(set(xs)) of texts -/
namespace Dv
open PySem PySem.Spec PyProof.Rows
open L2 hiding Takes XE CX MkP PMk ps_raise ps_try_as ps_try_many HdsOk takes_of passAt passes_call mk_of pmk_own
open L2N (Takes XE CX MkP PMk ps_raise ps_try_as ps_try_many HdsOk takes_of passAt passes_call mk_of pmk_own Zn Zn.steady)
open PySem.Froz (SD sObj TxOk addTx tailTx is_str add_ok add_x get_upd upd_const)
/-- the payload D holds the texts l, each once, and can be walked -/
structure TxW (P : Program) (w : World) (D : SD) (l : List Str) : Prop where
  ok : TxOk P w D l
  nd : l.Nodup
  ris : Ris D.2.2.place.toList
  led : w.params.followText "set-order" = true ∨ D.2.2.led = true
section
variable {P : Program} {w : World} {A : Around} {E : Value → Shared → Prop} {s : Shared}
theorem TxW.nil : TxW P w (#[], 0, .fresh 0 0 (!w.params.followText "set-order")) [] := by
  refine ⟨PySem.Froz.TxOk.nil rfl, List.nodup_nil, List.Pairwise.nil, ?_⟩
  show _ ∨ (!w.params.followText "set-order") = true
  cases w.params.followText "set-order"
  · exact .inr rfl
  · exact .inl rfl
theorem tail_ris {ep : Nat} {els : Array (Int × Value)} {tb : SetTable} {b : Bool} (h : Ris tb.place.toList) : Ris (tailTx ep els tb b).2.2.place.toList := by
  unfold tailTx
  split
  · exact relayAll_ris _ _ _
  · exact h
theorem tail_led {ep : Nat} {els : Array (Int × Value)} {tb : SetTable} {b : Bool} (h : tb.led = true) : (tailTx ep els tb b).2.2.led = true := by
  unfold tailTx
  split
  · exact (relayAll_led _ _ _).trans h
  · exact h
theorem TxW.add {D : SD} {l : List Str} {k : Str} (u : Tok) (F : TxW P w D l) (hk : k ∉ l) : TxW P w (addTx (hashStr w k) (.str k u) D) (k :: l) := by
  obtain ⟨es, ep, t⟩ := D
  refine ⟨add_ok u F.ok, List.nodup_cons.mpr ⟨hk, F.nd⟩, ?_, ?_⟩
  · have r1 := layNew_ris t es (hashStr w k) (.str k u) F.ris
    refine tail_ris ?_
    dsimp only
    split
    · exact r1
    · exact r1
  · refine F.led.imp id fun z => tail_led ?_
    have l1 := layNew_led t es (hashStr w k) (.str k u)
    dsimp only
    split
    · exact l1.trans z
    · exact l1.trans z
/-- the object at S holds the texts of l -/
noncomputable def TxAt (P : Program) (w : World) (h : Heap) (S : Addr) (l : List Str) : Prop := ∃ D, h.get? S = some (sObj "set" D) ∧ TxW P w D l
theorem TxAt.at {h h' : Heap} {S : Addr} {l : List Str} (t : TxAt P w h S l) (k : ∀ o, h.get? S = some o → h'.get? S = some o) : TxAt P w h' S l := let ⟨D, e, q⟩ := t; ⟨D, k _ e, q⟩
end
section
variable {C : Cs}
end
end Dv

/-! a.reverse(); try without exceptions -/
namespace Dv
open PySem PySem.Spec PyProof.Rows
open L2 hiding Takes XE CX MkP PMk ps_raise ps_try_as ps_try_many HdsOk takes_of passAt passes_call mk_of pmk_own
open L2N (Takes XE CX MkP PMk ps_raise ps_try_as ps_try_many HdsOk takes_of passAt passes_call mk_of pmk_own Zn Zn.steady)
section
variable {C : Cs}
end
end Dv

/-! isinstance of an own instance -/
namespace Dv
open PySem PySem.Spec PyProof.Rows
open L2 hiding Takes XE CX MkP PMk ps_raise ps_try_as ps_try_many HdsOk takes_of passAt passes_call mk_of pmk_own
open L2N (Takes XE CX MkP PMk ps_raise ps_try_as ps_try_many HdsOk takes_of passAt passes_call mk_of pmk_own Zn Zn.steady)
/-- what isinstance asks of an instance's class -/
structure InsC (K : PySem.W.Frag) (D : Addr) : Prop where
  cl : Cls K D
  ha : PySem.W.findIn K (.ref D) "__class__" = some (some (.builtin "object.__class__"))
  hn : PySem.W.specialIn K (.builtin "object.__class__") "__get__" = some (some (.builtin "getset_descriptor.__get__"))
  ht : PySem.W.takesIn K (.builtin "object.__class__") = some true
  hm : PySem.W.mroIn K D (.type "object") = some true
noncomputable def rIsO (K : PySem.W.Frag) : List V → Hp → VK → Prop := fun xs H Q => ∃ (a D dx : Addr) (fs : List (Str × V)) (c : V) (cv : Value) (b : Bool), xs = [.ref a, c] ∧ H a = some (.ins D dx fs) ∧ InsC K D ∧ (∀ u, RelV c u → u = cv) ∧ PySem.W.kitOne K (.ref D) cv = some b ∧ Q (.bl b) H
theorem call_isO {X : Cx} : CallR X (.builtin "isinstance") (rIsO X.K) := by
  intro pins s σ H xs us Q I r h
  obtain ⟨a, D, dx, fs, c, cv, b, rfl, ea, S, hcv, e, q⟩ := h
  match us, r with
  | [ux, uc], .cons rx (.cons rt .nil) =>
    have e2 := hcv _ rt
    subst e2
    exact isinst_ok I rx (.ins ea S.cl S.ha S.hn S.ht S.hm) e fun tk => ⟨.bl b, H, I.kept (t' := tk) fun _ _ z => z, rfl, q⟩
/-- the class that is asked for -/
structure IscE (C : Cs) (y : Str) (q : Nat) : Prop where
  val : ∃ (v : V) (cv : Value), (∀ X p, C.Ok X → PE X (.Name y p) (tC v)) ∧ (∀ u, RelV v u → u = cv) ∧ ∀ c b, C.g.isc c q = some b → PySem.W.kitOne C.T.K (.ref (C.T.cl c)) cv = some b
  cls : ∀ c b, C.g.isc c q = some b → InsC C.T.K (C.T.cl c)
section
variable {C : Cs}
theorem isc_own {y : Str} {q c0 : Nat} (hg : C.sc.names.lookup y = some .globalImplicit) (hm : C.mg y = some (.ref (C.T.cl c0))) (hdb : (y == ("__debug__" : Str)) = false) (hs : ∀ c b, C.g.isc c q = some b → PySem.W.kitOne C.T.K (.ref (C.T.cl c)) (.ref (C.T.cl c0)) = some b) (hc : ∀ c b, C.g.isc c q = some b → InsC C.T.K (C.T.cl c)) : IscE C y q :=
  ⟨⟨.ref (C.T.cl c0), .ref (C.T.cl c0), fun X p ok => pe_glob (show X.env.scope.names.lookup y = _ by rw [ok.sc]; exact hg) (by rw [ok.mg]; exact hm) rfl hdb, fun u h => h, hs⟩, hc⟩
theorem de_isc {a : Expr} {xa : Dv.E} {y : Str} {q : Nat} {p p2 pos : Pos} (hg : C.sc.names.lookup ("isinstance" : Str) = some .globalImplicit) (hm : C.mg "isinstance" = none) (ha : DE C a (evE C.g xa)) (hs : noStar a = true) (hy : IscE C y q) :
    DE C (.Call (.Name "isinstance" p) [a, .Name y p2] [] pos) (evE C.g (.isc xa q)) := by
  obtain ⟨ta, pa, ra⟩ := ha
  obtain ⟨⟨v, cv, hpe, hcv, hk⟩, hcl⟩ := hy
  refine ⟨tCB (rIsO C.T.K) (tCons ta (tCons (tC v) tNil)), fun X ok => ?_, fun σ w ρ m Q oo W E e pp => ?_⟩
  · refine pe_callB (by have := call_isO (X := X); rw [ok.K] at this; exact this) (show X.env.scope.names.lookup _ = some .globalImplicit by rw [ok.sc]; exact hg) (by rw [ok.mg]; exact hm) (by rfl)
      (pa_cons (pa X ok) (pa_cons (hpe X p2 ok) pa_nil (star1 rfl [] _)) (star1 hs _ _)) (by decide) (by decide) (star1 hs _ _) (by rw [star1 rfl]; rfl)
  · simp only [evE] at e
    refine ra.bnd W E e pp fun d m1 w1 v1 e1 x1 W1 r1 E1 p1 => ?_
    cases hc : clsD m1 d with
    | none => rw [hc] at e1; cases e1
    | some c =>
      rw [hc] at e1
      cases hb : C.g.isc c q with
      | none => simp only [Option.bind_some, hb] at e1; cases e1
      | some b =>
        simp only [Option.bind_some, hb] at e1
        cases e1
        obtain ⟨ax, dx, fs, rfl, hH⟩ := clsD_rep W1 r1 hc
        exact ⟨ax, _, dx, fs, v, cv, b, rfl, hH, hcl c b hb, hcv, hk c b hb, p1 _ _ (Ext.refl _) W1 (.bl b)⟩
end
end Dv

/-! sum((n - x) // k + 1 for x in xs if x <= n) -/
namespace Dv
open PySem PySem.Spec PyProof.Rows
open L2 hiding Takes XE CX MkP PMk ps_raise ps_try_as ps_try_many HdsOk takes_of passAt passes_call mk_of pmk_own
open L2N (Takes XE CX MkP PMk ps_raise ps_try_as ps_try_many HdsOk takes_of passAt passes_call mk_of pmk_own Zn Zn.steady)
/-! ### the numbers that pass -/
/-! ### the generator's own text -/
structure SgEnv (cenv : Env) (c x p : Str) (ca pa : Addr) : Prop where
  kind : cenv.scope.kind = .function
  nx : cenv.scope.names.lookup x = some .local
  nc : cenv.scope.names.lookup c = some .free
  np : cenv.scope.names.lookup p = some .free
  la : cenv.cells.lookup c = some ca
  lp : cenv.cells.lookup p = some pa
  dx : (x == ("__debug__" : Str)) = false
  dc : (c == ("__debug__" : Str)) = false
  dp : (p == ("__debug__" : Str)) = false
  kc : (c == ("__classdict__" : Str)) = false
  kp : (p == ("__classdict__" : Str)) = false
section
variable {P : Program} {w : World} {A : Around} {E : Value → Shared → Prop} {s : Shared} {cenv : Env} {c x p : Str} {ca pa : Addr} {m : Str → Option Value} {n k z : Int} {t u v : Tok}
end
/-! ### the generator made and walked -/
section
variable {X : Cx} {pins : List (Addr × Obj)} {σ : L2.St} {H : Hp} {s : Shared}
end

/-! ### the table of a def's code grows -/
/-- the frame of a def with a generator expression -/
structure MkrG (C : Cs) (c P : Addr) (q : Str) : Prop where
  tab : LamX.TabB C.base C.mg c P
  hold : ∀ env, C.hold env → env.cells = C.g.fr ∧ env.code = .ref c ∧ env.qual = q
  mem : (P, q ++ "<genexpr>") ∈ C.T.tb
  uniq : ∀ p ∈ C.T.tb, p.1 = P → p.2 = q ++ "<genexpr>"
end Dv

/-! super().__init__(..) -/
namespace Dv
open PySem PySem.Spec PyProof PyProof.Rows
open L2 hiding Takes XE CX MkP PMk ps_raise ps_try_as ps_try_many HdsOk takes_of passAt passes_call mk_of pmk_own
open L2N (Takes XE CX MkP PMk ps_raise ps_try_as ps_try_many HdsOk takes_of passAt passes_call mk_of pmk_own Zn Zn.steady)
/-- what is written about the def at f of the class at c, and the def g above it -/
structure SupF (K : PySem.W.Frag) (P : Program) (mg : Str → Option Value) (f cda cc c g : Addr) (fd : FuncData) (a0 : Str) : Prop where
  fn : ∃ oc od osl, K.lookup f = some ⟨oc, od, .func fd, osl⟩
  par : ∃ ar : Arg, (fd.params.posonlyargs ++ fd.params.args).head? = some ar ∧ ar.arg = a0
  code : ∃ ccl cdd vs ccs file tf, K.lookup cda = some ⟨ccl, cdd, .fields vs, ccs⟩ ∧ vs[2]? = some (.str file tf) ∧ ((P.main.file : Str) == file) = true
  cell : ∃ cl cld csl, K.lookup cc = some ⟨cl, cld, .cell (some (.ref c)), csl⟩
  cls : ∃ cd, PySem.W.clsIn K c = some cd
  mro : PySem.W.mroIn K c (.ref c) = some true
  sup : mg "super" = none
  opq : PySem.W.nsIn K cStatics "thirdparty.any" = some none
  top : (P.main.scope.names.lookup ("super" : Str)).isSome = false
  nxt : PySem.W.ks_superIn K c c "__init__" = some (some (.ref g))
  typ : PySem.W.typeIn K (.ref g) = some (.type "function")
  fi : PySem.W.fnIn K g = true
/-- the frame of such a def -/
structure SupX (X : Cx) (f cda cc : Addr) (a0 : Str) : Prop where
  func : X.env.func = some f
  code : X.env.code = .ref cda
  cells : X.env.cells.lookup ("__class__" : Str) = some cc
  gs : X.env.scope.names.lookup ("super" : Str) = some .globalImplicit
  gc : X.env.scope.names.lookup ("__class__" : Str) = some .free
  ga : X.env.scope.names.lookup a0 = some .local
  n0 : X.N[0]? = some a0
theorem boot_super : bootBuiltins "super" = some (.type "super") := by first | rfl | kernel_rfl | decide +kernel
section
variable {X : Cx} {pins : List (Addr × Obj)} {σ : L2.St} {H : Hp} {s : Shared} {f cda cc c g x dx : Addr} {fd : FuncData} {a0 : Str} {fs : List (Str × V)}
theorem sup_base {body : List Stmt} {p0 p1 : Pos} {whole : Sem Value} {Q : Value → Shared → Prop} (I : Inv X pins σ H s) (S : SupF X.K X.prog X.mg f cda cc c g fd a0) (F : SupX X f cda cc a0) (hσ : σ[0]? = some (some (.ref x))) (hx : H x = some (.ins c dx fs))
    (go : ∀ so s2, Inv X ((so, PySem.W.ks_superObj c x c) :: pins) σ H s2 → Q (.ref so) s2) :
    _root_.PySem.wpAt (model X.prog X.w) X.A (.func body X.env) (attributeBase (.Call (.Name "super" p0) [] [] p1) "__init__" X.env whole) Q X.xe s := by
  obtain ⟨oc, od, osl, hfn⟩ := S.fn
  obtain ⟨ar, har, rfl⟩ := S.par
  obtain ⟨ccl, cdd, vs, ccs, file, tf, hcode, hvs, hfile⟩ := S.code
  obtain ⟨cl, cld, csl, hcell⟩ := S.cell
  obtain ⟨cd, hcd⟩ := S.cls
  have KX := I.kIn
  obtain ⟨oD, hD1, hD2⟩ : ∃ oD, s.heap.get? c = some oD ∧ oD.data = .cls cd := by
    unfold PySem.W.clsIn at hcd
    split at hcd
    · rename_i ho
      cases hcd
      exact ⟨_, KX _ _ ho, rfl⟩
    · cases hcd
  obtain ⟨mA, ob, _⟩ := ins_get I.hok hx
  obtain ⟨odx, J, _⟩ := ob.look
  refine PySem.ks_wpAt_super_base F.gs F.gc rfl F.func (KX _ _ hfn) rfl har F.code (KX _ _ hcode) rfl hvs hfile S.top ?_
  obtain ⟨mb, h1, h2⟩ := I.mod.blt
  refine PySem.W.ks_loadName_global I.ok.kind F.gs (Calls.loadGlobal_builtin (by rw [I.ok.glob]; exact I.mod.glob.keeps I.bk) S.sup (by rw [I.ok.blt]; exact h1.keeps I.bk) ((h2 "super" (by decide)).trans boot_super) ⟨rfl, ?_⟩)
  refine wpAny_loadName_free I.ok.kind F.gc F.cells ⟨_, KX _ _ hcell, rfl⟩ ?_
  obtain ⟨mm, hns, q⟩ := I.loc
  obtain ⟨u, ru, lk⟩ := q 0 _ _ F.n0 hσ (.inl F.ga)
  obtain rfl : u = Value.ref x := ru
  have hv : mm ar.arg = some (.ref x) := by
    rcases lk with ⟨_, z⟩ | ⟨z, _⟩
    · exact z
    · have z : X.env.scope.names.lookup ar.arg = some .cell ∨ X.env.scope.names.lookup ar.arg = some .free := z
      rw [F.ga] at z
      rcases z with z | z <;> cases z
  refine wpAny_loadName_local I.ok.kind F.ga hns hv ?_
  refine PySem.ks_wpAny_isType_cls hD1 hD2 ⟨rfl, ?_⟩
  refine PySem.ks_wpAny_call_super hD1 hD2 J.at_ J.cls (fun c2 e => ?_) (PySem.W.looks_mroIn KX S.mro) fun h' e k => ?_
  · have := J.no
    unfold PySem.W.notCls at this
    rw [e] at this
    exact Bool.noConfusion this
  · exact go _ _ (ClX.pin_new I k (Nat.le_refl _) e (fun v z => nomatch z))
theorem sup_meth {so : Addr} {pl : Sem Bool} {Q : Value × List Value → Shared → Prop} (I : Inv X ((so, PySem.W.ks_superObj c x c) :: pins) σ H s) (S : SupF X.K X.prog X.mg f cda cc c g fd a0) (hx : H x = some (.ins c dx fs))
    (go : ∀ q s2, X.base.get? q = none → Inv X ((q, PySem.W.methodObj (.ref g) (.ref x)) :: pins) σ H s2 → Q (.ref q, []) s2) :
    wpAny (model X.prog X.w) X.A (getMethod (.ref so) "__init__" pl) Q X.xe s := by
  have KX := I.kIn
  obtain ⟨cd, hcd⟩ := S.cls
  obtain ⟨mA, ob, _⟩ := ins_get I.hok hx
  obtain ⟨odx, J, _⟩ := ob.look
  have hso := ClX.pin_at I
  have I0 := ClX.unpin I
  have hm := S.nxt
  unfold PySem.W.ks_superIn at hm
  rw [hcd] at hm
  obtain ⟨of, hof, hofc⟩ : ∃ of, s.heap.get? g = some of ∧ of.cls = .type "function" := by
    have ht : (X.K.lookup g).map (·.cls) = some (.type "function") := S.typ
    cases z : X.K.lookup g with
    | none => rw [z] at ht; cases ht
    | some of => rw [z] at ht; exact ⟨of, KX _ _ z, Option.some.inj ht⟩
  obtain ⟨hh, gg, dd, t, os⟩ := s
  refine PySem.ks_wpAny_getMethod_super hso (PySem.W.looks_opaque KX S.opq) (l₀ := cd.mro) ?_ rfl KX hm hof hofc (PySem.W.ks_ne KX J hcd) rfl ?_
  · exact fun A Q E s k q => wpAny_bind ((PySem.W.looks_clsIn KX hcd) A _ E s k (wpAny_pure q))
  · exact go _ _ (ClX.base_none I0 (Nat.le_refl _)) (ClX.pin_new I0 (fun _ _ z => Heap.get?_push_of_some _ z) (Nat.le_refl _) (Heap.get?_push_size _ rfl) (fun v z => nomatch z))
end

theorem sup_tree {p0 p1 apos pos : Pos} {es : List Expr} {env : Env} (h : es.all noStar = true) (hl : es.length < 30) (hp : (apos.endLine == pos.line) = true) :
    eval (.Call (.Attribute (.Call (.Name "super" p0) [] [] p1) "__init__" apos) es [] pos) env = (do
      let ov ← attributeBase (.Call (.Name "super" p0) [] [] p1) "__init__" env (eval (.Call (.Name "super" p0) [] [] p1) env)
      standAt apos.atName
      let (f, first) ← holding [ov] (getMethod ov "__init__" (do return (← importBound (.Call (.Name "super" p0) [] [] p1) env).getD true))
      callWith pos f first (backTo pos (starEach es env)) []) := by
  rw [arm_eval_Call]
  have hf : methodCallForm (es.length + ([] : List Keyword).length) (backTo pos (starEach es env)) (backToKw pos (keywordEach [] env)) = true := form_of h hl
  congr 1
  funext ov
  congr 1
  funext _
  unfold methodCall
  rw [hf]
  have h2 : methodCallPos true (.Call (.Name "super" p0) [] [] p1) env apos pos = pure pos := by unfold methodCallPos; simp [hp]
  rw [h2]
  rfl
/-! ### statements that may ask which def runs -/
structure PSA (X : Cx) (b0 sts : List Stmt) (t : TS) : Prop where
  run : ∀ (pins : List (Addr × Obj)) (s : Shared) (σ : L2.St) (H : Hp) (D : Ends), Inv X pins σ H s → t D σ H → _root_.PySem.wpAt (model X.prog X.w) X.A (.func b0 X.env) (execs sts X.env) (SP X pins D) X.xe s
section
variable {X : Cx} {b0 rest : List Stmt} {st : Stmt} {t u : TS}
theorem psa_of (h : PSs X rest t) : PSA X b0 rest t := ⟨fun pins s σ H D I q => _root_.PySem.wpAt_of_wpAny (h.run pins s σ H D I q)⟩
theorem psa_cons (h1 : PS X st t) (h2 : PSA X b0 rest u) : PSA X b0 (st :: rest) (tSeq t u) := by
  refine ⟨fun pins s σ H D I q => PySem.ks_wpAt_execs_cons (_root_.PySem.wpAt_of_wpAny (thn (h1.run pins s σ H { D with nx := u D } I q) fun fl s1 z => ?_))⟩
  cases fl with
  | next =>
    obtain ⟨σ', H', I', z⟩ := z
    exact h2.run pins s1 σ' H' D I' z
  | ret v => exact z
  | brk => exact z
  | cont => exact z
noncomputable def tSup (c : Addr) (sp : Sp) (dvs : List V) (E : L2.St → XK) (t : TA) (u : TS) : TS := fun D σ H => ∃ x dx fs, σ[0]? = some (some (V.ref x)) ∧ H x = some (.ins c dx fs) ∧ t σ H fun vs H1 => sp (.ref x :: (vs ++ dvs)) H1 (fun _ H2 => u D σ H2) (E σ)
theorem psa_sup {CX : CXT} {k : Nat} {f cda cc c g : Addr} {fd gd : FuncData} {a0 : Str} {ps : List Str} {sp : Sp} {dvs : List V} {ds : List Value} {E : L2.St → XK} {t : TA} {e : Expr} {es : List Expr} {p0 p1 apos pos pos2 : Pos}
    (S : SupF X.K X.prog X.mg f cda cc c g fd a0) (F : SupX X f cda cc a0) (G : FnOk X.prog X.w X.K X.mg X.base CX k g gd ps sp) (hr : Room k X.A) (hb : Binds X.K gd ps ds) (hd : Vals dvs ds) (hx : ∀ σ, PassesAt CX X σ (E σ)) (ha : PA X (e :: es) t)
    (hs : (e :: es).all noStar = true) (hl : (e :: es).length < 30) (hp : (apos.endLine == pos.line) = true) (h2 : PSA X b0 rest u) (hq : ∀ env, swapsWith (.Call (.Attribute (.Call (.Name "super" p0) [] [] p1) "__init__" apos) (e :: es) [] pos) none pos2.line env = pure false) :
    PSA X b0 (.Expr (.Call (.Attribute (.Call (.Name "super" p0) [] [] p1) "__init__" apos) (e :: es) [] pos) pos2 :: rest) (tSup c sp dvs E t u) := by
  refine ⟨fun pins s σ H D I q => ?_⟩
  obtain ⟨x, dx, fs, hσ, hH, q⟩ := q
  have hs2 := hs
  rw [List.all_cons, Bool.and_eq_true] at hs2
  refine PySem.ks_wpAt_execs_cons (PySem.ks_wpAt_Expr_any (PySem.ks_wpAt_MethodCall (pl := do return (← importBound (.Call (.Name "super" p0) [] [] p1) X.env).getD true) (sup_base I S F hσ hH fun so s2 I2 => sup_meth I2 S hH fun m s3 hm I3 => ?_) (sup_tree hs hl hp)) I.quiet (hq _))
  refine thn (ClX.callwith_cm I3 hm S.fi (thn (ha.run pos _ s3 σ _ _ I3 q) fun us s4 ⟨vs, H1, I4, rv, q2⟩ => ⟨⟨ClX.pin_at I4, I4.kIn⟩, run_cmSD G hr hb hd (hx σ) I4 rv q2⟩) (star1 hs2.1 es _) (stars hs2.2)) fun v s5 z => ?_
  obtain ⟨v', H', I5, _, z⟩ := z
  exact h2.run pins s5 σ H' D I5 z
end

/-! ### the def's own frame -/
structure FnScopeC (N P : List Str) (sc : Scope) : Prop where
  kind : sc.kind = .function
  co : sc.isCoroutine = false
  gen : sc.isGenerator = false
  nd : N.Nodup
  pre : N.take P.length = P
  par : ∀ x ∈ P, sc.names.lookup x = some .local
  nocell : ∀ y ∈ sc.names, y.2 ≠ .cell
  free : ∀ y ∈ sc.names, y.2 = .free → y.1 = "__class__"
  own : ("__class__" : Str) ∉ N
noncomputable abbrev envS (qual : Str) (sc : Scope) (L f : Addr) (cd : Value) (cc : Addr) : Env := PySem.W.envX qual sc L f cd [("__class__", cc)]
noncomputable def cxC (P : Program) (w : World) (K : PySem.W.Frag) (mg : Str → Option Value) (base : Heap) (N : List Str) (qual : Str) (sc : Scope) (f : Addr) (cd : Value) (cc : Addr) (A : Around) (outer : List Env) (s : Shared) (H : Hp) (E : XK) : Cx where
  prog := P
  w := w
  K := K
  mg := mg
  base := base
  A := A.deeper (envS qual sc s.heap.objs.size f cd cc)
  N := N
  s_0 := s
  H_0 := H
  env := envS qual sc s.heap.objs.size f cd cc
  outer := outer
  stack := envS qual sc s.heap.objs.size f cd cc :: outer
  ex := []
  calm := true
  fn := fun _ => false
  pn := []
  xe := fun z s' => wpAny (model P w) (A.deeper (envS qual sc s.heap.objs.size f cd cc)) (leaving (envS qual sc s.heap.objs.size f cd cc) z) (fun _ s'' => L2N.CX P w outer H s E z s'') (fun z' s'' => L2N.CX P w outer H s E z' s'') s'
theorem rev_get {P : List Str} {us : List Value} {i : Nat} {x : Str} {v : Value} (nd : P.Nodup) (h1 : P[i]? = some x) (h2 : us[i]? = some v) : (P.zip us).reverse.lookup x = some v := by
  have mem : (x, v) ∈ P.zip us := by
    refine List.mem_of_getElem? (i := i) ?_
    rw [List.getElem?_zip_eq_some]
    exact ⟨h1, h2⟩
  obtain ⟨u, hu⟩ := mem_lookup (List.mem_reverse.mpr mem)
  have m2 := List.mem_reverse.mp (PySem.mem_of_lookup hu)
  obtain ⟨j, hj⟩ := List.getElem?_of_mem m2
  rw [List.getElem?_zip_eq_some] at hj
  obtain ⟨li, e1⟩ := List.getElem?_eq_some_iff.mp h1
  have ij : i = j := (List.getElem?_inj li nd).mp (h1.trans hj.1.symm)
  subst ij
  have h3 := hj.2
  rw [h2] at h3
  rw [hu]
  exact h3.symm
section
variable {P : Program} {w : World} {K : PySem.W.Frag} {mg : Str → Option Value} {base : Heap} {N ps : List Str} {qual : Str} {sc : Scope} {f cc : Addr} {cd : Value} {A : Around} {outer : List Env} {s : Shared} {H : Hp} {E : XK}
theorem inv_startC {us : List Value} {vs : List V} {h1 : Heap} {tk : Nat} {oc : Obj} {cv : Option Value} (S : FnScopeC N ps sc) (hd : A.handled = none) (e0 : Env0 P w K mg base A outer s H) (hl : vs.length = ps.length) (r : Vals vs us)
    (hns : h1.Ns s.heap.objs.size (fun x => (ps.zip us).reverse.lookup x)) (kp : ∀ b o, s.heap.get? b = some o → h1.get? b = some o) (hc : base.get? cc = some oc) (hcd : oc.data = .cell cv) :
    Inv (cxC P w K mg base N qual sc f cd cc A outer s H E) [] (start N vs) H { s with heap := h1, toks := tk } := by
  have hpl : ps.length ≤ N.length := by have := congrArg List.length S.pre; rw [List.length_take] at this; omega
  have one : ∀ {y : Str} {c : Addr}, (cxC P w K mg base N qual sc f cd cc A outer s H E).env.cells.lookup y = some c → y = "__class__" ∧ c = cc := fun {y c} q => by
    have m := PySem.mem_of_lookup q
    have m : (y, c) ∈ [(("__class__" : Str), cc)] := m
    rw [List.mem_singleton] at m
    cases m
    exact ⟨rfl, rfl⟩
  have hcs := e0.bs cc oc hc
  have frf : ∀ b ∈ (cxC P w K mg base N qual sc f cd cc A outer s H E).fs, H b = none := e0.frf
  exact {
    ok := {
      mod := e0.mod
      kind := S.kind
      glob := rfl
      blt := rfl
      above := Nat.le_refl _
      inj := fun x y c e1 e2 => (one e1).1.trans (one e2).1.symm
      has := fun x hx => by
        have hx : sc.names.lookup x = some .cell ∨ sc.names.lookup x = some .free := hx
        rcases hx with z | z
        · exact absurd rfl (S.nocell _ (PySem.mem_of_lookup z))
        · have e : x = "__class__" := S.free _ (PySem.mem_of_lookup z) rfl
          subst e
          exact ⟨cc, rfl⟩
      cab := fun x c z => by cases (show false = true from z)
      hd := fun _ => hd
      frames := Around.frames_deeper e0.frames
      stk := .inr ⟨rfl, rfl⟩
      exf := fun b hb => nomatch (show b ∈ ([] : List Addr) from hb)
      bs := e0.bs
      bsz := e0.bsz
      noex := fun b o _ hb => nomatch (show b ∈ ([] : List Addr) from hb)
      exfs := fun b hb => nomatch (show b ∈ ([] : List Addr) from hb)
      funs := e0.funs
      frf := frf }
    os := rfl
    bare := e0.bare
    base := Un.kept kp
    loc := ⟨_, hns, fun i y v h3 h4 h5 => by
      have h3 : N[i]? = some y := h3
      have hi : i < vs.length := by
        have h4 := h4
        unfold L2.start at h4
        by_cases c : i < vs.length
        · exact c
        · rw [List.getElem?_append_right (by simpa using c), List.getElem?_replicate] at h4
          split at h4 <;> cases h4
      have ha : vs[i]? = some v := by
        unfold L2.start at h4
        rw [List.getElem?_append_left (by simpa using hi), List.getElem?_map] at h4
        cases q : vs[i]? with
        | none => rw [q] at h4; cases h4
        | some z => rw [q] at h4; cases h4; rfl
      obtain ⟨u, hu, rv⟩ := r.get ha
      have hp : ps[i]? = some y := by
        rw [← S.pre, List.getElem?_take_of_lt (by omega)]; exact h3
      have nd : ps.Nodup := by rw [← S.pre]; exact S.nd.sublist (List.take_sublist _ _)
      exact ⟨u, rv, .inl ⟨S.par y (List.mem_of_getElem? hp), rev_get nd hp hu⟩⟩⟩
    cell := fun x c q => by
      obtain ⟨_, rfl⟩ := one q
      exact ⟨cv, oc, kp _ _ hcs.1, hcd⟩
    free := e0.hok.fresh (Nat.le_refl _)
    freeC := fun x c q => by
      obtain ⟨_, rfl⟩ := one q
      exact hcs.2
    pin := fun p hp => nomatch (show p ∈ ([] : List (Addr × Obj)) from hp)
    hok := e0.hok.kept kp
    len := by
      unfold L2.start
      show _ = N.length
      rw [List.length_append, List.length_map, List.length_replicate]
      omega }
theorem run_C {k : Nat} {name : Str} {params : Arguments} {body : List Stmt} {dV kV doc pm ct o1 : Value} {an od : Option Addr} {osl : Array (Option Value)} {args : Args} {Q : VK} {G : List V → Hp → Prop}
    (lk : K.lookup f = some ⟨o1, od, .func (PySem.W.ksFn name qual params body sc dV kV doc pm an cd ct cc), osl⟩) (hcd : PySem.W.codeIn K cd qual = true) (hcc : ∃ a b c v, K.lookup cc = some ⟨a, b, .cell v, c⟩) (S : FnScopeC N ps sc) (hr : Room (k + 1) A) (e0 : Env0 P w K mg base A outer s H)
    (hb : StX.Bnd (L2N.CX P w) P w K mg base (PySem.W.ksFn name qual params body sc dV kV doc pm an cd ct cc) args ps A outer s H E G)
    (run : ∀ (s2 : Shared) (H2 : Hp) (vs : List V), G vs H2 → Room k (A.deeper (envS qual sc s2.heap.objs.size f cd cc)) →
      ∃ t, PSA (cxC P w K mg base N qual sc f cd cc A outer s2 H2 E) body body t ∧ t { nx := fun _ H' => Q .non H', rt := Q } (start N vs) H2) :
    codeAny (model P w) A (.call (.ref f) args) (CR (L2N.CX P w) outer P w H s Q E) s := by
  have KX : K.In s.heap := e0.mod.kin.keeps fun b o e => (e0.bs b o e).1
  obtain ⟨ca, cb, cl, cv, hcell⟩ := hcc
  refine codeAny_call_function hr.depth (KX _ _ lk) rfl S.co S.gen rfl (PySem.W.codeRec_of KX hcd) (hb _ _ _ fun s2 H2 vs us e2 un ho hx r hl g => ?_)
  have lim : s2.heap.NoLimit := e0.mod.nolimit.keeps fun b o e => (e2.bs b o e).1
  refine wpAny_newFunctionEnv (s := s2) S.nocell (fun y hy => S.par y.1 (List.of_mem_zip hy).1) (fun h1 hns hsb => ⟨lim.fresh _ hsb, PySem.ks_codeAny_funcAt ?_⟩) S.kind
  obtain ⟨t, ht, hq⟩ := run s2 H2 vs g (hr.deeper _)
  have kp : ∀ b o, s2.heap.get? b = some o → h1.get? b = some o := fun b o e => hsb.extBut b o (Nat.ne_of_lt (Heap.lt_size e)) (Heap.get?_push_of_some _ e)
  have J := inv_startC (qual := qual) (f := f) (cd := cd) (E := E) (tk := s2.toks + (ps.zip us).length) S hr.hd e2 hl r hns kp (e2.mod.kin _ _ hcell) rfl
  refine PySem.ks_wpAt_mono (ht.run [] _ _ _ _ J hq) (fun fl s' z => ?_) fun e s' z => ?_
  · have fin : ∀ {σ' : L2.St} {H' : Hp} {v' : V} {u' : Value}, Inv (cxC P w K mg base N qual sc f cd cc A outer s2 H2 E) [] σ' H' s' → RelV v' u' → Q v' H' → CE outer P w H s Q u' s' :=
      fun {σ' H' v' u'} J2 rv q => ⟨v', H', J2.os.trans ho, J2.bare, un.trans J2.base, J2.hok, rv, q⟩
    cases fl with
    | next =>
      obtain ⟨σ', H', J2, q⟩ := z
      exact fin (v' := V.non) (u' := Value.none) J2 rfl q
    | ret u' =>
      obtain ⟨v', σ', H', J2, rv, q⟩ := z
      exact fin J2 rv q
    | brk =>
      obtain ⟨_, _, _, q⟩ := z
      exact q.elim
    | cont =>
      obtain ⟨_, _, _, q⟩ := z
      exact q.elim
  · exact wpAny_mono z (fun _ s'' q => hx e s'' q) fun e' s'' q => hx e' s'' q
end
end Dv

/-! super().__init__(..), on data; defs and classes with a star parameter above it -/
namespace Dv
open PySem PySem.Spec PyProof PyProof.Rows
open L2 hiding Takes XE CX MkP PMk ps_raise ps_try_as ps_try_many HdsOk takes_of passAt passes_call mk_of pmk_own
open L2N (Takes XE CX MkP PMk ps_raise ps_try_as ps_try_many HdsOk takes_of passAt passes_call mk_of pmk_own Zn Zn.steady)
noncomputable def Cs.atS (C : Cs) (N : List Str) (sc : Scope) (E : XK) : Cs := { C with N := N, sc := sc, W := fun cls d _ H => E cls d H, fn := fun _ => false }
noncomputable instance atSCold {C : Cs} [c : Cold C] {N : List Str} {sc : Scope} {E : XK} : Cold (C.atS N sc E) := ⟨c.h⟩
noncomputable def DSA (C : Cs) (b0 sts : List Stmt) (f : Ro → List R → Option SO) : Prop := ∃ t, (∀ X, C.OkS X → PSA X b0 sts t) ∧ RunsS C t f
/-- the def above, number i, called with n arguments behind the instance of the class number q -/
noncomputable def SupE (C : Cs) (q n i : Nat) : Prop := ∃ (f cda cc g : Addr) (fd gd : FuncData) (a0 : Str) (k : Nat) (ps : List Str) (sp : Sp) (ds : List Value) (dvs : List V), SupF C.T.K C.P C.mg f cda cc (C.T.cl q) g fd a0 ∧ C.N[0]? = some a0 ∧ C.sc.names.lookup a0 = some .local ∧
  (∀ env, C.hold env → env.func = some f ∧ env.code = .ref cda ∧ env.cells.lookup ("__class__" : Str) = some cc) ∧ FnOk C.P C.w C.T.K C.mg C.base (L2N.CX C.P C.w) k g gd ps sp ∧ k ≤ C.L ∧ Binds C.T.K gd ps ds ∧ Vals dvs ds ∧
  ∀ vs H Q E, vs.length = n + 1 → spD C.T (C.g.F i) vs H Q E → sp (vs ++ dvs) H Q E
section
variable {C : Cs}
theorem dsa_of {b0 sts : List Stmt} {f : Ro → List R → Option SO} (h : DSs C sts f) : DSA C b0 sts f :=
  let ⟨t, p, r⟩ := h
  ⟨t, fun X ok => psa_of (p X ok), r⟩
theorem runs_seq {t u : TS} {s : S} {r : Ss} (k : RunsS C t (evS C.g s)) (j : RunsS C u (evSs C.g r)) : RunsS C (tSeq t u) (evSs C.g (.cons s r)) := by
  intro σ w ρ m D o W E e pp
  simp only [evSs] at e
  cases e1 : evS C.g s ρ m with
  | none => rw [e1] at e; cases e
  | some o1 =>
    rw [e1] at e
    refine k σ w ρ m _ o1 W E e1 ?_
    cases o1 with
    | nx ρ1 m1 => exact fun w1 σ1 x1 W1 E1 => j σ1 w1 ρ1 m1 D o W1 E1 e (pp.on x1 W1)
    | rt d m1 => cases e; exact pp
    | bk d m1 => cases e; exact pp
    | ct d m1 => cases e; exact pp
    | ex x d m1 => cases e; exact pp
theorem dsa_cons {b0 sts : List Stmt} {st : Stmt} {s : S} {r : Ss} (h1 : DS C st (evS C.g s)) (h2 : DSA C b0 sts (evSs C.g r)) : DSA C b0 (st :: sts) (evSs C.g (.cons s r)) :=
  let ⟨t, p, k⟩ := h1
  let ⟨u, q, j⟩ := h2
  ⟨tSeq t u, fun X ok => psa_cons (p X ok) (q X ok), runs_seq k j⟩
theorem dsa_sup [Cold C] {b0 sts : List Stmt} {q i : Nat} {e : Expr} {es : List Expr} {xs : Es} {r : Ss} {p0 p1 apos pos pos2 : Pos} (M : SupE C q xs.len i) (hgs : C.sc.names.lookup ("super" : Str) = some .globalImplicit) (hgc : C.sc.names.lookup ("__class__" : Str) = some .free)
    (ha : DA C (e :: es) (evL C.g xs)) (hs : (e :: es).all noStar = true) (hl : (e :: es).length < 30) (hp : (apos.endLine == pos.line) = true) (hq : ∀ env, swapsWith (.Call (.Attribute (.Call (.Name "super" p0) [] [] p1) "__init__" apos) (e :: es) [] pos) none pos2.line env = pure false) (h2 : DSA C b0 sts (evSs C.g r)) :
    DSA C b0 (.Expr (.Call (.Attribute (.Call (.Name "super" p0) [] [] p1) "__init__" apos) (e :: es) [] pos) pos2 :: sts) (evSs C.g (.cons (.expr (.spi i q xs)) r)) := by
  obtain ⟨f, cda, cc, g, fd, gd, a0, k, ps, sp, ds, dvs, S, hN, hla, hold, G, hk, hb, hd, imp⟩ := M
  obtain ⟨t, pt, rt⟩ := ha
  obtain ⟨u, pu, ru⟩ := h2
  refine ⟨tSup (C.T.cl q) sp dvs (WE C.W) t u, fun X ok => ?_, ?_⟩
  · obtain ⟨f1, f2, f3⟩ := hold _ ok.hld
    have S' : SupF X.K X.prog X.mg f cda cc (C.T.cl q) g fd a0 := by rw [ok.K, ok.prog, ok.mg]; exact S
    have G' : FnOk X.prog X.w X.K X.mg X.base (L2N.CX X.prog X.w) k g gd ps sp := by rw [ok.prog, ok.w, ok.K, ok.mg, ok.base]; exact G
    exact psa_sup S' ⟨f1, f2, f3, by rw [ok.sc]; exact hgs, by rw [ok.sc]; exact hgc, by rw [ok.sc]; exact hla, by rw [ok.N]; exact hN⟩ G' ((ok.room Cold.out).mono hk) (by rw [ok.K]; exact hb) hd (fun σ => passAt ok.tk σ) (pt X ok.toOk) hs hl hp (pu X ok) hq
  · refine runs_seq (t := tDrop fun σ H Q => ∃ x dx fs, σ[0]? = some (some (V.ref x)) ∧ H x = some (.ins (C.T.cl q) dx fs) ∧ t σ H fun vs H1 => sp (.ref x :: (vs ++ dvs)) H1 Q (WE C.W σ)) (fun σ w ρ m D o W E e0 pp => ?_) ru
    simp only [evS, evE] at e0
    split at e0
    · rename_i kk ek
      obtain ⟨v0, s0, r0⟩ := E.2 0 _ ek
      cases r0 with
      | @res a _ hal =>
        by_cases hc : clsD m (.res kk) = some q
        · rw [if_pos hc] at e0
          simp only [clsD] at hc
          split at hc
          · rename_i c fs hm
            cases hc
            obtain ⟨dx, vfs, hH, _, _⟩ := W.ok kk a _ hal hm
            refine ⟨a, dx, vfs, s0, hH, ?_⟩
            rcases bndS_some e0 with ⟨d, m1, e1, e2⟩ | ⟨x, m1, e1, rfl⟩
            · cases e2
              refine rt.bndN (Q := fun _ H1 => D.nx σ H1) W E e1 (fun w1 v1 x1 W1 r1 => pp w1 σ x1 W1 (E.on x1)) fun d2 m2 w2 v2 hl2 e3 x2 W2 r2 E2 p2 => imp (.ref a :: v2) _ _ _ (by rw [List.length_cons, hl2]) (spD_post W2 (.cons (.res (x2.leA _ _ hal)) r2) e3 p2)
            · refine rt.bndN (Q := fun _ H1 => D.nx σ H1) W E e1 (fun w1 cls dd x1 W1 r1 => pp w1 σ cls dd x1 W1 (E.on x1) r1) fun d2 m2 w2 v2 hl2 e3 x2 W2 r2 E2 p2 => imp (.ref a :: v2) _ _ _ (by rw [List.length_cons, hl2]) (spD_post W2 (.cons (.res (x2.leA _ _ hal)) r2) e3 p2)
          · cases hc
        · rw [if_neg hc] at e0
          cases e0
    · cases e0
end

/-! ### defs with the class's cell -/
structure FnDC (K : PySem.W.Frag) (x qual : Str) (st : Stmt) (f cda cc : Addr) (fd : FuncData) : Prop where
  ex : ∃ (oc : Value) (od : Option Addr) (dV kV doc pm : Value) (an : Option Addr) (ct : Value) (osl : Array (Option Value)),
    fd = PySem.W.ksFn x qual (defArgs st) (defBody st) (defScope st) dV kV doc pm an (.ref cda) ct cc ∧ K.lookup f = some ⟨oc, od, .func fd, osl⟩ ∧ PySem.W.codeIn K (.ref cda) qual = true
  cell : ∃ a b c v, K.lookup cc = some ⟨a, b, .cell v, c⟩
section
variable {C : Cs} [Cold C]
theorem body_C {sc : Scope} {qual : Str} {body : List Stmt} {f cc : Addr} {cd : Value} {N ps : List Str} {b : Ss} {fz : Bool} (S : FnScopeC N ps sc) (hnm : C.g.nm = C.T.nm) (hb : ∀ E : XK, DSA (C.atS N sc E) body body (evSs C.g b)) (hc : C.cells = []) (hh : ∀ L, C.hold (envS qual sc L f cd cc)) (hany : C.any = false)
    {A : Around} {outer : List Env} {s : Shared} {H : Hp} {vs : List V} {Q : VK} {E : XK} (hr : Room C.L (A.deeper (envS qual sc s.heap.objs.size f cd cc))) (h : spD C.T (runD C.g N.length b fz) vs H Q E) :
    ∃ t, PSA (cxC C.P C.w C.T.K C.mg C.base N qual sc f cd cc A outer s H E) body body t ∧ t { nx := fun _ H' => Q .non H', rt := Q } (L2.start N vs) H := by
  obtain ⟨t, pt, rt⟩ := hb E
  obtain ⟨w, ds, m, o, rfl, W, r, e, p⟩ := h
  refine ⟨t, pt _ ⟨⟨rfl, rfl, rfl, rfl, rfl, rfl, rfl, S.nd, (fun _ => rfl), (fun _ => hr), takes_of rfl rfl rfl rfl, rfl, hh _, fun p hp => (by rw [show (C.atS N sc E).cells = [] from hc] at hp; cases hp), un_of hr, noEx, fun _ => ⟨rfl, rfl⟩, fun z => by rw [show (C.atS N sc E).any = false from hany] at z; cases z⟩, passes_of rfl, fun _ => ⟨rfl, rfl, rfl⟩⟩, ?_⟩
  unfold runD at e
  cases e1 : evSs C.g b (ds.map some ++ List.replicate (N.length - ds.length) none) m with
  | none => rw [e1] at e; cases e
  | some o1 =>
    rw [e1] at e
    refine rt _ w _ m _ o1 W (start_er r) e1 ?_
    have go : ∀ (d : Dv.D) (m' : List R) (w' : Wd) (v : V), (if fz then fin C.g.nm m m' d else some (Rs.ok d m')) = some o → Ext w w' → Wf C.T w' m' → Rep C.T w'.Hs w'.al v d → Q v w'.H := fun d m' w' v e x' W' r' => by
      cases fz with
      | true =>
        rw [if_pos rfl, hnm] at e
        obtain ⟨d2, m2, w2, rfl, hH, x2, W2, r2⟩ := fin_rep W x' W' r' e
        rw [← hH]
        exact p w2 v x2 W2 r2
      | false =>
        rw [if_neg Bool.false_ne_true] at e
        cases e
        exact p w' v x' W' r'
    cases o1 with
    | rt d m' => exact fun w' v x' W' r' => go d m' w' v e x' W' r'
    | nx ρ m' => exact fun w' σ x' W' _ => go .non m' w' .non e x' W' .non
    | ex x ρ m' =>
      cases e
      exact fun w' σ cls dd x' W' _ rx => p w' cls dd x' W' rx
    | bk ρ m' => cases e
    | ct ρ m' => cases e
end
theorem def_okC (C : Cs) [Cold C] {x qual : Str} {st : Stmt} {f cda cc : Addr} {fd : FuncData} {N ps : List Str} {b : Ss} {fz : Bool} (F : FnDC C.T.K x qual st f cda cc fd) (S : FnScopeC N ps (defScope st)) (hnm : C.g.nm = C.T.nm) (hb : ∀ E : XK, DSA (C.atS N (defScope st) E) (defBody st) (defBody st) (evSs C.g b))
    (hh : ∀ L, C.hold (envS qual (defScope st) L f (.ref cda) cc)) (hc : C.cells = [] := by rfl) (hany : C.any = false := by rfl) :
    FnOk C.P C.w C.T.K C.mg C.base (L2N.CX C.P C.w) (C.L + 1) f fd ps (fun vs H Q E => vs.length = ps.length ∧ spD C.T (runD C.g N.length b fz) vs H Q E) := by
  obtain ⟨oc, od, dV, kV, doc, pm, an, ct, osl, rfl, lk, hcd⟩ := F.ex
  refine ⟨fun vs H Q E h => h.1, fun A outer s H args us vs Q E hr e0 hbi r hsp => ?_⟩
  refine run_C (G := fun xs H2 => xs = vs ∧ H2 = H) lk hcd F.cell S hr e0 (fun A' Ex Q' h => hbi _ _ _ _ (h s H vs us e0 Un.refl rfl (fun _ _ z => z) r hsp.1 ⟨rfl, rfl⟩)) fun s2 H2 xs g hr' => ?_
  obtain ⟨rfl, rfl⟩ := g
  exact body_C S hnm hb hc hh hany hr' hsp.2
theorem def_okCS (C : Cs) [Cold C] {x qual : Str} {st : Stmt} {f cda cc : Addr} {fd : FuncData} {N ps : List Str} {pv : Str} {b : Ss} {fz : Bool} (F : FnDC C.T.K x qual st f cda cc fd) (S : FnScopeC N (ps ++ [pv]) (defScope st)) (hnm : C.g.nm = C.T.nm) (hb : ∀ E : XK, DSA (C.atS N (defScope st) E) (defBody st) (defBody st) (evSs C.g b))
    (hbi : ∀ us rest : List Value, us.length = ps.length → bindArgs fd ⟨us ++ rest, []⟩ = (newTuple rest >>= fun t => pure (ps.zip us ++ [(pv, t)]))) (hh : ∀ L, C.hold (envS qual (defScope st) L f (.ref cda) cc)) (hc : C.cells = [] := by rfl) (hany : C.any = false := by rfl) :
    FnR C.P C.w C.T.K C.mg C.base (L2N.CX C.P C.w) (C.L + 1) f (spStar ps.length fun vs H Q E => vs.length = (ps ++ [pv]).length ∧ spD C.T (runD C.g N.length b fz) vs H Q E) := by
  obtain ⟨oc, od, dV, kV, doc, pm, an, ct, osl, rfl, lk, hcd⟩ := F.ex
  intro A outer s H us vs Q E hr e0 r hsp
  obtain ⟨ws, rest, rfl, hl, hz, hq⟩ := hsp
  obtain ⟨ua, ub, rfl, ra, rb⟩ := StX.vals_split r
  have fresh : H s.heap.objs.size = none := e0.hok.fresh (Nat.le_refl _)
  have la : ua.length = ps.length := by
    rw [← hl]
    exact ra.length.symm
  have lb : ub.length ≤ sizeLine := by
    rw [rb.length] at hz
    exact hz
  refine run_C (G := fun xs H2 => ∃ p o, H p = none ∧ PTo o ∧ xs = ws ++ [V.ref p] ∧ H2 = upd H p (.frz o (.tup rest))) lk hcd F.cell S hr e0 (fun A' Ex Q' h => ?_) fun s2 H2 xs g hr' => ?_
  · rw [hbi ua ub la]
    refine wpAny_bind (wpAny_newTuple (wpAny_pure ?_) lb)
    have okT : ObjOk C.P C.w (upd H s.heap.objs.size (.frz ({ cls := .type "tuple", data := .seq ub.toArray } : Obj) (.tup rest))) (s.heap.push ({ cls := .type "tuple", data := .seq ub.toArray } : Obj)) s.heap.objs.size (.frz ({ cls := .type "tuple", data := .seq ub.toArray } : Obj) (.tup rest)) :=
      ⟨Heap.get?_push_size _ rfl, hz, ub, rb, IsTup.new _ _⟩
    have un := StX.un_laid (fs := frs outer) (s := s) (o := ({ cls := .type "tuple", data := .seq ub.toArray } : Obj)) (u := .frz ({ cls := .type "tuple", data := .seq ub.toArray } : Obj) (.tup rest)) fresh
    have lens : (ws ++ [V.ref s.heap.objs.size]).length = (ps ++ [pv]).length := by
      rw [List.length_append, List.length_append, hl]
      rfl
    have fin := h _ _ (ws ++ [V.ref s.heap.objs.size]) (ua ++ [Value.ref s.heap.objs.size]) (StX.env0_laid e0 okT) un rfl (fun e s' => cxUpN outer s H _ _ E e s' un (fun b o q => Heap.get?_push_of_some _ q) rfl) (ra.append (.cons rfl .nil)) lens ⟨_, _, fresh, ⟨ub, rfl⟩, rfl, rfl⟩
    rw [List.zip_append la.symm] at fin
    exact fin
  · obtain ⟨p, o, hp, ho, rfl, rfl⟩ := g
    exact body_C S hnm hb hc hh hany hr' (hq p o hp ho).2
/-! ### a class whose __init__ has a star parameter, made -/
noncomputable def MkS (C : Cs) (x : Str) (c i : Nat) : Prop := ∃ (k : Nat) (f : Addr), FnR C.P C.w C.T.K C.mg C.base (L2N.CX C.P C.w) k f (spStar 1 fun vs H Q E => vs.length = 2 ∧ spD C.T (C.g.F i) vs H Q E) ∧ k + 1 ≤ C.L ∧ C.mg x = some (.ref (C.T.cl c)) ∧ Mk C.T.K (C.T.cl c) f
theorem run_mkS {X : Cx} {CX : CXT} {k : Nat} {f c : Addr} {sp : Sp} {E : L2.St → XK} {pins : List (Addr × Obj)} {σ : L2.St} {H : Hp} {s : Shared} {Q : VK} {us : List Value} {vs : List V} (M : Mk X.K c f)
    (F : FnR X.prog X.w X.K X.mg X.base CX k f sp) (hr : Room (k + 1) X.A) (hx : PassesAt CX X σ (E σ)) (I : Inv X pins σ H s) (r : Vals vs us)
    (h : ∀ x dx, H x = none → H dx = none → dx ≠ x → sp (.ref x :: vs) (upd (upd H dx (.own x)) x (.ins c dx [])) (fun v H2 => v = .non ∧ Q (.ref x) H2) (E σ)) :
    wpAny (model X.prog X.w) X.A (call (.ref c) us) (EP X pins σ Q) X.xe s := by
  have n1 : H (s.heap.objs.size + 1) = none := I.hok.fresh (Nat.le_succ _)
  have n2 : H s.heap.objs.size = none := I.hok.fresh (Nat.le_refl _)
  have q0 := h _ _ n1 n2 (Nat.ne_of_lt (Nat.lt_succ_self _))
  have J := Inv.made (C := c) I
  have rr : Vals (V.ref (s.heap.objs.size + 1) :: vs) (Value.ref (s.heap.objs.size + 1) :: us) := .cons rfl r
  refine wpAny_call (make_map (f := f) I.kIn M.makes M.init (beq_iff_eq.mp M.fn) (codeAny_mono (F _ X.stack _ _ (Value.ref (s.heap.objs.size + 1) :: us) _ _ (E σ) (hr.make c us []) (J.env0.make c us []) rr q0) fun res s2 hq => ?_))
  cases res with
  | error e => exact hx pins _ _ e s2 J hq
  | ok fl =>
    cases fl with
    | ret u =>
      obtain ⟨v, H2, J2, rv, ev, q⟩ := J.after hq
      subst ev
      exact ⟨rv, .ref (s.heap.objs.size + 1), H2, J2, rfl, q⟩
    | next => exact hq.elim
    | brk => exact hq.elim
    | cont => exact hq.elim
noncomputable def tMkS (c : Addr) (sp : Sp) (E : L2.St → XK) (t : TA) : TE := fun σ H Q => t σ H fun vs H1 => ∀ x dx, H1 x = none → H1 dx = none → dx ≠ x →
  sp (.ref x :: vs) (upd (upd H1 dx (.own x)) x (.ins c dx [])) (fun v H2 => v = .non ∧ Q (.ref x) H2) (E σ)
theorem upd_swap {H : Hp} {a b : Addr} {x y : HO} (h : a ≠ b) : upd (upd H a x) b y = upd (upd H b y) a x := by
  funext z
  by_cases z1 : z = a
  · subst z1
    rw [upd_ne h, upd_same, upd_same]
  · by_cases z2 : z = b
    · subst z2
      rw [upd_same, upd_ne z1, upd_same]
    · rw [upd_ne z2, upd_ne z1, upd_ne z1, upd_ne z2]
theorem mkS_pack (g : Gt) (xs : Es) (ρ : Ro) (m : List R) (F : List Dv.D → List R → Option Rs) : bndL (evL g (.cons (.tup xs) .nil) ρ m) F = bndL (evL g xs ρ m) fun ds m => if ds.length ≤ sizeLine then F [.tup ds] m else none := by
  simp only [evL, evE]
  cases evL g xs ρ m with
  | none => rfl
  | some o =>
    cases o with
    | ex z m1 => rfl
    | ok ds m1 =>
      dsimp only [bndL]
      by_cases h : ds.length ≤ sizeLine
      · rw [if_pos h, if_pos h]; rfl
      · rw [if_neg h, if_neg h]; rfl
section
variable {C : Cs}
/-- what is made of the star parameter's tuple -/
theorem mkS_post {i c : Nat} {fz : Bool} {w : Wd} {v1 : List V} {d : List Dv.D} {m1 : List R} {o : Rs} {Q : VK} {E : XK} (hnm : C.g.nm = C.T.nm) (W1 : Wf C.T w m1) (r1 : RepL C.T w.Hs w.al v1 d) (hl : v1.length ≤ sizeLine) (e : mkD C.g.nm fz (C.g.F i) c [.tup d] m1 = some o) (p1 : PostC C.T w Q E o) {x dx : Addr} (hx : w.H x = none) (hdx : w.H dx = none) (ne : dx ≠ x) :
    spStar 1 (fun vs H Q E => vs.length = 2 ∧ spD C.T (C.g.F i) vs H Q E) (.ref x :: v1) (upd (upd w.H dx (.own x)) x (.ins (C.T.cl c) dx [])) (fun v H2 => v = .non ∧ Q (.ref x) H2) E := by
  refine ⟨[.ref x], v1, rfl, rfl, hl, fun p o2 hp ho => ⟨rfl, ?_⟩⟩
  have np1 : p ≠ x := fun z => by
    rw [z, upd_same] at hp
    cases hp
  have np2 : p ≠ dx := fun z => by
    rw [z, upd_ne ne, upd_same] at hp
    cases hp
  have hp0 : w.H p = none := by
    rw [upd_ne np1, upd_ne np2] at hp
    exact hp
  obtain ⟨W2, x2⟩ := W1.fz (.frz o2 (.tup v1)) hp0
  have hs : SqN (upd w.Hs p (.frz o2 (.tup v1))) p v1 := by
    exact ⟨o2, by rw [upd_same], ho⟩
  have rt : Rep C.T (upd w.Hs p (.frz o2 (.tup v1))) w.al (.ref p) (.tup d) := .tup hs (r1.on x2)
  have q := mk_post (T := C.T) (g := C.g) (w := w.fz p (.frz o2 (.tup v1))) (x := x) (dx := dx) hnm W2 (.cons rt .nil) e (p1.on x2 W2) (by show upd w.H p _ x = none; rw [upd_ne (Ne.symm np1)]; exact hx) (by show upd w.H p _ dx = none; rw [upd_ne (Ne.symm np2)]; exact hdx) ne
  have eq : upd (upd (upd w.H dx (.own x)) x (.ins (C.T.cl c) dx [])) p (.frz o2 (.tup v1)) = upd (upd (upd w.H p (.frz o2 (.tup v1))) dx (.own x)) x (.ins (C.T.cl c) dx []) := by
    rw [upd_swap (Ne.symm np1), upd_swap (a := dx) (b := p) (Ne.symm np2)]
  rw [eq]
  exact q
theorem de_mks [Cold C] {x : Str} {c i : Nat} {fz : Bool} {e : Expr} {es : List Expr} {xs : Es} {p pos : Pos} (M : MkS C x c i) (hnm : C.g.nm = C.T.nm) (hn : ∀ ds m, C.g.new c ds m = mkD C.g.nm fz (C.g.F i) c ds m) (hg : C.sc.names.lookup x = some .globalImplicit) (ha : DA C (e :: es) (evL C.g xs)) (hs : (e :: es).all noStar = true) (hdb : (x == ("__debug__" : Str)) = false) :
    DE C (.Call (.Name x p) (e :: es) [] pos) (evE C.g (.mk c (.cons (.tup xs) .nil))) := by
  obtain ⟨k, f, F, hk, hm, M⟩ := M
  obtain ⟨t, pt, rt⟩ := ha
  rw [List.all_cons, Bool.and_eq_true] at hs
  refine ⟨tMkS (C.T.cl c) (spStar 1 fun vs H Q E => vs.length = 2 ∧ spD C.T (C.g.F i) vs H Q E) (WE C.W) t, fun X ok => ⟨fun pins s σ H Q I hh => ?_⟩, fun σ w ρ m Q oo W E e0 pp => ?_⟩
  · have F' : FnR X.prog X.w X.K X.mg X.base (L2N.CX X.prog X.w) k f (spStar 1 fun vs H Q E => vs.length = 2 ∧ spD C.T (C.g.F i) vs H Q E) := by rw [ok.prog, ok.w, ok.K, ok.mg, ok.base]; exact F
    have M' : Mk X.K (C.T.cl c) f := by rw [ok.K]; exact M
    refine wpAny_Call_Name_kw (ld_glob I (show X.env.scope.names.lookup x = some .globalImplicit by rw [ok.sc]; exact hg) (by rw [ok.mg]; exact hm) ?_ hdb)
    exact PySem.W.callWith_K (h₀ := X.base) I.ok.mod.kin M'.kp (thn ((pt X ok).run pos pins s σ H _ I hh) fun us s1 ⟨vs, H1, I1, r, q⟩ => ⟨I1.kIn, run_mkS M' F' ((ok.room Cold.out).mono hk) (passAt ok.tk σ) I1 r q⟩) (star1 hs.1 es _) (stars hs.2)
  · simp only [evE] at e0
    rw [mkS_pack] at e0
    refine rt.bndN W E e0 pp fun d m1 w1 v1 hl e1 x1 W1 r1 E1 p1 => fun x dx hx hdx ne => ?_
    by_cases hz : d.length ≤ sizeLine
    · rw [if_pos hz, hn] at e1
      exact mkS_post hnm W1 r1 (by rw [r1.length]; exact hz) e1 p1 hx hdx ne
    · rw [if_neg hz] at e1
      cases e1
/-- .. without arguments -/
theorem de_mks0 [Cold C] {x : Str} {c i : Nat} {fz : Bool} {p pos : Pos} (M : MkS C x c i) (hnm : C.g.nm = C.T.nm) (hn : ∀ ds m, C.g.new c ds m = mkD C.g.nm fz (C.g.F i) c ds m) (hg : C.sc.names.lookup x = some .globalImplicit) (hdb : (x == ("__debug__" : Str)) = false) :
    DE C (.Call (.Name x p) [] [] pos) (evE C.g (.mk c (.cons (.tup .nil) .nil))) := by
  obtain ⟨k, f, F, hk, hm, M⟩ := M
  refine ⟨tMkS (C.T.cl c) (spStar 1 fun vs H Q E => vs.length = 2 ∧ spD C.T (C.g.F i) vs H Q E) (WE C.W) tNil, fun X ok => ⟨fun pins s σ H Q I hh => ?_⟩, fun σ w ρ m Q oo W E e0 pp => ?_⟩
  · have F' : FnR X.prog X.w X.K X.mg X.base (L2N.CX X.prog X.w) k f (spStar 1 fun vs H Q E => vs.length = 2 ∧ spD C.T (C.g.F i) vs H Q E) := by rw [ok.prog, ok.w, ok.K, ok.mg, ok.base]; exact F
    have M' : Mk X.K (C.T.cl c) f := by rw [ok.K]; exact M
    refine wpAny_Call_Name_kw (ld_glob I (show X.env.scope.names.lookup x = some .globalImplicit by rw [ok.sc]; exact hg) (by rw [ok.mg]; exact hm) ?_ hdb)
    exact PySem.W.callWith_K0 I.kIn M'.kp (run_mkS (us := []) M' F' ((ok.room Cold.out).mono hk) (passAt ok.tk σ) I .nil hh)
  · simp only [evE] at e0
    rw [mkS_pack] at e0
    simp only [evL, bndL, List.length_nil, Nat.zero_le, if_true] at e0
    rw [hn] at e0
    exact fun x dx hx hdx ne => mkS_post hnm W .nil (Nat.zero_le _) e0 pp hx hdx ne
/-- a class without arguments, made -/
theorem de_mk0 [Cold C] {x : Str} {c i : Nat} {fz : Bool} {p pos : Pos} (M : MkE C x c 0 i) (hnm : C.g.nm = C.T.nm) (hn : ∀ ds m, C.g.new c ds m = mkD C.g.nm fz (C.g.F i) c ds m) (hg : C.sc.names.lookup x = some .globalImplicit) (hdb : (x == ("__debug__" : Str)) = false) :
    DE C (.Call (.Name x p) [] [] pos) (evE C.g (.mk c .nil)) := by
  obtain ⟨k, f, fd, ps, sp, ds, dvs, F, hk, hm, M, hb, hd, imp⟩ := M
  refine ⟨tMkSD (C.T.cl c) sp dvs (WE C.W) tNil, fun X ok => ⟨fun pins s σ H Q I hh => ?_⟩, fun σ w ρ m Q oo W E e0 pp => ?_⟩
  · have F' : FnOk X.prog X.w X.K X.mg X.base (L2N.CX X.prog X.w) k f fd ps sp := by rw [ok.prog, ok.w, ok.K, ok.mg, ok.base]; exact F
    have M' : Mk X.K (C.T.cl c) f := by rw [ok.K]; exact M
    refine wpAny_Call_Name_kw (ld_glob I (show X.env.scope.names.lookup x = some .globalImplicit by rw [ok.sc]; exact hg) (by rw [ok.mg]; exact hm) ?_ hdb)
    exact PySem.W.callWith_K0 I.kIn M'.kp (run_mkSD (us := []) M' F' ((ok.room Cold.out).mono hk) (by rw [ok.K]; exact hb) hd (passAt ok.tk σ) I .nil hh)
  · simp only [evE, evL, bndL] at e0
    rw [hn] at e0
    exact fun x dx hx hdx ne => imp [.ref x] _ _ _ rfl (mk_post (g := C.g) hnm W .nil e0 pp hx hdx ne)
end

theorem supE_of {C : Cs} {q i k n : Nat} {f cda cc g : Addr} {fd gd : FuncData} {a0 : Str} {ps : List Str} {F : List Dv.D → List R → Option Rs} {ds : List Value} {dvs : List V} {dds : List Dv.D} (S : SupF C.T.K C.P C.mg f cda cc (C.T.cl q) g fd a0) (hN : C.N[0]? = some a0) (hla : C.sc.names.lookup a0 = some .local)
    (hold : ∀ env, C.hold env → env.func = some f ∧ env.code = .ref cda ∧ env.cells.lookup ("__class__" : Str) = some cc) (G : FnOk C.P C.w C.T.K C.mg C.base (L2N.CX C.P C.w) k g gd ps (fun vs H Q E => vs.length = ps.length ∧ spD C.T F vs H Q E)) (hk : k ≤ C.L)
    (hb : Binds C.T.K gd ps ds) (hd : Vals dvs ds) (hdd : ∀ Hs al, RepL C.T Hs al dvs dds) (hn : n + 1 + dds.length = ps.length) (hg : ∀ as m, as.length = n + 1 → C.g.F i as m = F (as ++ dds) m) : SupE C q n i := by
  refine ⟨f, cda, cc, g, fd, gd, a0, k, ps, _, ds, dvs, S, hN, hla, hold, G, hk, hb, hd, fun vs H Q E hl h => ?_⟩
  obtain ⟨w, as, m, o, rfl, W, r, e, p⟩ := h
  have l1 := r.length
  have l2 := (hdd w.Hs w.al).length
  refine ⟨by rw [List.length_append]; omega, w, as ++ dds, m, o, rfl, W, r.append (hdd _ _), ?_, p⟩
  rw [← hg as m (by omega)]
  exact e
end Dv

namespace Dv
open PySem
open L2 hiding Takes XE CX MkP PMk ps_raise ps_try_as ps_try_many HdsOk takes_of passAt passes_call mk_of pmk_own
open L2N (Takes XE CX MkP PMk ps_raise ps_try_as ps_try_many HdsOk takes_of passAt passes_call mk_of pmk_own Zn Zn.steady)
/-! more of dicts, targets of attributes and items, step by step -/
theorem q_eqE (m : List R) (xs : List D) : copD .eqE m (.tup xs) (.tup []) = some xs.isEmpty := rfl
end Dv

namespace Dv
open PySem
open L2 hiding Takes XE CX MkP PMk ps_raise ps_try_as ps_try_many HdsOk takes_of passAt passes_call mk_of pmk_own
open L2N (Takes XE CX MkP PMk ps_raise ps_try_as ps_try_many HdsOk takes_of passAt passes_call mk_of pmk_own Zn Zn.steady)
/-! try .. except .. raise, classmethods, step by step -/
/-! ### try: b, except X: h, .. -/
/-! ### list(d); == of dicts -/
/-! ### {k: v}; len(d) -/
end Dv

namespace Dv
open PySem
open L2 hiding Takes XE CX MkP PMk ps_raise ps_try_as ps_try_many HdsOk takes_of passAt passes_call mk_of pmk_own
open L2N (Takes XE CX MkP PMk ps_raise ps_try_as ps_try_many HdsOk takes_of passAt passes_call mk_of pmk_own Zn Zn.steady)
/-! bits, divmod, sets of texts, reversed, walks over items, super: step by step -/
section
variable (g : Gt) (ρ : Ro) (m : List R)
noncomputable def mapK (m : List R) : Option D → Option Rs
  | some d => some (.ok d m)
  | none => none
theorem mapK_ok (d : D) : mapK m (some d) = some (.ok d m) := rfl
noncomputable def dvmD : D → D → Option D
  | .int i, .int j => if 0 < j ∧ j < 2 ^ 64 then some (.tup [.int (i / j), .int (i % j)]) else none
  | _, _ => none
theorem x_dvm (a b : E) : evE g (.dvm a b) ρ m = bnd (evE g a ρ m) fun x m => bnd (evE g b ρ m) fun y m => mapK m (dvmD x y) := by
  rw [evE]
  congr 1; funext x m; congr 1; funext y m
  cases x with
  | int i =>
    cases y with
    | int j =>
      simp only [dvmD]
      by_cases h : 0 < j ∧ j < 2 ^ 64
      · rw [if_pos h, if_pos h]; rfl
      · rw [if_neg h, if_neg h]; rfl
    | _ => rfl
  | _ => rfl
theorem q_dvm (i j : Int) (h1 : 0 < j) (h2 : j < 18446744073709551616) : dvmD (.int i) (.int j) = some (.tup [.int (i / j), .int (i % j)]) := if_pos ⟨h1, h2⟩
theorem x_isc (a : E) (q : Nat) : evE g (.isc a q) ρ m = bnd (evE g a ρ m) fun x m => okB m ((clsD m x).bind fun c => g.isc c q) := by rw [evE]
noncomputable def spiK (f : Nat → Option Rs) : Option (Option D) → Option Rs
  | some (some (.res k)) => f k
  | _ => none
theorem spiK_ok (f : Nat → Option Rs) (k : Nat) : spiK f (some (some (.res k))) = f k := rfl
noncomputable def spcK (q : Nat) (r : Option Rs) : Option Nat → Option Rs
  | some c => if c = q then r else none
  | none => none
theorem spcK_ok (q : Nat) (r : Option Rs) : spcK q r (some q) = r := if_pos rfl
theorem spcK_eq (q : Nat) (r : Option Rs) (c : Option Nat) : spcK q r c = if c = some q then r else none := by
  cases c with
  | none => exact (if_neg (fun h => by cases h)).symm
  | some c =>
    by_cases h : c = q
    · subst h; exact (if_pos rfl).trans (if_pos rfl).symm
    · exact (if_neg h).trans (if_neg fun e => h (Option.some.inj e)).symm
theorem x_spi (i q : Nat) (es : Es) : evE g (.spi i q es) ρ m = spiK (fun k => spcK q (bndL (evL g es ρ m) fun ds m => g.F i (.res k :: ds) m) (clsD m (.res k))) ρ[(0 : Nat)]? := by
  simp only [spcK_eq]
  rw [evE]
  all_goals (cases ρ[(0 : Nat)]? with
    | none => rfl
    | some o =>
      cases o with
      | none => rfl
      | some d => cases d <;> rfl)
end
end Dv

namespace Mt
variable {α β : Type}
theorem get_ex {l : List α} {i n : Nat} (hl : l.length = n) (hi : i < n) : ∃ x, l[i]? = some x := ⟨_, List.getElem?_eq_getElem (by omega)⟩
/-! ### one mug put under d others; a sink put back; a wash -/
noncomputable def ins (d : Nat) (x : α) (l : List α) : List α := l.take d ++ x :: l.drop d
noncomputable def putB (acc : List α) : List (α × Nat) → List α
  | [] => acc
  | (x, d) :: r => putB (ins d x acc) r
noncomputable def wash (h : List Nat) (xs : List α) : List α := putB (xs.drop h.length) ((xs.take h.length).zip h)
/-! ### permutations of places -/
noncomputable def IsP (n : Nat) (ps : List Nat) : Prop := ps.Perm (List.range n)
theorem IsP.len {n : Nat} {ps : List Nat} (h : IsP n ps) : ps.length = n := by
  have := List.Perm.length_eq h
  rwa [List.length_range] at this
theorem IsP.lt {n : Nat} {ps : List Nat} (h : IsP n ps) {p : Nat} (hp : p ∈ ps) : p < n := List.mem_range.mp ((List.Perm.mem_iff h).mp hp)
theorem IsP.mem {n : Nat} {ps : List Nat} (h : IsP n ps) {p : Nat} (hp : p < n) : p ∈ ps := (List.Perm.mem_iff h).mpr (List.mem_range.mpr hp)
theorem IsP.nd {n : Nat} {ps : List Nat} (h : IsP n ps) : ps.Nodup := (List.Perm.nodup_iff h).mpr List.nodup_range
theorem IsP.range (n : Nat) : IsP n (List.range n) := List.Perm.refl _
/-- at which place each number stands -/
noncomputable def inv (ps : List Nat) : List Nat := (List.range ps.length).map fun p => ps.idxOf p
/-! ### the map of a wash -/
noncomputable def mp (n : Nat) (h : List Nat) : List Nat := inv (wash h (List.range n))
/-! ### a map many times -/
noncomputable def itr (ps : List Nat) : Nat → Nat → Nat
  | 0, p => p
  | k + 1, p => ps[itr ps k p]?.getD 0
/-- a map many times -/
noncomputable def pow (ps : List Nat) (t : Nat) : List Nat := (List.range ps.length).map fun p => itr ps t p
/-! ### washers take turns -/
noncomputable def rr (hs : List (List Nat)) (t : Nat) : List (List Nat) := (List.replicate (t / hs.length) hs).flatten ++ hs.take (t % hs.length)
end Mt

namespace K31
open PySem PySem.Spec PyProof.Rows L2 Dv
noncomputable def top (i : Nat) : Stmt := PySem.Challenge.pw_borrowedmugs_k31_habits_of_washers.main.body.getD i (.Pass ⟨0, 0, 0, 0⟩)
/-! ### is_name -/
/-! ### is_habit -/
noncomputable abbrev s_is_habit : Stmt := top 22
noncomputable def N_is_habit : List Str := ["count", "size", "habit", "index", "depth"]
theorem sc_is_habit : FnScope N_is_habit ["count", "size", "habit"] (defScope s_is_habit) := ⟨rfl, rfl, rfl, by decide +kernel, rfl, by decide +kernel, by decide +kernel⟩
noncomputable def b_is_habit : Ss := (.cons (.ifs (.or (.cmp .ne (.bi .len false (.cons (.var 2) .nil)) (.var 1)) (.not (.chn .le .le (.cst (.int 1)) (.var 1) (.var 0)))) (.cons (.ret (.cst (.bl false))) .nil) .nil) (.cons (.ret (.bi .all false (.cons (.cmpr false (.chn .le .le (.cst (.int 0)) (.var 4) (.bop .add false (.bop .sub false (.var 0) (.var 1)) (.var 3))) (.tp (.cons (.nm 3) (.cons (.nm 4) .nil))) (.enu (.var 2)) (.cst (.bl true)) [3, 4]) .nil))) .nil))
theorem d_is_habit (C : Cs) [Cold C] (E : XK) (h_len : C.mg "len" = none) (h_enumerate : C.mg "enumerate" = none) (h_all : C.mg "all" = none) : DSs (C.at N_is_habit (defScope s_is_habit) E) (defBody s_is_habit) (evSs C.g b_is_habit) := by
  exact (dss_cons (ds_if (DW.dt (dw_or (dt_cmp (o := .ne) (de_bi (b := .len) (mu := false) rfl h_len (da_cons (de_v 2) da_nil rfl) rfl) (de_v 1) (by rfl)) (dw_or1 (dt_not (dt_chn (o := .le) (p := .le) de_int (de_v 1) (de_v 0) (by rfl)))))) (dss_cons (ds_ret de_bl)
  dss_nil) dss_nil)
  (dss_cons (ds_ret (de_bi (b := .all) (mu := false) rfl h_all (da_cons (de_lcE (own := [("index", 3), ("depth", 4)]) (mu := false) (by rfl) (di_enu rfl h_enumerate (de_v 2) rfl) (dg_tup (dgs_cons (dg_n 3) (dgs_cons (dg_n 4) dgs_nil (fun _ => rfl)) (fun _ => rfl)) (fun _ => rfl) (fun _ => rfl)) dts_nil (de_chn' (o := .le) (p := .le) de_int (de_v 4) (de_bop (o := .add) (mu := false) (de_bop (o := .sub) (mu := false) (de_v 0) (de_v 1)) (de_v 3)) (by rfl)) (by decide) (fun _ _ => rfl)) da_nil rfl) rfl))
  dss_nil))
/-! ### Kitchen___init__ -/
/-! ### Kitchen_mugs -/
/-! ### Kitchen_habits -/
/-! ### is_number -/
noncomputable abbrev s_is_number : Stmt := top 26
noncomputable def N_is_number : List Str := ["value", "low", "high"]
theorem sc_is_number : FnScope N_is_number ["value", "low", "high"] (defScope s_is_number) := ⟨rfl, rfl, rfl, by decide +kernel, rfl, by decide +kernel, by decide +kernel⟩
noncomputable def b_is_number : Ss := (.cons (.ret (.and (.isi (.var 0) [.int]) (.and (.not (.isi (.var 0) [.bool])) (.chn .le .le (.var 1) (.var 0) (.var 2))))) .nil)
theorem d_is_number (C : Cs) [Cold C] (E : XK) (h_isinstance : C.mg "isinstance" = none) (h_int : C.mg "int" = none) (h_bool : C.mg "bool" = none) : DSs (C.at N_is_number (defScope s_is_number) E) (defBody s_is_number) (evSs C.g b_is_number) := by
  exact (dss_cons (ds_ret (de_and (de_isi1 rfl h_isinstance rfl h_int (by decide +kernel) (by decide) (by decide) (de_v 0) rfl) (de_and (de_not (de_isi1 rfl h_isinstance rfl h_bool (by decide +kernel) (by decide) (by decide) (de_v 0) rfl)) (de_one (de_chn' (o := .le) (p := .le) (de_v 1) (de_v 0) (de_v 2) (by rfl))))))
  dss_nil)
/-! ### Washer___init__ -/
noncomputable abbrev s_Washer___init__ : Stmt := inClass (top 27) 0
noncomputable def N_Washer___init__ : List Str := ["self", "label", "rounds"]
theorem sc_Washer___init__ : FnScope N_Washer___init__ ["self", "label", "rounds"] (defScope s_Washer___init__) := ⟨rfl, rfl, rfl, by decide +kernel, rfl, by decide +kernel, by decide +kernel⟩
noncomputable def b_Washer___init__ : Ss := (.cons (.stf (.var 0) "label" (.var 1)) (.cons (.stf (.var 0) "rounds" (.var 2)) .nil))
theorem d_Washer___init__ (C : Cs) [Cold C] (E : XK) (hnm : C.g.nm = C.T.nm) (hA_label : AttOk C "label") (hA_rounds : AttOk C "rounds") : DSs (C.at N_Washer___init__ (defScope s_Washer___init__) E) (defBody s_Washer___init__) (evSs C.g b_Washer___init__) := by
  exact (dss_cons (ds_stf hA_label hnm (de_v 1) (de_v 0) (fun _ => rfl))
  (dss_cons (ds_stf hA_rounds hnm (de_v 2) (de_v 0) (fun _ => rfl))
  dss_nil))
/-! ### Washer_repeat_after -/
noncomputable abbrev s_Washer_repeat_after : Stmt := inClass (top 27) 1
noncomputable def N_Washer_repeat_after : List Str := ["self"]
theorem sc_Washer_repeat_after : FnScope N_Washer_repeat_after ["self"] (defScope s_Washer_repeat_after) := ⟨rfl, rfl, rfl, by decide +kernel, rfl, by decide +kernel, by decide +kernel⟩
noncomputable def b_Washer_repeat_after : Ss := (.cons (.ret (.att (.var 0) "rounds")) .nil)
theorem d_Washer_repeat_after (C : Cs) [Cold C] (E : XK) (hnm : C.g.nm = C.T.nm) (hA_rounds : AttOk C "rounds") : DSs (C.at N_Washer_repeat_after (defScope s_Washer_repeat_after) E) (defBody s_Washer_repeat_after) (evSs C.g b_Washer_repeat_after) := by
  exact (dss_cons (ds_ret (de_att hA_rounds hnm (de_v 0) rfl))
  dss_nil)
/-! ### Washer_depth -/
noncomputable abbrev s_Washer_depth : Stmt := inClass (top 27) 2
noncomputable def N_Washer_depth : List Str := ["self", "shelf_size", "index"]
theorem sc_Washer_depth : FnScope N_Washer_depth ["self", "shelf_size", "index"] (defScope s_Washer_depth) := ⟨rfl, rfl, rfl, by decide +kernel, rfl, by decide +kernel, by decide +kernel⟩
noncomputable def b_Washer_depth : Ss := (.cons (.ret (.cst (.int 0))) .nil)
theorem d_Washer_depth (C : Cs) [Cold C] (E : XK)  : DSs (C.at N_Washer_depth (defScope s_Washer_depth) E) (defBody s_Washer_depth) (evSs C.g b_Washer_depth) := by
  exact (dss_cons (ds_ret de_int)
  dss_nil)
/-! ### Washer_habit_for -/
noncomputable abbrev s_Washer_habit_for : Stmt := inClass (top 27) 3
noncomputable def N_Washer_habit_for : List Str := ["self", "count", "size", "wash", "habit"]
theorem sc_Washer_habit_for : FnScope N_Washer_habit_for ["self", "count", "size", "wash"] (defScope s_Washer_habit_for) := ⟨rfl, rfl, rfl, by decide +kernel, rfl, by decide +kernel, by decide +kernel⟩
noncomputable def b_Washer_habit_for : Ss := (.cons (.ifs (.or (.not (.cal 5 (.cons (.var 1) (.cons (.cst (.int 2)) (.cons (.cst (.int 12)) .nil))))) (.or (.not (.cal 5 (.cons (.var 2) (.cons (.cst (.int 1)) (.cons (.var 1) .nil))))) (.cmp .lt (.var 3) (.cst (.int 0))))) (.cons (.rse 103) .nil) .nil) (.cons (.asg (.nm 4) (.omt "habit_in" (.var 0) (.cons (.var 1) (.cons (.var 2) (.cons (.bop .mod false (.var 3) (.att (.var 0) "repeat_after")) .nil))))) (.cons (.ifs (.not (.cal 1 (.cons (.var 1) (.cons (.var 2) (.cons (.var 4) .nil))))) (.cons (.rse 104) .nil) .nil) (.cons (.ret (.var 4)) .nil))))
theorem d_Washer_habit_for (C : Cs) [Cold C] (E : XK) (hnm : C.g.nm = C.T.nm) (hC_Kitchen_MAX_MUGS : CvE C "Kitchen" "MAX_MUGS" (.int 12)) (hF_is_number : FnE C "is_number" 3 5) (hX_InvalidCount : ExcE C.T C.mg "InvalidCount" 103) (hB_habit_in_3 : MetOk C "habit_in" 3) (hA_repeat_after : AttOk C "repeat_after") (hF_is_habit : FnE C "is_habit" 3 1) (hX_InvalidHabit : ExcE C.T C.mg "InvalidHabit" 104) : DSs (C.at N_Washer_habit_for (defScope s_Washer_habit_for) E) (defBody s_Washer_habit_for) (evSs C.g b_Washer_habit_for) := by
  exact (dss_cons (ds_if (DW.dt (dw_or (dt_not (dt_val (de_cal hF_is_number rfl (da_cons (de_v 1) (da_cons de_int (da_cons (de_cval rfl hC_Kitchen_MAX_MUGS (by decide)) da_nil rfl) rfl) rfl) rfl (by decide)) (fun _ _ => rfl))) (dw_or (dt_not (dt_val (de_cal hF_is_number rfl (da_cons (de_v 2) (da_cons de_int (da_cons (de_v 1) da_nil rfl) rfl) rfl) rfl (by decide)) (fun _ _ => rfl))) (dw_or1 (dt_cmp (o := .lt) (de_v 3) de_int (by rfl)))))) (dss_cons (ds_rse hX_InvalidCount rfl (by decide))
  dss_nil) dss_nil)
  (dss_cons (ds_s 4 (de_met hB_habit_in_3 (de_v 0) (da_cons (de_v 1) (da_cons (de_v 2) (da_cons (de_bop (o := .mod) (mu := false) (de_v 3) (de_att hA_repeat_after hnm (de_v 0) rfl)) da_nil rfl) rfl) rfl) rfl rfl (by decide) rfl))
  (dss_cons (ds_if (dt_not (dt_val (de_cal hF_is_habit rfl (da_cons (de_v 1) (da_cons (de_v 2) (da_cons (de_v 4) da_nil rfl) rfl) rfl) rfl (by decide)) (fun _ _ => rfl))) (dss_cons (ds_rse hX_InvalidHabit rfl (by decide))
  dss_nil) dss_nil)
  (dss_cons (ds_ret (de_v 4))
  dss_nil))))
/-! ### Washer_habit_in -/
noncomputable abbrev s_Washer_habit_in : Stmt := inClass (top 27) 4
noncomputable def N_Washer_habit_in : List Str := ["self", "count", "size", "wash", "index"]
theorem sc_Washer_habit_in : FnScope N_Washer_habit_in ["self", "count", "size", "wash"] (defScope s_Washer_habit_in) := ⟨rfl, rfl, rfl, by decide +kernel, rfl, by decide +kernel, by decide +kernel⟩
noncomputable def b_Washer_habit_in : Ss := (.cons (.ret (.bi .tuple false (.cons (.cmpr false (.omt "depth" (.var 0) (.cons (.bop .add false (.bop .sub false (.var 1) (.var 2)) (.var 4)) (.cons (.var 4) .nil))) (.nm 4) (.rg1 (.var 2)) (.cst (.bl true)) [4]) .nil))) .nil)
theorem d_Washer_habit_in (C : Cs) [Cold C] (E : XK) (h_range : C.mg "range" = none) (hB_depth_2 : MetOk C "depth" 2) (h_tuple : C.mg "tuple" = none) : DSs (C.at N_Washer_habit_in (defScope s_Washer_habit_in) E) (defBody s_Washer_habit_in) (evSs C.g b_Washer_habit_in) := by
  exact (dss_cons (ds_ret (de_bi (b := .tuple) (mu := false) rfl h_tuple (da_cons (de_lcE (own := [("index", 4)]) (mu := false) (by rfl) (di_rg1 rfl h_range (de_v 2) rfl) (dg_n 4) dts_nil (de_met hB_depth_2 (de_v 0) (da_cons (de_bop (o := .add) (mu := false) (de_bop (o := .sub) (mu := false) (de_v 1) (de_v 2)) (de_v 4)) (da_cons (de_v 4) da_nil rfl) rfl) rfl rfl (by decide) rfl) (by decide) (fun _ _ => rfl)) da_nil rfl) rfl))
  dss_nil)
/-! ### TopWasher___init__ -/
noncomputable abbrev s_TopWasher___init__ : Stmt := inClass (top 28) 0
noncomputable def N_TopWasher___init__ : List Str := ["self"]
theorem sc_TopWasher___init__ : FnScopeC N_TopWasher___init__ ["self"] (defScope s_TopWasher___init__) := ⟨rfl, rfl, rfl, by decide +kernel, rfl, by decide +kernel, by decide +kernel, by decide +kernel, by decide +kernel⟩
noncomputable def b_TopWasher___init__ : Ss := (.cons (.expr (.spi 1006 2 (.cons (.cst (.str (Str.ofString "top"))) .nil))) .nil)
theorem d_TopWasher___init__ (C : Cs) [Cold C] (E : XK) (hSup : SupE (C.atS N_TopWasher___init__ (defScope s_TopWasher___init__) E) 2 1 1006) : DSA (C.atS N_TopWasher___init__ (defScope s_TopWasher___init__) E) (defBody s_TopWasher___init__) (defBody s_TopWasher___init__) (evSs C.g b_TopWasher___init__) := by
  exact (dsa_sup hSup rfl rfl (da_cons de_str da_nil rfl) rfl (by decide) rfl (fun _ => rfl)
  (dsa_of dss_nil))
/-! ### UnderWasher___init__ -/
noncomputable abbrev s_UnderWasher___init__ : Stmt := inClass (top 29) 0
noncomputable def N_UnderWasher___init__ : List Str := ["self"]
theorem sc_UnderWasher___init__ : FnScopeC N_UnderWasher___init__ ["self"] (defScope s_UnderWasher___init__) := ⟨rfl, rfl, rfl, by decide +kernel, rfl, by decide +kernel, by decide +kernel, by decide +kernel, by decide +kernel⟩
noncomputable def b_UnderWasher___init__ : Ss := (.cons (.expr (.spi 1006 3 (.cons (.cst (.str (Str.ofString "under"))) .nil))) .nil)
theorem d_UnderWasher___init__ (C : Cs) [Cold C] (E : XK) (hSup : SupE (C.atS N_UnderWasher___init__ (defScope s_UnderWasher___init__) E) 3 1 1006) : DSA (C.atS N_UnderWasher___init__ (defScope s_UnderWasher___init__) E) (defBody s_UnderWasher___init__) (defBody s_UnderWasher___init__) (evSs C.g b_UnderWasher___init__) := by
  exact (dsa_sup hSup rfl rfl (da_cons de_str da_nil rfl) rfl (by decide) rfl (fun _ => rfl)
  (dsa_of dss_nil))
/-! ### UnderWasher_depth -/
noncomputable abbrev s_UnderWasher_depth : Stmt := inClass (top 29) 1
noncomputable def N_UnderWasher_depth : List Str := ["self", "shelf_size", "index"]
theorem sc_UnderWasher_depth : FnScope N_UnderWasher_depth ["self", "shelf_size", "index"] (defScope s_UnderWasher_depth) := ⟨rfl, rfl, rfl, by decide +kernel, rfl, by decide +kernel, by decide +kernel⟩
noncomputable def b_UnderWasher_depth : Ss := (.cons (.ret (.var 1)) .nil)
theorem d_UnderWasher_depth (C : Cs) [Cold C] (E : XK)  : DSs (C.at N_UnderWasher_depth (defScope s_UnderWasher_depth) E) (defBody s_UnderWasher_depth) (evSs C.g b_UnderWasher_depth) := by
  exact (dss_cons (ds_ret (de_v 1))
  dss_nil)
/-! ### DepthWasher___init__ -/
noncomputable abbrev s_DepthWasher___init__ : Stmt := inClass (top 30) 0
noncomputable def N_DepthWasher___init__ : List Str := ["self", "level"]
theorem sc_DepthWasher___init__ : FnScopeC N_DepthWasher___init__ ["self", "level"] (defScope s_DepthWasher___init__) := ⟨rfl, rfl, rfl, by decide +kernel, rfl, by decide +kernel, by decide +kernel, by decide +kernel, by decide +kernel⟩
noncomputable def b_DepthWasher___init__ : Ss := (.cons (.expr (.spi 1006 4 (.cons (.cst (.str (Str.ofString "depth"))) .nil))) (.cons (.ifs (.not (.cal 5 (.cons (.var 1) (.cons (.cst (.int 0)) (.cons (.cst (.int (11))) .nil))))) (.cons (.rse 103) .nil) .nil) (.cons (.stf (.var 0) "level" (.var 1)) .nil)))
theorem d_DepthWasher___init__ (C : Cs) [Cold C] (E : XK) (hnm : C.g.nm = C.T.nm) (hSup : SupE (C.atS N_DepthWasher___init__ (defScope s_DepthWasher___init__) E) 4 1 1006) (hG_MAX_DEPTH : ∃ t, C.mg "MAX_DEPTH" = some (.int 11 t)) (hF_is_number : FnE C "is_number" 3 5) (hX_InvalidCount : ExcE C.T C.mg "InvalidCount" 103) (hA_level : AttOk C "level") : DSA (C.atS N_DepthWasher___init__ (defScope s_DepthWasher___init__) E) (defBody s_DepthWasher___init__) (defBody s_DepthWasher___init__) (evSs C.g b_DepthWasher___init__) := by
  exact (dsa_sup hSup rfl rfl (da_cons de_str da_nil rfl) rfl (by decide) rfl (fun _ => rfl)
  (dsa_cons (ds_if (dt_not (dt_val (de_cal hF_is_number rfl (da_cons (de_v 1) (da_cons de_int (da_cons (de_glob (v := .int (11)) rfl hG_MAX_DEPTH.choose_spec ⟨_, rfl⟩ (.int _) (by decide)) da_nil rfl) rfl) rfl) rfl (by decide)) (fun _ _ => rfl))) (dss_cons (ds_rse hX_InvalidCount rfl (by decide))
  dss_nil) dss_nil)
  (dsa_cons (ds_stf hA_level hnm (de_v 1) (de_v 0) (fun _ => rfl))
  (dsa_of dss_nil))))
/-! ### DepthWasher_depth -/
noncomputable abbrev s_DepthWasher_depth : Stmt := inClass (top 30) 1
noncomputable def N_DepthWasher_depth : List Str := ["self", "shelf_size", "index"]
theorem sc_DepthWasher_depth : FnScope N_DepthWasher_depth ["self", "shelf_size", "index"] (defScope s_DepthWasher_depth) := ⟨rfl, rfl, rfl, by decide +kernel, rfl, by decide +kernel, by decide +kernel⟩
noncomputable def b_DepthWasher_depth : Ss := (.cons (.ret (.bi .min false (.cons (.att (.var 0) "level") (.cons (.var 1) .nil)))) .nil)
theorem d_DepthWasher_depth (C : Cs) [Cold C] (E : XK) (hnm : C.g.nm = C.T.nm) (hA_level : AttOk C "level") (h_min : C.mg "min" = none) : DSs (C.at N_DepthWasher_depth (defScope s_DepthWasher_depth) E) (defBody s_DepthWasher_depth) (evSs C.g b_DepthWasher_depth) := by
  exact (dss_cons (ds_ret (de_bi (b := .min) (mu := false) rfl h_min (da_cons (de_att hA_level hnm (de_v 0) rfl) (da_cons (de_v 1) da_nil rfl) rfl) rfl))
  dss_nil)
/-! ### OwnWasher___init__ -/
noncomputable abbrev s_OwnWasher___init__ : Stmt := inClass (top 31) 0
noncomputable def N_OwnWasher___init__ : List Str := ["self", "depths"]
theorem sc_OwnWasher___init__ : FnScopeC N_OwnWasher___init__ ["self", "depths"] (defScope s_OwnWasher___init__) := ⟨rfl, rfl, rfl, by decide +kernel, rfl, by decide +kernel, by decide +kernel, by decide +kernel, by decide +kernel⟩
noncomputable def b_OwnWasher___init__ : Ss := (.cons (.expr (.spi 1006 5 (.cons (.cst (.str (Str.ofString "own"))) .nil))) (.cons (.stf (.var 0) "depths" (.var 1)) .nil))
theorem d_OwnWasher___init__ (C : Cs) [Cold C] (E : XK) (hnm : C.g.nm = C.T.nm) (hSup : SupE (C.atS N_OwnWasher___init__ (defScope s_OwnWasher___init__) E) 5 1 1006) (hA_depths : AttOk C "depths") : DSA (C.atS N_OwnWasher___init__ (defScope s_OwnWasher___init__) E) (defBody s_OwnWasher___init__) (defBody s_OwnWasher___init__) (evSs C.g b_OwnWasher___init__) := by
  exact (dsa_sup hSup rfl rfl (da_cons de_str da_nil rfl) rfl (by decide) rfl (fun _ => rfl)
  (dsa_cons (ds_stf hA_depths hnm (de_v 1) (de_v 0) (fun _ => rfl))
  (dsa_of dss_nil)))
/-! ### OwnWasher_habit_in -/
noncomputable abbrev s_OwnWasher_habit_in : Stmt := inClass (top 31) 1
noncomputable def N_OwnWasher_habit_in : List Str := ["self", "count", "size", "wash"]
theorem sc_OwnWasher_habit_in : FnScope N_OwnWasher_habit_in ["self", "count", "size", "wash"] (defScope s_OwnWasher_habit_in) := ⟨rfl, rfl, rfl, by decide +kernel, rfl, by decide +kernel, by decide +kernel⟩
noncomputable def b_OwnWasher_habit_in : Ss := (.cons (.ret (.att (.var 0) "depths")) .nil)
theorem d_OwnWasher_habit_in (C : Cs) [Cold C] (E : XK) (hnm : C.g.nm = C.T.nm) (hA_depths : AttOk C "depths") : DSs (C.at N_OwnWasher_habit_in (defScope s_OwnWasher_habit_in) E) (defBody s_OwnWasher_habit_in) (evSs C.g b_OwnWasher_habit_in) := by
  exact (dss_cons (ds_ret (de_att hA_depths hnm (de_v 0) rfl))
  dss_nil)
/-! ### TurnWasher___init__ -/
noncomputable abbrev s_TurnWasher___init__ : Stmt := inClass (top 32) 0
noncomputable def N_TurnWasher___init__ : List Str := ["self", "parts", "part"]
theorem sc_TurnWasher___init__ : FnScopeC N_TurnWasher___init__ ["self", "parts"] (defScope s_TurnWasher___init__) := ⟨rfl, rfl, rfl, by decide +kernel, rfl, by decide +kernel, by decide +kernel, by decide +kernel, by decide +kernel⟩
noncomputable def b_TurnWasher___init__ : Ss := (.cons (.ifs (.cmp .eqE (.var 1) (.tup .nil)) (.cons (.rse 103) .nil) .nil) (.cons (.expr (.spi 6 6 (.cons (.cst (.str (Str.ofString "turn"))) (.cons (.bop .mul false (.bi .len false (.cons (.var 1) .nil)) (.cal 20 (.cons (.cmpr false (.att (.var 2) "repeat_after") (.nm 2) (.seq (.var 1)) (.cst (.bl true)) [2]) .nil))) .nil)))) (.cons (.stf (.var 0) "parts" (.var 1)) .nil)))
theorem d_TurnWasher___init__ (C : Cs) [Cold C] (E : XK) (hnm : C.g.nm = C.T.nm) (hX_InvalidCount : ExcE C.T C.mg "InvalidCount" 103) (h_len : C.mg "len" = none) (hA_repeat_after : AttOk C "repeat_after") (hF_common_multiple : FnE C "common_multiple" 1 20) (hSup : SupE (C.atS N_TurnWasher___init__ (defScope s_TurnWasher___init__) E) 6 2 6) (hA_parts : AttOk C "parts") : DSA (C.atS N_TurnWasher___init__ (defScope s_TurnWasher___init__) E) (defBody s_TurnWasher___init__) (defBody s_TurnWasher___init__) (evSs C.g b_TurnWasher___init__) := by
  exact (dsa_cons (ds_if (dt_cmp (o := .eqE) (de_v 1) (de_tup da_nil) (by rfl)) (dss_cons (ds_rse hX_InvalidCount rfl (by decide))
  dss_nil) dss_nil)
  (dsa_sup hSup rfl rfl (da_cons de_str (da_cons (de_bop (o := .mul) (mu := false) (de_bi (b := .len) (mu := false) rfl h_len (da_cons (de_v 1) da_nil rfl) rfl) (de_cal hF_common_multiple rfl (da_cons (de_lcE (own := [("part", 2)]) (mu := false) (by rfl) (di_seq (de_v 1)) (dg_n 2) dts_nil (de_att hA_repeat_after hnm (de_v 2) rfl) (by decide) (fun _ _ => rfl)) da_nil rfl) rfl (by decide))) da_nil rfl) rfl) rfl (by decide) rfl (fun _ => rfl)
  (dsa_cons (ds_stf hA_parts hnm (de_v 1) (de_v 0) (fun _ => rfl))
  (dsa_of dss_nil))))
/-! ### TurnWasher_habit_in -/
noncomputable abbrev s_TurnWasher_habit_in : Stmt := inClass (top 32) 1
noncomputable def N_TurnWasher_habit_in : List Str := ["self", "count", "size", "wash", "rounds", "place"]
theorem sc_TurnWasher_habit_in : FnScope N_TurnWasher_habit_in ["self", "count", "size", "wash"] (defScope s_TurnWasher_habit_in) := ⟨rfl, rfl, rfl, by decide +kernel, rfl, by decide +kernel, by decide +kernel⟩
noncomputable def b_TurnWasher_habit_in : Ss := (.cons (.asg (.tp (.cons (.nm 4) (.cons (.nm 5) .nil))) (.dvm (.var 3) (.bi .len false (.cons (.att (.var 0) "parts") .nil)))) (.cons (.ret (.omt "habit_for" (.ix (.att (.var 0) "parts") (.var 5)) (.cons (.var 1) (.cons (.var 2) (.cons (.var 4) .nil))))) .nil))
theorem d_TurnWasher_habit_in (C : Cs) [Cold C] (E : XK) (hnm : C.g.nm = C.T.nm) (hA_parts : AttOk C "parts") (h_len : C.mg "len" = none) (h_divmod : C.mg "divmod" = none) (hB_habit_for_3 : MetOk C "habit_for" 3) : DSs (C.at N_TurnWasher_habit_in (defScope s_TurnWasher_habit_in) E) (defBody s_TurnWasher_habit_in) (evSs C.g b_TurnWasher_habit_in) := by
  exact (dss_cons (ds_asg (de_dvm rfl h_divmod (de_v 3) (de_bi (b := .len) (mu := false) rfl h_len (da_cons (de_att hA_parts hnm (de_v 0) rfl) da_nil rfl) rfl) rfl rfl) (dg_tup (dgs_cons (dg_n 4) (dgs_cons (dg_n 5) dgs_nil (fun _ => rfl)) (fun _ => rfl)) (fun _ => rfl) (fun _ => rfl)) (fun _ => rfl) (fun _ => rfl) (fun _ => rfl))
  (dss_cons (ds_ret (de_met hB_habit_for_3 (de_ix (de_att hA_parts hnm (de_v 0) rfl) (de_v 5) (fun _ _ => rfl)) (da_cons (de_v 1) (da_cons (de_v 2) (da_cons (de_v 4) da_nil rfl) rfl) rfl) rfl rfl (by decide) rfl))
  dss_nil))
/-! ### common_multiple -/
noncomputable abbrev s_common_multiple : Stmt := top 33
noncomputable def N_common_multiple : List Str := ["numbers", "found", "number", "multiple"]
theorem sc_common_multiple : FnScope N_common_multiple ["numbers"] (defScope s_common_multiple) := ⟨rfl, rfl, rfl, by decide +kernel, rfl, by decide +kernel, by decide +kernel⟩
noncomputable def b_common_multiple_2 : Ss := (.cons (.aug 3 .add (.var 1)) .nil)
noncomputable def b_common_multiple_1 : Ss := (.cons (.asg (.nm 3) (.var 1)) (.cons (.whl 100000 (.cmp .ne (.bop .mul false (.bop .fdiv false (.var 3) (.var 2)) (.var 2)) (.var 3)) b_common_multiple_2) (.cons (.asg (.nm 1) (.var 3)) .nil)))
noncomputable def b_common_multiple : Ss := (.cons (.asg (.nm 1) (.cst (.int 1))) (.cons (.forr (.nm 2) (.seq (.var 0)) b_common_multiple_1) (.cons (.ret (.var 1)) .nil)))
theorem d_common_multiple (C : Cs) [Cold C] (E : XK)  : DSs (C.at N_common_multiple (defScope s_common_multiple) E) (defBody s_common_multiple) (evSs C.g b_common_multiple) := by
  exact (dss_cons (ds_s 1 de_int)
  (dss_cons (ds_for (di_seq (de_v 0)) (dg_n 2) (dss_cons (ds_s 3 (de_v 1))
  (dss_cons (ds_while (n := 100000) (dt_cmp (o := .ne) (de_bop (o := .mul) (mu := false) (de_bop (o := .fdiv) (mu := false) (de_v 3) (de_v 2)) (de_v 2)) (de_v 3) (by rfl)) (dss_cons (ds_a 3 .add (de_v 1))
  dss_nil))
  (dss_cons (ds_s 1 (de_v 3))
  dss_nil))) (fun _ _ => rfl))
  (dss_cons (ds_ret (de_v 1))
  dss_nil)))
/-! ### describe -/
noncomputable abbrev s_describe : Stmt := top 34
noncomputable def N_describe : List Str := ["washer", "depth", "part"]
theorem sc_describe : FnScope N_describe ["washer"] (defScope s_describe) := ⟨rfl, rfl, rfl, by decide +kernel, rfl, by decide +kernel, by decide +kernel⟩
noncomputable def b_describe : Ss := (.cons (.ifs (.cmp .eq (.att (.var 0) "label") (.cst (.str (Str.ofString "depth")))) (.cons (.ret (.bop .add false (.cst (.str (Str.ofString "depth "))) (.bi .str false (.cons (.att (.var 0) "level") .nil)))) .nil) .nil) (.cons (.ifs (.cmp .eq (.att (.var 0) "label") (.cst (.str (Str.ofString "own")))) (.cons (.ret (.sm1 .join (.cst (.str (Str.ofString " "))) (.bop .add false (.lst false (.cons (.cst (.str (Str.ofString "own"))) .nil)) (.cmpr false (.bi .str false (.cons (.var 1) .nil)) (.nm 1) (.seq (.att (.var 0) "depths")) (.cst (.bl true)) [1])))) .nil) .nil) (.cons (.ifs (.cmp .eq (.att (.var 0) "label") (.cst (.str (Str.ofString "turn")))) (.cons (.ret (.bop .add false (.bop .add false (.cst (.str (Str.ofString "turn ("))) (.sm1 .join (.cst (.str (Str.ofString ", "))) (.cmpr false (.cal 21 (.cons (.var 2) .nil)) (.nm 2) (.seq (.att (.var 0) "parts")) (.cst (.bl true)) [2]))) (.cst (.str (Str.ofString ")"))))) .nil) .nil) (.cons (.ret (.att (.var 0) "label")) .nil))))
theorem d_describe (C : Cs) [Cold C] (E : XK) (hnm : C.g.nm = C.T.nm) (hA_label : AttOk C "label") (hA_level : AttOk C "level") (h_str : C.mg "str" = none) (hA_depths : AttOk C "depths") (hA_parts : AttOk C "parts") (hF_describe : FnE C "describe" 1 21) : DSs (C.at N_describe (defScope s_describe) E) (defBody s_describe) (evSs C.g b_describe) := by
  exact (dss_cons (ds_if (dt_cmp (o := .eq) (de_att hA_label hnm (de_v 0) rfl) de_str (by rfl)) (dss_cons (ds_ret (de_bop (o := .add) (mu := false) de_str (de_bi (b := .str) (mu := false) rfl h_str (da_cons (de_att hA_level hnm (de_v 0) rfl) da_nil rfl) rfl)))
  dss_nil) dss_nil)
  (dss_cons (ds_if (dt_cmp (o := .eq) (de_att hA_label hnm (de_v 0) rfl) de_str (by rfl)) (dss_cons (ds_ret (de_sm1 (f := .join) de_str (de_bop (o := .add) (mu := false) (de_lst (mu := false) (da_cons de_str da_nil rfl)) (de_lcE (own := [("depth", 1)]) (mu := false) (by rfl) (di_seq (de_att hA_depths hnm (de_v 0) rfl)) (dg_n 1) dts_nil (de_bi (b := .str) (mu := false) rfl h_str (da_cons (de_v 1) da_nil rfl) rfl) (by decide) (fun _ _ => rfl))) rfl rfl rfl))
  dss_nil) dss_nil)
  (dss_cons (ds_if (dt_cmp (o := .eq) (de_att hA_label hnm (de_v 0) rfl) de_str (by rfl)) (dss_cons (ds_ret (de_bop (o := .add) (mu := false) (de_bop (o := .add) (mu := false) de_str (de_sm1 (f := .join) de_str (de_lcE (own := [("part", 2)]) (mu := false) (by rfl) (di_seq (de_att hA_parts hnm (de_v 0) rfl)) (dg_n 2) dts_nil (de_cal hF_describe rfl (da_cons (de_v 2) da_nil rfl) rfl (by decide)) (by decide) (fun _ _ => rfl)) rfl rfl rfl)) de_str))
  dss_nil) dss_nil)
  (dss_cons (ds_ret (de_att hA_label hnm (de_v 0) rfl))
  dss_nil))))
/-! ### _law_random -/
noncomputable abbrev s__law_random : Stmt := top 36
noncomputable def N__law_random : List Str := ["_law_script", "_law_salt", "_law_seed", "_law_cell"]
theorem sc__law_random : FnScope N__law_random ["_law_script", "_law_salt"] (defScope s__law_random) := ⟨rfl, rfl, rfl, by decide +kernel, rfl, by decide +kernel, by decide +kernel⟩
noncomputable def b__law_random_1 : Ss := (.cons (.asg (.nm 2) (.bop .mod true (.bop .add true (.bop .mul true (.var 2) (.cst (.int 31))) (.bi .abs true (.cons (.var 3) .nil))) (.cst (.int 2147483647)))) .nil)
noncomputable def b__law_random : Ss := (.cons (.asg (.nm 2) (.var 1)) (.cons (.forr (.nm 3) (.seq (.var 0)) b__law_random_1) (.cons (.ret (.bop .add true (.lst true (.cons (.var 2) (.cons (.cst (.int 0)) .nil))) (.cmpr true (.var 3) (.nm 3) (.seq (.var 0)) (.cmp .ge (.var 3) (.bop .pow true (.cst (.int 10)) (.cst (.int 18)))) [3]))) .nil)))
theorem d__law_random (C : Cs) [Cold C] (E : XK) (h_abs : C.mg "abs" = none) : DSs (C.at N__law_random (defScope s__law_random) E) (defBody s__law_random) (evSs C.g b__law_random) := by
  exact (dss_cons (ds_s 2 (de_v 1))
  (dss_cons (ds_for (di_seq (de_v 0)) (dg_n 3) (dss_cons (ds_s 2 (de_bop (o := .mod) (mu := true) (de_bop (o := .add) (mu := true) (de_bop (o := .mul) (mu := true) (de_v 2) de_int) (de_bi (b := .abs) (mu := true) rfl h_abs (da_cons (de_v 3) da_nil rfl) rfl)) de_int))
  dss_nil) (fun _ _ => rfl))
  (dss_cons (ds_ret (de_bop (o := .add) (mu := true) (de_lst (mu := true) (da_cons (de_v 2) (da_cons de_int da_nil rfl) rfl)) (de_lcE (own := [("_law_cell", 3)]) (mu := true) (by rfl) (di_seq (de_v 0)) (dg_n 3) (dts_one (dt_cmp (o := .ge) (de_v 3) (de_bop (o := .pow) (mu := true) de_int de_int) (by rfl))) (de_v 3) (by decide) (fun _ _ => rfl))))
  dss_nil)))
/-! ### _law_below -/
noncomputable abbrev s__law_below : Stmt := top 37
noncomputable def N__law_below : List Str := ["_law_d", "_law_limit", "_law_result"]
theorem sc__law_below : FnScope N__law_below ["_law_d", "_law_limit"] (defScope s__law_below) := ⟨rfl, rfl, rfl, by decide +kernel, rfl, by decide +kernel, by decide +kernel⟩
noncomputable def b__law_below : Ss := (.cons (.ifs (.and (.cmp .eq (.ix (.var 0) (.cst (.int 1))) (.cst (.int 0))) (.cmp .gt (.bi .len false (.cons (.var 0) .nil)) (.cst (.int 2)))) (.cons (.sti (.var 0) (.cst (.int 1)) (.mth .pop (.var 0) (.cons (.cst (.int 2)) .nil))) .nil) .nil) (.cons (.ifs (.cmp .gt (.ix (.var 0) (.cst (.int 1))) (.cst (.int 0))) (.cons (.asg (.nm 2) (.bop .mod false (.ix (.var 0) (.cst (.int 1))) (.var 1))) (.cons (.sti (.var 0) (.cst (.int 1)) (.bop .fdiv false (.ix (.var 0) (.cst (.int 1))) (.var 1))) (.cons (.ret (.var 2)) .nil))) .nil) (.cons (.sti (.var 0) (.cst (.int 0)) (.bop .mod false (.bop .add false (.bop .mul false (.ix (.var 0) (.cst (.int 0))) (.cst (.int 48271))) (.cst (.int 11))) (.cst (.int 2147483647)))) (.cons (.ret (.bop .mod false (.bop .fdiv false (.ix (.var 0) (.cst (.int 0))) (.cst (.int 64))) (.var 1))) .nil))))
theorem d__law_below (C : Cs) [Cold C] (E : XK) (h_len : C.mg "len" = none) : DSs (C.at N__law_below (defScope s__law_below) E) (defBody s__law_below) (evSs C.g b__law_below) := by
  exact (dss_cons (ds_if (DW.dt (dw_and (dt_cmp (o := .eq) (de_ix (de_v 0) de_int (fun _ _ => rfl)) de_int (by rfl)) (dw_and1 (dt_cmp (o := .gt) (de_bi (b := .len) (mu := false) rfl h_len (da_cons (de_v 0) da_nil rfl) rfl) de_int (by rfl))))) (dss_cons (ds_sti (de_mth1 (f := .pop) (de_v 0) (da_cons de_int da_nil rfl) rfl rfl (by decide) rfl) (de_v 0) de_int (fun _ _ => rfl) (fun _ => rfl) (fun _ => rfl) (fun _ => rfl))
  dss_nil) dss_nil)
  (dss_cons (ds_if (dt_cmp (o := .gt) (de_ix (de_v 0) de_int (fun _ _ => rfl)) de_int (by rfl)) (dss_cons (ds_s 2 (de_bop (o := .mod) (mu := false) (de_ix (de_v 0) de_int (fun _ _ => rfl)) (de_v 1)))
  (dss_cons (ds_sti (de_bop (o := .fdiv) (mu := false) (de_ix (de_v 0) de_int (fun _ _ => rfl)) (de_v 1)) (de_v 0) de_int (fun _ _ => rfl) (fun _ => rfl) (fun _ => rfl) (fun _ => rfl))
  (dss_cons (ds_ret (de_v 2))
  dss_nil))) dss_nil)
  (dss_cons (ds_sti (de_bop (o := .mod) (mu := false) (de_bop (o := .add) (mu := false) (de_bop (o := .mul) (mu := false) (de_ix (de_v 0) de_int (fun _ _ => rfl)) de_int) de_int) de_int) (de_v 0) de_int (fun _ _ => rfl) (fun _ => rfl) (fun _ => rfl) (fun _ => rfl))
  (dss_cons (ds_ret (de_bop (o := .mod) (mu := false) (de_bop (o := .fdiv) (mu := false) (de_ix (de_v 0) de_int (fun _ _ => rfl)) de_int) (de_v 1)))
  dss_nil))))
/-! ### _law_spec -/
noncomputable abbrev s__law_spec : Stmt := top 38
noncomputable def N__law_spec : List Str := ["_law_d", "_law_deep", "_law_kind", "_law_k"]
theorem sc__law_spec : FnScope N__law_spec ["_law_d", "_law_deep"] (defScope s__law_spec) := ⟨rfl, rfl, rfl, by decide +kernel, rfl, by decide +kernel, by decide +kernel⟩
noncomputable def b__law_spec : Ss := (.cons (.asg (.nm 2) (.cal 23 (.cons (.var 0) (.cons (.ite (.cmp .gt (.var 1) (.cst (.int 0))) (.cst (.int 5)) (.cst (.int 4))) .nil)))) (.cons (.ifs (.cmp .lt (.var 2) (.cst (.int 2))) (.cons (.ret (.tup (.cons (.ix (.lst false (.cons (.cst (.str (Str.ofString "top"))) (.cons (.cst (.str (Str.ofString "under"))) .nil))) (.var 2)) (.cons (.tup .nil) .nil)))) .nil) .nil) (.cons (.ifs (.cmp .eq (.var 2) (.cst (.int 2))) (.cons (.ret (.tup (.cons (.cst (.str (Str.ofString "depth"))) (.cons (.tup (.cons (.cal 23 (.cons (.var 0) (.cons (.ix (.lst false (.cons (.cst (.int 3)) (.cons (.cst (.int 12)) .nil))) (.cal 23 (.cons (.var 0) (.cons (.cst (.int 2)) .nil)))) .nil))) .nil)) .nil)))) .nil) .nil) (.cons (.ifs (.cmp .eq (.var 2) (.cst (.int 3))) (.cons (.ret (.tup (.cons (.cst (.str (Str.ofString "own"))) (.cons (.bi .tuple false (.cons (.cmpr false (.cal 23 (.cons (.var 0) (.cons (.bop .add false (.var 3) (.cst (.int 2))) .nil))) (.nm 3) (.rg1 (.cal 23 (.cons (.var 0) (.cons (.cst (.int 4)) .nil)))) (.cst (.bl true)) [3]) .nil)) .nil)))) .nil) .nil) (.cons (.ret (.tup (.cons (.cst (.str (Str.ofString "turn"))) (.cons (.bi .tuple false (.cons (.cmpr false (.cal 24 (.cons (.var 0) (.cons (.bop .sub false (.var 1) (.cst (.int 1))) .nil))) (.nm 3) (.rg1 (.bop .add false (.cst (.int 1)) (.cal 23 (.cons (.var 0) (.cons (.cst (.int 3)) .nil))))) (.cst (.bl true)) [3]) .nil)) .nil)))) .nil)))))
theorem d__law_spec (C : Cs) [Cold C] (E : XK) (hF__law_below : FnE C "_law_below" 2 23) (h_range : C.mg "range" = none) (h_tuple : C.mg "tuple" = none) (hF__law_spec : FnE C "_law_spec" 2 24) : DSs (C.at N__law_spec (defScope s__law_spec) E) (defBody s__law_spec) (evSs C.g b__law_spec) := by
  exact (dss_cons (ds_s 2 (de_cal hF__law_below rfl (da_cons (de_v 0) (da_cons (de_ite (dt_cmp (o := .gt) (de_v 1) de_int (by rfl)) de_int de_int) da_nil rfl) rfl) rfl (by decide)))
  (dss_cons (ds_if (dt_cmp (o := .lt) (de_v 2) de_int (by rfl)) (dss_cons (ds_ret (de_tup (da_cons (de_ix (de_lst (mu := false) (da_cons de_str (da_cons de_str da_nil rfl) rfl)) (de_v 2) (fun _ _ => rfl)) (da_cons (de_tup da_nil) da_nil rfl) rfl)))
  dss_nil) dss_nil)
  (dss_cons (ds_if (dt_cmp (o := .eq) (de_v 2) de_int (by rfl)) (dss_cons (ds_ret (de_tup (da_cons de_str (da_cons (de_tup (da_cons (de_cal hF__law_below rfl (da_cons (de_v 0) (da_cons (de_ix (de_lst (mu := false) (da_cons de_int (da_cons de_int da_nil rfl) rfl)) (de_cal hF__law_below rfl (da_cons (de_v 0) (da_cons de_int da_nil rfl) rfl) rfl (by decide)) (fun _ _ => rfl)) da_nil rfl) rfl) rfl (by decide)) da_nil rfl)) da_nil rfl) rfl)))
  dss_nil) dss_nil)
  (dss_cons (ds_if (dt_cmp (o := .eq) (de_v 2) de_int (by rfl)) (dss_cons (ds_ret (de_tup (da_cons de_str (da_cons (de_bi (b := .tuple) (mu := false) rfl h_tuple (da_cons (de_lcE (own := [("_law_k", 3)]) (mu := false) (by rfl) (di_rg1 rfl h_range (de_cal hF__law_below rfl (da_cons (de_v 0) (da_cons de_int da_nil rfl) rfl) rfl (by decide)) rfl) (dg_n 3) dts_nil (de_cal hF__law_below rfl (da_cons (de_v 0) (da_cons (de_bop (o := .add) (mu := false) (de_v 3) de_int) da_nil rfl) rfl) rfl (by decide)) (by decide) (fun _ _ => rfl)) da_nil rfl) rfl) da_nil rfl) rfl)))
  dss_nil) dss_nil)
  (dss_cons (ds_ret (de_tup (da_cons de_str (da_cons (de_bi (b := .tuple) (mu := false) rfl h_tuple (da_cons (de_lcE (own := [("_law_k", 3)]) (mu := false) (by rfl) (di_rg1 rfl h_range (de_bop (o := .add) (mu := false) de_int (de_cal hF__law_below rfl (da_cons (de_v 0) (da_cons de_int da_nil rfl) rfl) rfl (by decide))) rfl) (dg_n 3) dts_nil (de_cal hF__law_spec rfl (da_cons (de_v 0) (da_cons (de_bop (o := .sub) (mu := false) (de_v 1) de_int) da_nil rfl) rfl) rfl (by decide)) (by decide) (fun _ _ => rfl)) da_nil rfl) rfl) da_nil rfl) rfl)))
  dss_nil)))))
/-! ### _law_own -/
noncomputable abbrev s__law_own : Stmt := top 39
noncomputable def N__law_own : List Str := ["_law_depths"]
theorem sc__law_own : FnScope N__law_own ["_law_depths"] (defScope s__law_own) := ⟨rfl, rfl, rfl, by decide +kernel, rfl, by decide +kernel, by decide +kernel⟩
noncomputable def b__law_own : Ss := (.cons (.ifs (.cmp .eq (.bi .len false (.cons (.var 0) .nil)) (.cst (.int 0))) (.cons (.ret (.mk 5 (.cons (.tup .nil) .nil))) .nil) .nil) (.cons (.ifs (.cmp .eq (.bi .len false (.cons (.var 0) .nil)) (.cst (.int 1))) (.cons (.ret (.mk 5 (.cons (.tup (.cons (.ix (.var 0) (.cst (.int 0))) .nil)) .nil))) .nil) .nil) (.cons (.ret (.ite (.cmp .eq (.bi .len false (.cons (.var 0) .nil)) (.cst (.int 2))) (.mk 5 (.cons (.tup (.cons (.ix (.var 0) (.cst (.int 0))) (.cons (.ix (.var 0) (.cst (.int 1))) .nil))) .nil)) (.mk 5 (.cons (.tup (.cons (.ix (.var 0) (.cst (.int 0))) (.cons (.ix (.var 0) (.cst (.int 1))) (.cons (.ix (.var 0) (.cst (.int 2))) .nil)))) .nil)))) .nil)))
theorem d__law_own (C : Cs) [Cold C] (E : XK) (hnm : C.g.nm = C.T.nm) (h_len : C.mg "len" = none) (hMS_OwnWasher : MkS C "OwnWasher" 5 16) (hN_OwnWasher : ∀ ds m, C.g.new 5 ds m = mkD C.g.nm true (C.g.F 16) 5 ds m) : DSs (C.at N__law_own (defScope s__law_own) E) (defBody s__law_own) (evSs C.g b__law_own) := by
  exact (dss_cons (ds_if (dt_cmp (o := .eq) (de_bi (b := .len) (mu := false) rfl h_len (da_cons (de_v 0) da_nil rfl) rfl) de_int (by rfl)) (dss_cons (ds_ret (de_mks0 hMS_OwnWasher hnm hN_OwnWasher rfl (by decide)))
  dss_nil) dss_nil)
  (dss_cons (ds_if (dt_cmp (o := .eq) (de_bi (b := .len) (mu := false) rfl h_len (da_cons (de_v 0) da_nil rfl) rfl) de_int (by rfl)) (dss_cons (ds_ret (de_mks hMS_OwnWasher hnm hN_OwnWasher rfl (da_cons (de_ix (de_v 0) de_int (fun _ _ => rfl)) da_nil rfl) rfl (by decide)))
  dss_nil) dss_nil)
  (dss_cons (ds_ret (de_ite (dt_cmp (o := .eq) (de_bi (b := .len) (mu := false) rfl h_len (da_cons (de_v 0) da_nil rfl) rfl) de_int (by rfl)) (de_mks hMS_OwnWasher hnm hN_OwnWasher rfl (da_cons (de_ix (de_v 0) de_int (fun _ _ => rfl)) (da_cons (de_ix (de_v 0) de_int (fun _ _ => rfl)) da_nil rfl) rfl) rfl (by decide)) (de_mks hMS_OwnWasher hnm hN_OwnWasher rfl (da_cons (de_ix (de_v 0) de_int (fun _ _ => rfl)) (da_cons (de_ix (de_v 0) de_int (fun _ _ => rfl)) (da_cons (de_ix (de_v 0) de_int (fun _ _ => rfl)) da_nil rfl) rfl) rfl) rfl (by decide))))
  dss_nil)))
/-! ### _law_washer -/
noncomputable abbrev s__law_washer : Stmt := top 40
noncomputable def N__law_washer : List Str := ["_law_spec_here", "_law_label", "_law_some", "_law_parts", "_law_part"]
theorem sc__law_washer : FnScope N__law_washer ["_law_spec_here"] (defScope s__law_washer) := ⟨rfl, rfl, rfl, by decide +kernel, rfl, by decide +kernel, by decide +kernel⟩
noncomputable def b__law_washer : Ss := (.cons (.asg (.tp (.cons (.nm 1) (.cons (.nm 2) .nil))) (.var 0)) (.cons (.ifs (.cmp .eq (.var 1) (.cst (.str (Str.ofString "top")))) (.cons (.ret (.mk 2 .nil)) .nil) .nil) (.cons (.ifs (.cmp .eq (.var 1) (.cst (.str (Str.ofString "under")))) (.cons (.ret (.mk 3 .nil)) .nil) .nil) (.cons (.ifs (.cmp .eq (.var 1) (.cst (.str (Str.ofString "depth")))) (.cons (.ret (.mk 4 (.cons (.ix (.var 2) (.cst (.int 0))) .nil))) .nil) .nil) (.cons (.ifs (.cmp .eq (.var 1) (.cst (.str (Str.ofString "own")))) (.cons (.ret (.cal 25 (.cons (.var 2) .nil))) .nil) .nil) (.cons (.asg (.nm 3) (.cmpr false (.cal 26 (.cons (.var 4) .nil)) (.nm 4) (.seq (.var 2)) (.cst (.bl true)) [4])) (.cons (.ifs (.cmp .eq (.bi .len false (.cons (.var 3) .nil)) (.cst (.int 1))) (.cons (.ret (.mk 6 (.cons (.tup (.cons (.ix (.var 3) (.cst (.int 0))) .nil)) .nil))) .nil) .nil) (.cons (.ret (.ite (.cmp .eq (.bi .len false (.cons (.var 3) .nil)) (.cst (.int 2))) (.mk 6 (.cons (.tup (.cons (.ix (.var 3) (.cst (.int 0))) (.cons (.ix (.var 3) (.cst (.int 1))) .nil))) .nil)) (.mk 6 (.cons (.tup (.cons (.ix (.var 3) (.cst (.int 0))) (.cons (.ix (.var 3) (.cst (.int 1))) (.cons (.ix (.var 3) (.cst (.int 2))) .nil)))) .nil)))) .nil))))))))
theorem d__law_washer (C : Cs) [Cold C] (E : XK) (hnm : C.g.nm = C.T.nm) (hM_TopWasher : MkE C "TopWasher" 2 0 11) (hN_TopWasher : ∀ ds m, C.g.new 2 ds m = mkD C.g.nm true (C.g.F 11) 2 ds m) (hM_UnderWasher : MkE C "UnderWasher" 3 0 12) (hN_UnderWasher : ∀ ds m, C.g.new 3 ds m = mkD C.g.nm true (C.g.F 12) 3 ds m) (hM_DepthWasher : MkE C "DepthWasher" 4 1 14) (hN_DepthWasher : ∀ ds m, C.g.new 4 ds m = mkD C.g.nm true (C.g.F 14) 4 ds m) (hF__law_own : FnE C "_law_own" 1 25) (hF__law_washer : FnE C "_law_washer" 1 26) (h_len : C.mg "len" = none) (hMS_TurnWasher : MkS C "TurnWasher" 6 18) (hN_TurnWasher : ∀ ds m, C.g.new 6 ds m = mkD C.g.nm true (C.g.F 18) 6 ds m) : DSs (C.at N__law_washer (defScope s__law_washer) E) (defBody s__law_washer) (evSs C.g b__law_washer) := by
  exact (dss_cons (ds_asg (de_v 0) (dg_tup (dgs_cons (dg_n 1) (dgs_cons (dg_n 2) dgs_nil (fun _ => rfl)) (fun _ => rfl)) (fun _ => rfl) (fun _ => rfl)) (fun _ => rfl) (fun _ => rfl) (fun _ => rfl))
  (dss_cons (ds_if (dt_cmp (o := .eq) (de_v 1) de_str (by rfl)) (dss_cons (ds_ret (de_mk0 hM_TopWasher hnm hN_TopWasher rfl (by decide)))
  dss_nil) dss_nil)
  (dss_cons (ds_if (dt_cmp (o := .eq) (de_v 1) de_str (by rfl)) (dss_cons (ds_ret (de_mk0 hM_UnderWasher hnm hN_UnderWasher rfl (by decide)))
  dss_nil) dss_nil)
  (dss_cons (ds_if (dt_cmp (o := .eq) (de_v 1) de_str (by rfl)) (dss_cons (ds_ret (de_mk hM_DepthWasher hnm hN_DepthWasher rfl (da_cons (de_ix (de_v 2) de_int (fun _ _ => rfl)) da_nil rfl) rfl (by decide)))
  dss_nil) dss_nil)
  (dss_cons (ds_if (dt_cmp (o := .eq) (de_v 1) de_str (by rfl)) (dss_cons (ds_ret (de_cal hF__law_own rfl (da_cons (de_v 2) da_nil rfl) rfl (by decide)))
  dss_nil) dss_nil)
  (dss_cons (ds_setLc (i := 3) rfl rfl (fun env => sw_true (by rfl) (by rfl) (by rfl) (by rfl)) (own := [("_law_part", 4)]) (mu := false) (by rfl) (di_seq (de_v 2)) (dg_n 4) dts_nil (de_cal hF__law_washer rfl (da_cons (de_v 4) da_nil rfl) rfl (by decide)) (by decide) (fun _ _ => rfl))
  (dss_cons (ds_if (dt_cmp (o := .eq) (de_bi (b := .len) (mu := false) rfl h_len (da_cons (de_v 3) da_nil rfl) rfl) de_int (by rfl)) (dss_cons (ds_ret (de_mks hMS_TurnWasher hnm hN_TurnWasher rfl (da_cons (de_ix (de_v 3) de_int (fun _ _ => rfl)) da_nil rfl) rfl (by decide)))
  dss_nil) dss_nil)
  (dss_cons (ds_ret (de_ite (dt_cmp (o := .eq) (de_bi (b := .len) (mu := false) rfl h_len (da_cons (de_v 3) da_nil rfl) rfl) de_int (by rfl)) (de_mks hMS_TurnWasher hnm hN_TurnWasher rfl (da_cons (de_ix (de_v 3) de_int (fun _ _ => rfl)) (da_cons (de_ix (de_v 3) de_int (fun _ _ => rfl)) da_nil rfl) rfl) rfl (by decide)) (de_mks hMS_TurnWasher hnm hN_TurnWasher rfl (da_cons (de_ix (de_v 3) de_int (fun _ _ => rfl)) (da_cons (de_ix (de_v 3) de_int (fun _ _ => rfl)) (da_cons (de_ix (de_v 3) de_int (fun _ _ => rfl)) da_nil rfl) rfl) rfl) rfl (by decide))))
  dss_nil))))))))
/-! ### _law_equal -/
noncomputable abbrev s__law_equal : Stmt := top 41
noncomputable def N__law_equal : List Str := ["_law_actual", "_law_expected", "_law_k"]
theorem sc__law_equal : FnScope N__law_equal ["_law_actual", "_law_expected"] (defScope s__law_equal) := ⟨rfl, rfl, rfl, by decide +kernel, rfl, by decide +kernel, by decide +kernel⟩
noncomputable def b__law_equal : Ss := (.cons (.ifs (.cmp .isN (.var 1) (.cst .non)) (.cons (.ret (.cmp .isN (.var 0) (.cst .non))) .nil) .nil) (.cons (.ifs (.isi (.var 1) [.bool]) (.cons (.ret (.and (.isi (.var 0) [.bool]) (.cmp .eq (.var 0) (.var 1)))) .nil) .nil) (.cons (.ifs (.isi (.var 1) [.int]) (.cons (.ret (.and (.isi (.var 0) [.int]) (.and (.not (.isi (.var 0) [.bool])) (.cmp .eq (.var 0) (.var 1))))) .nil) .nil) (.cons (.ifs (.isi (.var 1) [.str]) (.cons (.ret (.and (.isi (.var 0) [.str]) (.cmp .eq (.var 0) (.var 1)))) .nil) .nil) (.cons (.ifs (.cmp .ne (.isi (.var 1) [.tuple]) (.isi (.var 0) [.tuple])) (.cons (.ret (.cst (.bl false))) .nil) .nil) (.cons (.ifs (.cmp .ne (.isi (.var 1) [.list]) (.isi (.var 0) [.list])) (.cons (.ret (.cst (.bl false))) .nil) .nil) (.cons (.ifs (.cmp .ne (.bi .len false (.cons (.var 0) .nil)) (.bi .len false (.cons (.var 1) .nil))) (.cons (.ret (.cst (.bl false))) .nil) .nil) (.cons (.ret (.bi .all false (.cons (.cmpr false (.cal 27 (.cons (.ix (.var 0) (.var 2)) (.cons (.ix (.var 1) (.var 2)) .nil))) (.nm 2) (.rg1 (.bi .len false (.cons (.var 1) .nil))) (.cst (.bl true)) [2]) .nil))) .nil))))))))
theorem d__law_equal (C : Cs) [Cold C] (E : XK) (h_isinstance : C.mg "isinstance" = none) (h_bool : C.mg "bool" = none) (h_int : C.mg "int" = none) (h_str : C.mg "str" = none) (h_tuple : C.mg "tuple" = none) (h_list : C.mg "list" = none) (h_len : C.mg "len" = none) (h_range : C.mg "range" = none) (hF__law_equal : FnE C "_law_equal" 2 27) (h_all : C.mg "all" = none) : DSs (C.at N__law_equal (defScope s__law_equal) E) (defBody s__law_equal) (evSs C.g b__law_equal) := by
  exact (dss_cons (ds_if (dt_cmp (o := .isN) (de_v 1) de_non (by rfl)) (dss_cons (ds_ret (de_cmp (o := .isN) (de_v 0) de_non (by rfl)))
  dss_nil) dss_nil)
  (dss_cons (ds_if (dt_val (de_isi1 rfl h_isinstance rfl h_bool (by decide +kernel) (by decide) (by decide) (de_v 1) rfl) (fun _ _ => rfl)) (dss_cons (ds_ret (de_and (de_isi1 rfl h_isinstance rfl h_bool (by decide +kernel) (by decide) (by decide) (de_v 0) rfl) (de_one (de_cmp (o := .eq) (de_v 0) (de_v 1) (by rfl)))))
  dss_nil) dss_nil)
  (dss_cons (ds_if (dt_val (de_isi1 rfl h_isinstance rfl h_int (by decide +kernel) (by decide) (by decide) (de_v 1) rfl) (fun _ _ => rfl)) (dss_cons (ds_ret (de_and (de_isi1 rfl h_isinstance rfl h_int (by decide +kernel) (by decide) (by decide) (de_v 0) rfl) (de_and (de_not (de_isi1 rfl h_isinstance rfl h_bool (by decide +kernel) (by decide) (by decide) (de_v 0) rfl)) (de_one (de_cmp (o := .eq) (de_v 0) (de_v 1) (by rfl))))))
  dss_nil) dss_nil)
  (dss_cons (ds_if (dt_val (de_isi1 rfl h_isinstance rfl h_str (by decide +kernel) (by decide) (by decide) (de_v 1) rfl) (fun _ _ => rfl)) (dss_cons (ds_ret (de_and (de_isi1 rfl h_isinstance rfl h_str (by decide +kernel) (by decide) (by decide) (de_v 0) rfl) (de_one (de_cmp (o := .eq) (de_v 0) (de_v 1) (by rfl)))))
  dss_nil) dss_nil)
  (dss_cons (ds_if (dt_cmp (o := .ne) (de_isi1 rfl h_isinstance rfl h_tuple (by decide +kernel) (by decide) (by decide) (de_v 1) rfl) (de_isi1 rfl h_isinstance rfl h_tuple (by decide +kernel) (by decide) (by decide) (de_v 0) rfl) (by rfl)) (dss_cons (ds_ret de_bl)
  dss_nil) dss_nil)
  (dss_cons (ds_if (dt_cmp (o := .ne) (de_isi1 rfl h_isinstance rfl h_list (by decide +kernel) (by decide) (by decide) (de_v 1) rfl) (de_isi1 rfl h_isinstance rfl h_list (by decide +kernel) (by decide) (by decide) (de_v 0) rfl) (by rfl)) (dss_cons (ds_ret de_bl)
  dss_nil) dss_nil)
  (dss_cons (ds_if (dt_cmp (o := .ne) (de_bi (b := .len) (mu := false) rfl h_len (da_cons (de_v 0) da_nil rfl) rfl) (de_bi (b := .len) (mu := false) rfl h_len (da_cons (de_v 1) da_nil rfl) rfl) (by rfl)) (dss_cons (ds_ret de_bl)
  dss_nil) dss_nil)
  (dss_cons (ds_ret (de_bi (b := .all) (mu := false) rfl h_all (da_cons (de_lcE (own := [("_law_k", 2)]) (mu := false) (by rfl) (di_rg1 rfl h_range (de_bi (b := .len) (mu := false) rfl h_len (da_cons (de_v 1) da_nil rfl) rfl) rfl) (dg_n 2) dts_nil (de_cal hF__law_equal rfl (da_cons (de_ix (de_v 0) (de_v 2) (fun _ _ => rfl)) (da_cons (de_ix (de_v 1) (de_v 2) (fun _ _ => rfl)) da_nil rfl) rfl) rfl (by decide)) (by decide) (fun _ _ => rfl)) da_nil rfl) rfl))
  dss_nil))))))))
/-! ### _law_period -/
noncomputable abbrev s__law_period : Stmt := top 42
noncomputable def N__law_period : List Str := ["_law_spec_here", "_law_found", "_law_part"]
theorem sc__law_period : FnScope N__law_period ["_law_spec_here"] (defScope s__law_period) := ⟨rfl, rfl, rfl, by decide +kernel, rfl, by decide +kernel, by decide +kernel⟩
noncomputable def b__law_period_1 : Ss := (.cons (.asg (.nm 1) (.bop .add false (.var 1) (.bi .len false (.cons (.ix (.var 0) (.cst (.int 1))) .nil)))) .nil)
noncomputable def b__law_period : Ss := (.cons (.ifs (.cmp .ne (.ix (.var 0) (.cst (.int 0))) (.cst (.str (Str.ofString "turn")))) (.cons (.ret (.cst (.int 1))) .nil) .nil) (.cons (.asg (.nm 1) (.bi .len false (.cons (.ix (.var 0) (.cst (.int 1))) .nil))) (.cons (.whl 100000 (.cmp .ne (.cmpr false (.var 2) (.nm 2) (.seq (.ix (.var 0) (.cst (.int 1)))) (.cmp .gt (.bop .mod false (.bop .fdiv false (.var 1) (.bi .len false (.cons (.ix (.var 0) (.cst (.int 1))) .nil))) (.cal 28 (.cons (.var 2) .nil))) (.cst (.int 0))) [2]) (.lst false .nil)) b__law_period_1) (.cons (.ret (.var 1)) .nil))))
theorem d__law_period (C : Cs) [Cold C] (E : XK) (h_len : C.mg "len" = none) (hF__law_period : FnE C "_law_period" 1 28) : DSs (C.at N__law_period (defScope s__law_period) E) (defBody s__law_period) (evSs C.g b__law_period) := by
  exact (dss_cons (ds_if (dt_cmp (o := .ne) (de_ix (de_v 0) de_int (fun _ _ => rfl)) de_str (by rfl)) (dss_cons (ds_ret de_int)
  dss_nil) dss_nil)
  (dss_cons (ds_s 1 (de_bi (b := .len) (mu := false) rfl h_len (da_cons (de_ix (de_v 0) de_int (fun _ _ => rfl)) da_nil rfl) rfl))
  (dss_cons (ds_while (n := 100000) (dt_cmp (o := .ne) (de_lcE (own := [("_law_part", 2)]) (mu := false) (by rfl) (di_seq (de_ix (de_v 0) de_int (fun _ _ => rfl))) (dg_n 2) (dts_one (dt_cmp (o := .gt) (de_bop (o := .mod) (mu := false) (de_bop (o := .fdiv) (mu := false) (de_v 1) (de_bi (b := .len) (mu := false) rfl h_len (da_cons (de_ix (de_v 0) de_int (fun _ _ => rfl)) da_nil rfl) rfl)) (de_cal hF__law_period rfl (da_cons (de_v 2) da_nil rfl) rfl (by decide))) de_int (by rfl))) (de_v 2) (by decide) (fun _ _ => rfl)) (de_lst (mu := false) da_nil) (by rfl)) (dss_cons (ds_s 1 (de_bop (o := .add) (mu := false) (de_v 1) (de_bi (b := .len) (mu := false) rfl h_len (da_cons (de_ix (de_v 0) de_int (fun _ _ => rfl)) da_nil rfl) rfl)))
  dss_nil))
  (dss_cons (ds_ret (de_v 1))
  dss_nil))))
/-! ### _law_words -/
noncomputable abbrev s__law_words : Stmt := top 43
noncomputable def N__law_words : List Str := ["_law_spec_here", "_law_label", "_law_some", "_law_part", "_law_one"]
theorem sc__law_words : FnScope N__law_words ["_law_spec_here"] (defScope s__law_words) := ⟨rfl, rfl, rfl, by decide +kernel, rfl, by decide +kernel, by decide +kernel⟩
noncomputable def b__law_words : Ss := (.cons (.asg (.tp (.cons (.nm 1) (.cons (.nm 2) .nil))) (.var 0)) (.cons (.ifs (.cmp .eq (.var 1) (.cst (.str (Str.ofString "turn")))) (.cons (.ret (.bop .add false (.bop .add false (.cst (.str (Str.ofString "turn ("))) (.sm1 .join (.cst (.str (Str.ofString ", "))) (.cmpr false (.cal 29 (.cons (.var 3) .nil)) (.nm 3) (.seq (.var 2)) (.cst (.bl true)) [3]))) (.cst (.str (Str.ofString ")"))))) .nil) .nil) (.cons (.ret (.sm1 .join (.cst (.str (Str.ofString " "))) (.bop .add false (.lst false (.cons (.var 1) .nil)) (.cmpr false (.bi .str false (.cons (.var 4) .nil)) (.nm 4) (.seq (.var 2)) (.cst (.bl true)) [4])))) .nil)))
theorem d__law_words (C : Cs) [Cold C] (E : XK) (hF__law_words : FnE C "_law_words" 1 29) (h_str : C.mg "str" = none) : DSs (C.at N__law_words (defScope s__law_words) E) (defBody s__law_words) (evSs C.g b__law_words) := by
  exact (dss_cons (ds_asg (de_v 0) (dg_tup (dgs_cons (dg_n 1) (dgs_cons (dg_n 2) dgs_nil (fun _ => rfl)) (fun _ => rfl)) (fun _ => rfl) (fun _ => rfl)) (fun _ => rfl) (fun _ => rfl) (fun _ => rfl))
  (dss_cons (ds_if (dt_cmp (o := .eq) (de_v 1) de_str (by rfl)) (dss_cons (ds_ret (de_bop (o := .add) (mu := false) (de_bop (o := .add) (mu := false) de_str (de_sm1 (f := .join) de_str (de_lcE (own := [("_law_part", 3)]) (mu := false) (by rfl) (di_seq (de_v 2)) (dg_n 3) dts_nil (de_cal hF__law_words rfl (da_cons (de_v 3) da_nil rfl) rfl (by decide)) (by decide) (fun _ _ => rfl)) rfl rfl rfl)) de_str))
  dss_nil) dss_nil)
  (dss_cons (ds_ret (de_sm1 (f := .join) de_str (de_bop (o := .add) (mu := false) (de_lst (mu := false) (da_cons (de_v 1) da_nil rfl)) (de_lcE (own := [("_law_one", 4)]) (mu := false) (by rfl) (di_seq (de_v 2)) (dg_n 4) dts_nil (de_bi (b := .str) (mu := false) rfl h_str (da_cons (de_v 4) da_nil rfl) rfl) (by decide) (fun _ _ => rfl))) rfl rfl rfl))
  dss_nil)))
/-! ### _law_habit -/
noncomputable abbrev s__law_habit : Stmt := top 44
noncomputable def N__law_habit : List Str := ["_law_spec_here", "_law_count", "_law_size", "_law_wash", "_law_label", "_law_some", "_law_depths", "_law_k", "_law_most"]
theorem sc__law_habit : FnScope N__law_habit ["_law_spec_here", "_law_count", "_law_size", "_law_wash"] (defScope s__law_habit) := ⟨rfl, rfl, rfl, by decide +kernel, rfl, by decide +kernel, by decide +kernel⟩
noncomputable def b__law_habit : Ss := (.cons (.asg (.tp (.cons (.nm 4) (.cons (.nm 5) .nil))) (.var 0)) (.cons (.ifs (.cmp .eq (.var 4) (.cst (.str (Str.ofString "turn")))) (.cons (.ret (.cal 30 (.cons (.ix (.var 5) (.bop .mod false (.var 3) (.bi .len false (.cons (.var 5) .nil)))) (.cons (.var 1) (.cons (.var 2) (.cons (.bop .fdiv false (.var 3) (.bi .len false (.cons (.var 5) .nil))) .nil)))))) .nil) .nil) (.cons (.asg (.nm 6) (.bop .mul false (.lst false (.cons (.cst (.int 0)) .nil)) (.var 2))) (.cons (.ifs (.cmp .eq (.var 4) (.cst (.str (Str.ofString "under")))) (.cons (.asg (.nm 6) (.cmpr false (.bop .add false (.bop .sub false (.var 1) (.var 2)) (.var 7)) (.nm 7) (.rg1 (.var 2)) (.cst (.bl true)) [7])) .nil) .nil) (.cons (.ifs (.cmp .eq (.var 4) (.cst (.str (Str.ofString "depth")))) (.cons (.asg (.nm 6) (.cmpr false (.bi .min false (.cons (.ix (.var 5) (.cst (.int 0))) (.cons (.bop .add false (.bop .sub false (.var 1) (.var 2)) (.var 7)) .nil))) (.nm 7) (.rg1 (.var 2)) (.cst (.bl true)) [7])) .nil) .nil) (.cons (.ifs (.cmp .eq (.var 4) (.cst (.str (Str.ofString "own")))) (.cons (.asg (.nm 6) (.bi .list false (.cons (.var 5) .nil))) (.cons (.asg (.nm 8) (.cmpr false (.bop .add false (.bop .sub false (.var 1) (.var 2)) (.var 7)) (.nm 7) (.rg1 (.var 2)) (.cst (.bl true)) [7])) (.cons (.ifs (.or (.cmp .ne (.bi .len false (.cons (.var 5) .nil)) (.var 2)) (.cmp .ne (.cmpr false (.var 7) (.nm 7) (.rg1 (.var 2)) (.cmp .gt (.ix (.var 5) (.var 7)) (.ix (.var 8) (.var 7))) [7]) (.lst false .nil))) (.cons (.ret (.cst .non)) .nil) .nil) .nil))) .nil) (.cons (.ret (.bi .tuple false (.cons (.var 6) .nil))) .nil)))))))
theorem d__law_habit (C : Cs) [Cold C] (E : XK) (h_len : C.mg "len" = none) (hF__law_habit : FnE C "_law_habit" 4 30) (h_range : C.mg "range" = none) (h_min : C.mg "min" = none) (h_list : C.mg "list" = none) (h_tuple : C.mg "tuple" = none) : DSs (C.at N__law_habit (defScope s__law_habit) E) (defBody s__law_habit) (evSs C.g b__law_habit) := by
  exact (dss_cons (ds_asg (de_v 0) (dg_tup (dgs_cons (dg_n 4) (dgs_cons (dg_n 5) dgs_nil (fun _ => rfl)) (fun _ => rfl)) (fun _ => rfl) (fun _ => rfl)) (fun _ => rfl) (fun _ => rfl) (fun _ => rfl))
  (dss_cons (ds_if (dt_cmp (o := .eq) (de_v 4) de_str (by rfl)) (dss_cons (ds_ret (de_cal hF__law_habit rfl (da_cons (de_ix (de_v 5) (de_bop (o := .mod) (mu := false) (de_v 3) (de_bi (b := .len) (mu := false) rfl h_len (da_cons (de_v 5) da_nil rfl) rfl)) (fun _ _ => rfl)) (da_cons (de_v 1) (da_cons (de_v 2) (da_cons (de_bop (o := .fdiv) (mu := false) (de_v 3) (de_bi (b := .len) (mu := false) rfl h_len (da_cons (de_v 5) da_nil rfl) rfl)) da_nil rfl) rfl) rfl) rfl) rfl (by decide)))
  dss_nil) dss_nil)
  (dss_cons (ds_s 6 (de_bop (o := .mul) (mu := false) (de_lst (mu := false) (da_cons de_int da_nil rfl)) (de_v 2)))
  (dss_cons (ds_if (dt_cmp (o := .eq) (de_v 4) de_str (by rfl)) (dss_cons (ds_setLc (i := 6) rfl rfl (fun env => sw_true (by rfl) (by rfl) (by rfl) (by rfl)) (own := [("_law_k", 7)]) (mu := false) (by rfl) (di_rg1 rfl h_range (de_v 2) rfl) (dg_n 7) dts_nil (de_bop (o := .add) (mu := false) (de_bop (o := .sub) (mu := false) (de_v 1) (de_v 2)) (de_v 7)) (by decide) (fun _ _ => rfl))
  dss_nil) dss_nil)
  (dss_cons (ds_if (dt_cmp (o := .eq) (de_v 4) de_str (by rfl)) (dss_cons (ds_setLc (i := 6) rfl rfl (fun env => sw_true (by rfl) (by rfl) (by rfl) (by rfl)) (own := [("_law_k", 7)]) (mu := false) (by rfl) (di_rg1 rfl h_range (de_v 2) rfl) (dg_n 7) dts_nil (de_bi (b := .min) (mu := false) rfl h_min (da_cons (de_ix (de_v 5) de_int (fun _ _ => rfl)) (da_cons (de_bop (o := .add) (mu := false) (de_bop (o := .sub) (mu := false) (de_v 1) (de_v 2)) (de_v 7)) da_nil rfl) rfl) rfl) (by decide) (fun _ _ => rfl))
  dss_nil) dss_nil)
  (dss_cons (ds_if (dt_cmp (o := .eq) (de_v 4) de_str (by rfl)) (dss_cons (ds_s 6 (de_bi (b := .list) (mu := false) rfl h_list (da_cons (de_v 5) da_nil rfl) rfl))
  (dss_cons (ds_s 8 (de_lcE (own := [("_law_k", 7)]) (mu := false) (by rfl) (di_rg1 rfl h_range (de_v 2) rfl) (dg_n 7) dts_nil (de_bop (o := .add) (mu := false) (de_bop (o := .sub) (mu := false) (de_v 1) (de_v 2)) (de_v 7)) (by decide) (fun _ _ => rfl)))
  (dss_cons (ds_if (DW.dt (dw_or (dt_cmp (o := .ne) (de_bi (b := .len) (mu := false) rfl h_len (da_cons (de_v 5) da_nil rfl) rfl) (de_v 2) (by rfl)) (dw_or1 (dt_cmp (o := .ne) (de_lcE (own := [("_law_k", 7)]) (mu := false) (by rfl) (di_rg1 rfl h_range (de_v 2) rfl) (dg_n 7) (dts_one (dt_cmp (o := .gt) (de_ix (de_v 5) (de_v 7) (fun _ _ => rfl)) (de_ix (de_v 8) (de_v 7) (fun _ _ => rfl)) (by rfl))) (de_v 7) (by decide) (fun _ _ => rfl)) (de_lst (mu := false) da_nil) (by rfl))))) (dss_cons (ds_ret de_non)
  dss_nil) dss_nil)
  dss_nil))) dss_nil)
  (dss_cons (ds_ret (de_bi (b := .tuple) (mu := false) rfl h_tuple (da_cons (de_v 6) da_nil rfl) rfl))
  dss_nil)))))))
/-! ### _law_error_of -/
noncomputable abbrev s__law_error_of : Stmt := top 45
noncomputable def N__law_error_of : List Str := ["_law_call", "e", "_law_kinds", "_law_names", "_law_name"]
theorem sc__law_error_of : FnScope N__law_error_of ["_law_call"] (defScope s__law_error_of) := ⟨rfl, rfl, rfl, by decide +kernel, rfl, by decide +kernel, by decide +kernel⟩
noncomputable def b__law_error_of_t : Ss := (.cons (.expr (.act (.var 0))) .nil)
noncomputable def b__law_error_of_x : Ss := (.cons (.asg (.nm 2) (.lst false (.cons (.eis 1 103) (.cons (.eis 1 104) (.cons (.eis 1 108) .nil))))) (.cons (.asg (.nm 2) (.bop .add false (.var 2) (.lst false (.cons (.eis 1 105) (.cons (.eis 1 102) (.cons (.eis 1 106) .nil)))))) (.cons (.asg (.nm 2) (.bop .add false (.var 2) (.lst false (.cons (.eis 1 107) (.cons (.eis 1 110) (.cons (.eis 1 111) .nil)))))) (.cons (.asg (.nm 2) (.bop .add false (.var 2) (.lst false (.cons (.eis 1 101) (.cons (.eis 1 109) (.cons (.eis 1 113) .nil)))))) (.cons (.asg (.nm 2) (.bop .add false (.var 2) (.lst false (.cons (.eis 1 112) (.cons (.eis 1 114) (.cons (.eis 1 115) .nil)))))) (.cons (.ifs (.or (.cmp .ne (.mth .count (.var 2) (.cons (.cst (.bl true)) .nil)) (.cst (.int 1))) (.not (.eis 1 99))) (.cons (.ret (.tup (.cons (.cst (.str (Str.ofString "other"))) (.cons (.cst (.int 0)) .nil)))) .nil) .nil) (.cons (.asg (.nm 3) (.lst false (.cons (.cst (.str (Str.ofString "count"))) (.cons (.cst (.str (Str.ofString "habit"))) (.cons (.cst (.str (Str.ofString "washers"))) (.cons (.cst (.str (Str.ofString "mug"))) (.cons (.cst (.str (Str.ofString "cup"))) (.cons (.cst (.str (Str.ofString "empty"))) (.cons (.cst (.str (Str.ofString "shelf"))) (.cons (.cst (.str (Str.ofString "name"))) (.cons (.cst (.str (Str.ofString "checkpoint"))) .nil))))))))))) (.cons (.asg (.nm 4) (.ix (.bop .add false (.var 3) (.lst false (.cons (.cst (.str (Str.ofString "kitchen"))) (.cons (.cst (.str (Str.ofString "operation"))) (.cons (.cst (.str (Str.ofString "failed"))) (.cons (.cst (.str (Str.ofString "daybook"))) (.cons (.cst (.str (Str.ofString "notation"))) (.cons (.cst (.str (Str.ofString "decode"))) .nil)))))))) (.mth .index (.var 2) (.cons (.cst (.bl true)) .nil)))) (.cons (.ifs (.cmp .eq (.var 4) (.cst (.str (Str.ofString "kitchen")))) (.cons (.ret (.tup (.cons (.var 4) (.cons (.tup (.cons (.eat 1 "part") (.cons (.eat 1 "index") .nil))) .nil)))) .nil) .nil) (.cons (.ifs (.cmp .inn (.var 4) (.lst false (.cons (.cst (.str (Str.ofString "daybook"))) (.cons (.cst (.str (Str.ofString "notation"))) .nil)))) (.cons (.ret (.tup (.cons (.var 4) (.cons (.tup (.cons (.eat 1 "row") (.cons (.eat 1 "word") .nil))) .nil)))) .nil) .nil) (.cons (.ifs (.cmp .inn (.var 4) (.lst false (.cons (.cst (.str (Str.ofString "operation"))) (.cons (.cst (.str (Str.ofString "failed"))) .nil)))) (.cons (.ret (.tup (.cons (.var 4) (.cons (.ite (.cmp .eq (.var 4) (.cst (.str (Str.ofString "operation")))) (.eat 1 "index") (.eat 1 "row")) .nil)))) .nil) .nil) (.cons (.ret (.tup (.cons (.var 4) (.cons (.ite (.cmp .eq (.var 4) (.cst (.str (Str.ofString "decode")))) (.eat 1 "offset") (.cst (.int 0))) .nil)))) .nil))))))))))))
noncomputable def b__law_error_of : Ss := (.cons (.tra b__law_error_of_t 100 1 b__law_error_of_x) (.cons (.ret (.cst .non)) .nil))
theorem d__law_error_of (C : Cs) [Cold C] (E : XK) (hclo : CloE C) (h_isinstance : C.mg "isinstance" = none) (hEC : ∀ c1 c b, C.g.sub c1 c = some b → ExcC C.T.K (C.T.cl c1)) (hI_TooManyWashers : C.mg "TooManyWashers" = some (.ref (C.T.cl 108)) ∧ ∀ c1 b, C.g.sub c1 108 = some b → PySem.W.kitOne C.T.K (.ref (C.T.cl c1)) (.ref (C.T.cl 108)) = some b) (hI_InvalidHabit : C.mg "InvalidHabit" = some (.ref (C.T.cl 104)) ∧ ∀ c1 b, C.g.sub c1 104 = some b → PySem.W.kitOne C.T.K (.ref (C.T.cl c1)) (.ref (C.T.cl 104)) = some b) (hI_InvalidCount : C.mg "InvalidCount" = some (.ref (C.T.cl 103)) ∧ ∀ c1 b, C.g.sub c1 103 = some b → PySem.W.kitOne C.T.K (.ref (C.T.cl c1)) (.ref (C.T.cl 103)) = some b) (hI_EmptySink : C.mg "EmptySink" = some (.ref (C.T.cl 106)) ∧ ∀ c1 b, C.g.sub c1 106 = some b → PySem.W.kitOne C.T.K (.ref (C.T.cl c1)) (.ref (C.T.cl 106)) = some b) (hI_InvalidCup : C.mg "InvalidCup" = some (.ref (C.T.cl 102)) ∧ ∀ c1 b, C.g.sub c1 102 = some b → PySem.W.kitOne C.T.K (.ref (C.T.cl c1)) (.ref (C.T.cl 102)) = some b) (hI_UnknownMug : C.mg "UnknownMug" = some (.ref (C.T.cl 105)) ∧ ∀ c1 b, C.g.sub c1 105 = some b → PySem.W.kitOne C.T.K (.ref (C.T.cl c1)) (.ref (C.T.cl 105)) = some b) (hI_UnknownCheckpoint : C.mg "UnknownCheckpoint" = some (.ref (C.T.cl 111)) ∧ ∀ c1 b, C.g.sub c1 111 = some b → PySem.W.kitOne C.T.K (.ref (C.T.cl c1)) (.ref (C.T.cl 111)) = some b) (hI_InvalidName : C.mg "InvalidName" = some (.ref (C.T.cl 110)) ∧ ∀ c1 b, C.g.sub c1 110 = some b → PySem.W.kitOne C.T.K (.ref (C.T.cl c1)) (.ref (C.T.cl 110)) = some b) (hI_NotOnShelf : C.mg "NotOnShelf" = some (.ref (C.T.cl 107)) ∧ ∀ c1 b, C.g.sub c1 107 = some b → PySem.W.kitOne C.T.K (.ref (C.T.cl c1)) (.ref (C.T.cl 107)) = some b) (hI_DaybookFailed : C.mg "DaybookFailed" = some (.ref (C.T.cl 113)) ∧ ∀ c1 b, C.g.sub c1 113 = some b → PySem.W.kitOne C.T.K (.ref (C.T.cl c1)) (.ref (C.T.cl 113)) = some b) (hI_InvalidOperation : C.mg "InvalidOperation" = some (.ref (C.T.cl 109)) ∧ ∀ c1 b, C.g.sub c1 109 = some b → PySem.W.kitOne C.T.K (.ref (C.T.cl c1)) (.ref (C.T.cl 109)) = some b) (hI_InvalidKitchen : C.mg "InvalidKitchen" = some (.ref (C.T.cl 101)) ∧ ∀ c1 b, C.g.sub c1 101 = some b → PySem.W.kitOne C.T.K (.ref (C.T.cl c1)) (.ref (C.T.cl 101)) = some b) (hI_DecodeError : C.mg "DecodeError" = some (.ref (C.T.cl 115)) ∧ ∀ c1 b, C.g.sub c1 115 = some b → PySem.W.kitOne C.T.K (.ref (C.T.cl c1)) (.ref (C.T.cl 115)) = some b) (hI_NotationError : C.mg "NotationError" = some (.ref (C.T.cl 114)) ∧ ∀ c1 b, C.g.sub c1 114 = some b → PySem.W.kitOne C.T.K (.ref (C.T.cl c1)) (.ref (C.T.cl 114)) = some b) (hI_DaybookError : C.mg "DaybookError" = some (.ref (C.T.cl 112)) ∧ ∀ c1 b, C.g.sub c1 112 = some b → PySem.W.kitOne C.T.K (.ref (C.T.cl c1)) (.ref (C.T.cl 112)) = some b) (hI_ValueError : ∀ c1 b, C.g.sub c1 99 = some b → PySem.W.kitOne C.T.K (.ref (C.T.cl c1)) (.type "ValueError") = some b) (h_ValueError : C.mg "ValueError" = none) (hQ_index : ∀ c1 b, C.g.sub c1 c1 = some b → XfC C.T.K (C.T.cl c1) ∧ PySem.W.findIn C.T.K (.ref (C.T.cl c1)) "index" = some none) (hQ_part : ∀ c1 b, C.g.sub c1 c1 = some b → XfC C.T.K (C.T.cl c1) ∧ PySem.W.findIn C.T.K (.ref (C.T.cl c1)) "part" = some none) (hQ_word : ∀ c1 b, C.g.sub c1 c1 = some b → XfC C.T.K (C.T.cl c1) ∧ PySem.W.findIn C.T.K (.ref (C.T.cl c1)) "word" = some none) (hQ_row : ∀ c1 b, C.g.sub c1 c1 = some b → XfC C.T.K (C.T.cl c1) ∧ PySem.W.findIn C.T.K (.ref (C.T.cl c1)) "row" = some none) (hQ_offset : ∀ c1 b, C.g.sub c1 c1 = some b → XfC C.T.K (C.T.cl c1) ∧ PySem.W.findIn C.T.K (.ref (C.T.cl c1)) "offset" = some none) (hY_MugError : C.mg "MugError" = some (.ref (C.T.cl 100)) ∧ ∀ c1 b, C.g.sub c1 100 = some b → PySem.W.exmOne C.T.K (.ref (C.T.cl c1)) (.ref (C.T.cl 100)) = some b) (htrb : C.trb = true) (hexc : C.T.exc = none) : DSs (C.at N__law_error_of (defScope s__law_error_of) E) (defBody s__law_error_of) (evSs C.g b__law_error_of) := by
  exact (dss_cons (ds_tra htrb hexc (fun _ => (dss_cons (ds_expr (de_act (i := 0) hclo rfl (by first | exact Or.inl rfl | exact Or.inr (Or.inl rfl) | exact Or.inr (Or.inr rfl)) (by decide) (by decide)) (fun _ => rfl))
  dss_nil)) (fun a c1 dd => (dss_cons (ds_s 2 (de_lst (mu := false) (da_cons (de_eis (i := 1) rfl rfl h_isinstance rfl (by first | exact Or.inl rfl | exact Or.inr (Or.inl rfl) | exact Or.inr (Or.inr rfl)) (by decide) (by decide) (eis_own rfl hI_InvalidCount.1 (by decide) hI_InvalidCount.2 (fun c1 b h => hEC c1 _ b h))) (da_cons (de_eis (i := 1) rfl rfl h_isinstance rfl (by first | exact Or.inl rfl | exact Or.inr (Or.inl rfl) | exact Or.inr (Or.inr rfl)) (by decide) (by decide) (eis_own rfl hI_InvalidHabit.1 (by decide) hI_InvalidHabit.2 (fun c1 b h => hEC c1 _ b h))) (da_cons (de_eis (i := 1) rfl rfl h_isinstance rfl (by first | exact Or.inl rfl | exact Or.inr (Or.inl rfl) | exact Or.inr (Or.inr rfl)) (by decide) (by decide) (eis_own rfl hI_TooManyWashers.1 (by decide) hI_TooManyWashers.2 (fun c1 b h => hEC c1 _ b h))) da_nil rfl) rfl) rfl)))
  (dss_cons (ds_s 2 (de_bop (o := .add) (mu := false) (de_v 2) (de_lst (mu := false) (da_cons (de_eis (i := 1) rfl rfl h_isinstance rfl (by first | exact Or.inl rfl | exact Or.inr (Or.inl rfl) | exact Or.inr (Or.inr rfl)) (by decide) (by decide) (eis_own rfl hI_UnknownMug.1 (by decide) hI_UnknownMug.2 (fun c1 b h => hEC c1 _ b h))) (da_cons (de_eis (i := 1) rfl rfl h_isinstance rfl (by first | exact Or.inl rfl | exact Or.inr (Or.inl rfl) | exact Or.inr (Or.inr rfl)) (by decide) (by decide) (eis_own rfl hI_InvalidCup.1 (by decide) hI_InvalidCup.2 (fun c1 b h => hEC c1 _ b h))) (da_cons (de_eis (i := 1) rfl rfl h_isinstance rfl (by first | exact Or.inl rfl | exact Or.inr (Or.inl rfl) | exact Or.inr (Or.inr rfl)) (by decide) (by decide) (eis_own rfl hI_EmptySink.1 (by decide) hI_EmptySink.2 (fun c1 b h => hEC c1 _ b h))) da_nil rfl) rfl) rfl))))
  (dss_cons (ds_s 2 (de_bop (o := .add) (mu := false) (de_v 2) (de_lst (mu := false) (da_cons (de_eis (i := 1) rfl rfl h_isinstance rfl (by first | exact Or.inl rfl | exact Or.inr (Or.inl rfl) | exact Or.inr (Or.inr rfl)) (by decide) (by decide) (eis_own rfl hI_NotOnShelf.1 (by decide) hI_NotOnShelf.2 (fun c1 b h => hEC c1 _ b h))) (da_cons (de_eis (i := 1) rfl rfl h_isinstance rfl (by first | exact Or.inl rfl | exact Or.inr (Or.inl rfl) | exact Or.inr (Or.inr rfl)) (by decide) (by decide) (eis_own rfl hI_InvalidName.1 (by decide) hI_InvalidName.2 (fun c1 b h => hEC c1 _ b h))) (da_cons (de_eis (i := 1) rfl rfl h_isinstance rfl (by first | exact Or.inl rfl | exact Or.inr (Or.inl rfl) | exact Or.inr (Or.inr rfl)) (by decide) (by decide) (eis_own rfl hI_UnknownCheckpoint.1 (by decide) hI_UnknownCheckpoint.2 (fun c1 b h => hEC c1 _ b h))) da_nil rfl) rfl) rfl))))
  (dss_cons (ds_s 2 (de_bop (o := .add) (mu := false) (de_v 2) (de_lst (mu := false) (da_cons (de_eis (i := 1) rfl rfl h_isinstance rfl (by first | exact Or.inl rfl | exact Or.inr (Or.inl rfl) | exact Or.inr (Or.inr rfl)) (by decide) (by decide) (eis_own rfl hI_InvalidKitchen.1 (by decide) hI_InvalidKitchen.2 (fun c1 b h => hEC c1 _ b h))) (da_cons (de_eis (i := 1) rfl rfl h_isinstance rfl (by first | exact Or.inl rfl | exact Or.inr (Or.inl rfl) | exact Or.inr (Or.inr rfl)) (by decide) (by decide) (eis_own rfl hI_InvalidOperation.1 (by decide) hI_InvalidOperation.2 (fun c1 b h => hEC c1 _ b h))) (da_cons (de_eis (i := 1) rfl rfl h_isinstance rfl (by first | exact Or.inl rfl | exact Or.inr (Or.inl rfl) | exact Or.inr (Or.inr rfl)) (by decide) (by decide) (eis_own rfl hI_DaybookFailed.1 (by decide) hI_DaybookFailed.2 (fun c1 b h => hEC c1 _ b h))) da_nil rfl) rfl) rfl))))
  (dss_cons (ds_s 2 (de_bop (o := .add) (mu := false) (de_v 2) (de_lst (mu := false) (da_cons (de_eis (i := 1) rfl rfl h_isinstance rfl (by first | exact Or.inl rfl | exact Or.inr (Or.inl rfl) | exact Or.inr (Or.inr rfl)) (by decide) (by decide) (eis_own rfl hI_DaybookError.1 (by decide) hI_DaybookError.2 (fun c1 b h => hEC c1 _ b h))) (da_cons (de_eis (i := 1) rfl rfl h_isinstance rfl (by first | exact Or.inl rfl | exact Or.inr (Or.inl rfl) | exact Or.inr (Or.inr rfl)) (by decide) (by decide) (eis_own rfl hI_NotationError.1 (by decide) hI_NotationError.2 (fun c1 b h => hEC c1 _ b h))) (da_cons (de_eis (i := 1) rfl rfl h_isinstance rfl (by first | exact Or.inl rfl | exact Or.inr (Or.inl rfl) | exact Or.inr (Or.inr rfl)) (by decide) (by decide) (eis_own rfl hI_DecodeError.1 (by decide) hI_DecodeError.2 (fun c1 b h => hEC c1 _ b h))) da_nil rfl) rfl) rfl))))
  (dss_cons (ds_if (DW.dt (dw_or (dt_cmp (o := .ne) (de_mth1 (f := .count) (de_v 2) (da_cons de_bl da_nil rfl) rfl rfl (by decide) rfl) de_int (by rfl)) (dw_or1 (dt_not (dt_val (de_eis (i := 1) rfl rfl h_isinstance rfl (by first | exact Or.inl rfl | exact Or.inr (Or.inl rfl) | exact Or.inr (Or.inr rfl)) (by decide) (by decide) (eis_blt (t := "ValueError") rfl h_ValueError (by decide +kernel) (by decide) (by decide) hI_ValueError (fun c1 b h => hEC c1 _ b h))) (fun _ _ => rfl)))))) (dss_cons (ds_ret (de_tup (da_cons de_str (da_cons de_int da_nil rfl) rfl)))
  dss_nil) dss_nil)
  (dss_cons (ds_s 3 (de_lst (mu := false) (da_cons de_str (da_cons de_str (da_cons de_str (da_cons de_str (da_cons de_str (da_cons de_str (da_cons de_str (da_cons de_str (da_cons de_str da_nil rfl) rfl) rfl) rfl) rfl) rfl) rfl) rfl) rfl)))
  (dss_cons (ds_s 4 (de_ix (de_bop (o := .add) (mu := false) (de_v 3) (de_lst (mu := false) (da_cons de_str (da_cons de_str (da_cons de_str (da_cons de_str (da_cons de_str (da_cons de_str da_nil rfl) rfl) rfl) rfl) rfl) rfl))) (de_mth1 (f := .index) (de_v 2) (da_cons de_bl da_nil rfl) rfl rfl (by decide) rfl) (fun _ _ => rfl)))
  (dss_cons (ds_if (dt_cmp (o := .eq) (de_v 4) de_str (by rfl)) (dss_cons (ds_ret (de_tup (da_cons (de_v 4) (da_cons (de_tup (da_cons (de_eat (i := 1) rfl rfl (by first | exact Or.inl rfl | exact Or.inr (Or.inl rfl) | exact Or.inr (Or.inr rfl)) (by decide) (by decide) hQ_part (fun _ => rfl)) (da_cons (de_eat (i := 1) rfl rfl (by first | exact Or.inl rfl | exact Or.inr (Or.inl rfl) | exact Or.inr (Or.inr rfl)) (by decide) (by decide) hQ_index (fun _ => rfl)) da_nil rfl) rfl)) da_nil rfl) rfl)))
  dss_nil) dss_nil)
  (dss_cons (ds_if (dt_cmp (o := .inn) (de_v 4) (de_lst (mu := false) (da_cons de_str (da_cons de_str da_nil rfl) rfl)) (by rfl)) (dss_cons (ds_ret (de_tup (da_cons (de_v 4) (da_cons (de_tup (da_cons (de_eat (i := 1) rfl rfl (by first | exact Or.inl rfl | exact Or.inr (Or.inl rfl) | exact Or.inr (Or.inr rfl)) (by decide) (by decide) hQ_row (fun _ => rfl)) (da_cons (de_eat (i := 1) rfl rfl (by first | exact Or.inl rfl | exact Or.inr (Or.inl rfl) | exact Or.inr (Or.inr rfl)) (by decide) (by decide) hQ_word (fun _ => rfl)) da_nil rfl) rfl)) da_nil rfl) rfl)))
  dss_nil) dss_nil)
  (dss_cons (ds_if (dt_cmp (o := .inn) (de_v 4) (de_lst (mu := false) (da_cons de_str (da_cons de_str da_nil rfl) rfl)) (by rfl)) (dss_cons (ds_ret (de_tup (da_cons (de_v 4) (da_cons (de_ite (dt_cmp (o := .eq) (de_v 4) de_str (by rfl)) (de_eat (i := 1) rfl rfl (by first | exact Or.inl rfl | exact Or.inr (Or.inl rfl) | exact Or.inr (Or.inr rfl)) (by decide) (by decide) hQ_index (fun _ => rfl)) (de_eat (i := 1) rfl rfl (by first | exact Or.inl rfl | exact Or.inr (Or.inl rfl) | exact Or.inr (Or.inr rfl)) (by decide) (by decide) hQ_row (fun _ => rfl))) da_nil rfl) rfl)))
  dss_nil) dss_nil)
  (dss_cons (ds_ret (de_tup (da_cons (de_v 4) (da_cons (de_ite (dt_cmp (o := .eq) (de_v 4) de_str (by rfl)) (de_eat (i := 1) rfl rfl (by first | exact Or.inl rfl | exact Or.inr (Or.inl rfl) | exact Or.inr (Or.inr rfl)) (by decide) (by decide) hQ_offset (fun _ => rfl)) de_int) da_nil rfl) rfl)))
  dss_nil))))))))))))) rfl rfl ⟨hY_MugError.1, rfl, by decide, hY_MugError.2⟩)
  (dss_cons (ds_ret de_non)
  dss_nil))
/-! ### law -/
noncomputable abbrev s_law : Stmt := top 46
noncomputable def N_law : List Str := ["_law_script", "_law_d", "_law_step", "_law_spec_here", "_law_two", "_law_washer_here", "_law_count", "_law_size", "_law_found", "_law_turn", "_law_wash", "_law_habit_here"]
theorem sc_law : FnScope N_law ["_law_script"] (defScope s_law) := ⟨rfl, rfl, rfl, by decide +kernel, rfl, by decide +kernel, by decide +kernel⟩
noncomputable def b_law_2 : Ss := (.cons (.asg (.nm 10) (.ix (.lst false (.cons (.cal 23 (.cons (.var 1) (.cons (.cst (.int 20)) .nil))) (.cons (.bop .sub false (.bop .pow false (.cst (.int 10)) (.cst (.int 18))) (.cal 23 (.cons (.var 1) (.cons (.cst (.int 99)) .nil)))) .nil))) (.cal 23 (.cons (.var 1) (.cons (.cst (.int 2)) .nil))))) (.cons (.asg (.nm 11) (.cal 30 (.cons (.var 3) (.cons (.var 6) (.cons (.var 7) (.cons (.var 10) .nil)))))) (.cons (.ifs (.cmp .isN (.var 11) (.cst .non)) (.cons (.ifs (.cmp .ne (.hof 31 (.cons (.lam 0) .nil)) (.tup (.cons (.cst (.str (Str.ofString "habit"))) (.cons (.cst (.int 0)) .nil)))) (.cons (.ret (.cst (.bl false))) .nil) .nil) .nil) (.cons (.ifs (.not (.cal 27 (.cons (.omt "habit_for" (.var 5) (.cons (.var 6) (.cons (.var 7) (.cons (.var 10) .nil)))) (.cons (.var 11) .nil)))) (.cons (.ret (.cst (.bl false))) .nil) .nil) .nil)) .nil)))
noncomputable def b_law_1 : Ss := (.cons (.asg (.nm 3) (.cal 24 (.cons (.var 1) (.cons (.cst (.int 2)) .nil)))) (.cons (.ifs (.cmp .eq (.cal 23 (.cons (.var 1) (.cons (.cst (.int 5)) .nil))) (.cst (.int 0))) (.cons (.asg (.nm 4) (.tup (.cons (.cst (.str (Str.ofString "turn"))) (.cons (.tup (.cons (.tup (.cons (.cst (.str (Str.ofString "top"))) (.cons (.tup .nil) .nil))) (.cons (.tup (.cons (.cst (.str (Str.ofString "under"))) (.cons (.tup .nil) .nil))) .nil))) .nil)))) (.cons (.asg (.nm 3) (.tup (.cons (.cst (.str (Str.ofString "turn"))) (.cons (.tup (.cons (.var 4) (.cons (.tup (.cons (.cst (.str (Str.ofString "turn"))) (.cons (.tup (.cons (.tup (.cons (.cst (.str (Str.ofString "under"))) (.cons (.tup .nil) .nil))) (.cons (.tup (.cons (.cst (.str (Str.ofString "top"))) (.cons (.tup .nil) .nil))) (.cons (.cal 24 (.cons (.var 1) (.cons (.cst (.int 0)) .nil))) .nil)))) .nil))) .nil))) .nil)))) .nil)) .nil) (.cons (.asg (.tp (.cons (.nm 5) (.cons (.nm 6) .nil))) (.tup (.cons (.cal 26 (.cons (.var 3) .nil)) (.cons (.bop .add false (.cst (.int 2)) (.cal 23 (.cons (.var 1) (.cons (.cst (.int 11)) .nil)))) .nil)))) (.cons (.asg (.nm 7) (.bop .add false (.cst (.int 1)) (.cal 23 (.cons (.var 1) (.cons (.ix (.lst false (.cons (.bi .min false (.cons (.cst (.int 3)) (.cons (.var 6) .nil))) (.cons (.var 6) .nil))) (.cal 23 (.cons (.var 1) (.cons (.cst (.int 2)) .nil)))) .nil))))) (.cons (.asg (.nm 8) (.lst false (.cons (.att (.var 5) "label") (.cons (.att (.var 5) "repeat_after") (.cons (.cal 21 (.cons (.var 5) .nil)) (.cons (.isc (.var 5) 1) .nil)))))) (.cons (.ifs (.not (.cal 27 (.cons (.var 8) (.cons (.lst false (.cons (.ix (.var 3) (.cst (.int 0))) (.cons (.cal 28 (.cons (.var 3) .nil)) (.cons (.cal 29 (.cons (.var 3) .nil)) (.cons (.cst (.bl true)) .nil))))) .nil)))) (.cons (.ret (.cst (.bl false))) .nil) .nil) (.cons (.forr (.nm 9) (.rg1 (.cst (.int 4))) b_law_2) .nil)))))))
noncomputable def b_law : Ss := (.cons (.asg (.nm 1) (.cal 22 (.cons (.var 0) (.cons (.cst (.int 31)) .nil)))) (.cons (.forr (.nm 2) (.rg1 (.cst (.int 5))) b_law_1) (.cons (.ret (.cst (.bl true))) .nil)))
noncomputable abbrev lam_0 : Lam := mkLam ("law.<locals>." ++ "<lambda>") (nE (eE (nE (eE (nE (eS (nS (sS (nS (sS (nS (sS (nS (defBody s_law) 1)) 6)) 2)) 0)) 0)) 0)) 1)
theorem li_0 : LamIn (defScope s_law) N_law lam_0 := ⟨rfl, rfl, rfl, by decide +kernel, by decide +kernel, by decide +kernel, fun s cl dV doc pm cv ctv => ⟨fun _ e => by subst e; exact .of_eq rfl, fun h => absurd h (by decide)⟩⟩
noncomputable def bl_0 : E := (.omt "habit_for" (.var 5) (.cons (.var 6) (.cons (.var 7) (.cons (.var 10) .nil))))
theorem dl_0 (C : Cs) [Cold C] (E0 E : XK) (hB_habit_for_3 : MetOk C "habit_for" 3) : DE ((C.at N_law (defScope s_law) E0).lam lam_0 E) lam_0.body (evE C.g bl_0) := by
  exact (de_met hB_habit_for_3 (de_v 5) (da_cons (de_v 6) (da_cons (de_v 7) (da_cons (de_v 10) da_nil rfl) rfl) rfl) rfl rfl (by decide) rfl)
theorem d_law (C : Cs) [Cold C] (E : XK) (hnm : C.g.nm = C.T.nm) {cT PT : Addr} {kc : Nat} (hF__law_random : FnE C "_law_random" 2 22) (h_range : C.mg "range" = none) (hF__law_spec : FnE C "_law_spec" 2 24) (hF__law_below : FnE C "_law_below" 2 23) (hF__law_washer : FnE C "_law_washer" 1 26) (h_min : C.mg "min" = none) (h_isinstance : C.mg "isinstance" = none) (hUC : ∀ c q b, C.g.isc c q = some b → InsC C.T.K (C.T.cl c)) (hU_Washer : C.mg "Washer" = some (.ref (C.T.cl 1)) ∧ ∀ c b, C.g.isc c 1 = some b → PySem.W.kitOne C.T.K (.ref (C.T.cl c)) (.ref (C.T.cl 1)) = some b) (hF_describe : FnE C "describe" 1 21) (hA_repeat_after : AttOk C "repeat_after") (hA_label : AttOk C "label") (hF__law_words : FnE C "_law_words" 1 29) (hF__law_period : FnE C "_law_period" 1 28) (hF__law_equal : FnE C "_law_equal" 2 27) (hF__law_habit : FnE C "_law_habit" 4 30) (hT : MkrT (C.at N_law (defScope s_law) E) cT PT "law.<locals>.") (hL_0 : C.T.lams[0]? = some lam_0) (hMk : MkrE (C.at N_law (defScope s_law) E) kc) (hH__law_error_of : HofE C "_law_error_of" 1 31 kc) (hB_habit_for_3 : MetOk C "habit_for" 3) : DSs (C.at N_law (defScope s_law) E) (defBody s_law) (evSs C.g b_law) := by
  exact (dss_cons (ds_s 1 (de_cal hF__law_random rfl (da_cons (de_v 0) (da_cons de_int da_nil rfl) rfl) rfl (by decide)))
  (dss_cons (ds_for (di_rg1 rfl h_range de_int rfl) (dg_n 2) (dss_cons (ds_s 3 (de_cal hF__law_spec rfl (da_cons (de_v 1) (da_cons de_int da_nil rfl) rfl) rfl (by decide)))
  (dss_cons (ds_if (dt_cmp (o := .eq) (de_cal hF__law_below rfl (da_cons (de_v 1) (da_cons de_int da_nil rfl) rfl) rfl (by decide)) de_int (by rfl)) (dss_cons (ds_s 4 (de_tup (da_cons de_str (da_cons (de_tup (da_cons (de_tup (da_cons de_str (da_cons (de_tup da_nil) da_nil rfl) rfl)) (da_cons (de_tup (da_cons de_str (da_cons (de_tup da_nil) da_nil rfl) rfl)) da_nil rfl) rfl)) da_nil rfl) rfl)))
  (dss_cons (ds_s 3 (de_tup (da_cons de_str (da_cons (de_tup (da_cons (de_v 4) (da_cons (de_tup (da_cons de_str (da_cons (de_tup (da_cons (de_tup (da_cons de_str (da_cons (de_tup da_nil) da_nil rfl) rfl)) (da_cons (de_tup (da_cons de_str (da_cons (de_tup da_nil) da_nil rfl) rfl)) (da_cons (de_cal hF__law_spec rfl (da_cons (de_v 1) (da_cons de_int da_nil rfl) rfl) rfl (by decide)) da_nil rfl) rfl) rfl)) da_nil rfl) rfl)) da_nil rfl) rfl)) da_nil rfl) rfl)))
  dss_nil)) dss_nil)
  (dss_cons (ds_asg (de_tup (da_cons (de_cal hF__law_washer rfl (da_cons (de_v 3) da_nil rfl) rfl (by decide)) (da_cons (de_bop (o := .add) (mu := false) de_int (de_cal hF__law_below rfl (da_cons (de_v 1) (da_cons de_int da_nil rfl) rfl) rfl (by decide))) da_nil rfl) rfl)) (dg_tup (dgs_cons (dg_n 5) (dgs_cons (dg_n 6) dgs_nil (fun _ => rfl)) (fun _ => rfl)) (fun _ => rfl) (fun _ => rfl)) (fun _ => rfl) (fun _ => rfl) (fun _ => rfl))
  (dss_cons (ds_s 7 (de_bop (o := .add) (mu := false) de_int (de_cal hF__law_below rfl (da_cons (de_v 1) (da_cons (de_ix (de_lst (mu := false) (da_cons (de_bi (b := .min) (mu := false) rfl h_min (da_cons de_int (da_cons (de_v 6) da_nil rfl) rfl) rfl) (da_cons (de_v 6) da_nil rfl) rfl)) (de_cal hF__law_below rfl (da_cons (de_v 1) (da_cons de_int da_nil rfl) rfl) rfl (by decide)) (fun _ _ => rfl)) da_nil rfl) rfl) rfl (by decide))))
  (dss_cons (ds_s 8 (de_lst (mu := false) (da_cons (de_att hA_label hnm (de_v 5) rfl) (da_cons (de_att hA_repeat_after hnm (de_v 5) rfl) (da_cons (de_cal hF_describe rfl (da_cons (de_v 5) da_nil rfl) rfl (by decide)) (da_cons (de_isc rfl h_isinstance (de_v 5) rfl (isc_own rfl hU_Washer.1 (by decide) hU_Washer.2 (fun c b h => hUC c _ b h))) da_nil rfl) rfl) rfl) rfl)))
  (dss_cons (ds_if (dt_not (dt_val (de_cal hF__law_equal rfl (da_cons (de_v 8) (da_cons (de_lst (mu := false) (da_cons (de_ix (de_v 3) de_int (fun _ _ => rfl)) (da_cons (de_cal hF__law_period rfl (da_cons (de_v 3) da_nil rfl) rfl (by decide)) (da_cons (de_cal hF__law_words rfl (da_cons (de_v 3) da_nil rfl) rfl (by decide)) (da_cons de_bl da_nil rfl) rfl) rfl) rfl)) da_nil rfl) rfl) rfl (by decide)) (fun _ _ => rfl))) (dss_cons (ds_ret de_bl)
  dss_nil) dss_nil)
  (dss_cons (ds_for (di_rg1 rfl h_range de_int rfl) (dg_n 9) (dss_cons (ds_s 10 (de_ix (de_lst (mu := false) (da_cons (de_cal hF__law_below rfl (da_cons (de_v 1) (da_cons de_int da_nil rfl) rfl) rfl (by decide)) (da_cons (de_bop (o := .sub) (mu := false) (de_bop (o := .pow) (mu := false) de_int de_int) (de_cal hF__law_below rfl (da_cons (de_v 1) (da_cons de_int da_nil rfl) rfl) rfl (by decide))) da_nil rfl) rfl)) (de_cal hF__law_below rfl (da_cons (de_v 1) (da_cons de_int da_nil rfl) rfl) rfl (by decide)) (fun _ _ => rfl)))
  (dss_cons (ds_s 11 (de_cal hF__law_habit rfl (da_cons (de_v 3) (da_cons (de_v 6) (da_cons (de_v 7) (da_cons (de_v 10) da_nil rfl) rfl) rfl) rfl) rfl (by decide)))
  (dss_cons (ds_if (dt_cmp (o := .isN) (de_v 11) de_non (by rfl)) (dss_cons (ds_if (dt_cmp (o := .ne) (de_hof kc hMk hH__law_error_of rfl (da_cons (de_lam hT hL_0 rfl rfl rfl rfl rfl li_0.free (fun _ => rfl)) da_nil rfl) rfl (by decide)) (de_tup (da_cons de_str (da_cons de_int da_nil rfl) rfl)) (by rfl)) (dss_cons (ds_ret de_bl)
  dss_nil) dss_nil)
  dss_nil) (dss_cons (ds_if (dt_not (dt_val (de_cal hF__law_equal rfl (da_cons (de_met hB_habit_for_3 (de_v 5) (da_cons (de_v 6) (da_cons (de_v 7) (da_cons (de_v 10) da_nil rfl) rfl) rfl) rfl rfl (by decide) rfl) (da_cons (de_v 11) da_nil rfl) rfl) rfl (by decide)) (fun _ _ => rfl))) (dss_cons (ds_ret de_bl)
  dss_nil) dss_nil)
  dss_nil))
  dss_nil))) (fun _ _ => rfl))
  dss_nil))))))) (fun _ _ => rfl))
  (dss_cons (ds_ret de_bl)
  dss_nil)))
end K31

namespace K31
open PySem PySem.Spec PyProof.Rows L2 Dv
/-! ### the tables -/
-- NUM Kitchen 0
-- NUM Washer 1
-- NUM TopWasher 2
-- NUM UnderWasher 3
-- NUM DepthWasher 4
-- NUM OwnWasher 5
-- NUM TurnWasher 6
-- NUM InvalidCount 103
-- NUM TooManyWashers 108
-- NUM InvalidHabit 104
-- NUM EmptySink 106
-- NUM InvalidCup 102
-- NUM UnknownMug 105
-- NUM UnknownCheckpoint 111
-- NUM InvalidName 110
-- NUM NotOnShelf 107
-- NUM DaybookFailed 113
-- NUM InvalidOperation 109
-- NUM InvalidKitchen 101
-- NUM DecodeError 115
-- NUM NotationError 114
-- NUM DaybookError 112
-- NUM MugError 100
-- NUM F:_law_random 22
-- NUM F:_law_below 23
-- NUM F:_law_spec 24
-- NUM F:Washer___init__ 6
-- NUM F:TopWasher___init__ 11
-- NUM F:UnderWasher___init__ 12
-- NUM F:is_number 5
-- NUM F:DepthWasher___init__ 14
-- NUM F:OwnWasher___init__ 16
-- NUM F:_law_own 25
-- NUM F:Washer_repeat_after 7
-- NUM F:common_multiple 20
-- NUM F:TurnWasher___init__ 18
-- NUM F:_law_washer 26
-- NUM F:describe 21
-- NUM F:_law_words 29
-- NUM F:_law_period 28
-- NUM F:_law_equal 27
-- NUM F:_law_habit 30
-- NUM F:_law_error_of 31
-- NUM F:Washer_depth 8
-- NUM F:UnderWasher_depth 13
-- NUM F:DepthWasher_depth 15
-- NUM F:Washer_habit_in 10
-- NUM F:OwnWasher_habit_in 17
-- NUM F:is_habit 1
-- NUM F:Washer_habit_for 9
-- NUM F:TurnWasher_habit_in 19
-- NUM F:law 32
noncomputable def nmT : Nat → List Str
  | 0 => ["shelf", "customs"]
  | 1 => ["label", "rounds"]
  | 2 => ["label", "rounds"]
  | 3 => ["label", "rounds"]
  | 4 => ["label", "rounds", "level"]
  | 5 => ["label", "rounds", "depths"]
  | 6 => ["label", "rounds", "parts"]
  | _ => []
noncomputable def propT (c : Nat) (f : Str) : Option Nat :=
  if f = "repeat_after" then (if c = 1 then some 7 else if c = 2 then some 7 else if c = 3 then some 7 else if c = 4 then some 7 else if c = 5 then some 7 else if c = 6 then some 7 else none) else none
noncomputable def methT (c : Nat) (f : Str) (n : Nat) : Option Nat :=
  if f = "depth" ∧ n = 2 then (if c = 1 then some 8 else if c = 2 then some 8 else if c = 3 then some 13 else if c = 4 then some 15 else if c = 5 then some 8 else if c = 6 then some 8 else none) else if f = "habit_for" ∧ n = 3 then (if c = 1 then some 9 else if c = 2 then some 9 else if c = 3 then some 9 else if c = 4 then some 9 else if c = 5 then some 9 else if c = 6 then some 9 else none) else if f = "habit_in" ∧ n = 3 then (if c = 1 then some 10 else if c = 2 then some 10 else if c = 3 then some 10 else if c = 4 then some 10 else if c = 5 then some 17 else if c = 6 then some 19 else none) else none
theorem meth_depth_2 (c : Nat) : methT c "depth" 2 = if c = 1 then some 8 else if c = 2 then some 8 else if c = 3 then some 13 else if c = 4 then some 15 else if c = 5 then some 8 else if c = 6 then some 8 else none := rfl
theorem methI_depth_2 {c i : Nat} (h : methT c "depth" 2 = some i) : (c = 1 ∧ i = 8) ∨ (c = 2 ∧ i = 8) ∨ (c = 3 ∧ i = 13) ∨ (c = 4 ∧ i = 15) ∨ (c = 5 ∧ i = 8) ∨ (c = 6 ∧ i = 8) := by
  rw [meth_depth_2] at h
  repeat' split at h
  all_goals simp_all
theorem meth_habit_for_3 (c : Nat) : methT c "habit_for" 3 = if c = 1 then some 9 else if c = 2 then some 9 else if c = 3 then some 9 else if c = 4 then some 9 else if c = 5 then some 9 else if c = 6 then some 9 else none := rfl
theorem methI_habit_for_3 {c i : Nat} (h : methT c "habit_for" 3 = some i) : (c = 1 ∧ i = 9) ∨ (c = 2 ∧ i = 9) ∨ (c = 3 ∧ i = 9) ∨ (c = 4 ∧ i = 9) ∨ (c = 5 ∧ i = 9) ∨ (c = 6 ∧ i = 9) := by
  rw [meth_habit_for_3] at h
  repeat' split at h
  all_goals simp_all
theorem meth_habit_in_3 (c : Nat) : methT c "habit_in" 3 = if c = 1 then some 10 else if c = 2 then some 10 else if c = 3 then some 10 else if c = 4 then some 10 else if c = 5 then some 17 else if c = 6 then some 19 else none := rfl
theorem methI_habit_in_3 {c i : Nat} (h : methT c "habit_in" 3 = some i) : (c = 1 ∧ i = 10) ∨ (c = 2 ∧ i = 10) ∨ (c = 3 ∧ i = 10) ∨ (c = 4 ∧ i = 10) ∨ (c = 5 ∧ i = 17) ∨ (c = 6 ∧ i = 19) := by
  rw [meth_habit_in_3] at h
  repeat' split at h
  all_goals simp_all
theorem prop_depths (c : Nat) : propT c "depths" = none := rfl
theorem prop_label (c : Nat) : propT c "label" = none := rfl
theorem prop_level (c : Nat) : propT c "level" = none := rfl
theorem prop_parts (c : Nat) : propT c "parts" = none := rfl
theorem prop_repeat_after (c : Nat) : propT c "repeat_after" = if c = 1 then some 7 else if c = 2 then some 7 else if c = 3 then some 7 else if c = 4 then some 7 else if c = 5 then some 7 else if c = 6 then some 7 else none := rfl
theorem propI_repeat_after {c i : Nat} (h : propT c "repeat_after" = some i) : (c = 1 ∧ i = 7) ∨ (c = 2 ∧ i = 7) ∨ (c = 3 ∧ i = 7) ∨ (c = 4 ∧ i = 7) ∨ (c = 5 ∧ i = 7) ∨ (c = 6 ∧ i = 7) := by
  rw [prop_repeat_after] at h
  repeat' split at h
  all_goals simp_all
theorem prop_rounds (c : Nat) : propT c "rounds" = none := rfl
theorem notF_depth (c : Nat) : ¬ (("depth" : Str) ∈ nmT c) := by
  unfold nmT
  split <;> decide
theorem inF_depths (c : Nat) (h : ("depths" : Str) ∈ nmT c) : c = 5 := by
  unfold nmT at h
  split at h <;> first | (simp; done) | exact absurd h (by decide)
theorem notF_habit_for (c : Nat) : ¬ (("habit_for" : Str) ∈ nmT c) := by
  unfold nmT
  split <;> decide
theorem notF_habit_in (c : Nat) : ¬ (("habit_in" : Str) ∈ nmT c) := by
  unfold nmT
  split <;> decide
theorem inF_label (c : Nat) (h : ("label" : Str) ∈ nmT c) : c = 1 ∨ c = 2 ∨ c = 3 ∨ c = 4 ∨ c = 5 ∨ c = 6 := by
  unfold nmT at h
  split at h <;> first | (simp; done) | exact absurd h (by decide)
theorem inF_level (c : Nat) (h : ("level" : Str) ∈ nmT c) : c = 4 := by
  unfold nmT at h
  split at h <;> first | (simp; done) | exact absurd h (by decide)
theorem inF_parts (c : Nat) (h : ("parts" : Str) ∈ nmT c) : c = 6 := by
  unfold nmT at h
  split at h <;> first | (simp; done) | exact absurd h (by decide)
theorem notF_repeat_after (c : Nat) : ¬ (("repeat_after" : Str) ∈ nmT c) := by
  unfold nmT
  split <;> decide
theorem inF_rounds (c : Nat) (h : ("rounds" : Str) ∈ nmT c) : c = 1 ∨ c = 2 ∨ c = 3 ∨ c = 4 ∨ c = 5 ∨ c = 6 := by
  unfold nmT at h
  split at h <;> first | (simp; done) | exact absurd h (by decide)
noncomputable def subT (c1 c : Nat) : Option Bool := if c = 100 then (if c1 = 103 then some true else if c1 = 104 then some true else none) else if c = 108 then (if c1 = 103 then some false else if c1 = 104 then some false else none) else if c = 104 then (if c1 = 103 then some false else if c1 = 104 then some true else none) else if c = 103 then (if c1 = 103 then some true else if c1 = 104 then some false else none) else if c = 106 then (if c1 = 103 then some false else if c1 = 104 then some false else none) else if c = 102 then (if c1 = 103 then some false else if c1 = 104 then some false else none) else if c = 105 then (if c1 = 103 then some false else if c1 = 104 then some false else none) else if c = 111 then (if c1 = 103 then some false else if c1 = 104 then some false else none) else if c = 110 then (if c1 = 103 then some false else if c1 = 104 then some false else none) else if c = 107 then (if c1 = 103 then some false else if c1 = 104 then some false else none) else if c = 113 then (if c1 = 103 then some false else if c1 = 104 then some false else none) else if c = 109 then (if c1 = 103 then some false else if c1 = 104 then some false else none) else if c = 101 then (if c1 = 103 then some false else if c1 = 104 then some false else none) else if c = 115 then (if c1 = 103 then some false else if c1 = 104 then some false else none) else if c = 114 then (if c1 = 103 then some false else if c1 = 104 then some false else none) else if c = 112 then (if c1 = 103 then some false else if c1 = 104 then some false else none) else if c = 99 then (if c1 = 103 then some true else if c1 = 104 then some true else none) else none
theorem sub_all {c1 c : Nat} {b : Bool} (h : subT c1 c = some b) : c1 = 103 ∨ c1 = 104 := by
  by_cases h0 : c1 = 103
  · simp [h0]
  by_cases h1 : c1 = 104
  · simp [h1]
  exfalso
  simp [subT, *] at h
theorem sub_100 {c1 : Nat} {b : Bool} (h : subT c1 100 = some b) : (c1 = 103 ∧ b = true) ∨ (c1 = 104 ∧ b = true) := by
  simp only [subT] at h
  revert h
  simp only [Nat.reduceEqDiff, if_true, if_false, reduceIte]
  repeat' split
  all_goals simp_all
theorem sub_108 {c1 : Nat} {b : Bool} (h : subT c1 108 = some b) : (c1 = 103 ∧ b = false) ∨ (c1 = 104 ∧ b = false) := by
  simp only [subT] at h
  revert h
  simp only [Nat.reduceEqDiff, if_true, if_false, reduceIte]
  repeat' split
  all_goals simp_all
theorem sub_104 {c1 : Nat} {b : Bool} (h : subT c1 104 = some b) : (c1 = 103 ∧ b = false) ∨ (c1 = 104 ∧ b = true) := by
  simp only [subT] at h
  revert h
  simp only [Nat.reduceEqDiff, if_true, if_false, reduceIte]
  repeat' split
  all_goals simp_all
theorem sub_103 {c1 : Nat} {b : Bool} (h : subT c1 103 = some b) : (c1 = 103 ∧ b = true) ∨ (c1 = 104 ∧ b = false) := by
  simp only [subT] at h
  revert h
  simp only [Nat.reduceEqDiff, if_true, if_false, reduceIte]
  repeat' split
  all_goals simp_all
theorem sub_106 {c1 : Nat} {b : Bool} (h : subT c1 106 = some b) : (c1 = 103 ∧ b = false) ∨ (c1 = 104 ∧ b = false) := by
  simp only [subT] at h
  revert h
  simp only [Nat.reduceEqDiff, if_true, if_false, reduceIte]
  repeat' split
  all_goals simp_all
theorem sub_102 {c1 : Nat} {b : Bool} (h : subT c1 102 = some b) : (c1 = 103 ∧ b = false) ∨ (c1 = 104 ∧ b = false) := by
  simp only [subT] at h
  revert h
  simp only [Nat.reduceEqDiff, if_true, if_false, reduceIte]
  repeat' split
  all_goals simp_all
theorem sub_105 {c1 : Nat} {b : Bool} (h : subT c1 105 = some b) : (c1 = 103 ∧ b = false) ∨ (c1 = 104 ∧ b = false) := by
  simp only [subT] at h
  revert h
  simp only [Nat.reduceEqDiff, if_true, if_false, reduceIte]
  repeat' split
  all_goals simp_all
theorem sub_111 {c1 : Nat} {b : Bool} (h : subT c1 111 = some b) : (c1 = 103 ∧ b = false) ∨ (c1 = 104 ∧ b = false) := by
  simp only [subT] at h
  revert h
  simp only [Nat.reduceEqDiff, if_true, if_false, reduceIte]
  repeat' split
  all_goals simp_all
theorem sub_110 {c1 : Nat} {b : Bool} (h : subT c1 110 = some b) : (c1 = 103 ∧ b = false) ∨ (c1 = 104 ∧ b = false) := by
  simp only [subT] at h
  revert h
  simp only [Nat.reduceEqDiff, if_true, if_false, reduceIte]
  repeat' split
  all_goals simp_all
theorem sub_107 {c1 : Nat} {b : Bool} (h : subT c1 107 = some b) : (c1 = 103 ∧ b = false) ∨ (c1 = 104 ∧ b = false) := by
  simp only [subT] at h
  revert h
  simp only [Nat.reduceEqDiff, if_true, if_false, reduceIte]
  repeat' split
  all_goals simp_all
theorem sub_113 {c1 : Nat} {b : Bool} (h : subT c1 113 = some b) : (c1 = 103 ∧ b = false) ∨ (c1 = 104 ∧ b = false) := by
  simp only [subT] at h
  revert h
  simp only [Nat.reduceEqDiff, if_true, if_false, reduceIte]
  repeat' split
  all_goals simp_all
theorem sub_109 {c1 : Nat} {b : Bool} (h : subT c1 109 = some b) : (c1 = 103 ∧ b = false) ∨ (c1 = 104 ∧ b = false) := by
  simp only [subT] at h
  revert h
  simp only [Nat.reduceEqDiff, if_true, if_false, reduceIte]
  repeat' split
  all_goals simp_all
theorem sub_101 {c1 : Nat} {b : Bool} (h : subT c1 101 = some b) : (c1 = 103 ∧ b = false) ∨ (c1 = 104 ∧ b = false) := by
  simp only [subT] at h
  revert h
  simp only [Nat.reduceEqDiff, if_true, if_false, reduceIte]
  repeat' split
  all_goals simp_all
theorem sub_115 {c1 : Nat} {b : Bool} (h : subT c1 115 = some b) : (c1 = 103 ∧ b = false) ∨ (c1 = 104 ∧ b = false) := by
  simp only [subT] at h
  revert h
  simp only [Nat.reduceEqDiff, if_true, if_false, reduceIte]
  repeat' split
  all_goals simp_all
theorem sub_114 {c1 : Nat} {b : Bool} (h : subT c1 114 = some b) : (c1 = 103 ∧ b = false) ∨ (c1 = 104 ∧ b = false) := by
  simp only [subT] at h
  revert h
  simp only [Nat.reduceEqDiff, if_true, if_false, reduceIte]
  repeat' split
  all_goals simp_all
theorem sub_112 {c1 : Nat} {b : Bool} (h : subT c1 112 = some b) : (c1 = 103 ∧ b = false) ∨ (c1 = 104 ∧ b = false) := by
  simp only [subT] at h
  revert h
  simp only [Nat.reduceEqDiff, if_true, if_false, reduceIte]
  repeat' split
  all_goals simp_all
theorem sub_99 {c1 : Nat} {b : Bool} (h : subT c1 99 = some b) : (c1 = 103 ∧ b = true) ∨ (c1 = 104 ∧ b = true) := by
  simp only [subT] at h
  revert h
  simp only [Nat.reduceEqDiff, if_true, if_false, reduceIte]
  repeat' split
  all_goals simp_all
noncomputable def iscT (c q : Nat) : Option Bool := if q = 1 then (if c = 0 then some false else if c = 1 then some true else if c = 2 then some true else if c = 3 then some true else if c = 4 then some true else if c = 5 then some true else if c = 6 then some true else none) else none
theorem isc_all {c q : Nat} {b : Bool} (h : iscT c q = some b) : c = 0 ∨ c = 1 ∨ c = 2 ∨ c = 3 ∨ c = 4 ∨ c = 5 ∨ c = 6 := by
  simp only [iscT] at h
  revert h
  repeat' split
  all_goals simp_all
theorem isc_1 {c : Nat} {b : Bool} (h : iscT c 1 = some b) : (c = 0 ∧ b = false) ∨ (c = 1 ∧ b = true) ∨ (c = 2 ∧ b = true) ∨ (c = 3 ∧ b = true) ∨ (c = 4 ∧ b = true) ∨ (c = 5 ∧ b = true) ∨ (c = 6 ∧ b = true) := by
  simp only [iscT] at h
  revert h
  simp only [Nat.reduceEqDiff, if_true, if_false, reduceIte]
  repeat' split
  all_goals simp_all
/-! ### the data functions -/
noncomputable def g__law_random : Gt := { F := fun j => fun _ _ => none, new := fun c => fun _ _ => none, prop := propT, meth := methT, nm := nmT }
noncomputable def F__law_random : List D → List R → Option Rs := runD g__law_random N__law_random.length b__law_random false
theorem gm__law_random : g__law_random.nm = nmT := rfl
noncomputable def g__law_below : Gt := { F := fun j => fun _ _ => none, new := fun c => fun _ _ => none, prop := propT, meth := methT, nm := nmT }
noncomputable def F__law_below : List D → List R → Option Rs := runD g__law_below N__law_below.length b__law_below false
theorem gm__law_below : g__law_below.nm = nmT := rfl
noncomputable def F__law_spec : Nat → List D → List R → Option Rs
  | 0 => fun _ _ => none
  | n + 1 => runD { F := fun j => if j = 23 then F__law_below else if j = 24 then (F__law_spec n) else fun _ _ => none, new := fun c => fun _ _ => none, prop := propT, meth := methT, nm := nmT } N__law_spec.length b__law_spec false
noncomputable def g__law_spec (n : Nat) : Gt := { F := fun j => if j = 23 then F__law_below else if j = 24 then (F__law_spec n) else fun _ _ => none, new := fun c => fun _ _ => none, prop := propT, meth := methT, nm := nmT }
theorem F__law_spec_succ (n : Nat) : F__law_spec (n + 1) = runD (g__law_spec n) N__law_spec.length b__law_spec false := rfl
theorem gx__law_spec__23 (n : Nat) : (g__law_spec n).F 23 = F__law_below := rfl
theorem gx__law_spec__24 (n : Nat) : (g__law_spec n).F 24 = (F__law_spec n) := rfl
theorem gm__law_spec (n : Nat) : (g__law_spec n).nm = nmT := rfl
noncomputable def g_Washer___init__ : Gt := { F := fun j => fun _ _ => none, new := fun c => fun _ _ => none, prop := propT, meth := methT, nm := nmT }
noncomputable def F_Washer___init__ : List D → List R → Option Rs := runD g_Washer___init__ N_Washer___init__.length b_Washer___init__ false
theorem gm_Washer___init__ : g_Washer___init__.nm = nmT := rfl
noncomputable def g_TopWasher___init__ : Gt := { F := fun j => if j = 1006 then (fun ds m => F_Washer___init__ (ds ++ [(.int 1)]) m) else fun _ _ => none, new := fun c => if c = 1 then mkD nmT true F_Washer___init__ 1 else fun _ _ => none, prop := propT, meth := methT, nm := nmT }
noncomputable def F_TopWasher___init__ : List D → List R → Option Rs := runD g_TopWasher___init__ N_TopWasher___init__.length b_TopWasher___init__ false
theorem gx_TopWasher___init____1006 : g_TopWasher___init__.F 1006 = (fun ds m => F_Washer___init__ (ds ++ [(.int 1)]) m) := rfl
theorem gm_TopWasher___init__ : g_TopWasher___init__.nm = nmT := rfl
noncomputable def g_UnderWasher___init__ : Gt := { F := fun j => if j = 1006 then (fun ds m => F_Washer___init__ (ds ++ [(.int 1)]) m) else fun _ _ => none, new := fun c => if c = 1 then mkD nmT true F_Washer___init__ 1 else fun _ _ => none, prop := propT, meth := methT, nm := nmT }
noncomputable def F_UnderWasher___init__ : List D → List R → Option Rs := runD g_UnderWasher___init__ N_UnderWasher___init__.length b_UnderWasher___init__ false
theorem gx_UnderWasher___init____1006 : g_UnderWasher___init__.F 1006 = (fun ds m => F_Washer___init__ (ds ++ [(.int 1)]) m) := rfl
theorem gm_UnderWasher___init__ : g_UnderWasher___init__.nm = nmT := rfl
noncomputable def g_is_number : Gt := { F := fun j => fun _ _ => none, new := fun c => fun _ _ => none, prop := propT, meth := methT, nm := nmT }
noncomputable def F_is_number : List D → List R → Option Rs := runD g_is_number N_is_number.length b_is_number true
theorem gm_is_number : g_is_number.nm = nmT := rfl
noncomputable def g_DepthWasher___init__ : Gt := { F := fun j => if j = 1006 then (fun ds m => F_Washer___init__ (ds ++ [(.int 1)]) m) else if j = 5 then F_is_number else fun _ _ => none, new := fun c => if c = 1 then mkD nmT true F_Washer___init__ 1 else fun _ _ => none, prop := propT, meth := methT, nm := nmT }
noncomputable def F_DepthWasher___init__ : List D → List R → Option Rs := runD g_DepthWasher___init__ N_DepthWasher___init__.length b_DepthWasher___init__ false
theorem gx_DepthWasher___init____1006 : g_DepthWasher___init__.F 1006 = (fun ds m => F_Washer___init__ (ds ++ [(.int 1)]) m) := rfl
theorem gx_DepthWasher___init____5 : g_DepthWasher___init__.F 5 = F_is_number := rfl
theorem gm_DepthWasher___init__ : g_DepthWasher___init__.nm = nmT := rfl
noncomputable def g_OwnWasher___init__ : Gt := { F := fun j => if j = 1006 then (fun ds m => F_Washer___init__ (ds ++ [(.int 1)]) m) else fun _ _ => none, new := fun c => if c = 1 then mkD nmT true F_Washer___init__ 1 else fun _ _ => none, prop := propT, meth := methT, nm := nmT }
noncomputable def F_OwnWasher___init__ : List D → List R → Option Rs := runD g_OwnWasher___init__ N_OwnWasher___init__.length b_OwnWasher___init__ false
theorem gx_OwnWasher___init____1006 : g_OwnWasher___init__.F 1006 = (fun ds m => F_Washer___init__ (ds ++ [(.int 1)]) m) := rfl
theorem gm_OwnWasher___init__ : g_OwnWasher___init__.nm = nmT := rfl
noncomputable def g__law_own : Gt := { F := fun j => if j = 16 then F_OwnWasher___init__ else fun _ _ => none, new := fun c => if c = 5 then mkD nmT true F_OwnWasher___init__ 5 else fun _ _ => none, prop := propT, meth := methT, nm := nmT }
noncomputable def F__law_own : List D → List R → Option Rs := runD g__law_own N__law_own.length b__law_own true
theorem gn__law_own__5 : g__law_own.new 5 = mkD nmT true F_OwnWasher___init__ 5 := rfl
theorem gm__law_own : g__law_own.nm = nmT := rfl
noncomputable def g_Washer_repeat_after : Gt := { F := fun j => fun _ _ => none, new := fun c => fun _ _ => none, prop := propT, meth := methT, nm := nmT }
noncomputable def F_Washer_repeat_after : List D → List R → Option Rs := runD g_Washer_repeat_after N_Washer_repeat_after.length b_Washer_repeat_after true
theorem gm_Washer_repeat_after : g_Washer_repeat_after.nm = nmT := rfl
theorem gp_Washer_repeat_after : g_Washer_repeat_after.prop = propT := rfl
noncomputable def g_common_multiple : Gt := { F := fun j => fun _ _ => none, new := fun c => fun _ _ => none, prop := propT, meth := methT, nm := nmT }
noncomputable def F_common_multiple : List D → List R → Option Rs := runD g_common_multiple N_common_multiple.length b_common_multiple true
theorem gm_common_multiple : g_common_multiple.nm = nmT := rfl
noncomputable def g_TurnWasher___init__ : Gt := { F := fun j => if j = 7 then (fun ds m => noX (F_Washer_repeat_after ds m)) else if j = 20 then F_common_multiple else if j = 6 then F_Washer___init__ else fun _ _ => none, new := fun c => if c = 1 then mkD nmT true F_Washer___init__ 1 else fun _ _ => none, prop := propT, meth := methT, nm := nmT }
noncomputable def F_TurnWasher___init__ : List D → List R → Option Rs := runD g_TurnWasher___init__ N_TurnWasher___init__.length b_TurnWasher___init__ false
theorem gx_TurnWasher___init____7 : g_TurnWasher___init__.F 7 = (fun ds m => noX (F_Washer_repeat_after ds m)) := rfl
theorem gx_TurnWasher___init____20 : g_TurnWasher___init__.F 20 = F_common_multiple := rfl
theorem gx_TurnWasher___init____6 : g_TurnWasher___init__.F 6 = F_Washer___init__ := rfl
theorem gm_TurnWasher___init__ : g_TurnWasher___init__.nm = nmT := rfl
theorem gp_TurnWasher___init__ : g_TurnWasher___init__.prop = propT := rfl
noncomputable def F__law_washer : Nat → List D → List R → Option Rs
  | 0 => fun _ _ => none
  | n + 1 => runD { F := fun j => if j = 11 then F_TopWasher___init__ else if j = 12 then F_UnderWasher___init__ else if j = 14 then F_DepthWasher___init__ else if j = 25 then F__law_own else if j = 26 then (F__law_washer n) else if j = 18 then F_TurnWasher___init__ else fun _ _ => none, new := fun c => if c = 2 then mkD nmT true F_TopWasher___init__ 2 else if c = 3 then mkD nmT true F_UnderWasher___init__ 3 else if c = 4 then mkD nmT true F_DepthWasher___init__ 4 else if c = 6 then mkD nmT true F_TurnWasher___init__ 6 else fun _ _ => none, prop := propT, meth := methT, nm := nmT } N__law_washer.length b__law_washer true
noncomputable def g__law_washer (n : Nat) : Gt := { F := fun j => if j = 11 then F_TopWasher___init__ else if j = 12 then F_UnderWasher___init__ else if j = 14 then F_DepthWasher___init__ else if j = 25 then F__law_own else if j = 26 then (F__law_washer n) else if j = 18 then F_TurnWasher___init__ else fun _ _ => none, new := fun c => if c = 2 then mkD nmT true F_TopWasher___init__ 2 else if c = 3 then mkD nmT true F_UnderWasher___init__ 3 else if c = 4 then mkD nmT true F_DepthWasher___init__ 4 else if c = 6 then mkD nmT true F_TurnWasher___init__ 6 else fun _ _ => none, prop := propT, meth := methT, nm := nmT }
theorem F__law_washer_succ (n : Nat) : F__law_washer (n + 1) = runD (g__law_washer n) N__law_washer.length b__law_washer true := rfl
theorem gx__law_washer__25 (n : Nat) : (g__law_washer n).F 25 = F__law_own := rfl
theorem gx__law_washer__26 (n : Nat) : (g__law_washer n).F 26 = (F__law_washer n) := rfl
theorem gn__law_washer__2 (n : Nat) : (g__law_washer n).new 2 = mkD nmT true F_TopWasher___init__ 2 := rfl
theorem gn__law_washer__3 (n : Nat) : (g__law_washer n).new 3 = mkD nmT true F_UnderWasher___init__ 3 := rfl
theorem gn__law_washer__4 (n : Nat) : (g__law_washer n).new 4 = mkD nmT true F_DepthWasher___init__ 4 := rfl
theorem gn__law_washer__6 (n : Nat) : (g__law_washer n).new 6 = mkD nmT true F_TurnWasher___init__ 6 := rfl
theorem gm__law_washer (n : Nat) : (g__law_washer n).nm = nmT := rfl
noncomputable def F_describe : Nat → List D → List R → Option Rs
  | 0 => fun _ _ => none
  | n + 1 => runD { F := fun j => if j = 21 then (F_describe n) else fun _ _ => none, new := fun c => fun _ _ => none, prop := propT, meth := methT, nm := nmT } N_describe.length b_describe true
noncomputable def g_describe (n : Nat) : Gt := { F := fun j => if j = 21 then (F_describe n) else fun _ _ => none, new := fun c => fun _ _ => none, prop := propT, meth := methT, nm := nmT }
theorem F_describe_succ (n : Nat) : F_describe (n + 1) = runD (g_describe n) N_describe.length b_describe true := rfl
theorem gx_describe__21 (n : Nat) : (g_describe n).F 21 = (F_describe n) := rfl
theorem gm_describe (n : Nat) : (g_describe n).nm = nmT := rfl
theorem gp_describe (n : Nat) : (g_describe n).prop = propT := rfl
noncomputable def F__law_words : Nat → List D → List R → Option Rs
  | 0 => fun _ _ => none
  | n + 1 => runD { F := fun j => if j = 29 then (F__law_words n) else fun _ _ => none, new := fun c => fun _ _ => none, prop := propT, meth := methT, nm := nmT } N__law_words.length b__law_words true
noncomputable def g__law_words (n : Nat) : Gt := { F := fun j => if j = 29 then (F__law_words n) else fun _ _ => none, new := fun c => fun _ _ => none, prop := propT, meth := methT, nm := nmT }
theorem F__law_words_succ (n : Nat) : F__law_words (n + 1) = runD (g__law_words n) N__law_words.length b__law_words true := rfl
theorem gx__law_words__29 (n : Nat) : (g__law_words n).F 29 = (F__law_words n) := rfl
theorem gm__law_words (n : Nat) : (g__law_words n).nm = nmT := rfl
noncomputable def F__law_period : Nat → List D → List R → Option Rs
  | 0 => fun _ _ => none
  | n + 1 => runD { F := fun j => if j = 28 then (F__law_period n) else fun _ _ => none, new := fun c => fun _ _ => none, prop := propT, meth := methT, nm := nmT } N__law_period.length b__law_period true
noncomputable def g__law_period (n : Nat) : Gt := { F := fun j => if j = 28 then (F__law_period n) else fun _ _ => none, new := fun c => fun _ _ => none, prop := propT, meth := methT, nm := nmT }
theorem F__law_period_succ (n : Nat) : F__law_period (n + 1) = runD (g__law_period n) N__law_period.length b__law_period true := rfl
theorem gx__law_period__28 (n : Nat) : (g__law_period n).F 28 = (F__law_period n) := rfl
theorem gm__law_period (n : Nat) : (g__law_period n).nm = nmT := rfl
noncomputable def F__law_equal : Nat → List D → List R → Option Rs
  | 0 => fun _ _ => none
  | n + 1 => runD { F := fun j => if j = 27 then (F__law_equal n) else fun _ _ => none, new := fun c => fun _ _ => none, prop := propT, meth := methT, nm := nmT } N__law_equal.length b__law_equal true
noncomputable def g__law_equal (n : Nat) : Gt := { F := fun j => if j = 27 then (F__law_equal n) else fun _ _ => none, new := fun c => fun _ _ => none, prop := propT, meth := methT, nm := nmT }
theorem F__law_equal_succ (n : Nat) : F__law_equal (n + 1) = runD (g__law_equal n) N__law_equal.length b__law_equal true := rfl
theorem gx__law_equal__27 (n : Nat) : (g__law_equal n).F 27 = (F__law_equal n) := rfl
theorem gm__law_equal (n : Nat) : (g__law_equal n).nm = nmT := rfl
noncomputable def F__law_habit : Nat → List D → List R → Option Rs
  | 0 => fun _ _ => none
  | n + 1 => runD { F := fun j => if j = 30 then (F__law_habit n) else fun _ _ => none, new := fun c => fun _ _ => none, prop := propT, meth := methT, nm := nmT } N__law_habit.length b__law_habit true
noncomputable def g__law_habit (n : Nat) : Gt := { F := fun j => if j = 30 then (F__law_habit n) else fun _ _ => none, new := fun c => fun _ _ => none, prop := propT, meth := methT, nm := nmT }
theorem F__law_habit_succ (n : Nat) : F__law_habit (n + 1) = runD (g__law_habit n) N__law_habit.length b__law_habit true := rfl
theorem gx__law_habit__30 (n : Nat) : (g__law_habit n).F 30 = (F__law_habit n) := rfl
theorem gm__law_habit (n : Nat) : (g__law_habit n).nm = nmT := rfl
noncomputable def g__law_error_of (fr : List (Str × Addr)) (clo : Nat → List R → Option Rs) : Gt := { F := fun j => fun _ _ => none, new := fun c => fun _ _ => none, prop := propT, meth := methT, nm := nmT, fr := fr, clo := clo, sub := subT }
noncomputable def F__law_error_of : List (Str × Addr) → (Nat → List R → Option Rs) → List D → List R → Option Rs := fun fr clo => runD (g__law_error_of fr clo) N__law_error_of.length b__law_error_of true
theorem gs__law_error_of (fr : List (Str × Addr)) (clo : Nat → List R → Option Rs) : (g__law_error_of fr clo).sub = subT := rfl
theorem gm__law_error_of (fr : List (Str × Addr)) (clo : Nat → List R → Option Rs) : (g__law_error_of fr clo).nm = nmT := rfl
noncomputable def g_Washer_depth : Gt := { F := fun j => fun _ _ => none, new := fun c => fun _ _ => none, prop := propT, meth := methT, nm := nmT }
noncomputable def F_Washer_depth : List D → List R → Option Rs := runD g_Washer_depth N_Washer_depth.length b_Washer_depth true
theorem gm_Washer_depth : g_Washer_depth.nm = nmT := rfl
noncomputable def g_UnderWasher_depth : Gt := { F := fun j => fun _ _ => none, new := fun c => fun _ _ => none, prop := propT, meth := methT, nm := nmT }
noncomputable def F_UnderWasher_depth : List D → List R → Option Rs := runD g_UnderWasher_depth N_UnderWasher_depth.length b_UnderWasher_depth true
theorem gm_UnderWasher_depth : g_UnderWasher_depth.nm = nmT := rfl
noncomputable def g_DepthWasher_depth : Gt := { F := fun j => fun _ _ => none, new := fun c => fun _ _ => none, prop := propT, meth := methT, nm := nmT }
noncomputable def F_DepthWasher_depth : List D → List R → Option Rs := runD g_DepthWasher_depth N_DepthWasher_depth.length b_DepthWasher_depth true
theorem gm_DepthWasher_depth : g_DepthWasher_depth.nm = nmT := rfl
theorem gp_DepthWasher_depth : g_DepthWasher_depth.prop = propT := rfl
noncomputable def g_Washer_habit_in : Gt := { F := fun j => if j = 8 then F_Washer_depth else if j = 13 then F_UnderWasher_depth else if j = 15 then F_DepthWasher_depth else fun _ _ => none, new := fun c => fun _ _ => none, prop := propT, meth := methT, nm := nmT }
noncomputable def F_Washer_habit_in : List D → List R → Option Rs := runD g_Washer_habit_in N_Washer_habit_in.length b_Washer_habit_in true
theorem gx_Washer_habit_in__8 : g_Washer_habit_in.F 8 = F_Washer_depth := rfl
theorem gx_Washer_habit_in__13 : g_Washer_habit_in.F 13 = F_UnderWasher_depth := rfl
theorem gx_Washer_habit_in__15 : g_Washer_habit_in.F 15 = F_DepthWasher_depth := rfl
theorem gm_Washer_habit_in : g_Washer_habit_in.nm = nmT := rfl
theorem gt_Washer_habit_in : g_Washer_habit_in.meth = methT := rfl
noncomputable def g_OwnWasher_habit_in : Gt := { F := fun j => fun _ _ => none, new := fun c => fun _ _ => none, prop := propT, meth := methT, nm := nmT }
noncomputable def F_OwnWasher_habit_in : List D → List R → Option Rs := runD g_OwnWasher_habit_in N_OwnWasher_habit_in.length b_OwnWasher_habit_in true
theorem gm_OwnWasher_habit_in : g_OwnWasher_habit_in.nm = nmT := rfl
theorem gp_OwnWasher_habit_in : g_OwnWasher_habit_in.prop = propT := rfl
noncomputable def g_is_habit : Gt := { F := fun j => fun _ _ => none, new := fun c => fun _ _ => none, prop := propT, meth := methT, nm := nmT }
noncomputable def F_is_habit : List D → List R → Option Rs := runD g_is_habit N_is_habit.length b_is_habit true
theorem gm_is_habit : g_is_habit.nm = nmT := rfl
mutual
noncomputable def F_Washer_habit_for : Nat → List D → List R → Option Rs
  | 0 => fun _ _ => none
  | n + 1 => runD { F := fun j => if j = 5 then F_is_number else if j = 10 then F_Washer_habit_in else if j = 17 then F_OwnWasher_habit_in else if j = 19 then (F_TurnWasher_habit_in n) else if j = 7 then (fun ds m => noX (F_Washer_repeat_after ds m)) else if j = 1 then F_is_habit else fun _ _ => none, new := fun c => fun _ _ => none, prop := propT, meth := methT, nm := nmT } N_Washer_habit_for.length b_Washer_habit_for true
noncomputable def F_TurnWasher_habit_in : Nat → List D → List R → Option Rs
  | 0 => fun _ _ => none
  | n + 1 => runD { F := fun j => if j = 9 then (F_Washer_habit_for n) else fun _ _ => none, new := fun c => fun _ _ => none, prop := propT, meth := methT, nm := nmT } N_TurnWasher_habit_in.length b_TurnWasher_habit_in true
end
noncomputable def g_Washer_habit_for (n : Nat) : Gt := { F := fun j => if j = 5 then F_is_number else if j = 10 then F_Washer_habit_in else if j = 17 then F_OwnWasher_habit_in else if j = 19 then (F_TurnWasher_habit_in n) else if j = 7 then (fun ds m => noX (F_Washer_repeat_after ds m)) else if j = 1 then F_is_habit else fun _ _ => none, new := fun c => fun _ _ => none, prop := propT, meth := methT, nm := nmT }
theorem F_Washer_habit_for_succ (n : Nat) : F_Washer_habit_for (n + 1) = runD (g_Washer_habit_for n) N_Washer_habit_for.length b_Washer_habit_for true := rfl
noncomputable def g_TurnWasher_habit_in (n : Nat) : Gt := { F := fun j => if j = 9 then (F_Washer_habit_for n) else fun _ _ => none, new := fun c => fun _ _ => none, prop := propT, meth := methT, nm := nmT }
theorem F_TurnWasher_habit_in_succ (n : Nat) : F_TurnWasher_habit_in (n + 1) = runD (g_TurnWasher_habit_in n) N_TurnWasher_habit_in.length b_TurnWasher_habit_in true := rfl
theorem gx_Washer_habit_for__5 (n : Nat) : (g_Washer_habit_for n).F 5 = F_is_number := rfl
theorem gx_Washer_habit_for__10 (n : Nat) : (g_Washer_habit_for n).F 10 = F_Washer_habit_in := rfl
theorem gx_Washer_habit_for__17 (n : Nat) : (g_Washer_habit_for n).F 17 = F_OwnWasher_habit_in := rfl
theorem gx_Washer_habit_for__19 (n : Nat) : (g_Washer_habit_for n).F 19 = (F_TurnWasher_habit_in n) := rfl
theorem gx_Washer_habit_for__7 (n : Nat) : (g_Washer_habit_for n).F 7 = (fun ds m => noX (F_Washer_repeat_after ds m)) := rfl
theorem gx_Washer_habit_for__1 (n : Nat) : (g_Washer_habit_for n).F 1 = F_is_habit := rfl
theorem gm_Washer_habit_for (n : Nat) : (g_Washer_habit_for n).nm = nmT := rfl
theorem gp_Washer_habit_for (n : Nat) : (g_Washer_habit_for n).prop = propT := rfl
theorem gt_Washer_habit_for (n : Nat) : (g_Washer_habit_for n).meth = methT := rfl
theorem gx_TurnWasher_habit_in__9 (n : Nat) : (g_TurnWasher_habit_in n).F 9 = (F_Washer_habit_for n) := rfl
theorem gm_TurnWasher_habit_in (n : Nat) : (g_TurnWasher_habit_in n).nm = nmT := rfl
theorem gp_TurnWasher_habit_in (n : Nat) : (g_TurnWasher_habit_in n).prop = propT := rfl
theorem gt_TurnWasher_habit_in (n : Nat) : (g_TurnWasher_habit_in n).meth = methT := rfl
noncomputable def g_law_0 : Gt := { F := fun j => if j = 22 then F__law_random else if j = 24 then (F__law_spec 3) else if j = 23 then F__law_below else if j = 26 then (F__law_washer 3) else if j = 21 then (F_describe 3) else if j = 7 then (fun ds m => noX (F_Washer_repeat_after ds m)) else if j = 29 then (F__law_words 3) else if j = 28 then (F__law_period 3) else if j = 27 then (F__law_equal 4) else if j = 30 then (F__law_habit 3) else if j = 9 then (F_Washer_habit_for 6) else fun _ _ => none, new := fun c => fun _ _ => none, prop := propT, meth := methT, nm := nmT, isc := iscT }
noncomputable def g_law (fr : List (Str × Addr)) : Gt := { F := fun j => if j = 22 then F__law_random else if j = 24 then (F__law_spec 3) else if j = 23 then F__law_below else if j = 26 then (F__law_washer 3) else if j = 21 then (F_describe 3) else if j = 7 then (fun ds m => noX (F_Washer_repeat_after ds m)) else if j = 29 then (F__law_words 3) else if j = 28 then (F__law_period 3) else if j = 27 then (F__law_equal 4) else if j = 30 then (F__law_habit 3) else if j = 9 then (F_Washer_habit_for 6) else fun _ _ => none, new := fun c => fun _ _ => none, prop := propT, meth := methT, nm := nmT, isc := iscT, fr := fr, lamE := fun i => if i = 0 then evE g_law_0 bl_0 else fun _ _ => none, hof := fun j => if j = 31 then F__law_error_of else fun _ _ _ _ => none }
noncomputable def F_law : List D → List R → Option Rs := runM fun fr => runD (g_law fr) N_law.length b_law true
theorem gl_law__0 (fr : List (Str × Addr)) : (g_law fr).lamE 0 = evE g_law_0 bl_0 := rfl
theorem gfr_law (fr : List (Str × Addr)) : (g_law fr).fr = fr := rfl
theorem gx_law_0__9 : g_law_0.F 9 = (F_Washer_habit_for 6) := rfl
theorem gt_law_0 : g_law_0.meth = methT := rfl
theorem gx_law__22 (fr : List (Str × Addr)) : (g_law fr).F 22 = F__law_random := rfl
theorem gx_law__24 (fr : List (Str × Addr)) : (g_law fr).F 24 = (F__law_spec 3) := rfl
theorem gx_law__23 (fr : List (Str × Addr)) : (g_law fr).F 23 = F__law_below := rfl
theorem gx_law__26 (fr : List (Str × Addr)) : (g_law fr).F 26 = (F__law_washer 3) := rfl
theorem gx_law__21 (fr : List (Str × Addr)) : (g_law fr).F 21 = (F_describe 3) := rfl
theorem gx_law__7 (fr : List (Str × Addr)) : (g_law fr).F 7 = (fun ds m => noX (F_Washer_repeat_after ds m)) := rfl
theorem gx_law__29 (fr : List (Str × Addr)) : (g_law fr).F 29 = (F__law_words 3) := rfl
theorem gx_law__28 (fr : List (Str × Addr)) : (g_law fr).F 28 = (F__law_period 3) := rfl
theorem gx_law__27 (fr : List (Str × Addr)) : (g_law fr).F 27 = (F__law_equal 4) := rfl
theorem gx_law__30 (fr : List (Str × Addr)) : (g_law fr).F 30 = (F__law_habit 3) := rfl
theorem gh_law__31 (fr : List (Str × Addr)) : (g_law fr).hof 31 = F__law_error_of := rfl
theorem gx_law__9 (fr : List (Str × Addr)) : (g_law fr).F 9 = (F_Washer_habit_for 6) := rfl
theorem gm_law (fr : List (Str × Addr)) : (g_law fr).nm = nmT := rfl
theorem gp_law (fr : List (Str × Addr)) : (g_law fr).prop = propT := rfl
theorem gt_law (fr : List (Str × Addr)) : (g_law fr).meth = methT := rfl
/-! ### what the top has written -/
theorem all_mk {l : PySem.W.OpenLaw} {w : World} {K : PySem.W.Frag} {h : Heap} {mg : Str → Option Value} {fa : Addr}
    {C0 : Addr}
    {uhC_Kitchen_MAX_MUGS : Value}
    {C1 : Addr}
    {C2 : Addr}
    {C3 : Addr}
    {C4 : Addr}
    {C5 : Addr}
    {C6 : Addr}
    {C103 : Addr}
    {C108 : Addr}
    {C104 : Addr}
    {C106 : Addr}
    {C102 : Addr}
    {C105 : Addr}
    {C111 : Addr}
    {C110 : Addr}
    {C107 : Addr}
    {C113 : Addr}
    {C109 : Addr}
    {C101 : Addr}
    {C115 : Addr}
    {C114 : Addr}
    {C112 : Addr}
    {C100 : Addr}
    {f22 : Addr} {oc22 kV22 dc22 pm22 cd22 ct22 : Value} {od22 an22 : Option Addr} {sl22 : Array (Option Value)}
    {f23 : Addr} {oc23 kV23 dc23 pm23 cd23 ct23 : Value} {od23 an23 : Option Addr} {sl23 : Array (Option Value)}
    {f24 : Addr} {oc24 kV24 dc24 pm24 cd24 ct24 : Value} {od24 an24 : Option Addr} {sl24 : Array (Option Value)}
    {f6 : Addr} {oc6 kV6 dc6 pm6 cd6 ct6 : Value} {od6 an6 : Option Addr} {sl6 : Array (Option Value)}
    {T6 : Addr} {ta6 : Value} {tb6 : Option Addr} {tn6 : Nat} {ts6 : Array (Option Value)} {ti6 : List Value}
    {f11 : Addr} {oc11 kV11 dc11 pm11 ct11 : Value} {k11c : Addr} {od11 an11 : Option Addr} {sl11 : Array (Option Value)} {cc11 : Addr} {fl11 : Str} {tf11 : Tok} {kx11 cx11 : Value} {kd11 cy11 : Option Addr} {kv11 : Array Value} {ks11 cz11 : Array (Option Value)}
    {f12 : Addr} {oc12 kV12 dc12 pm12 ct12 : Value} {k12c : Addr} {od12 an12 : Option Addr} {sl12 : Array (Option Value)} {cc12 : Addr} {fl12 : Str} {tf12 : Tok} {kx12 cx12 : Value} {kd12 cy12 : Option Addr} {kv12 : Array Value} {ks12 cz12 : Array (Option Value)}
    {f5 : Addr} {oc5 kV5 dc5 pm5 cd5 ct5 : Value} {od5 an5 : Option Addr} {sl5 : Array (Option Value)}
    {f14 : Addr} {oc14 kV14 dc14 pm14 ct14 : Value} {k14c : Addr} {od14 an14 : Option Addr} {sl14 : Array (Option Value)} {cc14 : Addr} {fl14 : Str} {tf14 : Tok} {kx14 cx14 : Value} {kd14 cy14 : Option Addr} {kv14 : Array Value} {ks14 cz14 : Array (Option Value)}
    {f16 : Addr} {oc16 kV16 dc16 pm16 ct16 : Value} {k16c : Addr} {od16 an16 : Option Addr} {sl16 : Array (Option Value)} {cc16 : Addr} {fl16 : Str} {tf16 : Tok} {kx16 cx16 : Value} {kd16 cy16 : Option Addr} {kv16 : Array Value} {ks16 cz16 : Array (Option Value)}
    {f25 : Addr} {oc25 kV25 dc25 pm25 cd25 ct25 : Value} {od25 an25 : Option Addr} {sl25 : Array (Option Value)}
    {f7 : Addr} {oc7 kV7 dc7 pm7 cd7 ct7 : Value} {od7 an7 : Option Addr} {sl7 : Array (Option Value)}
    {p7 : Addr} {rs7 : List Value}
    {f20 : Addr} {oc20 kV20 dc20 pm20 cd20 ct20 : Value} {od20 an20 : Option Addr} {sl20 : Array (Option Value)}
    {f18 : Addr} {oc18 kV18 dc18 pm18 ct18 : Value} {k18c : Addr} {od18 an18 : Option Addr} {sl18 : Array (Option Value)} {cc18 : Addr} {fl18 : Str} {tf18 : Tok} {kx18 cx18 : Value} {kd18 cy18 : Option Addr} {kv18 : Array Value} {ks18 cz18 : Array (Option Value)}
    {f26 : Addr} {oc26 kV26 dc26 pm26 cd26 ct26 : Value} {od26 an26 : Option Addr} {sl26 : Array (Option Value)}
    {f21 : Addr} {oc21 kV21 dc21 pm21 cd21 ct21 : Value} {od21 an21 : Option Addr} {sl21 : Array (Option Value)}
    {f29 : Addr} {oc29 kV29 dc29 pm29 cd29 ct29 : Value} {od29 an29 : Option Addr} {sl29 : Array (Option Value)}
    {f28 : Addr} {oc28 kV28 dc28 pm28 cd28 ct28 : Value} {od28 an28 : Option Addr} {sl28 : Array (Option Value)}
    {f27 : Addr} {oc27 kV27 dc27 pm27 cd27 ct27 : Value} {od27 an27 : Option Addr} {sl27 : Array (Option Value)}
    {f30 : Addr} {oc30 kV30 dc30 pm30 cd30 ct30 : Value} {od30 an30 : Option Addr} {sl30 : Array (Option Value)}
    {f31 : Addr} {oc31 kV31 dc31 pm31 cd31 ct31 : Value} {od31 an31 : Option Addr} {sl31 : Array (Option Value)}
    {f8 : Addr} {oc8 kV8 dc8 pm8 cd8 ct8 : Value} {od8 an8 : Option Addr} {sl8 : Array (Option Value)}
    {f13 : Addr} {oc13 kV13 dc13 pm13 cd13 ct13 : Value} {od13 an13 : Option Addr} {sl13 : Array (Option Value)}
    {f15 : Addr} {oc15 kV15 dc15 pm15 cd15 ct15 : Value} {od15 an15 : Option Addr} {sl15 : Array (Option Value)}
    {f10 : Addr} {oc10 kV10 dc10 pm10 cd10 ct10 : Value} {od10 an10 : Option Addr} {sl10 : Array (Option Value)}
    {f17 : Addr} {oc17 kV17 dc17 pm17 cd17 ct17 : Value} {od17 an17 : Option Addr} {sl17 : Array (Option Value)}
    {f1 : Addr} {oc1 kV1 dc1 pm1 cd1 ct1 : Value} {od1 an1 : Option Addr} {sl1 : Array (Option Value)}
    {f9 : Addr} {oc9 kV9 dc9 pm9 cd9 ct9 : Value} {od9 an9 : Option Addr} {sl9 : Array (Option Value)}
    {f19 : Addr} {oc19 kV19 dc19 pm19 cd19 ct19 : Value} {od19 an19 : Option Addr} {sl19 : Array (Option Value)}
    {f32 : Addr} {oc32 kV32 dc32 pm32 ct32 : Value} {k32c : Addr} {od32 an32 : Option Addr} {sl32 : Array (Option Value)}
    {P32 : Addr} {kx32 : Value} {kd32 : Option Addr} {kv32 : Array Value} {ks32 : Array (Option Value)}
    {thG_MAX_DEPTH : Tok} (pl : ∀ ns : List Int, ns.length ≤ 63 → ∃ m, F_law [.ext (ns.map .int)] [] = some (.ok (.bl true) m)) (X : K.In h) (G : h.Ns mainGlobals mg) (hfa : mg "law" = some (.ref fa)) (hTab : ∀ y ∈ (["law"] : List Str), ∀ c P, PySem.W.tabIn K y = some (c, P) → PySem.W.CodeHd h c P ∧ h.get? P = some { cls := .none, data := .fields #[] })
    (aC0 : PySem.W.nsIn K mainGlobals "Kitchen" = some (some (.ref C0)))
    (pg0 : PySem.W.plainGet K C0 Str.empty = true) (hd0 : PySem.W.hasDictIn K C0 = true) (po0 : PySem.W.plainOver K C0 = true) (sa0 : PySem.W.findIn K (.ref C0) "__setattr__" = some (some (.builtin "object.__setattr__"))) (mk0 : PySem.W.makesIn K C0 = true) (kc0 : PySem.W.keepIn K (.ref C0) = true)
    (n0_shelf : PySem.W.findIn K (.ref C0) "shelf" = some none)
    (n0_customs : PySem.W.findIn K (.ref C0) "customs" = some none)
    (rdhC_Kitchen_MAX_MUGS : PySem.W.readsIn K C0 (.type "type") = true) (gahC_Kitchen_MAX_MUGS : PySem.W.specialIn K (.ref C0) "__getattribute__" = some (some (.builtin "type.__getattribute__"))) (fchC_Kitchen_MAX_MUGS : PySem.W.findCls K (.ref C0) (.type "type") "MAX_MUGS" = some (.val uhC_Kitchen_MAX_MUGS)) (ruhC_Kitchen_MAX_MUGS : ∃ t, uhC_Kitchen_MAX_MUGS = .int 12 t)
    (aC1 : PySem.W.nsIn K mainGlobals "Washer" = some (some (.ref C1)))
    (pg1 : PySem.W.plainGet K C1 Str.empty = true) (hd1 : PySem.W.hasDictIn K C1 = true) (po1 : PySem.W.plainOver K C1 = true) (sa1 : PySem.W.findIn K (.ref C1) "__setattr__" = some (some (.builtin "object.__setattr__"))) (mk1 : PySem.W.makesIn K C1 = true) (kc1 : PySem.W.keepIn K (.ref C1) = true)
    (n1_label : PySem.W.findIn K (.ref C1) "label" = some none)
    (n1_rounds : PySem.W.findIn K (.ref C1) "rounds" = some none)
    (aC2 : PySem.W.nsIn K mainGlobals "TopWasher" = some (some (.ref C2)))
    (pg2 : PySem.W.plainGet K C2 Str.empty = true) (hd2 : PySem.W.hasDictIn K C2 = true) (po2 : PySem.W.plainOver K C2 = true) (sa2 : PySem.W.findIn K (.ref C2) "__setattr__" = some (some (.builtin "object.__setattr__"))) (mk2 : PySem.W.makesIn K C2 = true) (kc2 : PySem.W.keepIn K (.ref C2) = true)
    (n2_label : PySem.W.findIn K (.ref C2) "label" = some none)
    (n2_rounds : PySem.W.findIn K (.ref C2) "rounds" = some none)
    (aC3 : PySem.W.nsIn K mainGlobals "UnderWasher" = some (some (.ref C3)))
    (pg3 : PySem.W.plainGet K C3 Str.empty = true) (hd3 : PySem.W.hasDictIn K C3 = true) (po3 : PySem.W.plainOver K C3 = true) (sa3 : PySem.W.findIn K (.ref C3) "__setattr__" = some (some (.builtin "object.__setattr__"))) (mk3 : PySem.W.makesIn K C3 = true) (kc3 : PySem.W.keepIn K (.ref C3) = true)
    (n3_label : PySem.W.findIn K (.ref C3) "label" = some none)
    (n3_rounds : PySem.W.findIn K (.ref C3) "rounds" = some none)
    (aC4 : PySem.W.nsIn K mainGlobals "DepthWasher" = some (some (.ref C4)))
    (pg4 : PySem.W.plainGet K C4 Str.empty = true) (hd4 : PySem.W.hasDictIn K C4 = true) (po4 : PySem.W.plainOver K C4 = true) (sa4 : PySem.W.findIn K (.ref C4) "__setattr__" = some (some (.builtin "object.__setattr__"))) (mk4 : PySem.W.makesIn K C4 = true) (kc4 : PySem.W.keepIn K (.ref C4) = true)
    (n4_label : PySem.W.findIn K (.ref C4) "label" = some none)
    (n4_rounds : PySem.W.findIn K (.ref C4) "rounds" = some none)
    (n4_level : PySem.W.findIn K (.ref C4) "level" = some none)
    (aC5 : PySem.W.nsIn K mainGlobals "OwnWasher" = some (some (.ref C5)))
    (pg5 : PySem.W.plainGet K C5 Str.empty = true) (hd5 : PySem.W.hasDictIn K C5 = true) (po5 : PySem.W.plainOver K C5 = true) (sa5 : PySem.W.findIn K (.ref C5) "__setattr__" = some (some (.builtin "object.__setattr__"))) (mk5 : PySem.W.makesIn K C5 = true) (kc5 : PySem.W.keepIn K (.ref C5) = true)
    (n5_label : PySem.W.findIn K (.ref C5) "label" = some none)
    (n5_rounds : PySem.W.findIn K (.ref C5) "rounds" = some none)
    (n5_depths : PySem.W.findIn K (.ref C5) "depths" = some none)
    (aC6 : PySem.W.nsIn K mainGlobals "TurnWasher" = some (some (.ref C6)))
    (pg6 : PySem.W.plainGet K C6 Str.empty = true) (hd6 : PySem.W.hasDictIn K C6 = true) (po6 : PySem.W.plainOver K C6 = true) (sa6 : PySem.W.findIn K (.ref C6) "__setattr__" = some (some (.builtin "object.__setattr__"))) (mk6 : PySem.W.makesIn K C6 = true) (kc6 : PySem.W.keepIn K (.ref C6) = true)
    (n6_label : PySem.W.findIn K (.ref C6) "label" = some none)
    (n6_rounds : PySem.W.findIn K (.ref C6) "rounds" = some none)
    (n6_parts : PySem.W.findIn K (.ref C6) "parts" = some none)
    (aC103 : PySem.W.nsIn K mainGlobals "InvalidCount" = some (some (.ref C103)))
    (xe103 : PySem.W.excIn K C103 [.type "ValueError", .type "Exception", .type "BaseException", .type "object"] "ValueError.__new__" = true)
    (xk103 : PySem.W.keepIn K (.ref C103) = true) (xs103 : PySem.W.subIn K (.ref C103) (.type "BaseException") = some true) (xt103 : PySem.W.typeIn K (.ref C103) = some (.type "type"))
    (aC108 : PySem.W.nsIn K mainGlobals "TooManyWashers" = some (some (.ref C108)))
    (aC104 : PySem.W.nsIn K mainGlobals "InvalidHabit" = some (some (.ref C104)))
    (xe104 : PySem.W.excIn K C104 [.type "ValueError", .type "Exception", .type "BaseException", .type "object"] "ValueError.__new__" = true)
    (xk104 : PySem.W.keepIn K (.ref C104) = true) (xs104 : PySem.W.subIn K (.ref C104) (.type "BaseException") = some true) (xt104 : PySem.W.typeIn K (.ref C104) = some (.type "type"))
    (aC106 : PySem.W.nsIn K mainGlobals "EmptySink" = some (some (.ref C106)))
    (aC102 : PySem.W.nsIn K mainGlobals "InvalidCup" = some (some (.ref C102)))
    (aC105 : PySem.W.nsIn K mainGlobals "UnknownMug" = some (some (.ref C105)))
    (aC111 : PySem.W.nsIn K mainGlobals "UnknownCheckpoint" = some (some (.ref C111)))
    (aC110 : PySem.W.nsIn K mainGlobals "InvalidName" = some (some (.ref C110)))
    (aC107 : PySem.W.nsIn K mainGlobals "NotOnShelf" = some (some (.ref C107)))
    (aC113 : PySem.W.nsIn K mainGlobals "DaybookFailed" = some (some (.ref C113)))
    (aC109 : PySem.W.nsIn K mainGlobals "InvalidOperation" = some (some (.ref C109)))
    (aC101 : PySem.W.nsIn K mainGlobals "InvalidKitchen" = some (some (.ref C101)))
    (aC115 : PySem.W.nsIn K mainGlobals "DecodeError" = some (some (.ref C115)))
    (aC114 : PySem.W.nsIn K mainGlobals "NotationError" = some (some (.ref C114)))
    (aC112 : PySem.W.nsIn K mainGlobals "DaybookError" = some (some (.ref C112)))
    (aC100 : PySem.W.nsIn K mainGlobals "MugError" = some (some (.ref C100)))
    (gA103 : PySem.W.findIn K (.ref C103) "__getattribute__" = some (some (.builtin "BaseException.__getattribute__"))) (gB103 : PySem.W.findIn K (.ref C103) "__getattr__" = some none) (gD103 : PySem.W.hasDictIn K C103 = true) (gE103 : PySem.W.findIn K (.ref C103) "__class__" = some (some (.builtin "object.__class__"))) (gH103 : PySem.W.mroIn K C103 (.type "object") = some true)
    (gF103_index : PySem.W.findIn K (.ref C103) "index" = some none)
    (gF103_part : PySem.W.findIn K (.ref C103) "part" = some none)
    (gF103_word : PySem.W.findIn K (.ref C103) "word" = some none)
    (gF103_row : PySem.W.findIn K (.ref C103) "row" = some none)
    (gF103_offset : PySem.W.findIn K (.ref C103) "offset" = some none)
    (xi103_108 : PySem.W.kitOne K (.ref C103) (.ref C108) = some false)
    (xi103_104 : PySem.W.kitOne K (.ref C103) (.ref C104) = some false)
    (xi103_103 : PySem.W.kitOne K (.ref C103) (.ref C103) = some true)
    (xi103_106 : PySem.W.kitOne K (.ref C103) (.ref C106) = some false)
    (xi103_102 : PySem.W.kitOne K (.ref C103) (.ref C102) = some false)
    (xi103_105 : PySem.W.kitOne K (.ref C103) (.ref C105) = some false)
    (xi103_111 : PySem.W.kitOne K (.ref C103) (.ref C111) = some false)
    (xi103_110 : PySem.W.kitOne K (.ref C103) (.ref C110) = some false)
    (xi103_107 : PySem.W.kitOne K (.ref C103) (.ref C107) = some false)
    (xi103_113 : PySem.W.kitOne K (.ref C103) (.ref C113) = some false)
    (xi103_109 : PySem.W.kitOne K (.ref C103) (.ref C109) = some false)
    (xi103_101 : PySem.W.kitOne K (.ref C103) (.ref C101) = some false)
    (xi103_115 : PySem.W.kitOne K (.ref C103) (.ref C115) = some false)
    (xi103_114 : PySem.W.kitOne K (.ref C103) (.ref C114) = some false)
    (xi103_112 : PySem.W.kitOne K (.ref C103) (.ref C112) = some false)
    (xi103_99 : PySem.W.kitOne K (.ref C103) (.type "ValueError") = some true)
    (gA104 : PySem.W.findIn K (.ref C104) "__getattribute__" = some (some (.builtin "BaseException.__getattribute__"))) (gB104 : PySem.W.findIn K (.ref C104) "__getattr__" = some none) (gD104 : PySem.W.hasDictIn K C104 = true) (gE104 : PySem.W.findIn K (.ref C104) "__class__" = some (some (.builtin "object.__class__"))) (gH104 : PySem.W.mroIn K C104 (.type "object") = some true)
    (gF104_index : PySem.W.findIn K (.ref C104) "index" = some none)
    (gF104_part : PySem.W.findIn K (.ref C104) "part" = some none)
    (gF104_word : PySem.W.findIn K (.ref C104) "word" = some none)
    (gF104_row : PySem.W.findIn K (.ref C104) "row" = some none)
    (gF104_offset : PySem.W.findIn K (.ref C104) "offset" = some none)
    (xi104_108 : PySem.W.kitOne K (.ref C104) (.ref C108) = some false)
    (xi104_104 : PySem.W.kitOne K (.ref C104) (.ref C104) = some true)
    (xi104_103 : PySem.W.kitOne K (.ref C104) (.ref C103) = some false)
    (xi104_106 : PySem.W.kitOne K (.ref C104) (.ref C106) = some false)
    (xi104_102 : PySem.W.kitOne K (.ref C104) (.ref C102) = some false)
    (xi104_105 : PySem.W.kitOne K (.ref C104) (.ref C105) = some false)
    (xi104_111 : PySem.W.kitOne K (.ref C104) (.ref C111) = some false)
    (xi104_110 : PySem.W.kitOne K (.ref C104) (.ref C110) = some false)
    (xi104_107 : PySem.W.kitOne K (.ref C104) (.ref C107) = some false)
    (xi104_113 : PySem.W.kitOne K (.ref C104) (.ref C113) = some false)
    (xi104_109 : PySem.W.kitOne K (.ref C104) (.ref C109) = some false)
    (xi104_101 : PySem.W.kitOne K (.ref C104) (.ref C101) = some false)
    (xi104_115 : PySem.W.kitOne K (.ref C104) (.ref C115) = some false)
    (xi104_114 : PySem.W.kitOne K (.ref C104) (.ref C114) = some false)
    (xi104_112 : PySem.W.kitOne K (.ref C104) (.ref C112) = some false)
    (xi104_99 : PySem.W.kitOne K (.ref C104) (.type "ValueError") = some true)
    (gN : PySem.W.specialIn K (.builtin "object.__class__") "__get__" = some (some (.builtin "getset_descriptor.__get__"))) (gT : PySem.W.takesIn K (.builtin "object.__class__") = some true)
    (uA0 : PySem.W.findIn K (.ref C0) "__class__" = some (some (.builtin "object.__class__"))) (uM0 : PySem.W.mroIn K C0 (.type "object") = some true)
    (xiU0_1 : PySem.W.kitOne K (.ref C0) (.ref C1) = some false)
    (uA1 : PySem.W.findIn K (.ref C1) "__class__" = some (some (.builtin "object.__class__"))) (uM1 : PySem.W.mroIn K C1 (.type "object") = some true)
    (xiU1_1 : PySem.W.kitOne K (.ref C1) (.ref C1) = some true)
    (uA2 : PySem.W.findIn K (.ref C2) "__class__" = some (some (.builtin "object.__class__"))) (uM2 : PySem.W.mroIn K C2 (.type "object") = some true)
    (xiU2_1 : PySem.W.kitOne K (.ref C2) (.ref C1) = some true)
    (uA3 : PySem.W.findIn K (.ref C3) "__class__" = some (some (.builtin "object.__class__"))) (uM3 : PySem.W.mroIn K C3 (.type "object") = some true)
    (xiU3_1 : PySem.W.kitOne K (.ref C3) (.ref C1) = some true)
    (uA4 : PySem.W.findIn K (.ref C4) "__class__" = some (some (.builtin "object.__class__"))) (uM4 : PySem.W.mroIn K C4 (.type "object") = some true)
    (xiU4_1 : PySem.W.kitOne K (.ref C4) (.ref C1) = some true)
    (uA5 : PySem.W.findIn K (.ref C5) "__class__" = some (some (.builtin "object.__class__"))) (uM5 : PySem.W.mroIn K C5 (.type "object") = some true)
    (xiU5_1 : PySem.W.kitOne K (.ref C5) (.ref C1) = some true)
    (uA6 : PySem.W.findIn K (.ref C6) "__class__" = some (some (.builtin "object.__class__"))) (uM6 : PySem.W.mroIn K C6 (.type "object") = some true)
    (xiU6_1 : PySem.W.kitOne K (.ref C6) (.ref C1) = some true)
    (xm103_100 : PySem.W.exmOne K (.ref C103) (.ref C100) = some true)
    (xm104_100 : PySem.W.exmOne K (.ref C104) (.ref C100) = some true)
    (a22 : PySem.W.nsIn K mainGlobals "_law_random" = some (some (.ref f22)))
    (l22 : K.lookup f22 = some ⟨oc22, od22, .func (PySem.W.fnOf "_law_random" "_law_random" (defArgs s__law_random) (defBody s__law_random) (defScope s__law_random) .none kV22 dc22 pm22 an22 cd22 ct22), sl22⟩) (c22 : PySem.W.codeIn K cd22 "_law_random" = true) (k22 : PySem.W.keepIn K (.ref f22) = true)
    (a23 : PySem.W.nsIn K mainGlobals "_law_below" = some (some (.ref f23)))
    (l23 : K.lookup f23 = some ⟨oc23, od23, .func (PySem.W.fnOf "_law_below" "_law_below" (defArgs s__law_below) (defBody s__law_below) (defScope s__law_below) .none kV23 dc23 pm23 an23 cd23 ct23), sl23⟩) (c23 : PySem.W.codeIn K cd23 "_law_below" = true) (k23 : PySem.W.keepIn K (.ref f23) = true)
    (a24 : PySem.W.nsIn K mainGlobals "_law_spec" = some (some (.ref f24)))
    (l24 : K.lookup f24 = some ⟨oc24, od24, .func (PySem.W.fnOf "_law_spec" "_law_spec" (defArgs s__law_spec) (defBody s__law_spec) (defScope s__law_spec) .none kV24 dc24 pm24 an24 cd24 ct24), sl24⟩) (c24 : PySem.W.codeIn K cd24 "_law_spec" = true) (k24 : PySem.W.keepIn K (.ref f24) = true)
    (a6 : PySem.W.findIn K (.ref C1) "__init__" = some (some (.ref f6))) (i6 : PySem.W.isFn K (.ref f6) = true)
    (l6 : K.lookup f6 = some ⟨oc6, od6, .func (PySem.W.fnOf "__init__" "Washer.__init__" (defArgs s_Washer___init__) (defBody s_Washer___init__) (defScope s_Washer___init__) (.ref T6) kV6 dc6 pm6 an6 cd6 ct6), sl6⟩) (c6 : PySem.W.codeIn K cd6 "Washer.__init__" = true) (k6 : PySem.W.keepIn K (.ref f6) = true)
    (lT6 : K.lookup T6 = some ⟨ta6, tb6, .seq ti6.toArray tn6, ts6⟩) (vT6 : Vals [(.int 1)] ti6)
    (a11 : PySem.W.findIn K (.ref C2) "__init__" = some (some (.ref f11))) (i11 : PySem.W.isFn K (.ref f11) = true)
    (l11 : K.lookup f11 = some ⟨oc11, od11, .func (PySem.W.ksFn "__init__" "TopWasher.__init__" (defArgs s_TopWasher___init__) (defBody s_TopWasher___init__) (defScope s_TopWasher___init__) .none kV11 dc11 pm11 an11 (.ref k11c) ct11 cc11), sl11⟩) (c11 : PySem.W.codeIn K (.ref k11c) "TopWasher.__init__" = true) (k11 : PySem.W.keepIn K (.ref f11) = true)
    (kl11 : K.lookup k11c = some ⟨kx11, kd11, .fields kv11, ks11⟩) (kf11 : kv11[2]? = some (.str fl11 tf11)) (ke11 : ((l.prog.main.file : Str) == fl11) = true) (cu11 : K.lookup cc11 = some ⟨cx11, cy11, .cell (some (.ref C2)), cz11⟩)
    (sc11 : PySem.W.isClsIn K C2 = true) (sm11 : PySem.W.mroIn K C2 (.ref C2) = some true) (sn11 : PySem.W.ks_superIn K C2 C2 "__init__" = some (some (.ref f6))) (st11 : PySem.W.typeIn K (.ref f6) = some (.type "function")) (sf11 : PySem.W.fnIn K f6 = true)
    (a12 : PySem.W.findIn K (.ref C3) "__init__" = some (some (.ref f12))) (i12 : PySem.W.isFn K (.ref f12) = true)
    (l12 : K.lookup f12 = some ⟨oc12, od12, .func (PySem.W.ksFn "__init__" "UnderWasher.__init__" (defArgs s_UnderWasher___init__) (defBody s_UnderWasher___init__) (defScope s_UnderWasher___init__) .none kV12 dc12 pm12 an12 (.ref k12c) ct12 cc12), sl12⟩) (c12 : PySem.W.codeIn K (.ref k12c) "UnderWasher.__init__" = true) (k12 : PySem.W.keepIn K (.ref f12) = true)
    (kl12 : K.lookup k12c = some ⟨kx12, kd12, .fields kv12, ks12⟩) (kf12 : kv12[2]? = some (.str fl12 tf12)) (ke12 : ((l.prog.main.file : Str) == fl12) = true) (cu12 : K.lookup cc12 = some ⟨cx12, cy12, .cell (some (.ref C3)), cz12⟩)
    (sc12 : PySem.W.isClsIn K C3 = true) (sm12 : PySem.W.mroIn K C3 (.ref C3) = some true) (sn12 : PySem.W.ks_superIn K C3 C3 "__init__" = some (some (.ref f6))) (st12 : PySem.W.typeIn K (.ref f6) = some (.type "function")) (sf12 : PySem.W.fnIn K f6 = true)
    (a5 : PySem.W.nsIn K mainGlobals "is_number" = some (some (.ref f5)))
    (l5 : K.lookup f5 = some ⟨oc5, od5, .func (PySem.W.fnOf "is_number" "is_number" (defArgs s_is_number) (defBody s_is_number) (defScope s_is_number) .none kV5 dc5 pm5 an5 cd5 ct5), sl5⟩) (c5 : PySem.W.codeIn K cd5 "is_number" = true) (k5 : PySem.W.keepIn K (.ref f5) = true)
    (a14 : PySem.W.findIn K (.ref C4) "__init__" = some (some (.ref f14))) (i14 : PySem.W.isFn K (.ref f14) = true)
    (l14 : K.lookup f14 = some ⟨oc14, od14, .func (PySem.W.ksFn "__init__" "DepthWasher.__init__" (defArgs s_DepthWasher___init__) (defBody s_DepthWasher___init__) (defScope s_DepthWasher___init__) .none kV14 dc14 pm14 an14 (.ref k14c) ct14 cc14), sl14⟩) (c14 : PySem.W.codeIn K (.ref k14c) "DepthWasher.__init__" = true) (k14 : PySem.W.keepIn K (.ref f14) = true)
    (kl14 : K.lookup k14c = some ⟨kx14, kd14, .fields kv14, ks14⟩) (kf14 : kv14[2]? = some (.str fl14 tf14)) (ke14 : ((l.prog.main.file : Str) == fl14) = true) (cu14 : K.lookup cc14 = some ⟨cx14, cy14, .cell (some (.ref C4)), cz14⟩)
    (sc14 : PySem.W.isClsIn K C4 = true) (sm14 : PySem.W.mroIn K C4 (.ref C4) = some true) (sn14 : PySem.W.ks_superIn K C4 C4 "__init__" = some (some (.ref f6))) (st14 : PySem.W.typeIn K (.ref f6) = some (.type "function")) (sf14 : PySem.W.fnIn K f6 = true)
    (a16 : PySem.W.findIn K (.ref C5) "__init__" = some (some (.ref f16))) (i16 : PySem.W.isFn K (.ref f16) = true)
    (l16 : K.lookup f16 = some ⟨oc16, od16, .func (PySem.W.ksFn "__init__" "OwnWasher.__init__" (defArgs s_OwnWasher___init__) (defBody s_OwnWasher___init__) (defScope s_OwnWasher___init__) .none kV16 dc16 pm16 an16 (.ref k16c) ct16 cc16), sl16⟩) (c16 : PySem.W.codeIn K (.ref k16c) "OwnWasher.__init__" = true) (k16 : PySem.W.keepIn K (.ref f16) = true)
    (kl16 : K.lookup k16c = some ⟨kx16, kd16, .fields kv16, ks16⟩) (kf16 : kv16[2]? = some (.str fl16 tf16)) (ke16 : ((l.prog.main.file : Str) == fl16) = true) (cu16 : K.lookup cc16 = some ⟨cx16, cy16, .cell (some (.ref C5)), cz16⟩)
    (sc16 : PySem.W.isClsIn K C5 = true) (sm16 : PySem.W.mroIn K C5 (.ref C5) = some true) (sn16 : PySem.W.ks_superIn K C5 C5 "__init__" = some (some (.ref f6))) (st16 : PySem.W.typeIn K (.ref f6) = some (.type "function")) (sf16 : PySem.W.fnIn K f6 = true)
    (a25 : PySem.W.nsIn K mainGlobals "_law_own" = some (some (.ref f25)))
    (l25 : K.lookup f25 = some ⟨oc25, od25, .func (PySem.W.fnOf "_law_own" "_law_own" (defArgs s__law_own) (defBody s__law_own) (defScope s__law_own) .none kV25 dc25 pm25 an25 cd25 ct25), sl25⟩) (c25 : PySem.W.codeIn K cd25 "_law_own" = true) (k25 : PySem.W.keepIn K (.ref f25) = true)
    (a7 : PySem.W.findIn K (.ref C1) "repeat_after" = some (some (.ref p7))) (pq7 : PySem.W.specialIn K (.ref p7) "__get__" = some (some (.builtin "property.__get__"))) (pt7 : PySem.W.takesIn K (.ref p7) = some true) (pr7 : PySem.W.recIn K p7 "property" = some (.ref f7 :: rs7))
    (l7 : K.lookup f7 = some ⟨oc7, od7, .func (PySem.W.fnOf "repeat_after" "Washer.repeat_after" (defArgs s_Washer_repeat_after) (defBody s_Washer_repeat_after) (defScope s_Washer_repeat_after) .none kV7 dc7 pm7 an7 cd7 ct7), sl7⟩) (c7 : PySem.W.codeIn K cd7 "Washer.repeat_after" = true) (k7 : PySem.W.keepIn K (.ref f7) = true)
    (a20 : PySem.W.nsIn K mainGlobals "common_multiple" = some (some (.ref f20)))
    (l20 : K.lookup f20 = some ⟨oc20, od20, .func (PySem.W.fnOf "common_multiple" "common_multiple" (defArgs s_common_multiple) (defBody s_common_multiple) (defScope s_common_multiple) .none kV20 dc20 pm20 an20 cd20 ct20), sl20⟩) (c20 : PySem.W.codeIn K cd20 "common_multiple" = true) (k20 : PySem.W.keepIn K (.ref f20) = true)
    (a18 : PySem.W.findIn K (.ref C6) "__init__" = some (some (.ref f18))) (i18 : PySem.W.isFn K (.ref f18) = true)
    (l18 : K.lookup f18 = some ⟨oc18, od18, .func (PySem.W.ksFn "__init__" "TurnWasher.__init__" (defArgs s_TurnWasher___init__) (defBody s_TurnWasher___init__) (defScope s_TurnWasher___init__) .none kV18 dc18 pm18 an18 (.ref k18c) ct18 cc18), sl18⟩) (c18 : PySem.W.codeIn K (.ref k18c) "TurnWasher.__init__" = true) (k18 : PySem.W.keepIn K (.ref f18) = true)
    (kl18 : K.lookup k18c = some ⟨kx18, kd18, .fields kv18, ks18⟩) (kf18 : kv18[2]? = some (.str fl18 tf18)) (ke18 : ((l.prog.main.file : Str) == fl18) = true) (cu18 : K.lookup cc18 = some ⟨cx18, cy18, .cell (some (.ref C6)), cz18⟩)
    (sc18 : PySem.W.isClsIn K C6 = true) (sm18 : PySem.W.mroIn K C6 (.ref C6) = some true) (sn18 : PySem.W.ks_superIn K C6 C6 "__init__" = some (some (.ref f6))) (st18 : PySem.W.typeIn K (.ref f6) = some (.type "function")) (sf18 : PySem.W.fnIn K f6 = true)
    (a26 : PySem.W.nsIn K mainGlobals "_law_washer" = some (some (.ref f26)))
    (l26 : K.lookup f26 = some ⟨oc26, od26, .func (PySem.W.fnOf "_law_washer" "_law_washer" (defArgs s__law_washer) (defBody s__law_washer) (defScope s__law_washer) .none kV26 dc26 pm26 an26 cd26 ct26), sl26⟩) (c26 : PySem.W.codeIn K cd26 "_law_washer" = true) (k26 : PySem.W.keepIn K (.ref f26) = true)
    (a21 : PySem.W.nsIn K mainGlobals "describe" = some (some (.ref f21)))
    (l21 : K.lookup f21 = some ⟨oc21, od21, .func (PySem.W.fnOf "describe" "describe" (defArgs s_describe) (defBody s_describe) (defScope s_describe) .none kV21 dc21 pm21 an21 cd21 ct21), sl21⟩) (c21 : PySem.W.codeIn K cd21 "describe" = true) (k21 : PySem.W.keepIn K (.ref f21) = true)
    (a29 : PySem.W.nsIn K mainGlobals "_law_words" = some (some (.ref f29)))
    (l29 : K.lookup f29 = some ⟨oc29, od29, .func (PySem.W.fnOf "_law_words" "_law_words" (defArgs s__law_words) (defBody s__law_words) (defScope s__law_words) .none kV29 dc29 pm29 an29 cd29 ct29), sl29⟩) (c29 : PySem.W.codeIn K cd29 "_law_words" = true) (k29 : PySem.W.keepIn K (.ref f29) = true)
    (a28 : PySem.W.nsIn K mainGlobals "_law_period" = some (some (.ref f28)))
    (l28 : K.lookup f28 = some ⟨oc28, od28, .func (PySem.W.fnOf "_law_period" "_law_period" (defArgs s__law_period) (defBody s__law_period) (defScope s__law_period) .none kV28 dc28 pm28 an28 cd28 ct28), sl28⟩) (c28 : PySem.W.codeIn K cd28 "_law_period" = true) (k28 : PySem.W.keepIn K (.ref f28) = true)
    (a27 : PySem.W.nsIn K mainGlobals "_law_equal" = some (some (.ref f27)))
    (l27 : K.lookup f27 = some ⟨oc27, od27, .func (PySem.W.fnOf "_law_equal" "_law_equal" (defArgs s__law_equal) (defBody s__law_equal) (defScope s__law_equal) .none kV27 dc27 pm27 an27 cd27 ct27), sl27⟩) (c27 : PySem.W.codeIn K cd27 "_law_equal" = true) (k27 : PySem.W.keepIn K (.ref f27) = true)
    (a30 : PySem.W.nsIn K mainGlobals "_law_habit" = some (some (.ref f30)))
    (l30 : K.lookup f30 = some ⟨oc30, od30, .func (PySem.W.fnOf "_law_habit" "_law_habit" (defArgs s__law_habit) (defBody s__law_habit) (defScope s__law_habit) .none kV30 dc30 pm30 an30 cd30 ct30), sl30⟩) (c30 : PySem.W.codeIn K cd30 "_law_habit" = true) (k30 : PySem.W.keepIn K (.ref f30) = true)
    (a31 : PySem.W.nsIn K mainGlobals "_law_error_of" = some (some (.ref f31)))
    (l31 : K.lookup f31 = some ⟨oc31, od31, .func (PySem.W.fnOf "_law_error_of" "_law_error_of" (defArgs s__law_error_of) (defBody s__law_error_of) (defScope s__law_error_of) .none kV31 dc31 pm31 an31 cd31 ct31), sl31⟩) (c31 : PySem.W.codeIn K cd31 "_law_error_of" = true) (k31 : PySem.W.keepIn K (.ref f31) = true)
    (a8 : PySem.W.findIn K (.ref C1) "depth" = some (some (.ref f8))) (i8 : PySem.W.isFn K (.ref f8) = true)
    (l8 : K.lookup f8 = some ⟨oc8, od8, .func (PySem.W.fnOf "depth" "Washer.depth" (defArgs s_Washer_depth) (defBody s_Washer_depth) (defScope s_Washer_depth) .none kV8 dc8 pm8 an8 cd8 ct8), sl8⟩) (c8 : PySem.W.codeIn K cd8 "Washer.depth" = true) (k8 : PySem.W.keepIn K (.ref f8) = true)
    (a13 : PySem.W.findIn K (.ref C3) "depth" = some (some (.ref f13))) (i13 : PySem.W.isFn K (.ref f13) = true)
    (l13 : K.lookup f13 = some ⟨oc13, od13, .func (PySem.W.fnOf "depth" "UnderWasher.depth" (defArgs s_UnderWasher_depth) (defBody s_UnderWasher_depth) (defScope s_UnderWasher_depth) .none kV13 dc13 pm13 an13 cd13 ct13), sl13⟩) (c13 : PySem.W.codeIn K cd13 "UnderWasher.depth" = true) (k13 : PySem.W.keepIn K (.ref f13) = true)
    (a15 : PySem.W.findIn K (.ref C4) "depth" = some (some (.ref f15))) (i15 : PySem.W.isFn K (.ref f15) = true)
    (l15 : K.lookup f15 = some ⟨oc15, od15, .func (PySem.W.fnOf "depth" "DepthWasher.depth" (defArgs s_DepthWasher_depth) (defBody s_DepthWasher_depth) (defScope s_DepthWasher_depth) .none kV15 dc15 pm15 an15 cd15 ct15), sl15⟩) (c15 : PySem.W.codeIn K cd15 "DepthWasher.depth" = true) (k15 : PySem.W.keepIn K (.ref f15) = true)
    (a10 : PySem.W.findIn K (.ref C1) "habit_in" = some (some (.ref f10))) (i10 : PySem.W.isFn K (.ref f10) = true)
    (l10 : K.lookup f10 = some ⟨oc10, od10, .func (PySem.W.fnOf "habit_in" "Washer.habit_in" (defArgs s_Washer_habit_in) (defBody s_Washer_habit_in) (defScope s_Washer_habit_in) .none kV10 dc10 pm10 an10 cd10 ct10), sl10⟩) (c10 : PySem.W.codeIn K cd10 "Washer.habit_in" = true) (k10 : PySem.W.keepIn K (.ref f10) = true)
    (a17 : PySem.W.findIn K (.ref C5) "habit_in" = some (some (.ref f17))) (i17 : PySem.W.isFn K (.ref f17) = true)
    (l17 : K.lookup f17 = some ⟨oc17, od17, .func (PySem.W.fnOf "habit_in" "OwnWasher.habit_in" (defArgs s_OwnWasher_habit_in) (defBody s_OwnWasher_habit_in) (defScope s_OwnWasher_habit_in) .none kV17 dc17 pm17 an17 cd17 ct17), sl17⟩) (c17 : PySem.W.codeIn K cd17 "OwnWasher.habit_in" = true) (k17 : PySem.W.keepIn K (.ref f17) = true)
    (a1 : PySem.W.nsIn K mainGlobals "is_habit" = some (some (.ref f1)))
    (l1 : K.lookup f1 = some ⟨oc1, od1, .func (PySem.W.fnOf "is_habit" "is_habit" (defArgs s_is_habit) (defBody s_is_habit) (defScope s_is_habit) .none kV1 dc1 pm1 an1 cd1 ct1), sl1⟩) (c1 : PySem.W.codeIn K cd1 "is_habit" = true) (k1 : PySem.W.keepIn K (.ref f1) = true)
    (a9 : PySem.W.findIn K (.ref C1) "habit_for" = some (some (.ref f9))) (i9 : PySem.W.isFn K (.ref f9) = true)
    (l9 : K.lookup f9 = some ⟨oc9, od9, .func (PySem.W.fnOf "habit_for" "Washer.habit_for" (defArgs s_Washer_habit_for) (defBody s_Washer_habit_for) (defScope s_Washer_habit_for) .none kV9 dc9 pm9 an9 cd9 ct9), sl9⟩) (c9 : PySem.W.codeIn K cd9 "Washer.habit_for" = true) (k9 : PySem.W.keepIn K (.ref f9) = true)
    (a19 : PySem.W.findIn K (.ref C6) "habit_in" = some (some (.ref f19))) (i19 : PySem.W.isFn K (.ref f19) = true)
    (l19 : K.lookup f19 = some ⟨oc19, od19, .func (PySem.W.fnOf "habit_in" "TurnWasher.habit_in" (defArgs s_TurnWasher_habit_in) (defBody s_TurnWasher_habit_in) (defScope s_TurnWasher_habit_in) .none kV19 dc19 pm19 an19 cd19 ct19), sl19⟩) (c19 : PySem.W.codeIn K cd19 "TurnWasher.habit_in" = true) (k19 : PySem.W.keepIn K (.ref f19) = true)
    (a32 : PySem.W.nsIn K mainGlobals "law" = some (some (.ref f32)))
    (l32 : K.lookup f32 = some ⟨oc32, od32, .func (PySem.W.fnOf "law" "law" (defArgs s_law) (defBody s_law) (defScope s_law) .none kV32 dc32 pm32 an32 (.ref k32c) ct32), sl32⟩) (c32 : PySem.W.codeIn K (.ref k32c) "law" = true) (k32 : PySem.W.keepIn K (.ref f32) = true)
    (kl32 : K.lookup k32c = some ⟨kx32, kd32, .fields kv32, ks32⟩) (kp32 : kv32[11]? = some (.ref P32)) (kn32 : K.lookup P32 = none)
    (ai7_2 : PySem.W.findIn K (.ref C2) "repeat_after" = some (some (.ref p7)))
    (ai8_2 : PySem.W.findIn K (.ref C2) "depth" = some (some (.ref f8)))
    (ai9_2 : PySem.W.findIn K (.ref C2) "habit_for" = some (some (.ref f9)))
    (ai10_2 : PySem.W.findIn K (.ref C2) "habit_in" = some (some (.ref f10)))
    (ai7_3 : PySem.W.findIn K (.ref C3) "repeat_after" = some (some (.ref p7)))
    (ai9_3 : PySem.W.findIn K (.ref C3) "habit_for" = some (some (.ref f9)))
    (ai10_3 : PySem.W.findIn K (.ref C3) "habit_in" = some (some (.ref f10)))
    (ai7_4 : PySem.W.findIn K (.ref C4) "repeat_after" = some (some (.ref p7)))
    (ai9_4 : PySem.W.findIn K (.ref C4) "habit_for" = some (some (.ref f9)))
    (ai10_4 : PySem.W.findIn K (.ref C4) "habit_in" = some (some (.ref f10)))
    (ai7_5 : PySem.W.findIn K (.ref C5) "repeat_after" = some (some (.ref p7)))
    (ai8_5 : PySem.W.findIn K (.ref C5) "depth" = some (some (.ref f8)))
    (ai9_5 : PySem.W.findIn K (.ref C5) "habit_for" = some (some (.ref f9)))
    (ai7_6 : PySem.W.findIn K (.ref C6) "repeat_after" = some (some (.ref p7)))
    (ai8_6 : PySem.W.findIn K (.ref C6) "depth" = some (some (.ref f8)))
    (ai9_6 : PySem.W.findIn K (.ref C6) "habit_for" = some (some (.ref f9)))
    (zsup : PySem.W.nsIn K mainGlobals "super" = some none) (sop : PySem.W.nsIn K cStatics "thirdparty.any" = some none) (stp : (l.prog.main.scope.names.lookup ("super" : Str)).isSome = false)
    (z_abs : PySem.W.nsIn K mainGlobals "abs" = some none)
    (z_len : PySem.W.nsIn K mainGlobals "len" = some none)
    (z_range : PySem.W.nsIn K mainGlobals "range" = some none)
    (z_tuple : PySem.W.nsIn K mainGlobals "tuple" = some none)
    (z_isinstance : PySem.W.nsIn K mainGlobals "isinstance" = some none)
    (z_int : PySem.W.nsIn K mainGlobals "int" = some none)
    (z_bool : PySem.W.nsIn K mainGlobals "bool" = some none)
    (yhG_MAX_DEPTH : PySem.W.nsIn K mainGlobals "MAX_DEPTH" = some (some (.int 11 thG_MAX_DEPTH)))
    (z_str : PySem.W.nsIn K mainGlobals "str" = some none)
    (z_list : PySem.W.nsIn K mainGlobals "list" = some none)
    (z_all : PySem.W.nsIn K mainGlobals "all" = some none)
    (z_min : PySem.W.nsIn K mainGlobals "min" = some none)
    (z_ValueError : PySem.W.nsIn K mainGlobals "ValueError" = some none)
    (z_enumerate : PySem.W.nsIn K mainGlobals "enumerate" = some none)
    (z_divmod : PySem.W.nsIn K mainGlobals "divmod" = some none) :
    LamX.LawAtS l w K (L2N.CX l.prog w) 12 63 "_law_script" mg fa h := by
  have e := hfa.symm.trans (PySem.W.mg_of X G a32)
  cases e
  have cls0 : Cls K C0 := ⟨pg0, hd0, po0, sa0⟩
  have cls1 : Cls K C1 := ⟨pg1, hd1, po1, sa1⟩
  have cls2 : Cls K C2 := ⟨pg2, hd2, po2, sa2⟩
  have cls3 : Cls K C3 := ⟨pg3, hd3, po3, sa3⟩
  have cls4 : Cls K C4 := ⟨pg4, hd4, po4, sa4⟩
  have cls5 : Cls K C5 := ⟨pg5, hd5, po5, sa5⟩
  have cls6 : Cls K C6 := ⟨pg6, hd6, po6, sa6⟩
  have ec103 : ExcC K C103 := ⟨gA103, gB103, xs103, gD103, gE103, gN, gT, gH103⟩
  have ex103 : XfC K C103 := ⟨gA103, gB103, xs103, gD103⟩
  have ec104 : ExcC K C104 := ⟨gA104, gB104, xs104, gD104, gE104, gN, gT, gH104⟩
  have ex104 : XfC K C104 := ⟨gA104, gB104, xs104, gD104⟩
  have ins0 : InsC K C0 := ⟨cls0, uA0, gN, gT, uM0⟩
  have ins1 : InsC K C1 := ⟨cls1, uA1, gN, gT, uM1⟩
  have ins2 : InsC K C2 := ⟨cls2, uA2, gN, gT, uM2⟩
  have ins3 : InsC K C3 := ⟨cls3, uA3, gN, gT, uM3⟩
  have ins4 : InsC K C4 := ⟨cls4, uA4, gN, gT, uM4⟩
  have ins5 : InsC K C5 := ⟨cls5, uA5, gN, gT, uM5⟩
  have ins6 : InsC K C6 := ⟨cls6, uA6, gN, gT, uM6⟩
  have fn22 := fun_mk (st := s__law_random) l22 c22 k22
  have bn22 := fn22.binds (ps := ["_law_script", "_law_salt"]) fun _ _ _ _ _ _ us hl => match us, hl with | [_, _], _ => rfl
  have fd22 := fun_d fn22
  have m22 := PySem.W.mg_of X G a22
  have fn23 := fun_mk (st := s__law_below) l23 c23 k23
  have bn23 := fn23.binds (ps := ["_law_d", "_law_limit"]) fun _ _ _ _ _ _ us hl => match us, hl with | [_, _], _ => rfl
  have fd23 := fun_d fn23
  have m23 := PySem.W.mg_of X G a23
  have fn24 := fun_mk (st := s__law_spec) l24 c24 k24
  have bn24 := fn24.binds (ps := ["_law_d", "_law_deep"]) fun _ _ _ _ _ _ us hl => match us, hl with | [_, _], _ => rfl
  have fd24 := fun_d fn24
  have m24 := PySem.W.mg_of X G a24
  have fd6 : FnD K "__init__" "Washer.__init__" s_Washer___init__ f6 _ := ⟨⟨_, _, _, _, _, _, _, _, _, _, rfl, l6, c6⟩⟩
  have fD6 : FunD K "__init__" "Washer.__init__" (defArgs s_Washer___init__) (defBody s_Washer___init__) (defScope s_Washer___init__) [(.int 1)] [] f6 _ := ⟨⟨_, _, _, _, _, _, _, _, _, _, rfl, l6, c6, .inr ⟨by simp, _, _, _, _, rfl, lT6, rfl, vT6⟩, .inl rfl⟩, k6⟩
  obtain ⟨ds6_0, vd6_0, bn6_0⟩ := fD6.binds1 (ps := ["self", "label", "rounds"]) 3 1 (by simp) rfl fun _ _ _ _ _ _ _ us its hu hi => match us, hu, its, hi with | [_, _, _], _, [_], _ => ⟨_, rfl, rfl⟩
  obtain ⟨ds6_1, vd6_1, bn6_1⟩ := fD6.binds1 (ps := ["self", "label", "rounds"]) 2 0 (by simp) rfl fun _ _ _ _ _ _ _ us its hu hi => match us, hu, its, hi with | [_, _], _, [_], _ => ⟨_, rfl, rfl⟩
  have fn11 : FnDC K "__init__" "TopWasher.__init__" s_TopWasher___init__ f11 k11c cc11 _ := ⟨⟨_, _, _, _, _, _, _, _, _, rfl, l11, c11⟩, ⟨_, _, _, _, cu11⟩⟩
  have bn11 : Binds K (PySem.W.ksFn "__init__" "TopWasher.__init__" (defArgs s_TopWasher___init__) (defBody s_TopWasher___init__) (defScope s_TopWasher___init__) .none kV11 dc11 pm11 an11 (.ref k11c) ct11 cc11) ["self"] [] := fun s us _ hl => by rw [List.append_nil] at hl ⊢; exact match us, hl with | [_], _ => .of_eq rfl
  have fn12 : FnDC K "__init__" "UnderWasher.__init__" s_UnderWasher___init__ f12 k12c cc12 _ := ⟨⟨_, _, _, _, _, _, _, _, _, rfl, l12, c12⟩, ⟨_, _, _, _, cu12⟩⟩
  have bn12 : Binds K (PySem.W.ksFn "__init__" "UnderWasher.__init__" (defArgs s_UnderWasher___init__) (defBody s_UnderWasher___init__) (defScope s_UnderWasher___init__) .none kV12 dc12 pm12 an12 (.ref k12c) ct12 cc12) ["self"] [] := fun s us _ hl => by rw [List.append_nil] at hl ⊢; exact match us, hl with | [_], _ => .of_eq rfl
  have fn5 := fun_mk (st := s_is_number) l5 c5 k5
  have bn5 := fn5.binds (ps := ["value", "low", "high"]) fun _ _ _ _ _ _ us hl => match us, hl with | [_, _, _], _ => rfl
  have fd5 := fun_d fn5
  have m5 := PySem.W.mg_of X G a5
  have fn14 : FnDC K "__init__" "DepthWasher.__init__" s_DepthWasher___init__ f14 k14c cc14 _ := ⟨⟨_, _, _, _, _, _, _, _, _, rfl, l14, c14⟩, ⟨_, _, _, _, cu14⟩⟩
  have bn14 : Binds K (PySem.W.ksFn "__init__" "DepthWasher.__init__" (defArgs s_DepthWasher___init__) (defBody s_DepthWasher___init__) (defScope s_DepthWasher___init__) .none kV14 dc14 pm14 an14 (.ref k14c) ct14 cc14) ["self", "level"] [] := fun s us _ hl => by rw [List.append_nil] at hl ⊢; exact match us, hl with | [_, _], _ => .of_eq rfl
  have fn16 : FnDC K "__init__" "OwnWasher.__init__" s_OwnWasher___init__ f16 k16c cc16 _ := ⟨⟨_, _, _, _, _, _, _, _, _, rfl, l16, c16⟩, ⟨_, _, _, _, cu16⟩⟩
  have fn25 := fun_mk (st := s__law_own) l25 c25 k25
  have bn25 := fn25.binds (ps := ["_law_depths"]) fun _ _ _ _ _ _ us hl => match us, hl with | [_], _ => rfl
  have fd25 := fun_d fn25
  have m25 := PySem.W.mg_of X G a25
  have fn7 := fun_mk (st := s_Washer_repeat_after) l7 c7 k7
  have bn7 := fn7.binds (ps := ["self"]) fun _ _ _ _ _ _ us hl => match us, hl with | [_], _ => rfl
  have fd7 := fun_d fn7
  have fn20 := fun_mk (st := s_common_multiple) l20 c20 k20
  have bn20 := fn20.binds (ps := ["numbers"]) fun _ _ _ _ _ _ us hl => match us, hl with | [_], _ => rfl
  have fd20 := fun_d fn20
  have m20 := PySem.W.mg_of X G a20
  have fn18 : FnDC K "__init__" "TurnWasher.__init__" s_TurnWasher___init__ f18 k18c cc18 _ := ⟨⟨_, _, _, _, _, _, _, _, _, rfl, l18, c18⟩, ⟨_, _, _, _, cu18⟩⟩
  have fn26 := fun_mk (st := s__law_washer) l26 c26 k26
  have bn26 := fn26.binds (ps := ["_law_spec_here"]) fun _ _ _ _ _ _ us hl => match us, hl with | [_], _ => rfl
  have fd26 := fun_d fn26
  have m26 := PySem.W.mg_of X G a26
  have fn21 := fun_mk (st := s_describe) l21 c21 k21
  have bn21 := fn21.binds (ps := ["washer"]) fun _ _ _ _ _ _ us hl => match us, hl with | [_], _ => rfl
  have fd21 := fun_d fn21
  have m21 := PySem.W.mg_of X G a21
  have fn29 := fun_mk (st := s__law_words) l29 c29 k29
  have bn29 := fn29.binds (ps := ["_law_spec_here"]) fun _ _ _ _ _ _ us hl => match us, hl with | [_], _ => rfl
  have fd29 := fun_d fn29
  have m29 := PySem.W.mg_of X G a29
  have fn28 := fun_mk (st := s__law_period) l28 c28 k28
  have bn28 := fn28.binds (ps := ["_law_spec_here"]) fun _ _ _ _ _ _ us hl => match us, hl with | [_], _ => rfl
  have fd28 := fun_d fn28
  have m28 := PySem.W.mg_of X G a28
  have fn27 := fun_mk (st := s__law_equal) l27 c27 k27
  have bn27 := fn27.binds (ps := ["_law_actual", "_law_expected"]) fun _ _ _ _ _ _ us hl => match us, hl with | [_, _], _ => rfl
  have fd27 := fun_d fn27
  have m27 := PySem.W.mg_of X G a27
  have fn30 := fun_mk (st := s__law_habit) l30 c30 k30
  have bn30 := fn30.binds (ps := ["_law_spec_here", "_law_count", "_law_size", "_law_wash"]) fun _ _ _ _ _ _ us hl => match us, hl with | [_, _, _, _], _ => rfl
  have fd30 := fun_d fn30
  have m30 := PySem.W.mg_of X G a30
  have fn31 := fun_mk (st := s__law_error_of) l31 c31 k31
  have bn31 := fn31.binds (ps := ["_law_call"]) fun _ _ _ _ _ _ us hl => match us, hl with | [_], _ => rfl
  have fd31 := fun_d fn31
  have m31 := PySem.W.mg_of X G a31
  have fn8 := fun_mk (st := s_Washer_depth) l8 c8 k8
  have bn8 := fn8.binds (ps := ["self", "shelf_size", "index"]) fun _ _ _ _ _ _ us hl => match us, hl with | [_, _, _], _ => rfl
  have fd8 := fun_d fn8
  have fn13 := fun_mk (st := s_UnderWasher_depth) l13 c13 k13
  have bn13 := fn13.binds (ps := ["self", "shelf_size", "index"]) fun _ _ _ _ _ _ us hl => match us, hl with | [_, _, _], _ => rfl
  have fd13 := fun_d fn13
  have fn15 := fun_mk (st := s_DepthWasher_depth) l15 c15 k15
  have bn15 := fn15.binds (ps := ["self", "shelf_size", "index"]) fun _ _ _ _ _ _ us hl => match us, hl with | [_, _, _], _ => rfl
  have fd15 := fun_d fn15
  have fn10 := fun_mk (st := s_Washer_habit_in) l10 c10 k10
  have bn10 := fn10.binds (ps := ["self", "count", "size", "wash"]) fun _ _ _ _ _ _ us hl => match us, hl with | [_, _, _, _], _ => rfl
  have fd10 := fun_d fn10
  have fn17 := fun_mk (st := s_OwnWasher_habit_in) l17 c17 k17
  have bn17 := fn17.binds (ps := ["self", "count", "size", "wash"]) fun _ _ _ _ _ _ us hl => match us, hl with | [_, _, _, _], _ => rfl
  have fd17 := fun_d fn17
  have fn1 := fun_mk (st := s_is_habit) l1 c1 k1
  have bn1 := fn1.binds (ps := ["count", "size", "habit"]) fun _ _ _ _ _ _ us hl => match us, hl with | [_, _, _], _ => rfl
  have fd1 := fun_d fn1
  have m1 := PySem.W.mg_of X G a1
  have fn9 := fun_mk (st := s_Washer_habit_for) l9 c9 k9
  have bn9 := fn9.binds (ps := ["self", "count", "size", "wash"]) fun _ _ _ _ _ _ us hl => match us, hl with | [_, _, _, _], _ => rfl
  have fd9 := fun_d fn9
  have fn19 := fun_mk (st := s_TurnWasher_habit_in) l19 c19 k19
  have bn19 := fn19.binds (ps := ["self", "count", "size", "wash"]) fun _ _ _ _ _ _ us hl => match us, hl with | [_, _, _, _], _ => rfl
  have fd19 := fun_d fn19
  have fn32 := fun_mk (st := s_law) l32 c32 k32
  have bn32 := fn32.binds (ps := ["_law_script"]) fun _ _ _ _ _ _ us hl => match us, hl with | [_], _ => rfl
  have fd32 := fun_d fn32
  have m32 := PySem.W.mg_of X G a32
  have msup := PySem.W.mg_none_of X G zsup
  have h_abs := PySem.W.mg_none_of X G z_abs
  have h_len := PySem.W.mg_none_of X G z_len
  have h_range := PySem.W.mg_none_of X G z_range
  have h_tuple := PySem.W.mg_none_of X G z_tuple
  have h_isinstance := PySem.W.mg_none_of X G z_isinstance
  have h_int := PySem.W.mg_none_of X G z_int
  have h_bool := PySem.W.mg_none_of X G z_bool
  have hG_MAX_DEPTH : ∃ t, mg "MAX_DEPTH" = some (.int 11 t) := ⟨_, PySem.W.mg_of X G yhG_MAX_DEPTH⟩
  have h_str := PySem.W.mg_none_of X G z_str
  have h_list := PySem.W.mg_none_of X G z_list
  have h_all := PySem.W.mg_none_of X G z_all
  have h_min := PySem.W.mg_none_of X G z_min
  have h_ValueError := PySem.W.mg_none_of X G z_ValueError
  have h_enumerate := PySem.W.mg_none_of X G z_enumerate
  have h_divmod := PySem.W.mg_none_of X G z_divmod
  have tab32 := hTab "law" (by simp) k32c P32 (tabIn_of a32 l32 rfl kl32 kp32)
  let T : Tb := { K := K, cl := fun c => match c with | 0 => C0 | 1 => C1 | 2 => C2 | 3 => C3 | 4 => C4 | 5 => C5 | 6 => C6 | 103 => C103 | 108 => C108 | 104 => C104 | 106 => C106 | 102 => C102 | 105 => C105 | 111 => C111 | 110 => C110 | 107 => C107 | 113 => C113 | 109 => C109 | 101 => C101 | 115 => C115 | 114 => C114 | 112 => C112 | 100 => C100 | _ => 0, nm := nmT, lams := [lam_0], tb := [(P32, "law.<locals>." ++ "<lambda>")] }
  refine lawAt_of (fd := PySem.W.fnOf "law" "law" (defArgs s_law) (defBody s_law) (defScope s_law) .none kV32 dc32 pm32 an32 (.ref k32c) ct32) (T := T) (F := F_law) [(k32c, P32)] ?_ ?_ (fun s v => .of_eq rfl) rfl ?_ pl rfl rfl fun base _ _ TBs => ?_
  · intro p hp; simp only [List.mem_cons, List.not_mem_nil, or_false] at hp; rcases hp with rfl <;> assumption
  · intro p hp; simp only [List.mem_cons, List.not_mem_nil, or_false] at hp; rcases hp with rfl <;> assumption
  · intro p hp; simp only [T, List.mem_cons, List.not_mem_nil, or_false] at hp; rcases hp with rfl <;> simp
  have ok22 : FnOk l.prog w K mg base (L2N.CX l.prog w) 1 f22 _ ["_law_script", "_law_salt"] (fun vs H Q E => vs.length = 2 ∧ spD T F__law_random vs H Q E) := def_ok ({ T := T, g := g__law_random, P := l.prog, w := w, mg := mg, base := base, N := [], sc := defScope s_law, W := fun _ _ _ _ => False, L := 0, fn := fun _ => true } : Cs) (fz := false) fd22 sc__law_random rfl (fun E => d__law_random _ E h_abs)
  have ok23 : FnOk l.prog w K mg base (L2N.CX l.prog w) 1 f23 _ ["_law_d", "_law_limit"] (fun vs H Q E => vs.length = 2 ∧ spD T F__law_below vs H Q E) := def_ok ({ T := T, g := g__law_below, P := l.prog, w := w, mg := mg, base := base, N := [], sc := defScope s_law, W := fun _ _ _ _ => False, L := 0, fn := fun _ => true } : Cs) (fz := false) fd23 sc__law_below rfl (fun E => d__law_below _ E h_len)
  have okr24 : ∀ n, (FnOk l.prog w K mg base (L2N.CX l.prog w) (2 + n) f24 _ ["_law_d", "_law_deep"] (fun vs H Q E => vs.length = 2 ∧ spD T (F__law_spec n) vs H Q E)) := fun n => by
    induction n with
    | zero => exact def_none
    | succ n ih => exact def_ok ({ T := T, g := g__law_spec n, P := l.prog, w := w, mg := mg, base := base, N := [], sc := defScope s_law, W := fun _ _ _ _ => False, L := 2 + n, fn := fun _ => true } : Cs) (fz := false) fd24 sc__law_spec rfl (fun E => d__law_spec _ E (fnE_at ok23 (show 1 ≤ 2 + n by omega) m23 k23 bn23 rfl rfl) h_range h_tuple (fnE_at ih (Nat.le_refl _) m24 k24 bn24 rfl rfl))
  have ok24 := (okr24 3)
  have ok6 : FnOk l.prog w K mg base (L2N.CX l.prog w) 1 f6 _ ["self", "label", "rounds"] (fun vs H Q E => vs.length = 3 ∧ spD T F_Washer___init__ vs H Q E) := def_ok ({ T := T, g := g_Washer___init__, P := l.prog, w := w, mg := mg, base := base, N := [], sc := defScope s_law, W := fun _ _ _ _ => False, L := 0, fn := fun _ => true } : Cs) (fz := false) fd6 sc_Washer___init__ rfl (fun E => d_Washer___init__ _ E rfl (attOk_gen (fun c i h => by cases h) (fun c h => by rcases inF_label c h with rfl | rfl | rfl | rfl | rfl | rfl <;> first | exact ⟨cls1, n1_label⟩ | exact ⟨cls2, n2_label⟩ | exact ⟨cls3, n3_label⟩ | exact ⟨cls4, n4_label⟩ | exact ⟨cls5, n5_label⟩ | exact ⟨cls6, n6_label⟩)) (attOk_gen (fun c i h => by cases h) (fun c h => by rcases inF_rounds c h with rfl | rfl | rfl | rfl | rfl | rfl <;> first | exact ⟨cls1, n1_rounds⟩ | exact ⟨cls2, n2_rounds⟩ | exact ⟨cls3, n3_rounds⟩ | exact ⟨cls4, n4_rounds⟩ | exact ⟨cls5, n5_rounds⟩ | exact ⟨cls6, n6_rounds⟩)))
  have ok11 : FnOk l.prog w K mg base (L2N.CX l.prog w) 3 f11 _ ["self"] (fun vs H Q E => vs.length = 1 ∧ spD T F_TopWasher___init__ vs H Q E) := def_okC ({ T := T, g := g_TopWasher___init__, P := l.prog, w := w, mg := mg, base := base, N := [], sc := defScope s_law, W := fun _ _ _ _ => False, L := 2, fn := fun _ => true, hold := fun env => env.func = some f11 ∧ env.code = .ref k11c ∧ env.cells.lookup ("__class__" : Str) = some cc11 } : Cs) (fz := false) fn11 sc_TopWasher___init__ rfl (fun E => d_TopWasher___init__ _ E (supE_of (i := 1006) (n := 1) (F := F_Washer___init__) (dds := [(.int 1)]) ⟨⟨_, _, _, l11⟩, ⟨_, rfl, rfl⟩, ⟨_, _, _, _, _, _, kl11, kf11, ke11⟩, ⟨_, _, _, cu11⟩, Option.isSome_iff_exists.mp (show (PySem.W.clsIn K _).isSome = true from sc11), sm11, msup, sop, stp, sn11, st11, sf11⟩ rfl rfl (fun env h => h) ok6 (show 1 ≤ 2 by omega) bn6_1 vd6_1 (fun _ _ => (.cons (.int _) .nil)) rfl (fun _ _ _ => by first | rfl | (rw [List.append_nil]; rfl)))) (fun L => ⟨rfl, rfl, rfl⟩)
  have ok12 : FnOk l.prog w K mg base (L2N.CX l.prog w) 3 f12 _ ["self"] (fun vs H Q E => vs.length = 1 ∧ spD T F_UnderWasher___init__ vs H Q E) := def_okC ({ T := T, g := g_UnderWasher___init__, P := l.prog, w := w, mg := mg, base := base, N := [], sc := defScope s_law, W := fun _ _ _ _ => False, L := 2, fn := fun _ => true, hold := fun env => env.func = some f12 ∧ env.code = .ref k12c ∧ env.cells.lookup ("__class__" : Str) = some cc12 } : Cs) (fz := false) fn12 sc_UnderWasher___init__ rfl (fun E => d_UnderWasher___init__ _ E (supE_of (i := 1006) (n := 1) (F := F_Washer___init__) (dds := [(.int 1)]) ⟨⟨_, _, _, l12⟩, ⟨_, rfl, rfl⟩, ⟨_, _, _, _, _, _, kl12, kf12, ke12⟩, ⟨_, _, _, cu12⟩, Option.isSome_iff_exists.mp (show (PySem.W.clsIn K _).isSome = true from sc12), sm12, msup, sop, stp, sn12, st12, sf12⟩ rfl rfl (fun env h => h) ok6 (show 1 ≤ 2 by omega) bn6_1 vd6_1 (fun _ _ => (.cons (.int _) .nil)) rfl (fun _ _ _ => by first | rfl | (rw [List.append_nil]; rfl)))) (fun L => ⟨rfl, rfl, rfl⟩)
  have ok5 : FnOk l.prog w K mg base (L2N.CX l.prog w) 1 f5 _ ["value", "low", "high"] (fun vs H Q E => vs.length = 3 ∧ spD T F_is_number vs H Q E) := def_ok ({ T := T, g := g_is_number, P := l.prog, w := w, mg := mg, base := base, N := [], sc := defScope s_law, W := fun _ _ _ _ => False, L := 0, fn := fun _ => true } : Cs) (fz := true) fd5 sc_is_number rfl (fun E => d_is_number _ E h_isinstance h_int h_bool)
  have ok14 : FnOk l.prog w K mg base (L2N.CX l.prog w) 3 f14 _ ["self", "level"] (fun vs H Q E => vs.length = 2 ∧ spD T F_DepthWasher___init__ vs H Q E) := def_okC ({ T := T, g := g_DepthWasher___init__, P := l.prog, w := w, mg := mg, base := base, N := [], sc := defScope s_law, W := fun _ _ _ _ => False, L := 2, fn := fun _ => true, hold := fun env => env.func = some f14 ∧ env.code = .ref k14c ∧ env.cells.lookup ("__class__" : Str) = some cc14 } : Cs) (fz := false) fn14 sc_DepthWasher___init__ rfl (fun E => d_DepthWasher___init__ _ E rfl (supE_of (i := 1006) (n := 1) (F := F_Washer___init__) (dds := [(.int 1)]) ⟨⟨_, _, _, l14⟩, ⟨_, rfl, rfl⟩, ⟨_, _, _, _, _, _, kl14, kf14, ke14⟩, ⟨_, _, _, cu14⟩, Option.isSome_iff_exists.mp (show (PySem.W.clsIn K _).isSome = true from sc14), sm14, msup, sop, stp, sn14, st14, sf14⟩ rfl rfl (fun env h => h) ok6 (show 1 ≤ 2 by omega) bn6_1 vd6_1 (fun _ _ => (.cons (.int _) .nil)) rfl (fun _ _ _ => by first | rfl | (rw [List.append_nil]; rfl))) hG_MAX_DEPTH (fnE_at ok5 (show 1 ≤ 2 by omega) m5 k5 bn5 rfl rfl) ⟨PySem.W.mg_of X G aC103, xe103, xk103, xs103, xt103⟩ (attOk_fld (c0 := 4) prop_level inF_level cls4 n4_level)) (fun L => ⟨rfl, rfl, rfl⟩)
  have ok16 : FnR l.prog w K mg base (L2N.CX l.prog w) 3 f16 (spStar 1 fun vs H Q E => vs.length = 2 ∧ spD T F_OwnWasher___init__ vs H Q E) := def_okCS (ps := ["self"]) ({ T := T, g := g_OwnWasher___init__, P := l.prog, w := w, mg := mg, base := base, N := [], sc := defScope s_law, W := fun _ _ _ _ => False, L := 2, fn := fun _ => true, hold := fun env => env.func = some f16 ∧ env.code = .ref k16c ∧ env.cells.lookup ("__class__" : Str) = some cc16 } : Cs) (fz := false) fn16 sc_OwnWasher___init__ rfl (fun E => d_OwnWasher___init__ _ E rfl (supE_of (i := 1006) (n := 1) (F := F_Washer___init__) (dds := [(.int 1)]) ⟨⟨_, _, _, l16⟩, ⟨_, rfl, rfl⟩, ⟨_, _, _, _, _, _, kl16, kf16, ke16⟩, ⟨_, _, _, cu16⟩, Option.isSome_iff_exists.mp (show (PySem.W.clsIn K _).isSome = true from sc16), sm16, msup, sop, stp, sn16, st16, sf16⟩ rfl rfl (fun env h => h) ok6 (show 1 ≤ 2 by omega) bn6_1 vd6_1 (fun _ _ => (.cons (.int _) .nil)) rfl (fun _ _ _ => by first | rfl | (rw [List.append_nil]; rfl))) (attOk_fld (c0 := 5) prop_depths inF_depths cls5 n5_depths)) (StX.bind_star1 (B := fun us => bindArgs _ ⟨us, []⟩) (fun _ => rfl) (fun _ _ _ => rfl)) (fun L => ⟨rfl, rfl, rfl⟩)
  have ok25 : FnOk l.prog w K mg base (L2N.CX l.prog w) 5 f25 _ ["_law_depths"] (fun vs H Q E => vs.length = 1 ∧ spD T F__law_own vs H Q E) := def_ok ({ T := T, g := g__law_own, P := l.prog, w := w, mg := mg, base := base, N := [], sc := defScope s_law, W := fun _ _ _ _ => False, L := 4, fn := fun _ => true } : Cs) (fz := true) fd25 sc__law_own rfl (fun E => d__law_own _ E rfl h_len ⟨3, f16, ok16, (show 4 ≤ 4 by omega), PySem.W.mg_of X G aC5, ⟨mk5, a16, i16, kc5⟩⟩ (fun _ _ => rfl))
  have ok7 : FnOk l.prog w K mg base (L2N.CX l.prog w) 1 f7 _ ["self"] (fun vs H Q E => vs.length = 1 ∧ spD T F_Washer_repeat_after vs H Q E) := def_ok ({ T := T, g := g_Washer_repeat_after, P := l.prog, w := w, mg := mg, base := base, N := [], sc := defScope s_law, W := fun _ _ _ _ => False, L := 0, fn := fun _ => true } : Cs) (fz := true) fd7 sc_Washer_repeat_after rfl (fun E => d_Washer_repeat_after _ E rfl (attOk_gen (fun c i h => by cases h) (fun c h => by rcases inF_rounds c h with rfl | rfl | rfl | rfl | rfl | rfl <;> first | exact ⟨cls1, n1_rounds⟩ | exact ⟨cls2, n2_rounds⟩ | exact ⟨cls3, n3_rounds⟩ | exact ⟨cls4, n4_rounds⟩ | exact ⟨cls5, n5_rounds⟩ | exact ⟨cls6, n6_rounds⟩)))
  have ok20 : FnOk l.prog w K mg base (L2N.CX l.prog w) 1 f20 _ ["numbers"] (fun vs H Q E => vs.length = 1 ∧ spD T F_common_multiple vs H Q E) := def_ok ({ T := T, g := g_common_multiple, P := l.prog, w := w, mg := mg, base := base, N := [], sc := defScope s_law, W := fun _ _ _ _ => False, L := 0, fn := fun _ => true } : Cs) (fz := true) fd20 sc_common_multiple rfl (fun E => d_common_multiple _ E )
  have ok18 : FnR l.prog w K mg base (L2N.CX l.prog w) 3 f18 (spStar 1 fun vs H Q E => vs.length = 2 ∧ spD T F_TurnWasher___init__ vs H Q E) := def_okCS (ps := ["self"]) ({ T := T, g := g_TurnWasher___init__, P := l.prog, w := w, mg := mg, base := base, N := [], sc := defScope s_law, W := fun _ _ _ _ => False, L := 2, fn := fun _ => true, hold := fun env => env.func = some f18 ∧ env.code = .ref k18c ∧ env.cells.lookup ("__class__" : Str) = some cc18 } : Cs) (fz := false) fn18 sc_TurnWasher___init__ rfl (fun E => d_TurnWasher___init__ _ E rfl ⟨PySem.W.mg_of X G aC103, xe103, xk103, xs103, xt103⟩ h_len (attOk_gen (fun c i h => by rcases propI_repeat_after h with ⟨rfl, rfl⟩ | ⟨rfl, rfl⟩ | ⟨rfl, rfl⟩ | ⟨rfl, rfl⟩ | ⟨rfl, rfl⟩ | ⟨rfl, rfl⟩ <;> first | exact ⟨prE_at (c := 1) ok7 (show 2 ≤ 2 by omega) cls1 ⟨a7, pq7, pt7, _, pr7⟩ bn7 rfl (fun ds m o e => noX_some e), fun d m x m' => noX_noex⟩ | exact ⟨prE_at (c := 2) ok7 (show 2 ≤ 2 by omega) cls2 ⟨ai7_2, pq7, pt7, _, pr7⟩ bn7 rfl (fun ds m o e => noX_some e), fun d m x m' => noX_noex⟩ | exact ⟨prE_at (c := 3) ok7 (show 2 ≤ 2 by omega) cls3 ⟨ai7_3, pq7, pt7, _, pr7⟩ bn7 rfl (fun ds m o e => noX_some e), fun d m x m' => noX_noex⟩ | exact ⟨prE_at (c := 4) ok7 (show 2 ≤ 2 by omega) cls4 ⟨ai7_4, pq7, pt7, _, pr7⟩ bn7 rfl (fun ds m o e => noX_some e), fun d m x m' => noX_noex⟩ | exact ⟨prE_at (c := 5) ok7 (show 2 ≤ 2 by omega) cls5 ⟨ai7_5, pq7, pt7, _, pr7⟩ bn7 rfl (fun ds m o e => noX_some e), fun d m x m' => noX_noex⟩ | exact ⟨prE_at (c := 6) ok7 (show 2 ≤ 2 by omega) cls6 ⟨ai7_6, pq7, pt7, _, pr7⟩ bn7 rfl (fun ds m o e => noX_some e), fun d m x m' => noX_noex⟩) (fun c h => absurd h (notF_repeat_after c))) (fnE_at ok20 (show 1 ≤ 2 by omega) m20 k20 bn20 rfl rfl) (supE_of (i := 6) (n := 2) (F := F_Washer___init__) (dds := []) ⟨⟨_, _, _, l18⟩, ⟨_, rfl, rfl⟩, ⟨_, _, _, _, _, _, kl18, kf18, ke18⟩, ⟨_, _, _, cu18⟩, Option.isSome_iff_exists.mp (show (PySem.W.clsIn K _).isSome = true from sc18), sm18, msup, sop, stp, sn18, st18, sf18⟩ rfl rfl (fun env h => h) ok6 (show 1 ≤ 2 by omega) bn6_0 vd6_0 (fun _ _ => .nil) rfl (fun _ _ _ => by first | rfl | (rw [List.append_nil]; rfl))) (attOk_fld (c0 := 6) prop_parts inF_parts cls6 n6_parts)) (StX.bind_star1 (B := fun us => bindArgs _ ⟨us, []⟩) (fun _ => rfl) (fun _ _ _ => rfl)) (fun L => ⟨rfl, rfl, rfl⟩)
  have okr26 : ∀ n, (FnOk l.prog w K mg base (L2N.CX l.prog w) (6 + n) f26 _ ["_law_spec_here"] (fun vs H Q E => vs.length = 1 ∧ spD T (F__law_washer n) vs H Q E)) := fun n => by
    induction n with
    | zero => exact def_none
    | succ n ih => exact def_ok ({ T := T, g := g__law_washer n, P := l.prog, w := w, mg := mg, base := base, N := [], sc := defScope s_law, W := fun _ _ _ _ => False, L := 6 + n, fn := fun _ => true } : Cs) (fz := true) fd26 sc__law_washer rfl (fun E => d__law_washer _ E rfl (mkE_at (c := 2) (i := 11) ok11 (show 4 ≤ 6 + n by omega) (PySem.W.mg_of X G aC2) ⟨mk2, a11, i11, kc2⟩ bn11 rfl rfl) (fun _ _ => rfl) (mkE_at (c := 3) (i := 12) ok12 (show 4 ≤ 6 + n by omega) (PySem.W.mg_of X G aC3) ⟨mk3, a12, i12, kc3⟩ bn12 rfl rfl) (fun _ _ => rfl) (mkE_at (c := 4) (i := 14) ok14 (show 4 ≤ 6 + n by omega) (PySem.W.mg_of X G aC4) ⟨mk4, a14, i14, kc4⟩ bn14 rfl rfl) (fun _ _ => rfl) (fnE_at ok25 (show 5 ≤ 6 + n by omega) m25 k25 bn25 rfl rfl) (fnE_at ih (Nat.le_refl _) m26 k26 bn26 rfl rfl) h_len ⟨3, f18, ok18, (show 4 ≤ 6 + n by omega), PySem.W.mg_of X G aC6, ⟨mk6, a18, i18, kc6⟩⟩ (fun _ _ => rfl))
  have ok26 := (okr26 3)
  have okr21 : ∀ n, (FnOk l.prog w K mg base (L2N.CX l.prog w) (1 + n) f21 _ ["washer"] (fun vs H Q E => vs.length = 1 ∧ spD T (F_describe n) vs H Q E)) := fun n => by
    induction n with
    | zero => exact def_none
    | succ n ih => exact def_ok ({ T := T, g := g_describe n, P := l.prog, w := w, mg := mg, base := base, N := [], sc := defScope s_law, W := fun _ _ _ _ => False, L := 1 + n, fn := fun _ => true } : Cs) (fz := true) fd21 sc_describe rfl (fun E => d_describe _ E rfl (attOk_gen (fun c i h => by cases h) (fun c h => by rcases inF_label c h with rfl | rfl | rfl | rfl | rfl | rfl <;> first | exact ⟨cls1, n1_label⟩ | exact ⟨cls2, n2_label⟩ | exact ⟨cls3, n3_label⟩ | exact ⟨cls4, n4_label⟩ | exact ⟨cls5, n5_label⟩ | exact ⟨cls6, n6_label⟩)) (attOk_fld (c0 := 4) prop_level inF_level cls4 n4_level) h_str (attOk_fld (c0 := 5) prop_depths inF_depths cls5 n5_depths) (attOk_fld (c0 := 6) prop_parts inF_parts cls6 n6_parts) (fnE_at ih (Nat.le_refl _) m21 k21 bn21 rfl rfl))
  have ok21 := (okr21 3)
  have okr29 : ∀ n, (FnOk l.prog w K mg base (L2N.CX l.prog w) (1 + n) f29 _ ["_law_spec_here"] (fun vs H Q E => vs.length = 1 ∧ spD T (F__law_words n) vs H Q E)) := fun n => by
    induction n with
    | zero => exact def_none
    | succ n ih => exact def_ok ({ T := T, g := g__law_words n, P := l.prog, w := w, mg := mg, base := base, N := [], sc := defScope s_law, W := fun _ _ _ _ => False, L := 1 + n, fn := fun _ => true } : Cs) (fz := true) fd29 sc__law_words rfl (fun E => d__law_words _ E (fnE_at ih (Nat.le_refl _) m29 k29 bn29 rfl rfl) h_str)
  have ok29 := (okr29 3)
  have okr28 : ∀ n, (FnOk l.prog w K mg base (L2N.CX l.prog w) (1 + n) f28 _ ["_law_spec_here"] (fun vs H Q E => vs.length = 1 ∧ spD T (F__law_period n) vs H Q E)) := fun n => by
    induction n with
    | zero => exact def_none
    | succ n ih => exact def_ok ({ T := T, g := g__law_period n, P := l.prog, w := w, mg := mg, base := base, N := [], sc := defScope s_law, W := fun _ _ _ _ => False, L := 1 + n, fn := fun _ => true } : Cs) (fz := true) fd28 sc__law_period rfl (fun E => d__law_period _ E h_len (fnE_at ih (Nat.le_refl _) m28 k28 bn28 rfl rfl))
  have ok28 := (okr28 3)
  have okr27 : ∀ n, (FnOk l.prog w K mg base (L2N.CX l.prog w) (1 + n) f27 _ ["_law_actual", "_law_expected"] (fun vs H Q E => vs.length = 2 ∧ spD T (F__law_equal n) vs H Q E)) := fun n => by
    induction n with
    | zero => exact def_none
    | succ n ih => exact def_ok ({ T := T, g := g__law_equal n, P := l.prog, w := w, mg := mg, base := base, N := [], sc := defScope s_law, W := fun _ _ _ _ => False, L := 1 + n, fn := fun _ => true } : Cs) (fz := true) fd27 sc__law_equal rfl (fun E => d__law_equal _ E h_isinstance h_bool h_int h_str h_tuple h_list h_len h_range (fnE_at ih (Nat.le_refl _) m27 k27 bn27 rfl rfl) h_all)
  have ok27 := (okr27 4)
  have okr30 : ∀ n, (FnOk l.prog w K mg base (L2N.CX l.prog w) (1 + n) f30 _ ["_law_spec_here", "_law_count", "_law_size", "_law_wash"] (fun vs H Q E => vs.length = 4 ∧ spD T (F__law_habit n) vs H Q E)) := fun n => by
    induction n with
    | zero => exact def_none
    | succ n ih => exact def_ok ({ T := T, g := g__law_habit n, P := l.prog, w := w, mg := mg, base := base, N := [], sc := defScope s_law, W := fun _ _ _ _ => False, L := 1 + n, fn := fun _ => true } : Cs) (fz := true) fd30 sc__law_habit rfl (fun E => d__law_habit _ E h_len (fnE_at ih (Nat.le_refl _) m30 k30 bn30 rfl rfl) h_range h_min h_list h_tuple)
  have ok30 := (okr30 3)
  have ok31 : HFn l.prog w mg base T 2 f31 _ ["_law_call"] F__law_error_of := def_okH T 1 (fz := true) fd31 sc__law_error_of (fun fr clo => g__law_error_of fr clo) true (fun _ _ => rfl) (fun T' sim htb Ls fr clo kc hclo E => by
    have sm := sim
    have hb := htb
    obtain ⟨K', cl', nm', lams', tb', bs', ba', kd', exc', dfs', any'⟩ := T'
    obtain ⟨e1, e2, e3, e4, e5, e6, e7, e8⟩ := sim
    dsimp only [T] at e1 e2 e3 e4 e5 e6 e7 e8
    subst e1 e2 e3 e4 e5 e6 e7 e8
    exact d__law_error_of _ E ⟨kc, hclo, by show kc + 1 ≤ kc + 1; omega, fun h => h⟩ h_isinstance (fun c1 c b h => by
    rcases sub_all h with rfl | rfl
    · exact ec103
    · exact ec104) ⟨PySem.W.mg_of X G aC108, (fun c1 b h => by
    rcases sub_108 h with ⟨rfl, rfl⟩ | ⟨rfl, rfl⟩
    · exact xi103_108
    · exact xi104_108)⟩ ⟨PySem.W.mg_of X G aC104, (fun c1 b h => by
    rcases sub_104 h with ⟨rfl, rfl⟩ | ⟨rfl, rfl⟩
    · exact xi103_104
    · exact xi104_104)⟩ ⟨PySem.W.mg_of X G aC103, (fun c1 b h => by
    rcases sub_103 h with ⟨rfl, rfl⟩ | ⟨rfl, rfl⟩
    · exact xi103_103
    · exact xi104_103)⟩ ⟨PySem.W.mg_of X G aC106, (fun c1 b h => by
    rcases sub_106 h with ⟨rfl, rfl⟩ | ⟨rfl, rfl⟩
    · exact xi103_106
    · exact xi104_106)⟩ ⟨PySem.W.mg_of X G aC102, (fun c1 b h => by
    rcases sub_102 h with ⟨rfl, rfl⟩ | ⟨rfl, rfl⟩
    · exact xi103_102
    · exact xi104_102)⟩ ⟨PySem.W.mg_of X G aC105, (fun c1 b h => by
    rcases sub_105 h with ⟨rfl, rfl⟩ | ⟨rfl, rfl⟩
    · exact xi103_105
    · exact xi104_105)⟩ ⟨PySem.W.mg_of X G aC111, (fun c1 b h => by
    rcases sub_111 h with ⟨rfl, rfl⟩ | ⟨rfl, rfl⟩
    · exact xi103_111
    · exact xi104_111)⟩ ⟨PySem.W.mg_of X G aC110, (fun c1 b h => by
    rcases sub_110 h with ⟨rfl, rfl⟩ | ⟨rfl, rfl⟩
    · exact xi103_110
    · exact xi104_110)⟩ ⟨PySem.W.mg_of X G aC107, (fun c1 b h => by
    rcases sub_107 h with ⟨rfl, rfl⟩ | ⟨rfl, rfl⟩
    · exact xi103_107
    · exact xi104_107)⟩ ⟨PySem.W.mg_of X G aC113, (fun c1 b h => by
    rcases sub_113 h with ⟨rfl, rfl⟩ | ⟨rfl, rfl⟩
    · exact xi103_113
    · exact xi104_113)⟩ ⟨PySem.W.mg_of X G aC109, (fun c1 b h => by
    rcases sub_109 h with ⟨rfl, rfl⟩ | ⟨rfl, rfl⟩
    · exact xi103_109
    · exact xi104_109)⟩ ⟨PySem.W.mg_of X G aC101, (fun c1 b h => by
    rcases sub_101 h with ⟨rfl, rfl⟩ | ⟨rfl, rfl⟩
    · exact xi103_101
    · exact xi104_101)⟩ ⟨PySem.W.mg_of X G aC115, (fun c1 b h => by
    rcases sub_115 h with ⟨rfl, rfl⟩ | ⟨rfl, rfl⟩
    · exact xi103_115
    · exact xi104_115)⟩ ⟨PySem.W.mg_of X G aC114, (fun c1 b h => by
    rcases sub_114 h with ⟨rfl, rfl⟩ | ⟨rfl, rfl⟩
    · exact xi103_114
    · exact xi104_114)⟩ ⟨PySem.W.mg_of X G aC112, (fun c1 b h => by
    rcases sub_112 h with ⟨rfl, rfl⟩ | ⟨rfl, rfl⟩
    · exact xi103_112
    · exact xi104_112)⟩ (fun c1 b h => by
    rcases sub_99 h with ⟨rfl, rfl⟩ | ⟨rfl, rfl⟩
    · exact xi103_99
    · exact xi104_99) h_ValueError (fun c1 b h => by
    rcases sub_all h with rfl | rfl
    · exact ⟨ex103, gF103_index⟩
    · exact ⟨ex104, gF104_index⟩) (fun c1 b h => by
    rcases sub_all h with rfl | rfl
    · exact ⟨ex103, gF103_part⟩
    · exact ⟨ex104, gF104_part⟩) (fun c1 b h => by
    rcases sub_all h with rfl | rfl
    · exact ⟨ex103, gF103_word⟩
    · exact ⟨ex104, gF104_word⟩) (fun c1 b h => by
    rcases sub_all h with rfl | rfl
    · exact ⟨ex103, gF103_row⟩
    · exact ⟨ex104, gF104_row⟩) (fun c1 b h => by
    rcases sub_all h with rfl | rfl
    · exact ⟨ex103, gF103_offset⟩
    · exact ⟨ex104, gF104_offset⟩) ⟨PySem.W.mg_of X G aC100, (fun c1 b h => by
    rcases sub_100 h with ⟨rfl, rfl⟩ | ⟨rfl, rfl⟩
    · exact xm103_100
    · exact xm104_100)⟩ rfl rfl)
  have ok8 : FnOk l.prog w K mg base (L2N.CX l.prog w) 1 f8 _ ["self", "shelf_size", "index"] (fun vs H Q E => vs.length = 3 ∧ spD T F_Washer_depth vs H Q E) := def_ok ({ T := T, g := g_Washer_depth, P := l.prog, w := w, mg := mg, base := base, N := [], sc := defScope s_law, W := fun _ _ _ _ => False, L := 0, fn := fun _ => true } : Cs) (fz := true) fd8 sc_Washer_depth rfl (fun E => d_Washer_depth _ E )
  have ok13 : FnOk l.prog w K mg base (L2N.CX l.prog w) 1 f13 _ ["self", "shelf_size", "index"] (fun vs H Q E => vs.length = 3 ∧ spD T F_UnderWasher_depth vs H Q E) := def_ok ({ T := T, g := g_UnderWasher_depth, P := l.prog, w := w, mg := mg, base := base, N := [], sc := defScope s_law, W := fun _ _ _ _ => False, L := 0, fn := fun _ => true } : Cs) (fz := true) fd13 sc_UnderWasher_depth rfl (fun E => d_UnderWasher_depth _ E )
  have ok15 : FnOk l.prog w K mg base (L2N.CX l.prog w) 1 f15 _ ["self", "shelf_size", "index"] (fun vs H Q E => vs.length = 3 ∧ spD T F_DepthWasher_depth vs H Q E) := def_ok ({ T := T, g := g_DepthWasher_depth, P := l.prog, w := w, mg := mg, base := base, N := [], sc := defScope s_law, W := fun _ _ _ _ => False, L := 0, fn := fun _ => true } : Cs) (fz := true) fd15 sc_DepthWasher_depth rfl (fun E => d_DepthWasher_depth _ E rfl (attOk_fld (c0 := 4) prop_level inF_level cls4 n4_level) h_min)
  have ok10 : FnOk l.prog w K mg base (L2N.CX l.prog w) 2 f10 _ ["self", "count", "size", "wash"] (fun vs H Q E => vs.length = 4 ∧ spD T F_Washer_habit_in vs H Q E) := def_ok ({ T := T, g := g_Washer_habit_in, P := l.prog, w := w, mg := mg, base := base, N := [], sc := defScope s_law, W := fun _ _ _ _ => False, L := 1, fn := fun _ => true } : Cs) (fz := true) fd10 sc_Washer_habit_in rfl (fun E => d_Washer_habit_in _ E h_range (metOk_gen (fun c i h => by
    rcases methI_depth_2 h with ⟨rfl, rfl⟩ | ⟨rfl, rfl⟩ | ⟨rfl, rfl⟩ | ⟨rfl, rfl⟩ | ⟨rfl, rfl⟩ | ⟨rfl, rfl⟩
    · exact mtE_at (c := 1) ok8 (show 1 ≤ 1 by omega) cls1 ⟨a8, i8, k8⟩ bn8 rfl rfl
    · exact mtE_at (c := 2) ok8 (show 1 ≤ 1 by omega) cls2 ⟨ai8_2, i8, k8⟩ bn8 rfl rfl
    · exact mtE_at (c := 3) ok13 (show 1 ≤ 1 by omega) cls3 ⟨a13, i13, k13⟩ bn13 rfl rfl
    · exact mtE_at (c := 4) ok15 (show 1 ≤ 1 by omega) cls4 ⟨a15, i15, k15⟩ bn15 rfl rfl
    · exact mtE_at (c := 5) ok8 (show 1 ≤ 1 by omega) cls5 ⟨ai8_5, i8, k8⟩ bn8 rfl rfl
    · exact mtE_at (c := 6) ok8 (show 1 ≤ 1 by omega) cls6 ⟨ai8_6, i8, k8⟩ bn8 rfl rfl) notF_depth) h_tuple)
  have ok17 : FnOk l.prog w K mg base (L2N.CX l.prog w) 1 f17 _ ["self", "count", "size", "wash"] (fun vs H Q E => vs.length = 4 ∧ spD T F_OwnWasher_habit_in vs H Q E) := def_ok ({ T := T, g := g_OwnWasher_habit_in, P := l.prog, w := w, mg := mg, base := base, N := [], sc := defScope s_law, W := fun _ _ _ _ => False, L := 0, fn := fun _ => true } : Cs) (fz := true) fd17 sc_OwnWasher_habit_in rfl (fun E => d_OwnWasher_habit_in _ E rfl (attOk_fld (c0 := 5) prop_depths inF_depths cls5 n5_depths))
  have ok1 : FnOk l.prog w K mg base (L2N.CX l.prog w) 1 f1 _ ["count", "size", "habit"] (fun vs H Q E => vs.length = 3 ∧ spD T F_is_habit vs H Q E) := def_ok ({ T := T, g := g_is_habit, P := l.prog, w := w, mg := mg, base := base, N := [], sc := defScope s_law, W := fun _ _ _ _ => False, L := 0, fn := fun _ => true } : Cs) (fz := true) fd1 sc_is_habit rfl (fun E => d_is_habit _ E h_len h_enumerate h_all)
  have okr19 : ∀ n, (FnOk l.prog w K mg base (L2N.CX l.prog w) (3 + n) f9 _ ["self", "count", "size", "wash"] (fun vs H Q E => vs.length = 4 ∧ spD T (F_Washer_habit_for n) vs H Q E)) ∧ (FnOk l.prog w K mg base (L2N.CX l.prog w) (3 + n) f19 _ ["self", "count", "size", "wash"] (fun vs H Q E => vs.length = 4 ∧ spD T (F_TurnWasher_habit_in n) vs H Q E)) := fun n => by
    induction n with
    | zero => exact ⟨def_none,
      def_none⟩
    | succ n ih => exact ⟨def_ok ({ T := T, g := g_Washer_habit_for n, P := l.prog, w := w, mg := mg, base := base, N := [], sc := defScope s_law, W := fun _ _ _ _ => False, L := 3 + n, fn := fun _ => true } : Cs) (fz := true) fd9 sc_Washer_habit_for rfl (fun E => d_Washer_habit_for _ E rfl ⟨C0, .type "type", .int 12, uhC_Kitchen_MAX_MUGS, PySem.W.mg_of X G aC0, ⟨rdhC_Kitchen_MAX_MUGS, gahC_Kitchen_MAX_MUGS⟩, ⟨fchC_Kitchen_MAX_MUGS, ruhC_Kitchen_MAX_MUGS⟩, .int _⟩ (fnE_at ok5 (show 1 ≤ 3 + n by omega) m5 k5 bn5 rfl rfl) ⟨PySem.W.mg_of X G aC103, xe103, xk103, xs103, xt103⟩ (metOk_gen (fun c i h => by
    rcases methI_habit_in_3 h with ⟨rfl, rfl⟩ | ⟨rfl, rfl⟩ | ⟨rfl, rfl⟩ | ⟨rfl, rfl⟩ | ⟨rfl, rfl⟩ | ⟨rfl, rfl⟩
    · exact mtE_at (c := 1) ok10 (show 2 ≤ 3 + n by omega) cls1 ⟨a10, i10, k10⟩ bn10 rfl rfl
    · exact mtE_at (c := 2) ok10 (show 2 ≤ 3 + n by omega) cls2 ⟨ai10_2, i10, k10⟩ bn10 rfl rfl
    · exact mtE_at (c := 3) ok10 (show 2 ≤ 3 + n by omega) cls3 ⟨ai10_3, i10, k10⟩ bn10 rfl rfl
    · exact mtE_at (c := 4) ok10 (show 2 ≤ 3 + n by omega) cls4 ⟨ai10_4, i10, k10⟩ bn10 rfl rfl
    · exact mtE_at (c := 5) ok17 (show 1 ≤ 3 + n by omega) cls5 ⟨a17, i17, k17⟩ bn17 rfl rfl
    · exact mtE_at (c := 6) ih.2 (Nat.le_refl _) cls6 ⟨a19, i19, k19⟩ bn19 rfl rfl) notF_habit_in) (attOk_gen (fun c i h => by rcases propI_repeat_after h with ⟨rfl, rfl⟩ | ⟨rfl, rfl⟩ | ⟨rfl, rfl⟩ | ⟨rfl, rfl⟩ | ⟨rfl, rfl⟩ | ⟨rfl, rfl⟩ <;> first | exact ⟨prE_at (c := 1) ok7 (show 2 ≤ 3 + n by omega) cls1 ⟨a7, pq7, pt7, _, pr7⟩ bn7 rfl (fun ds m o e => noX_some e), fun d m x m' => noX_noex⟩ | exact ⟨prE_at (c := 2) ok7 (show 2 ≤ 3 + n by omega) cls2 ⟨ai7_2, pq7, pt7, _, pr7⟩ bn7 rfl (fun ds m o e => noX_some e), fun d m x m' => noX_noex⟩ | exact ⟨prE_at (c := 3) ok7 (show 2 ≤ 3 + n by omega) cls3 ⟨ai7_3, pq7, pt7, _, pr7⟩ bn7 rfl (fun ds m o e => noX_some e), fun d m x m' => noX_noex⟩ | exact ⟨prE_at (c := 4) ok7 (show 2 ≤ 3 + n by omega) cls4 ⟨ai7_4, pq7, pt7, _, pr7⟩ bn7 rfl (fun ds m o e => noX_some e), fun d m x m' => noX_noex⟩ | exact ⟨prE_at (c := 5) ok7 (show 2 ≤ 3 + n by omega) cls5 ⟨ai7_5, pq7, pt7, _, pr7⟩ bn7 rfl (fun ds m o e => noX_some e), fun d m x m' => noX_noex⟩ | exact ⟨prE_at (c := 6) ok7 (show 2 ≤ 3 + n by omega) cls6 ⟨ai7_6, pq7, pt7, _, pr7⟩ bn7 rfl (fun ds m o e => noX_some e), fun d m x m' => noX_noex⟩) (fun c h => absurd h (notF_repeat_after c))) (fnE_at ok1 (show 1 ≤ 3 + n by omega) m1 k1 bn1 rfl rfl) ⟨PySem.W.mg_of X G aC104, xe104, xk104, xs104, xt104⟩),
      def_ok ({ T := T, g := g_TurnWasher_habit_in n, P := l.prog, w := w, mg := mg, base := base, N := [], sc := defScope s_law, W := fun _ _ _ _ => False, L := 3 + n, fn := fun _ => true } : Cs) (fz := true) fd19 sc_TurnWasher_habit_in rfl (fun E => d_TurnWasher_habit_in _ E rfl (attOk_fld (c0 := 6) prop_parts inF_parts cls6 n6_parts) h_len h_divmod (metOk_gen (fun c i h => by
    rcases methI_habit_for_3 h with ⟨rfl, rfl⟩ | ⟨rfl, rfl⟩ | ⟨rfl, rfl⟩ | ⟨rfl, rfl⟩ | ⟨rfl, rfl⟩ | ⟨rfl, rfl⟩
    · exact mtE_at (c := 1) ih.1 (Nat.le_refl _) cls1 ⟨a9, i9, k9⟩ bn9 rfl rfl
    · exact mtE_at (c := 2) ih.1 (Nat.le_refl _) cls2 ⟨ai9_2, i9, k9⟩ bn9 rfl rfl
    · exact mtE_at (c := 3) ih.1 (Nat.le_refl _) cls3 ⟨ai9_3, i9, k9⟩ bn9 rfl rfl
    · exact mtE_at (c := 4) ih.1 (Nat.le_refl _) cls4 ⟨ai9_4, i9, k9⟩ bn9 rfl rfl
    · exact mtE_at (c := 5) ih.1 (Nat.le_refl _) cls5 ⟨ai9_5, i9, k9⟩ bn9 rfl rfl
    · exact mtE_at (c := 6) ih.1 (Nat.le_refl _) cls6 ⟨ai9_6, i9, k9⟩ bn9 rfl rfl) notF_habit_for))⟩
  have ok9 := (okr19 6).1
  have ok19 := (okr19 6).2
  have ok32 : FnOk l.prog w K mg base (L2N.CX l.prog w) 12 fa _ ["_law_script"] (fun vs H Q E => vs.length = 1 ∧ spD T F_law vs H Q E) := def_okM T 11 (fz := true) fd32 sc_law rfl (fun fr => g_law fr) false (fun _ => rfl) (fun fr E => d_law _ E rfl (fnE_at ok22 (show 1 ≤ 11 by omega) m22 k22 bn22 rfl rfl) h_range (fnE_at ok24 (show 5 ≤ 11 by omega) m24 k24 bn24 rfl rfl) (fnE_at ok23 (show 1 ≤ 11 by omega) m23 k23 bn23 rfl rfl) (fnE_at ok26 (show 9 ≤ 11 by omega) m26 k26 bn26 rfl rfl) h_min h_isinstance (fun c q b h => by
    rcases isc_all h with rfl | rfl | rfl | rfl | rfl | rfl | rfl
    · exact ins0
    · exact ins1
    · exact ins2
    · exact ins3
    · exact ins4
    · exact ins5
    · exact ins6) ⟨PySem.W.mg_of X G aC1, (fun c b h => by
    rcases isc_1 h with ⟨rfl, rfl⟩ | ⟨rfl, rfl⟩ | ⟨rfl, rfl⟩ | ⟨rfl, rfl⟩ | ⟨rfl, rfl⟩ | ⟨rfl, rfl⟩ | ⟨rfl, rfl⟩
    · exact xiU0_1
    · exact xiU1_1
    · exact xiU2_1
    · exact xiU3_1
    · exact xiU4_1
    · exact xiU5_1
    · exact xiU6_1)⟩ (fnE_at ok21 (show 4 ≤ 11 by omega) m21 k21 bn21 rfl rfl) (attOk_gen (fun c i h => by rcases propI_repeat_after h with ⟨rfl, rfl⟩ | ⟨rfl, rfl⟩ | ⟨rfl, rfl⟩ | ⟨rfl, rfl⟩ | ⟨rfl, rfl⟩ | ⟨rfl, rfl⟩ <;> first | exact ⟨prE_at (c := 1) ok7 (show 2 ≤ 11 by omega) cls1 ⟨a7, pq7, pt7, _, pr7⟩ bn7 rfl (fun ds m o e => noX_some e), fun d m x m' => noX_noex⟩ | exact ⟨prE_at (c := 2) ok7 (show 2 ≤ 11 by omega) cls2 ⟨ai7_2, pq7, pt7, _, pr7⟩ bn7 rfl (fun ds m o e => noX_some e), fun d m x m' => noX_noex⟩ | exact ⟨prE_at (c := 3) ok7 (show 2 ≤ 11 by omega) cls3 ⟨ai7_3, pq7, pt7, _, pr7⟩ bn7 rfl (fun ds m o e => noX_some e), fun d m x m' => noX_noex⟩ | exact ⟨prE_at (c := 4) ok7 (show 2 ≤ 11 by omega) cls4 ⟨ai7_4, pq7, pt7, _, pr7⟩ bn7 rfl (fun ds m o e => noX_some e), fun d m x m' => noX_noex⟩ | exact ⟨prE_at (c := 5) ok7 (show 2 ≤ 11 by omega) cls5 ⟨ai7_5, pq7, pt7, _, pr7⟩ bn7 rfl (fun ds m o e => noX_some e), fun d m x m' => noX_noex⟩ | exact ⟨prE_at (c := 6) ok7 (show 2 ≤ 11 by omega) cls6 ⟨ai7_6, pq7, pt7, _, pr7⟩ bn7 rfl (fun ds m o e => noX_some e), fun d m x m' => noX_noex⟩) (fun c h => absurd h (notF_repeat_after c))) (attOk_gen (fun c i h => by cases h) (fun c h => by rcases inF_label c h with rfl | rfl | rfl | rfl | rfl | rfl <;> first | exact ⟨cls1, n1_label⟩ | exact ⟨cls2, n2_label⟩ | exact ⟨cls3, n3_label⟩ | exact ⟨cls4, n4_label⟩ | exact ⟨cls5, n5_label⟩ | exact ⟨cls6, n6_label⟩)) (fnE_at ok29 (show 4 ≤ 11 by omega) m29 k29 bn29 rfl rfl) (fnE_at ok28 (show 4 ≤ 11 by omega) m28 k28 bn28 rfl rfl) (fnE_at ok27 (show 5 ≤ 11 by omega) m27 k27 bn27 rfl rfl) (fnE_at ok30 (show 4 ≤ 11 by omega) m30 k30 bn30 rfl rfl) ⟨TBs (k32c, P32) (by simp), fun env h => h, by simp [T, Cs.at, mkC], by intro p hp h1; simp only [T, Cs.at, mkC, List.mem_cons, List.not_mem_nil, or_false] at hp; rcases hp with rfl <;> first | rfl | (exfalso; revert h1; simp [*])⟩ rfl (kc := 9) ⟨fun env h => h.1, fun i L hL => match i, hL with
    | 0, hL => by cases hL; exact .inr ⟨li_0, fun E1 => de_g (g := g_law_0) (dl_0 { mkC l.prog w mg base T g_law_0 fr k32c "law.<locals>." 11 (defScope s_law) false with L := 9 } E E1 (metOk_gen (fun c i h => by
    rcases methI_habit_for_3 h with ⟨rfl, rfl⟩ | ⟨rfl, rfl⟩ | ⟨rfl, rfl⟩ | ⟨rfl, rfl⟩ | ⟨rfl, rfl⟩ | ⟨rfl, rfl⟩
    · exact mtE_at (c := 1) ok9 (show 9 ≤ 9 by omega) cls1 ⟨a9, i9, k9⟩ bn9 rfl rfl
    · exact mtE_at (c := 2) ok9 (show 9 ≤ 9 by omega) cls2 ⟨ai9_2, i9, k9⟩ bn9 rfl rfl
    · exact mtE_at (c := 3) ok9 (show 9 ≤ 9 by omega) cls3 ⟨ai9_3, i9, k9⟩ bn9 rfl rfl
    · exact mtE_at (c := 4) ok9 (show 9 ≤ 9 by omega) cls4 ⟨ai9_4, i9, k9⟩ bn9 rfl rfl
    · exact mtE_at (c := 5) ok9 (show 9 ≤ 9 by omega) cls5 ⟨ai9_5, i9, k9⟩ bn9 rfl rfl
    · exact mtE_at (c := 6) ok9 (show 9 ≤ 9 by omega) cls6 ⟨ai9_6, i9, k9⟩ bn9 rfl rfl) notF_habit_for))⟩
    | n + 1, hL => by cases hL⟩ ⟨2, _, _, _, ok31, (show 9 + 2 ≤ 11 by omega), m31, k31, bn31, rfl⟩ (metOk_gen (fun c i h => by
    rcases methI_habit_for_3 h with ⟨rfl, rfl⟩ | ⟨rfl, rfl⟩ | ⟨rfl, rfl⟩ | ⟨rfl, rfl⟩ | ⟨rfl, rfl⟩ | ⟨rfl, rfl⟩
    · exact mtE_at (c := 1) ok9 (show 9 ≤ 11 by omega) cls1 ⟨a9, i9, k9⟩ bn9 rfl rfl
    · exact mtE_at (c := 2) ok9 (show 9 ≤ 11 by omega) cls2 ⟨ai9_2, i9, k9⟩ bn9 rfl rfl
    · exact mtE_at (c := 3) ok9 (show 9 ≤ 11 by omega) cls3 ⟨ai9_3, i9, k9⟩ bn9 rfl rfl
    · exact mtE_at (c := 4) ok9 (show 9 ≤ 11 by omega) cls4 ⟨ai9_4, i9, k9⟩ bn9 rfl rfl
    · exact mtE_at (c := 5) ok9 (show 9 ≤ 11 by omega) cls5 ⟨ai9_5, i9, k9⟩ bn9 rfl rfl
    · exact mtE_at (c := 6) ok9 (show 9 ≤ 11 by omega) cls6 ⟨ai9_6, i9, k9⟩ bn9 rfl rfl) notF_habit_for))
  exact ok32
end K31

namespace K31
open PySem Dv Mt
set_option hygiene false
local macro_rules
  | `(tactic| simp! [$xs:simpLemma,*] $[$l:location]?) => `(tactic| simp -implicitDefEqProofs (disch := first | omega | assumption | (simp only [List.length_map, List.length_range, List.length_range', List.length_append, List.length_cons, List.length_nil, List.length_replicate, List.length_take, List.length_drop, List.length_set, List.length_reverse, List.length_zip, List.length_eraseIdx]; omega)) only [$xs,*, gm__law_random, gm__law_below, gx__law_spec__23, gx__law_spec__24, gm__law_spec, gm_Washer___init__, gx_TopWasher___init____1006, gm_TopWasher___init__, gx_UnderWasher___init____1006, gm_UnderWasher___init__, gm_is_number, gx_DepthWasher___init____1006, gx_DepthWasher___init____5, gm_DepthWasher___init__, gx_OwnWasher___init____1006, gm_OwnWasher___init__, gn__law_own__5, gm__law_own, gm_Washer_repeat_after, gp_Washer_repeat_after, gm_common_multiple, gx_TurnWasher___init____7, gx_TurnWasher___init____20, gx_TurnWasher___init____6, gm_TurnWasher___init__, gp_TurnWasher___init__, gx__law_washer__25, gx__law_washer__26, gn__law_washer__2, gn__law_washer__3, gn__law_washer__4, gn__law_washer__6, gm__law_washer, gx_describe__21, gm_describe, gp_describe, gx__law_words__29, gm__law_words, gx__law_period__28, gm__law_period, gx__law_equal__27, gm__law_equal, gx__law_habit__30, gm__law_habit, gs__law_error_of, gm__law_error_of, gm_Washer_depth, gm_UnderWasher_depth, gm_DepthWasher_depth, gp_DepthWasher_depth, gx_Washer_habit_in__8, gx_Washer_habit_in__13, gx_Washer_habit_in__15, gm_Washer_habit_in, gt_Washer_habit_in, gm_OwnWasher_habit_in, gp_OwnWasher_habit_in, gm_is_habit, gx_Washer_habit_for__5, gx_Washer_habit_for__10, gx_Washer_habit_for__17, gx_Washer_habit_for__19, gx_Washer_habit_for__7, gx_Washer_habit_for__1, gm_Washer_habit_for, gp_Washer_habit_for, gt_Washer_habit_for, gx_TurnWasher_habit_in__9, gm_TurnWasher_habit_in, gp_TurnWasher_habit_in, gt_TurnWasher_habit_in, gl_law__0, gfr_law, gx_law__22, gx_law__24, gx_law__23, gx_law__26, gx_law__21, gx_law__7, gx_law__29, gx_law__28, gx_law__27, gx_law__30, gh_law__31, gx_law__9, gm_law, gp_law, gt_law, gx_law_0__9, gt_law_0, ↓x_dvm, ↓x_isc, ↓x_spi, ↓y_nil, ↓y_cons, ↓y_expr, ↓y_ret, ↓y_asg, ↓y_aug, ↓y_ifs, ↓y_whl, ↓y_forr, ↓y_sti, ↓y_stf, ↓x_var, ↓x_cst, ↓x_bop, ↓x_cmp, ↓x_chn, ↓x_and, ↓x_or, ↓x_not, ↓x_ite, ↓x_tup, ↓x_lst, ↓x_ix, ↓x_cal, ↓x_mk, ↓x_bi, ↓x_isi, ↓x_mth, ↓x_omt, ↓x_att, ↓x_cpr, ↓x_nilL, ↓x_consL, ↓x_seq, ↓x_rg1, ↓x_enu, ↓y_body, ↓x_turn, ↓x_lam, ↓x_hof, ↓x_act, ↓y_rse, ↓x_eis, ↓x_sm1, ↓y_tra, mapK_ok, q_dvm, spiK_ok, spcK_ok, hofX_ok, List.zip_cons_cons, List.zip_nil_left, eis_q, sm_q, trx_ex, tra_q, exnD_0, bndLS_ok, varK_ok, chnK_t, chnK_f, andK_t, andK_f, orK_t, orK_f, notK_ok, iteK_t, iteK_f, mthK_t, omtK_ok, smK_ok, fldK_ok, attK_ok, att2_p, att2_f, cprK_ok, seqK_t, seqK_l, seqK_e, rg1K_ok, enuK_ok, sqK_nx, sqK_rt, sqK_ex, ifK_t, ifK_f, augK_ok, forD_fix, compD_fix, envK_ok, eltK_ok, cndK_t, cndK_f, envC_ok, w_nm, w_tp, w_nil, setK_ok, w_cons, w_wipe0, w_wipe, w_len0, w_len, gtK_ok, atR_g, atX_g, atSt_g, isK_ok, isR_g, popK_ok, stiK_ok, cls_obj, cls_res, clK_ok, fld_obj, ins_obj, sfK_ok, stf_res, if_pos, if_neg, List.flatten_cons, List.flatten_nil, Int.reduceToNat, Int.reduceAdd, Int.reduceSub, Int.reduceMul, Int.reduceNeg, Int.reduceLT, Int.reduceLE, Int.reduceEq, Int.toNat_zero, Int.toNat_one, List.length_range', end_rtT, end_rtF, end_nxF, end_ex, bnd_ex, bndL_ex, bndS_ex, bndI_ex, toI_ex, bndSI_ex, bnd_ok, bndL_ok, bndS_ok, bndI_ok, toI_ok, bndSI_ok, q_okP, q_okB, q_consL, q_consK, q_newT, q_newF, Option.map_some, Option.map_none, Option.bind_some, ite_true, ite_false, if_true, if_false, eq_self, Bool.not_true, Bool.not_false, Bool.true_eq_false, Bool.false_eq_true, Nat.reduceLT, Nat.reduceEqDiff, Nat.reduceSub, Nat.reduceAdd, Int.toNat_natCast, List.map_cons, List.map_nil, List.length_cons, List.length_nil, List.replicate_zero, List.replicate_succ, List.cons_append, List.nil_append, List.append_nil, List.append_assoc, List.length_append, List.length_map, List.length_range, List.length_replicate, List.getElem?_cons_zero, List.getElem?_cons_succ, List.set_cons_zero, List.set_cons_succ, Nat.add_zero, Nat.zero_add, q_get0, q_set0, iN_eq, List.getElem?_map, q_eqE, q_le, q_add, q_sub, q_mulr, q_fdiv, q_mod, q_pow18, z_addRR, z_addLL, q_rep1, q_cmpLt, q_cmpLe, q_cmpGt, q_cmpGe, q_isN, q_nonN, q_nonI, q_nonS, q_nonT, q_nonL, q_nonB, q_eq, q_ne, q_inn, q_eqI, q_eqB, z_ixR, ixD_tup, ixD_lst, ixD_ext, q_lenT, q_lenL, z_lenR, q_listT, q_tupL, q_absI, q_minII, q_allL, z_pop, z_mtR, q_mtL, z_sti, q_augA, q_rngN, fsq_tup, fsq_lst, fsq_ext, atI_natN, atI_nn, ixN_nn, Bool.and_true, Bool.true_and, Bool.and_self, q_dT, q_dF, not_true_eq_false, not_false_eq_true, decide_true, decide_false, isi_bl, isi_int, isi_str, isi_tup, isi_lst, List.any_cons, List.any_nil, Bool.or_false, Bool.false_or, Bool.or_true, Bool.true_or, ty_int_int, ty_int_bool, ty_bool_bool, ty_str_int, ty_str_bool, ty_str_str, ty_tuple_int, ty_tuple_bool, ty_tuple_str, ty_tuple_tuple, ty_tuple_list, ty_list_int, ty_list_bool, ty_list_str, ty_list_tuple, ty_list_list] $[$l:location]?)
set_option hygiene true
/-! kitchens -/
/-- a habit that fits -/
noncomputable def HabOk (n s : Nat) (h : List Nat) : Prop := h.length = s ∧ 1 ≤ s ∧ s ≤ n ∧ ∀ (i d : Nat), h[i]? = some d → d ≤ n - s + i
/-- .. a kitchen's parts -/
structure KOk (ns : List Str) (s : Nat) (hs : List (List Nat)) : Prop where
  n2 : 2 ≤ ns.length
  n12 : ns.length ≤ 12
  nd : ns.Nodup
  st : ∀ x ∈ ns, PyData.strOk x = true
  h1 : 1 ≤ hs.length
  h6 : hs.length ≤ 6
  hab : ∀ h ∈ hs, HabOk ns.length s h

open PySem Dv Mt
set_option hygiene false
set_option hygiene true
/-- the drawing list of the law -/
noncomputable def HdrB (r : R) : Prop := ∃ (s c : Int) (cells : List Int), r = .lst (.int s :: .int c :: cells.map .int) ∧ cells.length ≤ 63
theorem law_below {x y r : R} (h : HdrB r) (g : List R) (lim : Int) (h0 : 0 < lim) (h1 : lim < 1000000000000000000) : ∃ (k : Nat) (r' : R), HdrB r' ∧ (k : Int) < lim ∧ F__law_below [.res 2, .int lim] (x :: y :: r :: g) = some (.ok (.int k) (x :: y :: r' :: g)) := by
  obtain ⟨s, c, cells, rfl, hc⟩ := h
  have hp : ∀ x : Int, ∃ r : Nat, x % lim = r ∧ (r : Int) < lim := fun x => by
    have := emod_bd x h0
    exact ⟨(x % lim).toNat, by omega, by omega⟩
  obtain ⟨ks, hks, hks2⟩ := hp ((s * 48271 + 11) % 2147483647 / 64)
  have hl : ((cells.map D.int).length : Int) = cells.length := by rw [List.length_map]
  by_cases c0 : c = 0
  · subst c0
    cases cells with
    | nil =>
      refine ⟨ks, _, ⟨(s * 48271 + 11) % 2147483647, 0, [], rfl, by simp⟩, hks2, ?_⟩
      simp! [eq_self, F__law_below, b__law_below, N__law_below, runD_eq, runG_eq, runFor_eq, hks]
    | cons z zs =>
      obtain ⟨kz, hkz, hkz2⟩ := hp z
      by_cases c1 : 0 < z
      · refine ⟨kz, _, ⟨s, z / lim, zs, rfl, by simp only [List.length_cons] at hc; omega⟩, hkz2, ?_⟩
        simp! [eq_self, F__law_below, b__law_below, N__law_below, runD_eq, runG_eq, runFor_eq, hkz, c1, List.eraseIdx_cons_succ, List.eraseIdx_cons_zero]
      · refine ⟨ks, _, ⟨(s * 48271 + 11) % 2147483647, z, zs, rfl, by simp only [List.length_cons] at hc; omega⟩, hks2, ?_⟩
        simp! [eq_self, F__law_below, b__law_below, N__law_below, runD_eq, runG_eq, runFor_eq, hks, c1, List.eraseIdx_cons_succ, List.eraseIdx_cons_zero]
  · obtain ⟨kz, hkz, hkz2⟩ := hp c
    by_cases c1 : 0 < c
    · refine ⟨kz, _, ⟨s, c / lim, cells, rfl, hc⟩, hkz2, ?_⟩
      simp! [eq_self, F__law_below, b__law_below, N__law_below, runD_eq, runG_eq, runFor_eq, hkz, c0, c1]
    · refine ⟨ks, _, ⟨(s * 48271 + 11) % 2147483647, c, cells, rfl, hc⟩, hks2, ?_⟩
      simp! [eq_self, F__law_below, b__law_below, N__law_below, runD_eq, runG_eq, runFor_eq, hks, c0, c1]
theorem law_random (ns : List Int) (salt : Int) (hl : ns.length ≤ 63) : ∃ x y r, HdrB r ∧ F__law_random [.ext (ns.map .int), .int salt] [] = some (.ok (.res 2) [x, y, r]) := by
  simp! [eq_self, F__law_random, b__law_random, N__law_random, runD_eq, runG_eq, runFor_eq]
  generalize hX : forF _ _ _ _ = X
  have hF := forF_gen hX
  clear hX
  obtain ⟨ρ', m', rfl, ⟨s, c, rfl⟩, rfl⟩ := hF (fun i ρ m' => (∃ s c, ρ = [some (.ext (ns.map .int)), some (.int salt), some (.int s), c]) ∧ m' = []) ⟨⟨salt, none, rfl⟩, rfl⟩ (by
    rintro i x ρ m' hx ⟨⟨s, c, rfl⟩, rfl⟩
    rw [List.getElem?_map] at hx
    cases hz : ns[i]? with
    | none => rw [hz] at hx; cases hx
    | some z =>
      rw [hz] at hx
      cases hx
      refine ⟨_, _, .inl ?_, ⟨(s * 31 + (if z < 0 then -z else z)) % 2147483647, some (.int z), rfl⟩, rfl⟩
      simp! [eq_self, b__law_random_1])
  simp! [eq_self]
  have hsz : 2 + (List.filter (fun z => decide ((1000000000000000000 : Int) ≤ z)) ns).length ≤ sizeLine := by
    have := List.length_filter_le (fun z => decide ((1000000000000000000 : Int) ≤ z)) ns
    rw [sizeLine_eq]
    omega
  rw [compL_fil (h := D.int) (b := fun z => decide ((1000000000000000000 : Int) ≤ z)) ns [] (fun z hz => ?_) (by rw [sizeLine_eq]; simp; omega)]
  · refine ⟨R.lst [D.int s, D.int 0], R.lst ((ns.filter fun z => decide ((1000000000000000000 : Int) ≤ z)).map .int), _, ⟨s, 0, ns.filter fun z => decide ((1000000000000000000 : Int) ≤ z), rfl, Nat.le_trans (List.length_filter_le _ _) hl⟩, ?_⟩
    simp! [eq_self, hsz]
  · by_cases c1 : (1000000000000000000 : Int) ≤ z
    · rw [decide_eq_true c1]
      simp! [eq_self, c1]
    · rw [decide_eq_false c1]
      simp! [eq_self, c1]

open PySem Dv Mt
set_option hygiene false
set_option hygiene true
noncomputable def names12 : List Str := ["a", "b", "cc", "red", "longname", "x", "y", "z", "p", "q", "rr", "s"]
/-- what is drawn -/
structure Drawn (most : Nat) (ns : List Str) (s : Nat) (hs : List (List Nat)) : Prop where
  ok : KOk ns s hs
  le : ns.length ≤ most
  sub : ∀ x ∈ ns, x ∈ names12

open PySem Dv Mt
set_option hygiene false
set_option hygiene true
theorem all_true {α : Type} (l : List α) : (l.map fun _ => D.bl true) = (l.map fun _ => true).map .bl := by rw [List.map_map]; rfl
theorem all_true2 {α : Type} (l : List α) : (l.map fun _ => true).all id = true := by simp
theorem law_equal : ∀ (k : Nat) (d : D) (m : List R), pl k d = true → shD d = true → F__law_equal (k + 1) [d, d] m = some (.ok (.bl true) m)
  | k, .non, m, h, hs => by
    rw [F__law_equal_succ]
    simp! [eq_self, runD_eq, b__law_equal, N__law_equal]
    exact fin_self rfl
  | k, .int i, m, h, hs => by
    rw [F__law_equal_succ]
    simp! [eq_self, runD_eq, b__law_equal, N__law_equal]
    exact fin_self rfl
  | k, .str x, m, h, hs => by
    have e : eqD m (.str x) (.str x) = some true := eqD_t (by simp only [pl] at h ⊢; exact h)
    rw [F__law_equal_succ]
    simp! [eq_self, runD_eq, b__law_equal, N__law_equal, e]
    exact fin_self rfl
  | 0, .tup xs, m, h, hs => by simp [pl] at h
  | k + 1, .tup xs, m, h, hs => by
    simp only [pl, Bool.and_eq_true] at h
    simp only [shD, Bool.and_eq_true, decide_eq_true_eq] at hs
    rw [F__law_equal_succ]
    simp! [eq_self, runD_eq, b__law_equal, N__law_equal]
    rw [compL_mapA (h := fun _ => .bl true) (List.range xs.length) [] (fun p hp => ?_) (by rw [sizeLine_eq]; simp; omega)]
    · simp! [eq_self, all_true, all_true2]
      exact fin_self rfl
    · have hp' := List.mem_range.mp hp
      obtain ⟨x, hx⟩ := get_ex rfl hp'
      have hm := List.mem_of_getElem? hx
      have e2 := law_equal k x m (plL_mem h.2 hm) (shDL_mem hs.2 hm)
      simp! [eq_self, hx, e2]
  | 0, .lst xs, m, h, hs => by simp [pl] at h
  | k + 1, .lst xs, m, h, hs => by
    simp only [pl, Bool.and_eq_true] at h
    simp only [shD, Bool.and_eq_true, decide_eq_true_eq] at hs
    rw [F__law_equal_succ]
    simp! [eq_self, runD_eq, b__law_equal, N__law_equal]
    rw [compL_mapA (h := fun _ => .bl true) (List.range xs.length) [] (fun p hp => ?_) (by rw [sizeLine_eq]; simp; omega)]
    · simp! [eq_self, all_true, all_true2]
      exact fin_self rfl
    · have hp' := List.mem_range.mp hp
      obtain ⟨x, hx⟩ := get_ex rfl hp'
      have hm := List.mem_of_getElem? hx
      have e2 := law_equal k x m (plL_mem h.2 hm) (shDL_mem hs.2 hm)
      simp! [eq_self, hx, e2]
  | k, .bl b, m, h, hs => by simp [pl] at h
  | k, .ext b, m, h, hs => by simp [pl] at h
  | k, .obj c b, m, h, hs => by simp [pl] at h
  | k, .res b, m, h, hs => by simp [pl] at h
theorem shDL_map {α : Type} {f : α → D} (h : ∀ x, shD (f x) = true) : ∀ l : List α, shDL (l.map f) = true
  | [] => rfl
  | x :: l => by simp only [List.map_cons, shDL, h x, shDL_map h l, Bool.and_self]
open PySem Dv Mt
set_option hygiene false
set_option hygiene true
noncomputable def hI (h : List Int) : D := .tup (h.map .int)
theorem okD_hI (n : Nat) (h : List Int) : okD n (hI h) = true := by unfold hI; rw [okD_tup]; exact okDL_map (fun x => okD_int _ _) _
noncomputable def hbI (n s : Nat) (h : List Int) : Bool := decide (h.length = s) && (decide (1 ≤ s ∧ s ≤ n) && h.zipIdx.all fun p => decide (0 ≤ p.1 ∧ p.1 ≤ (n : Int) - (s : Int) + (p.2 : Int)))
theorem enuD_ints (h : List Int) : enuD (h.map .int) = h.zipIdx.map fun p => .tup [.int (p.2 : Int), .int p.1] := by
  unfold enuD
  rw [List.zipIdx_map, List.map_map]
  rfl
theorem is_habitI {n s : Nat} {h : List Int} (m : List R) (hn : n ≤ 1000) (hl : h.length ≤ 1000) : F_is_habit [.int (n : Int), .int (s : Int), hI h] m = some (.ok (.bl (hbI n s h)) m) := by
  unfold hbI hI
  by_cases c1 : h.length = s
  · subst c1
    rw [decide_eq_true rfl, Bool.true_and]
    by_cases c2 : 1 ≤ h.length
    · by_cases c3 : h.length ≤ n
      · rw [decide_eq_true ⟨c2, c3⟩, Bool.true_and]
        simp! [eq_self, F_is_habit, b_is_habit, N_is_habit, runD_eq, runG_eq, runFor_eq, enuD_ints]
        rw [compL_mapA (h := fun p => .bl (decide (0 ≤ p.1 ∧ p.1 ≤ (n : Int) - (h.length : Int) + (p.2 : Int)))) h.zipIdx [] (fun p hp => by
          obtain ⟨d, i⟩ := p
          by_cases c : 0 ≤ d
          · by_cases c' : d ≤ (n : Int) - (h.length : Int) + (i : Int)
            · rw [decide_eq_true ⟨c, c'⟩]
              simp! [eq_self, c, c']
            · rw [decide_eq_false (fun q => c' q.2)]
              simp! [eq_self, c, c']
          · rw [decide_eq_false (fun q => c q.1)]
            simp! [eq_self, c]) (by rw [sizeLine_eq]; simp; omega)]
        have e : h.zipIdx.map (fun p => D.bl (decide (0 ≤ p.1 ∧ p.1 ≤ (n : Int) - (h.length : Int) + (p.2 : Int)))) = (h.zipIdx.map fun p => decide (0 ≤ p.1 ∧ p.1 ≤ (n : Int) - (h.length : Int) + (p.2 : Int))).map .bl := by rw [List.map_map]; rfl
        have e2 : (h.zipIdx.map fun p => decide (0 ≤ p.1 ∧ p.1 ≤ (n : Int) - (h.length : Int) + (p.2 : Int))).all id = h.zipIdx.all fun p => decide (0 ≤ p.1 ∧ p.1 ≤ (n : Int) - (h.length : Int) + (p.2 : Int)) := by rw [List.all_map]; rfl
        simp! [eq_self, e, e2]
        exact fin_self rfl
      · rw [decide_eq_false (fun h => c3 h.2)]
        simp! [eq_self, F_is_habit, b_is_habit, N_is_habit, runD_eq, runG_eq, runFor_eq, c3]
        exact fin_self rfl
    · rw [decide_eq_false (fun h => c2 h.1)]
      simp! [eq_self, F_is_habit, b_is_habit, N_is_habit, runD_eq, runG_eq, runFor_eq, c2]
      exact fin_self rfl
  · rw [decide_eq_false c1]
    have c1' : ¬ ((h.length : Int) = (s : Int)) := by omega
    simp! [eq_self, F_is_habit, b_is_habit, N_is_habit, runD_eq, runG_eq, runFor_eq, c1']
    exact fin_self rfl
open PySem Dv Mt
set_option hygiene false
set_option hygiene true
/-! the law's own faults -/
open PySem Dv Mt
set_option hygiene false
set_option hygiene true
theorem act_out (fr : List (Str × Addr)) (clo : Nat → List R → Option Rs) (i : Nat) (m : List R) : actD (g__law_error_of fr clo) (.fn i fr) m = clo i m := if_pos rfl
theorem pdL_bl (m : List R) : ∀ bs : List Bool, pdL m (bs.map .bl) = some (bs.map PyData.bool)
  | [] => rfl
  | b :: bs => by
    simp only [List.map_cons, pdL, pd, pdL_bl m bs]
theorem q_countB (m : List R) (bs : List Bool) (n : Nat) (h : (bs.map PyData.bool).countP (fun z => PyData.eqv z (.bool true)) = n) (h2 : PyData.plainAll (bs.map PyData.bool) = true) : mtD .count m (.lst (bs.map .bl)) [.bl true] = some (.int (n : Int), m) := by
  have e : pdR m (.bl true) = some (.bool true) := rfl
  simp only [mtD, countD, lsq, pdL_bl, e]
  rw [if_pos ⟨h2, rfl, by decide⟩, h]
theorem q_indexB (m : List R) (bs : List Bool) (n : Nat) (h : (bs.map PyData.bool).findIdx? (fun z => PyData.eqv z (.bool true)) = some n) (h2 : (PyData.list (bs.map PyData.bool)).depth ≤ 64) : mtD .index m (.lst (bs.map .bl)) [.bl true] = some (.int (n : Int), m) := by
  have e : pdR m (.bl true) = some (.bool true) := rfl
  simp only [mtD, indexD, lsq, pdL_bl, e]
  rw [if_pos ⟨h2, by decide⟩, h]
theorem error_plain {fr : List (Str × Addr)} {clo : Nat → List R → Option Rs} {i : Nat} {m g : List R} {e j : Nat} {b0 b1 b2 b3 b4 b5 b6 b7 b8 b9 b10 b11 b12 b13 b14 : Bool} {nm : Str} (h : clo i m = some (.ex ⟨e, none⟩ (m ++ g)))
    (sm : subT e 100 = some true) (s0 : subT e 103 = some b0) (s1 : subT e 104 = some b1) (s2 : subT e 108 = some b2) (s3 : subT e 105 = some b3) (s4 : subT e 102 = some b4) (s5 : subT e 106 = some b5) (s6 : subT e 107 = some b6) (s7 : subT e 110 = some b7) (s8 : subT e 111 = some b8) (s9 : subT e 101 = some b9) (s10 : subT e 109 = some b10) (s11 : subT e 113 = some b11) (s12 : subT e 112 = some b12) (s13 : subT e 114 = some b13) (s14 : subT e 115 = some b14) (sv : subT e 99 = some true)
    (c1 : ∀ m, mtD .count m (.lst [.bl b0, .bl b1, .bl b2, .bl b3, .bl b4, .bl b5, .bl b6, .bl b7, .bl b8, .bl b9, .bl b10, .bl b11, .bl b12, .bl b13, .bl b14]) [.bl true] = some (.int 1, m)) (c2 : ∀ m, mtD .index m (.lst [.bl b0, .bl b1, .bl b2, .bl b3, .bl b4, .bl b5, .bl b6, .bl b7, .bl b8, .bl b9, .bl b10, .bl b11, .bl b12, .bl b13, .bl b14]) [.bl true] = some (.int (j : Int), m)) (hn : ([.str (Str.ofString "count"), .str (Str.ofString "habit"), .str (Str.ofString "washers"), .str (Str.ofString "mug"), .str (Str.ofString "cup"), .str (Str.ofString "empty"), .str (Str.ofString "shelf"), .str (Str.ofString "name"), .str (Str.ofString "checkpoint"), .str (Str.ofString "kitchen"), .str (Str.ofString "operation"), .str (Str.ofString "failed"), .str (Str.ofString "daybook"), .str (Str.ofString "notation"), .str (Str.ofString "decode")] : List D)[j]? = some (.str nm))
    (e_kitchen : ∀ m, eqD m (.str nm) (.str (Str.ofString "kitchen")) = some false) (e_decode : ∀ m, eqD m (.str nm) (.str (Str.ofString "decode")) = some false)
    (i_0 : ∀ m, inD m (.str nm) (.lst [.str (Str.ofString "daybook"), .str (Str.ofString "notation")]) = some false) (i_1 : ∀ m, inD m (.str nm) (.lst [.str (Str.ofString "operation"), .str (Str.ofString "failed")]) = some false) :
    F__law_error_of fr clo [.fn i fr] m = some (.ok (.tup [.str nm, .int 0]) m) := by
  have hj : j < 15 := (List.getElem?_eq_some_iff.mp hn).1
  have hs : (g__law_error_of fr clo).sub e 100 = some true := sm
  generalize hA : F__law_error_of fr clo _ _ = A
  simp! [eq_self, F__law_error_of, b__law_error_of, N__law_error_of, runD_eq, runG_eq, runFor_eq, b__law_error_of_t, act_out, h] at hA
  simp! [eq_self, F__law_error_of, b__law_error_of, N__law_error_of, runD_eq, runG_eq, runFor_eq, b__law_error_of_x, exnD_0, c1, sv, s0, s1, s2, s3, s4, s5, s6, s7, s8, s9, s10, s11, s12, s13, s14] at hA
  simp! [eq_self, F__law_error_of, b__law_error_of, N__law_error_of, runD_eq, runG_eq, runFor_eq, b__law_error_of_x, exnD_0, c2, hn, e_kitchen, e_decode, i_0, i_1] at hA
  have hx : noxD (.tup [.str nm, .int 0]) = true := by simp only [noxD, noxDL, Bool.and_self, Bool.and_true]
  simp! [eq_self, hx] at hA
  rw [fin_app (by simp only [okD, okDL, Bool.and_self, Bool.and_true])] at hA
  exact hA.symm
theorem error_habit {fr : List (Str × Addr)} {clo : Nat → List R → Option Rs} {i : Nat} {m g : List R} (h : clo i m = some (.ex ⟨104, none⟩ (m ++ g))) : F__law_error_of fr clo [.fn i fr] m = some (.ok (.tup [.str (Str.ofString "habit"), .int 0]) m) :=
  error_plain h rfl rfl rfl rfl rfl rfl rfl rfl rfl rfl rfl rfl rfl rfl rfl rfl rfl (fun m => q_countB m [false, true, false, false, false, false, false, false, false, false, false, false, false, false, false] 1 (by decide +kernel) (by decide +kernel)) (fun m => q_indexB m [false, true, false, false, false, false, false, false, false, false, false, false, false, false, false] 1 (by decide +kernel) (by decide +kernel)) rfl (fun m => by rw [q_eqS (by decide +kernel) (by decide +kernel)]; exact congrArg some (by decide +kernel)) (fun m => by rw [q_eqS (by decide +kernel) (by decide +kernel)]; exact congrArg some (by decide +kernel))
    (fun m => inL_f (pl_str (by decide +kernel)) (plL_strs (xs := [Str.ofString "daybook", Str.ofString "notation"]) (by decide +kernel)) (fun h => by
      obtain ⟨y, hy, e⟩ := (List.mem_map (f := D.str) (l := [Str.ofString "daybook", Str.ofString "notation"])).mp h
      cases e
      exact absurd hy (by decide +kernel))) (fun m => inL_f (pl_str (by decide +kernel)) (plL_strs (xs := [Str.ofString "operation", Str.ofString "failed"]) (by decide +kernel)) (fun h => by
      obtain ⟨y, hy, e⟩ := (List.mem_map (f := D.str) (l := [Str.ofString "operation", Str.ofString "failed"])).mp h
      cases e
      exact absurd hy (by decide +kernel)))

open PySem Dv Mt
set_option hygiene false
set_option hygiene true
open PySem Dv Mt
set_option hygiene false
set_option hygiene true
/-! washers: made, and what they tell -/
noncomputable def oW (c : Nat) (lab : Str) (p : Nat) (r : List D) : D := .obj c (.str lab :: .int (p : Int) :: r)
theorem fin_obj {c : Nat} {fs : List (Str × D)} (m : List R) (hn : fs.map (·.1) = nmT c) (hk : okDL m.length (fs.map (·.2)) = true) : fin nmT m (m ++ [R.obj c fs]) (.res m.length) = some (.ok (.obj c (fs.map (·.2))) m) := by
  unfold fin
  have e : (m ++ [R.obj c fs]).take m.length = m := List.take_left
  rw [if_pos (.inl e), e]
  have e2 : conv nmT m.length (m ++ [R.obj c fs]) 6 (.res m.length) = some (.obj c (fs.map (·.2))) := by
    unfold conv
    rw [if_neg (by simp)]
    simp only [get_app0]
    rw [if_pos hn, allO_ok hk]
    rfl
  rw [e2]
  rfl
theorem winit {c : Nat} {lab r : D} (m : List R) (h1 : (nmT c).contains "label" = true) (h2 : (nmT c).contains "rounds" = true) : F_Washer___init__ [.res m.length, lab, r] (m ++ [.obj c []]) = some (.ok .non (m ++ [.obj c [("label", lab), ("rounds", r)]])) := by
  have c1 : (g_Washer___init__.nm c).contains "label" = true := h1
  have c2 : (g_Washer___init__.nm c).contains "rounds" = true := h2
  have c3 : (("label" : Str) = "rounds") = False := by simp; decide +kernel
  have c4 : g_Washer___init__.prop c "label" = none := prop_label c
  have c5 : g_Washer___init__.prop c "rounds" = none := prop_rounds c
  simp! [eq_self, F_Washer___init__, b_Washer___init__, N_Washer___init__, runD_eq, runG_eq, runFor_eq, c3, putD]
noncomputable def topD : D := oW 2 "top" 1 []
noncomputable def undD : D := oW 3 "under" 1 []
noncomputable def depD (l : Int) : D := oW 4 "depth" 1 [.int l]
noncomputable def ownD (ds : List Int) : D := oW 5 "own" 1 [hI ds]
noncomputable def turD (p : Nat) (ps : List D) : D := oW 6 "turn" p [.tup ps]
theorem mk_top (m : List R) : mkD nmT true F_TopWasher___init__ 2 [] m = some (.ok topD m) := by
  have e := winit (c := 2) (lab := .str "top") (r := .int 1) m (by decide +kernel) (by decide +kernel)
  have e2 : F_TopWasher___init__ [.res m.length] (m ++ [.obj 2 []]) = some (.ok .non (m ++ [.obj 2 [("label", .str "top"), ("rounds", .int 1)]])) := by
    simp! [eq_self, F_TopWasher___init__, b_TopWasher___init__, N_TopWasher___init__, runD_eq, runG_eq, runFor_eq, e]
  unfold mkD
  rw [e2]
  exact fin_obj m rfl (by simp [okDL, okD])
theorem mk_under (m : List R) : mkD nmT true F_UnderWasher___init__ 3 [] m = some (.ok undD m) := by
  have e := winit (c := 3) (lab := .str "under") (r := .int 1) m (by decide +kernel) (by decide +kernel)
  have e2 : F_UnderWasher___init__ [.res m.length] (m ++ [.obj 3 []]) = some (.ok .non (m ++ [.obj 3 [("label", .str "under"), ("rounds", .int 1)]])) := by
    simp! [eq_self, F_UnderWasher___init__, b_UnderWasher___init__, N_UnderWasher___init__, runD_eq, runG_eq, runFor_eq, e]
  unfold mkD
  rw [e2]
  exact fin_obj m rfl (by simp [okDL, okD])
theorem is_num (v lo hi : Int) (m : List R) : F_is_number [.int v, .int lo, .int hi] m = some (.ok (.bl (decide (lo ≤ v ∧ v ≤ hi))) m) := by
  by_cases c1 : lo ≤ v
  · by_cases c2 : v ≤ hi
    · rw [decide_eq_true ⟨c1, c2⟩]
      simp! [eq_self, F_is_number, b_is_number, N_is_number, runD_eq, runG_eq, runFor_eq, c1, c2]
      exact fin_self rfl
    · rw [decide_eq_false (fun h => c2 h.2)]
      simp! [eq_self, F_is_number, b_is_number, N_is_number, runD_eq, runG_eq, runFor_eq, c1, c2]
      exact fin_self rfl
  · rw [decide_eq_false (fun h => c1 h.1)]
    simp! [eq_self, F_is_number, b_is_number, N_is_number, runD_eq, runG_eq, runFor_eq, c1]
    exact fin_self rfl
theorem mk_dep (l : Int) (m : List R) : mkD nmT true F_DepthWasher___init__ 4 [.int l] m = some (if 0 ≤ l ∧ l ≤ 11 then .ok (depD l) m else .ex ⟨103, none⟩ (m ++ [.obj 4 [("label", .str "depth"), ("rounds", .int 1)]])) := by
  have e := winit (c := 4) (lab := .str "depth") (r := .int 1) m (by decide +kernel) (by decide +kernel)
  have en := is_num l 0 11
  have c1 : (g_DepthWasher___init__.nm 4).contains "level" = true := show (nmT 4).contains "level" = true by decide +kernel
  have c2 : g_DepthWasher___init__.prop 4 "level" = none := prop_level 4
  have c3 : (("label" : Str) = "level") = False := by simp; decide +kernel
  have c4 : (("rounds" : Str) = "level") = False := by simp; decide +kernel
  by_cases c : 0 ≤ l ∧ l ≤ 11
  · rw [if_pos c]
    rw [decide_eq_true c] at en
    have e2 : F_DepthWasher___init__ [.res m.length, .int l] (m ++ [.obj 4 []]) = some (.ok .non (m ++ [.obj 4 [("label", .str "depth"), ("rounds", .int 1), ("level", .int l)]])) := by
      simp! [eq_self, F_DepthWasher___init__, b_DepthWasher___init__, N_DepthWasher___init__, runD_eq, runG_eq, runFor_eq, e, en, c3, c4, putD]
    unfold mkD
    rw [e2]
    exact fin_obj m rfl (by simp [okDL, okD])
  · rw [if_neg c]
    rw [decide_eq_false c] at en
    have e2 : F_DepthWasher___init__ [.res m.length, .int l] (m ++ [.obj 4 []]) = some (.ex ⟨103, none⟩ (m ++ [.obj 4 [("label", .str "depth"), ("rounds", .int 1)]])) := by
      simp! [eq_self, F_DepthWasher___init__, b_DepthWasher___init__, N_DepthWasher___init__, runD_eq, runG_eq, runFor_eq, e, en]
    unfold mkD
    rw [e2]
theorem mk_own (ds : List Int) (m : List R) : mkD nmT true F_OwnWasher___init__ 5 [hI ds] m = some (.ok (ownD ds) m) := by
  have e := winit (c := 5) (lab := .str "own") (r := .int 1) m (by decide +kernel) (by decide +kernel)
  have c1 : (g_OwnWasher___init__.nm 5).contains "depths" = true := show (nmT 5).contains "depths" = true by decide +kernel
  have c2 : g_OwnWasher___init__.prop 5 "depths" = none := prop_depths 5
  have c3 : (("label" : Str) = "depths") = False := by simp; decide +kernel
  have c4 : (("rounds" : Str) = "depths") = False := by simp; decide +kernel
  have e2 : F_OwnWasher___init__ [.res m.length, hI ds] (m ++ [.obj 5 []]) = some (.ok .non (m ++ [.obj 5 [("label", .str "own"), ("rounds", .int 1), ("depths", hI ds)]])) := by
    simp! [eq_self, F_OwnWasher___init__, b_OwnWasher___init__, N_OwnWasher___init__, runD_eq, runG_eq, runFor_eq, e, c3, c4, putD]
  unfold mkD
  rw [e2]
  exact fin_obj m rfl (by simp only [List.map_cons, List.map_nil, okDL, okD_hI, okD]; rfl)

open PySem Dv Mt
set_option hygiene false
set_option hygiene true
/-! habits of the plain washers -/
theorem run_dep0 (d a b : D) (m : List R) : F_Washer_depth [d, a, b] m = some (.ok (.int 0) m) := by
  simp! [eq_self, F_Washer_depth, b_Washer_depth, N_Washer_depth, runD_eq, runG_eq, runFor_eq]
  exact fin_self (okD_int _ _)
theorem run_depU (d : D) (a : Int) (b : D) (m : List R) : F_UnderWasher_depth [d, .int a, b] m = some (.ok (.int a) m) := by
  simp! [eq_self, F_UnderWasher_depth, b_UnderWasher_depth, N_UnderWasher_depth, runD_eq, runG_eq, runFor_eq]
  exact fin_self (okD_int _ _)
theorem run_depL (l a : Int) (b : D) (m : List R) : F_DepthWasher_depth [depD l, .int a, b] m = some (.ok (.int (min l a)) m) := by
  have c1 : (nmT 4).idxOf ("level" : Str) = 2 := rfl
  unfold depD oW
  by_cases c : l ≤ a
  · rw [Int.min_eq_left c]
    simp! [eq_self, F_DepthWasher_depth, b_DepthWasher_depth, N_DepthWasher_depth, runD_eq, runG_eq, runFor_eq, c1, prop_level, c]
    exact fin_self (okD_int _ _)
  · rw [Int.min_eq_right (by omega)]
    simp! [eq_self, F_DepthWasher_depth, b_DepthWasher_depth, N_DepthWasher_depth, runD_eq, runG_eq, runFor_eq, c1, prop_level, c]
    exact fin_self (okD_int _ _)
/-- the habit of so many depths -/
noncomputable def habF (f : Int → Int) (n s : Nat) : List Int := (List.range s).map fun (j : Nat) => f ((n : Int) - (s : Int) + (j : Int))
theorem habF_len (f : Int → Int) (n s : Nat) : (habF f n s).length = s := by unfold habF; rw [List.length_map, List.length_range]
theorem in_top (n s : Nat) (w : D) (hs : s ≤ 100) (m : List R) : F_Washer_habit_in [topD, .int (n : Int), .int (s : Int), w] m = some (.ok (hI (habF (fun _ => 0) n s)) m) := by
  unfold topD oW
  have e := run_dep0
  simp! [eq_self, F_Washer_habit_in, b_Washer_habit_in, N_Washer_habit_in, runD_eq, runG_eq, runFor_eq, e]
  rw [compL_mapA (h := fun (j : Nat) => .int 0) (List.range s) [] (fun j hj => by simp! [eq_self, meth_depth_2, e]) (by rw [sizeLine_eq, List.length_range]; simp only [List.length_nil]; omega)]
  have e2 : (List.range s).map (fun (j : Nat) => D.int 0) = (habF (fun _ => 0) n s).map .int := by unfold habF; rw [List.map_map]; rfl
  simp! [eq_self, e2]
  exact fin_self (okD_hI _ _)
theorem in_under (n s : Nat) (w : D) (hs : s ≤ 100) (m : List R) : F_Washer_habit_in [undD, .int (n : Int), .int (s : Int), w] m = some (.ok (hI (habF (fun x => x) n s)) m) := by
  unfold undD oW
  have e := run_depU
  simp! [eq_self, F_Washer_habit_in, b_Washer_habit_in, N_Washer_habit_in, runD_eq, runG_eq, runFor_eq, e]
  rw [compL_mapA (h := fun (j : Nat) => .int ((n : Int) - (s : Int) + (j : Int))) (List.range s) [] (fun j hj => by simp! [eq_self, meth_depth_2, e]) (by rw [sizeLine_eq, List.length_range]; simp only [List.length_nil]; omega)]
  have e2 : (List.range s).map (fun (j : Nat) => D.int ((n : Int) - (s : Int) + (j : Int))) = (habF (fun x => x) n s).map .int := by unfold habF; rw [List.map_map]; rfl
  simp! [eq_self, e2]
  exact fin_self (okD_hI _ _)
theorem in_dep (l : Int) (n s : Nat) (w : D) (hs : s ≤ 100) (m : List R) : F_Washer_habit_in [depD l, .int (n : Int), .int (s : Int), w] m = some (.ok (hI (habF (fun x => min l x) n s)) m) := by
  have e : ∀ a b m, F_DepthWasher_depth [.obj 4 [.str "depth", .int ((1 : Nat) : Int), .int l], .int a, b] m = some (.ok (.int (min l a)) m) := fun a b m => run_depL l a b m
  unfold depD oW
  simp! [eq_self, F_Washer_habit_in, b_Washer_habit_in, N_Washer_habit_in, runD_eq, runG_eq, runFor_eq, e]
  rw [compL_mapA (h := fun (j : Nat) => .int (min l ((n : Int) - (s : Int) + (j : Int)))) (List.range s) [] (fun j hj => by simp! [eq_self, meth_depth_2, e]) (by rw [sizeLine_eq, List.length_range]; simp only [List.length_nil]; omega)]
  have e2 : (List.range s).map (fun (j : Nat) => D.int (min l ((n : Int) - (s : Int) + (j : Int)))) = (habF (fun x => min l x) n s).map .int := by unfold habF; rw [List.map_map]; rfl
  simp! [eq_self, e2]
  exact fin_self (okD_hI _ _)
theorem in_own (ds : List Int) (a b c : D) (m : List R) : F_OwnWasher_habit_in [ownD ds, a, b, c] m = some (.ok (hI ds) m) := by
  have c1 : (nmT 5).idxOf ("depths" : Str) = 2 := rfl
  unfold ownD oW
  simp! [eq_self, F_OwnWasher_habit_in, b_OwnWasher_habit_in, N_OwnWasher_habit_in, runD_eq, runG_eq, runFor_eq, c1, prop_depths]
  exact fin_self (okD_hI _ _)
theorem rep_after {c : Nat} {lab : Str} {p : Nat} {r : List D} (hn : ∃ l, nmT c = ("label" : Str) :: ("rounds" : Str) :: l) (m : List R) : F_Washer_repeat_after [oW c lab p r] m = some (.ok (.int (p : Int)) m) := by
  obtain ⟨l, hn⟩ := hn
  have c1 : (nmT c).idxOf ("rounds" : Str) = 1 := by rw [hn]; rfl
  have c4 := prop_rounds c
  unfold oW
  simp! [eq_self, F_Washer_repeat_after, b_Washer_repeat_after, N_Washer_repeat_after, runD_eq, runG_eq, runFor_eq, c1, c4]
  exact fin_self (okD_int _ _)

open PySem Dv Mt
set_option hygiene false
set_option hygiene true
noncomputable def vld (n s w : Int) : Prop := (2 ≤ n ∧ n ≤ 12) ∧ (1 ≤ s ∧ s ≤ n) ∧ 0 ≤ w
noncomputable instance {n s w : Int} : Decidable (vld n s w) := inferInstanceAs (Decidable (_ ∧ _ ∧ _))
noncomputable def habO (h : Option (List Int)) (m : List R) : Rs := match h with
  | some h => .ok (hI h) m
  | none => .ex ⟨104, none⟩ m
noncomputable def chk (n s : Nat) (h : Option (List Int)) : Option (List Int) := h.bind fun l => if hbI n s l then some l else none
/-- the def that tells the habit of a wash of the period -/
noncomputable def hinF (k c : Nat) : List D → List R → Option Rs := if c = 6 then F_TurnWasher_habit_in k else if c = 5 then F_OwnWasher_habit_in else F_Washer_habit_in
noncomputable def IsW (c : Nat) : Prop := c = 2 ∨ c = 3 ∨ c = 4 ∨ c = 5 ∨ c = 6
theorem IsW.nm {c : Nat} (h : IsW c) : ∃ l, nmT c = ("label" : Str) :: ("rounds" : Str) :: l := by
  rcases h with rfl | rfl | rfl | rfl | rfl <;> exact ⟨_, rfl⟩
theorem hf_core {k c : Nat} {lab : Str} {p : Nat} {r : List D} (hc : IsW c) (hp : 0 < p) (hp2 : p ≤ 1000000) {n s w : Int} {h : Option (List Int)} (hl : ∀ l, h = some l → l.length ≤ 1000)
    (hin : ∀ m, vld n s w → hinF k c [oW c lab p r, .int n, .int s, .int (w % (p : Int))] m = some (habO h m)) (m : List R) :
    F_Washer_habit_for (k + 1) [oW c lab p r, .int n, .int s, .int w] m = some (if vld n s w then habO (chk n.toNat s.toNat h) m else .ex ⟨103, none⟩ m) := by
  have e1 := is_num n 2 12
  have e2 := is_num s 1 n
  by_cases c1 : 2 ≤ n ∧ n ≤ 12
  · by_cases c2 : 1 ≤ s ∧ s ≤ n
    · by_cases c3 : 0 ≤ w
      · have v : vld n s w := ⟨c1, c2, c3⟩
        rw [if_pos v]
        have hin := fun m => hin m v
        have e3 := fun m => rep_after (c := c) (lab := lab) (p := p) (r := r) hc.nm m
        obtain ⟨n', rfl⟩ : ∃ n' : Nat, n = (n' : Int) := ⟨n.toNat, by omega⟩
        obtain ⟨s', rfl⟩ : ∃ s' : Nat, s = (s' : Int) := ⟨s.toNat, by omega⟩
        rw [decide_eq_true c1] at e1
        rw [decide_eq_true c2] at e2
        have w0 : ¬ w < 0 := by omega
        have pr := fun c => prop_repeat_after c
        simp only [Int.toNat_natCast]
        unfold oW at e3 hin ⊢
        rw [F_Washer_habit_for_succ]
        cases h with
        | none =>
          simp only [habO] at hin
          simp only [chk, Option.bind_none, habO]
          rcases hc with rfl | rfl | rfl | rfl | rfl
          all_goals
            simp only [hinF, Nat.reduceEqDiff, if_false, if_true] at hin
            simp! [eq_self, runD_eq, b_Washer_habit_for, N_Washer_habit_for, e1, e2, w0, e3, pr, noX_okk, meth_habit_in_3, hin]
        | some l =>
          have e4 := fun m => is_habitI (n := n') (s := s') (h := l) m (by omega) (hl l rfl)
          simp only [habO] at hin
          simp only [chk, Option.bind_some]
          cases hb : hbI n' s' l with
          | true =>
            rw [hb] at e4
            rw [if_pos rfl]
            simp only [habO]
            rcases hc with rfl | rfl | rfl | rfl | rfl
            all_goals
              simp only [hinF, Nat.reduceEqDiff, if_false, if_true] at hin
              simp! [eq_self, runD_eq, b_Washer_habit_for, N_Washer_habit_for, e1, e2, w0, e3, pr, noX_okk, meth_habit_in_3, hin, e4]
              exact fin_self (okD_hI _ _)
          | false =>
            rw [hb] at e4
            rw [if_neg (by decide)]
            simp only [habO]
            rcases hc with rfl | rfl | rfl | rfl | rfl
            all_goals
              simp only [hinF, Nat.reduceEqDiff, if_false, if_true] at hin
              simp! [eq_self, runD_eq, b_Washer_habit_for, N_Washer_habit_for, e1, e2, w0, e3, pr, noX_okk, meth_habit_in_3, hin, e4]
      · rw [if_neg (fun v => c3 v.2.2)]
        rw [decide_eq_true c1] at e1
        rw [decide_eq_true c2] at e2
        have w0 : w < 0 := by omega
        rw [F_Washer_habit_for_succ]
        simp! [eq_self, runD_eq, b_Washer_habit_for, N_Washer_habit_for, e1, e2, w0]
    · rw [if_neg (fun v => c2 v.2.1)]
      rw [decide_eq_true c1] at e1
      rw [decide_eq_false c2] at e2
      rw [F_Washer_habit_for_succ]
      simp! [eq_self, runD_eq, b_Washer_habit_for, N_Washer_habit_for, e1, e2]
  · rw [if_neg (fun v => c1 v.1)]
    rw [decide_eq_false c1] at e1
    rw [F_Washer_habit_for_succ]
    simp! [eq_self, runD_eq, b_Washer_habit_for, N_Washer_habit_for, e1]

open PySem Dv Mt
set_option hygiene false
set_option hygiene true
/-- what a washer's data d does: p its period, hab the habit of a wash, or that there is none -/
structure WOk (k : Nat) (d : D) (p : Nat) (hab : Nat → Nat → Nat → Option (List Int)) : Prop where
  pos : 0 < p
  le : p ≤ 1000000
  ob : ∃ c lab r, IsW c ∧ d = oW c lab p r
  ok : ∀ n, okD n d = true
  per : ∀ n s w, hab n s w = hab n s (w % p)
  val : ∀ n s w l, hab n s w = some l → hbI n s l = true ∧ l.length ≤ 1000
  run : ∀ k', k ≤ k' → ∀ (n s w : Int) (m : List R), F_Washer_habit_for k' [d, .int n, .int s, .int w] m = some (if vld n s w then habO (hab n.toNat s.toNat w.toNat) m else .ex ⟨103, none⟩ m)
theorem WOk.mono {k k' : Nat} {d : D} {p : Nat} {hab : Nat → Nat → Nat → Option (List Int)} (h : WOk k d p hab) (hk : k ≤ k') : WOk k' d p hab := ⟨h.pos, h.le, h.ob, h.ok, h.per, h.val, fun j hj => h.run j (Nat.le_trans hk hj)⟩
theorem chk_val {n s : Nat} {h : Option (List Int)} {l : List Int} (e : chk n s h = some l) : h = some l ∧ hbI n s l = true := by
  unfold chk at e
  cases h with
  | none => cases e
  | some x =>
    simp only [Option.bind_some] at e
    split at e
    · rename_i q
      cases e
      exact ⟨rfl, q⟩
    · cases e
theorem hbI_len {n s : Nat} {l : List Int} (h : hbI n s l = true) : l.length = s ∧ s ≤ n := by
  unfold hbI at h
  simp only [Bool.and_eq_true, decide_eq_true_eq] at h
  exact ⟨h.1, h.2.1.2⟩
/-- .. where habits are at most 12 long -/
noncomputable def fit (n s : Nat) (h : Option (List Int)) : Option (List Int) := if n ≤ 12 then chk n s h else none
theorem fit_val {n s : Nat} {h : Option (List Int)} {l : List Int} (e : fit n s h = some l) : hbI n s l = true ∧ l.length ≤ 1000 := by
  unfold fit at e
  split at e
  · obtain ⟨_, q⟩ := chk_val e
    obtain ⟨a, b⟩ := hbI_len q
    exact ⟨q, by omega⟩
  · cases e
theorem wok_base {c : Nat} {lab : Str} {r : List D} (hc : IsW c) {hb : Nat → Nat → List Int} (hl : ∀ n s, n ≤ 12 → s ≤ 12 → (hb n s).length ≤ 1000) (hok : ∀ n, okD n (oW c lab 1 r) = true)
    (hin : ∀ (k n s : Nat) (w : D) (m : List R), s ≤ 100 → hinF k c [oW c lab 1 r, .int (n : Int), .int (s : Int), w] m = some (.ok (hI (hb n s)) m)) : WOk 1 (oW c lab 1 r) 1 (fun n s _ => fit n s (some (hb n s))) := by
  refine ⟨by omega, by omega, ⟨c, lab, r, hc, rfl⟩, hok, fun n s w => rfl, fun n s w l e => fit_val e, fun k' hk n s w m => ?_⟩
  obtain ⟨k, rfl⟩ : ∃ k, k' = k + 1 := ⟨k' - 1, by omega⟩
  by_cases v : vld n s w
  · have v2 := v
    obtain ⟨⟨v1, v2⟩, ⟨v3, v4⟩, v5⟩ := v2
    obtain ⟨n', rfl⟩ : ∃ n' : Nat, n = (n' : Int) := ⟨n.toNat, by omega⟩
    obtain ⟨s', rfl⟩ : ∃ s' : Nat, s = (s' : Int) := ⟨s.toNat, by omega⟩
    have := hf_core (k := k) (lab := lab) (p := 1) (r := r) (n := (n' : Int)) (s := (s' : Int)) (w := w) (h := some (hb n' s')) hc (by omega) (by omega) (fun l e => by cases e; exact hl n' s' (by omega) (by omega)) (fun m _ => hin k n' s' _ m (by omega)) m
    rw [this, if_pos v, if_pos v]
    have e : fit n' s' (some (hb n' s')) = chk n' s' (some (hb n' s')) := if_pos (by omega)
    simp only [Int.toNat_natCast, e]
  · have := hf_core (k := k) (lab := lab) (p := 1) (r := r) (n := n) (s := s) (w := w) (h := none) hc (by omega) (by omega) (fun l e => by cases e) (fun m q => absurd q v) m
    rw [this, if_neg v, if_neg v]
theorem hinF_base {k c : Nat} (h1 : c ≠ 6) (h2 : c ≠ 5) : hinF k c = F_Washer_habit_in := by
  unfold hinF
  rw [if_neg h1, if_neg h2]
theorem hinF_own {k : Nat} : hinF k 5 = F_OwnWasher_habit_in := by
  unfold hinF
  rw [if_neg (by decide), if_pos rfl]
theorem wok_top : WOk 1 topD 1 (fun n s _ => fit n s (some (habF (fun _ => 0) n s))) :=
  wok_base (.inl rfl) (fun n s _ h => by rw [habF_len]; omega) (fun n => by simp [oW, okD, okDL]) fun k n s w m h => (by rw [hinF_base (by decide) (by decide)]; exact in_top n s w h m)
theorem wok_under : WOk 1 undD 1 (fun n s _ => fit n s (some (habF (fun x => x) n s))) :=
  wok_base (.inr (.inl rfl)) (fun n s _ h => by rw [habF_len]; omega) (fun n => by simp [oW, okD, okDL]) fun k n s w m h => (by rw [hinF_base (by decide) (by decide)]; exact in_under n s w h m)
theorem wok_dep (l : Int) : WOk 1 (depD l) 1 (fun n s _ => fit n s (some (habF (fun x => min l x) n s))) :=
  wok_base (.inr (.inr (.inl rfl))) (fun n s _ h => by rw [habF_len]; omega) (fun n => by simp [oW, okD, okDL]) fun k n s w m h => (by rw [hinF_base (by decide) (by decide)]; exact in_dep l n s w h m)
theorem wok_own (ds : List Int) (hl : ds.length ≤ 1000) : WOk 1 (ownD ds) 1 (fun n s _ => fit n s (some ds)) :=
  wok_base (.inr (.inr (.inr (.inl rfl)))) (fun n s _ h => hl) (fun n => by simp only [oW, okD, okDL, okD_hI]; rfl) fun k n s w m h => (by rw [hinF_own]; exact in_own ds (.int (n : Int)) (.int (s : Int)) w m)
noncomputable abbrev WS := D × Nat × (Nat → Nat → Nat → Option (List Int))
noncomputable def turH (ps : List WS) (n s w : Nat) : Option (List Int) := match ps[w % ps.length]? with
  | some q => q.2.2 n s (w / ps.length)
  | none => none
theorem turn_in {k : Nat} {ps : List WS} (ne : ps ≠ []) (hps : ∀ q ∈ ps, WOk k q.1 q.2.1 q.2.2) (hlen : ps.length ≤ 1000) {p n s w : Nat} (v : vld n s w) (m : List R) :
    F_TurnWasher_habit_in (k + 1) [turD p (ps.map (·.1)), .int (n : Int), .int (s : Int), .int (w : Int)] m = some (habO (turH ps n s w) m) := by
  have c1 : (nmT 6).idxOf ("parts" : Str) = 2 := rfl
  have c4 := prop_parts 6
  have hpos : 0 < ps.length := List.length_pos_iff.mpr ne
  obtain ⟨q, hq⟩ : ∃ q, ps[w % ps.length]? = some q := ⟨_, List.getElem?_eq_getElem (Nat.mod_lt w hpos)⟩
  have ok := hps q (List.mem_of_getElem? hq)
  obtain ⟨c, lab, r, hc, ed⟩ := ok.ob
  have hz : (ps.map (·.1))[w % ps.length]? = some q.1 := by rw [List.getElem?_map, hq]; rfl
  have e1 := fun m => ok.run k (Nat.le_refl _) (n : Int) (s : Int) ((w / ps.length : Nat) : Int) m
  have v2 : vld n s ((w / ps.length : Nat) : Int) := ⟨v.1, v.2.1, Int.natCast_nonneg _⟩
  simp only [if_pos v2, Int.toNat_natCast] at e1
  have eh : turH ps n s w = q.2.2 n s (w / ps.length) := by unfold turH; rw [hq]
  rw [eh]
  have d1 : ((w : Int) / (ps.length : Int)) = ((w / ps.length : Nat) : Int) := by simp
  have d2 : ((w : Int) % (ps.length : Int)) = ((w % ps.length : Nat) : Int) := by simp
  have hz2 : L2.atI (ps.map (·.1)) ((w % ps.length : Nat) : Int) = some q.1 := atI_at hz
  rw [F_TurnWasher_habit_in_succ]
  unfold turD oW
  cases hh : q.2.2 n s (w / ps.length) with
  | some l =>
    rw [hh] at e1
    simp only [habO] at e1 ⊢
    rw [ed] at hz2 e1
    unfold oW at hz2 e1
    rcases hc with rfl | rfl | rfl | rfl | rfl
    all_goals
      simp! [eq_self, runD_eq, b_TurnWasher_habit_in, N_TurnWasher_habit_in, c1, c4, d1, d2, hz2, meth_habit_for_3, e1]
      exact fin_self (okD_hI _ _)
  | none =>
    rw [hh] at e1
    simp only [habO] at e1 ⊢
    rw [ed] at hz2 e1
    unfold oW at hz2 e1
    rcases hc with rfl | rfl | rfl | rfl | rfl
    all_goals
      simp! [eq_self, runD_eq, b_TurnWasher_habit_in, N_TurnWasher_habit_in, c1, c4, d1, d2, hz2, meth_habit_for_3, e1]

open PySem Dv Mt
set_option hygiene false
set_option hygiene true
/-! periods -/
noncomputable def lcmL (ps : List Nat) : Nat := ps.foldl Nat.lcm 1
theorem foldl_lcm_pos : ∀ (ps : List Nat) (a : Nat), 0 < a → (∀ p ∈ ps, 0 < p) → 0 < ps.foldl Nat.lcm a
  | [], a, h, _ => h
  | p :: ps, a, h, hp => foldl_lcm_pos ps (Nat.lcm a p) (Nat.lcm_pos h (hp p List.mem_cons_self)) fun q hq => hp q (List.mem_cons_of_mem _ hq)
theorem foldl_lcm_dvd : ∀ (ps : List Nat) (a : Nat), a ∣ ps.foldl Nat.lcm a ∧ ∀ p ∈ ps, p ∣ ps.foldl Nat.lcm a
  | [], a => ⟨Nat.dvd_refl a, fun p h => by cases h⟩
  | p :: ps, a => by
    obtain ⟨h1, h2⟩ := foldl_lcm_dvd ps (Nat.lcm a p)
    refine ⟨Nat.dvd_trans (Nat.dvd_lcm_left a p) h1, fun q hq => ?_⟩
    rcases List.mem_cons.mp hq with rfl | hq
    · exact Nat.dvd_trans (Nat.dvd_lcm_right a q) h1
    · exact h2 q hq
theorem lcmL_pos {ps : List Nat} (hp : ∀ p ∈ ps, 0 < p) : 0 < lcmL ps := foldl_lcm_pos ps 1 (by omega) hp
theorem lcmL_dvd {ps : List Nat} {p : Nat} (h : p ∈ ps) : p ∣ lcmL ps := (foldl_lcm_dvd ps 1).2 p h
theorem lcmL_snoc (ps : List Nat) (p : Nat) : lcmL (ps ++ [p]) = Nat.lcm (lcmL ps) p := by
  unfold lcmL
  rw [List.foldl_append]
  rfl
theorem lcmL_take_le {ps : List Nat} (hp : ∀ p ∈ ps, 0 < p) (i : Nat) : lcmL (ps.take i) ≤ lcmL ps := by
  have e : lcmL ps = (ps.drop i).foldl Nat.lcm (lcmL (ps.take i)) := by
    unfold lcmL
    rw [← List.foldl_append, List.take_append_drop]
  refine Nat.le_of_dvd (lcmL_pos hp) ?_
  rw [e]
  exact (foldl_lcm_dvd _ _).1
theorem common_multiple {ps : List Nat} (hp : ∀ p ∈ ps, 0 < p ∧ p ≤ 1000) (hl : lcmL ps ≤ 1000000) (m : List R) : F_common_multiple [.lst (ps.map iN)] m = some (.ok (.int (lcmL ps : Int)) m) := by
  have hpos : ∀ p ∈ ps, 0 < p := fun p h => (hp p h).1
  simp! [eq_self, F_common_multiple, b_common_multiple, N_common_multiple, runD_eq, runG_eq, runFor_eq]
  generalize hX : forF _ _ _ _ = X
  obtain ⟨ρ', m', rfl, ⟨a, b, rfl⟩, rfl⟩ := forF_gen hX (fun i ρ m' => (∃ a b, ρ = [some (.lst (ps.map iN)), some (.int (lcmL (ps.take i) : Int)), a, b]) ∧ m = m') ⟨⟨none, none, rfl⟩, rfl⟩ (by
    rintro i x ρ m' hx ⟨⟨a, b, rfl⟩, rfl⟩
    rw [List.getElem?_map] at hx
    cases hz : ps[i]? with
    | none => rw [hz] at hx; cases hx
    | some q =>
      rw [hz] at hx
      cases hx
      have hq := hp q (List.mem_of_getElem? hz)
      have tk : ps.take (i + 1) = ps.take i ++ [q] := by rw [List.take_add_one, hz]; rfl
      have le1 := lcmL_take_le hpos i
      have le2 := lcmL_take_le hpos (i + 1)
      rw [tk, lcmL_snoc] at le2
      generalize hf : lcmL (ps.take i) = f at *
      have f0 : 0 < f := by rw [← hf]; exact lcmL_pos fun p h => hpos p (List.mem_of_mem_take h)
      have l0 : 0 < Nat.lcm f q := Nat.lcm_pos f0 hq.1
      obtain ⟨c, hc⟩ := Nat.dvd_lcm_left f q
      have c0 : 0 < c := by
        apply Classical.byContradiction
        intro h
        rw [show c = 0 by omega, Nat.mul_zero] at hc
        omega
      have cq : c ≤ q := by
        have h1 : Nat.lcm f q ≤ f * q := Nat.le_of_dvd (Nat.mul_pos f0 hq.1) (Nat.lcm_dvd (Nat.dvd_mul_right f q) (Nat.dvd_mul_left q f))
        rw [hc] at h1
        exact Nat.le_of_mul_le_mul_left h1 f0
      refine ⟨_, _, .inl ?_, ⟨some (.int (q : Int)), some (.int (Nat.lcm f q : Int)), rfl⟩, rfl⟩
      simp! [eq_self, b_common_multiple_1]
      generalize hY : whlD _ _ _ _ _ = Y
      obtain ⟨ρ2, m2, rfl, rfl, rfl⟩ := whlD_gen hY (fun j ρ m' => ρ = [some (.lst (ps.map iN)), some (.int (f : Int)), some (.int (q : Int)), some (.int ((f * (j + 1) : Nat) : Int))] ∧ m = m') (c - 1) (by omega) ⟨by rw [Nat.mul_one], rfl⟩ (by
        rintro j ρ m' hj ⟨rfl, rfl⟩
        have nd : ¬ q ∣ f * (j + 1) := fun h => by
          have h2 := Nat.le_of_dvd (Nat.mul_pos f0 (by omega)) (Nat.lcm_dvd (Nat.dvd_mul_right f (j + 1)) h)
          rw [hc] at h2
          have := Nat.le_of_mul_le_mul_left h2 f0
          omega
        have e2 : f * (j + 1 + 1) = f * (j + 1) + f := by rw [Nat.mul_succ]
        rw [e2]
        generalize f * (j + 1) = M at *
        have ne : ¬ ((M : Int) / (q : Int) * (q : Int) = (M : Int)) := fun h => nd ⟨M / q, by
          have : ((M / q * q : Nat) : Int) = (M : Int) := by rw [← h]; simp
          have := Int.ofNat.inj this
          rw [Nat.mul_comm]; exact this.symm⟩
        refine ⟨by simp! [eq_self, ne], _, _, .inl ?_, rfl, rfl⟩
        simp! [eq_self, b_common_multiple_2, Int.natCast_add]) (by
        rintro ρ m' ⟨rfl, rfl⟩
        have e2 : f * (c - 1 + 1) = Nat.lcm f q := by rw [Nat.sub_add_cancel c0, hc]
        rw [e2]
        obtain ⟨z, hz2⟩ := Nat.dvd_lcm_right f q
        have eq : ((Nat.lcm f q : Nat) : Int) / (q : Int) * (q : Int) = ((Nat.lcm f q : Nat) : Int) := Int.ediv_mul_cancel (Int.natCast_dvd_natCast.mpr (Nat.dvd_lcm_right f q))
        simp! [eq_self, eq])
      have e3 : f * (c - 1 + 1) = Nat.lcm f q := by rw [Nat.sub_add_cancel c0, hc]
      rw [e3, tk, lcmL_snoc, hf]
      simp! [eq_self])
  rw [List.take_of_length_le (by simp)]
  simp! [eq_self]
  exact fin_self (okD_int _ _)

open PySem Dv Mt
set_option hygiene false
set_option hygiene true
/-! turns -/
noncomputable def perL (ps : List WS) : List Nat := ps.map (·.2.1)
theorem rep_w {k : Nat} {q : WS} (h : WOk k q.1 q.2.1 q.2.2) : ∃ c, clsD ([] : List R) q.1 = some c ∧ (∀ m, clsD m q.1 = some c) ∧ propT c "repeat_after" = some 7 ∧ ∀ m, F_Washer_repeat_after [q.1] m = some (.ok (.int (q.2.1 : Int)) m) := by
  obtain ⟨c, lab, r, hc, ed⟩ := h.ob
  have e := fun m => rep_after (c := c) (lab := lab) (p := q.2.1) (r := r) hc.nm m
  rw [← ed] at e
  refine ⟨c, by rw [ed]; rfl, fun m => by rw [ed]; rfl, ?_, e⟩
  rw [prop_repeat_after]
  rcases hc with rfl | rfl | rfl | rfl | rfl <;> rfl
theorem mk_turn {k : Nat} {ps : List WS} (ne : ps ≠ []) (hps : ∀ q ∈ ps, WOk k q.1 q.2.1 q.2.2) (hlen : ps.length ≤ 1000) (hper : ∀ q ∈ ps, q.2.1 ≤ 1000) (hL : lcmL (perL ps) ≤ 1000000) (m : List R) :
    mkD nmT true F_TurnWasher___init__ 6 [.tup (ps.map (·.1))] m = some (.ok (turD (ps.length * lcmL (perL ps)) (ps.map (·.1))) m) := by
  have c1 : (g_TurnWasher___init__.nm 6).contains "parts" = true := show (nmT 6).contains "parts" = true by decide +kernel
  have c2 : g_TurnWasher___init__.prop 6 "parts" = none := prop_parts 6
  have c3 : (("label" : Str) = "parts") = False := by simp; decide +kernel
  have c4 : (("rounds" : Str) = "parts") = False := by simp; decide +kernel
  have e0 : (ps.map (·.1)).isEmpty = false := by cases ps with
    | nil => exact absurd rfl ne
    | cons a l => rfl
  have e := winit (c := 6) (lab := .str "turn") (r := .int ((ps.length * lcmL (perL ps) : Nat) : Int)) m (by decide +kernel) (by decide +kernel)
  have ecm := fun m => common_multiple (ps := perL ps) (fun p hp => by
    obtain ⟨q, hq, rfl⟩ := List.mem_map.mp hp
    exact ⟨(hps q hq).pos, hper q hq⟩) hL m
  rw [Int.natCast_mul] at e
  have e2 : F_TurnWasher___init__ [.res m.length, .tup (ps.map (·.1))] (m ++ [.obj 6 []]) = some (.ok .non (m ++ [.obj 6 [("label", .str "turn"), ("rounds", .int ((ps.length : Int) * (lcmL (perL ps) : Int))), ("parts", .tup (ps.map (·.1)))]])) := by
    generalize hA : F_TurnWasher___init__ _ _ = A
    simp! [eq_self, F_TurnWasher___init__, b_TurnWasher___init__, N_TurnWasher___init__, runD_eq, runG_eq, runFor_eq, e0] at hA
    rw [compL_mapA (h := fun q => .int (q.2.1 : Int)) ps [] (fun q hq => by
      obtain ⟨c, _, h1, h2, h3⟩ := rep_w (hps q hq)
      simp! [eq_self, h1, h2, h3, noX_okk]) (by rw [sizeLine_eq]; simp only [List.length_nil]; omega)] at hA
    have e3 : ps.map (fun q => D.int (q.2.1 : Int)) = (perL ps).map iN := by unfold perL; rw [List.map_map]; rfl
    simp! [eq_self, e3, ecm, e, c3, c4, putD] at hA
    exact hA.symm
  unfold mkD
  rw [e2]
  have okp : ∀ n, okDL n (ps.map (·.1)) = true := fun n => by
    have : ∀ l : List WS, (∀ q ∈ l, okD n q.1 = true) → okDL n (l.map (·.1)) = true := fun l => by
      induction l with
      | nil => intro _; rfl
      | cons a l ih =>
        intro h
        simp only [List.map_cons, okDL, Bool.and_eq_true]
        exact ⟨h a List.mem_cons_self, ih fun q hq => h q (List.mem_cons_of_mem _ hq)⟩
    exact this ps fun q hq => (hps q hq).ok n
  have := fin_obj (c := 6) (fs := [("label", .str "turn"), ("rounds", .int ((ps.length : Int) * (lcmL (perL ps) : Int))), ("parts", .tup (ps.map (·.1)))]) m rfl (by simp only [List.map_cons, List.map_nil, okDL, okD, okp]; rfl)
  rw [← Int.natCast_mul] at this
  exact this

open PySem Dv Mt
set_option hygiene false
set_option hygiene true
theorem chk_self {n s : Nat} {h : Option (List Int)} (hv : ∀ l, h = some l → hbI n s l = true) : chk n s h = h := by
  cases h with
  | none => rfl
  | some l => exact if_pos (hv l rfl)
theorem turH_per {k : Nat} {ps : List WS} (hps : ∀ q ∈ ps, WOk k q.1 q.2.1 q.2.2) (n s w : Nat) : turH ps n s w = turH ps n s (w % (ps.length * lcmL (perL ps))) := by
  unfold turH
  rw [Nat.mod_mul_right_mod, Nat.mod_mul_right_div_self]
  cases hq : ps[w % ps.length]? with
  | none => rfl
  | some q =>
    have hm := List.mem_of_getElem? hq
    have ok := hps q hm
    show q.2.2 n s _ = q.2.2 n s _
    have dv : q.2.1 ∣ lcmL (perL ps) := lcmL_dvd (List.mem_map.mpr ⟨q, hm, rfl⟩)
    rw [ok.per n s (w / ps.length), ok.per n s (w / ps.length % lcmL (perL ps)), Nat.mod_mod_of_dvd _ dv]
theorem okDL_w {k : Nat} {ps : List WS} (hps : ∀ q ∈ ps, WOk k q.1 q.2.1 q.2.2) (n : Nat) : okDL n (ps.map (·.1)) = true := by
  induction ps with
  | nil => rfl
  | cons a l ih =>
    simp only [List.map_cons, okDL, Bool.and_eq_true]
    exact ⟨(hps a List.mem_cons_self).ok n, ih fun q hq => hps q (List.mem_cons_of_mem _ hq)⟩
theorem wok_turn {k : Nat} {ps : List WS} (ne : ps ≠ []) (hps : ∀ q ∈ ps, WOk k q.1 q.2.1 q.2.2) (hlen : ps.length ≤ 1000) (hL : ps.length * lcmL (perL ps) ≤ 1000000) :
    WOk (k + 2) (turD (ps.length * lcmL (perL ps)) (ps.map (·.1))) (ps.length * lcmL (perL ps)) (turH ps) := by
  have l0 : 0 < ps.length := List.length_pos_iff.mpr ne
  have p0 : 0 < ps.length * lcmL (perL ps) := Nat.mul_pos l0 (lcmL_pos fun p hp => by
    obtain ⟨q, hq, rfl⟩ := List.mem_map.mp hp
    exact (hps q hq).pos)
  have val : ∀ n s w l, turH ps n s w = some l → hbI n s l = true ∧ l.length ≤ 1000 := fun n s w l e => by
    unfold turH at e
    cases hq : ps[w % ps.length]? with
    | none => rw [hq] at e; cases e
    | some q =>
      rw [hq] at e
      exact (hps q (List.mem_of_getElem? hq)).val _ _ _ _ e
  have hc : IsW 6 := .inr (.inr (.inr (.inr rfl)))
  refine ⟨p0, hL, ⟨6, "turn", _, hc, rfl⟩, fun n => ?_, turH_per hps, val, fun k' hk n s w m => ?_⟩
  · simp only [turD, oW, okD, okDL, okDL_w hps]
    rfl
  obtain ⟨k2, rfl⟩ : ∃ k2, k' = k2 + 1 + 1 := ⟨k' - 2, by omega⟩
  have hps2 : ∀ q ∈ ps, WOk k2 q.1 q.2.1 q.2.2 := fun q hq => (hps q hq).mono (by omega)
  by_cases v : vld n s w
  · have v2 := v
    obtain ⟨⟨v1, v2⟩, ⟨v3, v4⟩, v5⟩ := v2
    obtain ⟨n', rfl⟩ : ∃ n' : Nat, n = (n' : Int) := ⟨n.toNat, by omega⟩
    obtain ⟨s', rfl⟩ : ∃ s' : Nat, s = (s' : Int) := ⟨s.toNat, by omega⟩
    obtain ⟨w', rfl⟩ : ∃ w' : Nat, w = (w' : Int) := ⟨w.toNat, by omega⟩
    have := hf_core (k := k2 + 1) (lab := "turn") (p := ps.length * lcmL (perL ps)) (r := [.tup (ps.map (·.1))]) (n := (n' : Int)) (s := (s' : Int)) (w := (w' : Int)) (h := turH ps n' s' w') hc p0 hL (fun l e => (val _ _ _ _ e).2) (fun m _ => by
      have e : hinF (k2 + 1) 6 = F_TurnWasher_habit_in (k2 + 1) := if_pos rfl
      have q : (w' : Int) % ((ps.length * lcmL (perL ps) : Nat) : Int) = ((w' % (ps.length * lcmL (perL ps)) : Nat) : Int) := by rw [Int.natCast_emod]
      rw [e, q, turH_per hps n' s' w']
      exact turn_in ne hps2 hlen ⟨⟨v1, v2⟩, ⟨v3, v4⟩, Int.natCast_nonneg _⟩ m) m
    unfold turD
    rw [this, if_pos v, if_pos v]
    simp only [Int.toNat_natCast]
    rw [chk_self fun l e => (val _ _ _ _ e).1]
  · have := hf_core (k := k2 + 1) (lab := "turn") (p := ps.length * lcmL (perL ps)) (r := [.tup (ps.map (·.1))]) (n := n) (s := s) (w := w) (h := none) hc p0 hL (fun l e => by cases e) (fun m q => absurd q v) m
    unfold turD
    rw [this, if_neg v, if_neg v]
/-! kitchens of washers -/
open PySem Dv Mt
set_option hygiene false
set_option hygiene true
noncomputable def topS : WS := (topD, 1, fun n s _ => fit n s (some (habF (fun _ => 0) n s)))
noncomputable def undS : WS := (undD, 1, fun n s _ => fit n s (some (habF (fun x => x) n s)))
noncomputable def depS (l : Int) : WS := (depD l, 1, fun n s _ => fit n s (some (habF (fun x => min l x) n s)))
noncomputable def ownS (ds : List Int) : WS := (ownD ds, 1, fun n s _ => fit n s (some ds))
noncomputable def turS (ps : List WS) : WS := (turD (ps.length * lcmL (perL ps)) (ps.map (·.1)), ps.length * lcmL (perL ps), turH ps)
noncomputable def SOk (k : Nat) (q : WS) : Prop := WOk k q.1 q.2.1 q.2.2
theorem sok_top : SOk 1 topS := wok_top
theorem sok_under : SOk 1 undS := wok_under
theorem sok_dep (l : Int) : SOk 1 (depS l) := wok_dep l
theorem sok_own {ds : List Int} (h : ds.length ≤ 1000) : SOk 1 (ownS ds) := wok_own ds h
theorem sok_turn {k : Nat} {ps : List WS} (ne : ps ≠ []) (hps : ∀ q ∈ ps, SOk k q) (hlen : ps.length ≤ 1000) (hL : ps.length * lcmL (perL ps) ≤ 1000000) : SOk (k + 2) (turS ps) := wok_turn ne hps hlen hL
theorem turS_mk {k : Nat} {ps : List WS} (ne : ps ≠ []) (hps : ∀ q ∈ ps, SOk k q) (hlen : ps.length ≤ 1000) (hper : ∀ q ∈ ps, q.2.1 ≤ 1000) (hL : lcmL (perL ps) ≤ 1000000) (m : List R) : mkD nmT true F_TurnWasher___init__ 6 [.tup (ps.map (·.1))] m = some (.ok (turS ps).1 m) := mk_turn ne hps hlen hper hL m
theorem sok_val {q : WS} {k : Nat} (h : SOk k q) (hk : k ≤ 6) {n s w : Nat} (v : vld n s w) (m : List R) : F_Washer_habit_for 6 [q.1, .int (n : Int), .int (s : Int), .int (w : Int)] m = some (habO (q.2.2 n s w) m) := by
  rw [h.run 6 hk, if_pos v]
  simp only [Int.toNat_natCast]

open PySem Dv Mt
set_option hygiene false
set_option hygiene true
/-! the law's washers as tuples: what they tell, and what a washer of them does -/
noncomputable def Leaf (d : D) (q : WS) : Prop :=
  (d = .tup [.str (Str.ofString "top"), .tup []] ∧ q = topS) ∨ (d = .tup [.str (Str.ofString "under"), .tup []] ∧ q = undS) ∨
  (∃ l : Nat, l ≤ 11 ∧ d = .tup [.str (Str.ofString "depth"), .tup [.int (l : Int)]] ∧ q = depS (l : Int)) ∨
  (∃ ds : List Int, ds.length ≤ 3 ∧ (∀ x ∈ ds, 0 ≤ x ∧ x ≤ 9) ∧ d = .tup [.str (Str.ofString "own"), hI ds] ∧ q = ownS ds)
noncomputable def Spk : Nat → D → WS → Prop
  | 0, d, q => Leaf d q
  | k + 1, d, q => Leaf d q ∨ ∃ ps : List (D × WS), ps ≠ [] ∧ ps.length ≤ 3 ∧ (∀ p ∈ ps, Spk k p.1 p.2) ∧ d = .tup [.str (Str.ofString "turn"), .tup (ps.map (·.1))] ∧ q = turS (ps.map (·.2))
theorem Spk.leaf {k : Nat} {d : D} {q : WS} (h : Leaf d q) : Spk k d q := by
  cases k with
  | zero => exact h
  | succ k => exact .inl h
theorem leaf_drawn {x y r r0 : R} (H : HdrB r) (g : List R) {deep : Int} {f : Nat} (q0 : Nat) (hq0 : q0 < 4) {lim : Int} (hlim : (0 < deep ∧ lim = 5) ∨ (¬ 0 < deep ∧ lim = 4))
    (e0 : F__law_below [.res 2, .int lim] (x :: y :: r0 :: g) = some (.ok (.int (q0 : Int)) (x :: y :: r :: g))) :
    ∃ (d : D) (q : WS) (r' : R), HdrB r' ∧ Leaf d q ∧ F__law_spec (f + 1) [.res 2, .int deep] (x :: y :: r0 :: g) = some (.ok d (x :: y :: r' :: g)) := by
  rw [F__law_spec_succ]
  rcases hlim with ⟨c, rfl⟩ | ⟨c, rfl⟩
  · rcases (show q0 = 0 ∨ q0 = 1 ∨ q0 = 2 ∨ q0 = 3 by omega) with rfl | rfl | rfl | rfl
    · refine ⟨_, topS, r, H, .inl ⟨rfl, rfl⟩, ?_⟩
      simp! [eq_self, runD_eq, b__law_spec, N__law_spec, c, e0]
    · refine ⟨_, undS, r, H, .inr (.inl ⟨rfl, rfl⟩), ?_⟩
      simp! [eq_self, runD_eq, b__law_spec, N__law_spec, c, e0]
    · obtain ⟨q1, r1, H1, hq1, e1⟩ := law_below (x := x) (y := y) H g (2 : Int) (by omega) (by omega)
      obtain ⟨L, hL, g1⟩ : ∃ L : Nat, 0 < L ∧ L ≤ 12 ∧ ([D.int 3, .int 12])[q1]? = some (.int (L : Int)) := by
        rcases (show q1 = 0 ∨ q1 = 1 by omega) with rfl | rfl
        · exact ⟨3, by omega, by omega, rfl⟩
        · exact ⟨12, by omega, by omega, rfl⟩
      obtain ⟨g1a, g1⟩ := g1
      obtain ⟨l, r2, H2, hl, e2⟩ := law_below (x := x) (y := y) H1 g (L : Int) (by omega) (by omega)
      refine ⟨_, depS (l : Int), r2, H2, .inr (.inr (.inl ⟨l, by omega, rfl, rfl⟩)), ?_⟩
      simp! [eq_self, runD_eq, b__law_spec, N__law_spec, c, e0, e1, g1, e2]
    · obtain ⟨n, r1, H1, hn, e1⟩ := law_below (x := x) (y := y) H g (4 : Int) (by omega) (by omega)
      generalize hA : runD _ _ _ _ _ _ = A
      simp! [eq_self, runD_eq, b__law_spec, N__law_spec, c, e0, e1] at hA
      generalize hX : compL _ _ _ _ = X at hA
      obtain ⟨acc, m', rfl, r2, ds, H2, hl, hds, rfl, rfl⟩ := compL_gen hX (by simp; omega) (fun i acc m' => ∃ r ds, HdrB r ∧ ds.length = i ∧ (∀ z ∈ ds, 0 ≤ z ∧ z ≤ 9) ∧ acc = ds.map D.int ∧ m' = x :: y :: r :: g) ⟨r1, [], H1, rfl, fun z h => (List.not_mem_nil h).elim, rfl, rfl⟩ (by
        rintro i z acc m' hz ⟨r, ds, H, hl, hds, rfl, rfl⟩
        have hi : i < n := by
          have := (List.getElem?_eq_some_iff.mp hz).1
          simpa using this
        rw [List.getElem?_map, List.getElem?_range hi] at hz
        cases hz
        obtain ⟨v, r', H', hv, e3⟩ := law_below (x := x) (y := y) H g ((i : Int) + 2) (by omega) (by omega)
        refine ⟨.int (v : Int), _, ?_, r', ds ++ [(v : Int)], H', by rw [List.length_append, hl]; rfl, fun z hz => ?_, by rw [List.map_append]; rfl, rfl⟩
        · simp! [eq_self, e3]
        · rcases List.mem_append.mp hz with h | h
          · exact hds z h
          · rw [List.mem_singleton.mp h]
            omega)
      refine ⟨_, ownS ds, r2, H2, .inr (.inr (.inr ⟨ds, by rw [hl]; simp; omega, hds, rfl, rfl⟩)), ?_⟩
      rw [← hA]
      simp! [eq_self]
      rfl
  · rcases (show q0 = 0 ∨ q0 = 1 ∨ q0 = 2 ∨ q0 = 3 by omega) with rfl | rfl | rfl | rfl
    · refine ⟨_, topS, r, H, .inl ⟨rfl, rfl⟩, ?_⟩
      simp! [eq_self, runD_eq, b__law_spec, N__law_spec, c, e0]
    · refine ⟨_, undS, r, H, .inr (.inl ⟨rfl, rfl⟩), ?_⟩
      simp! [eq_self, runD_eq, b__law_spec, N__law_spec, c, e0]
    · obtain ⟨q1, r1, H1, hq1, e1⟩ := law_below (x := x) (y := y) H g (2 : Int) (by omega) (by omega)
      obtain ⟨L, hL, g1⟩ : ∃ L : Nat, 0 < L ∧ L ≤ 12 ∧ ([D.int 3, .int 12])[q1]? = some (.int (L : Int)) := by
        rcases (show q1 = 0 ∨ q1 = 1 by omega) with rfl | rfl
        · exact ⟨3, by omega, by omega, rfl⟩
        · exact ⟨12, by omega, by omega, rfl⟩
      obtain ⟨g1a, g1⟩ := g1
      obtain ⟨l, r2, H2, hl, e2⟩ := law_below (x := x) (y := y) H1 g (L : Int) (by omega) (by omega)
      refine ⟨_, depS (l : Int), r2, H2, .inr (.inr (.inl ⟨l, by omega, rfl, rfl⟩)), ?_⟩
      simp! [eq_self, runD_eq, b__law_spec, N__law_spec, c, e0, e1, g1, e2]
    · obtain ⟨n, r1, H1, hn, e1⟩ := law_below (x := x) (y := y) H g (4 : Int) (by omega) (by omega)
      generalize hA : runD _ _ _ _ _ _ = A
      simp! [eq_self, runD_eq, b__law_spec, N__law_spec, c, e0, e1] at hA
      generalize hX : compL _ _ _ _ = X at hA
      obtain ⟨acc, m', rfl, r2, ds, H2, hl, hds, rfl, rfl⟩ := compL_gen hX (by simp; omega) (fun i acc m' => ∃ r ds, HdrB r ∧ ds.length = i ∧ (∀ z ∈ ds, 0 ≤ z ∧ z ≤ 9) ∧ acc = ds.map D.int ∧ m' = x :: y :: r :: g) ⟨r1, [], H1, rfl, fun z h => (List.not_mem_nil h).elim, rfl, rfl⟩ (by
        rintro i z acc m' hz ⟨r, ds, H, hl, hds, rfl, rfl⟩
        have hi : i < n := by
          have := (List.getElem?_eq_some_iff.mp hz).1
          simpa using this
        rw [List.getElem?_map, List.getElem?_range hi] at hz
        cases hz
        obtain ⟨v, r', H', hv, e3⟩ := law_below (x := x) (y := y) H g ((i : Int) + 2) (by omega) (by omega)
        refine ⟨.int (v : Int), _, ?_, r', ds ++ [(v : Int)], H', by rw [List.length_append, hl]; rfl, fun z hz => ?_, by rw [List.map_append]; rfl, rfl⟩
        · simp! [eq_self, e3]
        · rcases List.mem_append.mp hz with h | h
          · exact hds z h
          · rw [List.mem_singleton.mp h]
            omega)
      refine ⟨_, ownS ds, r2, H2, .inr (.inr (.inr ⟨ds, by rw [hl]; simp; omega, hds, rfl, rfl⟩)), ?_⟩
      rw [← hA]
      simp! [eq_self]
      rfl

theorem law_spec : ∀ (k f : Nat) {x y r : R}, k ≤ f → HdrB r → ∀ g : List R, ∃ (d : D) (q : WS) (r' : R), HdrB r' ∧ Spk k d q ∧ F__law_spec (f + 1) [.res 2, .int (k : Int)] (x :: y :: r :: g) = some (.ok d (x :: y :: r' :: g))
  | 0, f, x, y, r, _, H, g => by
    obtain ⟨q0, r0, H0, hq0, e0⟩ := law_below (x := x) (y := y) H g (4 : Int) (by omega) (by omega)
    exact leaf_drawn H0 g (deep := ((0 : Nat) : Int)) q0 (by omega) (lim := 4) (.inr ⟨by omega, rfl⟩) e0
  | k + 1, f, x, y, r, hf, H, g => by
    obtain ⟨q0, r0, H0, hq0, e0⟩ := law_below (x := x) (y := y) H g (5 : Int) (by omega) (by omega)
    by_cases c4 : q0 < 4
    · obtain ⟨d, q, r', H', h, e⟩ := leaf_drawn (f := f) H0 g (deep := ((k + 1 : Nat) : Int)) q0 c4 (lim := 5) (.inl ⟨by omega, rfl⟩) e0
      exact ⟨d, q, r', H', Spk.leaf h, e⟩
    · obtain rfl : q0 = 4 := by omega
      obtain ⟨f, rfl⟩ : ∃ j, f = j + 1 := ⟨f - 1, by omega⟩
      obtain ⟨n, r1, H1, hn, e1⟩ := law_below (x := x) (y := y) H0 g (3 : Int) (by omega) (by omega)
      rw [F__law_spec_succ]
      have c : (0 : Int) < ((k + 1 : Nat) : Int) := by omega
      have ek : ((k + 1 : Nat) : Int) - 1 = (k : Int) := by omega
      have er : (1 : Int) + (n : Int) = ((n + 1 : Nat) : Int) := by omega
      generalize hA : runD _ _ _ _ _ _ = A
      simp! [eq_self, runD_eq, b__law_spec, N__law_spec, c, e0, e1, ek, er] at hA
      generalize hX : compL _ _ _ _ = X at hA
      obtain ⟨acc, m', rfl, r2, ps, H2, hl, hps, rfl, rfl⟩ := compL_gen hX (by simp; omega) (fun i acc m' => ∃ (r : R) (ps : List (D × WS)), HdrB r ∧ ps.length = i ∧ (∀ p ∈ ps, Spk k p.1 p.2) ∧ acc = ps.map (·.1) ∧ m' = x :: y :: r :: g) ⟨r1, [], H1, rfl, fun z h => (List.not_mem_nil h).elim, rfl, rfl⟩ (by
        rintro i z acc m' hz ⟨r, ps, H, hl, hps, rfl, rfl⟩
        obtain ⟨d, q, r', H', h, e3⟩ := law_spec k f (x := x) (y := y) (by omega) H g
        refine ⟨d, _, ?_, r', ps ++ [(d, q)], H', by rw [List.length_append, hl]; rfl, fun p hp => ?_, by rw [List.map_append]; rfl, rfl⟩
        · simp! [eq_self, ek, e3]
        · rcases List.mem_append.mp hp with h1 | h1
          · exact hps p h1
          · rw [List.mem_singleton.mp h1]
            exact h)
      have hlen : ps.length = 1 + n := by rw [hl]; simp; omega
      refine ⟨_, turS (ps.map (·.2)), r2, H2, .inr ⟨ps, fun e => by rw [e] at hlen; simp only [List.length_nil] at hlen; omega, by omega, hps, rfl, rfl⟩, ?_⟩
      rw [← hA]
      simp! [eq_self]

open PySem Dv Mt
set_option hygiene false
set_option hygiene true
theorem foldl_lcm_le {B : Nat} : ∀ (ps : List Nat) (a : Nat), 0 < a → (∀ p ∈ ps, 0 < p ∧ p ≤ B) → ps.foldl Nat.lcm a ≤ a * B ^ ps.length
  | [], a, _, _ => by simp
  | p :: ps, a, ha, h => by
    have h0 := h p List.mem_cons_self
    have hl : Nat.lcm a p ≤ a * p := Nat.le_of_dvd (Nat.mul_pos ha h0.1) (Nat.lcm_dvd_mul a p)
    have ih := foldl_lcm_le ps (Nat.lcm a p) (Nat.lcm_pos ha h0.1) (fun q hq => h q (List.mem_cons_of_mem _ hq))
    refine Nat.le_trans ih ?_
    rw [List.length_cons, Nat.pow_succ, Nat.mul_comm (B ^ ps.length) B, ← Nat.mul_assoc]
    exact Nat.mul_le_mul_right _ (Nat.le_trans hl (Nat.mul_le_mul_left _ h0.2))
theorem lcm3_le {B : Nat} {ps : List Nat} (hB : 0 < B) (h3 : ps.length ≤ 3) (h : ∀ p ∈ ps, 0 < p ∧ p ≤ B) : lcmL ps ≤ B ^ 3 := by
  have := foldl_lcm_le ps 1 (by omega) h
  rw [Nat.one_mul] at this
  exact Nat.le_trans this (Nat.pow_le_pow_right hB h3)
noncomputable def spB : Nat → Nat
  | 0 => 1
  | k + 1 => 3 * spB k ^ 3
theorem spB_pos : ∀ k, 0 < spB k
  | 0 => by decide
  | k + 1 => Nat.mul_pos (by omega) (Nat.pow_pos (spB_pos k))
theorem spB_le {k : Nat} (h : k ≤ 1) : spB k ≤ 3 := by
  rcases (show k = 0 ∨ k = 1 by omega) with rfl | rfl <;> decide
theorem leaf_ok {d : D} {q : WS} (h : Leaf d q) : SOk 1 q ∧ q.2.1 = 1 := by
  rcases h with ⟨_, rfl⟩ | ⟨_, rfl⟩ | ⟨l, _, _, rfl⟩ | ⟨ds, h3, _, _, rfl⟩
  · exact ⟨sok_top, rfl⟩
  · exact ⟨sok_under, rfl⟩
  · exact ⟨sok_dep _, rfl⟩
  · exact ⟨sok_own (by omega), rfl⟩
theorem perL_of (ps : List (D × WS)) : perL (ps.map (·.2)) = ps.map (·.2.2.1) := by unfold perL; rw [List.map_map]; rfl
theorem spk_ok : ∀ (k : Nat) {d : D} {q : WS}, k ≤ 2 → Spk k d q → SOk (2 * k + 1) q ∧ 0 < q.2.1 ∧ q.2.1 ≤ spB k
  | 0, d, q, _, h => by
    obtain ⟨a, b⟩ := leaf_ok h
    exact ⟨a, by omega, by rw [b]; decide⟩
  | k + 1, d, q, hk, h => by
    rcases h with h | ⟨ps, ne, h3, hps, rfl, rfl⟩
    · obtain ⟨a, b⟩ := leaf_ok h
      exact ⟨a.mono (by omega), by omega, by rw [b]; exact spB_pos _⟩
    · have ih : ∀ q ∈ ps.map (·.2), SOk (2 * k + 1) q ∧ 0 < q.2.1 ∧ q.2.1 ≤ spB k := by
        intro q hq
        obtain ⟨p, hp, rfl⟩ := List.mem_map.mp hq
        exact spk_ok k (by omega) (hps p hp)
      have hb := spB_le (k := k) (by omega)
      have hl : lcmL (perL (ps.map (·.2))) ≤ spB k ^ 3 := lcm3_le (spB_pos k) (by unfold perL; simpa using h3) (by
        intro p hp
        obtain ⟨q, hq, rfl⟩ := List.mem_map.mp hp
        exact (ih q hq).2)
      have h27 : spB k ^ 3 ≤ 27 := Nat.le_trans (Nat.pow_le_pow_left hb 3) (by decide)
      have hlen : (ps.map (·.2)).length ≤ 3 := by simpa using h3
      have hmul : (ps.map (·.2)).length * lcmL (perL (ps.map (·.2))) ≤ 3 * spB k ^ 3 := Nat.mul_le_mul hlen hl
      have hne : ps.map (·.2) ≠ [] := fun e => ne (List.map_eq_nil_iff.mp e)
      have sk : SOk (2 * k + 1 + 2) (turS (ps.map (·.2))) := sok_turn hne (fun q hq => (ih q hq).1) (by omega) (by omega)
      refine ⟨sk.mono (by omega), sk.pos, hmul⟩
theorem spk_parts {k : Nat} (hk : k ≤ 1) {ps : List (D × WS)} (h3 : ps.length ≤ 3) (hps : ∀ p ∈ ps, Spk k p.1 p.2) : (∀ q ∈ ps.map (·.2), SOk (2 * k + 1) q) ∧ (∀ q ∈ ps.map (·.2), q.2.1 ≤ 1000) ∧ lcmL (perL (ps.map (·.2))) ≤ 27 ∧ (∀ q ∈ ps.map (·.2), 0 < q.2.1 ∧ q.2.1 ≤ 3) := by
  have ih : ∀ q ∈ ps.map (·.2), SOk (2 * k + 1) q ∧ 0 < q.2.1 ∧ q.2.1 ≤ spB k := by
    intro q hq
    obtain ⟨p, hp, rfl⟩ := List.mem_map.mp hq
    exact spk_ok k (by omega) (hps p hp)
  have hb := spB_le hk
  have hl : lcmL (perL (ps.map (·.2))) ≤ spB k ^ 3 := lcm3_le (spB_pos k) (by unfold perL; simpa using h3) (by
    intro p hp
    obtain ⟨q, hq, rfl⟩ := List.mem_map.mp hp
    exact (ih q hq).2)
  have h27 : spB k ^ 3 ≤ 27 := Nat.le_trans (Nat.pow_le_pow_left hb 3) (by decide)
  exact ⟨fun q hq => (ih q hq).1, fun q hq => by have := (ih q hq).2.2; omega, by omega, fun q hq => ⟨(ih q hq).2.1, by have := (ih q hq).2.2; omega⟩⟩
theorem law_own {ds : List Int} (h3 : ds.length ≤ 3) (m : List R) : F__law_own [hI ds] m = some (.ok (ownD ds) m) := by
  have k4 := fun (ds : List Int) m => mk_own ds m
  match ds, h3 with
  | [], _ =>
    have k5 : ∀ m, mkD nmT true F_OwnWasher___init__ 5 [.tup []] m = some (.ok (ownD []) m) := fun m => mk_own [] m
    have e : hI [] = .tup [] := rfl
    simp! [eq_self, F__law_own, b__law_own, N__law_own, runD_eq, runG_eq, runFor_eq, e, k5]
    exact fin_self rfl
  | [a], _ =>
    have k5 : ∀ m, mkD nmT true F_OwnWasher___init__ 5 [.tup [.int a]] m = some (.ok (ownD [a]) m) := fun m => mk_own [a] m
    have e : hI [a] = .tup [.int a] := rfl
    simp! [eq_self, F__law_own, b__law_own, N__law_own, runD_eq, runG_eq, runFor_eq, e, k5]
    exact fin_self rfl
  | [a, b], _ =>
    have k5 : ∀ m, mkD nmT true F_OwnWasher___init__ 5 [.tup [.int a, .int b]] m = some (.ok (ownD [a, b]) m) := fun m => mk_own [a, b] m
    have e : hI [a, b] = .tup [.int a, .int b] := rfl
    simp! [eq_self, F__law_own, b__law_own, N__law_own, runD_eq, runG_eq, runFor_eq, e, k5]
    exact fin_self rfl
  | [a, b, c], _ =>
    have k5 : ∀ m, mkD nmT true F_OwnWasher___init__ 5 [.tup [.int a, .int b, .int c]] m = some (.ok (ownD [a, b, c]) m) := fun m => mk_own [a, b, c] m
    have e : hI [a, b, c] = .tup [.int a, .int b, .int c] := rfl
    simp! [eq_self, F__law_own, b__law_own, N__law_own, runD_eq, runG_eq, runFor_eq, e, k5]
    exact fin_self rfl
  | _ :: _ :: _ :: _ :: l, h => exact absurd h (by simp)

open PySem Dv Mt
set_option hygiene false
set_option hygiene true
theorem lb_top_top (m : List R) : eqD m (.str (Str.ofString "top")) (.str (Str.ofString "top")) = some true := by
  rw [q_eqS (by decide +kernel) (by decide +kernel)]
  exact congrArg some (by decide +kernel)
theorem lb_top_under (m : List R) : eqD m (.str (Str.ofString "top")) (.str (Str.ofString "under")) = some false := by
  rw [q_eqS (by decide +kernel) (by decide +kernel)]
  exact congrArg some (by decide +kernel)
theorem lb_top_depth (m : List R) : eqD m (.str (Str.ofString "top")) (.str (Str.ofString "depth")) = some false := by
  rw [q_eqS (by decide +kernel) (by decide +kernel)]
  exact congrArg some (by decide +kernel)
theorem lb_top_own (m : List R) : eqD m (.str (Str.ofString "top")) (.str (Str.ofString "own")) = some false := by
  rw [q_eqS (by decide +kernel) (by decide +kernel)]
  exact congrArg some (by decide +kernel)
theorem lb_top_turn (m : List R) : eqD m (.str (Str.ofString "top")) (.str (Str.ofString "turn")) = some false := by
  rw [q_eqS (by decide +kernel) (by decide +kernel)]
  exact congrArg some (by decide +kernel)
theorem lb_under_top (m : List R) : eqD m (.str (Str.ofString "under")) (.str (Str.ofString "top")) = some false := by
  rw [q_eqS (by decide +kernel) (by decide +kernel)]
  exact congrArg some (by decide +kernel)
theorem lb_under_under (m : List R) : eqD m (.str (Str.ofString "under")) (.str (Str.ofString "under")) = some true := by
  rw [q_eqS (by decide +kernel) (by decide +kernel)]
  exact congrArg some (by decide +kernel)
theorem lb_under_depth (m : List R) : eqD m (.str (Str.ofString "under")) (.str (Str.ofString "depth")) = some false := by
  rw [q_eqS (by decide +kernel) (by decide +kernel)]
  exact congrArg some (by decide +kernel)
theorem lb_under_own (m : List R) : eqD m (.str (Str.ofString "under")) (.str (Str.ofString "own")) = some false := by
  rw [q_eqS (by decide +kernel) (by decide +kernel)]
  exact congrArg some (by decide +kernel)
theorem lb_under_turn (m : List R) : eqD m (.str (Str.ofString "under")) (.str (Str.ofString "turn")) = some false := by
  rw [q_eqS (by decide +kernel) (by decide +kernel)]
  exact congrArg some (by decide +kernel)
theorem lb_depth_top (m : List R) : eqD m (.str (Str.ofString "depth")) (.str (Str.ofString "top")) = some false := by
  rw [q_eqS (by decide +kernel) (by decide +kernel)]
  exact congrArg some (by decide +kernel)
theorem lb_depth_under (m : List R) : eqD m (.str (Str.ofString "depth")) (.str (Str.ofString "under")) = some false := by
  rw [q_eqS (by decide +kernel) (by decide +kernel)]
  exact congrArg some (by decide +kernel)
theorem lb_depth_depth (m : List R) : eqD m (.str (Str.ofString "depth")) (.str (Str.ofString "depth")) = some true := by
  rw [q_eqS (by decide +kernel) (by decide +kernel)]
  exact congrArg some (by decide +kernel)
theorem lb_depth_own (m : List R) : eqD m (.str (Str.ofString "depth")) (.str (Str.ofString "own")) = some false := by
  rw [q_eqS (by decide +kernel) (by decide +kernel)]
  exact congrArg some (by decide +kernel)
theorem lb_depth_turn (m : List R) : eqD m (.str (Str.ofString "depth")) (.str (Str.ofString "turn")) = some false := by
  rw [q_eqS (by decide +kernel) (by decide +kernel)]
  exact congrArg some (by decide +kernel)
theorem lb_own_top (m : List R) : eqD m (.str (Str.ofString "own")) (.str (Str.ofString "top")) = some false := by
  rw [q_eqS (by decide +kernel) (by decide +kernel)]
  exact congrArg some (by decide +kernel)
theorem lb_own_under (m : List R) : eqD m (.str (Str.ofString "own")) (.str (Str.ofString "under")) = some false := by
  rw [q_eqS (by decide +kernel) (by decide +kernel)]
  exact congrArg some (by decide +kernel)
theorem lb_own_depth (m : List R) : eqD m (.str (Str.ofString "own")) (.str (Str.ofString "depth")) = some false := by
  rw [q_eqS (by decide +kernel) (by decide +kernel)]
  exact congrArg some (by decide +kernel)
theorem lb_own_own (m : List R) : eqD m (.str (Str.ofString "own")) (.str (Str.ofString "own")) = some true := by
  rw [q_eqS (by decide +kernel) (by decide +kernel)]
  exact congrArg some (by decide +kernel)
theorem lb_own_turn (m : List R) : eqD m (.str (Str.ofString "own")) (.str (Str.ofString "turn")) = some false := by
  rw [q_eqS (by decide +kernel) (by decide +kernel)]
  exact congrArg some (by decide +kernel)
theorem lb_turn_top (m : List R) : eqD m (.str (Str.ofString "turn")) (.str (Str.ofString "top")) = some false := by
  rw [q_eqS (by decide +kernel) (by decide +kernel)]
  exact congrArg some (by decide +kernel)
theorem lb_turn_under (m : List R) : eqD m (.str (Str.ofString "turn")) (.str (Str.ofString "under")) = some false := by
  rw [q_eqS (by decide +kernel) (by decide +kernel)]
  exact congrArg some (by decide +kernel)
theorem lb_turn_depth (m : List R) : eqD m (.str (Str.ofString "turn")) (.str (Str.ofString "depth")) = some false := by
  rw [q_eqS (by decide +kernel) (by decide +kernel)]
  exact congrArg some (by decide +kernel)
theorem lb_turn_own (m : List R) : eqD m (.str (Str.ofString "turn")) (.str (Str.ofString "own")) = some false := by
  rw [q_eqS (by decide +kernel) (by decide +kernel)]
  exact congrArg some (by decide +kernel)
theorem lb_turn_turn (m : List R) : eqD m (.str (Str.ofString "turn")) (.str (Str.ofString "turn")) = some true := by
  rw [q_eqS (by decide +kernel) (by decide +kernel)]
  exact congrArg some (by decide +kernel)
theorem leaf_washer {d : D} {q : WS} (h : Leaf d q) (f : Nat) (m : List R) : F__law_washer (f + 1) [d] m = some (.ok q.1 m) := by
  have k1 := mk_top
  have k2 := mk_under
  rw [F__law_washer_succ]
  rcases h with ⟨rfl, rfl⟩ | ⟨rfl, rfl⟩ | ⟨l, hl, rfl, rfl⟩ | ⟨ds, h3, hb, rfl, rfl⟩
  · simp! [eq_self, runD_eq, b__law_washer, N__law_washer, lb_top_top, lb_top_under, lb_top_depth, lb_top_own, lb_top_turn, k1]
    exact fin_self rfl
  · simp! [eq_self, runD_eq, b__law_washer, N__law_washer, lb_under_top, lb_under_under, lb_under_depth, lb_under_own, lb_under_turn, k2]
    exact fin_self rfl
  · have k3 : ∀ m, mkD nmT true F_DepthWasher___init__ 4 [.int (l : Int)] m = some (.ok (depD (l : Int)) m) := fun m => by rw [mk_dep, if_pos (by omega)]
    simp! [eq_self, runD_eq, b__law_washer, N__law_washer, lb_depth_top, lb_depth_under, lb_depth_depth, lb_depth_own, lb_depth_turn, k3]
    exact fin_self rfl
  · have e1 := fun m => law_own h3 m
    simp! [eq_self, runD_eq, b__law_washer, N__law_washer, lb_own_top, lb_own_under, lb_own_depth, lb_own_own, lb_own_turn, e1]
    exact fin_self ((sok_own (ds := ds) (by omega)).ok _)
theorem law_washer : ∀ (k f : Nat) {d : D} {q : WS}, k ≤ 2 → k ≤ f → Spk k d q → ∀ m, F__law_washer (f + 1) [d] m = some (.ok q.1 m)
  | 0, f, d, q, _, _, h, m => leaf_washer h f m
  | k + 1, f, d, q, hk, hf, h, m => by
    rcases h with h | ⟨ps, ne, h3, hps, rfl, rfl⟩
    · exact leaf_washer h f m
    · obtain ⟨f, rfl⟩ : ∃ j, f = j + 1 := ⟨f - 1, by omega⟩
      obtain ⟨s1, s2, s3, s4⟩ := spk_parts (k := k) (by omega) h3 hps
      have kt := fun m => turS_mk (k := 2 * k + 1) (ps := ps.map (·.2)) (fun e => ne (List.map_eq_nil_iff.mp e)) s1 (by rw [List.length_map]; omega) s2 (by omega) m
      rw [F__law_washer_succ]
      simp! [eq_self, runD_eq, b__law_washer, N__law_washer, lb_turn_top, lb_turn_under, lb_turn_depth, lb_turn_own, lb_turn_turn]
      rw [compL_mapA (h := fun p => p.2.1) ps [] (fun p hp => ?_) (by rw [sizeLine_eq]; simp only [List.length_nil]; omega)]
      · have fo := (sok_turn (k := 2 * k + 1) (ps := ps.map (·.2)) (fun e => ne (List.map_eq_nil_iff.mp e)) s1 (by rw [List.length_map]; omega) (by rw [List.length_map]; have := Nat.mul_le_mul h3 s3; omega)).ok
        revert kt fo
        clear s1 s2 s3 s4
        match ps, h3, ne with
        | [a], _, _ =>
          intro kt fo
          simp only [List.map_cons, List.map_nil] at kt fo
          simp! [eq_self, kt]
          exact fin_self (fo _)
        | [a, b], _, _ =>
          intro kt fo
          simp only [List.map_cons, List.map_nil] at kt fo
          simp! [eq_self, kt]
          exact fin_self (fo _)
        | [a, b, c], _, _ =>
          intro kt fo
          simp only [List.map_cons, List.map_nil] at kt fo
          simp! [eq_self, kt]
          exact fin_self (fo _)
        | _ :: _ :: _ :: _ :: l, h, _ => exact absurd h (by simp)
      · have e2 := fun m => law_washer k f (by omega) (by omega) (hps p hp) m
        simp! [eq_self, e2]

open PySem Dv Mt
set_option hygiene false
set_option hygiene true
theorem pl_leaf {d : D} {q : WS} (h : Leaf d q) : pl 2 d = true := by
  rcases h with ⟨rfl, _⟩ | ⟨rfl, _⟩ | ⟨l, _, rfl, _⟩ | ⟨ds, _, _, rfl, _⟩
  · decide +kernel
  · decide +kernel
  · have a : pl 1 (.str (Str.ofString "depth")) = true := pl_str (by decide +kernel)
    have b : pl 1 (.tup [.int (l : Int)]) = true := by simp [pl, plL]
    exact pl_tup (by simp only [plL, a, b, Bool.and_self])
  · have a : pl 1 (.str (Str.ofString "own")) = true := pl_str (by decide +kernel)
    have b : pl 1 (hI ds) = true := pl_tup (plL_ints 0 ds)
    exact pl_tup (by simp only [plL, a, b, Bool.and_self])
theorem pl_spk : ∀ (k : Nat) {d : D} {q : WS}, Spk k d q → pl (2 * k + 2) d = true
  | 0, d, q, h => pl_leaf h
  | k + 1, d, q, h => by
    rcases h with h | ⟨ps, ne, h3, hps, rfl, rfl⟩
    · exact pl_mono (by omega) (pl_leaf h)
    · have a : pl (2 * k + 3) (.str (Str.ofString "turn")) = true := pl_str (by decide +kernel)
      have b : pl (2 * k + 3) (.tup (ps.map (·.1))) = true := pl_tup (plL_map fun p hp => pl_spk k (hps p hp))
      exact pl_tup (n := 2 * k + 3) (by simp only [plL, a, b, Bool.and_self])
theorem eqL_nil (m : List R) {xs : List D} (h : plL 59 xs = true) : eqD m (.lst xs) (.lst []) = some (decide (xs = [])) := by
  by_cases c : xs = []
  · subst c
    rw [decide_eq_true rfl]
    exact eqD_t (pl_lst h)
  · rw [decide_eq_false c]
    exact eqD_f (pl_lst h) rfl (fun e => c (by injection e))
theorem lcmL_iff {ps : List Nat} {n : Nat} : lcmL ps ∣ n ↔ ∀ p ∈ ps, p ∣ n := by
  constructor
  · exact fun h p hp => Nat.dvd_trans (lcmL_dvd hp) h
  · intro h
    have key : ∀ (ps : List Nat) (a : Nat), a ∣ n → (∀ p ∈ ps, p ∣ n) → ps.foldl Nat.lcm a ∣ n := by
      intro ps
      induction ps with
      | nil => exact fun a ha _ => ha
      | cons p ps ih => exact fun a ha hp => ih _ (Nat.lcm_dvd ha (hp p List.mem_cons_self)) fun q hq => hp q (List.mem_cons_of_mem _ hq)
    exact key ps 1 (Nat.one_dvd n) h
theorem leaf_period {d : D} {q : WS} (h : Leaf d q) (f : Nat) (m : List R) : F__law_period (f + 1) [d] m = some (.ok (.int (q.2.1 : Int)) m) := by
  rw [F__law_period_succ, (leaf_ok h).2]
  rcases h with ⟨rfl, _⟩ | ⟨rfl, _⟩ | ⟨l, _, rfl, _⟩ | ⟨ds, _, _, rfl, _⟩
  · simp! [eq_self, runD_eq, b__law_period, N__law_period, lb_top_turn]
    exact fin_self rfl
  · simp! [eq_self, runD_eq, b__law_period, N__law_period, lb_under_turn]
    exact fin_self rfl
  · simp! [eq_self, runD_eq, b__law_period, N__law_period, lb_depth_turn]
    exact fin_self rfl
  · simp! [eq_self, runD_eq, b__law_period, N__law_period, lb_own_turn]
    exact fin_self rfl
theorem law_period : ∀ (k f : Nat) {d : D} {q : WS}, k ≤ 2 → k ≤ f → Spk k d q → ∀ m, F__law_period (f + 1) [d] m = some (.ok (.int (q.2.1 : Int)) m)
  | 0, f, d, q, _, _, h, m => leaf_period h f m
  | k + 1, f, d, q, hk, hf, h, m => by
    rcases h with h | ⟨ps, ne, h3, hps, rfl, rfl⟩
    · exact leaf_period h f m
    · obtain ⟨f, rfl⟩ : ∃ j, f = j + 1 := ⟨f - 1, by omega⟩
      obtain ⟨s1, s2, s3, s4⟩ := spk_parts (k := k) (by omega) h3 hps
      have hpl : ∀ p ∈ ps, pl 59 p.1 = true := fun p hp => pl_mono (by omega) (pl_spk k (hps p hp))
      have hper : ∀ p ∈ ps, ∀ m, F__law_period (f + 1) [p.1] m = some (.ok (.int (p.2.2.1 : Int)) m) := fun p hp m => law_period k f (by omega) (by omega) (hps p hp) m
      have hl0 : 0 < lcmL (perL (ps.map (·.2))) := lcmL_pos (by
        intro p hp
        obtain ⟨q, hq, rfl⟩ := List.mem_map.mp hp
        exact (s4 q hq).1)
      have hlp : 0 < ps.length := List.length_pos_iff.mpr ne
      have e1 : ((turS (ps.map (·.2))).2.1 : Int) = ((ps.length * lcmL (perL (ps.map (·.2))) : Nat) : Int) := by
        show ((((ps.map (·.2)).length * lcmL (perL (ps.map (·.2))) : Nat)) : Int) = _
        rw [List.length_map]
      rw [e1, F__law_period_succ]
      generalize hL : lcmL (perL (ps.map (·.2))) = L at *
      have hdv : ∀ n, (∀ p ∈ ps, p.2.2.1 ∣ n) ↔ L ∣ n := fun n => by
        rw [← hL, lcmL_iff, perL_of]
        constructor
        · intro h p hp
          obtain ⟨q, hq, rfl⟩ := List.mem_map.mp hp
          exact h q hq
        · exact fun h p hp => h _ (List.mem_map.mpr ⟨p, hp, rfl⟩)
      have l0 : ¬ ((ps.length : Int) = 0) := by omega
      have test : ∀ (j : Nat) (a : Option D) (m : List R), evE (g__law_period (f + 1)) (.cmp .ne (.cmpr false (.var 2) (.nm 2) (.seq (.ix (.var 0) (.cst (.int 1)))) (.cmp .gt (.bop .mod false (.bop .fdiv false (.var 1) (.bi .len false (.cons (.ix (.var 0) (.cst (.int 1))) .nil))) (.cal 28 (.cons (.var 2) .nil))) (.cst (.int 0))) [2]) (.lst false .nil)) [some (.tup [.str (Str.ofString "turn"), .tup (ps.map (·.1))]), some (.int ((ps.length * j : Nat) : Int)), a] m = some (.ok (.bl (!decide (L ∣ j))) m) := by
        intro j a m
        have ej : ((ps.length * j : Nat) : Int) / (ps.length : Int) = (j : Int) := by
          rw [Int.natCast_mul, Int.mul_ediv_cancel_left _ l0]
        simp! [eq_self, ej]
        rw [compL_fil (h := fun p => p.1) (b := fun p => !decide (p.2.2.1 ∣ j)) ps [] (fun p hp => ?_) (by rw [sizeLine_eq]; simp only [List.length_nil]; omega)]
        · have e4 := fun m => eqL_nil m (xs := (ps.filter fun p => !decide (p.2.2.1 ∣ j)).map fun p => p.1) (plL_map fun p hp => hpl p (List.mem_filter.mp hp).1)
          simp! [eq_self, e4]
          have e6 : (((ps.filter fun p => !decide (p.2.2.1 ∣ j)).map fun p => p.1) = []) ↔ L ∣ j := by
            rw [List.map_eq_nil_iff, List.filter_eq_nil_iff, ← hdv j]
            constructor
            · intro h p hp
              have := h p hp
              simpa using this
            · intro h p hp
              have := h p hp
              simpa using this
          by_cases c : L ∣ j
          · rw [decide_eq_true c, decide_eq_true (e6.mpr c)]
          · rw [decide_eq_false c, decide_eq_false (fun h => c (e6.mp h))]
        · have e3 := hper p hp
          have p0 := (s4 p.2 (List.mem_map.mpr ⟨p, hp, rfl⟩)).1
          have p1 : ¬ ((p.2.2.1 : Int) = 0) := by omega
          have em : (j : Int) % (p.2.2.1 : Int) = ((j % p.2.2.1 : Nat) : Int) := (Int.natCast_emod j p.2.2.1).symm
          simp! [eq_self, ej, e3, p1, em]
          by_cases c : p.2.2.1 ∣ j
          · have e7 : ¬ (0 : Int) < ((j % p.2.2.1 : Nat) : Int) := by rw [Nat.mod_eq_zero_of_dvd c]; omega
            simp! [eq_self, e7, c]
          · have e7 : (0 : Int) < ((j % p.2.2.1 : Nat) : Int) := by
              have : j % p.2.2.1 ≠ 0 := fun h => c (Nat.dvd_of_mod_eq_zero h)
              omega
            simp! [eq_self, e7, c]
      simp! [eq_self, runD_eq, b__law_period, N__law_period, lb_turn_turn]
      generalize hX : whlD _ _ _ _ _ = X
      obtain ⟨ρ', m', rfl, ⟨a, rfl⟩, rfl⟩ := whlD_gen hX (fun i ρ m' => (∃ a, ρ = [some (.tup [.str (Str.ofString "turn"), .tup (ps.map (·.1))]), some (.int ((ps.length * (i + 1) : Nat) : Int)), a]) ∧ m = m') (L - 1) (by omega) ⟨⟨none, by rw [Nat.mul_one]⟩, rfl⟩ (by
        rintro i ρ m' hi ⟨⟨a, rfl⟩, rfl⟩
        have nd : ¬ L ∣ i + 1 := fun h => by have := Nat.le_of_dvd (by omega) h; omega
        refine ⟨by rw [test, decide_eq_false nd]; rfl, _, _, .inl ?_, ⟨a, rfl⟩, rfl⟩
        have e8 : ((ps.length * (i + 1) : Nat) : Int) + (ps.length : Int) = ((ps.length * (i + 1 + 1) : Nat) : Int) := by rw [Nat.mul_succ ps.length (i + 1), Int.natCast_add]
        simp! [eq_self, b__law_period_1, e8]) (by
        rintro ρ m' ⟨⟨a, rfl⟩, rfl⟩
        rw [test, show L - 1 + 1 = L by omega, decide_eq_true (Nat.dvd_refl L)]
        rfl)
      rw [show L - 1 + 1 = L by omega]
      simp! [eq_self]
      exact fin_self rfl

open PySem Dv Mt
set_option hygiene false
set_option hygiene true
noncomputable def habD : Option (List Int) → D
  | some l => hI l
  | none => .non
theorem hbI_iff {n s : Nat} {l : List Int} : hbI n s l = true ↔ l.length = s ∧ 1 ≤ s ∧ s ≤ n ∧ ∀ (i : Nat) (v : Int), l[i]? = some v → 0 ≤ v ∧ v ≤ (n : Int) - (s : Int) + (i : Int) := by
  unfold hbI
  simp only [Bool.and_eq_true, decide_eq_true_eq, List.all_eq_true]
  constructor
  · rintro ⟨a, ⟨b, c⟩, h⟩
    exact ⟨a, b, c, fun i v hv => h (v, i) (List.mem_zipIdx_iff_getElem?.mpr hv)⟩
  · rintro ⟨a, b, c, h⟩
    exact ⟨a, ⟨b, c⟩, fun p hp => h p.2 p.1 (List.mem_zipIdx_iff_getElem?.mp hp)⟩
theorem hbI_habF {n s : Nat} {f : Int → Int} (h1 : 1 ≤ s) (h2 : s ≤ n) (hf : ∀ x, 0 ≤ x → 0 ≤ f x ∧ f x ≤ x) : hbI n s (habF f n s) = true := by
  refine hbI_iff.mpr ⟨habF_len f n s, h1, h2, fun i v hv => ?_⟩
  unfold habF at hv
  rw [List.getElem?_map] at hv
  by_cases hi : i < s
  · rw [List.getElem?_range hi] at hv
    cases hv
    exact hf _ (by omega)
  · rw [List.getElem?_eq_none (by rw [List.length_range]; omega)] at hv
    cases hv
theorem fit_hab {n s : Nat} {f : Int → Int} (h0 : n ≤ 12) (h1 : 1 ≤ s) (h2 : s ≤ n) (hf : ∀ x, 0 ≤ x → 0 ≤ f x ∧ f x ≤ x) : fit n s (some (habF f n s)) = some (habF f n s) := by
  unfold fit chk
  rw [if_pos h0, Option.bind_some, if_pos (hbI_habF h1 h2 hf)]
theorem leaf_habit {d : D} {q : WS} (h : Leaf d q) (f : Nat) {n s : Nat} (w : Nat) (h0 : 2 ≤ n ∧ n ≤ 12) (h1 : 1 ≤ s ∧ s ≤ n) (m : List R) : F__law_habit (f + 1) [d, .int (n : Int), .int (s : Int), .int (w : Int)] m = some (.ok (habD (q.2.2 n s w)) m) := by
  rw [F__law_habit_succ]
  rcases h with ⟨rfl, rfl⟩ | ⟨rfl, rfl⟩ | ⟨l, hl, rfl, rfl⟩ | ⟨ds, h3, hb, rfl, rfl⟩
  · have e : topS.2.2 n s w = some (habF (fun _ => 0) n s) := fit_hab h0.2 h1.1 h1.2 (fun x hx => by omega)
    rw [e]
    simp! [eq_self, runD_eq, b__law_habit, N__law_habit, lb_top_turn, lb_top_under, lb_top_depth, lb_top_own]
    have e2 : List.replicate s (D.int 0) = (habF (fun _ => 0) n s).map .int := by
      unfold habF
      rw [List.map_map]
      refine List.ext_getElem? fun i => ?_
      rw [List.getElem?_replicate, List.getElem?_map]
      by_cases hi : i < s
      · rw [if_pos hi, List.getElem?_range hi]
        rfl
      · rw [if_neg hi, List.getElem?_eq_none (by rw [List.length_range]; omega)]
        rfl
    rw [e2]
    exact fin_self (okD_hI _ _)
  · have e : undS.2.2 n s w = some (habF (fun x => x) n s) := fit_hab h0.2 h1.1 h1.2 (fun x hx => by omega)
    rw [e]
    simp! [eq_self, runD_eq, b__law_habit, N__law_habit, lb_under_turn, lb_under_under, lb_under_depth, lb_under_own]
    rw [compL_mapA (h := fun (j : Nat) => .int ((n : Int) - (s : Int) + (j : Int))) (List.range s) [] (fun j hj => ?_) (by rw [sizeLine_eq]; simp; omega)]
    · simp! [eq_self, runD_eq, b__law_habit, N__law_habit, lb_under_turn, lb_under_under, lb_under_depth, lb_under_own]
      have e2 : (List.range s).map (fun (j : Nat) => D.int ((n : Int) - (s : Int) + (j : Int))) = (habF (fun x => x) n s).map .int := by unfold habF; rw [List.map_map]; rfl
      rw [e2]
      exact fin_self (okD_hI _ _)
    · simp! [eq_self]
  · have e : (depS (l : Int)).2.2 n s w = some (habF (fun x => min (l : Int) x) n s) := fit_hab h0.2 h1.1 h1.2 (fun x hx => by omega)
    rw [e]
    simp! [eq_self, runD_eq, b__law_habit, N__law_habit, lb_depth_turn, lb_depth_under, lb_depth_depth, lb_depth_own]
    rw [compL_mapA (h := fun (j : Nat) => .int (min (l : Int) ((n : Int) - (s : Int) + (j : Int)))) (List.range s) [] (fun j hj => ?_) (by rw [sizeLine_eq]; simp; omega)]
    · simp! [eq_self, runD_eq, b__law_habit, N__law_habit, lb_depth_turn, lb_depth_under, lb_depth_depth, lb_depth_own]
      have e2 : (List.range s).map (fun (j : Nat) => D.int (min (l : Int) ((n : Int) - (s : Int) + (j : Int)))) = (habF (fun x => min (l : Int) x) n s).map .int := by unfold habF; rw [List.map_map]; rfl
      rw [e2]
      exact fin_self (okD_hI _ _)
    · simp! [eq_self]
      by_cases c : (n : Int) - (s : Int) + (j : Int) < (l : Int)
      · rw [if_pos c, Int.min_eq_right (by omega)]
      · rw [if_neg c, Int.min_eq_left (by omega)]
  · have eh : hI ds = .tup (ds.map .int) := rfl
    simp! [eq_self, runD_eq, b__law_habit, N__law_habit, lb_own_turn, lb_own_under, lb_own_depth, lb_own_own, eh]
    rw [compL_mapA (h := fun (j : Nat) => .int ((n : Int) - (s : Int) + (j : Int))) (List.range s) [] (fun j hj => by simp! [eq_self]) (by rw [sizeLine_eq]; simp; omega)]
    by_cases c : ds.length = s
    · have c2 : (ds.length : Int) = (s : Int) := by omega
      simp! [eq_self, c2]
      rw [compL_fil (g := iN) (h := iN) (b := fun (j : Nat) => decide ((n : Int) - (s : Int) + (j : Int) < ds.getD j 0)) (List.range s) [] (fun j hj => ?_) (by rw [sizeLine_eq]; simp; omega)]
      · have e4 := fun m => eqL_nil m (xs := ((List.range s).filter fun (j : Nat) => decide ((n : Int) - (s : Int) + (j : Int) < ds.getD j 0)).map iN) (plL_iN _ _)
        have e6 : (((List.range s).filter fun (j : Nat) => decide ((n : Int) - (s : Int) + (j : Int) < ds.getD j 0)).map iN = []) ↔ hbI n s ds = true := by
          rw [List.map_eq_nil_iff, List.filter_eq_nil_iff, hbI_iff]
          constructor
          · intro h
            refine ⟨c, h1.1, h1.2, fun i v hv => ⟨(hb v (List.mem_of_getElem? hv)).1, ?_⟩⟩
            have hi : i < s := by have := (List.getElem?_eq_some_iff.mp hv).1; omega
            have := h i (List.mem_range.mpr hi)
            rw [List.getD_eq_getElem?_getD, hv, Option.getD_some, decide_eq_true_eq] at this
            omega
          · rintro ⟨_, _, _, h⟩ i hi
            have hi := List.mem_range.mp hi
            obtain ⟨v, hv⟩ := get_ex rfl (show i < ds.length by omega)
            have := h i v hv
            rw [List.getD_eq_getElem?_getD, hv, Option.getD_some, decide_eq_true_eq]
            omega
        by_cases cb : hbI n s ds = true
        · have e : (ownS ds).2.2 n s w = some ds := by
            show fit n s (some ds) = some ds
            unfold fit chk
            rw [if_pos h0.2, Option.bind_some, if_pos cb]
          have e7 := e6.mpr cb
          rw [e]
          simp only [e7, decide_true] at e4
          rw [e7]
          simp! [eq_self, e4]
          exact fin_self (okD_hI _ _)
        · have e : (ownS ds).2.2 n s w = none := by
            show fit n s (some ds) = none
            unfold fit chk
            rw [if_pos h0.2, Option.bind_some, if_neg cb]
          have e7 := fun h => cb (e6.mp h)
          have e8 := fun m => (e4 m).trans (congrArg some (decide_eq_false e7))
          rw [e]
          simp! [eq_self, e8]
          exact fin_self rfl
      · have hj := List.mem_range.mp hj
        obtain ⟨v, hv⟩ := get_ex rfl (show j < ds.length by omega)
        have g1 : (ds.map D.int)[j]? = some (.int v) := by rw [List.getElem?_map, hv]; rfl
        have g2 : ((List.range s).map fun (j : Nat) => D.int ((n : Int) - (s : Int) + (j : Int)))[j]? = some (.int ((n : Int) - (s : Int) + (j : Int))) := by rw [List.getElem?_map, List.getElem?_range hj]; rfl
        have g3 : ds.getD j 0 = v := by rw [List.getD_eq_getElem?_getD, hv]; rfl
        rw [g3]
        by_cases cv : (n : Int) - (s : Int) + (j : Int) < v
        · simp! [eq_self, g1, g2, cv]
        · simp! [eq_self, g1, g2, cv]
    · have c2 : ¬ ((ds.length : Int) = (s : Int)) := by omega
      have e : (ownS ds).2.2 n s w = none := by
        show fit n s (some ds) = none
        unfold fit chk
        rw [if_pos h0.2, Option.bind_some, if_neg (fun h => c (hbI_iff.mp h).1)]
      rw [e]
      simp! [eq_self, c2]
      exact fin_self rfl
theorem law_habit : ∀ (k f : Nat) {d : D} {q : WS}, k ≤ 2 → k ≤ f → Spk k d q → ∀ {n s : Nat} (w : Nat), (2 ≤ n ∧ n ≤ 12) → (1 ≤ s ∧ s ≤ n) → w < 4611686018427387904 → ∀ m, F__law_habit (f + 1) [d, .int (n : Int), .int (s : Int), .int (w : Int)] m = some (.ok (habD (q.2.2 n s w)) m)
  | 0, f, d, q, _, _, h, n, s, w, h0, h1, _, m => leaf_habit h f w h0 h1 m
  | k + 1, f, d, q, hk, hf, h, n, s, w, h0, h1, hw, m => by
    rcases h with h | ⟨ps, ne, h3, hps, rfl, rfl⟩
    · exact leaf_habit h f w h0 h1 m
    · obtain ⟨f, rfl⟩ : ∃ j, f = j + 1 := ⟨f - 1, by omega⟩
      have hpos : 0 < ps.length := List.length_pos_iff.mpr ne
      obtain ⟨p, hp⟩ := get_ex rfl (show w % ps.length < ps.length from Nat.mod_lt w hpos)
      have hm := List.mem_of_getElem? hp
      have ih := fun m => law_habit k f (by omega) (by omega) (hps p hm) (n := n) (s := s) (w / ps.length) h0 h1 (Nat.lt_of_le_of_lt (Nat.div_le_self _ _) hw) m
      have eh : (turS (ps.map (·.2))).2.2 n s w = p.2.2.2 n s (w / ps.length) := by
        show turH (ps.map (·.2)) n s w = _
        unfold turH
        rw [List.length_map, List.getElem?_map, hp]
        rfl
      have d1 : ((w : Int) / (ps.length : Int)) = ((w / ps.length : Nat) : Int) := by simp
      have d2 : ((w : Int) % (ps.length : Int)) = ((w % ps.length : Nat) : Int) := by simp
      have hz : (ps.map (·.1))[w % ps.length]? = some p.1 := by rw [List.getElem?_map, hp]; rfl
      have l0 : ¬ ((ps.length : Int) = 0) := by omega
      rw [eh, F__law_habit_succ]
      simp! [eq_self, runD_eq, b__law_habit, N__law_habit, lb_turn_turn, d1, d2, hz, l0, ih]
      cases p.2.2.2 n s (w / ps.length) with
      | none => exact fin_self rfl
      | some l => exact fin_self (okD_hI _ _)

open PySem Dv Mt
set_option hygiene false
set_option hygiene true
noncomputable def sp : Str := Str.ofString " "
theorem joinL_mem (S : List Nat) : ∀ (ps : List (List Nat)) (c : Nat), c ∈ TL.joinL S ps → c ∈ S ∨ ∃ p ∈ ps, c ∈ p
  | [], c, h => by cases h
  | [p], c, h => .inr ⟨p, List.mem_cons_self, h⟩
  | p :: q :: r, c, h => by
    have h : c ∈ p ++ (S ++ TL.joinL S (q :: r)) := h
    rcases List.mem_append.mp h with h | h
    · exact .inr ⟨p, List.mem_cons_self, h⟩
    · rcases List.mem_append.mp h with h | h
      · exact .inl h
      · rcases joinL_mem S (q :: r) c h with h | ⟨x, hx, h⟩
        · exact .inl h
        · exact .inr ⟨x, List.mem_cons_of_mem _ hx, h⟩
theorem joinL_len (S : List Nat) (k : Nat) : ∀ (ps : List (List Nat)), (∀ p ∈ ps, p.length ≤ k) → (TL.joinL S ps).length ≤ ps.length * (k + S.length)
  | [], _ => Nat.zero_le _
  | [p], h => by
    have := h p List.mem_cons_self
    show p.length ≤ 1 * (k + S.length)
    omega
  | p :: q :: r, h => by
    have h1 := h p List.mem_cons_self
    have ih := joinL_len S k (q :: r) fun x hx => h x (List.mem_cons_of_mem _ hx)
    show (p ++ (S ++ TL.joinL S (q :: r))).length ≤ ((q :: r).length + 1) * (k + S.length)
    rw [List.length_append, List.length_append, Nat.add_mul]
    omega
theorem join_mem {y : Str} {l : List Str} {c : Nat} (h : c ∈ (Str.join y l).cps.toList) : c ∈ y.cps.toList ∨ ∃ w ∈ l, c ∈ w.cps.toList := by
  have e : (Str.join y l).cps.toList = TL.joinL (TL.tl y) (l.map TL.tl) := TL.tl_join y l
  rw [e] at h
  rcases joinL_mem _ _ c h with h | ⟨p, hp, h⟩
  · exact .inl h
  · obtain ⟨w, hw, rfl⟩ := List.mem_map.mp hp
    exact .inr ⟨w, hw, h⟩
theorem join_len {y : Str} {l : List Str} {k : Nat} (h : ∀ w ∈ l, w.length ≤ k) : (Str.join y l).length ≤ l.length * (k + y.length) := by
  have e : (Str.join y l).cps.toList = TL.joinL (TL.tl y) (l.map TL.tl) := TL.tl_join y l
  have := joinL_len (TL.tl y) k (l.map TL.tl) fun p hp => by
    obtain ⟨w, hw, rfl⟩ := List.mem_map.mp hp
    exact h w hw
  rw [← e, List.length_map] at this
  exact this
theorem asStrs_of : ∀ l : List Str, asStrs (l.map .str) = some l
  | [] => rfl
  | x :: l => by
    have := asStrs_of l
    simp only [List.map_cons, asStrs, this, Option.map_some]
theorem sum_le {k : Nat} : ∀ l : List Str, (∀ w ∈ l, w.length ≤ k) → (l.map (·.length)).sum ≤ l.length * k
  | [], _ => Nat.zero_le _
  | x :: l, h => by
    have h1 := h x List.mem_cons_self
    have ih := sum_le l fun w hw => h w (List.mem_cons_of_mem _ hw)
    simp only [List.map_cons, List.sum_cons, List.length_cons, Nat.add_mul]
    omega
theorem q_joinL {y : Str} {l : List Str} {k : Nat} (m : List R) (h : ∀ w ∈ l, w.length ≤ k) (hb : l.length * k + l.length * y.length ≤ 16000000) : sm1D .join m (.str y) (.lst (l.map .str)) = some (.str (Str.join y l)) :=
  q_join rfl (asStrs_of l) (by have := sum_le l h; omega)
theorem strOk_all {x : Str} : PyData.strOk x = true ↔ ∀ c ∈ x.cps.toList, c < 0x110000 := by
  unfold PyData.strOk
  rw [← Array.all_toList, List.all_eq_true]
  simp
theorem strOk_join {y : Str} {l : List Str} (hy : PyData.strOk y = true) (h : ∀ w ∈ l, PyData.strOk w = true) : PyData.strOk (Str.join y l) = true := by
  refine strOk_all.mpr fun c hc => ?_
  rcases join_mem hc with h1 | ⟨w, hw, h1⟩
  · exact strOk_all.mp hy c h1
  · exact strOk_all.mp (h w hw) c h1

open PySem Dv Mt
set_option hygiene false
set_option hygiene true
/-! words -/
noncomputable def numI (x : Int) : Str := (toString x : String)
theorem numI_ok : ∀ n : Nat, n < 12 → PyData.strOk (numI (n : Int)) = true ∧ (numI (n : Int)).length ≤ 2 := by decide +kernel
theorem dep_words : ∀ n : Nat, n < 12 → Str.ofString "depth " ++ numI (n : Int) = Str.join (Str.ofString " ") [Str.ofString "depth", numI (n : Int)] := by decide +kernel
theorem strI {mu : Bool} {m : List R} {n : Nat} (h : n < 12) : biD .str mu m [.int (n : Int)] = some (.str (numI (n : Int)), m) := q_strI (by
  rw [Int.natAbs_natCast]
  exact Nat.lt_of_le_of_lt (Nat.log2_le_self _) (by omega))
theorem own_texts {ds : List Int} (hb : ∀ x ∈ ds, 0 ≤ x ∧ x ≤ 9) {t : D → List R → Option (Option D × List R)} {m : List R} (hl : ds.length ≤ 3) (ht : ∀ n : Nat, n < 12 → t (.int (n : Int)) m = some (some (.str (numI (n : Int))), m)) : compL t (ds.map .int) [] m = some ((ds.map numI).map .str, m) := by
  have e := compL_mapA (f := t) (m := m) (g := D.int) (h := fun x => .str (numI x)) ds [] (fun x hx => by
    obtain ⟨a, b⟩ := hb x hx
    obtain ⟨n, rfl⟩ : ∃ n : Nat, x = (n : Int) := ⟨x.toNat, by omega⟩
    exact ht n (by omega)) (by rw [sizeLine_eq]; simp only [List.length_nil]; omega)
  rw [e, List.nil_append, List.map_map]
  rfl
theorem leaf_words {d : D} {q : WS} (h : Leaf d q) : ∃ t : Str, PyData.strOk t = true ∧ t.length ≤ 20 ∧ ∀ f m, F_describe (f + 1) [q.1] m = some (.ok (.str t) m) ∧ F__law_words (f + 1) [d] m = some (.ok (.str t) m) := by
  have s1 : (Str.ofString " ").length = 1 := by decide +kernel
  rcases h with ⟨rfl, rfl⟩ | ⟨rfl, rfl⟩ | ⟨l, hl, rfl, rfl⟩ | ⟨ds, h3, hb, rfl, rfl⟩
  · refine ⟨Str.ofString "top", by decide +kernel, by decide +kernel, fun f m => ⟨?_, ?_⟩⟩
    · have p1 : ∀ m, clsD m topS.1 = some 2 := fun m => rfl
      have p2 : (nmT 2).idxOf ("label" : Str) = 0 := rfl
      have p3 : topS.1 = .obj 2 [.str (Str.ofString "top"), .int ((1 : Nat) : Int)] := rfl
      have p4 := prop_label 2
      rw [F_describe_succ]
      simp! [eq_self, runD_eq, b_describe, N_describe, p1, p2, p3, p4, lb_top_depth, lb_top_own, lb_top_turn]
      exact fin_self rfl
    · have j := q_joinL (y := Str.ofString " ") (l := [Str.ofString "top"]) (k := 20) m (by decide +kernel) (by decide +kernel)
      have j2 : Str.join (Str.ofString " ") [Str.ofString "top"] = Str.ofString "top" := by decide +kernel
      rw [j2] at j
      simp only [List.map_cons, List.map_nil] at j
      rw [F__law_words_succ]
      simp! [eq_self, runD_eq, b__law_words, N__law_words, lb_top_turn, compL_0, j]
      exact fin_self rfl
  · refine ⟨Str.ofString "under", by decide +kernel, by decide +kernel, fun f m => ⟨?_, ?_⟩⟩
    · have p1 : ∀ m, clsD m undS.1 = some 3 := fun m => rfl
      have p2 : (nmT 3).idxOf ("label" : Str) = 0 := rfl
      have p3 : undS.1 = .obj 3 [.str (Str.ofString "under"), .int ((1 : Nat) : Int)] := rfl
      have p4 := prop_label 3
      rw [F_describe_succ]
      simp! [eq_self, runD_eq, b_describe, N_describe, p1, p2, p3, p4, lb_under_depth, lb_under_own, lb_under_turn]
      exact fin_self rfl
    · have j := q_joinL (y := Str.ofString " ") (l := [Str.ofString "under"]) (k := 20) m (by decide +kernel) (by decide +kernel)
      have j2 : Str.join (Str.ofString " ") [Str.ofString "under"] = Str.ofString "under" := by decide +kernel
      rw [j2] at j
      simp only [List.map_cons, List.map_nil] at j
      rw [F__law_words_succ]
      simp! [eq_self, runD_eq, b__law_words, N__law_words, lb_under_turn, compL_0, j]
      exact fin_self rfl
  · have hn := numI_ok l (by omega)
    refine ⟨Str.join (Str.ofString " ") [Str.ofString "depth", numI (l : Int)], ?_, ?_, fun f m => ⟨?_, ?_⟩⟩
    · refine strOk_join (by decide +kernel) fun w hw => ?_
      simp only [List.mem_cons, List.not_mem_nil, or_false] at hw
      rcases hw with rfl | rfl
      · decide +kernel
      · exact hn.1
    · have := join_len (y := Str.ofString " ") (l := [Str.ofString "depth", numI (l : Int)]) (k := 5) (fun w hw => by
        simp only [List.mem_cons, List.not_mem_nil, or_false] at hw
        rcases hw with rfl | rfl
        · decide +kernel
        · omega)
      rw [s1] at this
      simp only [List.length_cons, List.length_nil] at this
      omega
    · have p1 : ∀ m, clsD m (depS (l : Int)).1 = some 4 := fun m => rfl
      have p2 : (nmT 4).idxOf ("label" : Str) = 0 := rfl
      have p5 : (nmT 4).idxOf ("level" : Str) = 2 := rfl
      have p3 : (depS (l : Int)).1 = .obj 4 [.str (Str.ofString "depth"), .int ((1 : Nat) : Int), .int (l : Int)] := rfl
      have p4 := prop_label 4
      have p6 := prop_level 4
      have e1 := fun mu m => strI (mu := mu) (m := m) (n := l) (by omega)
      have e2 : ∀ mu m, bopD .add mu m (.str (Str.ofString "depth ")) (.str (numI (l : Int))) = some (.str (Str.ofString "depth " ++ numI (l : Int)), m) := fun mu m => q_addS (by
        have : (Str.ofString "depth ").length = 6 := by decide +kernel
        omega)
      rw [← dep_words l (by omega)]
      rw [F_describe_succ]
      simp! [eq_self, runD_eq, b_describe, N_describe, p1, p2, p3, p4, p5, p6, lb_depth_depth, e1, e2]
      exact fin_self rfl
    · have e1 := fun mu m => strI (mu := mu) (m := m) (n := l) (by omega)
      have j := q_joinL (y := Str.ofString " ") (l := [Str.ofString "depth", numI (l : Int)]) (k := 20) m (by
        intro w hw
        simp only [List.mem_cons, List.not_mem_nil, or_false] at hw
        rcases hw with rfl | rfl
        · decide +kernel
        · omega) (by rw [s1]; simp)
      simp only [List.map_cons, List.map_nil] at j
      rw [F__law_words_succ]
      simp! [eq_self, runD_eq, b__law_words, N__law_words, lb_depth_turn, compL_0, compL_1, cmpK_s, e1, j]
      exact fin_self rfl
  · have num : ∀ w ∈ ds.map numI, PyData.strOk w = true ∧ w.length ≤ 2 := by
      intro w hw
      obtain ⟨x, hx, rfl⟩ := List.mem_map.mp hw
      obtain ⟨a, b⟩ := hb x hx
      obtain ⟨n, rfl⟩ : ∃ n : Nat, x = (n : Int) := ⟨x.toNat, by omega⟩
      exact numI_ok n (by omega)
    refine ⟨Str.join (Str.ofString " ") (Str.ofString "own" :: ds.map numI), ?_, ?_, fun f m => ?_⟩
    · refine strOk_join (by decide +kernel) fun w hw => ?_
      rcases List.mem_cons.mp hw with rfl | hw
      · decide +kernel
      · exact (num w hw).1
    · have := join_len (y := Str.ofString " ") (l := Str.ofString "own" :: ds.map numI) (k := 3) (fun w hw => by
        rcases List.mem_cons.mp hw with rfl | hw
        · decide +kernel
        · have := (num w hw).2
          omega)
      rw [s1, List.length_cons, List.length_map] at this
      omega
    · have j := fun m => q_joinL (y := Str.ofString " ") (l := Str.ofString "own" :: ds.map numI) (k := 20) m (fun w hw => by
        rcases List.mem_cons.mp hw with rfl | hw
        · decide +kernel
        · have := (num w hw).2
          omega) (by rw [s1, List.length_cons, List.length_map]; omega)
      simp only [List.map_cons] at j
      have eh : hI ds = .tup (ds.map .int) := rfl
      have e1 := fun mu m (n : Nat) (h : n < 12) => strI (mu := mu) (m := m) h
      constructor
      · have p1 : ∀ m, clsD m (ownS ds).1 = some 5 := fun m => rfl
        have p2 : (nmT 5).idxOf ("label" : Str) = 0 := rfl
        have p5 : (nmT 5).idxOf ("depths" : Str) = 2 := rfl
        have p3 : (ownS ds).1 = .obj 5 [.str (Str.ofString "own"), .int ((1 : Nat) : Int), .tup (ds.map .int)] := rfl
        have p4 := prop_label 5
        have p6 := prop_depths 5
        rw [F_describe_succ]
        simp! [eq_self, runD_eq, b_describe, N_describe, p1, p2, p3, p4, p5, p6, lb_own_depth, lb_own_own]
        rw [own_texts hb h3 (fun n hn => by
          have e2 := fun mu m => e1 mu m n hn
          simp! [eq_self, e2])]
        simp! [eq_self, j]
        exact fin_self rfl
      · rw [F__law_words_succ]
        simp! [eq_self, runD_eq, b__law_words, N__law_words, lb_own_turn, eh]
        rw [own_texts hb h3 (fun n hn => by
          have e2 := fun mu m => e1 mu m n hn
          simp! [eq_self, e2])]
        simp! [eq_self, j]
        exact fin_self rfl
noncomputable def wl : Nat → Nat
  | 0 => 20
  | k + 1 => 3 * (wl k + 2) + 7
theorem wl_le {k : Nat} (h : k ≤ 2) : wl k ≤ 300 := by
  rcases (show k = 0 ∨ k = 1 ∨ k = 2 by omega) with rfl | rfl | rfl <;> decide
theorem wl_mono (k : Nat) : 20 ≤ wl k := by
  induction k with
  | zero => decide
  | succ k ih => show 20 ≤ 3 * (wl k + 2) + 7; omega
theorem texts_ex {α : Type} {P : α → Str → Prop} : ∀ (ps : List α), (∀ p ∈ ps, ∃ t, P p t) → ∃ g : List (α × Str), g.map (·.1) = ps ∧ ∀ x ∈ g, P x.1 x.2
  | [], _ => ⟨[], rfl, fun _ h => (List.not_mem_nil h).elim⟩
  | p :: ps, h => by
    obtain ⟨t, ht⟩ := h p List.mem_cons_self
    obtain ⟨g, e, hg⟩ := texts_ex ps fun q hq => h q (List.mem_cons_of_mem _ hq)
    refine ⟨(p, t) :: g, by rw [List.map_cons, e], fun x hx => ?_⟩
    rcases List.mem_cons.mp hx with rfl | hx
    · exact ht
    · exact hg x hx
theorem strOk_app {a b : Str} (ha : PyData.strOk a = true) (hb : PyData.strOk b = true) : PyData.strOk (a ++ b) = true := by
  refine strOk_all.mpr fun c hc => ?_
  have e : (a ++ b).cps.toList = a.cps.toList ++ b.cps.toList := TL.tl_append a b
  rw [e] at hc
  rcases List.mem_append.mp hc with h | h
  · exact strOk_all.mp ha c h
  · exact strOk_all.mp hb c h
theorem app_len (a b : Str) : (a ++ b).length = a.length + b.length := by
  have e : (a ++ b).cps.toList = a.cps.toList ++ b.cps.toList := TL.tl_append a b
  show (a ++ b).cps.toList.length = _
  rw [e, List.length_append]
  rfl
theorem spk_words : ∀ (k : Nat) {d : D} {q : WS}, k ≤ 2 → Spk k d q → ∃ t : Str, PyData.strOk t = true ∧ t.length ≤ wl k ∧ ∀ f, k ≤ f → ∀ m, F_describe (f + 1) [q.1] m = some (.ok (.str t) m) ∧ F__law_words (f + 1) [d] m = some (.ok (.str t) m)
  | 0, d, q, _, h => by
    obtain ⟨t, a, b, c⟩ := leaf_words h
    exact ⟨t, a, b, fun f _ m => c f m⟩
  | k + 1, d, q, hk, h => by
    rcases h with h | ⟨ps, ne, h3, hps, rfl, rfl⟩
    · obtain ⟨t, a, b, c⟩ := leaf_words h
      exact ⟨t, a, Nat.le_trans b (wl_mono _), fun f _ m => c f m⟩
    · obtain ⟨g, rfl, hg⟩ := texts_ex ps fun p hp => spk_words k (by omega) (hps p hp)
      have s2 : (Str.ofString ", ").length = 2 := by decide +kernel
      have s6 : (Str.ofString "turn (").length = 6 := by decide +kernel
      have s1 : (Str.ofString ")").length = 1 := by decide +kernel
      have hk2 := wl_le (k := k) (by omega)
      rw [List.length_map] at h3
      have hT : ∀ w ∈ g.map (·.2), PyData.strOk w = true ∧ w.length ≤ wl k := by
        intro w hw
        obtain ⟨x, hx, rfl⟩ := List.mem_map.mp hw
        exact ⟨(hg x hx).1, (hg x hx).2.1⟩
      generalize hJ : Str.join (Str.ofString ", ") (g.map (·.2)) = J
      have jl : J.length ≤ 3 * (wl k + 2) := by
        have := join_len (y := Str.ofString ", ") (l := g.map (·.2)) (k := wl k) (fun w hw => (hT w hw).2)
        rw [s2, hJ, List.length_map] at this
        exact Nat.le_trans this (Nat.mul_le_mul_right _ h3)
      have jo : PyData.strOk J = true := by rw [← hJ]; exact strOk_join (by decide +kernel) fun w hw => (hT w hw).1
      have j : ∀ m, sm1D .join m (.str (Str.ofString ", ")) (.lst ((g.map (·.2)).map .str)) = some (.str J) := fun m => by
        rw [← hJ]
        exact q_joinL (k := wl k) m (fun w hw => (hT w hw).2) (by
          rw [s2, List.length_map]
          have := Nat.mul_le_mul h3 hk2
          omega)
      have a1 : ∀ mu m, bopD .add mu m (.str (Str.ofString "turn (")) (.str J) = some (.str (Str.ofString "turn (" ++ J), m) := fun mu m => q_addS (by omega)
      have l1 := app_len (Str.ofString "turn (") J
      have a2 : ∀ mu m, bopD .add mu m (.str (Str.ofString "turn (" ++ J)) (.str (Str.ofString ")")) = some (.str (Str.ofString "turn (" ++ J ++ Str.ofString ")"), m) := fun mu m => q_addS (by omega)
      have l2 := app_len (Str.ofString "turn (" ++ J) (Str.ofString ")")
      refine ⟨Str.ofString "turn (" ++ J ++ Str.ofString ")", strOk_app (strOk_app (by decide +kernel) jo) (by decide +kernel), by show _ ≤ 3 * (wl k + 2) + 7; omega, fun f hf m => ?_⟩
      obtain ⟨f, rfl⟩ : ∃ j, f = j + 1 := ⟨f - 1, by omega⟩
      have e0 : (g.map fun x => D.str x.2) = (g.map (·.2)).map .str := by rw [List.map_map]; rfl
      constructor
      · have hq : (turS ((g.map (·.1)).map (·.2))).1 = .obj 6 [.str (Str.ofString "turn"), .int (((turS ((g.map (·.1)).map (·.2))).2.1 : Nat) : Int), .tup (g.map fun x => x.1.2.1)] := by
          show turD _ _ = _
          unfold turD oW
          rw [List.map_map, List.map_map]
          rfl
        generalize (turS ((g.map (·.1)).map (·.2))).2.1 = P at hq
        rw [hq]
        have p1 : ∀ xs m, clsD m (.obj 6 xs) = some 6 := fun xs m => rfl
        have p2 : (nmT 6).idxOf ("label" : Str) = 0 := rfl
        have p5 : (nmT 6).idxOf ("parts" : Str) = 2 := rfl
        have p4 := prop_label 6
        have p6 := prop_parts 6
        rw [F_describe_succ]
        simp! [eq_self, runD_eq, b_describe, N_describe, p1, p2, p4, p5, p6, lb_turn_depth, lb_turn_own, lb_turn_turn]
        rw [compL_mapA (h := fun x => .str x.2) g [] (fun x hx => by
          have e3 := fun m => ((hg x hx).2.2 f (by omega) m).1
          simp! [eq_self, e3]) (by rw [sizeLine_eq]; simp only [List.length_nil]; omega), List.nil_append, e0]
        simp! [eq_self, j, a1, a2]
        exact fin_self rfl
      · have e4 : (g.map (·.1)).map (·.1) = g.map fun x => x.1.1 := by rw [List.map_map]; rfl
        rw [F__law_words_succ, e4]
        simp! [eq_self, runD_eq, b__law_words, N__law_words, lb_turn_turn]
        rw [compL_mapA (h := fun x => .str x.2) g [] (fun x hx => by
          have e3 := fun m => ((hg x hx).2.2 f (by omega) m).2
          simp! [eq_self, e3]) (by rw [sizeLine_eq]; simp only [List.length_nil]; omega), List.nil_append, e0]
        simp! [eq_self, j, a1, a2]
        exact fin_self rfl

open PySem Dv Mt
set_option hygiene false
set_option hygiene true
theorem law_equalL (k : Nat) (xs ys : List D) (m : List R) (hl : xs.length = ys.length) (h4 : ys.length ≤ 4000) (h : ∀ (p : Nat) (x y : D), xs[p]? = some x → ys[p]? = some y → F__law_equal (k + 1) [x, y] m = some (.ok (.bl true) m)) : F__law_equal (k + 2) [.lst xs, .lst ys] m = some (.ok (.bl true) m) := by
  rw [F__law_equal_succ]
  simp! [eq_self, runD_eq, b__law_equal, N__law_equal, hl]
  rw [compL_mapA (h := fun _ => .bl true) (List.range ys.length) [] (fun p hp => ?_) (by rw [sizeLine_eq]; simp; omega)]
  · simp! [eq_self, all_true, all_true2]
    exact fin_self rfl
  · have hp' := List.mem_range.mp hp
    obtain ⟨y, hy⟩ := get_ex rfl hp'
    obtain ⟨x, hx⟩ := get_ex hl hp'
    have e2 := h p x y hx hy
    simp! [eq_self, hx, hy, e2]

open PySem Dv Mt
set_option hygiene false
set_option hygiene true
noncomputable def b_law_1_tl : Ss := (.cons (.asg (.tp (.cons (.nm 5) (.cons (.nm 6) .nil))) (.tup (.cons (.cal 26 (.cons (.var 3) .nil)) (.cons (.bop .add false (.cst (.int 2)) (.cal 23 (.cons (.var 1) (.cons (.cst (.int 11)) .nil)))) .nil)))) (.cons (.asg (.nm 7) (.bop .add false (.cst (.int 1)) (.cal 23 (.cons (.var 1) (.cons (.ix (.lst false (.cons (.bi .min false (.cons (.cst (.int 3)) (.cons (.var 6) .nil))) (.cons (.var 6) .nil))) (.cal 23 (.cons (.var 1) (.cons (.cst (.int 2)) .nil)))) .nil))))) (.cons (.asg (.nm 8) (.lst false (.cons (.att (.var 5) "label") (.cons (.att (.var 5) "repeat_after") (.cons (.cal 21 (.cons (.var 5) .nil)) (.cons (.isc (.var 5) 1) .nil)))))) (.cons (.ifs (.not (.cal 27 (.cons (.var 8) (.cons (.lst false (.cons (.ix (.var 3) (.cst (.int 0))) (.cons (.cal 28 (.cons (.var 3) .nil)) (.cons (.cal 29 (.cons (.var 3) .nil)) (.cons (.cst (.bl true)) .nil))))) .nil)))) (.cons (.ret (.cst (.bl false))) .nil) .nil) (.cons (.forr (.nm 9) (.rg1 (.cst (.int 4))) b_law_2) .nil)))))
theorem b_law_1_eq : b_law_1 = (.cons (.asg (.nm 3) (.cal 24 (.cons (.var 1) (.cons (.cst (.int 2)) .nil)))) (.cons (.ifs (.cmp .eq (.cal 23 (.cons (.var 1) (.cons (.cst (.int 5)) .nil))) (.cst (.int 0))) (.cons (.asg (.nm 4) (.tup (.cons (.cst (.str (Str.ofString "turn"))) (.cons (.tup (.cons (.tup (.cons (.cst (.str (Str.ofString "top"))) (.cons (.tup .nil) .nil))) (.cons (.tup (.cons (.cst (.str (Str.ofString "under"))) (.cons (.tup .nil) .nil))) .nil))) .nil)))) (.cons (.asg (.nm 3) (.tup (.cons (.cst (.str (Str.ofString "turn"))) (.cons (.tup (.cons (.var 4) (.cons (.tup (.cons (.cst (.str (Str.ofString "turn"))) (.cons (.tup (.cons (.tup (.cons (.cst (.str (Str.ofString "under"))) (.cons (.tup .nil) .nil))) (.cons (.tup (.cons (.cst (.str (Str.ofString "top"))) (.cons (.tup .nil) .nil))) (.cons (.cal 24 (.cons (.var 1) (.cons (.cst (.int 0)) .nil))) .nil)))) .nil))) .nil))) .nil)))) .nil)) .nil) b_law_1_tl)) := rfl

open PySem Dv Mt
set_option hygiene false
set_option hygiene true
theorem spk_lab : ∀ (k : Nat) {d : D} {q : WS}, Spk k d q → ∃ (L : Str) (x : D) (c : Nat) (r : List D), PyData.strOk L = true ∧ d = .tup [.str L, x] ∧ q.1 = .obj c (.str L :: .int (q.2.1 : Int) :: r) ∧ IsW c := by
  intro k d q h
  have leaf : Leaf d q → ∃ (L : Str) (x : D) (c : Nat) (r : List D), PyData.strOk L = true ∧ d = .tup [.str L, x] ∧ q.1 = .obj c (.str L :: .int (q.2.1 : Int) :: r) ∧ IsW c := by
    intro h
    rcases h with ⟨rfl, rfl⟩ | ⟨rfl, rfl⟩ | ⟨l, hl, rfl, rfl⟩ | ⟨ds, h3, hb, rfl, rfl⟩
    · exact ⟨_, _, _, _, by decide +kernel, rfl, rfl, .inl rfl⟩
    · exact ⟨_, _, _, _, by decide +kernel, rfl, rfl, .inr (.inl rfl)⟩
    · exact ⟨_, _, _, _, by decide +kernel, rfl, rfl, .inr (.inr (.inl rfl))⟩
    · exact ⟨_, _, _, _, by decide +kernel, rfl, rfl, .inr (.inr (.inr (.inl rfl)))⟩
  cases k with
  | zero => exact leaf h
  | succ k =>
    rcases h with h | ⟨ps, ne, h3, hps, rfl, rfl⟩
    · exact leaf h
    · exact ⟨_, _, _, _, by decide +kernel, rfl, rfl, .inr (.inr (.inr (.inr rfl)))⟩
theorem meth_w {k : Nat} {q : WS} (h : WOk k q.1 q.2.1 q.2.2) : ∃ c, (∀ m n, insD m n q.1 = some c) ∧ methT c "habit_for" 3 = some 9 := by
  obtain ⟨c, lab, r, hc, ed⟩ := h.ob
  refine ⟨c, fun m n => by rw [ed]; rfl, ?_⟩
  rw [meth_habit_for_3]
  rcases hc with rfl | rfl | rfl | rfl | rfl <;> rfl
theorem isc_w {c : Nat} (hc : IsW c) : iscT c 1 = some true := by
  rcases hc with rfl | rfl | rfl | rfl | rfl <;> rfl
theorem eq_bl3 (m : List R) : F__law_equal 3 [.bl true, .bl true] m = some (.ok (.bl true) m) := by
  rw [F__law_equal_succ]
  simp! [eq_self, runD_eq, b__law_equal, N__law_equal]
  exact fin_self rfl
theorem eq_four {a c : Str} {b : Int} (ha : PyData.strOk a = true) (hc : PyData.strOk c = true) (m : List R) : F__law_equal 4 [.lst [.str a, .int b, .str c, .bl true], .lst [.str a, .int b, .str c, .bl true]] m = some (.ok (.bl true) m) := by
  refine law_equalL 2 _ _ m rfl (by simp) fun p x y hx hy => ?_
  rw [hx] at hy
  cases hy
  have hm := List.mem_of_getElem? hx
  simp only [List.mem_cons, List.not_mem_nil, or_false] at hm
  rcases hm with rfl | rfl | rfl | rfl
  · exact law_equal 2 _ m (pl_str ha) rfl
  · exact law_equal 2 _ m (pl_int _ _) rfl
  · exact law_equal 2 _ m (pl_str hc) rfl
  · exact eq_bl3 m
theorem spk_two {d : D} {q : WS} (h : Leaf d q) : ∃ Q, Spk 2 (.tup [.str (Str.ofString "turn"), .tup [.tup [.str (Str.ofString "turn"), .tup [.tup [.str (Str.ofString "top"), .tup []], .tup [.str (Str.ofString "under"), .tup []]]], .tup [.str (Str.ofString "turn"), .tup [.tup [.str (Str.ofString "under"), .tup []], .tup [.str (Str.ofString "top"), .tup []], d]]]]) Q := by
  have t : Leaf (.tup [.str (Str.ofString "top"), .tup []]) topS := .inl ⟨rfl, rfl⟩
  have u : Leaf (.tup [.str (Str.ofString "under"), .tup []]) undS := .inr (.inl ⟨rfl, rfl⟩)
  have a : Spk 1 (.tup [.str (Str.ofString "turn"), .tup [.tup [.str (Str.ofString "top"), .tup []], .tup [.str (Str.ofString "under"), .tup []]]]) _ := .inr ⟨[(_, topS), (_, undS)], by simp, by simp, by
    intro p hp
    simp only [List.mem_cons, List.not_mem_nil, or_false] at hp
    rcases hp with rfl | rfl
    · exact t
    · exact u, rfl, rfl⟩
  have b : Spk 1 (.tup [.str (Str.ofString "turn"), .tup [.tup [.str (Str.ofString "under"), .tup []], .tup [.str (Str.ofString "top"), .tup []], d]]) _ := .inr ⟨[(_, undS), (_, topS), (d, q)], by simp, by simp, by
    intro p hp
    simp only [List.mem_cons, List.not_mem_nil, or_false] at hp
    rcases hp with rfl | rfl | rfl
    · exact u
    · exact t
    · exact h, rfl, rfl⟩
  exact ⟨_, .inr ⟨[(_, _), (_, _)], by simp, by simp, by
    intro p hp
    simp only [List.mem_cons, List.not_mem_nil, or_false] at hp
    rcases hp with rfl | rfl
    · exact a
    · exact b, rfl, rfl⟩⟩
/-- one wash of one washer -/
theorem turn2 {x0 y0 r : R} (H : HdrB r) (fr : List (Str × Addr)) {d : D} {q : WS} (hq : Spk 2 d q) {n s : Nat} (h0 : 2 ≤ n ∧ n ≤ 12) (h1 : 1 ≤ s ∧ s ≤ n) (sc x : D) (y2 y4 y8 y9 y10 y11 : Option D) :
    ∃ r' z10 z11, HdrB r' ∧ bodyD (.nm 9) (evSs (g_law fr) b_law_2) x [sc, some (.res 2), y2, some d, y4, some q.1, some (.int (n : Int)), some (.int (s : Int)), y8, y9, y10, y11] [x0, y0, r] = some (.nx [sc, some (.res 2), y2, some d, y4, some q.1, some (.int (n : Int)), some (.int (s : Int)), y8, some x, z10, z11] [x0, y0, r']) := by
  obtain ⟨w1, r1, H1, hw1, e1⟩ := law_below (x := x0) (y := y0) H [] (20 : Int) (by omega) (by omega)
  obtain ⟨w2, r2, H2, hw2, e2⟩ := law_below (x := x0) (y := y0) H1 [] (99 : Int) (by omega) (by omega)
  obtain ⟨w3, r3, H3, hw3, e3⟩ := law_below (x := x0) (y := y0) H2 [] (2 : Int) (by omega) (by omega)
  obtain ⟨w, hw, g1⟩ : ∃ w : Nat, w < 4611686018427387904 ∧ ([D.int (w1 : Int), .int (1000000000000000000 - (w2 : Int))])[w3]? = some (.int (w : Int)) := by
    rcases (show w3 = 0 ∨ w3 = 1 by omega) with rfl | rfl
    · exact ⟨w1, by omega, rfl⟩
    · refine ⟨1000000000000000000 - w2, by omega, ?_⟩
      have : ((1000000000000000000 - w2 : Nat) : Int) = 1000000000000000000 - (w2 : Int) := by omega
      rw [this]
      rfl
  have e4 := fun m => law_habit 2 2 (by omega) (by omega) hq w h0 h1 hw m
  have ok := (spk_ok 2 (by omega) hq).1
  have v : vld (n : Int) (s : Int) (w : Int) := ⟨by omega, by omega, by omega⟩
  have e5 := fun m => sok_val ok (by omega) v m
  obtain ⟨c, m1, m2⟩ := meth_w ok
  generalize hA : bodyD _ _ _ _ _ = A
  simp! [eq_self, b_law_2, e1, e2, e3, g1, e4] at hA
  cases hh : q.2.2 n s w with
  | none =>
    have e6 : ∀ m, F_Washer_habit_for 6 [q.1, .int (n : Int), .int (s : Int), .int (w : Int)] m = some (.ex ⟨104, none⟩ m) := fun m => by rw [e5, hh]; rfl
    have q8 : ∀ m, eqD m (.tup [.str (Str.ofString "habit"), .int 0]) (.tup [.str (Str.ofString "habit"), .int 0]) = some true := fun m => eqD_t (by decide +kernel)
    simp! [eq_self, hh, habD] at hA
    rw [error_habit (i := 0) (g := []) (by
      rw [List.append_nil, gl_law__0]
      simp! [eq_self, bl_0, m1, m2, e6])] at hA
    simp! [eq_self, q8] at hA
    exact ⟨r3, _, _, H3, hA.symm⟩
  | some l =>
    have e6 : ∀ m, F_Washer_habit_for 6 [q.1, .int (n : Int), .int (s : Int), .int (w : Int)] m = some (.ok (hI l) m) := fun m => by rw [e5, hh]; rfl
    have q1 := fun m => law_equal 3 (hI l) m (pl_mono (n := 1) (by omega) (pl_tup (plL_ints 0 l))) (by
      have hl := (ok.val _ _ _ _ hh).2
      have a : shDL (l.map D.int) = true := shDL_map (fun _ => rfl) l
      show shD (.tup (l.map .int)) = true
      simp only [shD, a, List.length_map, Bool.and_true, decide_eq_true_eq]
      omega)
    have i8 : isNon (hI l) = false := rfl
    simp! [eq_self, hh, habD, i8, m1, m2, e6, q1] at hA
    exact ⟨r3, _, _, H3, hA.symm⟩
theorem rest1 {x0 y0 r : R} (H : HdrB r) (fr : List (Str × Addr)) {d : D} {q : WS} (hq : Spk 2 d q) (sc x : D) (y4 y5 y6 y7 y8 y9 y10 y11 : Option D) :
    ∃ r' z5 z6 z7 z8 z9 z10 z11, HdrB r' ∧ evSs (g_law fr) b_law_1_tl [some sc, some (.res 2), some x, some d, y4, y5, y6, y7, y8, y9, y10, y11] [x0, y0, r] = some (.nx [some sc, some (.res 2), some x, some d, y4, z5, z6, z7, z8, z9, z10, z11] [x0, y0, r']) := by
  obtain ⟨L, v, c, rs, hL, hd, hO, hc⟩ := spk_lab 2 hq
  obtain ⟨t, ht, htl, hw⟩ := spk_words 2 (by omega) hq
  have ok := (spk_ok 2 (by omega) hq).1
  have e1 := fun m => law_washer 2 2 (by omega) (by omega) hq m
  have e2 := fun m => law_period 2 2 (by omega) (by omega) hq m
  have e3 := fun m => (hw 2 (by omega) m).1
  have e4 := fun m => (hw 2 (by omega) m).2
  obtain ⟨k1, r1, H1, hk1, e5⟩ := law_below (x := x0) (y := y0) H [] (11 : Int) (by omega) (by omega)
  obtain ⟨n, hn, en⟩ : ∃ n : Nat, (2 ≤ n ∧ n ≤ 12) ∧ (2 : Int) + (k1 : Int) = (n : Int) := ⟨2 + k1, by omega, by omega⟩
  obtain ⟨k2, r2, H2, hk2, e6⟩ := law_below (x := x0) (y := y0) H1 [] (2 : Int) (by omega) (by omega)
  obtain ⟨M, hM, g1⟩ : ∃ M : Nat, (0 < M ∧ M ≤ n) ∧ ([D.int (if (n : Int) < 3 then (n : Int) else 3), .int (n : Int)])[k2]? = some (.int (M : Int)) := by
    rcases (show k2 = 0 ∨ k2 = 1 by omega) with rfl | rfl
    · by_cases c : (n : Int) < 3
      · rw [if_pos c]
        exact ⟨n, by omega, rfl⟩
      · rw [if_neg c]
        exact ⟨3, by omega, rfl⟩
    · exact ⟨n, by omega, rfl⟩
  obtain ⟨k3, r3, H3, hk3, e7⟩ := law_below (x := x0) (y := y0) H2 [] (M : Int) (by omega) (by omega)
  obtain ⟨s, hs, es⟩ : ∃ s : Nat, (1 ≤ s ∧ s ≤ n) ∧ (1 : Int) + (k3 : Int) = (s : Int) := ⟨1 + k3, by omega, by omega⟩
  have p1 : (nmT c).idxOf ("label" : Str) = 0 := by
    obtain ⟨l, e⟩ := hc.nm
    rw [e]
    rfl
  have p2 := prop_label c
  have p3 : (g_law fr).isc c 1 = some true := isc_w hc
  obtain ⟨c', q1, q2, q3, q4⟩ := rep_w ok
  obtain rfl : c' = c := by
    have := q2 []
    rw [hO] at this
    cases this
    rfl
  have q5 := eq_four (a := L) (b := (q.2.1 : Int)) (c := t) hL ht
  simp only [hO] at e1 e3 q2 q4
  subst hd
  unfold b_law_1_tl
  generalize hA : evSs _ _ _ _ = A
  simp! [eq_self, e1, e2, e3, e4, e5, e6, e7, en, g1, es, p1, p2, p3, q5, q3, q4, noX_okk] at hA
  generalize hX : forF _ _ _ _ = X at hA
  have hF := forF_gen hX
  clear hX
  have hl4 : (rngD 0 4).length = 4 := by simp [rngD]
  obtain ⟨ρ', m', rfl, r4, z9, z10, z11, H4, rfl, rfl⟩ := hF (fun i ρ m' => ∃ r z9 z10 z11, HdrB r ∧ ρ = [some sc, some (.res 2), some x, some (.tup [.str L, v]), y4, some q.1, some (.int (n : Int)), some (.int (s : Int)), some (.lst [.str L, .int (q.2.1 : Int), .str t, .bl true]), z9, z10, z11] ∧ m' = [x0, y0, r]) ⟨r3, _, _, _, H3, by rw [hO], rfl⟩ (by
    rintro i z ρ m' hz ⟨r, z9, z10, z11, H, rfl, rfl⟩
    obtain ⟨r', a, b, H', e⟩ := turn2 (x0 := x0) (y0 := y0) H fr hq hn hs sc z (some x) y4 (some (.lst [.str L, .int (q.2.1 : Int), .str t, .bl true])) z9 z10 z11
    exact ⟨_, _, .inl e, r', _, _, _, H', rfl, rfl⟩)
  simp! [eq_self] at hA
  exact ⟨r4, _, _, _, _, _, _, _, H4, hA.symm⟩
theorem turn1 {x0 y0 r : R} (H : HdrB r) (fr : List (Str × Addr)) (sc x : D) (y2 y3 y4 y5 y6 y7 y8 y9 y10 y11 : Option D) :
    ∃ r' z3 z4 z5 z6 z7 z8 z9 z10 z11, HdrB r' ∧ bodyD (.nm 2) (evSs (g_law fr) b_law_1) x [some sc, some (.res 2), y2, y3, y4, y5, y6, y7, y8, y9, y10, y11] [x0, y0, r] = some (.nx [some sc, some (.res 2), some x, z3, z4, z5, z6, z7, z8, z9, z10, z11] [x0, y0, r']) := by
  obtain ⟨d0, q0, r1, H1, hq0, e1⟩ := law_spec 2 2 (x := x0) (y := y0) (by omega) H []
  have e1 : F__law_spec 3 [.res 2, .int 2] [x0, y0, r] = some (.ok d0 [x0, y0, r1]) := e1
  obtain ⟨w1, r2, H2, hw1, e2⟩ := law_below (x := x0) (y := y0) H1 [] (5 : Int) (by omega) (by omega)
  rw [b_law_1_eq]
  by_cases c : (w1 : Int) = 0
  · obtain ⟨d1, q1, r3, H3, hq1, e3⟩ := law_spec 0 2 (x := x0) (y := y0) (by omega) H2 []
    have e3 : F__law_spec 3 [.res 2, .int 0] [x0, y0, r2] = some (.ok d1 [x0, y0, r3]) := e3
    obtain ⟨Q, hQ⟩ := spk_two hq1
    obtain ⟨r4, z5, z6, z7, z8, z9, z10, z11, H4, e⟩ := rest1 H3 fr hQ sc x (some (.tup [.str (Str.ofString "turn"), .tup [.tup [.str (Str.ofString "top"), .tup []], .tup [.str (Str.ofString "under"), .tup []]]])) y5 y6 y7 y8 y9 y10 y11
    refine ⟨r4, some (.tup [.str (Str.ofString "turn"), .tup [.tup [.str (Str.ofString "turn"), .tup [.tup [.str (Str.ofString "top"), .tup []], .tup [.str (Str.ofString "under"), .tup []]]], .tup [.str (Str.ofString "turn"), .tup [.tup [.str (Str.ofString "under"), .tup []], .tup [.str (Str.ofString "top"), .tup []], d1]]]]), some (.tup [.str (Str.ofString "turn"), .tup [.tup [.str (Str.ofString "top"), .tup []], .tup [.str (Str.ofString "under"), .tup []]]]), z5, z6, z7, z8, z9, z10, z11, H4, ?_⟩
    rw [← e]
    simp! [eq_self, e1, e2, c, e3]
  · obtain ⟨r4, z5, z6, z7, z8, z9, z10, z11, H4, e⟩ := rest1 H2 fr hq0 sc x y4 y5 y6 y7 y8 y9 y10 y11
    refine ⟨r4, some d0, y4, z5, z6, z7, z8, z9, z10, z11, H4, ?_⟩
    rw [← e]
    simp! [eq_self, e1, e2, c]
theorem plain (scr : List Int) (hl : scr.length ≤ 63) : ∃ m, F_law [.ext (scr.map .int)] [] = some (.ok (.bl true) m) := by
  refine ⟨[], runM_of fun fr => ?_⟩
  obtain ⟨x0, y0, r0, H0, e⟩ := law_random scr 31 hl
  generalize hA : runD _ _ _ _ _ _ = A
  simp! [eq_self, F_law, b_law, N_law, runD_eq, runG_eq, runFor_eq, e] at hA
  generalize hX : forF _ _ _ _ = X at hA
  have hF := forF_gen hX
  clear hX
  obtain ⟨ρ', m', rfl, r1, z2, z3, z4, z5, z6, z7, z8, z9, z10, z11, H1, rfl, rfl⟩ := hF (fun i ρ m' => ∃ r z2 z3 z4 z5 z6 z7 z8 z9 z10 z11, HdrB r ∧ ρ = [some (.ext (scr.map .int)), some (.res 2), z2, z3, z4, z5, z6, z7, z8, z9, z10, z11] ∧ m' = [x0, y0, r]) ⟨r0, _, _, _, _, _, _, _, _, _, _, H0, rfl, rfl⟩ (by
    rintro i z ρ m' hz ⟨r, z2, z3, z4, z5, z6, z7, z8, z9, z10, z11, H, rfl, rfl⟩
    obtain ⟨r', a3, a4, a5, a6, a7, a8, a9, a10, a11, H', e⟩ := turn1 H fr (.ext (scr.map .int)) z z2 z3 z4 z5 z6 z7 z8 z9 z10 z11
    exact ⟨_, _, .inl e, r', _, _, _, _, _, _, _, _, _, _, H', rfl, rfl⟩)
  simp! [eq_self] at hA
  rw [← hA]
  exact fin_nil rfl
end K31


namespace K31
open PySem PySem.Spec PyProof.Rows L2 Dv
theorem walk {l : PySem.W.OpenLaw} {q : Program} {loose : List Str} {XP : (Str → Option Value) → Heap → Prop} {YP : World → Heap → Prop} {d : DefRec} {K : Params → PySem.W.Frag} (hn : l.most = some 63) (hdf : d.params.defaults = [])
    (hY : ∀ (w : World) (h : Heap), YP w h → (K w.params).In h)
    (hq : ∀ y ∈ (["law"] : List Str), ((recsOf q).find? fun e => e.name == y).isSome = true)
    (F : ∀ (w : World) (mg : Str → Option Value) (fa : Addr) (h : Heap), (K w.params).In h → h.Ns mainGlobals mg → mg d.name = some (.ref fa) →
      (∀ y ∈ (["law"] : List Str), ∀ c P, PySem.W.tabIn (K w.params) y = some (c, P) → PySem.W.CodeHd h c P ∧ h.get? P = some { cls := .none, data := .fields #[] }) → LamX.LawAtS l w (K w.params) (L2N.CX l.prog w) 12 63 "_law_script" mg fa h) :
    PySem.W.WalkO q loose XP YP l.row.toRowW d [] (fun f vs => PySem.call f vs) :=
  walk_T (n := 63) (k := 12) (x := "_law_script") (CX := fun w => L2N.CX l.prog w) ["law"] hn (by decide) hdf ⟨rfl, by decide, by decide⟩ hY hq F fun w H s e s' z => by
      obtain ⟨_, _, _, _, _, _, _, _, _, _, _, _, z⟩ := z
      exact z.elim
end K31
open PySem PySem.W PyProof.Rows in
set_option maxRecDepth 100000 in
set_option maxHeartbeats 0 in
theorem PySem.Challenge.cw_borrowedmugs_k31_habits_of_washers_holds : PySem.Challenge.rw_borrowedmugs_k31_habits_of_washers.Holds := by
  w_on; o_law; k_head; (case hw => w_witness2)
  k_fill
  refine K31.walk (l := PySem.Challenge.rw_borrowedmugs_k31_habits_of_washers) rfl rfl (fun w h Y => PySem.W.km_in_of Y) (by decide +kernel) ?F
  case F =>
    intro w mg fa h KX G hmg hTab
    refine' K31.all_mk K31.plain KX G hmg hTab ?aC0 ?pg0 ?hd0 ?po0 ?sa0 ?mk0 ?kc0 ?n0_shelf ?n0_customs ?rdhC_Kitchen_MAX_MUGS ?gahC_Kitchen_MAX_MUGS ?fchC_Kitchen_MAX_MUGS ?ruhC_Kitchen_MAX_MUGS ?aC1 ?pg1 ?hd1 ?po1 ?sa1 ?mk1 ?kc1 ?n1_label ?n1_rounds ?aC2 ?pg2 ?hd2 ?po2 ?sa2 ?mk2 ?kc2 ?n2_label ?n2_rounds ?aC3 ?pg3 ?hd3 ?po3 ?sa3 ?mk3 ?kc3 ?n3_label ?n3_rounds ?aC4 ?pg4 ?hd4 ?po4 ?sa4 ?mk4 ?kc4 ?n4_label ?n4_rounds ?n4_level ?aC5 ?pg5 ?hd5 ?po5 ?sa5 ?mk5 ?kc5 ?n5_label ?n5_rounds ?n5_depths ?aC6 ?pg6 ?hd6 ?po6 ?sa6 ?mk6 ?kc6 ?n6_label ?n6_rounds ?n6_parts ?aC103 ?xe103 ?xk103 ?xs103 ?xt103 ?aC108 ?aC104 ?xe104 ?xk104 ?xs104 ?xt104 ?aC106 ?aC102 ?aC105 ?aC111 ?aC110 ?aC107 ?aC113 ?aC109 ?aC101 ?aC115 ?aC114 ?aC112 ?aC100 ?gA103 ?gB103 ?gD103 ?gE103 ?gH103 ?gF103_index ?gF103_part ?gF103_word ?gF103_row ?gF103_offset ?xi103_108 ?xi103_104 ?xi103_103 ?xi103_106 ?xi103_102 ?xi103_105 ?xi103_111 ?xi103_110 ?xi103_107 ?xi103_113 ?xi103_109 ?xi103_101 ?xi103_115 ?xi103_114 ?xi103_112 ?xi103_99 ?gA104 ?gB104 ?gD104 ?gE104 ?gH104 ?gF104_index ?gF104_part ?gF104_word ?gF104_row ?gF104_offset ?xi104_108 ?xi104_104 ?xi104_103 ?xi104_106 ?xi104_102 ?xi104_105 ?xi104_111 ?xi104_110 ?xi104_107 ?xi104_113 ?xi104_109 ?xi104_101 ?xi104_115 ?xi104_114 ?xi104_112 ?xi104_99 ?gN ?gT ?uA0 ?uM0 ?xiU0_1 ?uA1 ?uM1 ?xiU1_1 ?uA2 ?uM2 ?xiU2_1 ?uA3 ?uM3 ?xiU3_1 ?uA4 ?uM4 ?xiU4_1 ?uA5 ?uM5 ?xiU5_1 ?uA6 ?uM6 ?xiU6_1 ?xm103_100 ?xm104_100 ?a22 ?l22 ?c22 ?k22 ?a23 ?l23 ?c23 ?k23 ?a24 ?l24 ?c24 ?k24 ?a6 ?i6 ?l6 ?c6 ?k6 ?lT6 ?vT6 ?a11 ?i11 ?l11 ?c11 ?k11 ?kl11 ?kf11 ?ke11 ?cu11 ?sc11 ?sm11 ?sn11 ?st11 ?sf11 ?a12 ?i12 ?l12 ?c12 ?k12 ?kl12 ?kf12 ?ke12 ?cu12 ?sc12 ?sm12 ?sn12 ?st12 ?sf12 ?a5 ?l5 ?c5 ?k5 ?a14 ?i14 ?l14 ?c14 ?k14 ?kl14 ?kf14 ?ke14 ?cu14 ?sc14 ?sm14 ?sn14 ?st14 ?sf14 ?a16 ?i16 ?l16 ?c16 ?k16 ?kl16 ?kf16 ?ke16 ?cu16 ?sc16 ?sm16 ?sn16 ?st16 ?sf16 ?a25 ?l25 ?c25 ?k25 ?a7 ?pq7 ?pt7 ?pr7 ?l7 ?c7 ?k7 ?a20 ?l20 ?c20 ?k20 ?a18 ?i18 ?l18 ?c18 ?k18 ?kl18 ?kf18 ?ke18 ?cu18 ?sc18 ?sm18 ?sn18 ?st18 ?sf18 ?a26 ?l26 ?c26 ?k26 ?a21 ?l21 ?c21 ?k21 ?a29 ?l29 ?c29 ?k29 ?a28 ?l28 ?c28 ?k28 ?a27 ?l27 ?c27 ?k27 ?a30 ?l30 ?c30 ?k30 ?a31 ?l31 ?c31 ?k31 ?a8 ?i8 ?l8 ?c8 ?k8 ?a13 ?i13 ?l13 ?c13 ?k13 ?a15 ?i15 ?l15 ?c15 ?k15 ?a10 ?i10 ?l10 ?c10 ?k10 ?a17 ?i17 ?l17 ?c17 ?k17 ?a1 ?l1 ?c1 ?k1 ?a9 ?i9 ?l9 ?c9 ?k9 ?a19 ?i19 ?l19 ?c19 ?k19 ?a32 ?l32 ?c32 ?k32 ?kl32 ?kp32 ?kn32 ?ai7_2 ?ai8_2 ?ai9_2 ?ai10_2 ?ai7_3 ?ai9_3 ?ai10_3 ?ai7_4 ?ai9_4 ?ai10_4 ?ai7_5 ?ai8_5 ?ai9_5 ?ai7_6 ?ai8_6 ?ai9_6 ?zsup ?sop ?stp ?z_abs ?z_len ?z_range ?z_tuple ?z_isinstance ?z_int ?z_bool ?yhG_MAX_DEPTH ?z_str ?z_list ?z_all ?z_min ?z_ValueError ?z_enumerate ?z_divmod
    (case aC0 => k_is)
    (case pg0 => k_is)
    (case hd0 => k_is)
    (case po0 => k_is)
    (case sa0 => k_is)
    (case mk0 => k_is)
    (case kc0 => k_is)
    (case n0_shelf => k_is)
    (case n0_customs => k_is)
    (case rdhC_Kitchen_MAX_MUGS => k_is)
    (case gahC_Kitchen_MAX_MUGS => k_is)
    (case fchC_Kitchen_MAX_MUGS => k_is)
    (case ruhC_Kitchen_MAX_MUGS => exact ⟨_, rfl⟩)
    (case aC1 => k_is)
    (case pg1 => k_is)
    (case hd1 => k_is)
    (case po1 => k_is)
    (case sa1 => k_is)
    (case mk1 => k_is)
    (case kc1 => k_is)
    (case n1_label => k_is)
    (case n1_rounds => k_is)
    (case aC2 => k_is)
    (case pg2 => k_is)
    (case hd2 => k_is)
    (case po2 => k_is)
    (case sa2 => k_is)
    (case mk2 => k_is)
    (case kc2 => k_is)
    (case n2_label => k_is)
    (case n2_rounds => k_is)
    (case aC3 => k_is)
    (case pg3 => k_is)
    (case hd3 => k_is)
    (case po3 => k_is)
    (case sa3 => k_is)
    (case mk3 => k_is)
    (case kc3 => k_is)
    (case n3_label => k_is)
    (case n3_rounds => k_is)
    (case aC4 => k_is)
    (case pg4 => k_is)
    (case hd4 => k_is)
    (case po4 => k_is)
    (case sa4 => k_is)
    (case mk4 => k_is)
    (case kc4 => k_is)
    (case n4_label => k_is)
    (case n4_rounds => k_is)
    (case n4_level => k_is)
    (case aC5 => k_is)
    (case pg5 => k_is)
    (case hd5 => k_is)
    (case po5 => k_is)
    (case sa5 => k_is)
    (case mk5 => k_is)
    (case kc5 => k_is)
    (case n5_label => k_is)
    (case n5_rounds => k_is)
    (case n5_depths => k_is)
    (case aC6 => k_is)
    (case pg6 => k_is)
    (case hd6 => k_is)
    (case po6 => k_is)
    (case sa6 => k_is)
    (case mk6 => k_is)
    (case kc6 => k_is)
    (case n6_label => k_is)
    (case n6_rounds => k_is)
    (case n6_parts => k_is)
    (case aC103 => k_is)
    (case xe103 => k_exc)
    (case xk103 => k_is)
    (case xs103 => k_is)
    (case xt103 => k_is)
    (case aC108 => k_is)
    (case aC104 => k_is)
    (case xe104 => k_exc)
    (case xk104 => k_is)
    (case xs104 => k_is)
    (case xt104 => k_is)
    (case aC106 => k_is)
    (case aC102 => k_is)
    (case aC105 => k_is)
    (case aC111 => k_is)
    (case aC110 => k_is)
    (case aC107 => k_is)
    (case aC113 => k_is)
    (case aC109 => k_is)
    (case aC101 => k_is)
    (case aC115 => k_is)
    (case aC114 => k_is)
    (case aC112 => k_is)
    (case aC100 => k_is)
    (case gA103 => k_is)
    (case gB103 => k_is)
    (case gD103 => k_is)
    (case gE103 => k_is)
    (case gH103 => k_is)
    (case gF103_index => k_is)
    (case gF103_part => k_is)
    (case gF103_word => k_is)
    (case gF103_row => k_is)
    (case gF103_offset => k_is)
    (case xi103_108 => kit_is)
    (case xi103_104 => kit_is)
    (case xi103_103 => kit_is)
    (case xi103_106 => kit_is)
    (case xi103_102 => kit_is)
    (case xi103_105 => kit_is)
    (case xi103_111 => kit_is)
    (case xi103_110 => kit_is)
    (case xi103_107 => kit_is)
    (case xi103_113 => kit_is)
    (case xi103_109 => kit_is)
    (case xi103_101 => kit_is)
    (case xi103_115 => kit_is)
    (case xi103_114 => kit_is)
    (case xi103_112 => kit_is)
    (case xi103_99 => kit_is)
    (case gA104 => k_is)
    (case gB104 => k_is)
    (case gD104 => k_is)
    (case gE104 => k_is)
    (case gH104 => k_is)
    (case gF104_index => k_is)
    (case gF104_part => k_is)
    (case gF104_word => k_is)
    (case gF104_row => k_is)
    (case gF104_offset => k_is)
    (case xi104_108 => kit_is)
    (case xi104_104 => kit_is)
    (case xi104_103 => kit_is)
    (case xi104_106 => kit_is)
    (case xi104_102 => kit_is)
    (case xi104_105 => kit_is)
    (case xi104_111 => kit_is)
    (case xi104_110 => kit_is)
    (case xi104_107 => kit_is)
    (case xi104_113 => kit_is)
    (case xi104_109 => kit_is)
    (case xi104_101 => kit_is)
    (case xi104_115 => kit_is)
    (case xi104_114 => kit_is)
    (case xi104_112 => kit_is)
    (case xi104_99 => kit_is)
    (case gN => k_is)
    (case gT => k_is)
    (case uA0 => k_is)
    (case uM0 => k_is)
    (case xiU0_1 => kit_is)
    (case uA1 => k_is)
    (case uM1 => k_is)
    (case xiU1_1 => kit_is)
    (case uA2 => k_is)
    (case uM2 => k_is)
    (case xiU2_1 => kit_is)
    (case uA3 => k_is)
    (case uM3 => k_is)
    (case xiU3_1 => kit_is)
    (case uA4 => k_is)
    (case uM4 => k_is)
    (case xiU4_1 => kit_is)
    (case uA5 => k_is)
    (case uM5 => k_is)
    (case xiU5_1 => kit_is)
    (case uA6 => k_is)
    (case uM6 => k_is)
    (case xiU6_1 => kit_is)
    (case xm103_100 => kts_exm)
    (case xm104_100 => kts_exm)
    (case a22 => k_is)
    (case l22 => k_is)
    (case c22 => k_is)
    (case k22 => k_is)
    (case a23 => k_is)
    (case l23 => k_is)
    (case c23 => k_is)
    (case k23 => k_is)
    (case a24 => k_is)
    (case l24 => k_is)
    (case c24 => k_is)
    (case k24 => k_is)
    (case a6 => k_is)
    (case i6 => k_is)
    (case l6 => k_is)
    (case c6 => k_is)
    (case k6 => k_is)
    (case lT6 => k_is)
    (case vT6 => exact (.cons ⟨_, rfl⟩ .nil))
    (case a11 => k_is)
    (case i11 => k_is)
    (case l11 => k_is)
    (case c11 => k_is)
    (case k11 => k_is)
    (case kl11 => k_is)
    (case kf11 => exact rfl)
    (case ke11 => first | rfl | kernel_rfl | decide +kernel)
    (case cu11 => k_is)
    (case sc11 => k_is)
    (case sm11 => k_is)
    (case sn11 => ks_is)
    (case st11 => k_is)
    (case sf11 => k_is)
    (case a12 => k_is)
    (case i12 => k_is)
    (case l12 => k_is)
    (case c12 => k_is)
    (case k12 => k_is)
    (case kl12 => k_is)
    (case kf12 => exact rfl)
    (case ke12 => first | rfl | kernel_rfl | decide +kernel)
    (case cu12 => k_is)
    (case sc12 => k_is)
    (case sm12 => k_is)
    (case sn12 => ks_is)
    (case st12 => k_is)
    (case sf12 => k_is)
    (case a5 => k_is)
    (case l5 => k_is)
    (case c5 => k_is)
    (case k5 => k_is)
    (case a14 => k_is)
    (case i14 => k_is)
    (case l14 => k_is)
    (case c14 => k_is)
    (case k14 => k_is)
    (case kl14 => k_is)
    (case kf14 => exact rfl)
    (case ke14 => first | rfl | kernel_rfl | decide +kernel)
    (case cu14 => k_is)
    (case sc14 => k_is)
    (case sm14 => k_is)
    (case sn14 => ks_is)
    (case st14 => k_is)
    (case sf14 => k_is)
    (case a16 => k_is)
    (case i16 => k_is)
    (case l16 => k_is)
    (case c16 => k_is)
    (case k16 => k_is)
    (case kl16 => k_is)
    (case kf16 => exact rfl)
    (case ke16 => first | rfl | kernel_rfl | decide +kernel)
    (case cu16 => k_is)
    (case sc16 => k_is)
    (case sm16 => k_is)
    (case sn16 => ks_is)
    (case st16 => k_is)
    (case sf16 => k_is)
    (case a25 => k_is)
    (case l25 => k_is)
    (case c25 => k_is)
    (case k25 => k_is)
    (case a7 => k_is)
    (case pq7 => k_is)
    (case pt7 => k_is)
    (case pr7 => k_is)
    (case l7 => k_is)
    (case c7 => k_is)
    (case k7 => k_is)
    (case a20 => k_is)
    (case l20 => k_is)
    (case c20 => k_is)
    (case k20 => k_is)
    (case a18 => k_is)
    (case i18 => k_is)
    (case l18 => k_is)
    (case c18 => k_is)
    (case k18 => k_is)
    (case kl18 => k_is)
    (case kf18 => exact rfl)
    (case ke18 => first | rfl | kernel_rfl | decide +kernel)
    (case cu18 => k_is)
    (case sc18 => k_is)
    (case sm18 => k_is)
    (case sn18 => ks_is)
    (case st18 => k_is)
    (case sf18 => k_is)
    (case a26 => k_is)
    (case l26 => k_is)
    (case c26 => k_is)
    (case k26 => k_is)
    (case a21 => k_is)
    (case l21 => k_is)
    (case c21 => k_is)
    (case k21 => k_is)
    (case a29 => k_is)
    (case l29 => k_is)
    (case c29 => k_is)
    (case k29 => k_is)
    (case a28 => k_is)
    (case l28 => k_is)
    (case c28 => k_is)
    (case k28 => k_is)
    (case a27 => k_is)
    (case l27 => k_is)
    (case c27 => k_is)
    (case k27 => k_is)
    (case a30 => k_is)
    (case l30 => k_is)
    (case c30 => k_is)
    (case k30 => k_is)
    (case a31 => k_is)
    (case l31 => k_is)
    (case c31 => k_is)
    (case k31 => k_is)
    (case a8 => k_is)
    (case i8 => k_is)
    (case l8 => k_is)
    (case c8 => k_is)
    (case k8 => k_is)
    (case a13 => k_is)
    (case i13 => k_is)
    (case l13 => k_is)
    (case c13 => k_is)
    (case k13 => k_is)
    (case a15 => k_is)
    (case i15 => k_is)
    (case l15 => k_is)
    (case c15 => k_is)
    (case k15 => k_is)
    (case a10 => k_is)
    (case i10 => k_is)
    (case l10 => k_is)
    (case c10 => k_is)
    (case k10 => k_is)
    (case a17 => k_is)
    (case i17 => k_is)
    (case l17 => k_is)
    (case c17 => k_is)
    (case k17 => k_is)
    (case a1 => k_is)
    (case l1 => k_is)
    (case c1 => k_is)
    (case k1 => k_is)
    (case a9 => k_is)
    (case i9 => k_is)
    (case l9 => k_is)
    (case c9 => k_is)
    (case k9 => k_is)
    (case a19 => k_is)
    (case i19 => k_is)
    (case l19 => k_is)
    (case c19 => k_is)
    (case k19 => k_is)
    (case a32 => k_is)
    (case l32 => k_is)
    (case c32 => k_is)
    (case k32 => k_is)
    (case kl32 => k_is)
    (case kp32 => exact rfl)
    (case kn32 => first | kernel_rfl | exact rfl)
    (case ai7_2 => k_is)
    (case ai8_2 => k_is)
    (case ai9_2 => k_is)
    (case ai10_2 => k_is)
    (case ai7_3 => k_is)
    (case ai9_3 => k_is)
    (case ai10_3 => k_is)
    (case ai7_4 => k_is)
    (case ai9_4 => k_is)
    (case ai10_4 => k_is)
    (case ai7_5 => k_is)
    (case ai8_5 => k_is)
    (case ai9_5 => k_is)
    (case ai7_6 => k_is)
    (case ai8_6 => k_is)
    (case ai9_6 => k_is)
    (case zsup => k_is)
    (case sop => k_is)
    (case stp => first | rfl | kernel_rfl | decide +kernel)
    (case z_abs => k_is)
    (case z_len => k_is)
    (case z_range => k_is)
    (case z_tuple => k_is)
    (case z_isinstance => k_is)
    (case z_int => k_is)
    (case z_bool => k_is)
    (case yhG_MAX_DEPTH => k_is)
    (case z_str => k_is)
    (case z_list => k_is)
    (case z_all => k_is)
    (case z_min => k_is)
    (case z_ValueError => k_is)
    (case z_enumerate => k_is)
    (case z_divmod => k_is)

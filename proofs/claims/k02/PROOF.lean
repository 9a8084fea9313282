import PyProof.Rows.All
import Wide.All
import OpenK.AllK
import Wide.FinOn
import HandS.ForMost
import HandS.ForExc
import HandS.Deep
import HandS.Lambda
import HandS.TupAny
import HandS.TupMul
import HandS.Wide
import HandS.Steps
import KE.DataCmp
import HandS.Style
import HandS.IsInst
import HandS.TupLen
import HandS.Conv
import KE.SortData
import HandS.RaiseMore
import HandS.WordsExc
import HandS.Zip
import HandS.Iter
import HandS.ExcInit
import HandS.ExcField
import HandS.EndTab
import PySem.Challenge.RW_everycrew_k02_whole_tokens
set_option Elab.async false
set_option linter.all false
set_option maxRecDepth 100000
set_option maxHeartbeats 8000000
namespace EC
open PySem PySem.Spec PyProof.Rows L2
/-- a datum: what does not change -/
inductive D where
  | non | bl (b : Bool) | int (i : Int) | str (s : Str)
  | tup (ds : List D) | lst (ds : List D)
  | dct (ks : List Key) (vs : List D)
  | dtt (ks : List (List Key)) (vs : List D)
  | ins (c : Str) (vs : List D)
  | scr (ns : List Int)
  | kup (ds : List D)
  | fn (f : Str) | cls (c : Str) | bty (n : String)
/-- a thing that changes -/
inductive Cell where
  | lst (ds : List D)
  | dct (ks : List Key) (vs : List D)
  | ins (c : Str) (vs : List D)
abbrev Store := List Cell
/-- a result: a value, an exception of the text's own, or nothing that is served -/
inductive Res (α : Type) where
  | ok (a : α) (S : Store)
  | ex (c : Str) (fs : List D) (S : Store)
  | bad
/-- what a name may hold: a datum, a cell of the store, or the lambda that was handed in -/
inductive W where
  | dat (d : D) | cell (n : Nat) | lam (run : Store → Res D)
abbrev Env0' := List (Option W)
/-- a class of the text: its address, its fields in the order in which __init__ sets them -/
structure ClsI where
  C : Addr
  fields : List Str
  init : Option (Str × Addr)
  meths : List (Str × Str × Addr)
  muta : Bool
/-- the heap went on: the cells may have changed, new things may stand; nothing else changed -/
structure Ext (ι : List Addr) (H : Hp) (ι' : List Addr) (H' : Hp) : Prop where
  pre : ∃ l, ι' = ι ++ l ∧ ∀ a ∈ l, H a = none
  keep : ∀ a o, a ∉ ι → H a = some o → (∀ ps, o ≠ .tbl ps) → H' a = some o
  stay : ∀ a, H' a = none → H a = none
/-- a lambda that was handed in: its address, and what holds of what it captured -/
structure LamI where
  f : Addr
  run : Store → Res D
  cap : List Addr → Hp → Prop
  mono : ∀ {ι : List Addr} {H : Hp} {ι' : List Addr} {H' : Hp}, Ext ι H ι' H' → cap ι H → cap ι' H'
/-- where the text's things lie -/
structure Gam where
  fns : List (Str × Addr)
  clss : List (Str × ClsI)
  cons : List (Str × D)
  exs : List (Str × ClsI)
  tabs : List (Addr × Str)
  cds : List (Addr × Addr)
  lam : Option LamI
def KT (K : PySem.W.Frag) (a : Addr) (xs : List V) : Prop :=
  ∃ (o : Obj) (its : Array Value) (n : Nat), K.lookup a = some o ∧ o.cls = .type "tuple" ∧ o.data = .seq its n ∧ its.size ≤ sizeLine ∧ Vals xs its.toList
def KL (K : PySem.W.Frag) (a : Addr) (xs : List V) : Prop :=
  ∃ (o : Obj) (its : Array Value) (n : Nat), K.lookup a = some o ∧ o.cls = .type "list" ∧ o.dict = none ∧ o.data = .seq its n ∧ its.size ≤ sizeLine ∧ Vals xs its.toList
mutual
inductive Rep (K : PySem.W.Frag) (G : Gam) (ι : List Addr) (H : Hp) : V → D → Prop
  | non : Rep K G ι H .non .non
  | bl (b : Bool) : Rep K G ι H (.bl b) (.bl b)
  | int (i : Int) : Rep K G ι H (.int i) (.int i)
  | str (x : Str) : Rep K G ι H (.str x) (.str x)
  | tup {a : Addr} {xs : List V} {ds : List D} : a ∉ ι → H a = some (.tup xs) → RepAll K G ι H xs ds → Rep K G ι H (.ref a) (.tup ds)
  | kup {a : Addr} {xs : List V} {ds : List D} : KT K a xs → RepAll K G ι H xs ds → Rep K G ι H (.ref a) (.kup ds)
  | lst {a : Addr} {xs : List V} {ds : List D} : a ∉ ι → H a = some (.lst xs) → RepAll K G ι H xs ds → Rep K G ι H (.ref a) (.lst ds)
  | scr {a : Addr} {ns : List Int} : (a ∉ ι ∧ Rd H a (.lst (ns.map V.int))) ∨ KL K a (ns.map V.int) → Rep K G ι H (.ref a) (.scr ns)
  | dct {a : Addr} {xs : List V} {ks : List Key} {ds : List D} : a ∉ ι → H a = some (.dK (ks.zip xs)) → ks.length = xs.length → RepAll K G ι H xs ds → Rep K G ι H (.ref a) (.dct ks ds)
  | dtt {a : Addr} {xs : List V} {ks : List (List Key)} {ds : List D} : a ∉ ι → H a = some (.dT (ks.zip xs)) → ks.length = xs.length → RepAll K G ι H xs ds → Rep K G ι H (.ref a) (.dtt ks ds)
  | ins {a dx : Addr} {c : Str} {ci : ClsI} {xs : List V} {ds : List D} : a ∉ ι → G.clss.lookup c = some ci → H a = some (.ins ci.C dx (ci.fields.zip xs)) → ci.fields.length = xs.length → RepAll K G ι H xs ds → Rep K G ι H (.ref a) (.ins c ds)
  | fn {f : Str} {a : Addr} : G.fns.lookup f = some a → Rep K G ι H (.ref a) (.fn f)
  | cls {c : Str} {ci : ClsI} : G.clss.lookup c = some ci → Rep K G ι H (.ref ci.C) (.cls c)
  | bty (n : String) : Rep K G ι H (.ty n) (.bty n)
inductive RepAll (K : PySem.W.Frag) (G : Gam) (ι : List Addr) (H : Hp) : List V → List D → Prop
  | nil : RepAll K G ι H [] []
  | cons {v : V} {vs : List V} {d : D} {ds : List D} : Rep K G ι H v d → RepAll K G ι H vs ds → RepAll K G ι H (v :: vs) (d :: ds)
end
theorem Ext.refl (ι : List Addr) (H : Hp) : Ext ι H ι H := ⟨⟨[], by simp, by simp⟩, fun _ _ _ h _ => h, fun _ h => h⟩
theorem Ext.trans {ι ι1 ι2 : List Addr} {H H1 H2 : Hp} (a : Ext ι H ι1 H1) (b : Ext ι1 H1 ι2 H2) : Ext ι H ι2 H2 := by
  obtain ⟨l, e, hl⟩ := a.pre
  obtain ⟨m, e', hm⟩ := b.pre
  refine ⟨⟨l ++ m, by rw [e', e, List.append_assoc], fun x hx => ?_⟩, fun x o hx h hn => ?_, fun x h => a.stay x (b.stay x h)⟩
  · rcases List.mem_append.mp hx with z | z
    · exact hl x z
    · exact a.stay x (hm x z)
  · refine b.keep x o (fun z => ?_) (a.keep x o hx h hn) hn
    rw [e] at z
    rcases List.mem_append.mp z with z | z
    · exact hx z
    · rw [hl x z] at h; cases h
theorem Ext.out {ι ι' : List Addr} {H H' : Hp} (e : Ext ι H ι' H') {a : Addr} {o : HO} (hn : a ∉ ι) (h : H a = some o) : a ∉ ι' := fun z => by
  obtain ⟨l, e1, hl⟩ := e.pre
  rw [e1] at z
  rcases List.mem_append.mp z with z | z
  · exact hn z
  · rw [hl a z] at h; cases h
theorem Ext.idx {ι ι' : List Addr} {H H' : Hp} (e : Ext ι H ι' H') {n : Nat} {a : Addr} (h : ι[n]? = some a) : ι'[n]? = some a := by
  obtain ⟨l, e1, _⟩ := e.pre
  rw [e1, List.getElem?_append_left (by obtain ⟨h, _⟩ := List.getElem?_eq_some_iff.mp h; exact h)]
  exact h
theorem Ext.len {ι ι' : List Addr} {H H' : Hp} (e : Ext ι H ι' H') : ι.length ≤ ι'.length := by
  obtain ⟨l, e1, _⟩ := e.pre
  rw [e1, List.length_append]; omega
theorem Ext.take {ι ι' : List Addr} {H H' : Hp} (e : Ext ι H ι' H') : ι'.take ι.length = ι := by
  obtain ⟨l, e1, _⟩ := e.pre
  rw [e1, List.take_left]
/-- a new thing -/
theorem Ext.new {ι : List Addr} {H : Hp} {p : Addr} {o : HO} (h : H p = none) : Ext ι H ι (upd H p o) :=
  ⟨⟨[], by simp, by simp⟩, fun a u _ e _ => by rw [upd_ne (ne_of_none e h)]; exact e, fun a e => by
    by_cases q : a = p
    · rw [q]; exact h
    · rw [upd_ne q] at e; exact e⟩
/-- back to fewer cells -/
theorem Ext.back {ι ι' : List Addr} {H H' : Hp} (e : Ext ι H ι' H') : Ext ι H ι H' := ⟨⟨[], by simp, by simp⟩, e.keep, e.stay⟩
theorem Rd.ext {ι ι' : List Addr} {H H' : Hp} (e : Ext ι H ι' H') {a : Addr} {u : HO} (hn : a ∉ ι) (h : Rd H a u) (hu : ∀ ps, u ≠ .tbl ps) : a ∉ ι' ∧ Rd H' a u := by
  rcases h with h | ⟨o, h⟩
  · exact ⟨e.out hn h, .inl (e.keep a _ hn h hu)⟩
  · exact ⟨e.out hn h, .inr ⟨o, e.keep a _ hn h (fun ps z => by cases z)⟩⟩
section
variable {K : PySem.W.Frag} {G : Gam} {ι ι' : List Addr} {H H' : Hp}
mutual
theorem Rep.ext (e : Ext ι H ι' H') {v : V} {d : D} (r : Rep K G ι H v d) : Rep K G ι' H' v d := by
  cases r with
  | non => exact .non
  | bl b => exact .bl b
  | int i => exact .int i
  | str x => exact .str x
  | tup h1 h2 hr => exact .tup (e.out h1 h2) (e.keep _ _ h1 h2 (fun _ z => by cases z)) (RepAll.ext e hr)
  | kup h hr => exact .kup h (RepAll.ext e hr)
  | lst h1 h2 hr => exact .lst (e.out h1 h2) (e.keep _ _ h1 h2 (fun _ z => by cases z)) (RepAll.ext e hr)
  | scr h =>
    refine .scr ?_
    rcases h with ⟨h1, h2⟩ | h
    · exact .inl (Rd.ext e h1 h2 fun _ z => by cases z)
    · exact .inr h
  | dct h1 h2 h3 hr => exact .dct (e.out h1 h2) (e.keep _ _ h1 h2 (fun _ z => by cases z)) h3 (RepAll.ext e hr)
  | dtt h1 h2 h3 hr => exact .dtt (e.out h1 h2) (e.keep _ _ h1 h2 (fun _ z => by cases z)) h3 (RepAll.ext e hr)
  | ins h1 h2 h3 h4 hr => exact .ins (e.out h1 h3) h2 (e.keep _ _ h1 h3 (fun _ z => by cases z)) h4 (RepAll.ext e hr)
  | fn h => exact .fn h
  | cls h => exact .cls h
  | bty n => exact .bty n
theorem RepAll.ext (e : Ext ι H ι' H') {vs : List V} {ds : List D} (r : RepAll K G ι H vs ds) : RepAll K G ι' H' vs ds := by
  cases r with
  | nil => exact .nil
  | cons h t => exact .cons (Rep.ext e h) (RepAll.ext e t)
end
mutual
/-- fewer cells -/
theorem Rep.less (e : ∀ a, a ∉ ι → a ∉ ι') {v : V} {d : D} (r : Rep K G ι H v d) : Rep K G ι' H v d := by
  cases r with
  | non => exact .non
  | bl b => exact .bl b
  | int i => exact .int i
  | str x => exact .str x
  | tup h1 h2 hr => exact .tup (e _ h1) h2 (RepAll.less e hr)
  | kup h hr => exact .kup h (RepAll.less e hr)
  | lst h1 h2 hr => exact .lst (e _ h1) h2 (RepAll.less e hr)
  | scr h => exact .scr (h.imp (fun z => ⟨e _ z.1, z.2⟩) id)
  | dct h1 h2 h3 hr => exact .dct (e _ h1) h2 h3 (RepAll.less e hr)
  | dtt h1 h2 h3 hr => exact .dtt (e _ h1) h2 h3 (RepAll.less e hr)
  | ins h1 h2 h3 h4 hr => exact .ins (e _ h1) h2 h3 h4 (RepAll.less e hr)
  | fn h => exact .fn h
  | cls h => exact .cls h
  | bty n => exact .bty n
theorem RepAll.less (e : ∀ a, a ∉ ι → a ∉ ι') {vs : List V} {ds : List D} (r : RepAll K G ι H vs ds) : RepAll K G ι' H vs ds := by
  cases r with
  | nil => exact .nil
  | cons h t => exact .cons (Rep.less e h) (RepAll.less e t)
end
theorem RepAll.length : ∀ {vs : List V} {ds : List D}, RepAll K G ι H vs ds → vs.length = ds.length
  | _, _, .nil => rfl
  | _, _, .cons _ t => congrArg (· + 1) (RepAll.length t)
theorem RepAll.append : ∀ {vs us : List V} {ds es : List D}, RepAll K G ι H vs ds → RepAll K G ι H us es → RepAll K G ι H (vs ++ us) (ds ++ es)
  | _, _, _, _, .nil, s => s
  | _, _, _, _, .cons r t, s => .cons r (RepAll.append t s)
theorem RepAll.get : ∀ {vs : List V} {ds : List D} {i : Nat} {d : D}, RepAll K G ι H vs ds → ds[i]? = some d → ∃ v, vs[i]? = some v ∧ Rep K G ι H v d
  | _, _, _, _, .nil, e => by simp at e
  | _, _, 0, _, .cons r _, e => by simp at e; subst e; exact ⟨_, rfl, r⟩
  | _, _, i + 1, d, .cons _ t, e => by
    obtain ⟨v, h1, h2⟩ := RepAll.get (i := i) (d := d) t (by simpa using e)
    exact ⟨v, by simpa using h1, h2⟩
theorem RepAll.getV {vs : List V} {ds : List D} {i : Nat} {v : V} (r : RepAll K G ι H vs ds) (h : vs[i]? = some v) : ∃ d, ds[i]? = some d ∧ Rep K G ι H v d := by
  have hl := r.length
  obtain ⟨h1, h2⟩ := List.getElem?_eq_some_iff.mp h
  have hd : ds[i]? = some (ds[i]'(by omega)) := by simp
  obtain ⟨u, e1, e2⟩ := r.get hd
  rw [h] at e1; cases e1
  exact ⟨_, hd, e2⟩
theorem RepAll.set {v : V} {d : D} (r : Rep K G ι H v d) : ∀ {vs : List V} {ds : List D} (i : Nat), RepAll K G ι H vs ds → RepAll K G ι H (vs.set i v) (ds.set i d)
  | _, _, _, .nil => .nil
  | _, _, 0, .cons _ t => .cons r t
  | _, _, i + 1, .cons q t => .cons q (RepAll.set r i t)
theorem RepAll.take : ∀ {vs : List V} {ds : List D} (n : Nat), RepAll K G ι H vs ds → RepAll K G ι H (vs.take n) (ds.take n)
  | _, _, 0, _ => .nil
  | _, _, _ + 1, .nil => .nil
  | _, _, n + 1, .cons r t => .cons r (RepAll.take n t)
theorem RepAll.drop : ∀ {vs : List V} {ds : List D} (n : Nat), RepAll K G ι H vs ds → RepAll K G ι H (vs.drop n) (ds.drop n)
  | _, _, 0, r => r
  | _, _, _ + 1, .nil => .nil
  | _, _, n + 1, .cons _ t => RepAll.drop n t
theorem RepAll.reverse : ∀ {vs : List V} {ds : List D}, RepAll K G ι H vs ds → RepAll K G ι H vs.reverse ds.reverse
  | _, _, .nil => .nil
  | _, _, .cons r t => by
    rw [List.reverse_cons, List.reverse_cons]
    exact (RepAll.reverse t).append (.cons r .nil)
theorem RepAll.eraseIdx : ∀ {vs : List V} {ds : List D} (n : Nat), RepAll K G ι H vs ds → RepAll K G ι H (vs.eraseIdx n) (ds.eraseIdx n)
  | _, _, _, .nil => .nil
  | _, _, 0, .cons _ t => t
  | _, _, n + 1, .cons r t => .cons r (RepAll.eraseIdx n t)
/-- values of the wanted shape -/
theorem RepAll.ints : ∀ {vs : List V} {ns : List Int}, RepAll K G ι H vs (ns.map D.int) → vs = ns.map V.int
  | _, [], .nil => rfl
  | _, n :: ns, .cons r t => by
    cases r
    rw [List.map_cons, ← RepAll.ints t]
theorem RepAll.strs : ∀ {vs : List V} {ns : List Str}, RepAll K G ι H vs (ns.map D.str) → vs = ns.map V.str
  | _, [], .nil => rfl
  | _, n :: ns, .cons r t => by
    cases r
    rw [List.map_cons, ← RepAll.strs t]
theorem RepAll.bls : ∀ {vs : List V} {ns : List Bool}, RepAll K G ι H vs (ns.map D.bl) → vs = ns.map V.bl
  | _, [], .nil => rfl
  | _, n :: ns, .cons r t => by
    cases r
    rw [List.map_cons, ← RepAll.bls t]
theorem RepAll.ofInts : ∀ ns : List Int, RepAll K G ι H (ns.map V.int) (ns.map D.int)
  | [] => .nil
  | _ :: ns => .cons (.int _) (RepAll.ofInts ns)
theorem RepAll.ofStrs : ∀ ns : List Str, RepAll K G ι H (ns.map V.str) (ns.map D.str)
  | [] => .nil
  | _ :: ns => .cons (.str _) (RepAll.ofStrs ns)
theorem RepAll.ofBls : ∀ ns : List Bool, RepAll K G ι H (ns.map V.bl) (ns.map D.bl)
  | [] => .nil
  | _ :: ns => .cons (.bl _) (RepAll.ofBls ns)
end
/-- what lies in a cell, frozen -/
def Cell.frz : Cell → D
  | .lst ds => .lst ds
  | .dct ks vs => .dct ks vs
  | .ins c vs => .ins c vs
def CellOk (K : PySem.W.Frag) (G : Gam) (ι : List Addr) (H : Hp) (a : Addr) : Cell → Prop
  | .lst ds => ∃ xs, H a = some (.lst xs) ∧ RepAll K G ι H xs ds
  | .dct ks vs => ∃ xs, H a = some (.dK (ks.zip xs)) ∧ ks.length = xs.length ∧ RepAll K G ι H xs vs
  | .ins c vs => ∃ ci dx xs, G.clss.lookup c = some ci ∧ H a = some (.ins ci.C dx (ci.fields.zip xs)) ∧ xs.length ≤ ci.fields.length ∧ RepAll K G ι H xs vs
structure StOk (K : PySem.W.Frag) (G : Gam) (ι : List Addr) (S : Store) (H : Hp) : Prop where
  len : ι.length = S.length
  nd : ι.Nodup
  at_ : ∀ (n : Nat) (a : Addr) (c : Cell), ι[n]? = some a → S[n]? = some c → CellOk K G ι H a c
  tabs : LamX.Tabs G.tabs H
section
variable {K : PySem.W.Frag} {G : Gam} {ι ι' : List Addr} {H H' : Hp} {S S' : Store} {a : Addr} {c : Cell}
theorem CellOk.hsome (h : CellOk K G ι H a c) : ∃ o, H a = some o ∧ ∀ ps, o ≠ .tbl ps := by
  cases c with
  | lst ds => obtain ⟨xs, e, _⟩ := h; exact ⟨_, e, fun _ z => by cases z⟩
  | dct ks vs => obtain ⟨xs, e, _⟩ := h; exact ⟨_, e, fun _ z => by cases z⟩
  | ins cn vs => obtain ⟨ci, dx, xs, _, e, _⟩ := h; exact ⟨_, e, fun _ z => by cases z⟩
/-- the cell's own object as it was, its data carried on -/
theorem CellOk.ext (e : ∀ {v : V} {d : D}, Rep K G ι H v d → Rep K G ι' H' v d) (ha : ∀ o, H a = some o → H' a = some o) (h : CellOk K G ι H a c) : CellOk K G ι' H' a c := by
  have all : ∀ {vs : List V} {ds : List D}, RepAll K G ι H vs ds → RepAll K G ι' H' vs ds := fun {vs ds} r => by
    induction vs generalizing ds with
    | nil => cases r; exact .nil
    | cons v vs ih => cases r with | cons r t => exact .cons (e r) (ih t)
  cases c with
  | lst ds => obtain ⟨xs, h1, h2⟩ := h; exact ⟨xs, ha _ h1, all h2⟩
  | dct ks vs => obtain ⟨xs, h1, h2, h3⟩ := h; exact ⟨xs, ha _ h1, h2, all h3⟩
  | ins cn vs => obtain ⟨ci, dx, xs, h0, h1, h2, h3⟩ := h; exact ⟨ci, dx, xs, h0, ha _ h1, h2, all h3⟩
theorem StOk.get (h : StOk K G ι S H) {n : Nat} (e : S[n]? = some c) : ∃ a, ι[n]? = some a ∧ CellOk K G ι H a c := by
  have hl := h.len
  obtain ⟨h1, h2⟩ := List.getElem?_eq_some_iff.mp e
  have hd : ι[n]? = some (ι[n]'(by omega)) := by simp
  exact ⟨_, hd, h.at_ n _ c hd e⟩
theorem StOk.mem (h : StOk K G ι S H) (m : a ∈ ι) : ∃ o, H a = some o ∧ ∀ ps, o ≠ .tbl ps := by
  obtain ⟨n, hn, e⟩ := List.getElem_of_mem m
  have hl := h.len
  have hd : S[n]? = some (S[n]'(by omega)) := by simp
  exact (h.at_ n a _ (by rw [← e]; simp) hd).hsome
/-- a new thing stands, no cell -/
theorem StOk.new (h : StOk K G ι S H) {p : Addr} {o : HO} (hp : H p = none) : StOk K G ι S (upd H p o) := by
  refine ⟨h.len, h.nd, fun n a c h1 h2 => ?_, h.tabs.ext fun b u e => by rw [upd_ne (ne_of_none e hp)]; exact e⟩
  exact (h.at_ n a c h1 h2).ext (Rep.ext (Ext.new hp)) fun u e => by rw [upd_ne (ne_of_none e hp)]; exact e
theorem Tabs.of {T : List (Addr × Str)} (t : LamX.Tabs T H) (e : ∀ b o, H b = some o → H' b = some o) : LamX.Tabs T H' := t.ext e
/-- a cell is changed -/
theorem StOk.set (h : StOk K G ι S H) {n : Nat} {c0 : Cell} {o : HO} (hn : ι[n]? = some a) (hc : S[n]? = some c0) (ho : ∀ ps, o ≠ .tbl ps) (new : CellOk K G ι (upd H a o) a c) :
    StOk K G ι (S.set n c) (upd H a o) ∧ Ext ι H ι (upd H a o) := by
  have ha : a ∈ ι := List.mem_of_getElem? hn
  obtain ⟨o0, e0, nt0⟩ := h.mem ha
  have ex : Ext ι H ι (upd H a o) := ⟨⟨[], by simp, by simp⟩, fun b u hb e _ => by rw [upd_ne (show b ≠ a from fun z => hb (by rw [z]; exact ha))]; exact e, fun b e => by
    by_cases q : b = a
    · rw [q, upd_same] at e; cases e
    · rw [upd_ne q] at e; exact e⟩
  refine ⟨⟨by rw [List.length_set]; exact h.len, h.nd, fun m b d h1 h2 => ?_, fun p hp => ?_⟩, ex⟩
  · by_cases q : m = n
    · subst q
      rw [hn] at h1; cases h1
      rw [List.getElem?_set_self (by obtain ⟨z, _⟩ := List.getElem?_eq_some_iff.mp hc; exact z)] at h2
      cases h2
      exact new
    · rw [List.getElem?_set_ne (Ne.symm q)] at h2
      refine (h.at_ m b d h1 h2).ext (Rep.ext ex) fun u e => ?_
      have : b ≠ a := fun z => by
        subst z
        obtain ⟨z1, z2⟩ := List.getElem?_eq_some_iff.mp h1
        obtain ⟨z3, z4⟩ := List.getElem?_eq_some_iff.mp hn
        exact q ((List.getElem_inj h.nd).mp (z2.trans z4.symm))
      rw [upd_ne this]; exact e
  · obtain ⟨ps, a1, a2, a3⟩ := h.tabs p hp
    have np : ∀ b u, H b = some u → (∃ q, u = HO.tbl q) → b ≠ a := fun b u e ⟨q, hq⟩ z => by
      subst z
      rw [e0] at e; cases e
      exact nt0 q hq
    refine ⟨ps, by rw [upd_ne (np _ _ a1 ⟨ps, rfl⟩)]; exact a1, a2, fun pos cv hcv => ?_⟩
    obtain ⟨c', e1, e2⟩ := a3 pos cv hcv
    refine ⟨c', e1, ?_⟩
    have : c' ≠ a := fun z => by
      subst z
      have := h.mem ha
      obtain ⟨z1, z2⟩ := List.getElem?_eq_some_iff.mp hc
      have k := h.at_ n c' c0 hn hc
      cases c0 with
      | lst ds => obtain ⟨xs, q, _⟩ := k; rw [e2] at q; unfold LamX.CodeO at q; cases q
      | dct ks vs => obtain ⟨xs, q, _⟩ := k; rw [e2] at q; unfold LamX.CodeO at q; cases q
      | ins cn vs => obtain ⟨ci, dx, xs, _, q, _⟩ := k; rw [e2] at q; unfold LamX.CodeO at q; cases q
    rw [upd_ne this]; exact e2
/-- a new cell -/
theorem StOk.push (h : StOk K G ι S H) {p : Addr} {o : HO} (hp : H p = none) (new : CellOk K G (ι ++ [p]) (upd H p o) p c) :
    StOk K G (ι ++ [p]) (S ++ [c]) (upd H p o) ∧ Ext ι H (ι ++ [p]) (upd H p o) := by
  have hpi : p ∉ ι := fun z => by obtain ⟨o, e, _⟩ := h.mem z; rw [hp] at e; cases e
  have ex : Ext ι H (ι ++ [p]) (upd H p o) := ⟨⟨[p], rfl, by simpa using hp⟩, fun b u _ e _ => by rw [upd_ne (ne_of_none e hp)]; exact e, fun b e => by
    by_cases q : b = p
    · rw [q, upd_same] at e; cases e
    · rw [upd_ne q] at e; exact e⟩
  refine ⟨⟨by simp [h.len], ?_, fun m b d h1 h2 => ?_, h.tabs.ext fun b u e => by rw [upd_ne (ne_of_none e hp)]; exact e⟩, ex⟩
  · rw [List.nodup_append]
    exact ⟨h.nd, by simp, fun x hx y hy z => by simp at hy; subst hy; subst z; exact hpi hx⟩
  · by_cases q : m < ι.length
    · rw [List.getElem?_append_left q] at h1
      rw [List.getElem?_append_left (by rw [← h.len]; exact q)] at h2
      exact (h.at_ m b d h1 h2).ext (Rep.ext ex) fun u e => by rw [upd_ne (ne_of_none e hp)]; exact e
    · have hm : m = ι.length := by
        obtain ⟨z, _⟩ := List.getElem?_eq_some_iff.mp h1
        simp at z; omega
      subst hm
      simp at h1; subst h1
      rw [h.len] at h2; simp at h2; subst h2
      exact new
/-- the last cells forgotten -/
theorem StOk.take (h : StOk K G ι' S' H') {n : Nat} (hn : n ≤ ι'.length) : StOk K G (ι'.take n) (S'.take n) H' := by
  have sub : ∀ a, a ∉ ι' → a ∉ ι'.take n := fun a ha z => ha (List.mem_of_mem_take z)
  refine ⟨by simp [h.len], h.nd.sublist (List.take_sublist _ _), fun m b d h1 h2 => ?_, h.tabs⟩
  have hm : m < n := by
    obtain ⟨z, _⟩ := List.getElem?_eq_some_iff.mp h1
    simp at z; omega
  rw [List.getElem?_take_of_lt hm] at h1 h2
  exact (h.at_ m b d h1 h2).ext (Rep.less sub) fun u e => e
/-- the last cell, frozen -/
theorem CellOk.frozen {a : Addr} (h : CellOk K G ι H a c) (hn : a ∉ ι') (sub : ∀ a, a ∉ ι → a ∉ ι') (full : ∀ cn vs, c = .ins cn vs → ∃ ci, G.clss.lookup cn = some ci ∧ ci.fields.length = vs.length) : Rep K G ι' H (.ref a) c.frz := by
  cases c with
  | lst ds => obtain ⟨xs, e, r⟩ := h; exact .lst hn e (r.less sub)
  | dct ks vs => obtain ⟨xs, e, l, r⟩ := h; exact .dct hn e l (r.less sub)
  | ins cn vs =>
    obtain ⟨ci, dx, xs, h0, e, l, r⟩ := h
    obtain ⟨ci', h0', l'⟩ := full cn vs rfl
    rw [h0] at h0'; cases h0'
    exact .ins hn h0 e (by rw [l', r.length]) (r.less sub)
end
inductive RepW (K : PySem.W.Frag) (G : Gam) (ι : List Addr) (H : Hp) : V → W → Prop
  | dat {v : V} {d : D} : Rep K G ι H v d → RepW K G ι H v (.dat d)
  | cell {n : Nat} {a : Addr} : ι[n]? = some a → RepW K G ι H (.ref a) (.cell n)
  | lam {l : LamI} : G.lam = some l → l.cap ι H → RepW K G ι H (.ref l.f) (.lam l.run)
theorem RepW.ext {K : PySem.W.Frag} {G : Gam} {ι ι' : List Addr} {H H' : Hp} (e : Ext ι H ι' H') {v : V} {w : W} (r : RepW K G ι H v w) : RepW K G ι' H' v w := by
  cases r with
  | dat r => exact .dat (r.ext e)
  | cell h => exact .cell (e.idx h)
  | lam h k => exact .lam h (LamI.mono _ e k)
structure EnvOk (K : PySem.W.Frag) (G : Gam) (ι : List Addr) (H : Hp) (ρ : Env0') (σ : L2.St) : Prop where
  len : ρ.length = σ.length
  at_ : ∀ (i : Nat) (w : W), ρ[i]? = some (some w) → ∃ v, σ[i]? = some (some v) ∧ RepW K G ι H v w
section
variable {K : PySem.W.Frag} {G : Gam} {ι ι' : List Addr} {H H' : Hp} {ρ : Env0'} {σ : L2.St}
theorem EnvOk.ext (e : Ext ι H ι' H') (h : EnvOk K G ι H ρ σ) : EnvOk K G ι' H' ρ σ :=
  ⟨h.len, fun i w q => let ⟨v, a, b⟩ := h.at_ i w q; ⟨v, a, b.ext e⟩⟩
theorem EnvOk.set (h : EnvOk K G ι H ρ σ) {v : V} {w : W} (r : RepW K G ι H v w) (i : Nat) : EnvOk K G ι H (ρ.set i (some w)) (σ.set i (some v)) := by
  refine ⟨by simp [h.len], fun j u q => ?_⟩
  by_cases hj : j = i
  · subst hj
    obtain ⟨z, _⟩ := List.getElem?_eq_some_iff.mp q
    simp at z
    rw [List.getElem?_set_self z] at q
    cases q
    exact ⟨v, by rw [List.getElem?_set_self (by rw [← h.len]; exact z)], r⟩
  · rw [List.getElem?_set_ne (Ne.symm hj)] at q ⊢
    exact h.at_ j u q
theorem EnvOk.weak (h : EnvOk K G ι H ρ σ) {ρ' : Env0'} (hl : ρ'.length = ρ.length) (hw : ∀ (i : Nat) (w : W), ρ'[i]? = some (some w) → ρ[i]? = some (some w)) : EnvOk K G ι H ρ' σ :=
  ⟨by rw [hl, h.len], fun i w q => h.at_ i w (hw i w q)⟩
end
structure MtE (K : PySem.W.Frag) (G : Gam) (ι : List Addr) (ρ : Env0') (S : Store) (σ : L2.St) (H : Hp) : Prop where
  env : EnvOk K G ι H ρ σ
  st : StOk K G ι S H
end EC
namespace EC
open PySem PySem.Spec PyProof.Rows L2
def Res.bind {α β : Type} (r : Res α) (f : α → Store → Res β) : Res β :=
  match r with
  | .ok a S => f a S
  | .ex c fs S => .ex c fs S
  | .bad => .bad
@[simp] theorem Res.bind_ok {α β : Type} (a : α) (S : Store) (f : α → Store → Res β) : (Res.ok a S).bind f = f a S := rfl
@[simp] theorem Res.bind_ex {α β : Type} (c : Str) (fs : List D) (S : Store) (f : α → Store → Res β) : (Res.ex c fs S : Res α).bind f = .ex c fs S := rfl
@[simp] theorem Res.bind_bad {α β : Type} (f : α → Store → Res β) : (Res.bad : Res α).bind f = .bad := rfl
theorem Res.bind_assoc {α β γ : Type} (r : Res α) (f : α → Store → Res β) (g : β → Store → Res γ) : (r.bind f).bind g = r.bind fun a S => (f a S).bind g := by cases r <;> rfl
/-- a pure step that may not be served -/
def Res.opt {α : Type} (o : Option α) (S : Store) : Res α := match o with | some a => .ok a S | none => .bad
@[simp] theorem Res.opt_some {α : Type} (a : α) (S : Store) : Res.opt (some a) S = .ok a S := rfl
@[simp] theorem Res.opt_none {α : Type} (S : Store) : (Res.opt none S : Res α) = .bad := rfl
abbrev Sm (α : Type) := Env0' → Store → Res α
/-- an exception of an own class, its fields in its dict -/
def XOk (K : PySem.W.Frag) (G : Gam) (ι : List Addr) (H : Hp) (c : Str) (fs : List D) (cls : Value) (d : Option Addr) : Prop :=
  ∃ ci, G.exs.lookup c = some ci ∧ cls = .ref ci.C ∧ ∃ da xs, d = some da ∧ da ∉ ι ∧ H da = some (.xd (ci.fields.zip xs)) ∧ ci.fields.length = xs.length ∧ RepAll K G ι H xs fs
/-- what is wanted of a result -/
def Out (K : PySem.W.Frag) (G : Gam) (ι : List Addr) (H : Hp) (E : XK) {α : Type} (P : List Addr → Hp → Store → α → Prop) : Res α → Prop
  | .ok a S => ∀ ι' H', Ext ι H ι' H' → StOk K G ι' S H' → P ι' H' S a
  | .ex c fs S => ∀ ι' H' cls d, Ext ι H ι' H' → StOk K G ι' S H' → XOk K G ι' H' c fs cls d → E cls d H'
  | .bad => False
section
variable {K : PySem.W.Frag} {G : Gam} {ι ι' : List Addr} {H H' : Hp} {E : XK} {α β : Type} {P Q : List Addr → Hp → Store → α → Prop} {S : Store}
theorem Out.ext (e : Ext ι H ι' H') {r : Res α} (h : Out K G ι H E P r) : Out K G ι' H' E P r := by
  cases r with
  | ok a S => exact fun ι2 H2 e2 s => h ι2 H2 (e.trans e2) s
  | ex c fs S => exact fun ι2 H2 cls d e2 s x => h ι2 H2 cls d (e.trans e2) s x
  | bad => exact h
theorem Out.imp {r : Res α} (h : Out K G ι H E P r) (hi : ∀ ι' H' S a, Ext ι H ι' H' → StOk K G ι' S H' → P ι' H' S a → Q ι' H' S a) : Out K G ι H E Q r := by
  cases r with
  | ok a S => exact fun ι2 H2 e2 s => hi ι2 H2 S a e2 s (h ι2 H2 e2 s)
  | ex c fs S => exact h
  | bad => exact h
theorem Out.bind {R : List Addr → Hp → Store → β → Prop} {r : Res α} {f : α → Store → Res β} (h : Out K G ι H E R (r.bind f)) :
    Out K G ι H E (fun ι' H' S' a => Out K G ι' H' E R (f a S')) r := by
  cases r with
  | ok a S => exact fun ι2 H2 e2 s => Out.ext e2 h
  | ex c fs S => exact h
  | bad => exact h
theorem Out.ok {a : α} (s : StOk K G ι S H) (h : Out K G ι H E P (.ok a S)) : P ι H S a := h ι H (Ext.refl _ _) s
end
/-- the readings -/
def rdE (K : PySem.W.Frag) (G : Gam) (Wx : WX) (c : Sm W) : TE := fun σ H Q => ∃ ι ρ S, MtE K G ι ρ S σ H ∧ Out K G ι H (fun c d H' => Wx c d σ H') (fun ι' H' _ w => ∀ v, RepW K G ι' H' v w → Q v H') (c ρ S)
def rdT (K : PySem.W.Frag) (G : Gam) (Wx : WX) (c : Sm Bool) : TT := fun σ H Q => ∃ ι ρ S, MtE K G ι ρ S σ H ∧ Out K G ι H (fun c d H' => Wx c d σ H') (fun _ H' _ b => Q b H') (c ρ S)
inductive RepWs (K : PySem.W.Frag) (G : Gam) (ι : List Addr) (H : Hp) : List V → List W → Prop
  | nil : RepWs K G ι H [] []
  | cons {v : V} {vs : List V} {w : W} {ws : List W} : RepW K G ι H v w → RepWs K G ι H vs ws → RepWs K G ι H (v :: vs) (w :: ws)
def rdA (K : PySem.W.Frag) (G : Gam) (Wx : WX) (c : Sm (List W)) : TA := fun σ H Q => ∃ ι ρ S, MtE K G ι ρ S σ H ∧ Out K G ι H (fun c d H' => Wx c d σ H') (fun ι' H' _ ws => ∀ vs, RepWs K G ι' H' vs ws → Q vs H') (c ρ S)
theorem RepWs.ext {K : PySem.W.Frag} {G : Gam} {ι ι' : List Addr} {H H' : Hp} (e : Ext ι H ι' H') : ∀ {vs : List V} {ws : List W}, RepWs K G ι H vs ws → RepWs K G ι' H' vs ws
  | _, _, .nil => .nil
  | _, _, .cons r t => .cons (r.ext e) (RepWs.ext e t)
theorem RepWs.length {K : PySem.W.Frag} {G : Gam} {ι : List Addr} {H : Hp} : ∀ {vs : List V} {ws : List W}, RepWs K G ι H vs ws → vs.length = ws.length
  | _, _, .nil => rfl
  | _, _, .cons _ t => congrArg (· + 1) (RepWs.length t)
theorem RepWs.get {K : PySem.W.Frag} {G : Gam} {ι : List Addr} {H : Hp} : ∀ {vs : List V} {ds : List W} {i : Nat} {d : W}, RepWs K G ι H vs ds → ds[i]? = some d → ∃ v, vs[i]? = some v ∧ RepW K G ι H v d
  | _, _, _, _, .nil, e => by simp at e
  | _, _, 0, _, .cons r _, e => by simp at e; subst e; exact ⟨_, rfl, r⟩
  | _, _, i + 1, d, .cons _ t, e => by
    obtain ⟨v, h1, h2⟩ := RepWs.get (i := i) (d := d) t (by simpa using e)
    exact ⟨v, by simpa using h1, h2⟩
/-- a rule's own reading may be asked in the place of a stronger one -/
theorem PE.imp {X : Cx} {e : Expr} {t u : TE} (h : PE X e t) (i : ∀ σ H Q, u σ H Q → t σ H Q) : PE X e u := ⟨fun pins s σ H Q I q => h.run pins s σ H Q I (i σ H Q q)⟩
theorem PT.imp {X : Cx} {e : Expr} {t u : TT} (h : PT X e t) (i : ∀ σ H Q, u σ H Q → t σ H Q) : PT X e u := ⟨fun pins s σ H Q I q => h.run pins s σ H Q I (i σ H Q q)⟩
theorem PA.imp {X : Cx} {e : List Expr} {t u : TA} (h : PA X e t) (i : ∀ σ H Q, u σ H Q → t σ H Q) : PA X e u := ⟨fun pos pins s σ H Q I q => h.run pos pins s σ H Q I (i σ H Q q)⟩
theorem PS.imp {X : Cx} {e : Stmt} {t u : TS} (h : PS X e t) (i : ∀ D σ H, u D σ H → t D σ H) : PS X e u := ⟨fun pins s σ H D I q => h.run pins s σ H D I (i D σ H q)⟩
theorem PSs.imp {X : Cx} {e : List Stmt} {t u : TS} (h : PSs X e t) (i : ∀ D σ H, u D σ H → t D σ H) : PSs X e u := ⟨fun pins s σ H D I q => h.run pins s σ H D I (i D σ H q)⟩
/-- what is not served is never come to -/
theorem pe_bad {X : Cx} {e : Expr} {K : PySem.W.Frag} {G : Gam} {Wx : WX} : PE X e (rdE K G Wx fun _ _ => .bad) := ⟨fun _ _ _ _ _ _ ⟨_, _, _, _, h⟩ => h.elim⟩
theorem pt_bad {X : Cx} {e : Expr} {K : PySem.W.Frag} {G : Gam} {Wx : WX} : PT X e (rdT K G Wx fun _ _ => .bad) := ⟨fun _ _ _ _ _ _ ⟨_, _, _, _, h⟩ => h.elim⟩
theorem pa_bad {X : Cx} {e : List Expr} {K : PySem.W.Frag} {G : Gam} {Wx : WX} : PA X e (rdA K G Wx fun _ _ => .bad) := ⟨fun _ _ _ _ _ _ _ ⟨_, _, _, _, h⟩ => h.elim⟩
section
variable {K : PySem.W.Frag} {G : Gam} {Wx : WX} {σ : L2.St} {H : Hp}
/-- one after another: two expressions -/
theorem rd_two {c1 c2 : Sm W} {f : W → W → Store → Res W} {Q : VK} (h : rdE K G Wx (fun ρ S => (c1 ρ S).bind fun w1 S1 => (c2 ρ S1).bind fun w2 S2 => f w1 w2 S2) σ H Q) :
    rdE K G Wx c1 σ H fun x H1 => rdE K G Wx c2 σ H1 fun y H2 => ∃ ι ρ S w1 w2, MtE K G ι ρ S σ H2 ∧ RepW K G ι H2 x w1 ∧ RepW K G ι H2 y w2 ∧ Out K G ι H2 (fun c d H' => Wx c d σ H') (fun ι' H' _ w => ∀ v, RepW K G ι' H' v w → Q v H') (f w1 w2 S) := by
  obtain ⟨ι, ρ, S, m, o⟩ := h
  refine ⟨ι, ρ, S, m, o.bind.imp fun ι1 H1 S1 w1 e1 s1 o1 x rx => ?_⟩
  refine ⟨ι1, ρ, S1, ⟨m.env.ext e1, s1⟩, o1.bind.imp fun ι2 H2 S2 w2 e2 s2 o2 y ry => ?_⟩
  exact ⟨ι2, ρ, S2, w1, w2, ⟨(m.env.ext e1).ext e2, s2⟩, rx.ext e2, ry, o2⟩
theorem rd_one {c1 : Sm W} {f : W → Store → Res W} {Q : VK} (h : rdE K G Wx (fun ρ S => (c1 ρ S).bind fun w1 S1 => f w1 S1) σ H Q) :
    rdE K G Wx c1 σ H fun x H1 => ∃ ι ρ S w1, MtE K G ι ρ S σ H1 ∧ RepW K G ι H1 x w1 ∧ Out K G ι H1 (fun c d H' => Wx c d σ H') (fun ι' H' _ w => ∀ v, RepW K G ι' H' v w → Q v H') (f w1 S) := by
  obtain ⟨ι, ρ, S, m, o⟩ := h
  refine ⟨ι, ρ, S, m, o.bind.imp fun ι1 H1 S1 w1 e1 s1 o1 x rx => ?_⟩
  exact ⟨ι1, ρ, S1, w1, ⟨m.env.ext e1, s1⟩, rx, o1⟩
theorem rd_args {c1 : Sm (List W)} {f : List W → Store → Res W} {Q : VK} (h : rdE K G Wx (fun ρ S => (c1 ρ S).bind fun ws S1 => f ws S1) σ H Q) :
    rdA K G Wx c1 σ H fun xs H1 => ∃ ι ρ S ws, MtE K G ι ρ S σ H1 ∧ RepWs K G ι H1 xs ws ∧ Out K G ι H1 (fun c d H' => Wx c d σ H') (fun ι' H' _ w => ∀ v, RepW K G ι' H' v w → Q v H') (f ws S) := by
  obtain ⟨ι, ρ, S, m, o⟩ := h
  refine ⟨ι, ρ, S, m, o.bind.imp fun ι1 H1 S1 w1 e1 s1 o1 x rx => ?_⟩
  exact ⟨ι1, ρ, S1, w1, ⟨m.env.ext e1, s1⟩, rx, o1⟩
end
def derefW (S : Store) : W → Option D
  | .dat d => some d
  | .cell n => (S[n]?).map Cell.frz
  | .lam _ => none
/-- v reads as d now -/
inductive Obs (K : PySem.W.Frag) (G : Gam) (ι : List Addr) (H : Hp) : V → D → Prop
  | dat {v : V} {d : D} : Rep K G ι H v d → Obs K G ι H v d
  | lst {a : Addr} {xs : List V} {ds : List D} : H a = some (.lst xs) → RepAll K G ι H xs ds → Obs K G ι H (.ref a) (.lst ds)
  | dct {a : Addr} {ks : List Key} {xs : List V} {ds : List D} : H a = some (.dK (ks.zip xs)) → ks.length = xs.length → RepAll K G ι H xs ds → Obs K G ι H (.ref a) (.dct ks ds)
  | ins {a dx : Addr} {c : Str} {ci : ClsI} {xs : List V} {ds : List D} : G.clss.lookup c = some ci → H a = some (.ins ci.C dx (ci.fields.zip xs)) → xs.length ≤ ci.fields.length → RepAll K G ι H xs ds → Obs K G ι H (.ref a) (.ins c ds)
theorem obs_of {K : PySem.W.Frag} {G : Gam} {ι : List Addr} {H : Hp} {S : Store} {v : V} {w : W} {d : D} (s : StOk K G ι S H) (r : RepW K G ι H v w) (e : derefW S w = some d) : Obs K G ι H v d := by
  cases r with
  | dat r => cases e; exact .dat r
  | lam _ _ => cases e
  | @cell n a h =>
    have e : (S[n]?).map Cell.frz = some d := e
    cases q : S[n]? with
    | none => rw [q] at e; cases e
    | some c =>
      rw [q] at e
      cases e
      have k := s.at_ n a c h q
      cases c with
      | lst ds => obtain ⟨xs, e, r⟩ := k; exact .lst e r
      | dct ks vs => obtain ⟨xs, e, l, r⟩ := k; exact .dct e l r
      | ins cn vs => obtain ⟨ci, dx, xs, e0, e, l, r⟩ := k; exact .ins e0 e l r
section
variable {K : PySem.W.Frag} {G : Gam} {ι : List Addr} {H : Hp} {v : V}
theorem Obs.int {i : Int} (o : Obs K G ι H v (.int i)) : v = .int i := by cases o with | dat r => cases r; rfl
theorem Obs.bl {i : Bool} (o : Obs K G ι H v (.bl i)) : v = .bl i := by cases o with | dat r => cases r; rfl
theorem Obs.str {i : Str} (o : Obs K G ι H v (.str i)) : v = .str i := by cases o with | dat r => cases r; rfl
theorem Obs.non (o : Obs K G ι H v .non) : v = .non := by cases o with | dat r => cases r; rfl
theorem Obs.lstO {ds : List D} (o : Obs K G ι H v (.lst ds)) : ∃ a xs, v = .ref a ∧ H a = some (.lst xs) ∧ RepAll K G ι H xs ds := by
  cases o with
  | dat r => cases r with | lst h1 h2 h3 => exact ⟨_, _, rfl, h2, h3⟩
  | lst h1 h2 => exact ⟨_, _, rfl, h1, h2⟩
theorem Obs.tupO {ds : List D} (o : Obs K G ι H v (.tup ds)) : ∃ a xs, v = .ref a ∧ H a = some (.tup xs) ∧ RepAll K G ι H xs ds := by
  cases o with
  | dat r => cases r with | tup h1 h2 h3 => exact ⟨_, _, rfl, h2, h3⟩
theorem Obs.kupO {ds : List D} (o : Obs K G ι H v (.kup ds)) : ∃ a xs, v = .ref a ∧ SqT K H a xs ∧ RepAll K G ι H xs ds := by
  cases o with
  | dat r => cases r with | kup h1 h3 => exact ⟨_, _, rfl, .inr h1, h3⟩
theorem Obs.dctO {ks : List Key} {ds : List D} (o : Obs K G ι H v (.dct ks ds)) : ∃ a xs, v = .ref a ∧ H a = some (.dK (ks.zip xs)) ∧ ks.length = xs.length ∧ RepAll K G ι H xs ds := by
  cases o with
  | dat r => cases r with | dct h1 h2 h3 h4 => exact ⟨_, _, rfl, h2, h3, h4⟩
  | dct h1 h2 h3 => exact ⟨_, _, rfl, h1, h2, h3⟩
theorem Obs.dttO {ks : List (List Key)} {ds : List D} (o : Obs K G ι H v (.dtt ks ds)) : ∃ a xs, v = .ref a ∧ H a = some (.dT (ks.zip xs)) ∧ ks.length = xs.length ∧ RepAll K G ι H xs ds := by
  cases o with
  | dat r => cases r with | dtt h1 h2 h3 h4 => exact ⟨_, _, rfl, h2, h3, h4⟩
theorem Obs.scrO {ns : List Int} (o : Obs K G ι H v (.scr ns)) : ∃ a, v = .ref a ∧ SqL K H a (ns.map V.int) := by
  cases o with
  | dat r => cases r with | scr h1 => exact ⟨_, rfl, h1.imp And.right id⟩
theorem Obs.insO {c : Str} {ds : List D} (o : Obs K G ι H v (.ins c ds)) : ∃ a ci dx xs, v = .ref a ∧ G.clss.lookup c = some ci ∧ H a = some (.ins ci.C dx (ci.fields.zip xs)) ∧ xs.length ≤ ci.fields.length ∧ RepAll K G ι H xs ds := by
  cases o with
  | dat r => cases r with | ins h1 h2 h3 h4 h5 => exact ⟨_, _, _, _, rfl, h2, h3, Nat.le_of_eq h4.symm, h5⟩
  | ins h1 h2 h3 h4 => exact ⟨_, _, _, _, rfl, h1, h2, h3, h4⟩
end
mutual
def toPy : D → Option PyData
  | .non => some .none
  | .bl b => some (.bool b)
  | .int i => some (.int i)
  | .str s => some (.str s)
  | .tup ds => (toPyL ds).map .tuple
  | .lst ds => (toPyL ds).map .list
  | .dct _ _ => none
  | .dtt _ _ => none
  | .ins _ _ => none
  | .scr _ => none
  | .kup ds => (toPyL ds).map .tuple
  | .fn _ => none
  | .cls _ => none
  | .bty _ => none
def toPyL : List D → Option (List PyData)
  | [] => some []
  | d :: ds => match toPy d, toPyL ds with
    | some p, some ps => some (p :: ps)
    | _, _ => none
end
section
variable {K : PySem.W.Frag} {G : Gam} {ι : List Addr} {H : Hp}
mutual
theorem Rep.dp {v : V} {d : D} {p : PyData} (r : Rep K G ι H v d) (e : toPy d = some p) : Dp K H v p := by
  cases r with
  | non => rw [toPy] at e; cases e; exact .non
  | bl b => rw [toPy] at e; cases e; exact .bl b
  | int i => rw [toPy] at e; cases e; exact .int i
  | str x => rw [toPy] at e; cases e; exact .str x
  | @tup a xs ds h1 h2 hr =>
    rw [toPy] at e
    cases q : toPyL ds with
    | none => rw [q] at e; cases e
    | some ps => rw [q] at e; cases e; exact .tup (.of h2) (RepAll.dp hr q)
  | @kup a xs ds h hr =>
    rw [toPy] at e
    cases q : toPyL ds with
    | none => rw [q] at e; cases e
    | some ps => rw [q] at e; cases e; exact .tup (.inr h) (RepAll.dp hr q)
  | @lst a xs ds h1 h2 hr =>
    rw [toPy] at e
    cases q : toPyL ds with
    | none => rw [q] at e; cases e
    | some ps => rw [q] at e; cases e; exact .lst (.of h2) (RepAll.dp hr q)
  | scr h => rw [toPy] at e; cases e
  | dct h1 h2 h3 hr => rw [toPy] at e; cases e
  | dtt h1 h2 h3 hr => rw [toPy] at e; cases e
  | ins h1 h2 h3 h4 hr => rw [toPy] at e; cases e
  | fn h => rw [toPy] at e; cases e
  | cls h => rw [toPy] at e; cases e
  | bty n => rw [toPy] at e; cases e
theorem RepAll.dp {vs : List V} {ds : List D} {ps : List PyData} (r : RepAll K G ι H vs ds) (e : toPyL ds = some ps) : DpAll K H vs ps := by
  cases r with
  | nil => rw [toPyL] at e; cases e; exact .nil
  | @cons v vs d ds h t =>
    rw [toPyL] at e
    cases q1 : toPy d with
    | none => rw [q1] at e; cases e
    | some p =>
      cases q2 : toPyL ds with
      | none => rw [q1, q2] at e; cases e
      | some ps' => rw [q1, q2] at e; cases e; exact .cons (Rep.dp h q1) (RepAll.dp t q2)
end
theorem Obs.dp {v : V} {d : D} {p : PyData} (o : Obs K G ι H v d) (e : toPy d = some p) : Dp K H v p := by
  cases o with
  | dat r => exact r.dp e
  | @lst a xs ds h1 h2 =>
    rw [toPy] at e
    cases q : toPyL ds with
    | none => rw [q] at e; cases e
    | some ps => rw [q] at e; cases e; exact .lst (.of h1) (h2.dp q)
  | dct h1 h2 h3 => rw [toPy] at e; cases e
  | ins h1 h2 h3 h4 => rw [toPy] at e; cases e
end
end EC
namespace EC
open PySem PySem.Spec PyProof.Rows L2
/-- z is had: whatever reads as z then, Q holds of it -/
def Got (K : PySem.W.Frag) (G : Gam) (ι : List Addr) (S : Store) (H : Hp) (z : D) (Q : VK) : Prop := ∀ ι' H' v, Ext ι H ι' H' → StOk K G ι' S H' → Rep K G ι' H' v z → Q v H'
section
variable {K : PySem.W.Frag} {G : Gam} {ι : List Addr} {S : Store} {H : Hp} {Q : VK}
theorem Got.now {z : D} {v : V} (g : Got K G ι S H z Q) (s : StOk K G ι S H) (r : Rep K G ι H v z) : Q v H := g ι H v (Ext.refl _ _) s r
theorem fresh_out {ι : List Addr} (s : StOk K G ι S H) {p : Addr} (hp : H p = none) : p ∉ ι := fun z => by obtain ⟨o, e, _⟩ := s.mem z; rw [hp] at e; cases e
theorem Got.tup {ds : List D} {xs : List V} (g : Got K G ι S H (.tup ds) Q) (s : StOk K G ι S H) (r : RepAll K G ι H xs ds) (p : Addr) (hp : H p = none) : Q (.ref p) (upd H p (.tup xs)) :=
  g ι _ _ (Ext.new hp) (s.new hp) (.tup (fresh_out s hp) upd_same (r.ext (Ext.new hp)))
theorem Got.lst {ds : List D} {xs : List V} (g : Got K G ι S H (.lst ds) Q) (s : StOk K G ι S H) (r : RepAll K G ι H xs ds) (p : Addr) (hp : H p = none) : Q (.ref p) (upd H p (.lst xs)) :=
  g ι _ _ (Ext.new hp) (s.new hp) (.lst (fresh_out s hp) upd_same (r.ext (Ext.new hp)))
theorem Got.dct {ks : List Key} {ds : List D} {xs : List V} (g : Got K G ι S H (.dct ks ds) Q) (s : StOk K G ι S H) (hl : ks.length = xs.length) (r : RepAll K G ι H xs ds) (p : Addr) (hp : H p = none) : Q (.ref p) (upd H p (.dK (ks.zip xs))) :=
  g ι _ _ (Ext.new hp) (s.new hp) (.dct (fresh_out s hp) upd_same hl (r.ext (Ext.new hp)))
theorem Out.got {E : XK} {z : D} (h : Out K G ι H E (fun ι' H' _ w => ∀ v, RepW K G ι' H' v w → Q v H') (.ok (.dat z) S)) : Got K G ι S H z Q := fun ι' H' v e s r => h ι' H' e s v (.dat r)
end
def fits (n : Nat) : Bool := decide (n ≤ sizeLine)
def dBin (op : Operator) (d e : D) : Option D :=
  match op, d, e with
  | .Add, .int i, .int j => some (.int (i + j))
  | .Add, .str a, .str b => if fits (a.length + b.length) then some (.str (a ++ b)) else none
  | .Add, .tup a, .tup b => if fits (a.length + b.length) then some (.tup (a ++ b)) else none
  | .Add, .lst a, .lst b => if fits (a.length + b.length) then some (.lst (a ++ b)) else none
  | .Sub, .int i, .int j => some (.int (i - j))
  | .Mult, .int i, .int j => if (decide (-(2 ^ 64) < i) && decide (i < 2 ^ 64)) || (decide (-(2 ^ 64) < j) && decide (j < 2 ^ 64)) then some (.int (i * j)) else none
  | .Mult, .tup a, .int k => if !a.isEmpty && decide (2 ≤ k) && decide (k ≤ 1000) && decide (a.length ≤ 1000) then some (.tup (List.replicate k.toNat a).flatten) else none
  | .Mult, .str a, .int k => if !(a.length == 0) && decide (2 ≤ k) && decide (k ≤ 1000) && decide (a.length ≤ 1000) then some (.str ⟨(List.replicate k.toNat a.cps).foldl (· ++ ·) #[]⟩) else none
  | .FloorDiv, .int i, .int j => if decide (0 < j) && decide (j < 1073741824) then some (.int (i / j)) else none
  | .Mod, .int i, .int j => if decide (0 < j) then some (.int (i % j)) else none
  | .Pow, .int i, .int j => if decide (0 ≤ j) && decide (j ≤ 1000000) && decide (i.natAbs < 2 ^ 64) then some (.int (i ^ j.toNat)) else none
  | _, _, _ => none
theorem RepAll.replicate {K : PySem.W.Frag} {G : Gam} {ι : List Addr} {H : Hp} {xs : List V} {ds : List D} (r : RepAll K G ι H xs ds) : ∀ n : Nat, RepAll K G ι H (List.replicate n xs).flatten (List.replicate n ds).flatten
  | 0 => .nil
  | n + 1 => by rw [List.replicate_succ, List.replicate_succ, List.flatten_cons, List.flatten_cons]; exact r.append (RepAll.replicate r n)
theorem fold_size (a : Array Nat) : ∀ (n : Nat) (acc : Array Nat), ((List.replicate n a).foldl (fun x1 x2 => x1 ++ x2) acc).size = acc.size + n * a.size
  | 0, acc => by simp
  | n + 1, acc => by
    rw [List.replicate_succ, List.foldl_cons, fold_size a n, Array.size_append, Nat.succ_mul]
    omega
def rBin (K : PySem.W.Frag) (G : Gam) (op : Operator) : R2 := fun x y H Q => ∃ ι S d e z, StOk K G ι S H ∧ Obs K G ι H x d ∧ Obs K G ι H y e ∧ dBin op d e = some z ∧ Got K G ι S H z Q
theorem fits_iff {n : Nat} : fits n = true ↔ n ≤ sizeLine := by unfold fits; exact decide_eq_true_iff
section
variable {X : Cx} {G : Gam}
theorem op_bin (op : Operator) : OpR X (binaryOp op) (rBin X.K G op) := by
  intro pins s σ H x y v u Q I rx ry h
  obtain ⟨ι, S, d, e, z, st, ox, oy, hz, g⟩ := h
  unfold dBin at hz
  split at hz
  · cases hz; exact op_add pins s σ H x y v u Q I rx ry ⟨_, _, ox.int, oy.int, g.now st (.int _)⟩
  · split at hz
    · rename_i hf; cases hz
      exact op_add_str pins s σ H x y v u Q I rx ry ⟨_, _, ox.str, oy.str, fits_iff.mp hf, g.now st (.str _)⟩
    · cases hz
  · split at hz
    · rename_i a b hf; cases hz
      obtain ⟨p, xs, rfl, h1, r1⟩ := ox.tupO
      obtain ⟨q, ys, rfl, h2, r2⟩ := oy.tupO
      have hf := fits_iff.mp hf
      refine op_catA pins s σ H _ _ v u Q I rx ry ⟨p, q, xs, ys, rfl, rfl, .of h1, .of h2, by rw [r1.length, r2.length]; exact hf, fun e => ?_, fun _ e => ?_, fun _ _ => g.tup st (r1.append r2)⟩
      · subst e; cases r1
        refine g.now st ?_
        cases oy with | dat r => simpa using r
      · subst e; cases r2
        refine g.now st ?_
        cases ox with | dat r => simpa using r
    · cases hz
  · split at hz
    · rename_i a b hf; cases hz
      obtain ⟨p, xs, rfl, h1, r1⟩ := ox.lstO
      obtain ⟨q, ys, rfl, h2, r2⟩ := oy.lstO
      have hf := fits_iff.mp hf
      exact op_cat pins s σ H _ _ v u Q I rx ry ⟨p, q, xs, ys, rfl, rfl, h1, h2, by rw [r1.length, r2.length]; exact hf, g.lst st (r1.append r2)⟩
    · cases hz
  · cases hz; exact op_sub pins s σ H x y v u Q I rx ry ⟨_, _, ox.int, oy.int, g.now st (.int _)⟩
  · split at hz
    · rename_i hf; cases hz
      simp only [Bool.or_eq_true, Bool.and_eq_true, decide_eq_true_eq] at hf
      exact op_mul pins s σ H x y v u Q I rx ry ⟨_, _, ox.int, oy.int, hf, g.now st (.int _)⟩
    · cases hz
  · split at hz
    · rename_i a k hf; cases hz
      simp only [Bool.and_eq_true, decide_eq_true_eq, Bool.not_eq_true', List.isEmpty_eq_false_iff] at hf
      obtain ⟨⟨⟨f1, f2⟩, f3⟩, f4⟩ := hf
      obtain ⟨p, xs, rfl, h1, r1⟩ := ox.tupO
      have hl := r1.length
      exact op_repT pins s σ H _ _ v u Q I rx ry ⟨p, k, xs, rfl, oy.int, .of h1, fun e => by subst e; cases r1; exact f1 rfl, f2, f3, by omega, g.tup st (r1.replicate _)⟩
    · cases hz
  · split at hz
    · rename_i a k hf; cases hz
      simp only [Bool.and_eq_true, decide_eq_true_eq, Bool.not_eq_true'] at hf
      obtain ⟨⟨⟨f1, f2⟩, f3⟩, f4⟩ := hf
      have e1 := ox.str
      have e2 := oy.int
      subst e1 e2
      obtain ⟨t, rfl⟩ := rx
      obtain ⟨t', rfl⟩ := ry
      have hk : (k == 1) = false := by simp; omega
      have hn : ¬ k < 1 := by omega
      have hm : a.length * k.toNat ≤ 1000000 := by
        have : k.toNat ≤ 1000 := by omega
        calc a.length * k.toNat ≤ 1000 * 1000 := Nat.mul_le_mul f4 this
          _ = 1000000 := rfl
      have hlong : Builtin.Str.tooLong (a.length * k.toNat) = false := by
        unfold Builtin.Str.tooLong
        exact decide_eq_false (by rw [sizeLine_eq]; omega)
      refine PySem.P.mul_str (by simp; omega) (fun _ _ => by
        have : (1000 : Int) ≤ (2 ^ 63 - 1) / k := by
          rw [Int.le_ediv_iff_mul_le (by omega)]
          omega
        omega) (fun _ _ => hlong) ?_
      rw [if_neg hn, if_neg (by simp [hk, f1])]
      refine ⟨?_, ⟨.str _, H, I.tok _, ⟨_, rfl⟩, g.now st (.str _)⟩⟩
      have hsz := fold_size a.cps k.toNat #[]
      show (List.foldl (fun x1 x2 => x1 ++ x2) #[] (List.replicate k.toNat a.cps)).size ≤ sizeLine
      rw [hsz, sizeLine_eq]
      have hm2 : k.toNat * a.cps.size ≤ 1000000 := by rw [Nat.mul_comm]; exact hm
      simp only [Array.size_empty]
      omega
    · cases hz
  · split at hz
    · rename_i hf; cases hz
      simp only [Bool.and_eq_true, decide_eq_true_eq] at hf
      exact op_fdiv pins s σ H x y v u Q I rx ry ⟨_, _, ox.int, oy.int, hf, g.now st (.int _)⟩
    · cases hz
  · split at hz
    · rename_i hf; cases hz
      exact op_mod pins s σ H x y v u Q I rx ry ⟨_, _, ox.int, oy.int, of_decide_eq_true hf, g.now st (.int _)⟩
    · cases hz
  · split at hz
    · rename_i hf; cases hz
      simp only [Bool.and_eq_true, decide_eq_true_eq] at hf
      exact op_pow pins s σ H x y v u Q I rx ry ⟨_, _, ox.int, oy.int, ⟨hf.1.1, hf.1.2, hf.2⟩, g.now st (.int _)⟩
    · cases hz
  · cases hz
end
def keyOf? : D → Option Key
  | .int i => some (.inl i)
  | .str x => some (.inr x)
  | _ => none
def keysOf? : List D → Option (List Key)
  | [] => some []
  | d :: ds => match keyOf? d, keysOf? ds with
    | some k, some ks => some (k :: ks)
    | _, _ => none
/-- the key of a dict with tuple keys -/
def tkeyOf? : D → Option (List Key)
  | .tup ds => keysOf? ds
  | _ => none
def hasK {κ : Type} [DecidableEq κ] (k : κ) (ks : List κ) : Bool := ks.any fun q => decide (q = k)
def dEq (d e : D) : Option Bool := match toPy d, toPy e with
  | some p, some q => if SeqAt.shaped p && SeqAt.shaped q then some (PyData.eqv p q) else none
  | _, _ => none
def notNone : PyData → Bool
  | .none => false
  | _ => true
def dOrd (f : PyData → PyData → Bool) (d e : D) : Option Bool := match toPy d, toPy e with
  | some p, some q => if SeqAt.shaped p && SeqAt.shaped q && PySem.W.alike p q && notNone p then some (f p q) else none
  | _, _ => none
def dOrdI (fi : Int → Int → Bool) (f : PyData → PyData → Bool) (d e : D) : Option Bool := match d, e with
  | .int i, .int j => some (fi i j)
  | d, e => dOrd f d e
def dIn (d e : D) : Option Bool := match e with
  | .str z => match d with
    | .str x => match x.cps.toList with
      | [c] => some (decide (c ∈ z.cps.toList))
      | _ => none
    | _ => none
  | .lst ds => match toPyL ds, toPy d with
    | some ps, some p => if SeqAt.shaped (.list ps) && SeqAt.shaped p then some (ps.any fun z => PyData.eqv z p) else none
    | _, _ => none
  | .tup ds => match toPyL ds, toPy d with
    | some ps, some p => if SeqAt.shaped (.tuple ps) && SeqAt.shaped p then some (ps.any fun z => PyData.eqv z p) else none
    | _, _ => none
  | .kup ds => match toPyL ds, toPy d with
    | some ps, some p => if SeqAt.shaped (.tuple ps) && SeqAt.shaped p then some (ps.any fun z => PyData.eqv z p) else none
    | _, _ => none
  | .dct ks _ => (keyOf? d).map fun k => hasK k ks
  | .dtt ks _ => (tkeyOf? d).map fun k => hasK k ks
  | _ => none
def isNon : D → Bool
  | .non => true
  | _ => false
def isBl (b : Bool) : D → Bool
  | .bl c => c == b
  | _ => false
def dIs (d e : D) : Option Bool := match e with
  | .non => some (isNon d)
  | .bl b => some (isBl b d)
  | _ => none
def dCmp (op : CmpOp) (d e : D) : Option Bool :=
  match op with
  | .Eq => dEq d e
  | .NotEq => (dEq d e).map not
  | .Lt => dOrdI (fun i j => decide (i < j)) (fun p q => PySem.W.dataLt p q) d e
  | .LtE => dOrdI (fun i j => decide (i ≤ j)) (fun p q => !PySem.W.dataLt q p) d e
  | .Gt => dOrdI (fun i j => decide (j < i)) (fun p q => PySem.W.dataLt q p) d e
  | .GtE => dOrdI (fun i j => decide (j ≤ i)) (fun p q => !PySem.W.dataLt p q) d e
  | .In => dIn d e
  | .NotIn => (dIn d e).map not
  | .Is => dIs d e
  | .IsNot => (dIs d e).map not
def rCmp (K : PySem.W.Frag) (G : Gam) (op : CmpOp) : R2 := fun x y H Q => ∃ ι d e b, Obs K G ι H x d ∧ Obs K G ι H y e ∧ dCmp op d e = some b ∧ Q (.bl b) H
theorem shaped_iff {p : PyData} : SeqAt.shaped p = true ↔ p.canLay0 = true ∧ p.depth ≤ 64 := by
  show (p.canLay0 && decide (p.depth ≤ 64)) = true ↔ _
  rw [Bool.and_eq_true, decide_eq_true_eq]
theorem valV_zip {κ : Type} [DecidableEq κ] (k : κ) : ∀ (ks : List κ) (xs : List V), ks.length = xs.length → (valV (ks.zip xs) k).isSome = hasK k ks
  | [], [], _ => rfl
  | k0 :: ks, x :: xs, h => by
    have ih := valV_zip k ks xs (by simpa using h)
    unfold valV hasK at ih ⊢
    rw [List.zip_cons_cons, List.find?_cons, List.any_cons]
    by_cases e : k0 = k
    · subst e; simp
    · have : decide (k0 = k) = false := decide_eq_false e
      simp only [this, Bool.false_or]
      exact ih
theorem keyOf_obs {K : PySem.W.Frag} {G : Gam} {ι : List Addr} {H : Hp} {x : V} {d : D} {k : Key} (o : Obs K G ι H x d) (e : keyOf? d = some k) : x = kV k := by
  cases d <;> simp only [keyOf?] at e <;> first | cases e | skip
  · rw [o.int]; rfl
  · rw [o.str]; rfl
theorem keysOf_rep {K : PySem.W.Frag} {G : Gam} {ι : List Addr} {H : Hp} : ∀ {xs : List V} {ds : List D} {ks : List Key}, RepAll K G ι H xs ds → keysOf? ds = some ks → xs = ks.map kV
  | _, _, _, .nil, e => by rw [keysOf?] at e; cases e; rfl
  | _, d :: ds, ks, .cons r t, e => by
    rw [keysOf?] at e
    split at e
    · rename_i k ks' h1 h2
      cases e
      rw [List.map_cons, ← keysOf_rep t h2, ← keyOf_obs (.dat r) h1]
    · cases e
theorem tkeyOf_obs {K : PySem.W.Frag} {G : Gam} {ι : List Addr} {H : Hp} {x : V} {d : D} {k : List Key} (o : Obs K G ι H x d) (e : tkeyOf? d = some k) : ∃ a xs, x = .ref a ∧ H a = some (.tup xs) ∧ xs = k.map kV := by
  cases d <;> simp only [tkeyOf?] at e <;> first | cases e | skip
  obtain ⟨a, xs, rfl, h1, h2⟩ := o.tupO
  exact ⟨a, xs, rfl, h1, keysOf_rep h2 e⟩
theorem Rep.noneDt {K : PySem.W.Frag} {G : Gam} {ι : List Addr} {H : Hp} {v : V} {d : D} (r : Obs K G ι H v d) : isNon d = decide (v = .non) := by
  cases r with
  | dat r => cases r <;> rfl
  | lst h1 h2 => rfl
  | dct h1 h2 h3 => rfl
  | ins h1 h2 h3 h4 => rfl
section
variable {X : Cx} {G : Gam}
theorem room_any {A : Around} {ps : List PyData} {p : PyData} (h : PyData.depthAll ps + 1 ≤ 64) (hu : A.units + 65 < cLine) : A.units + 1 + min (PyData.depthAll ps) p.depth < cLine := by
  have := Nat.min_le_left (PyData.depthAll ps) p.depth
  omega
theorem is_bool_gen {A : Around} {M : Model} {E : Value → Shared → Prop} {s : Shared} {Q : Value → Shared → Prop} {x : V} {v : Value} {b : Bool} (r : RelV x v) (q : Q (.bool (v == .bool b)) s) : wpAny M A (compareOp .Is v (.bool b)) Q E s := by
  cases x <;> first
    | (cases r; exact wpAny_pure q)
    | (obtain ⟨t, rfl⟩ := r; exact wpAny_pure q)
theorem isnot_bool_gen {A : Around} {M : Model} {E : Value → Shared → Prop} {s : Shared} {Q : Value → Shared → Prop} {x : V} {v : Value} {b : Bool} (r : RelV x v) (q : Q (.bool (!(v == .bool b))) s) : wpAny M A (compareOp .IsNot v (.bool b)) Q E s := by
  cases x <;> first
    | (cases r; exact wpAny_pure q)
    | (obtain ⟨t, rfl⟩ := r; exact wpAny_pure q)
theorem is_obs {K : PySem.W.Frag} {ι : List Addr} {H : Hp} {x : V} {v : Value} {d : D} {b : Bool} (o : Obs K G ι H x d) (r : RelV x v) : (v == Value.bool b) = isBl b d := by
  cases o with
  | dat o =>
    cases o with
    | bl c => cases r; cases c <;> cases b <;> rfl
    | int i => obtain ⟨t, rfl⟩ := r; rfl
    | str i => obtain ⟨t, rfl⟩ := r; rfl
    | _ => cases r; rfl
  | _ => cases r; rfl
theorem op_cmp (op : CmpOp) (hu : X.A.units + 65 < cLine) : OpR X (compareOp op) (rCmp X.K G op) := by
  intro pins s σ H x y v u Q I rx ry h
  obtain ⟨ι, d, e, b, ox, oy, hb, q⟩ := h
  have hu64 : X.A.units + 64 < cLine := by omega
  have eqq : ∀ c, dEq d e = some c → ∃ p q, Dp X.K H x p ∧ Dp X.K H y q ∧ SeqAt.shaped p = true ∧ SeqAt.shaped q = true ∧ c = PyData.eqv p q := by
    intro c hc
    unfold dEq at hc
    split at hc
    · rename_i p q h1 h2
      split at hc
      · rename_i hs; cases hc
        rw [Bool.and_eq_true] at hs
        exact ⟨p, q, ox.dp h1, oy.dp h2, hs.1, hs.2, rfl⟩
      · cases hc
    · cases hc
  have ord : ∀ f c, dOrd f d e = some c → ∃ p q as bs, Reads s.heap v p as ∧ Reads s.heap u q bs ∧ PySem.W.alike p q = true ∧ p ≠ .none ∧ X.A.units + min p.depth q.depth < cLine ∧ c = f p q := by
    intro f c hc
    unfold dOrd at hc
    split at hc
    · rename_i p q h1 h2
      split at hc
      · rename_i hs; cases hc
        simp only [Bool.and_eq_true] at hs
        obtain ⟨⟨⟨s1, s2⟩, s3⟩, s4⟩ := hs
        obtain ⟨as, r1⟩ := Dp.reads I p x v (ox.dp h1) rx
        obtain ⟨bs, r2⟩ := Dp.reads I q y u (oy.dp h2) ry
        have h64 := (shaped_iff.mp s1).2
        have := Nat.min_le_left p.depth q.depth
        exact ⟨p, q, as, bs, r1, r2, s3, (fun z => by subst z; cases s4), by omega, rfl⟩
      · cases hc
    · cases hc
  have isin : ∀ c, dIn d e = some c → wpAny (model X.prog X.w) X.A (compareOp .In v u) (fun z s' => z = .bool c ∧ Inv X pins σ H s') X.xe s ∧ wpAny (model X.prog X.w) X.A (compareOp .NotIn v u) (fun z s' => z = .bool (!c) ∧ Inv X pins σ H s') X.xe s := by
    intro c hc
    unfold dIn at hc
    split at hc
    · rename_i z0
      split at hc
      · rename_i x0
        split at hc
        · rename_i ch hch
          cases hc
          have ex : x0 = ⟨#[ch]⟩ := by
            cases x0 with | mk cps => exact congrArg Str.mk (Array.toList_inj.mp hch)
          have h1 := ox.str
          have h2 := oy.str
          refine ⟨thn (op_inS pins s σ H x y v u (fun z H' => z = .bl (decide (ch ∈ z0.cps.toList)) ∧ H' = H) I rx ry ⟨ch, _, by rw [h1, ex], h2, rfl, rfl⟩) ?_, thn (op_notInS pins s σ H x y v u (fun z H' => z = .bl (!decide (ch ∈ z0.cps.toList)) ∧ H' = H) I rx ry ⟨ch, _, by rw [h1, ex], h2, rfl, rfl⟩) ?_⟩
          all_goals
            rintro z' s' ⟨v', H', I', r', e1, e2⟩
            subst e1 e2
            cases r'
            exact ⟨rfl, I'⟩
        · cases hc
      · cases hc
    · rename_i ds
      split at hc
      · rename_i ps p h1 h2
        split at hc
        · rename_i hs; cases hc
          rw [Bool.and_eq_true] at hs
          have hl := oy.dp (p := .list ps) (by rw [toPy, h1]; rfl)
          obtain ⟨as, r1⟩ := Dp.reads I (.list ps) y u hl ry
          obtain ⟨bs, r2⟩ := Dp.reads I p x v (ox.dp h2) rx
          exact ⟨SeqAt.in_list_reads r1 r2 (SeqAt.canLay_of_shaped hs.1) (SeqAt.canLay_of_shaped hs.2) (room_in_shaped hs.2 hu) ⟨rfl, I⟩, SeqAt.notIn_list_reads r1 r2 (SeqAt.canLay_of_shaped hs.1) (SeqAt.canLay_of_shaped hs.2) (room_in_shaped hs.2 hu) ⟨rfl, I⟩⟩
        · cases hc
      · cases hc
    · rename_i ds
      split at hc
      · rename_i ps p h1 h2
        split at hc
        · rename_i hs; cases hc
          rw [Bool.and_eq_true] at hs
          have hl := oy.dp (p := .tuple ps) (by rw [toPy, h1]; rfl)
          obtain ⟨as, r1⟩ := Dp.reads I (.tuple ps) y u hl ry
          obtain ⟨bs, r2⟩ := Dp.reads I p x v (ox.dp h2) rx
          exact ⟨SeqAt.in_tuple_reads r1 r2 (SeqAt.canLay_of_shaped hs.1) (SeqAt.canLay_of_shaped hs.2) (room_in_shaped hs.2 hu) ⟨rfl, I⟩, SeqAt.notIn_tuple_reads r1 r2 (SeqAt.canLay_of_shaped hs.1) (SeqAt.canLay_of_shaped hs.2) (room_in_shaped hs.2 hu) ⟨rfl, I⟩⟩
        · cases hc
      · cases hc
    · rename_i ds
      split at hc
      · rename_i ps p h1 h2
        split at hc
        · rename_i hs; cases hc
          rw [Bool.and_eq_true] at hs
          have hl := oy.dp (p := .tuple ps) (by rw [toPy, h1]; rfl)
          obtain ⟨as, r1⟩ := Dp.reads I (.tuple ps) y u hl ry
          obtain ⟨bs, r2⟩ := Dp.reads I p x v (ox.dp h2) rx
          exact ⟨SeqAt.in_tuple_reads r1 r2 (SeqAt.canLay_of_shaped hs.1) (SeqAt.canLay_of_shaped hs.2) (room_in_shaped hs.2 hu) ⟨rfl, I⟩, SeqAt.notIn_tuple_reads r1 r2 (SeqAt.canLay_of_shaped hs.1) (SeqAt.canLay_of_shaped hs.2) (room_in_shaped hs.2 hu) ⟨rfl, I⟩⟩
        · cases hc
      · cases hc
    · rename_i ks vs
      cases hk : keyOf? d with
      | none => rw [hk] at hc; cases hc
      | some k =>
        rw [hk] at hc; cases hc
        obtain ⟨a, xs, rfl, h1, h2, h3⟩ := oy.dctO
        obtain rfl : u = Value.ref a := ry
        have hx := keyOf_obs ox hk
        have g : DGet H a x (valV (ks.zip xs) k) := by rw [hx]; exact DGet.k h1
        have ez := valV_zip k ks xs h2
        exact ⟨d_in (by omega) I g rx fun s' I' => ⟨by rw [ez], I'⟩, d_notIn (by omega) I g rx fun s' I' => ⟨by rw [ez], I'⟩⟩
    · rename_i ks vs
      cases hk : tkeyOf? d with
      | none => rw [hk] at hc; cases hc
      | some k =>
        rw [hk] at hc; cases hc
        obtain ⟨a, xs, rfl, h1, h2, h3⟩ := oy.dttO
        obtain rfl : u = Value.ref a := ry
        obtain ⟨t, ys, ex, e1, rfl⟩ := tkeyOf_obs ox hk
        have g : DGet H a x (valV (ks.zip xs) k) := by rw [ex]; exact DGet.t h1 e1
        have ez := valV_zip k ks xs h2
        exact ⟨d_in (by omega) I g rx fun s' I' => ⟨by rw [ez], I'⟩, d_notIn (by omega) I g rx fun s' I' => ⟨by rw [ez], I'⟩⟩
    · cases hc
  cases op with
  | Eq =>
    obtain ⟨p, q', h1, h2, h3, h4, rfl⟩ := eqq b hb
    exact op_eqD hu64 pins s σ H x y v u Q I rx ry ⟨p, q', h1, h2, h3, h4, q⟩
  | NotEq =>
    have hb' : (dEq d e).map not = some b := hb
    cases hc : dEq d e with
    | none => rw [hc] at hb'; cases hb'
    | some c =>
      rw [hc] at hb'; cases hb'
      obtain ⟨p, q', h1, h2, h3, h4, rfl⟩ := eqq c hc
      exact op_neD hu64 pins s σ H x y v u Q I rx ry ⟨p, q', h1, h2, h3, h4, q⟩
  | Lt =>
    have hb : dOrdI _ _ d e = some b := hb
    unfold dOrdI at hb
    split at hb
    · cases hb
      exact op_lt pins s σ H x y v u Q I rx ry ⟨_, _, ox.int, oy.int, q⟩
    · obtain ⟨p, q', as, bs, r1, r2, h1, h2, h3, rfl⟩ := ord _ b hb
      exact PySem.W.lt_data r1 r2 h1 h2 h3 ⟨.bl _, H, I, rfl, q⟩
  | LtE =>
    have hb : dOrdI _ _ d e = some b := hb
    unfold dOrdI at hb
    split at hb
    · cases hb
      exact op_le pins s σ H x y v u Q I rx ry ⟨_, _, ox.int, oy.int, q⟩
    · obtain ⟨p, q', as, bs, r1, r2, h1, h2, h3, rfl⟩ := ord _ b hb
      exact PySem.W.le_data r1 r2 h1 h2 h3 ⟨.bl _, H, I, rfl, q⟩
  | Gt =>
    have hb : dOrdI _ _ d e = some b := hb
    unfold dOrdI at hb
    split at hb
    · cases hb
      exact op_gt pins s σ H x y v u Q I rx ry ⟨_, _, ox.int, oy.int, q⟩
    · obtain ⟨p, q', as, bs, r1, r2, h1, h2, h3, rfl⟩ := ord _ b hb
      exact PySem.W.gt_data r1 r2 h1 h2 h3 ⟨.bl _, H, I, rfl, q⟩
  | GtE =>
    have hb : dOrdI _ _ d e = some b := hb
    unfold dOrdI at hb
    split at hb
    · cases hb
      exact op_ge pins s σ H x y v u Q I rx ry ⟨_, _, ox.int, oy.int, q⟩
    · obtain ⟨p, q', as, bs, r1, r2, h1, h2, h3, rfl⟩ := ord _ b hb
      exact PySem.W.ge_data r1 r2 h1 h2 h3 ⟨.bl _, H, I, rfl, q⟩
  | In => exact thn (isin b hb).1 fun z s' ⟨e1, I'⟩ => ⟨.bl b, H, I', e1, q⟩
  | NotIn =>
    have hb' : (dIn d e).map not = some b := hb
    cases hc : dIn d e with
    | none => rw [hc] at hb'; cases hb'
    | some c =>
      rw [hc] at hb'; cases hb'
      exact thn (isin c hc).2 fun z s' ⟨e1, I'⟩ => ⟨.bl _, H, I', e1, q⟩
  | Is =>
    have hb : dIs d e = some b := hb
    unfold dIs at hb
    split at hb
    · cases hb
      exact op_isN pins s σ H x y v u Q I rx ry ⟨oy.non, by rw [← Rep.noneDt ox]; exact q⟩
    · cases hb
      obtain rfl := oy.bl
      cases ry
      exact is_bool_gen rx ⟨.bl _, H, I, by rw [is_obs ox rx]; rfl, q⟩
    · cases hb
  | IsNot =>
    have hb : (dIs d e).map not = some b := hb
    unfold dIs at hb
    split at hb
    · cases hb
      exact op_notN pins s σ H x y v u Q I rx ry ⟨oy.non, by rw [← Rep.noneDt ox]; exact q⟩
    · cases hb
      obtain rfl := oy.bl
      cases ry
      exact isnot_bool_gen rx ⟨.bl _, H, I, by rw [is_obs ox rx]; rfl, q⟩
    · cases hb
end
end EC
namespace EC
open PySem PySem.Spec PyProof.Rows L2
/-- the datum at a key -/
def valD {κ : Type} [DecidableEq κ] (ks : List κ) (vs : List D) (k : κ) : Option D := ((ks.zip vs).find? fun kv => decide (kv.1 = k)).map (·.2)
theorem valD_cons {κ : Type} [DecidableEq κ] (k0 : κ) (ks : List κ) (v : D) (vs : List D) (k : κ) : valD (k0 :: ks) (v :: vs) k = if k0 = k then some v else valD ks vs k := by
  unfold valD
  rw [List.zip_cons_cons, List.find?_cons]
  by_cases e : k0 = k
  · subst e; simp
  · simp [decide_eq_false e, e]
theorem valV_cons {κ : Type} [DecidableEq κ] (k0 : κ) (ks : List κ) (v : V) (vs : List V) (k : κ) : valV ((k0 :: ks).zip (v :: vs)) k = if k0 = k then some v else valV (ks.zip vs) k := by
  unfold valV
  rw [List.zip_cons_cons, List.find?_cons]
  by_cases e : k0 = k
  · subst e; simp
  · simp [decide_eq_false e, e]
section
variable {K : PySem.W.Frag} {G : Gam} {ι : List Addr} {H : Hp}
theorem RepAll.val {κ : Type} [DecidableEq κ] {k : κ} : ∀ {ks : List κ} {xs : List V} {ds : List D} {d : D}, RepAll K G ι H xs ds → valD ks ds k = some d → ∃ v, valV (ks.zip xs) k = some v ∧ Rep K G ι H v d
  | [], _, _, _, _, e => by simp [valD] at e
  | _ :: _, _, _, _, .nil, e => by simp [valD] at e
  | k0 :: ks, _, _, d, .cons r t, e => by
    rw [valD_cons] at e
    rw [valV_cons]
    by_cases q : k0 = k
    · rw [if_pos q] at e ⊢
      cases e
      exact ⟨_, rfl, r⟩
    · rw [if_neg q] at e ⊢
      exact RepAll.val t e
theorem RepAll.valN {κ : Type} [DecidableEq κ] {k : κ} : ∀ {ks : List κ} {xs : List V} {ds : List D}, RepAll K G ι H xs ds → valD ks ds k = none → valV (ks.zip xs) k = none
  | [], _, _, _, e => by simp [valV]
  | _ :: _, _, _, .nil, e => by simp [valV]
  | k0 :: ks, _, _, .cons r t, e => by
    rw [valD_cons] at e
    rw [valV_cons]
    by_cases q : k0 = k
    · rw [if_pos q] at e; cases e
    · rw [if_neg q] at e ⊢
      exact RepAll.valN t e
theorem RepAll.atI {xs : List V} {ds : List D} {i : Int} {d : D} (r : RepAll K G ι H xs ds) (e : atI ds i = some d) : ∃ v, L2.atI xs i = some v ∧ Rep K G ι H v d := by
  unfold L2.atI at e ⊢
  rw [r.length]
  cases q : ixN ds.length i with
  | none => rw [q] at e; cases e
  | some j =>
    rw [q] at e
    obtain ⟨v, h1, h2⟩ := r.get (show ds[j]? = some d from e)
    exact ⟨v, h1, h2⟩
end
def dIx (d e : D) : Option D :=
  match d, e with
  | .lst ds, .int i => atI ds i
  | .tup ds, .int i => atI ds i
  | .kup ds, .int i => atI ds i
  | .str z, .int i => if fits z.length then (atI z.cps.toList i).map fun c => .str ⟨#[c]⟩ else none
  | .dct ks vs, e => (keyOf? e).bind fun k => valD ks vs k
  | .dtt ks vs, e => (tkeyOf? e).bind fun k => valD ks vs k
  | _, _ => none
def rIxG (K : PySem.W.Frag) (G : Gam) : R2 := fun x y H Q => ∃ ι S d e z, StOk K G ι S H ∧ Obs K G ι H x d ∧ Obs K G ι H y e ∧ dIx d e = some z ∧ Got K G ι S H z Q
section
variable {X : Cx} {G : Gam}
theorem ix_dict (hu : X.A.units + 1 < cLine) : IxR X (fun x y H Q => ∃ a v, x = .ref a ∧ DGet H a y (some v) ∧ Q v H) := by
  intro value slice pins s σ H x y v u Q I rx ry h hs
  obtain ⟨a, z, rfl, g, q⟩ := h
  obtain rfl : v = Value.ref a := rx
  have hT := dict_typeIs I g
  unfold subscriptTail
  refine wpAny_bind ?_
  rw [getitemInPython_of_ne hT.not_modules]
  refine wpAny_bind (wpAny_specialOf hT PySem.F.slot_dict_getitem.lookup ?_)
  have fin : wpAny (model X.prog X.w) X.A (subscripted slice false (.ref a) u) (fun r s₃ => wpAny (model X.prog X.w) X.A (letTemporaryGo value (.ref a) r >>= fun _ => pure r) (EP X pins σ Q) X.xe s₃) X.xe s := by
    rw [hs]
    exact wpAny_operating (wpAny_mono (d_getItem hu I g ry (Q := EP X pins σ Q) fun w' s3 I3 rw' => ⟨z, H, I3, rw', q⟩) (fun r s₃ h₃ => wpAny_bind (wpAny_letTemporaryGo (wpAny_pure h₃))) fun _ _ x => x)
  first
    | exact wpAny_pure (wpAny_bind fin)
    | exact wpAny_bind (wpAny_pure (wpAny_bind fin))
    | exact wpAny_bind fin
theorem ix_all (hu : X.A.units + 1 < cLine) : IxR X (rIxG X.K G) := by
  intro value slice pins s σ H x y v u Q I rx ry h hs
  obtain ⟨ι, S, d, e, z, st, ox, oy, hz, g⟩ := h
  unfold dIx at hz
  split at hz
  · obtain ⟨a, xs, rfl, h1, r1⟩ := ox.lstO
    obtain ⟨w', h2, h3⟩ := r1.atI hz
    exact ix_list value slice pins s σ H _ y v u Q I rx ry ⟨a, xs, _, w', rfl, oy.int, .of h1, h2, g.now st h3⟩ hs
  · obtain ⟨a, xs, rfl, h1, r1⟩ := ox.tupO
    obtain ⟨w', h2, h3⟩ := r1.atI hz
    exact ix_tup value slice pins s σ H _ y v u Q I rx ry ⟨a, xs, _, w', rfl, oy.int, .of h1, h2, g.now st h3⟩ hs
  · obtain ⟨a, xs, rfl, h1, r1⟩ := ox.kupO
    obtain ⟨w', h2, h3⟩ := r1.atI hz
    exact ix_tup value slice pins s σ H _ y v u Q I rx ry ⟨a, xs, _, w', rfl, oy.int, h1, h2, g.now st h3⟩ hs
  · rename_i z0 i
    split at hz
    · rename_i hf
      cases hc : L2.atI z0.cps.toList i with
      | none => rw [hc] at hz; cases hz
      | some c =>
        rw [hc] at hz; cases hz
        exact ix_str value slice pins s σ H x y v u Q I rx ry ⟨z0, i, c, ox.str, oy.int, fits_iff.mp hf, hc, g.now st (.str _)⟩ hs
    · cases hz
  · rename_i ks vs
    cases hk : keyOf? e with
    | none => rw [hk] at hz; cases hz
    | some k =>
      rw [hk] at hz
      obtain ⟨a, xs, rfl, h1, h2, r1⟩ := ox.dctO
      obtain ⟨w', h3, h4⟩ := r1.val (show valD ks vs k = some z from hz)
      refine ix_dict hu value slice pins s σ H _ y v u Q I rx ry ⟨a, w', rfl, ?_, g.now st h4⟩ hs
      rw [keyOf_obs oy hk, ← h3]
      exact DGet.k h1
  · rename_i ks vs
    cases hk : tkeyOf? e with
    | none => rw [hk] at hz; cases hz
    | some k =>
      rw [hk] at hz
      obtain ⟨a, xs, rfl, h1, h2, r1⟩ := ox.dttO
      obtain ⟨w', h3, h4⟩ := r1.val (show valD ks vs k = some z from hz)
      obtain ⟨t, ys, ex, e1, rfl⟩ := tkeyOf_obs oy hk
      refine ix_dict hu value slice pins s σ H _ y v u Q I rx ry ⟨a, w', rfl, ?_, g.now st h4⟩ hs
      rw [ex, ← h3]
      exact DGet.t h1 e1
  · cases hz
end
def cutD (ds : List D) (lo hi : Option Int) : List D := (ds.drop (HT.sIx ds.length 0 lo)).take (HT.sIx ds.length ds.length hi - HT.sIx ds.length 0 lo)
def dSl (d : D) (lo hi : Option Int) : Option D :=
  match d with
  | .lst ds => some (.lst (cutD ds lo hi))
  | .tup ds => some (.tup (cutD ds lo hi))
  | .str z => if fits z.length then some (.str (cutS z lo hi)) else none
  | _ => none
theorem RepAll.cut {K : PySem.W.Frag} {G : Gam} {ι : List Addr} {H : Hp} {xs : List V} {ds : List D} (r : RepAll K G ι H xs ds) (lo hi : Option Int) : RepAll K G ι H (cutV xs lo hi) (cutD ds lo hi) := by
  unfold cutV cutD
  rw [r.length]
  exact (r.drop _).take _
theorem cutD_full {ds : List D} {lo hi : Option Int} (h : HT.sIx ds.length 0 lo = 0 ∧ HT.sIx ds.length ds.length hi = ds.length) : cutD ds lo hi = ds := by
  unfold cutD
  rw [h.1, h.2]
  simp
def rSlG (K : PySem.W.Frag) (G : Gam) : V → Option Int → Option Int → Hp → VK → Prop := fun x lo hi H Q => ∃ ι S d z, StOk K G ι S H ∧ Obs K G ι H x d ∧ dSl d lo hi = some z ∧ Got K G ι S H z Q
theorem sl_all {X : Cx} {G : Gam} : SlR X (rSlG X.K G) := by
  intro pins s σ H x v vl vu lo hi sl Q I rx hs pl pu h
  obtain ⟨ι, S, d, z, st, ox, hz, g⟩ := h
  unfold dSl at hz
  split at hz
  · cases hz
    obtain ⟨a, xs, rfl, h1, r1⟩ := ox.lstO
    exact sl_list pins s σ H _ v vl vu lo hi sl Q I rx hs pl pu ⟨a, xs, rfl, .of h1, g.lst st (r1.cut lo hi)⟩
  · rename_i ds
    cases hz
    obtain ⟨a, xs, rfl, h1, r1⟩ := ox.tupO
    have hl := r1.length
    refine sl_tupA pins s σ H _ v vl vu lo hi sl Q I rx hs pl pu ⟨a, xs, rfl, .of h1, fun hw => ?_, fun _ => g.tup st (r1.cut lo hi)⟩
    rw [hl] at hw
    rw [cutD_full hw] at g
    cases ox with | dat r => exact g.now st r
  · split at hz
    · rename_i z0 hf; cases hz
      exact sl_str pins s σ H x v vl vu lo hi sl Q I rx hs pl pu ⟨z0, ox.str, fits_iff.mp hf, g.now st (.str _)⟩
    · cases hz
  · cases hz
end EC
namespace EC
open PySem PySem.Spec PyProof.Rows L2
/-- the built-in names that are used -/
def biNames : List Str := ["len", "sorted", "sum", "min", "max", "all", "any", "abs", "isinstance", "repr", "range", "zip", "enumerate", "int", "str", "bool", "list", "tuple", "dict", "set", "ValueError"]
/-- what is known of the names, anywhere -/
structure CtxN (G : Gam) (X : Cx) : Prop where
  nd : X.N.Nodup
  bi : ∀ x, x ∈ biNames → X.mg x = none
  gfn : ∀ f a, G.fns.lookup f = some a → X.mg f = some (.ref a) ∧ PySem.W.keepIn X.K (.ref a) = true
  gcl : ∀ c ci, G.clss.lookup c = some ci → X.mg c = some (.ref ci.C)
  gco : ∀ c d, G.cons.lookup c = some d → ∃ v u, X.mg c = some u ∧ RelV v u ∧ ∀ ι H, Rep X.K G ι H v d
/-- the context of code of which one speaks -/
structure Ctx (G : Gam) (X : Cx) (Wx : WX) : Prop extends CtxN G X where
  calm : X.calm = true
  tk : Takes X Wx
  un : X.A.units + 100 < cLine
def okName (x : Str) : Bool := !(x == ("__debug__" : Str)) && !(x == ("__classdict__" : Str)) && !decide (x = ("__name__" : Str))
def visB (sc : Scope) (x : Str) : Bool := match sc.names.lookup x with
  | some .local => true
  | some .cell => true
  | some .free => true
  | _ => false
def glbB (sc : Scope) (x : Str) : Bool := match sc.names.lookup x with
  | some .globalImplicit => true
  | _ => false
def ixOf (x : Str) : List Str → Option Nat
  | [] => none
  | y :: ys => if y = x then some 0 else (ixOf x ys).map (· + 1)
theorem ixOf_get {x : Str} : ∀ {N : List Str} {i : Nat}, ixOf x N = some i → N[i]? = some x
  | [], _, h => by cases h
  | y :: ys, i, h => by
    unfold ixOf at h
    by_cases e : y = x
    · rw [if_pos e] at h; cases h; simp [e]
    · rw [if_neg e] at h
      cases q : ixOf x ys with
      | none => rw [q] at h; cases h
      | some j => rw [q] at h; cases h; simpa using ixOf_get q
theorem visB_iff {sc : Scope} {x : Str} (h : visB sc x = true) : Vis sc x := by
  unfold visB at h
  split at h <;> first | exact .inl (by assumption) | exact .inr (.inl (by assumption)) | exact .inr (.inr (by assumption)) | cases h
theorem glbB_iff {sc : Scope} {x : Str} (h : glbB sc x = true) : sc.names.lookup x = some .globalImplicit := by
  unfold glbB at h
  split at h <;> first | assumption | cases h
theorem okName_iff {x : Str} (h : okName x = true) : (x == ("__debug__" : Str)) = false ∧ (x == ("__classdict__" : Str)) = false ∧ x ≠ "__name__" := by
  unfold okName at h
  simp only [Bool.and_eq_true, Bool.not_eq_true', decide_eq_false_iff_not] at h
  exact ⟨h.1.1, h.1.2, h.2⟩
def tyNames : List (Str × String) := [("int", "int"), ("str", "str"), ("bool", "bool"), ("tuple", "tuple"), ("list", "list"), ("dict", "dict")]
def gval (G : Gam) (x : Str) : Option D := match G.cons.lookup x with
  | some d => some d
  | none => match G.fns.lookup x with
    | some _ => some (.fn x)
    | none => match G.clss.lookup x with
      | some _ => some (.cls x)
      | none => match tyNames.lookup x with
        | some n => if x ∈ biNames then some (.bty n) else none
        | none => none
def eName (G : Gam) (N : List Str) (sc : Scope) (x : Str) : Sm W := fun ρ S =>
  if okName x then
    if visB sc x then match ixOf x N with
      | some i => match ρ[i]? with
        | some (some w) => .ok w S
        | _ => .bad
      | none => .bad
    else if glbB sc x then match gval G x with
      | some d => .ok (.dat d) S
      | none => .bad
    else .bad
  else .bad
theorem tyNames_boot : ∀ p ∈ tyNames, bootBuiltins p.1 = some (.type p.2) := by decide +kernel
theorem sd_name {G : Gam} {X : Cx} {Wx : WX} (C : CtxN G X) {x : Str} {pos : Pos} : PE X (.Name x pos) (rdE X.K G Wx (eName G X.N X.env.scope x)) := by
  unfold eName
  cases h0 : okName x with
  | false => exact pe_bad
  | true =>
    obtain ⟨n1, n2, n3⟩ := okName_iff h0
    cases h1 : visB X.env.scope x with
    | true =>
      cases h2 : ixOf x X.N with
      | none => exact pe_bad
      | some i =>
        refine PE.imp (pe_var (i := i) (ixOf_get h2) (visB_iff h1) n1 n2) fun σ H Q ⟨ι, ρ, S, m, o⟩ => ?_
        simp only [if_true] at o
        split at o
        · rename_i w e
          obtain ⟨v, h3, h4⟩ := m.env.at_ i w e
          exact ⟨v, h3, o ι H (Ext.refl _ _) m.st v h4⟩
        · exact o.elim
    | false =>
      cases h2 : glbB X.env.scope x with
      | false => exact pe_bad
      | true =>
        have hg : Gl X x := glbB_iff h2
        simp only [if_true, if_false, Bool.false_eq_true]
        unfold gval
        cases g1 : G.cons.lookup x with
        | some d =>
          obtain ⟨v, u, e1, e2, e3⟩ := C.gco x d g1
          exact PE.imp (pe_glob hg e1 e2 n1) fun σ H Q ⟨ι, ρ, S, m, o⟩ => o ι H (Ext.refl _ _) m.st v (.dat (e3 ι H))
        | none =>
          cases g2 : G.fns.lookup x with
          | some a =>
            obtain ⟨e1, _⟩ := C.gfn x a g2
            exact PE.imp (pe_glob (v := .ref a) hg e1 rfl n1) fun σ H Q ⟨ι, ρ, S, m, o⟩ => o ι H (Ext.refl _ _) m.st _ (.dat (.fn g2))
          | none =>
            cases g3 : G.clss.lookup x with
            | some ci =>
              exact PE.imp (pe_glob (v := .ref ci.C) hg (C.gcl x ci g3) rfl n1) fun σ H Q ⟨ι, ρ, S, m, o⟩ => o ι H (Ext.refl _ _) m.st _ (.dat (.cls g3))
            | none =>
              cases g4 : tyNames.lookup x with
              | none => exact pe_bad
              | some n =>
                by_cases g5 : x ∈ biNames
                · simp only [if_pos g5]
                  exact PE.imp (pe_bltn (v := .ty n) hg (C.bi x g5) (tyNames_boot _ (PySem.mem_of_lookup g4)) rfl n3 n1) fun σ H Q ⟨ι, ρ, S, m, o⟩ => o ι H (Ext.refl _ _) m.st _ (.dat (.bty n))
                · simp only [if_neg g5]
                  exact pe_bad
def eConst (c : Const) : Sm W := fun _ S => match c with
  | .int i => .ok (.dat (.int i)) S
  | .str x => .ok (.dat (.str x)) S
  | .bool b => .ok (.dat (.bl b)) S
  | .none => .ok (.dat .non) S
  | _ => .bad
theorem sd_const {G : Gam} {X : Cx} {Wx : WX} {c : Const} {j : Nat} {pos : Pos} : PE X (.Constant c j pos) (rdE X.K G Wx (eConst c)) := by
  cases c with
  | int i => exact PE.imp pe_int fun σ H Q ⟨ι, ρ, S, m, o⟩ => o ι H (Ext.refl _ _) m.st _ (.dat (.int i))
  | str i => exact PE.imp pe_str fun σ H Q ⟨ι, ρ, S, m, o⟩ => o ι H (Ext.refl _ _) m.st _ (.dat (.str i))
  | bool i => exact PE.imp pe_bl fun σ H Q ⟨ι, ρ, S, m, o⟩ => o ι H (Ext.refl _ _) m.st _ (.dat (.bl i))
  | none => exact PE.imp pe_non fun σ H Q ⟨ι, ρ, S, m, o⟩ => o ι H (Ext.refl _ _) m.st _ (.dat .non)
  | _ => exact pe_bad
def notStar : Expr → Bool
  | .Starred .. => false
  | _ => true
theorem starEach_cons {e : Expr} {es : List Expr} {env : Env} (h : notStar e = true) : starEach (e :: es) env = (false, eval e env) :: starEach es env := by
  cases e <;> first | rfl | cases h
def noStars (es : List Expr) : Bool := es.all notStar
theorem noStar_any {es : List Expr} {env : Env} {pos : Pos} (h : noStars es = true) : (backTo pos (starEach es env)).any (·.1) = false := by
  induction es with
  | nil => rfl
  | cons e es ih =>
    unfold noStars at h
    rw [List.all_cons, Bool.and_eq_true] at h
    rw [starEach_cons h.1]
    show ((false : Bool) || (backTo pos (starEach es env)).any (·.1)) = false
    rw [ih h.2]; rfl
/-- a list of expressions, from the left -/
def evs (f : Expr → Sm W) : List Expr → Sm (List W)
  | [] => fun _ S => .ok [] S
  | e :: es => fun ρ S => if notStar e then (f e ρ S).bind fun w S1 => (evs f es ρ S1).bind fun ws S2 => .ok (w :: ws) S2 else .bad
theorem sd_args {G : Gam} {X : Cx} {Wx : WX} {f : Expr → Sm W} : ∀ (es : List Expr), (∀ e ∈ es, PE X e (rdE X.K G Wx (f e))) → PA X es (rdA X.K G Wx (evs f es))
  | [], _ => PA.imp pa_nil fun σ H Q ⟨ι, ρ, S, m, o⟩ => o ι H (Ext.refl _ _) m.st [] .nil
  | e :: es, h => by
    unfold evs
    cases hs : notStar e with
    | false => exact pa_bad
    | true =>
      refine PA.imp (pa_cons (h e List.mem_cons_self) (sd_args es fun e he => h e (List.mem_cons_of_mem _ he)) (starEach_cons hs)) fun σ H Q ⟨ι, ρ, S, m, o⟩ => ?_
      simp only [if_true] at o
      refine ⟨ι, ρ, S, m, o.bind.imp fun ι1 H1 S1 w1 e1 s1 o1 x rx => ?_⟩
      refine ⟨ι1, ρ, S1, ⟨m.env.ext e1, s1⟩, o1.bind.imp fun ι2 H2 S2 ws e2 s2 o2 xs rxs => ?_⟩
      exact o2 ι2 H2 (Ext.refl _ _) s2 (x :: xs) (.cons (rx.ext e2) rxs)
/-- all of them data -/
def allD : List W → Option (List D)
  | [] => some []
  | .dat d :: ws => (allD ws).map (d :: ·)
  | .cell _ :: _ => none
  | .lam _ :: _ => none
theorem RepWs.all {K : PySem.W.Frag} {G : Gam} {ι : List Addr} {H : Hp} : ∀ {vs : List V} {ws : List W} {ds : List D}, RepWs K G ι H vs ws → allD ws = some ds → RepAll K G ι H vs ds
  | _, _, _, .nil, e => by cases e; exact .nil
  | _, .dat d :: ws, ds, .cons r t, e => by
    unfold allD at e
    cases q : allD ws with
    | none => rw [q] at e; cases e
    | some es => rw [q] at e; cases e; cases r with | dat r => exact .cons r (RepWs.all t q)
  | _, .cell _ :: _, _, .cons _ _, e => by cases e
  | _, .lam _ :: _, _, .cons _ _, e => by cases e
def mkTup (ws : List W) (S : Store) : Res W := match allD ws with
  | some ds => if fits ds.length then .ok (.dat (.tup ds)) S else .bad
  | none => .bad
def mkLst (ws : List W) (S : Store) : Res W := match allD ws with
  | some ds => if fits ds.length then .ok (.dat (.lst ds)) S else .bad
  | none => .bad
theorem sd_tup {G : Gam} {X : Cx} {Wx : WX} {es : List Expr} {c : Sm (List W)} {k : Nat} {pos : Pos} (h : PA X es (rdA X.K G Wx c)) : PE X (.Tuple es k pos) (rdE X.K G Wx fun ρ S => (c ρ S).bind mkTup) := by
  refine PE.imp (pe_tup h) fun σ H Q hh => ?_
  obtain ⟨ι, ρ, S, m, o⟩ := hh
  refine ⟨ι, ρ, S, m, o.bind.imp fun ι1 H1 S1 ws e1 s1 o1 xs rxs => ?_⟩
  unfold mkTup at o1
  split at o1
  · rename_i ds hd
    split at o1
    · rename_i hf
      have r := rxs.all hd
      exact ⟨by rw [r.length]; exact fits_iff.mp hf, (Out.got o1).tup s1 r⟩
    · exact o1.elim
  · exact o1.elim
theorem sd_lst {G : Gam} {X : Cx} {Wx : WX} {es : List Expr} {c : Sm (List W)} {pos : Pos} (h : PA X es (rdA X.K G Wx c)) : PE X (.List es pos) (rdE X.K G Wx fun ρ S => (c ρ S).bind mkLst) := by
  refine PE.imp (pe_lst h) fun σ H Q hh => ?_
  obtain ⟨ι, ρ, S, m, o⟩ := hh
  refine ⟨ι, ρ, S, m, o.bind.imp fun ι1 H1 S1 ws e1 s1 o1 xs rxs => ?_⟩
  unfold mkLst at o1
  split at o1
  · rename_i ds hd
    split at o1
    · rename_i hf
      have r := rxs.all hd
      exact ⟨by rw [r.length]; exact fits_iff.mp hf, (Out.got o1).lst s1 r⟩
    · exact o1.elim
  · exact o1.elim
def f2 (f : D → D → Option D) (w1 w2 : W) (S : Store) : Res W := match derefW S w1, derefW S w2 with
  | some d, some e => match f d e with
    | some z => .ok (.dat z) S
    | none => .bad
  | _, _ => .bad
def s2 (f : W → W → Store → Res W) (c1 c2 : Sm W) : Sm W := fun ρ S => (c1 ρ S).bind fun w1 S1 => (c2 ρ S1).bind fun w2 S2 => f w1 w2 S2
theorem f2_out {K : PySem.W.Frag} {G : Gam} {ι : List Addr} {H : Hp} {E : XK} {Q : VK} {f : D → D → Option D} {w1 w2 : W} {S : Store} {x y : V} (st : StOk K G ι S H) (r1 : RepW K G ι H x w1) (r2 : RepW K G ι H y w2)
    (o : Out K G ι H E (fun ι' H' _ w => ∀ v, RepW K G ι' H' v w → Q v H') (f2 f w1 w2 S)) : ∃ d e z, Obs K G ι H x d ∧ Obs K G ι H y e ∧ f d e = some z ∧ Got K G ι S H z Q := by
  unfold f2 at o
  split at o
  · rename_i d e h1 h2
    split at o
    · rename_i z hz
      exact ⟨d, e, z, obs_of st r1 h1, obs_of st r2 h2, hz, Out.got o⟩
    · exact o.elim
  · exact o.elim
def dCmpD (op : CmpOp) (d e : D) : Option D := (dCmp op d e).map .bl
section
variable {G : Gam} {X : Cx} {Wx : WX} {a b c : Expr} {c1 c2 c3 : Sm W} {pos : Pos}
theorem sd_bin (op : Operator) (ha : PE X a (rdE X.K G Wx c1)) (hb : PE X b (rdE X.K G Wx c2)) : PE X (.BinOp a op b pos) (rdE X.K G Wx (s2 (f2 (dBin op)) c1 c2)) := by
  refine PE.imp (pe_op (op_bin (G := G) op) ha hb) fun σ H Q h => ?_
  obtain ⟨ι, ρ, S, m, o⟩ := rd_two h
  refine ⟨ι, ρ, S, m, o.imp fun ι1 H1 S1 w e1 s1 o1 x rx => ?_⟩
  obtain ⟨ι2, ρ2, S2, m2, o2⟩ := o1 x rx
  refine ⟨ι2, ρ2, S2, m2, o2.imp fun ι3 H3 S3 w3 e3 s3 o3 y ry => ?_⟩
  obtain ⟨ι4, ρ4, S4, w1, w2, m4, r1, r2, o4⟩ := o3 y ry
  obtain ⟨d, e, z, h1, h2, h3, h4⟩ := f2_out m4.st r1 r2 o4
  exact ⟨ι4, S4, d, e, z, m4.st, h1, h2, h3, h4⟩
theorem sd_ix (C : Ctx G X Wx) (ha : PE X a (rdE X.K G Wx c1)) (hb : PE X b (rdE X.K G Wx c2)) (hs : PlainIx b) : PE X (.Subscript a b pos) (rdE X.K G Wx (s2 (f2 dIx) c1 c2)) := by
  refine PE.imp (pe_ix (ix_all (G := G) (by have := C.un; omega)) ha hb hs) fun σ H Q h => ?_
  obtain ⟨ι, ρ, S, m, o⟩ := rd_two h
  refine ⟨ι, ρ, S, m, o.imp fun ι1 H1 S1 w e1 s1 o1 x rx => ?_⟩
  obtain ⟨ι2, ρ2, S2, m2, o2⟩ := o1 x rx
  refine ⟨ι2, ρ2, S2, m2, o2.imp fun ι3 H3 S3 w3 e3 s3 o3 y ry => ?_⟩
  obtain ⟨ι4, ρ4, S4, w1, w2, m4, r1, r2, o4⟩ := o3 y ry
  obtain ⟨d, e, z, h1, h2, h3, h4⟩ := f2_out m4.st r1 r2 o4
  exact ⟨ι4, S4, d, e, z, m4.st, h1, h2, h3, h4⟩
end
end EC
namespace EC
open PySem PySem.Spec PyProof.Rows L2
def notSet : Expr → Bool
  | .Set .. => false
  | _ => true
theorem notSet_marks {b : Expr} {op : CmpOp} (h : notSet b = true) : behindInMarks op b = false := by
  cases b <;> first | rfl | cases h
section
variable {G : Gam} {X : Cx} {Wx : WX} {a b c : Expr} {c1 c2 c3 : Sm W} {pos : Pos}
theorem rd_cmp {op : CmpOp} {K : PySem.W.Frag} {σ : L2.St} {H : Hp} {Q : VK} (h : rdE K G Wx (s2 (f2 (dCmpD op)) c1 c2) σ H Q) : tOp (rCmp K G op) (rdE K G Wx c1) (rdE K G Wx c2) σ H Q := by
  obtain ⟨ι, ρ, S, m, o⟩ := rd_two h
  refine ⟨ι, ρ, S, m, o.imp fun ι1 H1 S1 w e1 s1 o1 x rx => ?_⟩
  obtain ⟨ι2, ρ2, S2, m2, o2⟩ := o1 x rx
  refine ⟨ι2, ρ2, S2, m2, o2.imp fun ι3 H3 S3 w3 e3 s3 o3 y ry => ?_⟩
  obtain ⟨ι4, ρ4, S4, w1, w2, m4, r1, r2, o4⟩ := o3 y ry
  obtain ⟨d, e, z, h1, h2, h3, h4⟩ := f2_out m4.st r1 r2 o4
  unfold dCmpD at h3
  cases q : dCmp op d e with
  | none => rw [q] at h3; cases h3
  | some k => rw [q] at h3; cases h3; exact ⟨ι4, d, e, k, h1, h2, q, h4.now m4.st (.bl k)⟩
theorem sd_cmp (C : Ctx G X Wx) (op : CmpOp) (ha : PE X a (rdE X.K G Wx c1)) (hb : PE X b (rdE X.K G Wx c2)) (hs : notSet b = true) : PE X (.Compare a [op] [b] pos) (rdE X.K G Wx (s2 (f2 (dCmpD op)) c1 c2)) :=
  PE.imp (pe_cmpR (op_cmp (G := G) op (by have := C.un; omega)) ha hb (notSet_marks hs)) fun σ H Q h => rd_cmp h
/-- a test: the value is a bool -/
def tst (c : Sm W) : Sm Bool := fun ρ S => (c ρ S).bind fun w S1 => match w with
  | .dat (.bl b) => .ok b S1
  | _ => .bad
theorem tst_out {K : PySem.W.Frag} {ι : List Addr} {H : Hp} {E : XK} {Q : Bool → Hp → Prop} {r : Res W} (o : Out K G ι H E (fun _ H' _ b => Q b H') (r.bind fun w S1 => match w with | .dat (.bl b) => .ok b S1 | _ => .bad)) :
    Out K G ι H E (fun ι' H' _ w => ∀ v, RepW K G ι' H' v w → ∃ k, v = .bl k ∧ Q k H') r := by
  refine o.bind.imp fun ι1 H1 S1 w e1 s1 o1 v rv => ?_
  split at o1
  · rename_i b
    cases rv with | dat r => cases r; exact ⟨b, rfl, o1 ι1 H1 (Ext.refl _ _) s1⟩
  · exact o1.elim
theorem rd_tst {K : PySem.W.Frag} {σ : L2.St} {H : Hp} {Q : Bool → Hp → Prop} (h : rdT K G Wx (tst c1) σ H Q) : tB (rdE K G Wx c1) σ H Q := by
  obtain ⟨ι, ρ, S, m, o⟩ := h
  exact ⟨ι, ρ, S, m, tst_out o⟩
theorem sd_cmpT (C : Ctx G X Wx) (op : CmpOp) (ha : PE X a (rdE X.K G Wx c1)) (hb : PE X b (rdE X.K G Wx c2)) (hs : notSet b = true) : PT X (.Compare a [op] [b] pos) (rdT X.K G Wx (tst (s2 (f2 (dCmpD op)) c1 c2))) :=
  PT.imp (pt_cmpR (op_cmp (G := G) op (by have := C.un; omega)) ha hb (notSet_marks hs)) fun σ H Q h => rd_cmp (rd_tst h)
def s3 (op op' : CmpOp) (c1 c2 c3 : Sm W) : Sm W := fun ρ S => (c1 ρ S).bind fun w1 S1 => (c2 ρ S1).bind fun w2 S2 => (f2 (dCmpD op) w1 w2 S2).bind fun w S3 => match w with
  | .dat (.bl true) => (c3 ρ S3).bind fun w3 S4 => f2 (dCmpD op') w2 w3 S4
  | .dat (.bl false) => .ok (.dat (.bl false)) S3
  | _ => .bad
theorem rd_chain {op op' : CmpOp} {K : PySem.W.Frag} {σ : L2.St} {H : Hp} {Q : VK} (h : rdE K G Wx (s3 op op' c1 c2 c3) σ H Q) : tChain (rCmp K G op) (rCmp K G op') (rdE K G Wx c1) (rdE K G Wx c2) (rdE K G Wx c3) σ H Q := by
  obtain ⟨ι, ρ, S, m, o⟩ := h
  refine ⟨ι, ρ, S, m, o.bind.imp fun ι1 H1 S1 w1 e1 s1 o1 x rx => ?_⟩
  refine ⟨ι1, ρ, S1, ⟨m.env.ext e1, s1⟩, o1.bind.imp fun ι2 H2 S2 w2 e2 s2 o2 y ry => ?_⟩
  unfold f2 at o2
  split at o2
  · rename_i d e h1 h2
    split at o2
    · rename_i z hz
      unfold dCmpD at hz
      cases q : dCmp op d e with
      | none => rw [q] at hz; cases hz
      | some k =>
        rw [q] at hz; cases hz
        refine ⟨ι2, d, e, k, obs_of s2 (rx.ext e2) h1, obs_of s2 ry h2, q, k, rfl, ?_⟩
        cases k with
        | false => exact o2 ι2 H2 (Ext.refl _ _) s2 _ (.dat (.bl false))
        | true =>
          have o2 : Out K G ι2 H2 _ _ ((c3 ρ S2).bind fun w3 S4 => f2 (dCmpD op') w2 w3 S4) := o2
          simp only [if_true]
          refine ⟨ι2, ρ, S2, ⟨(m.env.ext e1).ext e2, s2⟩, o2.bind.imp fun ι3 H3 S3 w3 e3 s3 o3 z rz => ?_⟩
          obtain ⟨d', e', z', k1, k2, k3, k4⟩ := f2_out s3 (ry.ext e3) rz o3
          unfold dCmpD at k3
          cases q' : dCmp op' d' e' with
          | none => rw [q'] at k3; cases k3
          | some k' => rw [q'] at k3; cases k3; exact ⟨ι3, d', e', k', k1, k2, q', k4.now s3 (.bl k')⟩
    · exact o2.elim
  · exact o2.elim
theorem sd_chain (C : Ctx G X Wx) (op op' : CmpOp) (ha : PE X a (rdE X.K G Wx c1)) (hb : PE X b (rdE X.K G Wx c2)) (hc : PE X c (rdE X.K G Wx c3)) (hs : notSet b = true) (hs' : notSet c = true) :
    PE X (.Compare a [op, op'] [b, c] pos) (rdE X.K G Wx (s3 op op' c1 c2 c3)) :=
  PE.imp (pe_chain (op_cmp (G := G) op (by have := C.un; omega)) (op_cmp (G := G) op' (by have := C.un; omega)) ha hb hc (by first | exact notSet_marks hs | exact notSet_marks hs' | (simp [lastMarks, markedEach, notSet_marks hs']; done)) ) fun σ H Q h => rd_chain h
def sNot (c : Sm W) : Sm W := fun ρ S => (c ρ S).bind fun w S1 => match w with
  | .dat (.bl b) => .ok (.dat (.bl (!b))) S1
  | _ => .bad
theorem sd_not (ha : PE X a (rdE X.K G Wx c1)) : PE X (.UnaryOp .Not a pos) (rdE X.K G Wx (sNot c1)) := by
  refine PE.imp (pe_not ha) fun σ H Q h => ?_
  obtain ⟨ι, ρ, S, m, o⟩ := h
  refine ⟨ι, ρ, S, m, o.bind.imp fun ι1 H1 S1 w e1 s1 o1 v rv => ?_⟩
  split at o1
  · rename_i b
    cases rv with | dat r => cases r; exact ⟨b, rfl, o1 ι1 H1 (Ext.refl _ _) s1 _ (.dat (.bl _))⟩
  · exact o1.elim
theorem tst_not {ρ : Env0'} {S : Store} : tst (sNot c1) ρ S = (tst c1 ρ S).bind fun b S1 => .ok (!b) S1 := by
  unfold tst sNot
  rw [Res.bind_assoc, Res.bind_assoc]
  congr 1
  funext w S1
  cases w with
  | cell n => rfl
  | lam => rfl
  | dat d =>
    cases d with
    | bl b => cases b <;> rfl
    | _ => rfl
theorem sd_notT (ha : PT X a (rdT X.K G Wx (tst c1))) : PT X (.UnaryOp .Not a pos) (rdT X.K G Wx (tst (sNot c1))) := by
  refine PT.imp (pt_not ha) fun σ H Q h => ?_
  obtain ⟨ι, ρ, S, m, o⟩ := h
  rw [tst_not] at o
  exact ⟨ι, ρ, S, m, o.bind.imp fun ι1 H1 S1 w e1 s1 o1 => o1 ι1 H1 (Ext.refl _ _) s1⟩
def sNeg (c : Sm W) : Sm W := fun ρ S => (c ρ S).bind fun w S1 => match w with
  | .dat (.int b) => .ok (.dat (.int (-b))) S1
  | _ => .bad
theorem sd_neg (ha : PE X a (rdE X.K G Wx c1)) : PE X (.UnaryOp .USub a pos) (rdE X.K G Wx (sNeg c1)) := by
  refine PE.imp (pe_un un_neg ha) fun σ H Q h => ?_
  obtain ⟨ι, ρ, S, m, o⟩ := h
  refine ⟨ι, ρ, S, m, o.bind.imp fun ι1 H1 S1 w e1 s1 o1 v rv => ?_⟩
  split at o1
  · rename_i b
    cases rv with | dat r => cases r; exact ⟨b, rfl, o1 ι1 H1 (Ext.refl _ _) s1 _ (.dat (.int _))⟩
  · exact o1.elim
def sAnd (c1 c2 : Sm W) : Sm W := fun ρ S => (c1 ρ S).bind fun w S1 => match w with
  | .dat (.bl true) => c2 ρ S1
  | .dat (.bl false) => .ok (.dat (.bl false)) S1
  | _ => .bad
def sOr (c1 c2 : Sm W) : Sm W := fun ρ S => (c1 ρ S).bind fun w S1 => match w with
  | .dat (.bl false) => c2 ρ S1
  | .dat (.bl true) => .ok (.dat (.bl true)) S1
  | _ => .bad
theorem sd_and {rest : List Expr} (ha : PE X a (rdE X.K G Wx c1)) (hb : PE X (.BoolOp .And (b :: rest) pos) (rdE X.K G Wx c2)) : PE X (.BoolOp .And (a :: b :: rest) pos) (rdE X.K G Wx (sAnd c1 c2)) := by
  refine PE.imp (pe_and ha hb) fun σ H Q h => ?_
  obtain ⟨ι, ρ, S, m, o⟩ := h
  refine ⟨ι, ρ, S, m, o.bind.imp fun ι1 H1 S1 w e1 s1 o1 v rv => ?_⟩
  split at o1
  · cases rv with | dat r => cases r; exact ⟨true, rfl, by rw [if_pos rfl]; exact ⟨ι1, ρ, S1, ⟨m.env.ext e1, s1⟩, o1⟩⟩
  · cases rv with | dat r => cases r; exact ⟨false, rfl, by rw [if_neg (by decide)]; exact o1 ι1 H1 (Ext.refl _ _) s1 _ (.dat (.bl _))⟩
  · exact o1.elim
theorem sd_or {rest : List Expr} (ha : PE X a (rdE X.K G Wx c1)) (hb : PE X (.BoolOp .Or (b :: rest) pos) (rdE X.K G Wx c2)) : PE X (.BoolOp .Or (a :: b :: rest) pos) (rdE X.K G Wx (sOr c1 c2)) := by
  refine PE.imp (pe_or ha hb) fun σ H Q h => ?_
  obtain ⟨ι, ρ, S, m, o⟩ := h
  refine ⟨ι, ρ, S, m, o.bind.imp fun ι1 H1 S1 w e1 s1 o1 v rv => ?_⟩
  split at o1
  · cases rv with | dat r => cases r; exact ⟨false, rfl, by rw [if_neg (by decide)]; exact ⟨ι1, ρ, S1, ⟨m.env.ext e1, s1⟩, o1⟩⟩
  · cases rv with | dat r => cases r; exact ⟨true, rfl, by rw [if_pos rfl]; exact o1 ι1 H1 (Ext.refl _ _) s1 _ (.dat (.bl _))⟩
  · exact o1.elim
theorem tst_and {ρ : Env0'} {S : Store} : tst (sAnd c1 c2) ρ S = (tst c1 ρ S).bind fun b S1 => if b = true then tst c2 ρ S1 else .ok false S1 := by
  unfold tst sAnd
  rw [Res.bind_assoc, Res.bind_assoc]
  congr 1
  funext w S1
  cases w with
  | cell n => rfl
  | lam => rfl
  | dat d =>
    cases d with
    | bl b => cases b <;> rfl
    | _ => rfl
theorem tst_or {ρ : Env0'} {S : Store} : tst (sOr c1 c2) ρ S = (tst c1 ρ S).bind fun b S1 => if b = true then .ok true S1 else tst c2 ρ S1 := by
  unfold tst sOr
  rw [Res.bind_assoc, Res.bind_assoc]
  congr 1
  funext w S1
  cases w with
  | cell n => rfl
  | lam => rfl
  | dat d =>
    cases d with
    | bl b => cases b <;> rfl
    | _ => rfl
theorem sd_andT {rest : List Expr} (ha : PT X a (rdT X.K G Wx (tst c1))) (hb : PW X (.BoolOp .And (b :: rest) pos) (rdT X.K G Wx (tst c2))) : PW X (.BoolOp .And (a :: b :: rest) pos) (rdT X.K G Wx (tst (sAnd c1 c2))) := by
  have h := pw_and ha hb
  refine ⟨fun wh pins s σ H Q I hq => h.run wh pins s σ H Q I ?_⟩
  obtain ⟨ι, ρ, S, m, o⟩ := hq
  rw [tst_and] at o
  refine ⟨ι, ρ, S, m, o.bind.imp fun ι1 H1 S1 w e1 s1 o1 => ?_⟩
  cases w with
  | true => exact ⟨ι1, ρ, S1, ⟨m.env.ext e1, s1⟩, o1⟩
  | false => exact o1 ι1 H1 (Ext.refl _ _) s1
theorem sd_orT {rest : List Expr} (ha : PT X a (rdT X.K G Wx (tst c1))) (hb : PW X (.BoolOp .Or (b :: rest) pos) (rdT X.K G Wx (tst c2))) : PW X (.BoolOp .Or (a :: b :: rest) pos) (rdT X.K G Wx (tst (sOr c1 c2))) := by
  have h := pw_or ha hb
  refine ⟨fun wh pins s σ H Q I hq => h.run wh pins s σ H Q I ?_⟩
  obtain ⟨ι, ρ, S, m, o⟩ := hq
  rw [tst_or] at o
  refine ⟨ι, ρ, S, m, o.bind.imp fun ι1 H1 S1 w e1 s1 o1 => ?_⟩
  cases w with
  | false => exact ⟨ι1, ρ, S1, ⟨m.env.ext e1, s1⟩, o1⟩
  | true => exact o1 ι1 H1 (Ext.refl _ _) s1
def sIf (t : Sm Bool) (c1 c2 : Sm W) : Sm W := fun ρ S => (t ρ S).bind fun b S1 => if b = true then c1 ρ S1 else c2 ρ S1
theorem sd_if {t : Sm Bool} (hc : PT X c (rdT X.K G Wx t)) (ha : PE X a (rdE X.K G Wx c1)) (hb : PE X b (rdE X.K G Wx c2)) : PE X (.IfExp c a b pos) (rdE X.K G Wx (sIf t c1 c2)) := by
  refine PE.imp (pe_ifExp hc ha hb) fun σ H Q h => ?_
  obtain ⟨ι, ρ, S, m, o⟩ := h
  refine ⟨ι, ρ, S, m, o.bind.imp fun ι1 H1 S1 w e1 s1 o1 => ?_⟩
  cases w with
  | true => exact ⟨ι1, ρ, S1, ⟨m.env.ext e1, s1⟩, o1⟩
  | false => exact ⟨ι1, ρ, S1, ⟨m.env.ext e1, s1⟩, o1⟩
def plainTest : Expr → Bool
  | .UnaryOp .Not _ _ => false
  | .BoolOp .. => false
  | .IfExp .. => false
  | .Compare .. => false
  | _ => true
theorem isTrue_plainTest {e : Expr} (h : plainTest e = true) (env : Env) (whole : Sem Value) : isTrue e env whole = (do let v ← whole; standAt e.pos; holding [v] (truthy v)) := by
  cases e with
  | UnaryOp op x p => cases op <;> first | rfl | cases h
  | BoolOp => cases h
  | IfExp => cases h
  | Compare => cases h
  | _ => rfl
theorem sd_val (ha : PE X a (rdE X.K G Wx c1)) (hp : plainTest a = true) : PT X a (rdT X.K G Wx (tst c1)) :=
  PT.imp (pt_val ha (isTrue_plainTest hp X.env)) fun σ H Q h => rd_tst h
def sPart (o : Option (Sm W)) : Sm (Option Int) := fun ρ S => match o with
  | none => .ok none S
  | some c => (c ρ S).bind fun w S1 => match w with
    | .dat (.int i) => .ok (some i) S1
    | _ => .bad
def f1 (f : D → Option D) (w : W) (S : Store) : Res W := match derefW S w with
  | some d => match f d with
    | some z => .ok (.dat z) S
    | none => .bad
  | none => .bad
theorem f1_out {K : PySem.W.Frag} {ι : List Addr} {H : Hp} {E : XK} {Q : VK} {f : D → Option D} {w1 : W} {S : Store} {x : V} (st : StOk K G ι S H) (r1 : RepW K G ι H x w1)
    (o : Out K G ι H E (fun ι' H' _ w => ∀ v, RepW K G ι' H' v w → Q v H') (f1 f w1 S)) : ∃ d z, Obs K G ι H x d ∧ f d = some z ∧ Got K G ι S H z Q := by
  unfold f1 at o
  split at o
  · rename_i d h1
    split at o
    · rename_i z hz
      exact ⟨d, z, obs_of st r1 h1, hz, Out.got o⟩
    · exact o.elim
  · exact o.elim
def sSl (c1 : Sm W) (lo hi : Option (Sm W)) : Sm W := fun ρ S => (c1 ρ S).bind fun w S1 => (sPart lo ρ S1).bind fun l S2 => (sPart hi ρ S2).bind fun h S3 => f1 (fun d => dSl d l h) w S3
def rdO (K : PySem.W.Frag) (G : Gam) (Wx : WX) (c : Sm (Option Int)) : TO := fun σ H Q => ∃ ι ρ S, MtE K G ι ρ S σ H ∧ Out K G ι H (fun c d H' => Wx c d σ H') (fun _ H' _ b => Q b H') (c ρ S)
theorem sd_part_none : PO X none (rdO X.K G Wx (sPart none)) := by
  have h : PO X none tNoPart := po_none
  exact ⟨fun pins s σ H Q I ⟨ι, ρ, S, m, o⟩ => h.run pins s σ H Q I (o ι H (Ext.refl _ _) m.st)⟩
theorem sd_part_some (ha : PE X a (rdE X.K G Wx c1)) : PO X (some a) (rdO X.K G Wx (sPart (some c1))) := by
  have h := po_some ha
  refine ⟨fun pins s σ H Q I ⟨ι, ρ, S, m, o⟩ => h.run pins s σ H Q I ⟨ι, ρ, S, m, o.bind.imp fun ι1 H1 S1 w e1 s1 o1 v rv => ?_⟩⟩
  split at o1
  · rename_i i
    cases rv with | dat r => cases r; exact ⟨i, rfl, o1 ι1 H1 (Ext.refl _ _) s1⟩
  · exact o1.elim
theorem sd_slice {lo hi : Option Expr} {l h : Option (Sm W)} {p2 : Pos} (ha : PE X a (rdE X.K G Wx c1)) (hl : PO X lo (rdO X.K G Wx (sPart l))) (hh : PO X hi (rdO X.K G Wx (sPart h))) :
    PE X (.Subscript a (.Slice lo hi none p2) pos) (rdE X.K G Wx (sSl c1 l h)) := by
  refine PE.imp (pe_slice (sl_all (G := G)) ha hl hh) fun σ H Q q => ?_
  obtain ⟨ι, ρ, S, m, o⟩ := q
  refine ⟨ι, ρ, S, m, o.bind.imp fun ι1 H1 S1 w e1 s1 o1 x rx => ?_⟩
  refine ⟨ι1, ρ, S1, ⟨m.env.ext e1, s1⟩, o1.bind.imp fun ι2 H2 S2 lo' e2 s2 o2 => ?_⟩
  refine ⟨ι2, ρ, S2, ⟨(m.env.ext e1).ext e2, s2⟩, o2.bind.imp fun ι3 H3 S3 hi' e3 s3 o3 => ?_⟩
  obtain ⟨d, z, h1, h2, h3⟩ := f1_out s3 ((rx.ext e2).ext e3) o3
  exact ⟨ι3, S3, d, z, s3, h1, h2, h3⟩
end
end EC
namespace PySem
open Sem (wp)
theorem CmpOf.strs_lt {prog : Program} {w : World} {A : Around} {P : Nat → Value → Prop} (val : Nat → Str) (hval : ∀ i v, P i v → ∃ t, v = .str (val i) t) :
    CmpOf prog w A .Lt P (fun i j => decide ((val i).cps.toList < (val j).cps.toList)) := fun i j vi vj s Q E hi hj h => by
  obtain ⟨t, rfl⟩ := hval i vi hi
  obtain ⟨u, rfl⟩ := hval j vj hj
  exact PyProof.Rows.lt_str h
theorem min_two_strs {prog : Program} {w : World} {A : Around} {E : Value → Shared → Prop} {s : Shared} {a b : Str} {t u : Tok} {Q : Value → Shared → Prop} (hh : A.handled = none)
    (h : ∀ h' tk, (∀ c o, s.heap.get? c = some o → h'.get? c = some o) → Q (if b.cps.toList < a.cps.toList then .str b u else .str a t) { s with heap := h', toks := tk }) :
    wpAny (model prog w) A (call (.builtin "min") [.str a t, .str b u]) Q E s := by
  let val : Nat → Str := fun i => if i = 0 then a else b
  have hT : (s.heap.push { cls := .type "tuple", data := .seq (#[Value.str a t, Value.str b u] : Array Value) }).IsTuple s.heap.objs.size (#[Value.str a t, Value.str b u] : Array Value) := ⟨_, Heap.get?_push_size _ rfl, rfl, 0, rfl⟩
  refine call_min_two (wpAny_pyIter_tuple hT ?_)
  have hsz : (s.heap.push { cls := .type "tuple", data := .seq (#[Value.str a t, Value.str b u] : Array Value) }).objs.size = s.heap.objs.size + 1 := Heap.size_push ..
  have at_ : ∀ (i : Nat) (v : Value), (#[Value.str a t, Value.str b u] : Array Value)[i]? = some v → ∃ t : Tok, v = Value.str (val i) t := fun i v e => by
    match i, e with
    | 0, e => cases e; exact ⟨t, rfl⟩
    | 1, e => cases e; exact ⟨u, rfl⟩
    | i + 2, e => simp at e
  refine ⟨_, [_, s.heap.objs.size], [_], _, _, _, _, rfl, Walks.tuple (A := A.in1) hh _ s.heap.objs.size (by rw [hsz]; exact Nat.ne_of_lt (Nat.lt_succ_self _)) (#[Value.str a t, Value.str b u] : Array Value),
    ⟨⟨_, Heap.get?_push_size _ rfl, rfl, rfl⟩, hT.push _⟩, fun c hc => ?_, by simp, CmpOf.strs_lt val at_, fun v h' tk hP hk => ?_⟩
  · show c < ((s.heap.push _).push _).objs.size
    rw [Heap.size_push, hsz]
    rcases List.mem_cons.mp hc with rfl | hc
    · rw [hsz]; exact Nat.lt_succ_self _
    · rcases List.mem_cons.mp hc with rfl | hc
      · exact Nat.lt_succ_of_lt (Nat.lt_succ_self _)
      · cases hc
  · have hold : ∀ c o, s.heap.get? c = some o → h'.get? c = some o := fun c o e => by
      refine hk c o (fun hm => ?_) (Heap.get?_push_of_some _ (Heap.get?_push_of_some _ e))
      rcases List.mem_cons.mp hm with e1 | hm
      · have := Heap.lt_size e; rw [e1, hsz] at this; exact Nat.lt_irrefl _ (Nat.lt_of_succ_lt this)
      · cases hm
    have := h h' tk hold
    have hv : v = if b.cps.toList < a.cps.toList then Value.str b u else Value.str a t := by
      have hP' : (#[Value.str a t, Value.str b u] : Array Value)[argBest (fun i j => decide ((val i).cps.toList < (val j).cps.toList)) 1]? = some v := hP
      by_cases hba : b.cps.toList < a.cps.toList
      · have e : argBest (fun i j => decide ((val i).cps.toList < (val j).cps.toList)) 1 = 1 := by simp [argBest, val, hba]
        rw [e] at hP'
        rw [if_pos hba]
        simpa using hP'.symm
      · have e : argBest (fun i j => decide ((val i).cps.toList < (val j).cps.toList)) 1 = 0 := by simp [argBest, val, hba]
        rw [e] at hP'
        rw [if_neg hba]
        simpa using hP'.symm
    rw [hv]; exact this
end PySem
namespace EC
open PySem PySem.Spec PyProof.Rows L2
def putKey {κ : Type} [DecidableEq κ] (k : κ) : List κ → List κ
  | [] => [k]
  | q :: ks => if q = k then q :: ks else q :: putKey k ks
def putVal {κ : Type} [DecidableEq κ] {α : Type} (k : κ) (v : α) : List κ → List α → List α
  | q :: ks, x :: xs => if q = k then v :: xs else x :: putVal k v ks xs
  | _, _ => [v]
theorem putKey_length {κ : Type} [DecidableEq κ] {α : Type} (k : κ) (v : α) : ∀ (ks : List κ) (xs : List α), ks.length = xs.length → (putKey k ks).length = (putVal k v ks xs).length
  | [], [], _ => rfl
  | q :: ks, x :: xs, h => by
    unfold putKey putVal
    by_cases e : q = k
    · rw [if_pos e, if_pos e]; simpa using h
    · rw [if_neg e, if_neg e, List.length_cons, List.length_cons, putKey_length k v ks xs (by simpa using h)]
theorem putKey_mem {κ : Type} [DecidableEq κ] {k x : κ} : ∀ {ks : List κ}, x ∈ putKey k ks → x = k ∨ x ∈ ks
  | [], h => by simp [putKey] at h; exact .inl h
  | q :: ks, h => by
    unfold putKey at h
    by_cases e : q = k
    · rw [if_pos e] at h; exact .inr h
    · rw [if_neg e] at h
      rcases List.mem_cons.mp h with h | h
      · exact .inr (by simp [h])
      · rcases putKey_mem h with h | h
        · exact .inl h
        · exact .inr (by simp [h])
theorem putKey_nodup {κ : Type} [DecidableEq κ] {k : κ} : ∀ {ks : List κ}, ks.Nodup → (putKey k ks).Nodup
  | [], _ => by simp [putKey]
  | q :: ks, h => by
    unfold putKey
    by_cases e : q = k
    · rw [if_pos e]; exact h
    · rw [if_neg e]
      rw [List.nodup_cons] at h ⊢
      refine ⟨fun m => ?_, putKey_nodup h.2⟩
      rcases putKey_mem m with m | m
      · exact e m
      · exact h.1 m
theorem putK_zip {κ : Type} [DecidableEq κ] (k : κ) (v : V) : ∀ (ks : List κ) (xs : List V), ks.length = xs.length → ks.Nodup → putK (ks.zip xs) k v = (putKey k ks).zip (putVal k v ks xs)
  | [], [], _, _ => rfl
  | q :: ks, x :: xs, h, nd => by
    have ih := putK_zip k v ks xs (by simpa using h) (List.nodup_cons.mp nd).2
    unfold putKey putVal
    by_cases e : q = k
    · rw [if_pos e, if_pos e]
      unfold putK
      rw [List.zip_cons_cons, List.zip_cons_cons, List.any_cons, decide_eq_true e, Bool.true_or, if_pos rfl, List.map_cons, if_pos e]
      congr 1
      conv => rhs; rw [← List.map_id (ks.zip xs)]
      refine List.map_congr_left fun p hp => ?_
      have : p.1 ≠ k := fun z => (List.nodup_cons.mp nd).1 (by rw [e, ← z]; exact (List.of_mem_zip hp).1)
      rw [if_neg this]; rfl
    · rw [if_neg e, if_neg e, List.zip_cons_cons, List.zip_cons_cons, ← ih]
      unfold putK
      rw [List.any_cons, decide_eq_false e, Bool.false_or, List.map_cons, if_neg e]
      split <;> rfl
section
variable {K : PySem.W.Frag} {G : Gam} {ι : List Addr} {H : Hp}
theorem RepAll.put {κ : Type} [DecidableEq κ] {k : κ} {v : V} {d : D} (r : Rep K G ι H v d) : ∀ {ks : List κ} {xs : List V} {ds : List D}, RepAll K G ι H xs ds → RepAll K G ι H (putVal k v ks xs) (putVal k d ks ds)
  | [], _, _, h => by cases h <;> exact .cons r .nil
  | q :: ks, _, _, .nil => .cons r .nil
  | q :: ks, _, _, .cons h t => by
    unfold putVal
    by_cases e : q = k
    · rw [if_pos e, if_pos e]; exact .cons r t
    · rw [if_neg e, if_neg e]; exact .cons h (RepAll.put r t)
end
def intsOf? : List D → Option (List Int)
  | [] => some []
  | .int i :: ds => (intsOf? ds).map (i :: ·)
  | _ :: _ => none
def blsOf? : List D → Option (List Bool)
  | [] => some []
  | .bl i :: ds => (blsOf? ds).map (i :: ·)
  | _ :: _ => none
def strsOf? : List D → Option (List Str)
  | [] => some []
  | .str i :: ds => (strsOf? ds).map (i :: ·)
  | _ :: _ => none
theorem intsOf_map : ∀ {ds : List D} {ns : List Int}, intsOf? ds = some ns → ds = ns.map D.int
  | [], _, e => by cases e; rfl
  | .int i :: ds, ns, e => by
    unfold intsOf? at e
    cases q : intsOf? ds with
    | none => rw [q] at e; cases e
    | some ms => rw [q] at e; cases e; rw [List.map_cons, intsOf_map q]
theorem blsOf_map : ∀ {ds : List D} {ns : List Bool}, blsOf? ds = some ns → ds = ns.map D.bl
  | [], _, e => by cases e; rfl
  | .bl i :: ds, ns, e => by
    unfold blsOf? at e
    cases q : blsOf? ds with
    | none => rw [q] at e; cases e
    | some ms => rw [q] at e; cases e; rw [List.map_cons, blsOf_map q]
theorem strsOf_map : ∀ {ds : List D} {ns : List Str}, strsOf? ds = some ns → ds = ns.map D.str
  | [], _, e => by cases e; rfl
  | .str i :: ds, ns, e => by
    unfold strsOf? at e
    cases q : strsOf? ds with
    | none => rw [q] at e; cases e
    | some ms => rw [q] at e; cases e; rw [List.map_cons, strsOf_map q]
@[simp] theorem intsOf_ints : ∀ ns : List Int, intsOf? (ns.map D.int) = some ns
  | [] => rfl
  | n :: ns => by rw [List.map_cons]; unfold intsOf?; rw [intsOf_ints ns]; rfl
@[simp] theorem blsOf_bls : ∀ ns : List Bool, blsOf? (ns.map D.bl) = some ns
  | [] => rfl
  | n :: ns => by rw [List.map_cons]; unfold blsOf?; rw [blsOf_bls ns]; rfl
@[simp] theorem strsOf_strs : ∀ ns : List Str, strsOf? (ns.map D.str) = some ns
  | [] => rfl
  | n :: ns => by rw [List.map_cons]; unfold strsOf?; rw [strsOf_strs ns]; rfl
/-- pairs (key, datum) -/
def pairsOf? : List D → Option (List (Key × D))
  | [] => some []
  | .tup [k, v] :: ds => match keyOf? k, pairsOf? ds with
    | some q, some ps => some ((q, v) :: ps)
    | _, _ => none
  | _ :: _ => none
def mergeD : List Key → List D → List (Key × D) → List Key × List D
  | ks, vs, [] => (ks, vs)
  | ks, vs, (k, v) :: ps => mergeD (putKey k ks) (putVal k v ks vs) ps
/-- the order of alike data -/
def pyOf (d : D) : PyData := (toPy d).getD .none
def sortD (ds : List D) : List D := ds.mergeSort (PySem.W.dataLe false pyOf)
def alikeB (ps : List PyData) : Bool := ps.all fun p => ps.all fun q => PySem.W.alike p q
def isTup1 : PyData → Bool
  | .tuple (_ :: _) => true
  | _ => false
def isTup : PyData → Bool
  | .tuple _ => true
  | _ => false
def sortB (ps : List PyData) : Bool := alikeB ps && (ps.all isTup1 || ps.all fun p => notNone p && !isTup p) && ps.all fun p => decide (p.depth ≤ 64)
/-- a type's name and a class's -/
def tagOf : D → Option (Str ⊕ String)
  | .non => some (.inr "NoneType")
  | .bl _ => some (.inr "bool")
  | .int _ => some (.inr "int")
  | .str _ => some (.inr "str")
  | .tup _ => some (.inr "tuple")
  | .kup _ => some (.inr "tuple")
  | .lst _ => some (.inr "list")
  | .dct _ _ => some (.inr "dict")
  | .dtt _ _ => some (.inr "dict")
  | .ins c _ => some (.inl c)
  | _ => none
def tagNames : List String := ["NoneType", "bool", "int", "str", "tuple", "list", "dict"]
def isiTag (t : Str ⊕ String) : D → Option Bool
  | .bty n => if n ∈ tagNames then some (match t with
    | .inl _ => false
    | .inr m => m == n || (m == "bool" && n == "int")) else none
  | .cls c => some (match t with
    | .inl d => decide (d = c)
    | .inr _ => false)
  | _ => none
def isiAny (t : Str ⊕ String) : List D → Option Bool
  | [] => some false
  | d :: ds => match isiTag t d, isiAny t ds with
    | some b, some r => some (b || r)
    | _, _ => none
def dIsi (d c : D) : Option Bool := (tagOf d).bind fun t => match c with
  | .tup cs => isiAny t cs
  | c => isiTag t c
inductive Bi where
  | len | sorted | sum | min | max | all | any | isi | int | str | list | tuple | dict | abs
def biTab : List (Str × Bi) := [("len", .len), ("sorted", .sorted), ("sum", .sum), ("min", .min), ("max", .max), ("all", .all), ("any", .any), ("isinstance", .isi), ("int", .int), ("str", .str), ("list", .list), ("tuple", .tuple), ("dict", .dict), ("abs", .abs)]
def Bi.val : Bi → Value
  | .len => .builtin "len"
  | .sorted => .builtin "sorted"
  | .sum => .builtin "sum"
  | .min => .builtin "min"
  | .max => .builtin "max"
  | .all => .builtin "all"
  | .any => .builtin "any"
  | .isi => .builtin "isinstance"
  | .abs => .builtin "abs"
  | .int => .type "int"
  | .str => .type "str"
  | .list => .type "list"
  | .tuple => .type "tuple"
  | .dict => .type "dict"
def leastI (n : Int) (ns : List Int) : Int := ns.foldl min n
def mostI (n : Int) (ns : List Int) : Int := ns.foldl max n
def dBi (b : Bi) (ds : List D) : Option D :=
  match b, ds with
  | .len, [.lst xs] => some (.int xs.length)
  | .len, [.tup xs] => some (.int xs.length)
  | .len, [.kup xs] => some (.int xs.length)
  | .len, [.str x] => if fits x.length then some (.int x.length) else none
  | .len, [.dct ks _] => some (.int ks.length)
  | .len, [.dtt ks _] => some (.int ks.length)
  | .sum, [.lst xs] => (intsOf? xs).map fun ns => .int ns.sum
  | .all, [.lst xs] => (blsOf? xs).map fun ns => .bl (ns.all id)
  | .any, [.lst xs] => (blsOf? xs).map fun ns => .bl (ns.any id)
  | .abs, [.int i] => some (.int (if i < 0 then -i else i))
  | .min, [.lst xs] => match intsOf? xs with
    | some (n :: ns) => some (.int (leastI n ns))
    | _ => none
  | .max, [.lst xs] => match intsOf? xs with
    | some (n :: ns) => some (.int (mostI n ns))
    | _ => none
  | .min, [.int i, .int j] => some (.int (if j < i then j else i))
  | .max, [.int i, .int j] => some (.int (if j > i then j else i))
  | .min, [.str a, .str b] => some (.str (if b.cps.toList < a.cps.toList then b else a))
  | .isi, [d, c] => (dIsi d c).map .bl
  | .int, [.int i] => some (.int i)
  | .str, [.int i] => if decide (i.natAbs.log2 < 1920) then some (.str (toString i)) else none
  | .str, [.str x] => some (.str x)
  | .list, [.lst xs] => some (.lst xs)
  | .list, [.tup xs] => some (.lst xs)
  | .list, [.scr ns] => some (.lst (ns.map .int))
  | .tuple, [.lst xs] => some (.tup xs)
  | .tuple, [.tup xs] => some (.tup xs)
  | .dict, [.lst xs] => (pairsOf? xs).map fun ps => .dct (mergeD [] [] ps).1 (mergeD [] [] ps).2
  | .dict, [.tup xs] => none
  | .sorted, [.lst xs] => (toPyL xs).bind fun ps => if sortB ps && fits xs.length then some (.lst (sortD xs)) else none
  | _, _ => none
inductive ObsAll (K : PySem.W.Frag) (G : Gam) (ι : List Addr) (H : Hp) : List V → List D → Prop
  | nil : ObsAll K G ι H [] []
  | cons {v : V} {vs : List V} {d : D} {ds : List D} : Obs K G ι H v d → ObsAll K G ι H vs ds → ObsAll K G ι H (v :: vs) (d :: ds)
theorem ObsAll.one {K : PySem.W.Frag} {G : Gam} {ι : List Addr} {H : Hp} {vs : List V} {d : D} (o : ObsAll K G ι H vs [d]) : ∃ v, vs = [v] ∧ Obs K G ι H v d := by
  cases o with | cons h t => cases t; exact ⟨_, rfl, h⟩
theorem ObsAll.two {K : PySem.W.Frag} {G : Gam} {ι : List Addr} {H : Hp} {vs : List V} {d e : D} (o : ObsAll K G ι H vs [d, e]) : ∃ v u, vs = [v, u] ∧ Obs K G ι H v d ∧ Obs K G ι H u e := by
  cases o with | cons h t => cases t with | cons h' t' => cases t'; exact ⟨_, _, rfl, h, h'⟩
def derefs (S : Store) : List W → Option (List D)
  | [] => some []
  | w :: ws => match derefW S w, derefs S ws with
    | some d, some ds => some (d :: ds)
    | _, _ => none
theorem obsAll_of {K : PySem.W.Frag} {G : Gam} {ι : List Addr} {H : Hp} {S : Store} (s : StOk K G ι S H) : ∀ {vs : List V} {ws : List W} {ds : List D}, RepWs K G ι H vs ws → derefs S ws = some ds → ObsAll K G ι H vs ds
  | _, _, _, .nil, e => by cases e; exact .nil
  | _, _, ds, .cons r t, e => by
    unfold derefs at e
    split at e
    · rename_i d es h1 h2
      cases e
      exact .cons (obs_of s r h1) (obsAll_of s t h2)
    · cases e
def fBi (b : Bi) (ws : List W) (S : Store) : Res W := match derefs S ws with
  | some ds => match dBi b ds with
    | some z => .ok (.dat z) S
    | none => .bad
  | none => .bad
end EC
namespace EC
open PySem PySem.Spec PyProof.Rows L2
/-- what is known of the classes: isinstance -/
structure IsFacts (K : PySem.W.Frag) (G : Gam) : Prop where
  own : ∀ c ci, G.clss.lookup c = some ci → Cls K ci.C ∧ PySem.W.findIn K (.ref ci.C) "__class__" = some (some (.builtin "object.__class__")) ∧ PySem.W.specialIn K (.builtin "object.__class__") "__get__" = some (some (.builtin "getset_descriptor.__get__")) ∧ PySem.W.takesIn K (.builtin "object.__class__") = some true ∧ PySem.W.mroIn K ci.C (.type "object") = some true
  kcc : ∀ c ci d di, G.clss.lookup c = some ci → G.clss.lookup d = some di → PySem.W.kitOne K (.ref ci.C) (.ref di.C) = some (decide (c = d))
  kcb : ∀ c ci n, G.clss.lookup c = some ci → n ∈ tagNames → PySem.W.kitOne K (.ref ci.C) (.type n) = some false
  kbc : ∀ c ci n, G.clss.lookup c = some ci → n ∈ tagNames → PySem.W.kitOne K (.type n) (.ref ci.C) = some false
theorem kbb : ∀ m ∈ tagNames, ∀ n ∈ tagNames, kitB m n = some (m == n || (m == "bool" && n == "int")) := by decide +kernel
def TagIs (G : Gam) (T : Value) : Str ⊕ String → Prop
  | .inl c => ∃ ci, G.clss.lookup c = some ci ∧ T = .ref ci.C
  | .inr n => n ∈ tagNames ∧ T = .type n
section
variable {K : PySem.W.Frag} {G : Gam} {ι : List Addr} {H : Hp}
theorem SqT.tyx {a : Addr} {xs : List V} (h : SqT K H a xs) : TyX K H (.ref a) (.type "tuple") := by
  rcases h with (h | ⟨o, h⟩) | ⟨o, its, n, e1, e2, _⟩
  · exact .base (.tup h)
  · exact .fTuple h
  · exact .kTuple e1 e2
theorem tag_ty (F : IsFacts K G) {v : V} {d : D} {t : Str ⊕ String} (o : Obs K G ι H v d) (e : tagOf d = some t) : ∃ T, TyX K H v T ∧ TagIs G T t := by
  cases d with
  | non => cases e; rw [o.non]; exact ⟨_, .base .non, by decide, rfl⟩
  | bl b => cases e; rw [o.bl]; exact ⟨_, .base (.bl b), by decide, rfl⟩
  | int b => cases e; rw [o.int]; exact ⟨_, .base (.int b), by decide, rfl⟩
  | str b => cases e; rw [o.str]; exact ⟨_, .base (.str b), by decide, rfl⟩
  | tup ds => cases e; obtain ⟨a, xs, rfl, h1, _⟩ := o.tupO; exact ⟨_, .base (.tup h1), by decide, rfl⟩
  | kup ds => cases e; obtain ⟨a, xs, rfl, h1, _⟩ := o.kupO; exact ⟨_, SqT.tyx h1, by decide, rfl⟩
  | lst ds => cases e; obtain ⟨a, xs, rfl, h1, _⟩ := o.lstO; exact ⟨_, .base (.lst h1), by decide, rfl⟩
  | dct ks ds => cases e; obtain ⟨a, xs, rfl, h1, _⟩ := o.dctO; exact ⟨_, .base (.dK h1), by decide, rfl⟩
  | dtt ks ds => cases e; obtain ⟨a, xs, rfl, h1, _⟩ := o.dttO; exact ⟨_, .base (.dT h1), by decide, rfl⟩
  | ins c ds =>
    cases e
    obtain ⟨a, ci, dx, xs, rfl, h0, h1, _⟩ := o.insO
    obtain ⟨f1, f2, f3, f4, f5⟩ := F.own c ci h0
    exact ⟨_, .base (.ins h1 f1 f2 f3 f4 f5), ci, h0, rfl⟩
  | _ => cases e
theorem isi_one (F : IsFacts K G) {T : Value} {t : Str ⊕ String} (hT : TagIs G T t) {v : V} {d : D} {b : Bool} (o : Obs K G ι H v d) (e : isiTag t d = some b) : ∃ u, ClsV v u ∧ PySem.W.kitOne K T u = some b := by
  cases d <;> simp only [isiTag] at e <;> first | cases e | skip
  · rename_i c
    cases o with
    | dat r =>
      cases r with
      | @cls _ ci h0 =>
        refine ⟨_, .own _, ?_⟩
        cases t with
        | inl d =>
          obtain ⟨di, h1, rfl⟩ := hT
          exact F.kcc _ _ _ _ h1 h0
        | inr n =>
          obtain ⟨h1, rfl⟩ := hT
          exact F.kbc _ _ _ h0 h1
  · rename_i n
    split at e
    · rename_i hn
      cases e
      cases o with
      | dat r =>
        cases r
        refine ⟨_, .ty _, ?_⟩
        cases t with
        | inl d =>
          obtain ⟨di, h1, rfl⟩ := hT
          exact F.kcb _ _ _ h1 hn
        | inr m =>
          obtain ⟨h1, rfl⟩ := hT
          exact kit_ty (kbb m h1 n hn)
    · cases e
theorem isi_all (F : IsFacts K G) {T : Value} {t : Str ⊕ String} (hT : TagIs G T t) : ∀ {vs : List V} {ds : List D} {b : Bool}, RepAll K G ι H vs ds → isiAny t ds = some b → ∃ us, Paired ClsV vs us ∧ PySem.W.kitAny K T us = some b
  | _, _, _, .nil, e => by cases e; exact ⟨[], .nil, rfl⟩
  | _, d :: ds, b, .cons r rs, e => by
    unfold isiAny at e
    split at e
    · rename_i b1 b2 h1 h2
      cases e
      obtain ⟨u, k1, k2⟩ := isi_one F hT (.dat r) h1
      obtain ⟨us, k3, k4⟩ := isi_all F hT rs h2
      refine ⟨u :: us, .cons k1 k3, ?_⟩
      cases b1 with
      | true => exact kitAny_cons k2 (fun z => nomatch z) (fun _ => rfl)
      | false => exact kitAny_cons k2 (fun _ => by simpa using k4) (fun z => nomatch z)
    · cases e
end
theorem leastI_ok : ∀ (ns : List Int) (n : Int), leastI n ns ∈ n :: ns ∧ ∀ y, y ∈ n :: ns → leastI n ns ≤ y
  | [], n => by simp [leastI]
  | m :: ns, n => by
    obtain ⟨h1, h2⟩ := leastI_ok ns (min n m)
    have e : leastI n (m :: ns) = leastI (min n m) ns := rfl
    rw [e]
    have h3 := h2 (min n m) List.mem_cons_self
    refine ⟨?_, fun y hy => ?_⟩
    · rcases List.mem_cons.mp h1 with h | h
      · rw [h]
        rcases Int.le_total n m with q | q
        · rw [Int.min_eq_left q]; simp
        · rw [Int.min_eq_right q]; simp
      · simp [h]
    · rcases List.mem_cons.mp hy with rfl | hy
      · have := Int.min_le_left y m; omega
      · rcases List.mem_cons.mp hy with rfl | hy
        · have := Int.min_le_right n y; omega
        · exact h2 y (List.mem_cons_of_mem _ hy)
theorem mostI_ok : ∀ (ns : List Int) (n : Int), mostI n ns ∈ n :: ns ∧ ∀ y, y ∈ n :: ns → y ≤ mostI n ns
  | [], n => by simp [mostI]
  | m :: ns, n => by
    obtain ⟨h1, h2⟩ := mostI_ok ns (max n m)
    have e : mostI n (m :: ns) = mostI (max n m) ns := rfl
    rw [e]
    have h3 := h2 (max n m) List.mem_cons_self
    refine ⟨?_, fun y hy => ?_⟩
    · rcases List.mem_cons.mp h1 with h | h
      · rw [h]
        rcases Int.le_total n m with q | q
        · rw [Int.max_eq_right q]; simp
        · rw [Int.max_eq_left q]; simp
      · simp [h]
    · rcases List.mem_cons.mp hy with rfl | hy
      · have := Int.le_max_left y m; omega
      · rcases List.mem_cons.mp hy with rfl | hy
        · have := Int.le_max_right n y; omega
        · exact h2 y (List.mem_cons_of_mem _ hy)
theorem le_one {ns : List Int} {a b : Int} (ha : a ∈ ns ∧ ∀ y, y ∈ ns → a ≤ y) (hb : b ∈ ns ∧ ∀ y, y ∈ ns → b ≤ y) : a = b := Int.le_antisymm (ha.2 b hb.1) (hb.2 a ha.1)
theorem ge_one {ns : List Int} {a b : Int} (ha : a ∈ ns ∧ ∀ y, y ∈ ns → y ≤ a) (hb : b ∈ ns ∧ ∀ y, y ∈ ns → y ≤ b) : a = b := Int.le_antisymm (hb.2 a ha.1) (ha.2 b hb.1)
theorem pairs_rep {K : PySem.W.Frag} {G : Gam} {ι : List Addr} {H : Hp} : ∀ {xs : List V} {ds : List D} {ps : List (Key × D)}, RepAll K G ι H xs ds → pairsOf? ds = some ps →
    ∃ (as : List Addr) (kvs : List (Key × V)), xs = as.map V.ref ∧ Paired (fun p kv => SqT K H p [kV kv.1, kv.2]) as kvs ∧ kvs.map (·.1) = ps.map (·.1) ∧ RepAll K G ι H (kvs.map (·.2)) (ps.map (·.2))
  | _, _, _, .nil, e => by cases e; exact ⟨[], [], rfl, .nil, rfl, .nil⟩
  | _, d :: ds, ps, .cons r rs, e => by
    unfold pairsOf? at e
    split at e
    · rename_i h; cases h
    · rename_i k v ds' h
      cases h
      split at e
      · rename_i q qs h1 h2
        cases e
        obtain ⟨as, kvs, e1, e2, e3, e4⟩ := pairs_rep rs h2
        obtain ⟨a, xs, rfl, g1, g2⟩ := (Obs.dat r).tupO
        cases g2 with
        | cons rk g2 =>
          cases g2 with
          | cons rv g2 =>
            cases g2
            refine ⟨a :: as, (q, _) :: kvs, by rw [e1]; rfl, .cons ?_ e2, by rw [List.map_cons, List.map_cons, e3], .cons rv e4⟩
            rw [keyOf_obs (.dat rk) h1] at g1
            exact .of g1
      · cases e
    · cases e
theorem mergeD_zip : ∀ (kvs : List (Key × V)) (ks : List Key) (xs : List V), ks.length = xs.length → ks.Nodup → ∃ ks' xs', mergeK (ks.zip xs) kvs = ks'.zip xs' ∧ ks'.length = xs'.length ∧ ks'.Nodup ∧
    ∀ (K : PySem.W.Frag) (G : Gam) (ι : List Addr) (H : Hp) (vs : List D) (ps : List (Key × D)), kvs.map (·.1) = ps.map (·.1) → RepAll K G ι H (kvs.map (·.2)) (ps.map (·.2)) → RepAll K G ι H xs vs → ks' = (mergeD ks vs ps).1 ∧ RepAll K G ι H xs' (mergeD ks vs ps).2
  | [], ks, xs, h, nd => ⟨ks, xs, rfl, h, nd, fun K G ι H vs ps e r rx => by
      cases ps with
      | nil => exact ⟨rfl, rx⟩
      | cons p ps => cases e⟩
  | (k, v) :: kvs, ks, xs, h, nd => by
    obtain ⟨ks', xs', e1, e2, e3, e4⟩ := mergeD_zip kvs (putKey k ks) (putVal k v ks xs) (putKey_length k v ks xs h) (putKey_nodup nd)
    refine ⟨ks', xs', ?_, e2, e3, fun K G ι H vs ps e r rx => ?_⟩
    · rw [← e1, ← putK_zip k v ks xs h nd]; rfl
    · cases ps with
      | nil => cases e
      | cons p ps =>
        obtain ⟨q, w⟩ := p
        rw [List.map_cons, List.map_cons, List.cons.injEq] at e
        obtain ⟨rfl, e⟩ := e
        rw [List.map_cons, List.map_cons] at r
        cases r with
        | cons r0 r => exact e4 K G ι H (putVal k w ks vs) ps e r (rx.put r0)
theorem each_vals {K : PySem.W.Frag} {G : Gam} {ι : List Addr} {H : Hp} : ∀ {us : List Value} {ds : List D}, PySem.W.EachIs (fun u d => ∃ x, RelV x u ∧ Rep K G ι H x d) us ds → ∃ xs, Vals xs us ∧ RepAll K G ι H xs ds
  | _, _, .nil => ⟨[], .nil, .nil⟩
  | _, _, .cons ⟨x, h1, h2⟩ t => by
    obtain ⟨xs, k1, k2⟩ := each_vals t
    exact ⟨x :: xs, .cons h1 k1, .cons h2 k2⟩
theorem vals_each {K : PySem.W.Frag} {G : Gam} {ι : List Addr} {H : Hp} : ∀ {xs : List V} {us : List Value} {ds : List D}, Vals xs us → RepAll K G ι H xs ds → PySem.W.EachIs (fun u d => ∃ x, RelV x u ∧ Rep K G ι H x d) us ds
  | _, _, _, .nil, .nil => .nil
  | _, _, _, .cons h t, .cons r rs => .cons ⟨_, h, r⟩ (vals_each t rs)
theorem pyOf_all : ∀ {ds : List D} {ps : List PyData}, toPyL ds = some ps → ds.map pyOf = ps
  | [], _, e => by rw [toPyL] at e; cases e; rfl
  | d :: ds, ps, e => by
    rw [toPyL] at e
    split at e
    · rename_i p qs h1 h2
      cases e
      rw [List.map_cons, pyOf_all h2]
      unfold pyOf; rw [h1]; rfl
    · cases e
theorem toPy_mem : ∀ {ds : List D} {ps : List PyData}, toPyL ds = some ps → ∀ d ∈ ds, toPy d = some (pyOf d)
  | d :: ds, ps, e, d', hd => by
    rw [toPyL] at e
    split at e
    · rename_i p qs h1 h2
      rcases List.mem_cons.mp hd with rfl | hd
      · unfold pyOf; rw [h1]; rfl
      · exact toPy_mem h2 d' hd
    · cases e
theorem sortB_ok {ps : List PyData} (h : sortB ps = true) : PySem.W.AllAlike ps ∧ PySem.W.Sortable ps ∧ ∀ p ∈ ps, p.depth ≤ 64 := by
  unfold sortB alikeB at h
  simp only [Bool.and_eq_true, List.all_eq_true, Bool.or_eq_true, decide_eq_true_eq] at h
  obtain ⟨⟨h1, h2⟩, h3⟩ := h
  refine ⟨fun d hd d' hd' => h1 d hd d' hd', ?_, h3⟩
  rcases h2 with h2 | h2
  · refine .inl fun d hd => ?_
    have := h2 d hd
    unfold isTup1 at this
    split at this
    · exact ⟨_, _, rfl⟩
    · cases this
  · refine .inr fun d hd => ?_
    have := h2 d hd
    have nn : notNone d = true := this.1
    have nt : (!isTup d) = true := this.2
    exact ⟨fun e => by { rw [e] at nn; cases nn }, fun xs e => by { rw [e] at nt; cases nt }⟩
theorem each_reads {X : Cx} {G : Gam} {pins : List (Addr × Obj)} {s : Shared} {σ : L2.St} {H : Hp} {ι : List Addr} (I : Inv X pins σ H s) : ∀ {us : List Value} {ds : List D}, (∀ d ∈ ds, toPy d = some (pyOf d)) → PySem.W.EachIs (fun u d => ∃ x, RelV x u ∧ Rep X.K G ι H x d) us ds → PySem.W.EachIs (fun u d => ∃ as, Reads s.heap u (pyOf d) as) us ds
  | _, _, _, .nil => .nil
  | _, _, h, .cons ⟨x, h1, h2⟩ t => .cons (Dp.reads I _ x _ (h2.dp (h _ List.mem_cons_self)) h1) (each_reads I (fun d hd => h d (List.mem_cons_of_mem _ hd)) t)
def rBi (K : PySem.W.Frag) (G : Gam) (b : Bi) : List V → Hp → VK → Prop := fun vs H Q => ∃ ι S ds z, StOk K G ι S H ∧ ObsAll K G ι H vs ds ∧ dBi b ds = some z ∧ Got K G ι S H z Q
section
variable {X : Cx} {G : Gam}
theorem call_sortedL (hu : X.A.units + 67 < cLine) : CallR X (.builtin "sorted") (fun vs H Q => ∃ ι S xs ps a ys, StOk X.K G ι S H ∧ vs = [.ref a] ∧ H a = some (.lst ys) ∧ RepAll X.K G ι H ys xs ∧ toPyL xs = some ps ∧ sortB ps = true ∧ xs.length ≤ sizeLine ∧ Got X.K G ι S H (.lst (sortD xs)) Q) := by
  intro pins s σ H vs us Q I r h
  obtain ⟨ι, S, xs, ps, a, ys, st, rfl, ha, rx, hp, hb, hz, g⟩ := h
  obtain ⟨its, rv, hl, _⟩ := I.list (show SqL X.K H a ys from .of ha)
  rw [Vals.ref1 r]
  obtain ⟨b1, b2, b3⟩ := sortB_ok hb
  have hm := toPy_mem hp
  have em := pyOf_all hp
  have ev := vals_each rv rx
  refine PySem.W.sorted_data (enc := pyOf) (bs := xs) hl.isList ev (each_reads I hm ev) (by rw [em]; exact b1) (by rw [em]; exact b2) hz (fun d hd => ?_) fun out ho eo => ?_
  · have : (pyOf d).depth ≤ 64 := b3 _ (by rw [← em]; exact List.mem_map.mpr ⟨d, hd, rfl⟩)
    omega
  · obtain ⟨zs, k1, k2⟩ := each_vals eo
    obtain ⟨ep, he'⟩ := PyProof.Rows.sortedAll_at s.heap its out.toArray
    have hlen : zs.length ≤ sizeLine := by rw [k2.length, ← eo.length, ho]; exact hz
    have hf : H (s.heap.objs.size + 1) = none := I.hok.fresh (Nat.le_succ _)
    exact ⟨.ref _, upd H (s.heap.objs.size + 1) (.lst zs), I.laid (t' := s.toks) (fun _ _ => PyProof.Rows.sortedAll_old) (Nat.le_succ _) ⟨hlen, out, ep, k1, he'⟩, rfl, g.lst st k2 _ hf⟩
theorem call_minS (hc : X.calm = true) : CallR X (.builtin "min") (fun xs H Q => ∃ a b, xs = [.str a, .str b] ∧ Q (.str (if b.cps.toList < a.cps.toList then b else a)) H) := by
  intro pins s σ H xs us Q I r h
  obtain ⟨i, j, rfl, q⟩ := h
  obtain ⟨u, w', rfl, ⟨t, rfl⟩, ⟨t', rfl⟩⟩ := vals2 r
  refine min_two_strs (I.ok.hd hc) fun h' tk k => ⟨_, H, I.kept k, ?_, q⟩
  by_cases hj : j.cps.toList < i.cps.toList
  · rw [if_pos hj, if_pos hj]; exact ⟨_, rfl⟩
  · rw [if_neg hj, if_neg hj]; exact ⟨_, rfl⟩
theorem call_bi (F : IsFacts X.K G) (hc : X.calm = true) (hu : X.A.units + 100 < cLine) (b : Bi) : CallR X b.val (rBi X.K G b) := by
  intro pins s σ H vs us Q I r h
  obtain ⟨ι, S, ds, z, st, os, hz, g⟩ := h
  unfold dBi at hz
  split at hz
  · cases hz; obtain ⟨v, rfl, o⟩ := os.one; obtain ⟨a, xs, rfl, h1, rr⟩ := o.lstO
    exact call_len pins s σ H _ us Q I r ⟨_, _, rfl, .inl ⟨xs, .of h1, rr.length.symm⟩, g.now st (.int _)⟩
  · cases hz; obtain ⟨v, rfl, o⟩ := os.one; obtain ⟨a, xs, rfl, h1, rr⟩ := o.tupO
    exact call_len pins s σ H _ us Q I r ⟨_, _, rfl, .inr ⟨xs, .of h1, rr.length.symm⟩, g.now st (.int _)⟩
  · cases hz; obtain ⟨v, rfl, o⟩ := os.one; obtain ⟨a, xs, rfl, h1, rr⟩ := o.kupO
    exact call_len pins s σ H _ us Q I r ⟨_, _, rfl, .inr ⟨xs, h1, rr.length.symm⟩, g.now st (.int _)⟩
  · split at hz
    · rename_i hf; cases hz; obtain ⟨v, rfl, o⟩ := os.one
      exact call_len pins s σ H _ us Q I r ⟨_, _, rfl, by rw [o.str]; exact ⟨fits_iff.mp hf, rfl⟩, g.now st (.int _)⟩
    · cases hz
  · cases hz; obtain ⟨v, rfl, o⟩ := os.one; obtain ⟨a, xs, rfl, h1, h2, rr⟩ := o.dctO
    refine call_lenD pins s σ H _ us Q I r ⟨a, _, rfl, h1, ?_⟩
    rw [List.length_zip, ← h2, Nat.min_self]
    exact g.now st (.int _)
  · cases hz; obtain ⟨v, rfl, o⟩ := os.one; obtain ⟨a, xs, rfl, h1, h2, rr⟩ := o.dttO
    refine call_len_dT pins s σ H _ us Q I r ⟨a, _, rfl, h1, ?_⟩
    rw [List.length_zip, ← h2, Nat.min_self]
    exact g.now st (.int _)
  · rename_i xs; obtain ⟨v, rfl, o⟩ := os.one
    cases hn : intsOf? xs with
    | none => rw [hn] at hz; cases hz
    | some ns =>
      rw [hn] at hz; cases hz
      obtain ⟨a, ys, rfl, h1, rr⟩ := o.lstO
      rw [intsOf_map hn] at rr
      rw [rr.ints] at h1
      exact cr_sum hc pins s σ H _ us Q I r ⟨a, ns, rfl, .of h1, g.now st (.int _)⟩
  · rename_i xs; obtain ⟨v, rfl, o⟩ := os.one
    cases hn : blsOf? xs with
    | none => rw [hn] at hz; cases hz
    | some ns =>
      rw [hn] at hz; cases hz
      obtain ⟨a, ys, rfl, h1, rr⟩ := o.lstO
      rw [blsOf_map hn] at rr
      rw [rr.bls] at h1
      exact cr_all hc pins s σ H _ us Q I r ⟨a, ns, rfl, .of h1, g.now st (.bl _)⟩
  · rename_i xs; obtain ⟨v, rfl, o⟩ := os.one
    cases hn : blsOf? xs with
    | none => rw [hn] at hz; cases hz
    | some ns =>
      rw [hn] at hz; cases hz
      obtain ⟨a, ys, rfl, h1, rr⟩ := o.lstO
      rw [blsOf_map hn] at rr
      rw [rr.bls] at h1
      exact cr_any hc pins s σ H _ us Q I r ⟨a, ns, rfl, .of h1, g.now st (.bl _)⟩
  · cases hz; obtain ⟨v, rfl, o⟩ := os.one
    exact call_abs pins s σ H _ us Q I r ⟨_, by rw [o.int], g.now st (.int _)⟩
  · rename_i xs; obtain ⟨v, rfl, o⟩ := os.one
    split at hz
    · rename_i n ns hn
      cases hz
      obtain ⟨a, ys, rfl, h1, rr⟩ := o.lstO
      rw [intsOf_map hn] at rr
      rw [rr.ints] at h1
      exact cr_min hc pins s σ H _ us Q I r ⟨a, n :: ns, rfl, .of h1, by simp, fun m h2 h3 => by rw [le_one ⟨h2, h3⟩ (leastI_ok ns n)]; exact g.now st (.int _)⟩
    · cases hz
  · rename_i xs; obtain ⟨v, rfl, o⟩ := os.one
    split at hz
    · rename_i n ns hn
      cases hz
      obtain ⟨a, ys, rfl, h1, rr⟩ := o.lstO
      rw [intsOf_map hn] at rr
      rw [rr.ints] at h1
      exact cr_max hc pins s σ H _ us Q I r ⟨a, n :: ns, rfl, .of h1, by simp, fun m h2 h3 => by rw [ge_one ⟨h2, h3⟩ (mostI_ok ns n)]; exact g.now st (.int _)⟩
    · cases hz
  · cases hz; obtain ⟨v, u, rfl, o1, o2⟩ := os.two
    exact call_min2 hc pins s σ H _ us Q I r ⟨_, _, by rw [o1.int, o2.int], g.now st (.int _)⟩
  · cases hz; obtain ⟨v, u, rfl, o1, o2⟩ := os.two
    exact call_max2 hc pins s σ H _ us Q I r ⟨_, _, by rw [o1.int, o2.int], g.now st (.int _)⟩
  · cases hz; obtain ⟨v, u, rfl, o1, o2⟩ := os.two
    exact call_minS hc pins s σ H _ us Q I r ⟨_, _, by rw [o1.str, o2.str], g.now st (.str _)⟩
  · rename_i d c; obtain ⟨v, u, rfl, o1, o2⟩ := os.two
    cases hi : dIsi d c with
    | none => rw [hi] at hz; cases hz
    | some k =>
      rw [hi] at hz; cases hz
      unfold dIsi at hi
      cases ht : tagOf d with
      | none => rw [ht] at hi; cases hi
      | some t =>
        rw [ht] at hi
        obtain ⟨T, k1, k2⟩ := tag_ty F o1 ht
        have one : isiTag t c = some k → wpAny (model X.prog X.w) X.A (call Bi.isi.val us) (EP X pins σ Q) X.xe s := fun hi => by
          obtain ⟨w', q1, q2⟩ := isi_one F k2 o2 hi
          exact call_isi pins s σ H _ us Q I r ⟨v, u, T, w', k, rfl, q1, k1, q2, g.now st (.bl _)⟩
        cases c with
        | tup cs =>
          obtain ⟨a, xs, rfl, h1, rr⟩ := o2.tupO
          obtain ⟨ws, q1, q2⟩ := isi_all F k2 rr hi
          exact call_isiT pins s σ H _ us Q I r ⟨v, a, xs, T, ws, k, rfl, h1, q1, k1, q2, g.now st (.bl _)⟩
        | _ => exact one hi
  · cases hz; obtain ⟨v, rfl, o⟩ := os.one
    exact call_int1 pins s σ H _ us Q I r (.inl ⟨_, by rw [o.int], g.now st (.int _)⟩)
  · split at hz
    · rename_i hf; cases hz; obtain ⟨v, rfl, o⟩ := os.one
      exact call_str_int pins s σ H _ us Q I r ⟨_, by rw [o.int], of_decide_eq_true hf, g.now st (.str _)⟩
    · cases hz
  · cases hz; obtain ⟨v, rfl, o⟩ := os.one
    exact SkE.call_str_str pins s σ H _ us Q I r ⟨_, by rw [o.str], g.now st (.str _)⟩
  · cases hz; obtain ⟨v, rfl, o⟩ := os.one; obtain ⟨a, xs, rfl, h1, rr⟩ := o.lstO
    exact call_list_of pins s σ H _ us Q I r ⟨a, xs, rfl, .inl (.of h1), g.lst st rr⟩
  · cases hz; obtain ⟨v, rfl, o⟩ := os.one; obtain ⟨a, xs, rfl, h1, rr⟩ := o.tupO
    exact call_list_of pins s σ H _ us Q I r ⟨a, xs, rfl, .inr (.of h1), g.lst st rr⟩
  · cases hz; obtain ⟨v, rfl, o⟩ := os.one; obtain ⟨a, rfl, h1⟩ := o.scrO
    exact call_list_of pins s σ H _ us Q I r ⟨a, _, rfl, .inl h1, g.lst st (.ofInts _)⟩
  · cases hz; obtain ⟨v, rfl, o⟩ := os.one; obtain ⟨a, xs, rfl, h1, rr⟩ := o.lstO
    exact call_tuple_of pins s σ H _ us Q I r ⟨a, xs, rfl, .inl ⟨.of h1, g.tup st rr⟩⟩
  · cases hz; obtain ⟨v, rfl, o⟩ := os.one; obtain ⟨a, xs, rfl, h1, rr⟩ := o.tupO
    refine call_tuple_of pins s σ H _ us Q I r ⟨a, xs, rfl, .inr ⟨.of h1, ?_⟩⟩
    cases o with | dat q => exact g.now st q
  · rename_i xs; obtain ⟨v, rfl, o⟩ := os.one
    cases hn : pairsOf? xs with
    | none => rw [hn] at hz; cases hz
    | some ps =>
      rw [hn] at hz; cases hz
      obtain ⟨a, ys, rfl, h1, rr⟩ := o.lstO
      obtain ⟨as, kvs, rfl, e2, e3, e4⟩ := pairs_rep rr hn
      refine call_dictP hc pins s σ H _ us Q I r ⟨a, as, kvs, rfl, .of h1, e2, fun p hp => ?_⟩
      obtain ⟨ks', xs', m1, m2, m3, m4⟩ := mergeD_zip kvs [] [] rfl (by simp)
      obtain ⟨m5, m6⟩ := m4 X.K G ι H [] ps e3 e4 .nil
      have m1 : mergeK [] kvs = ks'.zip xs' := m1
      rw [m1]
      subst m5
      exact g.dct st m2 m6 p hp
  · cases hz
  · rename_i xs; obtain ⟨v, rfl, o⟩ := os.one
    cases hn : toPyL xs with
    | none => rw [hn] at hz; cases hz
    | some ps =>
      rw [hn] at hz
      have hz : (if sortB ps && fits xs.length then some (D.lst (sortD xs)) else none) = some z := hz
      split at hz
      · rename_i hb; cases hz
        rw [Bool.and_eq_true] at hb
        obtain ⟨a, ys, rfl, h1, rr⟩ := o.lstO
        exact call_sortedL (G := G) (by omega) pins s σ H _ us Q I r ⟨ι, S, xs, ps, a, ys, st, rfl, h1, rr, hn, hb.1, fits_iff.mp hb.2, g⟩
      · cases hz
  · cases hz
end
end EC
namespace EC
open PySem PySem.Spec PyProof.Rows L2
/-- the functions, at one level: name, arguments, store -/
abbrev FnT := Str → List W → Store → Res W
abbrev Gam.base (G : Gam) : Gam := { G with lam := none }
def spOf (K : PySem.W.Frag) (G : Gam) (r : List W → Store → Res W) : Sp := fun vs H Q E => ∃ ι ws S, StOk K G ι S H ∧ RepWs K G ι H vs ws ∧ Out K G ι H E (fun ι' H' _ w => ∀ v, RepW K G ι' H' v w → Q v H') (r ws S)
def FnGood (P : Program) (w : World) (K : PySem.W.Frag) (mg : Str → Option Value) (base : Heap) (G : Gam) (k : Nat) (T : FnT) (f : Str) (a : Addr) : Prop :=
  ∃ fd ps, FnOk P w K mg base (L2.CX P w) k a fd ps (spOf K G (T f)) ∧ Binds K fd ps []
/-- the lambda that was handed in may be called from here -/
def LamR (G : Gam) (X : Cx) : Prop := ∀ l, G.lam = some l → ∀ (pn : List (Addr × Obj)) (xe : Value → Shared → Prop) (W' : WX) (pins : List (Addr × Obj)) (σ : L2.St) (H : Hp) (s : Shared) (ι : List Addr) (S : Store) (Q : VK),
  Takes (X.tr pn xe) W' → Inv (X.tr pn xe) pins σ H s → l.cap ι H → StOk X.K G ι S H →
  Out X.K G ι H (fun cls d H' => W' cls d σ H') (fun ι' H' _ d => ∀ v, Rep X.K G ι' H' v d → Q v H') (l.run S) →
  ∀ pos, wpAny (model X.prog X.w) X.A (callWith pos (.ref l.f) [] (backTo pos (starEach [] X.env)) (backToKw pos (keywordEach [] X.env))) (EP (X.tr pn xe) pins σ Q) xe s
/-- a def that takes a lambda -/
def FnGoodL (P : Program) (w : World) (K : PySem.W.Frag) (mg : Str → Option Value) (base : Heap) (G : Gam) (k : Nat) (T : FnT) (f : Str) (a : Addr) : Prop :=
  ∃ (x qual : Str) (st : Stmt) (fd : FuncData) (N ps : List Str), Fun K x qual st a fd ∧ FnScope N ps (defScope st) ∧ Binds K fd ps [] ∧ (∀ run S, ps.length = 1 ∨ T f [.lam run] S = .bad) ∧
  ∀ (l : LamI) (A : Around) (outer : List Env) (s : Shared) (H : Hp) (Q : VK) (E : XK) (ι : List Addr) (S : Store), Room k (A.deeper (envOfC qual (defScope st) s.heap.objs.size a fd.code)) →
    LamR { G with lam := some l } (cxOf (L2.CX P w) P w K mg base N qual (defScope st) a fd.code A outer s H E) → StOk K { G with lam := some l } ι S H → l.cap ι H →
    Out K { G with lam := some l } ι H E (fun ι' H' _ w => ∀ v, RepW K { G with lam := some l } ι' H' v w → Q v H') (T f [.lam l.run] S) →
    ∃ t, PSs (cxOf (L2.CX P w) P w K mg base N qual (defScope st) a fd.code A outer s H E) (defBody st) t ∧ t { nx := fun _ H' => Q .non H', rt := Q } (L2.start N [.ref l.f]) H
structure FnsOk (P : Program) (w : World) (K : PySem.W.Frag) (mg : Str → Option Value) (base : Heap) (G : Gam) (k : Nat) (T : FnT) : Prop where
  fn : ∀ f a, G.fns.lookup f = some a → FnGood P w K mg base G k T f a
  meth : ∀ c ci m q a, G.clss.lookup c = some ci → ci.meths.lookup m = some (q, a) → FnGood P w K mg base G k T q a
  init : ∀ c ci q a, G.clss.lookup c = some ci → ci.init = some (q, a) → FnGood P w K mg base G k T q a
  lam : ∀ f a, G.fns.lookup f = some a → FnGoodL P w K mg base G k T f a
/-- the same, one level below: what a lambda's body calls -/
def markW : W := .lam fun _ => .bad
def loT (T : FnT) : FnT := fun f ws S => T f (markW :: markW :: ws) S
def lowT : Nat → FnT → FnT
  | 0, T => T
  | n + 1, T => lowT n (loT T)
structure FnsLow (P : Program) (w : World) (K : PySem.W.Frag) (mg : Str → Option Value) (base : Heap) (G : Gam) (k : Nat) (T : FnT) : Prop where
  at_ : ∀ n, 2 * n < k → FnsOk P w K mg base G (k - 2 * n) (lowT n T)
  bad : ∀ n, k < 2 * n + 3 → ∀ f ws S, lowT n T f ws S = .bad
theorem FnsLow.next {P : Program} {w : World} {K : PySem.W.Frag} {mg : Str → Option Value} {base : Heap} {G : Gam} {k : Nat} {T : FnT} (h : FnsLow P w K mg base G (k + 2) T) : FnsLow P w K mg base G k (loT T) :=
  ⟨fun n hn => by
    have q := h.at_ (n + 1) (by omega)
    rw [show k + 2 - 2 * (n + 1) = k - 2 * n by omega] at q
    exact q, fun n hn f ws S => h.bad (n + 1) (by omega) f ws S⟩
theorem FnsLow.fns {P : Program} {w : World} {K : PySem.W.Frag} {mg : Str → Option Value} {base : Heap} {G : Gam} {k : Nat} {T : FnT} (h : FnsLow P w K mg base G k T) (hk : 0 < k) : FnsOk P w K mg base G k T := h.at_ 0 (by omega)
structure ClsFacts (K : PySem.W.Frag) (G : Gam) : Prop where
  flds : ∀ c ci f, G.clss.lookup c = some ci → f ∈ ci.fields → NoAttr K ci.C f
  ms : ∀ c ci m q a, G.clss.lookup c = some ci → ci.meths.lookup m = some (q, a) → Meth K ci.C m a ∧ m ∉ ci.fields
  maker : ∀ c ci q a, G.clss.lookup c = some ci → ci.init = some (q, a) → Mk K ci.C a
  few : ∀ c ci, G.clss.lookup c = some ci → ci.fields.length < 1000 ∧ ci.fields.Nodup
structure CtxF (G : Gam) (X : Cx) (Wx : WX) (k : Nat) (T : FnT) : Prop extends Ctx G X Wx where
  isf : IsFacts X.K G
  clf : ClsFacts X.K G
  room : Room (k + 1) X.A
  roomX : Room 2 X.A
  fns : FnsOk X.prog X.w X.K X.mg X.base G.base k T
  low : FnsLow X.prog X.w X.K X.mg X.base G.base k T
section
variable {K : PySem.W.Frag} {G G' : Gam} {ι : List Addr} {H : Hp}
mutual
theorem Rep.gam (h1 : G'.fns = G.fns) (h2 : G'.clss = G.clss) {v : V} {d : D} (r : Rep K G ι H v d) : Rep K G' ι H v d := by
  cases r with
  | non => exact .non
  | bl b => exact .bl b
  | int i => exact .int i
  | str x => exact .str x
  | tup k1 k2 hr => exact .tup k1 k2 (RepAll.gam h1 h2 hr)
  | kup h hr => exact .kup h (RepAll.gam h1 h2 hr)
  | lst k1 k2 hr => exact .lst k1 k2 (RepAll.gam h1 h2 hr)
  | scr h => exact .scr h
  | dct k1 k2 k3 hr => exact .dct k1 k2 k3 (RepAll.gam h1 h2 hr)
  | dtt k1 k2 k3 hr => exact .dtt k1 k2 k3 (RepAll.gam h1 h2 hr)
  | ins k1 k2 k3 k4 hr => exact .ins k1 (by rw [h2]; exact k2) k3 k4 (RepAll.gam h1 h2 hr)
  | fn h => exact .fn (by rw [h1]; exact h)
  | cls h => exact .cls (by rw [h2]; exact h)
  | bty n => exact .bty n
theorem RepAll.gam (h1 : G'.fns = G.fns) (h2 : G'.clss = G.clss) {vs : List V} {ds : List D} (r : RepAll K G ι H vs ds) : RepAll K G' ι H vs ds := by
  cases r with
  | nil => exact .nil
  | cons h t => exact .cons (Rep.gam h1 h2 h) (RepAll.gam h1 h2 t)
end
theorem CellOk.gam (h1 : G'.fns = G.fns) (h2 : G'.clss = G.clss) {a : Addr} {c : Cell} (r : CellOk K G ι H a c) : CellOk K G' ι H a c := by
  cases c with
  | lst ds => obtain ⟨xs, e, r⟩ := r; exact ⟨xs, e, r.gam h1 h2⟩
  | dct ks vs => obtain ⟨xs, e, l, r⟩ := r; exact ⟨xs, e, l, r.gam h1 h2⟩
  | ins cn vs => obtain ⟨ci, dx, xs, h0, e, l, r⟩ := r; exact ⟨ci, dx, xs, by rw [h2]; exact h0, e, l, r.gam h1 h2⟩
theorem StOk.gam (h1 : G'.fns = G.fns) (h2 : G'.clss = G.clss) (h3 : G'.tabs = G.tabs) {S : Store} (s : StOk K G ι S H) : StOk K G' ι S H :=
  ⟨s.len, s.nd, fun n a c e1 e2 => (s.at_ n a c e1 e2).gam h1 h2, by rw [h3]; exact s.tabs⟩
theorem StOk.toB {S : Store} (s : StOk K G ι S H) : StOk K G.base ι S H := s.gam (G' := G.base) (G := G) rfl rfl rfl
theorem StOk.ofB {S : Store} (s : StOk K G.base ι S H) : StOk K G ι S H := StOk.gam (G' := G) (G := G.base) rfl rfl rfl s
def noLam : W → Bool
  | .lam _ => false
  | _ => true
theorem RepW.toB {v : V} {w : W} (h : noLam w = true) (r : RepW K G ι H v w) : RepW K G.base ι H v w := by
  cases r with
  | dat r => exact .dat (Rep.gam (G' := G.base) (G := G) rfl rfl r)
  | cell h2 => exact .cell h2
  | lam _ _ => cases h
theorem RepW.ofB {v : V} {w : W} (r : RepW K G.base ι H v w) : RepW K G ι H v w := by
  cases r with
  | dat r => exact .dat (Rep.gam (G' := G) (G := G.base) rfl rfl r)
  | cell h2 => exact .cell h2
  | lam h _ => cases h
theorem RepWs.toB : ∀ {vs : List V} {ws : List W}, ws.all noLam = true → RepWs K G ι H vs ws → RepWs K G.base ι H vs ws
  | _, _, _, .nil => .nil
  | _, _, h, .cons r t => by
    rw [List.all_cons, Bool.and_eq_true] at h
    exact .cons (r.toB h.1) (RepWs.toB h.2 t)
theorem XOk.ofB {c : Str} {fs : List D} {cls : Value} {d : Option Addr} (x : XOk K G.base ι H c fs cls d) : XOk K G ι H c fs cls d := by
  obtain ⟨ci, h1, h2, da, xs, h3, h4, h5, h6, h7⟩ := x
  exact ⟨ci, h1, h2, da, xs, h3, h4, h5, h6, RepAll.gam (G' := G) (G := G.base) rfl rfl h7⟩
/-- a callee's end, asked for without the lambda -/
theorem Out.toB {E : XK} {Q : VK} {r : Res W} (o : Out K G ι H E (fun ι' H' _ w => ∀ v, RepW K G ι' H' v w → Q v H') r) : Out K G.base ι H E (fun ι' H' _ w => ∀ v, RepW K G.base ι' H' v w → Q v H') r := by
  cases r with
  | ok w S => exact fun ι' H' e s v r => o ι' H' e s.ofB v r.ofB
  | ex c fs S => exact fun ι' H' cls d e s x => o ι' H' cls d e s.ofB x.ofB
  | bad => exact o
end
/-- the callee, in the store: no lambda goes in -/
def callT (T : FnT) (f : Str) (ws : List W) (S : Store) : Res W := if ws.all noLam then T f ws S else .bad
section
variable {X : Cx} {G : Gam} {Wx : WX} {k : Nat} {T : FnT} {pins : List (Addr × Obj)} {σ : L2.St} {H : Hp} {s : Shared} {pos : Pos} {es : List Expr} {t : TA}
theorem args_run {f : Value} {g : Expr → Sm W} {first : List Value} {Q : Value → Shared → Prop} (ha : ∀ e ∈ es, PE X e (rdE X.K G Wx (g e))) (hs : noStars es = true) (hk : PySem.W.keepIn X.K f = true) (I : Inv X pins σ H s)
    (h : rdA X.K G Wx (evs g es) σ H fun vs H1 => ∀ us s1, Inv X pins σ H1 s1 → Vals vs us → wpAny (model X.prog X.w) X.A (call f (first ++ us)) Q X.xe s1) :
    wpAny (model X.prog X.w) X.A (callWith pos f first (backTo pos (starEach es X.env)) (backToKw pos (keywordEach [] X.env))) Q X.xe s := by
  cases es with
  | nil =>
    obtain ⟨ι, ρ, S, m, o⟩ := h
    exact PySem.W.callWith_K0 I.kIn hk (o ι H (Ext.refl _ _) m.st [] .nil [] s I .nil)
  | cons e es =>
    have hp := sd_args (e :: es) ha
    unfold noStars at hs
    rw [List.all_cons, Bool.and_eq_true] at hs
    exact PySem.W.callWith_K (h₀ := X.base) I.ok.mod.kin hk (thn (hp.run pos pins s σ H _ I h) fun us s1 ⟨vs, H1, I1, r, q⟩ => ⟨I1.kIn, q us s1 I1 r⟩) (starEach_cons hs.1) (noStar_any hs.2)
theorem args_runB {id : String} {g : Expr → Sm W} {first : List Value} {Q : Value → Shared → Prop} (ha : ∀ e ∈ es, PE X e (rdE X.K G Wx (g e))) (hs : noStars es = true) (I : Inv X pins σ H s)
    (h : rdA X.K G Wx (evs g es) σ H fun vs H1 => ∀ us s1, Inv X pins σ H1 s1 → Vals vs us → wpAny (model X.prog X.w) X.A (call (.builtin id) (first ++ us)) Q X.xe s1) :
    wpAny (model X.prog X.w) X.A (callWith pos (.builtin id) first (backTo pos (starEach es X.env)) (backToKw pos (keywordEach [] X.env))) Q X.xe s := by
  cases es with
  | nil =>
    obtain ⟨ι, ρ, S, m, o⟩ := h
    exact Calls.callWith_builtin rfl (PySem.evalArgs_none (o ι H (Ext.refl _ _) m.st [] .nil [] s I .nil))
  | cons e es =>
    have hp := sd_args (e :: es) ha
    unfold noStars at hs
    rw [List.all_cons, Bool.and_eq_true] at hs
    have hA := hp.run pos pins s σ H _ I h
    rw [starEach_cons hs.1] at hA ⊢
    refine Calls.callWith_builtin (by show (false || (backTo pos (starEach es X.env)).any (·.1)) = false; rw [noStar_any hs.2] <;> rfl) (Calls.evalArgs_plain ?_)
    exact thn hA fun us s1 ⟨vs, H1, I1, r, q⟩ => q us s1 I1 r
/-- a def is called -/
theorem run_good {a : Addr} {f : Str} {Q : VK} {us : List Value} {vs : List V} {ι : List Addr} {ws : List W} {S : Store} (C : CtxF G X Wx k T) (F : FnGood X.prog X.w X.K X.mg X.base G.base k T f a) (I : Inv X pins σ H s) (r : Vals vs us) (st : StOk X.K G ι S H) (rw : RepWs X.K G ι H vs ws)
    (o : Out X.K G ι H (fun c d H' => Wx c d σ H') (fun ι' H' _ w => ∀ v, RepW X.K G ι' H' v w → Q v H') (callT T f ws S)) : wpAny (model X.prog X.w) X.A (call (.ref a) us) (EP X pins σ Q) X.xe s := by
  obtain ⟨fd, ps, F, B⟩ := F
  unfold callT at o
  split at o
  · rename_i hn
    exact run_fnS (E := fun σ => WE Wx σ) F (C.room.mono (Nat.le_succ _)) B (passAt C.tk σ) I r ⟨ι, ws, S, st.toB, rw.toB hn, o.toB⟩
  · exact o.elim
end
def callMk (T : FnT) (c : Str) (ci : ClsI) (ws : List W) (S : Store) : Res W := match ci.init with
  | none => .bad
  | some (q, _) => (callT T q (.cell S.length :: ws) (S ++ [.ins c []])).bind fun w S2 => match w with
    | .dat .non => if S2.length = S.length + 1 then match S2[S.length]? with
      | some (.ins c' vs) => if c' = c ∧ vs.length = ci.fields.length then (if ci.muta then .ok (.cell S.length) S2 else .ok (.dat (.ins c vs)) (S2.take S.length)) else .bad
      | _ => .bad
      else .bad
    | _ => .bad
section
variable {X : Cx} {G : Gam} {Wx : WX} {k : Nat} {T : FnT} {pins : List (Addr × Obj)} {σ : L2.St} {H : Hp} {s : Shared} {pos : Pos} {es : List Expr} {t : TA}
/-- an instance is made, what is let out told of the very slots -/
theorem make_at {C f : Addr} {fd : FuncData} {ps : List Str} {sp : Sp} {E : XK} {Q : VK} {us : List Value} {vs : List V} (M : Mk X.K C f) (F : FnOk X.prog X.w X.K X.mg X.base (L2.CX X.prog X.w) k f fd ps sp) (hr : Room (k + 1) X.A) (hb : Binds X.K fd ps [])
    (hx : PassesAt (L2.CX X.prog X.w) X σ E) (I : Inv X pins σ H s) (r : Vals vs us)
    (h : ∀ x dx, H x = none → H dx = none → dx ≠ x → sp (.ref x :: vs) (upd (upd H dx (.own x)) x (.ins C dx [])) (fun v H2 => v = .non ∧ Q (.ref x) H2) E) : wpAny (model X.prog X.w) X.A (call (.ref C) us) (EP X pins σ Q) X.xe s := by
  have nw := Nat.ne_of_lt (Nat.lt_succ_self s.heap.objs.size)
  have hq := h _ _ (I.hok.fresh (Nat.le_succ s.heap.objs.size)) (I.hok.fresh (Nat.le_refl _)) nw
  have J := Inv.made (C := C) I
  have b0 := hb _ (Value.ref (s.heap.objs.size + 1) :: us) J.kIn
  rw [List.append_nil] at b0
  have rv : Vals (V.ref (s.heap.objs.size + 1) :: vs) (Value.ref (s.heap.objs.size + 1) :: us) := .cons rfl r
  have hlen : (Value.ref (s.heap.objs.size + 1) :: us).length = ps.length := by rw [← rv.length]; exact F.len _ _ _ _ hq
  refine wpAny_call (make_map (f := f) I.kIn M.makes M.init (beq_iff_eq.mp M.fn) (codeAny_mono (F.run _ X.stack _ _ ⟨Value.ref (s.heap.objs.size + 1) :: us, []⟩ _ _ _ E (hr.make C us []) (J.env0.make C us []) (b0 hlen) rv hq) fun r s' z => ?_))
  cases r with
  | error e => exact hx pins _ _ e s' J z
  | ok fl =>
    cases fl with
    | ret u =>
      obtain ⟨v, H', J', r', ev, q3⟩ := J.after z
      subst ev
      exact ⟨r', V.ref (s.heap.objs.size + 1), H', J', rfl, q3⟩
    | next => exact False.elim z
    | brk => exact False.elim z
    | cont => exact False.elim z
theorem run_mk {c : Str} {ci : ClsI} {Q : VK} {us : List Value} {vs : List V} {ι : List Addr} {ws : List W} {S : Store} (C : CtxF G X Wx k T) (hc : G.clss.lookup c = some ci) (I : Inv X pins σ H s) (r : Vals vs us) (st : StOk X.K G ι S H) (rw : RepWs X.K G ι H vs ws)
    (o : Out X.K G ι H (fun c d H' => Wx c d σ H') (fun ι' H' _ w => ∀ v, RepW X.K G ι' H' v w → Q v H') (callMk T c ci ws S)) : wpAny (model X.prog X.w) X.A (call (.ref ci.C) us) (EP X pins σ Q) X.xe s := by
  unfold callMk at o
  cases hi : ci.init with
  | none => rw [hi] at o; exact o.elim
  | some p =>
    obtain ⟨q, a⟩ := p
    rw [hi] at o
    simp only at o
    obtain ⟨fd, ps, F, B⟩ := C.fns.init c ci q a hc hi
    have M := C.clf.maker c ci q a hc hi
    unfold callT at o
    by_cases hn : ((W.cell S.length :: ws).all noLam) = true
    · rw [if_pos hn] at o
      refine make_at M F C.room B (passAt C.tk σ) I r fun x dx hx hdx hne => ?_
      have e1 : Ext ι H ι (upd H dx (.own x)) := Ext.new hdx
      have s1 : StOk X.K G ι S (upd H dx (.own x)) := st.new hdx
      have hx1 : upd H dx (.own x) x = none := by rw [upd_ne (Ne.symm hne)]; exact hx
      obtain ⟨s2, e2⟩ := s1.push (c := .ins c []) (o := .ins ci.C dx []) hx1 ⟨ci, dx, [], hc, by rw [upd_same, List.zip_nil_right], Nat.zero_le _, .nil⟩
      have e12 := e1.trans e2
      have hlx : (ι ++ [x])[S.length]? = some x := by rw [← st.len]; simp
      refine ⟨ι ++ [x], .cell S.length :: ws, S ++ [.ins c []], s2.toB, RepWs.toB hn (.cons (.cell hlx) (rw.ext e12)), ?_⟩
      refine Out.toB ?_
      cases hres : T q (.cell S.length :: ws) (S ++ [.ins c []]) with
      | bad => rw [hres] at o; exact o.elim
      | ex c' fs S3 => rw [hres] at o; exact fun ι3 H3 cls d e3 s3 x3 => o ι3 H3 cls d (e12.trans e3) s3 x3
      | ok w3 S3 =>
        rw [hres] at o
        simp only [Res.bind_ok] at o
        intro ι3 H3 e3 s3 v rv
        split at o
        · cases rv with
          | dat rv =>
            cases rv
            refine ⟨rfl, ?_⟩
            split at o
            · rename_i hlen
              split at o
              · rename_i c' vs' hv
                split at o
                · rename_i hcv
                  obtain ⟨rfl, hvl⟩ := hcv
                  have h3l := s3.len
                  have hι : ι3 = ι ++ [x] := by
                    obtain ⟨l, e4, _⟩ := e3.pre
                    have h5 : ι3.length = (ι ++ [x]).length + l.length := by rw [e4, List.length_append]
                    have h6 : (ι ++ [x]).length = ι.length + 1 := by rw [List.length_append, List.length_singleton]
                    have hl0 : l.length = 0 := by rw [h6, h3l, hlen, ← st.len] at h5; omega
                    rw [e4, List.length_eq_zero_iff.mp hl0, List.append_nil]
                  split at o
                  · exact o ι3 H3 (e12.trans e3) s3 _ (.cell (by rw [hι]; exact hlx))
                  · have hk : ι3.take S.length = ι := by rw [hι, ← st.len, List.take_left]
                    have s4 := s3.take (n := S.length) (by rw [h3l, hlen]; omega)
                    rw [hk] at s4
                    have cell := s3.at_ S.length x _ (by rw [hι]; exact hlx) hv
                    have hxι : x ∉ ι := fun z => by obtain ⟨o, e, _⟩ := st.mem z; rw [hx] at e; cases e
                    have rf : Rep X.K G ι H3 (.ref x) (.ins c' vs') := CellOk.frozen cell hxι (fun b hb z => hb (by rw [hι]; exact List.mem_append_left _ z)) (fun cn ws e => by cases e; exact ⟨ci, hc, hvl.symm⟩)
                    exact o ι H3 (e12.trans e3).back s4 _ (.dat rf)
                · exact o.elim
              · exact o.elim
            · exact o.elim
        · exact o.elim
    · rw [if_neg hn] at o; exact o.elim
end
def fnOf? (G : Gam) : W → Option (Str ⊕ (Str × ClsI))
  | .dat (.fn f) => match G.fns.lookup f with
    | some _ => some (.inl f)
    | none => none
  | .dat (.cls c) => match G.clss.lookup c with
    | some ci => match ci.init with
      | some _ => some (.inr (c, ci))
      | none => none
    | none => none
  | _ => none
/-- a call of a name: what it holds, then the arguments -/
def sCallN (G : Gam) (T : FnT) (cf : Sm W) (ca : Sm (List W)) : Sm W := fun ρ S => (cf ρ S).bind fun w S1 => match fnOf? G w with
  | some (.inl f) => (ca ρ S1).bind fun ws S2 => callT T f ws S2
  | some (.inr (c, ci)) => (ca ρ S1).bind fun ws S2 => callMk T c ci ws S2
  | none => .bad
section
variable {X : Cx} {G : Gam} {Wx : WX} {k : Nat} {T : FnT} {pos p : Pos} {es : List Expr} {g : Expr → Sm W}
theorem rd_argsM {K : PySem.W.Frag} {σ : L2.St} {H : Hp} {c1 : Sm (List W)} {f : List W → Store → Res W} {Q : VK} {ι : List Addr} {ρ : Env0'} {S : Store} (m : MtE K G ι ρ S σ H)
    (o : Out K G ι H (fun c d H' => Wx c d σ H') (fun ι' H' _ w => ∀ v, RepW K G ι' H' v w → Q v H') ((c1 ρ S).bind fun ws S1 => f ws S1)) :
    rdA K G Wx c1 σ H fun xs H1 => ∃ ι' S' ws, Ext ι H ι' H1 ∧ StOk K G ι' S' H1 ∧ RepWs K G ι' H1 xs ws ∧ Out K G ι' H1 (fun c d H' => Wx c d σ H') (fun ι' H' _ w => ∀ v, RepW K G ι' H' v w → Q v H') (f ws S') :=
  ⟨ι, ρ, S, m, o.bind.imp fun ι1 H1 S1 w1 e1 s1 o1 x rx => ⟨ι1, S1, w1, e1, s1, rx, o1⟩⟩
theorem rdA_mono {K : PySem.W.Frag} {σ : L2.St} {H : Hp} {c1 : Sm (List W)} {Q Q' : List V → Hp → Prop} (h : rdA K G Wx c1 σ H Q) (i : ∀ vs H, Q vs H → Q' vs H) : rdA K G Wx c1 σ H Q' := by
  obtain ⟨ι, ρ, S, m, o⟩ := h
  exact ⟨ι, ρ, S, m, o.imp fun ι1 H1 S1 w1 e1 s1 o1 x rx => i _ _ (o1 x rx)⟩
theorem rd_oneE {K : PySem.W.Frag} {σ : L2.St} {H : Hp} {c1 : Sm W} {f : W → Env0' → Store → Res W} {Q : VK} (h : rdE K G Wx (fun ρ S => (c1 ρ S).bind fun w1 S1 => f w1 ρ S1) σ H Q) :
    rdE K G Wx c1 σ H fun x H1 => ∃ ι ρ S w1, MtE K G ι ρ S σ H1 ∧ RepW K G ι H1 x w1 ∧ Out K G ι H1 (fun c d H' => Wx c d σ H') (fun ι' H' _ w => ∀ v, RepW K G ι' H' v w → Q v H') (f w1 ρ S) := by
  obtain ⟨ι, ρ, S, m, o⟩ := h
  refine ⟨ι, ρ, S, m, o.bind.imp fun ι1 H1 S1 w1 e1 s1 o1 x rx => ?_⟩
  exact ⟨ι1, ρ, S1, w1, ⟨m.env.ext e1, s1⟩, rx, o1⟩
theorem sd_callN {x : Str} (C : CtxF G X Wx k T) (ha : ∀ e ∈ es, PE X e (rdE X.K G Wx (g e))) (hs : noStars es = true) :
    PE X (.Call (.Name x p) es [] pos) (rdE X.K G Wx (sCallN G T (eName G X.N X.env.scope x) (evs g es))) := by
  refine ⟨fun pins s σ H Q I h => ?_⟩
  refine wpAny_Call_Name_kw (thn ((sd_name C.toCtx.toCtxN (pos := p) (x := x)).run pins s σ H _ I (rd_oneE h)) fun u s1 ⟨v, H1, I1, r1, ι, ρ, S, w, m, rw, o⟩ => ?_)
  unfold fnOf? at o
  cases w with
  | cell n => exact o.elim
  | lam => exact o.elim
  | dat d =>
    cases rw with
    | dat rw =>
      cases rw with
      | @fn f a hf =>
        simp only [hf] at o
        cases r1
        refine args_run ha hs (C.gfn f a hf).2 I1 ?_
        refine rdA_mono (rd_argsM m o) fun xs H2 hh us s2 I2 rv => ?_
        obtain ⟨ι', S', ws, _, st, rws, o'⟩ := hh
        exact run_good C (C.fns.fn f a hf) I2 rv st rws o'
      | @cls c ci hc =>
        simp only [hc] at o
        cases r1
        cases hi : ci.init with
        | none => rw [hi] at o; exact o.elim
        | some qa =>
          rw [hi] at o
          refine args_run ha hs (C.clf.maker c ci qa.1 qa.2 hc hi).kp I1 ?_
          refine rdA_mono (rd_argsM m o) fun xs H2 hh us s2 I2 rv => ?_
          obtain ⟨ι', S', ws, _, st, rws, o'⟩ := hh
          exact run_mk C hc I2 rv st rws o'
      | _ => exact o.elim
def sCallB (b : Bi) (ca : Sm (List W)) : Sm W := fun ρ S => (ca ρ S).bind fun ws S1 => fBi b ws S1
theorem boot_bi : ∀ p ∈ biTab, bootBuiltins p.1 = some p.2.val ∧ p.1 ∈ biNames := by decide +kernel
theorem fBi_out {K : PySem.W.Frag} {ι : List Addr} {H : Hp} {E : XK} {Q : VK} {b : Bi} {ws : List W} {S : Store} {xs : List V} (st : StOk K G ι S H) (r : RepWs K G ι H xs ws)
    (o : Out K G ι H E (fun ι' H' _ w => ∀ v, RepW K G ι' H' v w → Q v H') (fBi b ws S)) : rBi K G b xs H Q := by
  unfold fBi at o
  split at o
  · rename_i ds h1
    split at o
    · rename_i z hz
      exact ⟨ι, S, ds, z, st, obsAll_of st r h1, hz, Out.got o⟩
    · exact o.elim
  · exact o.elim
theorem sd_callB {x : Str} {b : Bi} (C : CtxF G X Wx k T) (ha : ∀ e ∈ es, PE X e (rdE X.K G Wx (g e))) (hs : noStars es = true) (hb : biTab.lookup x = some b) (hg : glbB X.env.scope x = true) (hn : okName x = true) :
    PE X (.Call (.Name x p) es [] pos) (rdE X.K G Wx (sCallB b (evs g es))) := by
  obtain ⟨n1, n2, n3⟩ := okName_iff hn
  obtain ⟨b1, b2⟩ := boot_bi _ (PySem.mem_of_lookup hb)
  have hm := C.bi x b2
  have hc := call_bi (G := G) C.isf C.calm C.un b
  cases es with
  | nil => exact ⟨fun pins s σ H Q I h => by
      obtain ⟨ι, ρ, S, m, o⟩ := h
      unfold sCallB evs fBi at o
      simp only [Res.bind_ok, derefs] at o
      cases b <;> exact o.elim⟩
  | cons e es =>
    have hp := sd_args (e :: es) ha
    unfold noStars at hs
    rw [List.all_cons, Bool.and_eq_true] at hs
    have fin : ∀ σ H Q, rdE X.K G Wx (sCallB b (evs g (e :: es))) σ H Q → tCB (rBi X.K G b) (rdA X.K G Wx (evs g (e :: es))) σ H Q := fun σ H Q h => by
      refine rdA_mono (rd_args h) fun xs H1 hh => ?_
      obtain ⟨ι, ρ, S, ws, m, rws, o⟩ := hh
      exact fBi_out m.st rws o
    cases b <;> first
      | exact PE.imp (pe_callB hc (glbB_iff hg) hm b1 hp n3 n1 (starEach_cons hs.1) (noStar_any hs.2)) fin
      | exact PE.imp (pe_callTy hc (glbB_iff hg) hm b1 hp n3 n1 (starEach_cons hs.1) (noStar_any hs.2)) fin
def fldD (G : Gam) (f : Str) (d : D) : Option D := match d with
  | .ins c vs => match G.clss.lookup c with
    | some ci => match ixOf f ci.fields with
      | some i => vs[i]?
      | none => none
    | none => none
  | _ => none
def notCall0 : Expr → Bool
  | .Call (.Name _ _) [] [] _ => false
  | _ => true
theorem base_of {o : Expr} {attr : Str} {env : Env} {whole : Sem Value} (h : notCall0 o = true) : attributeBase o attr env whole = whole := by
  unfold attributeBase
  split
  · cases h
  · rfl
theorem lookup_zip {f : Str} : ∀ {fs : List Str} {xs : List V} {i : Nat} {v : V}, ixOf f fs = some i → xs[i]? = some v → (fs.zip xs).lookup f = some v
  | [], _, _, _, h, _ => by cases h
  | g :: fs, [], i, v, h, e => by simp at e
  | g :: fs, x :: xs, i, v, h, e => by
    unfold ixOf at h
    rw [List.zip_cons_cons, List.lookup_cons]
    by_cases q : g = f
    · rw [if_pos q] at h; cases h
      subst q
      simp at e
      simp [e]
    · rw [if_neg q] at h
      cases z : ixOf f fs with
      | none => rw [z] at h; cases h
      | some j =>
        rw [z] at h; cases h
        have : (f == g) = false := by simp [Ne.symm q]
        rw [this]
        exact lookup_zip z (by simpa using e)
theorem ixOf_mem {f : Str} {fs : List Str} {i : Nat} (h : ixOf f fs = some i) : f ∈ fs := List.mem_of_getElem? (ixOf_get h)
def sFld (G : Gam) (f : Str) (c : Sm W) : Sm W := fun ρ S => (c ρ S).bind fun w S1 => f1 (fldD G f) w S1
theorem sd_fld {o : Expr} {f : Str} {c : Sm W} (C : CtxF G X Wx k T) (ho : PE X o (rdE X.K G Wx c)) (hb : notCall0 o = true) : PE X (.Attribute o f pos) (rdE X.K G Wx (sFld G f c)) := by
  refine PE.imp (pe_fld ho (base_of hb)) fun σ H Q h => ?_
  obtain ⟨ι, ρ, S, m, o⟩ := rd_one h
  refine ⟨ι, ρ, S, m, o.imp fun ι1 H1 S1 w e1 s1 o1 x rx => ?_⟩
  obtain ⟨ι2, ρ2, S2, w1, m2, r2, o2⟩ := o1 x rx
  obtain ⟨d, z, h1, h2, h3⟩ := f1_out m2.st r2 o2
  unfold fldD at h2
  split at h2
  · rename_i c' vs
    split at h2
    · rename_i ci hci
      split at h2
      · rename_i i hi
        obtain ⟨a, ci', dx, xs, rfl, g1, g2, g3, g4⟩ := h1.insO
        rw [hci] at g1; cases g1
        obtain ⟨v, g5, g6⟩ := g4.get h2
        exact ⟨a, ci.C, dx, _, v, rfl, g2, (C.isf.own c' ci hci).1, C.clf.flds c' ci f hci (ixOf_mem hi), lookup_zip hi g5, h3.now m2.st g6⟩
      · cases h2
    · cases h2
  · cases h2
end
inductive BM where
  | append | pop | extend | split | get1
def BM.id : BM → String
  | .append => "list.append"
  | .pop => "list.pop"
  | .extend => "list.extend"
  | .split => "str.split"
  | .get1 => "dict.get"
def BM.ty : BM → String
  | .append => "list"
  | .pop => "list"
  | .extend => "list"
  | .split => "str"
  | .get1 => "dict"
def bmOf (m : Str) : Option BM := if m = ("append" : Str) then some .append else if m = ("pop" : Str) then some .pop else if m = ("extend" : Str) then some .extend else if m = ("split" : Str) then some .split else if m = ("get" : Str) then some .get1 else none
theorem bm_slot {m : Str} {b : BM} (h : bmOf m = some b) : PlainAttrs b.ty ∧ Slot b.ty m b.id ∧ typeOf (.builtin b.id) = pure (.type "method_descriptor") := by
  unfold bmOf at h
  split at h
  · rename_i e; cases h; subst e; exact ⟨F.plainAttrs_list, F.slot_list_append, F.type_list_append⟩
  split at h
  · rename_i e; cases h; subst e; exact ⟨F.plainAttrs_list, F.slot_list_pop, F.type_list_pop⟩
  split at h
  · rename_i e; cases h; subst e; exact ⟨F.plainAttrs_list, F.slot_list_extend, F.type_list_extend⟩
  split at h
  · rename_i e; cases h; subst e; exact ⟨F.plainAttrs_str, F.slot_str_split, F.type_str_split⟩
  split at h
  · rename_i e; cases h; subst e; exact ⟨F.plainAttrs_dict, PySem.F.slot_dict_get, F.type_dict_get⟩
  cases h
def tyD : D → String
  | .lst _ => "list"
  | .str _ => "str"
  | .dct _ _ => "dict"
  | .dtt _ _ => "dict"
  | _ => ""
/-- the method of a built-in type, by what the receiver holds now -/
def dMt (b : BM) (w : W) (ws : List W) (S : Store) : Res W :=
  match b, derefW S w, derefs S ws with
  | .append, some (.lst ds), some [_] => match w, allD ws with
    | .cell n, some [d] => if ds.length < sizeLine then .ok (.dat .non) (S.set n (.lst (ds ++ [d]))) else .bad
    | _, _ => .bad
  | .extend, some (.lst ds), some [.lst es] => match w with
    | .cell n => if ds.length + es.length ≤ sizeLine then .ok (.dat .non) (S.set n (.lst (ds ++ es))) else .bad
    | _ => .bad
  | .pop, some (.lst ds), some [] => match w with
    | .cell n => match ds[ds.length - 1]? with
      | some d => .ok (.dat d) (S.set n (.lst ds.dropLast))
      | none => .bad
    | _ => .bad
  | .pop, some (.lst ds), some [.int i] => match w with
    | .cell n => if -(2 ^ 63) ≤ i ∧ i < 2 ^ 63 then match seqIndex? i ds.length with
      | some j => match ds[j]? with
        | some d => .ok (.dat d) (S.set n (.lst (ds.eraseIdx j)))
        | none => .bad
      | none => .bad
      else .bad
    | _ => .bad
  | .split, some (.str a), some [.str z] => if (z.length == 0) = false ∧ a.length + 2 ≤ sizeLine then .ok (.dat (.lst ((Txt.split a z).map .str))) S else .bad
  | .get1, some (.dct ks vs), some [_, _] => match allD ws with
    | some [d, e] => match keyOf? d with
      | some q => .ok (.dat ((valD ks vs q).getD e)) S
      | none => .bad
    | _ => .bad
  | _, _, _ => .bad
theorem RepAll.dropLast {K : PySem.W.Frag} {G : Gam} {ι : List Addr} {H : Hp} {vs : List V} {ds : List D} (h : RepAll K G ι H vs ds) : RepAll K G ι H vs.dropLast ds.dropLast := by
  rw [List.dropLast_eq_take, List.dropLast_eq_take, h.length]
  exact h.take _
section
variable {K : PySem.W.Frag} {G : Gam} {ι : List Addr} {H : Hp} {S : Store} {a : Addr} {n : Nat} {x : V}
theorem Ext.write {o0 o : HO} (ha : a ∈ ι) : Ext ι H ι (upd H a o) :=
  ⟨⟨[], by simp, by simp⟩, fun b u hb e _ => by rw [upd_ne (show b ≠ a from fun z => hb (by rw [z]; exact ha))]; exact e, fun b e => by
    by_cases q : b = a
    · rw [q, upd_same] at e; cases e
    · rw [upd_ne q] at e; exact e⟩
theorem StOk.setLst {c0 : Cell} (st : StOk K G ι S H) (hn : ι[n]? = some a) (hc : S[n]? = some c0) {xs : List V} {ds : List D} (r : RepAll K G ι H xs ds) :
    StOk K G ι (S.set n (.lst ds)) (upd H a (.lst xs)) ∧ Ext ι H ι (upd H a (.lst xs)) :=
  st.set hn hc (fun _ z => by cases z) ⟨xs, upd_same, r.ext (Ext.write (o0 := .lst xs) (List.mem_of_getElem? hn))⟩
theorem StOk.setDct {c0 : Cell} (st : StOk K G ι S H) (hn : ι[n]? = some a) (hc : S[n]? = some c0) {ks : List Key} {xs : List V} {ds : List D} (hl : ks.length = xs.length) (r : RepAll K G ι H xs ds) :
    StOk K G ι (S.set n (.dct ks ds)) (upd H a (.dK (ks.zip xs))) ∧ Ext ι H ι (upd H a (.dK (ks.zip xs))) :=
  st.set hn hc (fun _ z => by cases z) ⟨xs, upd_same, hl, r.ext (Ext.write (o0 := .lst xs) (List.mem_of_getElem? hn))⟩
theorem StOk.setIns {c0 : Cell} (st : StOk K G ι S H) (hn : ι[n]? = some a) (hc : S[n]? = some c0) {c : Str} {ci : ClsI} {dx : Addr} {xs : List V} {ds : List D} (hci : G.clss.lookup c = some ci) (hl : xs.length ≤ ci.fields.length) (r : RepAll K G ι H xs ds) :
    StOk K G ι (S.set n (.ins c ds)) (upd H a (.ins ci.C dx (ci.fields.zip xs))) ∧ Ext ι H ι (upd H a (.ins ci.C dx (ci.fields.zip xs))) :=
  st.set hn hc (fun _ z => by cases z) ⟨ci, dx, xs, hci, upd_same, hl, r.ext (Ext.write (o0 := .lst xs) (List.mem_of_getElem? hn))⟩
theorem cell_lst {ds : List D} (st : StOk K G ι S H) (r : RepW K G ι H x (.cell n)) (h : derefW S (.cell n) = some (.lst ds)) : ∃ a xs, x = .ref a ∧ ι[n]? = some a ∧ S[n]? = some (.lst ds) ∧ H a = some (.lst xs) ∧ RepAll K G ι H xs ds := by
  cases r with
  | @cell _ a ha =>
    have h : (S[n]?).map Cell.frz = some (.lst ds) := h
    cases hS : S[n]? with
    | none => rw [hS] at h; cases h
    | some c =>
      rw [hS] at h
      cases c with
      | lst ds' => cases h; obtain ⟨xs, e1, r1⟩ := st.at_ n a _ ha hS; exact ⟨a, xs, rfl, ha, rfl, e1, r1⟩
      | _ => cases h
theorem cell_dct {ks : List Key} {ds : List D} (st : StOk K G ι S H) (r : RepW K G ι H x (.cell n)) (h : derefW S (.cell n) = some (.dct ks ds)) : ∃ a xs, x = .ref a ∧ ι[n]? = some a ∧ S[n]? = some (.dct ks ds) ∧ H a = some (.dK (ks.zip xs)) ∧ ks.length = xs.length ∧ RepAll K G ι H xs ds := by
  cases r with
  | @cell _ a ha =>
    have h : (S[n]?).map Cell.frz = some (.dct ks ds) := h
    cases hS : S[n]? with
    | none => rw [hS] at h; cases h
    | some c =>
      rw [hS] at h
      cases c with
      | dct ks' ds' => cases h; obtain ⟨xs, e1, l, r1⟩ := st.at_ n a _ ha hS; exact ⟨a, xs, rfl, ha, rfl, e1, l, r1⟩
      | _ => cases h
theorem cell_ins {c : Str} {ds : List D} (st : StOk K G ι S H) (r : RepW K G ι H x (.cell n)) (h : derefW S (.cell n) = some (.ins c ds)) : ∃ a ci dx xs, x = .ref a ∧ ι[n]? = some a ∧ S[n]? = some (.ins c ds) ∧ G.clss.lookup c = some ci ∧ H a = some (.ins ci.C dx (ci.fields.zip xs)) ∧ xs.length ≤ ci.fields.length ∧ RepAll K G ι H xs ds := by
  cases r with
  | @cell _ a ha =>
    have h : (S[n]?).map Cell.frz = some (.ins c ds) := h
    cases hS : S[n]? with
    | none => rw [hS] at h; cases h
    | some c =>
      rw [hS] at h
      cases c with
      | ins c' ds' => cases h; obtain ⟨ci, dx, xs, e0, e1, l, r1⟩ := st.at_ n a _ ha hS; exact ⟨a, ci, dx, xs, rfl, ha, rfl, e0, e1, l, r1⟩
      | _ => cases h
end
section
variable {X : Cx} {G : Gam} {Wx : WX} {k : Nat} {T : FnT} {pos p apos : Pos} {es : List Expr} {g : Expr → Sm W}
variable {pins : List (Addr × Obj)} {σ : L2.St} {H : Hp} {s : Shared}
theorem run_mt {b : BM} {Q : VK} {x : V} {v : Value} {us : List Value} {vs : List V} {ι : List Addr} {w : W} {ws : List W} {S : Store} (hu : X.A.units + 1 < cLine) (I : Inv X pins σ H s) (rx : RelV x v) (r : Vals vs us) (st : StOk X.K G ι S H) (rw' : RepW X.K G ι H x w) (rws : RepWs X.K G ι H vs ws)
    {E : XK} (o : Out X.K G ι H E (fun ι' H' _ w => ∀ v, RepW X.K G ι' H' v w → Q v H') (dMt b w ws S)) : wpAny (model X.prog X.w) X.A (call (.builtin b.id) (v :: us)) (EP X pins σ Q) X.xe s := by
  unfold dMt at o
  split at o
  · rename_i ds d0 h1 h2
    split at o
    · rename_i n d hd
      split at o
      · rename_i hz
        obtain ⟨a, xs, rfl, ha, hS, e1, r1⟩ := cell_lst st rw' h1
        have rr := rws.all hd
        cases rr with
        | cons rd rr =>
          cases rr
          obtain ⟨s2, e2⟩ := st.setLst ha hS (r1.append (.cons rd .nil))
          exact mt_append pins s σ H _ _ v us Q I rx r ⟨a, xs, _, rfl, rfl, e1, by rw [r1.length]; exact hz, o ι _ e2 s2 _ (.dat .non)⟩
      · exact o.elim
    · exact o.elim
  · rename_i ds es' h1 h2
    split at o
    · rename_i n
      split at o
      · rename_i hz
        obtain ⟨a, xs, rfl, ha, hS, e1, r1⟩ := cell_lst st rw' h1
        obtain ⟨y, rfl, oy⟩ := (obsAll_of st rws h2).one
        obtain ⟨b', ys, rfl, e2, r2⟩ := oy.lstO
        obtain ⟨s2, e3⟩ := st.setLst ha hS (r1.append r2)
        exact mt_extend pins s σ H _ _ v us Q I rx r ⟨a, b', xs, ys, rfl, rfl, e1, e2, by rw [r1.length, r2.length]; exact hz, o ι _ e3 s2 _ (.dat .non)⟩
      · exact o.elim
    · exact o.elim
  · rename_i ds h1 h2
    split at o
    · rename_i n
      split at o
      · rename_i d hd
        obtain ⟨a, xs, rfl, ha, hS, e1, r1⟩ := cell_lst st rw' h1
        obtain ⟨y, hy, ry⟩ := r1.get hd
        obtain ⟨s2, e3⟩ := st.setLst ha hS r1.dropLast
        cases (obsAll_of st rws h2)
        exact mt_pop pins s σ H _ _ v us Q I rx r ⟨a, xs, y, rfl, rfl, e1, by rw [r1.length]; exact hy, o ι _ e3 s2 _ (.dat (ry.ext e3))⟩
      · exact o.elim
    · exact o.elim
  · rename_i ds i h1 h2
    split at o
    · rename_i n
      split at o
      · rename_i hi
        split at o
        · rename_i j hj
          split at o
          · rename_i d hd
            obtain ⟨a, xs, rfl, ha, hS, e1, r1⟩ := cell_lst st rw' h1
            obtain ⟨z, rfl, oz⟩ := (obsAll_of st rws h2).one
            rw [oz.int] at r
            obtain ⟨y, hy, ry⟩ := r1.get hd
            obtain ⟨s2, e3⟩ := st.setLst ha hS (r1.eraseIdx j)
            exact mt_popAt pins s σ H _ _ v us Q I rx r ⟨a, xs, i, j, y, rfl, rfl, e1, hi.1, hi.2, by rw [r1.length]; exact hj, hy, o ι _ e3 s2 _ (.dat (ry.ext e3))⟩
          · exact o.elim
        · exact o.elim
      · exact o.elim
    · exact o.elim
  · rename_i a z h1 h2
    split at o
    · rename_i hz
      have oa := obs_of st rw' h1
      obtain ⟨y, rfl, oz⟩ := (obsAll_of st rws h2).one
      refine mt_split pins s σ H _ _ v us Q I rx r ⟨a, z, oa.str, by rw [oz.str], hz.1, hz.2, fun q hq => ?_⟩
      exact (Out.got o).lst st (RepAll.ofStrs _) q hq
    · exact o.elim
  · rename_i ks vs' d0 e0 h1 h2
    split at o
    · rename_i d e hd
      split at o
      · rename_i q hq
        obtain ⟨a, xs, rfl, e1, l, r1⟩ := (obs_of st rw' h1).dctO
        have rr := rws.all hd
        cases rr with
        | cons rd rr =>
          cases rr with
          | cons re rr =>
            cases rr
            cases r with
            | cons r2 r =>
              cases r with
              | cons r3 r =>
                cases r
                cases rx
                have gk := keyOf_obs (.dat rd) hq
                refine d_get2 (o := valV (ks.zip xs) q) hu I (by rw [gk]; exact DGet.k e1) r2 r3 fun w' s' I' rw'' => ?_
                cases hv : valD ks vs' q with
                | some d' =>
                  obtain ⟨u, h3, h4⟩ := r1.val hv
                  rw [h3] at rw''
                  rw [hv] at o
                  exact ⟨u, H, I', rw'', o ι H (Ext.refl _ _) st _ (.dat h4)⟩
                | none =>
                  rw [r1.valN hv] at rw''
                  rw [hv] at o
                  exact ⟨_, H, I', rw'', o ι H (Ext.refl _ _) st _ (.dat re)⟩
      · exact o.elim
    · exact o.elim
  · exact o.elim
/-- what follows the method's name, by what the receiver is -/
theorem call_attr {M : Model} {A : Around} {E : Value → Shared → Prop} {o : Expr} {m : Str} {env : Env} {Q : Value → Shared → Prop} (hb : notCall0 o = true) (hs : noStars es = true) (hl : es.length < 30) (hline : (apos.endLine == pos.line) = true)
    (h : wpAny M A (eval o env) (fun ov s1 => wpAny M A (getMethod ov m (do return (← importBound o env).getD true)) (fun fx s2 => wpAny M A (callWith pos fx.1 fx.2 (backTo pos (starEach es env)) (backToKw pos (keywordEach [] env))) Q E s2) E s1) E s) :
    wpAny M A (eval (.Call (.Attribute o m apos) es [] pos) env) Q E s := by
  rw [arm_eval_Call, base_of hb]
  have hform : methodCallForm (es.length + ([] : List Keyword).length) (backTo pos (starEach es env)) (backToKw pos (keywordEach [] env)) = true := by
    unfold methodCallForm
    have e1 : (backTo pos (starEach es env)).all (fun x => !x.1) = true := by
      have := noStar_any (env := env) (pos := pos) hs
      rw [List.any_eq_false] at this
      rw [List.all_eq_true]
      intro x hx
      have := this x hx
      simpa using this
    rw [e1]
    show ((true && true) && decide (es.length + 0 + 0 < 30)) = true
    simpa using hl
  have hpos : methodCallPos true o env apos pos = pure pos := by unfold methodCallPos; simp [hline]
  refine wpAny_bind (wpAny_mono h (fun ov s1 h1 => wpAny_bind (wpAny_standAt ?_)) fun _ _ x => x)
  unfold methodCall calleeOf
  rw [hform, if_pos rfl]
  exact wpAny_bind (wpAny_holding (wpAny_mono h1 (fun fx s2 h2 => wpAny_bind (wpAny_of_eq hpos h2)) fun _ _ x => x))
def sMeth (G : Gam) (T : FnT) (m : Str) (c0 : Sm W) (ca : Sm (List W)) : Sm W := fun ρ S => (c0 ρ S).bind fun w S1 => match derefW S1 w with
  | some (.ins c vs) => match G.clss.lookup c with
    | some ci => match ci.meths.lookup m with
      | some qa => (ca ρ S1).bind fun ws S2 => callT T qa.1 (w :: ws) S2
      | none => .bad
    | none => .bad
  | some d => match bmOf m with
    | some b => if tyD d = b.ty then (ca ρ S1).bind fun ws S2 => dMt b w ws S2 else .bad
    | none => .bad
  | none => .bad
theorem ty_obs {K : PySem.W.Frag} {ι : List Addr} {H : Hp} {x : V} {d : D} (o : Obs K G ι H x d) (h : tyD d ≠ "") : tyV K (tyD d) x H := by
  cases d with
  | lst ds => obtain ⟨a, xs, rfl, h1, _⟩ := o.lstO; exact .inl ⟨rfl, xs, .of h1⟩
  | str z => rw [o.str]; rfl
  | dct ks vs => obtain ⟨a, xs, rfl, h1, _⟩ := o.dctO; exact .inr (.inr (.inl ⟨rfl, .inl ⟨_, h1⟩⟩))
  | dtt ks vs => obtain ⟨a, xs, rfl, h1, _⟩ := o.dttO; exact .inr (.inr (.inl ⟨rfl, .inr ⟨_, h1⟩⟩))
  | _ => exact absurd rfl h
theorem lookup_zipN {m : Str} : ∀ {fs : List Str} {xs : List V}, m ∉ fs → (fs.zip xs).lookup m = none
  | [], _, _ => rfl
  | _ :: _, [], _ => rfl
  | f :: fs, x :: xs, h => by
    rw [List.zip_cons_cons, List.lookup_cons]
    have : (m == f) = false := by
      simp only [beq_eq_false_iff_ne]
      exact fun e => h (by simp [e])
    rw [this]
    exact lookup_zipN fun z => h (List.mem_cons_of_mem _ z)
theorem sd_meth {oe : Expr} {m : Str} {c0 : Sm W} (C : CtxF G X Wx k T) (ho : PE X oe (rdE X.K G Wx c0)) (ha : ∀ e ∈ es, PE X e (rdE X.K G Wx (g e))) (hb : notCall0 oe = true) (hs : noStars es = true) (hl : es.length < 30) (hline : (apos.endLine == pos.line) = true) :
    PE X (.Call (.Attribute oe m apos) es [] pos) (rdE X.K G Wx (sMeth G T m c0 (evs g es))) := by
  refine ⟨fun pins s σ H Q I h => ?_⟩
  refine call_attr hb hs hl hline (thn (ho.run pins s σ H _ I (rd_oneE h)) fun u s1 ⟨x, H1, I1, r1, ι, ρ, S, w, mt, rw', o⟩ => ?_)
  cases hd : derefW S w with
  | none => simp only [hd] at o; exact o.elim
  | some d =>
    have ob := obs_of mt.st rw' hd
    have builtin : Out X.K G ι H1 (fun c d H' => Wx c d σ H') (fun ι' H' _ w => ∀ v, RepW X.K G ι' H' v w → Q v H') (match bmOf m with
        | some b => if tyD d = b.ty then (evs g es ρ S).bind fun ws S2 => dMt b w ws S2 else .bad
        | none => .bad) → wpAny (model X.prog X.w) X.A (getMethod u m (do return (← importBound oe X.env).getD true)) (fun fx s2 => wpAny (model X.prog X.w) X.A (callWith pos fx.1 fx.2 (backTo pos (starEach es X.env)) (backToKw pos (keywordEach [] X.env))) (EP X pins σ Q) X.xe s2) X.xe s1 := fun o => by
      cases hbm : bmOf m with
      | none => rw [hbm] at o; exact o.elim
      | some b =>
        rw [hbm] at o
        simp only at o
        split at o
        · rename_i hty
          obtain ⟨pa, slot, ty⟩ := bm_slot hbm
          have tv := ty_obs ob (by rw [hty]; cases b <;> decide)
          rw [hty] at tv
          obtain ⟨t1, t2⟩ := tyV_is I1 r1 tv
          refine getMethod_builtin t1 pa slot ty t2 ?_
          refine args_runB (first := [u]) ha hs I1 ?_
          refine rdA_mono (rd_argsM mt o) fun xs H2 hh us s2 I2 rv => ?_
          obtain ⟨ι', S', ws, e', st, rws, o'⟩ := hh
          exact run_mt (by have := C.un; omega) I2 r1 rv st (rw'.ext e') rws o'
        · exact o.elim
    cases d with
    | ins c vs =>
      simp only [hd] at o
      obtain ⟨a, ci, dx, xs, rfl, h0, h1, h2, h3⟩ := ob.insO
      simp only [h0] at o
      cases hm : ci.meths.lookup m with
      | none => rw [hm] at o; exact o.elim
      | some qa =>
        obtain ⟨q, f⟩ := qa
        rw [hm] at o
        obtain ⟨M, nf⟩ := C.clf.ms c ci m q f h0 hm
        cases r1
        refine getmeth_ok I1 h1 (C.isf.own c ci h0).1 M (lookup_zipN nf) ?_
        refine args_run (first := [.ref a]) ha hs M.kp I1 ?_
        refine rdA_mono (rd_argsM mt o) fun xs H2 hh us s2 I2 rv => ?_
        obtain ⟨ι', S', ws, e', st, rws, o'⟩ := hh
        exact run_good C (C.fns.meth c ci m q f h0 hm) I2 (vs := .ref a :: xs) (us := .ref a :: us) (.cons rfl rv) st (.cons (rw'.ext e') rws) o'
    | _ => simp only [hd] at o; exact builtin o
end
end EC
namespace EC
open PySem PySem.Spec PyProof.Rows L2
/-- what is walked: known data, or a cell's list as it stands at each turn -/
inductive Src where
  | fix (ds : List D) | cel (n : Nat)
def Src.now (S : Store) : Src → Option (List D)
  | .fix ds => some ds
  | .cel n => match S[n]? with
    | some (.lst ds) => some ds
    | _ => none
def ItOk (K : PySem.W.Frag) (G : Gam) (ι : List Addr) (H : Hp) (src : Src) (J : It) : Prop := ∀ i ι' H' S' ds, Ext ι H ι' H' → StOk K G ι' S' H' → src.now S' = some ds →
  (ds.length ≤ i → J.stop i H') ∧ ∀ d, ds[i]? = some d → J.go i H' ∧ ∀ x H'', J.yld i H' x H'' → Ext ι' H' ι' H'' ∧ StOk K G ι' S' H'' ∧ Rep K G ι' H'' x d
def rdI (K : PySem.W.Frag) (G : Gam) (Wx : WX) (c : Sm Src) : TI := fun σ H R => ∃ ι ρ S, MtE K G ι ρ S σ H ∧ Out K G ι H (fun c d H' => Wx c d σ H') (fun ι' H' _ src => ∀ J, ItOk K G ι' H' src J → R J H') (c ρ S)
section
variable {K : PySem.W.Frag} {G : Gam} {ι : List Addr} {H : Hp} {a : Addr} {xs : List V} {ds : List D}
theorem SqL.one {xs ys : List V} (h : SqL K H a xs) (hb : ∀ o, K.lookup a = some o → H a = none) (e : H a = some (.lst ys)) : xs = ys := by
  rcases h with h | ⟨o, its, n, h, _⟩
  · rcases h with h | ⟨o, h⟩
    · rw [e] at h; cases h; rfl
    · rw [e] at h; cases h
  · rw [hb _ h] at e; cases e
/-- frozen lists and cells: J tells of whatever list stands there -/
theorem it_lst (ha : a ∉ ι) (h : H a = some (.lst xs)) (r : RepAll K G ι H xs ds) : ItOk K G ι H (.fix ds) (Itl K a) := by
  intro i ι' H' S' es e st hn
  cases hn
  have h' := e.keep a _ ha h (fun _ z => by cases z)
  have r' := r.ext e
  refine ⟨fun hi => ⟨xs, .of h', by rw [r.length]; exact hi⟩, fun d hd => ?_⟩
  obtain ⟨v, hv, rv⟩ := r'.get hd
  refine ⟨⟨xs, v, .of h', hv⟩, fun x H'' hy => ?_⟩
  obtain ⟨rfl, hy⟩ := hy
  have := hy xs (.of h')
  rw [hv] at this; cases this
  exact ⟨Ext.refl _ _, st, rv⟩
theorem it_cel {n : Nat} (ha : ι[n]? = some a) : ItOk K G ι H (.cel n) (Itl K a) := by
  intro i ι' H' S' es e st hn
  have hn : (match S'[n]? with
    | some (Cell.lst ds) => some ds
    | _ => none) = some es := hn
  split at hn
  · rename_i ds hS
    cases hn
    have ha' := e.idx ha
    obtain ⟨xs, h', r'⟩ := st.at_ n a _ ha' hS
    refine ⟨fun hi => ⟨xs, .of h', by rw [r'.length]; exact hi⟩, fun d hd => ?_⟩
    obtain ⟨v, hv, rv⟩ := r'.get hd
    refine ⟨⟨xs, v, .of h', hv⟩, fun x H'' hy => ?_⟩
    obtain ⟨rfl, hy⟩ := hy
    have := hy xs (.of h')
    rw [hv] at this; cases this
    exact ⟨Ext.refl _ _, st, rv⟩
  · cases hn
theorem it_scr {ns : List Int} (h : (a ∉ ι ∧ Rd H a (.lst (ns.map V.int))) ∨ KL K a (ns.map V.int)) : ItOk K G ι H (.fix (ns.map .int)) (Itl K a) := by
  intro i ι' H' S' es e st hn
  cases hn
  have h' : SqL K H' a (ns.map V.int) := by
    rcases h with ⟨h1, h2⟩ | h
    · exact .inl (Rd.ext e h1 h2 fun _ z => by cases z).2
    · exact .inr h
  have r' : RepAll K G ι' H' (ns.map V.int) (ns.map .int) := .ofInts ns
  refine ⟨fun hi => ⟨_, h', by rw [r'.length]; exact hi⟩, fun d hd => ?_⟩
  obtain ⟨v, hv, rv⟩ := r'.get hd
  refine ⟨⟨_, v, h', hv⟩, fun x H'' hy => ?_⟩
  obtain ⟨rfl, hy⟩ := hy
  have := hy _ h'
  rw [hv] at this; cases this
  exact ⟨Ext.refl _ _, st, rv⟩
theorem it_tup (ha : a ∉ ι) (h : H a = some (.tup xs)) (r : RepAll K G ι H xs ds) : ItOk K G ι H (.fix ds) (Itt K a) := by
  intro i ι' H' S' es e st hn
  cases hn
  have h' := e.keep a _ ha h (fun _ z => by cases z)
  have r' := r.ext e
  refine ⟨fun hi => ⟨xs, .of h', by rw [r.length]; exact hi⟩, fun d hd => ?_⟩
  obtain ⟨v, hv, rv⟩ := r'.get hd
  refine ⟨⟨xs, v, .of h', hv⟩, fun x H'' hy => ?_⟩
  obtain ⟨rfl, hy⟩ := hy
  have := hy xs (.of h')
  rw [hv] at this; cases this
  exact ⟨Ext.refl _ _, st, rv⟩
theorem it_kup (h : KT K a xs) (r : RepAll K G ι H xs ds) : ItOk K G ι H (.fix ds) (Itt K a) := by
  intro i ι' H' S' es e st hn
  cases hn
  have h' : SqT K H' a xs := .inr h
  have r' := r.ext e
  refine ⟨fun hi => ⟨xs, h', by rw [r.length]; exact hi⟩, fun d hd => ?_⟩
  obtain ⟨v, hv, rv⟩ := r'.get hd
  refine ⟨⟨xs, v, h', hv⟩, fun x H'' hy => ?_⟩
  obtain ⟨rfl, hy⟩ := hy
  have := hy xs h'
  rw [hv] at this; cases this
  exact ⟨Ext.refl _ _, st, rv⟩
def strD (z : Str) : List D := z.cps.toList.map fun c => .str ⟨#[c]⟩
theorem it_str (z : Str) : ItOk K G ι H (.fix (strD z)) (Its z) := by
  intro i ι' H' S' es e st hn
  cases hn
  refine ⟨fun hi => by unfold strD at hi; rw [List.length_map, Array.length_toList] at hi; exact hi, fun d hd => ?_⟩
  unfold strD at hd
  rw [List.getElem?_map, Array.getElem?_toList] at hd
  cases hc : z.cps[i]? with
  | none => rw [hc] at hd; cases hd
  | some c =>
    rw [hc] at hd
    cases hd
    refine ⟨(Array.getElem?_eq_some_iff.mp hc).1, fun x H'' hy => ?_⟩
    obtain ⟨rfl, c', hc', rfl⟩ := hy
    rw [hc] at hc'; cases hc'
    exact ⟨Ext.refl _ _, st, .str _⟩
def rngD (lo : Int) (n : Nat) : List D := (List.range n).map fun i => .int (lo + (i : Nat))
theorem it_rng (lo : Int) (n : Nat) : ItOk K G ι H (.fix (rngD lo n)) (Itr lo n) := by
  intro i ι' H' S' es e st hn
  cases hn
  refine ⟨fun hi => by unfold rngD at hi; rw [List.length_map, List.length_range] at hi; exact hi, fun d hd => ?_⟩
  unfold rngD at hd
  rw [List.getElem?_map] at hd
  by_cases hi : i < n
  · rw [List.getElem?_range hi] at hd
    cases hd
    refine ⟨hi, fun x H'' hy => ?_⟩
    obtain ⟨rfl, rfl⟩ := hy
    exact ⟨Ext.refl _ _, st, .int _⟩
  · rw [List.getElem?_eq_none (by rw [List.length_range]; omega)] at hd
    cases hd
def zipD : List D → List D → List D
  | x :: xs, y :: ys => .tup [x, y] :: zipD xs ys
  | _, _ => []
theorem zipD_length : ∀ xs ys : List D, (zipD xs ys).length = min xs.length ys.length
  | [], _ => by simp [zipD]
  | _ :: _, [] => by simp [zipD]
  | _ :: xs, _ :: ys => by rw [zipD, List.length_cons, zipD_length xs ys, List.length_cons, List.length_cons]; omega
theorem zipD_get : ∀ {xs ys : List D} {i : Nat} {d : D}, (zipD xs ys)[i]? = some d → ∃ x y, xs[i]? = some x ∧ ys[i]? = some y ∧ d = .tup [x, y]
  | [], _, _, _, h => by simp [zipD] at h
  | _ :: _, [], _, _, h => by simp [zipD] at h
  | x :: xs, y :: ys, 0, d, h => by simp [zipD] at h; exact ⟨x, y, rfl, rfl, h.symm⟩
  | x :: xs, y :: ys, i + 1, d, h => by
    rw [zipD, List.getElem?_cons_succ] at h
    obtain ⟨a, b, h1, h2, h3⟩ := zipD_get h
    exact ⟨a, b, by simpa using h1, by simpa using h2, h3⟩
theorem it_zipL {b : Addr} {ys : List V} {es : List D} (ha : a ∉ ι) (h : H a = some (.lst xs)) (r : RepAll K G ι H xs ds) (hb : b ∉ ι) (h2 : H b = some (.lst ys)) (r2 : RepAll K G ι H ys es) : ItOk K G ι H (.fix (zipD ds es)) (Itz K a b) := by
  intro i ι' H' S' fs e st hn
  cases hn
  have h' := e.keep a _ ha h (fun _ z => by cases z)
  have h2' := e.keep b _ hb h2 (fun _ z => by cases z)
  have r' := r.ext e
  have r2' := r2.ext e
  refine ⟨fun hi => ⟨xs, ys, .of h', .of h2', by rw [r.length, r2.length]; rw [zipD_length] at hi; omega⟩, fun d hd => ?_⟩
  obtain ⟨p, q, e1, e2, rfl⟩ := zipD_get hd
  obtain ⟨v, hv, rv⟩ := r'.get e1
  obtain ⟨u, hu, ru⟩ := r2'.get e2
  refine ⟨⟨xs, ys, v, u, .of h', .of h2', hv, hu⟩, fun x H'' hy => ?_⟩
  obtain ⟨T, x', y', rfl, hT, rfl, f1, f2⟩ := hy
  have := f1 xs (.of h')
  rw [hv] at this; cases this
  have := f2 ys (.of h2')
  rw [hu] at this; cases this
  exact ⟨Ext.new hT, st.new hT, .tup (fresh_out st hT) upd_same (.cons (rv.ext (Ext.new hT)) (.cons (ru.ext (Ext.new hT)) .nil))⟩
theorem it_zipT {b : Addr} {ys : List V} {es : List D} (ha : a ∉ ι) (h : H a = some (.tup xs)) (r : RepAll K G ι H xs ds) (hb : b ∉ ι) (h2 : H b = some (.tup ys)) (r2 : RepAll K G ι H ys es) : ItOk K G ι H (.fix (zipD ds es)) (RZ.ItzT K a b) := by
  intro i ι' H' S' fs e st hn
  cases hn
  have h' := e.keep a _ ha h (fun _ z => by cases z)
  have h2' := e.keep b _ hb h2 (fun _ z => by cases z)
  have r' := r.ext e
  have r2' := r2.ext e
  refine ⟨fun hi => ⟨xs, ys, .of h', .of h2', by rw [r.length, r2.length]; rw [zipD_length] at hi; omega⟩, fun d hd => ?_⟩
  obtain ⟨p, q, e1, e2, rfl⟩ := zipD_get hd
  obtain ⟨v, hv, rv⟩ := r'.get e1
  obtain ⟨u, hu, ru⟩ := r2'.get e2
  refine ⟨⟨xs, ys, v, u, .of h', .of h2', hv, hu⟩, fun x H'' hy => ?_⟩
  obtain ⟨T, x', y', rfl, hT, rfl, f1, f2⟩ := hy
  have := f1 xs (.of h')
  rw [hv] at this; cases this
  have := f2 ys (.of h2')
  rw [hu] at this; cases this
  exact ⟨Ext.new hT, st.new hT, .tup (fresh_out st hT) upd_same (.cons (rv.ext (Ext.new hT)) (.cons (ru.ext (Ext.new hT)) .nil))⟩
end
def srcOf (w : W) (S : Store) : Res Src := match w with
  | .cell n => match S[n]? with
    | some (.lst _) => .ok (.cel n) S
    | _ => .bad
  | .dat (.lst ds) => .ok (.fix ds) S
  | .dat (.tup ds) => .ok (.fix ds) S
  | .dat (.kup ds) => .ok (.fix ds) S
  | .dat (.str z) => .ok (.fix (strD z)) S
  | .dat (.scr ns) => .ok (.fix (ns.map .int)) S
  | _ => .bad
def sIter (c : Sm W) : Sm Src := fun ρ S => (c ρ S).bind fun w S1 => srcOf w S1
def rngOf1 (ws : List W) (S : Store) : Res Src := match ws with
  | [.dat (.int j)] => if -(2 ^ 62) ≤ j ∧ j < 2 ^ 62 then .ok (.fix (rngD 0 j.toNat)) S else .bad
  | _ => .bad
def rngOf2 (ws : List W) (S : Store) : Res Src := match ws with
  | [.dat (.int i), .dat (.int j)] => if -(2 ^ 62) ≤ i ∧ i < 2 ^ 62 ∧ -(2 ^ 62) ≤ j ∧ j < 2 ^ 62 then .ok (.fix (rngD i (j - i).toNat)) S else .bad
  | _ => .bad
def sRng1 (c : Sm (List W)) : Sm Src := fun ρ S => (c ρ S).bind fun ws S1 => rngOf1 ws S1
def sRng2 (c : Sm (List W)) : Sm Src := fun ρ S => (c ρ S).bind fun ws S1 => rngOf2 ws S1
def zipOf (ws : List W) (S : Store) : Res Src := match ws with
  | [.dat (.lst ds), .dat (.lst es)] => .ok (.fix (zipD ds es)) S
  | [.dat (.tup ds), .dat (.tup es)] => .ok (.fix (zipD ds es)) S
  | _ => .bad
def sZip (c : Sm (List W)) : Sm Src := fun ρ S => (c ρ S).bind fun ws S1 => zipOf ws S1
section
variable {X : Cx} {G : Gam} {Wx : WX} {k : Nat} {T : FnT} {pos p : Pos} {tg e : Expr} {c : Sm W}
theorem si_any (he : PE X e (rdE X.K G Wx c)) : PI X tg e (rdI X.K G Wx (sIter c)) := by
  refine ⟨fun pins s σ H R I h => ?_⟩
  obtain ⟨ι, ρ, S, m, o⟩ := h
  have o' := o.bind
  cases hc : c ρ S with
  | bad => unfold sIter at o; rw [hc] at o; exact o.elim
  | ex c' fs S1 =>
    unfold sIter at o; rw [hc] at o
    exact (pi_list he).run pins s σ H R I ⟨ι, ρ, S, m, by rw [hc]; exact o⟩
  | ok w S1 =>
    unfold sIter at o; rw [hc] at o
    simp only [Res.bind_ok] at o
    have go : ∀ {Q : VK}, (∀ ι' H', Ext ι H ι' H' → StOk X.K G ι' S1 H' → ∀ v, RepW X.K G ι' H' v w → Q v H') → rdE X.K G Wx c σ H Q := fun hq => ⟨ι, ρ, S, m, by rw [hc]; exact hq⟩
    unfold srcOf at o
    split at o
    · rename_i n
      split at o
      · refine (pi_list he).run pins s σ H R I (go fun ι' H' e st v r => ?_)
        rename_i ds0 hS
        cases r with
        | cell ha =>
          obtain ⟨xs, h1, _⟩ := st.at_ _ _ _ ha hS
          exact ⟨_, rfl, ⟨xs, .of h1⟩, o ι' H' e st _ (it_cel ha)⟩
      · exact o.elim
    · refine (pi_list he).run pins s σ H R I (go fun ι' H' e st v r => ?_)
      cases r with
      | dat r => cases r with | lst h1 h2 h3 => exact ⟨_, rfl, ⟨_, .of h2⟩, o ι' H' e st _ (it_lst h1 h2 h3)⟩
    · refine (pi_tup he).run pins s σ H R I (go fun ι' H' e st v r => ?_)
      cases r with
      | dat r => cases r with | tup h1 h2 h3 => exact ⟨_, rfl, ⟨_, .of h2⟩, o ι' H' e st _ (it_tup h1 h2 h3)⟩
    · refine (pi_tup he).run pins s σ H R I (go fun ι' H' e st v r => ?_)
      cases r with
      | dat r => cases r with | kup h1 h3 => exact ⟨_, rfl, ⟨_, .inr h1⟩, o ι' H' e st _ (it_kup h1 h3)⟩
    · refine (pi_str he).run pins s σ H R I (go fun ι' H' e st v r => ?_)
      cases r with
      | dat r => cases r; exact ⟨_, rfl, o ι' H' e st _ (it_str _)⟩
    · refine (pi_list he).run pins s σ H R I (go fun ι' H' e st v r => ?_)
      cases r with
      | dat r => cases r with | scr h1 => exact ⟨_, rfl, ⟨_, h1.imp And.right id⟩, o ι' H' e st _ (it_scr h1)⟩
    · exact o.elim
theorem rdI_args {K : PySem.W.Frag} {σ : L2.St} {H : Hp} {c1 : Sm (List W)} {f : List W → Store → Res Src} {R : It → Hp → Prop} (h : rdI K G Wx (fun ρ S => (c1 ρ S).bind fun ws S1 => f ws S1) σ H R) :
    rdA K G Wx c1 σ H fun xs H1 => ∃ ι S ws, StOk K G ι S H1 ∧ RepWs K G ι H1 xs ws ∧ Out K G ι H1 (fun c d H' => Wx c d σ H') (fun ι' H' _ src => ∀ J, ItOk K G ι' H' src J → R J H') (f ws S) := by
  obtain ⟨ι, ρ, S, m, o⟩ := h
  exact ⟨ι, ρ, S, m, o.bind.imp fun ι1 H1 S1 w1 e1 s1 o1 x rx => ⟨ι1, S1, w1, s1, rx, o1⟩⟩
variable {a b : Expr} {g : Expr → Sm W}
theorem si_rng1 (C : Ctx G X Wx) (ha : ∀ e ∈ [a], PE X e (rdE X.K G Wx (g e))) (hs : noStars [a] = true) (hg : glbB X.env.scope ("range" : Str) = true) : PI X tg (.Call (.Name "range" p) [a] [] pos) (rdI X.K G Wx (sRng1 (evs g [a]))) := by
  have hp := sd_args [a] ha
  unfold noStars at hs
  rw [List.all_cons, Bool.and_eq_true] at hs
  have r := pi_range1 (tg := tg) (p := p) (pos := pos) (glbB_iff hg) (C.bi _ (by decide +kernel)) hp (starEach_cons hs.1)
  refine ⟨fun pins s σ H R I h => r.run pins s σ H R I (rdA_mono (rdI_args h) fun xs H1 hh => ?_)⟩
  obtain ⟨ι, S, ws, st, rws, o⟩ := hh
  unfold rngOf1 at o
  split at o
  · rename_i j
    cases rws with
    | cons r1 rws =>
      cases rws
      cases r1 with
      | dat r1 =>
        cases r1
        split at o
        · rename_i hj
          exact ⟨j, rfl, hj.1, hj.2, o ι H1 (Ext.refl _ _) st _ (it_rng 0 j.toNat)⟩
        · exact o.elim
  · exact o.elim
theorem si_rng2 (C : Ctx G X Wx) (ha : ∀ e ∈ [a, b], PE X e (rdE X.K G Wx (g e))) (hs : noStars [a, b] = true) (hg : glbB X.env.scope ("range" : Str) = true) : PI X tg (.Call (.Name "range" p) [a, b] [] pos) (rdI X.K G Wx (sRng2 (evs g [a, b]))) := by
  have hp := sd_args [a, b] ha
  unfold noStars at hs
  rw [List.all_cons, List.all_cons, Bool.and_eq_true, Bool.and_eq_true] at hs
  have r := pi_range2 (tg := tg) (p := p) (pos := pos) (glbB_iff hg) (C.bi _ (by decide +kernel)) hp (by rw [starEach_cons hs.1, starEach_cons hs.2.1]; rfl) (by rw [starEach_cons hs.2.1]; rfl)
  refine ⟨fun pins s σ H R I h => r.run pins s σ H R I (rdA_mono (rdI_args h) fun xs H1 hh => ?_)⟩
  obtain ⟨ι, S, ws, st, rws, o⟩ := hh
  unfold rngOf2 at o
  split at o
  · rename_i i j
    cases rws with
    | cons r1 rws =>
      cases rws with
      | cons r2 rws =>
        cases rws
        cases r1 with
        | dat r1 =>
          cases r2 with
          | dat r2 =>
            cases r1; cases r2
            split at o
            · rename_i hj
              exact ⟨i, j, rfl, hj, o ι H1 (Ext.refl _ _) st _ (it_rng i (j - i).toNat)⟩
            · exact o.elim
  · exact o.elim
theorem si_zip {es : List Expr} {kk : Nat} {tp : Pos} (C : Ctx G X Wx) (ha : ∀ e ∈ [a, b], PE X e (rdE X.K G Wx (g e))) (hs : noStars [a, b] = true) (hg : glbB X.env.scope ("zip" : Str) = true) : PI X (.Tuple es kk tp) (.Call (.Name "zip" p) [a, b] [] pos) (rdI X.K G Wx (sZip (evs g [a, b]))) := by
  have hp := sd_args [a, b] ha
  have hs0 := hs
  unfold noStars at hs
  rw [List.all_cons, List.all_cons, Bool.and_eq_true, Bool.and_eq_true] at hs
  have r := RZ.pi_zipA (elts := es) (kk := kk) (tpos := tp) (p := p) (pos := pos) (glbB_iff hg) (C.bi _ (by decide +kernel)) hp (starEach_cons hs.1) (noStar_any (by unfold noStars; rw [List.all_cons, hs.2.1]; rfl))
  refine ⟨fun pins s σ H R I h => r.run pins s σ H R I (rdA_mono (rdI_args h) fun xs H1 hh => ?_)⟩
  obtain ⟨ι, S, ws, st, rws, o⟩ := hh
  unfold zipOf at o
  split at o
  · cases rws with
    | cons r1 rws =>
      cases rws with
      | cons r2 rws =>
        cases rws
        cases r1 with
        | dat r1 =>
          cases r2 with
          | dat r2 =>
            cases r1 with
            | lst h1 h2 h3 =>
              cases r2 with
              | lst k1 k2 k3 => exact ⟨_, _, _, _, rfl, .inl ⟨.of h2, .of k2, o ι H1 (Ext.refl _ _) st _ (it_zipL h1 h2 h3 k1 k2 k3)⟩⟩
  · cases rws with
    | cons r1 rws =>
      cases rws with
      | cons r2 rws =>
        cases rws
        cases r1 with
        | dat r1 =>
          cases r2 with
          | dat r2 =>
            cases r1 with
            | tup h1 h2 h3 =>
              cases r2 with
              | tup k1 k2 k3 => exact ⟨_, _, _, _, rfl, .inr ⟨.of h2, .of k2, o ι H1 (Ext.refl _ _) st _ (it_zipT h1 h2 h3 k1 k2 k3)⟩⟩
  · exact o.elim
end
end EC
namespace EC
open PySem PySem.Spec PyProof.Rows L2
def locB (cells : Bool) (sc : Scope) (x : Str) : Bool := match sc.names.lookup x with
  | some .local => true
  | some .cell => cells
  | _ => false
def setN (cells : Bool) (N : List Str) (sc : Scope) (x : Str) (w : W) (ρ : Env0') : Option Env0' := if locB cells sc x then match ixOf x N with
  | some i => some (ρ.set i (some w))
  | none => none
  else none
def setNs (cells : Bool) (N : List Str) (sc : Scope) : List Expr → List W → Env0' → Option Env0'
  | [], [], ρ => some ρ
  | .Name x _ :: es, w :: ws, ρ => match setN cells N sc x w ρ with
    | some ρ' => setNs cells N sc es ws ρ'
    | none => none
  | _, _, _ => none
def setT (cells : Bool) (N : List Str) (sc : Scope) (e : Expr) (w : W) (ρ : Env0') : Option Env0' := match e with
  | .Name x _ => setN cells N sc x w ρ
  | .Tuple es _ _ => match w with
    | .dat (.tup ds) => setNs cells N sc es (ds.map .dat) ρ
    | _ => none
  | _ => none
/-- the places that a target sets -/
def nmIx (N : List Str) : Expr → Option Nat
  | .Name x _ => ixOf x N
  | _ => none
def tgIx (N : List Str) : Expr → List Nat
  | .Name x _ => (ixOf x N).toList
  | .Tuple es _ _ => es.filterMap (nmIx N)
  | _ => []
def Same (is : List Nat) (σ σ' : L2.St) : Prop := σ'.length = σ.length ∧ ∀ j, j ∉ is → σ'[j]? = σ[j]?
theorem Same.refl (is : List Nat) (σ : L2.St) : Same is σ σ := ⟨rfl, fun _ _ => rfl⟩
theorem Same.trans {is : List Nat} {a b c : L2.St} (h : Same is a b) (k : Same is b c) : Same is a c := ⟨k.1.trans h.1, fun j hj => (k.2 j hj).trans (h.2 j hj)⟩
theorem Same.sub {is js : List Nat} {a b : L2.St} (h : Same is a b) (k : ∀ i ∈ is, i ∈ js) : Same js a b := ⟨h.1, fun j hj => h.2 j fun z => hj (k j z)⟩
theorem Same.set {σ : L2.St} (i : Nat) (v : Option V) : Same [i] σ (σ.set i v) := ⟨by simp, fun j hj => by rw [List.getElem?_set_ne (by simpa using fun e => hj (by simp [e]))]⟩
def rdG (K : PySem.W.Frag) (G : Gam) (is : List Nat) (f : W → Env0' → Option Env0') : TG := fun v σ H Q => ∃ ι ρ S w ρ', MtE K G ι ρ S σ H ∧ RepW K G ι H v w ∧ f w ρ = some ρ' ∧ ∀ σ', Same is σ σ' → MtE K G ι ρ' S σ' H → Q σ' H
def rdGs (K : PySem.W.Frag) (G : Gam) (is : List Nat) (f : List W → Env0' → Option Env0') : TGs := fun vs σ H Q => ∃ ι ρ S ws ρ', MtE K G ι ρ S σ H ∧ RepWs K G ι H vs ws ∧ f ws ρ = some ρ' ∧ ∀ σ', Same is σ σ' → MtE K G ι ρ' S σ' H → Q σ' H
section
variable {X : Cx} {G : Gam} {pos : Pos} {cells : Bool}
theorem MtE.set {K : PySem.W.Frag} {ι : List Addr} {ρ : Env0'} {S : Store} {σ : L2.St} {H : Hp} {v : V} {w : W} (m : MtE K G ι ρ S σ H) (r : RepW K G ι H v w) (i : Nat) : MtE K G ι (ρ.set i (some w)) S (σ.set i (some v)) H := ⟨m.env.set r i, m.st⟩
/-- names that sc tells own are own here -/
def LocOk (X : Cx) (cells : Bool) (sc : Scope) : Prop := ∀ x, locB cells sc x = true → Loc X.env.scope x ∧ (X.fn x = true ∨ X.env.scope.names.lookup x = some .local)
theorem locOk_own (hf : cells = true → ∀ x, X.env.scope.names.lookup x = some .cell → X.fn x = true) : LocOk X cells X.env.scope := fun x hl => by
  unfold locB at hl
  split at hl
  · exact ⟨.inl (by assumption), .inr (by assumption)⟩
  · exact ⟨.inr (by assumption), .inl (hf hl x (by assumption))⟩
  · cases hl
theorem locOk_blk {s : Shared} {H : Hp} {C : Addr} {cl : List (Str × Addr)} {fp : List Addr} {scope : Scope} : LocOk (X.blk s H scope (compEnvC scope cl C X.env) fp) true scope := fun x hl => by
  unfold locB at hl
  split at hl
  · rename_i h
    have e : (relS scope X.env.scope).names.lookup x = some .local := lookup_relS_keep (by decide) h
    exact ⟨.inl e, .inr e⟩
  · rename_i h
    have e : (relS scope X.env.scope).names.lookup x = some .cell := lookup_relS_keep (by decide) h
    exact ⟨.inr e, .inl (by show (scope.names.lookup x == some .cell) = true; rw [h]; rfl)⟩
  · cases hl
theorem sg_name {x : Str} (hN : X.N.Nodup) {sc : Scope} (hf : LocOk X cells sc) : PG X (.Name x pos) (rdG X.K G (tgIx X.N (.Name x pos)) (setN cells X.N sc x)) := by
  by_cases hl : locB cells sc x = true
  · cases hi : ixOf x X.N with
    | none => exact ⟨fun pins s σ H v u Q I r h => by
        obtain ⟨ι, ρ, S, w, ρ', m, rw', hs, q⟩ := h
        unfold setN at hs; rw [if_pos hl, hi] at hs; cases hs⟩
    | some i =>
      have hx := hf x hl
      have p := pg_name (pos := pos) hN (ixOf_get hi) hx.1 hx.2
      refine ⟨fun pins s σ H v u Q I r h => p.run pins s σ H v u Q I r ?_⟩
      obtain ⟨ι, ρ, S, w, ρ', m, rw', hs, q⟩ := h
      unfold setN at hs; rw [if_pos hl, hi] at hs; cases hs
      refine q _ ?_ (m.set rw' i)
      show Same ((ixOf x X.N).toList) _ _
      rw [hi]
      exact Same.set i _
  · exact ⟨fun pins s σ H v u Q I r h => by
      obtain ⟨ι, ρ, S, w, ρ', m, rw', hs, q⟩ := h
      unfold setN at hs; rw [if_neg hl] at hs; cases hs⟩
theorem tg_cons {x : Str} {p : Pos} {es : List Expr} {k : Nat} {tp : Pos} {N : List Str} : tgIx N (.Tuple (.Name x p :: es) k tp) = (ixOf x N).toList ++ tgIx N (.Tuple es k tp) := by
  show List.filterMap (nmIx N) (Expr.Name x p :: es) = (ixOf x N).toList ++ List.filterMap (nmIx N) es
  rw [List.filterMap_cons]
  have : nmIx N (.Name x p) = ixOf x N := rfl
  rw [this]
  cases h : ixOf x N <;> simp [h]
def isName : Expr → Bool
  | .Name .. => true
  | _ => false
theorem sgs_names (hN : X.N.Nodup) {sc : Scope} (hf : LocOk X cells sc) {k : Nat} {tp : Pos} : ∀ (es : List Expr), es.all isName = true → PGs X es (rdGs X.K G (tgIx X.N (.Tuple es k tp)) (setNs cells X.N sc es))
  | [], _ => ⟨fun pins s σ H vs us Q I r h => pgs_nil.run pins s σ H vs us Q I r (by
      obtain ⟨ι, ρ, S, ws, ρ', m, rw', hs, q⟩ := h
      cases rw' with
      | nil => unfold setNs at hs; cases hs; exact ⟨rfl, q σ (Same.refl _ _) m⟩
      | cons _ _ => unfold setNs at hs; cases hs)⟩
  | e :: es, he => by
    rw [List.all_cons, Bool.and_eq_true] at he
    cases e with
    | Name x p =>
      have h2 := pgs_cons (sg_name (G := G) (cells := cells) (x := x) (pos := p) hN hf) (sgs_names hN hf (k := k) (tp := tp) es he.2) (by rfl)
      refine ⟨fun pins s σ H vs us Q I r h => h2.run pins s σ H vs us Q I r ?_⟩
      obtain ⟨ι, ρ, S, ws, ρ', m, rw', hs, q⟩ := h
      cases rw' with
      | nil => unfold setNs at hs; cases hs
      | @cons v vs w ws r1 rs =>
        unfold setNs at hs
        cases h1 : setN cells X.N sc x w ρ with
        | none => rw [h1] at hs; cases hs
        | some ρ1 =>
          rw [h1] at hs
          refine ⟨v, vs, rfl, ι, ρ, S, w, ρ1, m, r1, h1, fun σ1 sm1 m1 => ⟨ι, ρ1, S, ws, ρ', m1, rs, hs, fun σ2 sm2 m2 => q σ2 ?_ m2⟩⟩
          rw [tg_cons]
          exact (sm1.sub fun i hi => List.mem_append_left _ hi).trans (sm2.sub fun i hi => List.mem_append_right _ hi)
    | _ => cases he.1
theorem assignEach_names {env : Env} : ∀ (es : List Expr), es.all isName = true → (assignEach es env).length = es.length ∧ (assignEach es env).findIdx? (·.1) = none
  | [], _ => ⟨rfl, rfl⟩
  | e :: es, h => by
    rw [List.all_cons, Bool.and_eq_true] at h
    obtain ⟨h1, h2⟩ := assignEach_names (env := env) es h.2
    cases e with
    | Name x p =>
      refine ⟨by show (assignEach es env).length + 1 = _; rw [h1]; rfl, ?_⟩
      show List.findIdx? _ ((false, _) :: assignEach es env) = none
      rw [List.findIdx?_cons]
      simp [h2]
    | _ => cases h.1
theorem RepAll.ws {K : PySem.W.Frag} {ι : List Addr} {H : Hp} : ∀ {vs : List V} {ds : List D}, RepAll K G ι H vs ds → RepWs K G ι H vs (ds.map .dat)
  | _, _, .nil => .nil
  | _, _, .cons r t => .cons (.dat r) (RepAll.ws t)
theorem setNs_length {N : List Str} {sc : Scope} : ∀ {es : List Expr} {ws : List W} {ρ ρ' : Env0'}, setNs cells N sc es ws ρ = some ρ' → es.length = ws.length
  | [], [], _, _, _ => rfl
  | .Name x p :: es, w :: ws, ρ, ρ', h => by
    unfold setNs at h
    split at h
    · rw [List.length_cons, List.length_cons, setNs_length h]
    · cases h
  | [], _ :: _, _, _, h => by simp [setNs] at h
  | .Name x p :: es, [], _, _, h => by simp [setNs] at h
theorem sg_tup {es : List Expr} {k : Nat} (hN : X.N.Nodup) {sc : Scope} (hf : LocOk X cells sc) (hc : X.calm = true) (he : es.all isName = true) : PG X (.Tuple es k pos) (rdG X.K G (tgIx X.N (.Tuple es k pos)) (setT cells X.N sc (.Tuple es k pos))) := by
  obtain ⟨a1, a2⟩ := assignEach_names (env := X.env) es he
  have p := pg_tup (k := k) (pos := pos) hc (sgs_names (G := G) (cells := cells) (k := k) (tp := pos) hN hf es he) a1 a2
  refine ⟨fun pins s σ H v u Q I r h => p.run pins s σ H v u Q I r ?_⟩
  obtain ⟨ι, ρ, S, w, ρ', m, rw', hs, q⟩ := h
  unfold setT at hs
  simp only at hs
  split at hs
  · rename_i ds
    cases rw' with
    | dat rw' =>
      cases rw' with
      | @tup a xs _ h1 h2 h3 =>
        have hl := setNs_length hs
        rw [List.length_map] at hl
        exact ⟨a, xs, rfl, .of h2, by rw [h3.length, hl], ι, ρ, S, _, ρ', m, h3.ws, hs, q⟩
  · cases hs
def okTgt : Expr → Bool
  | .Name .. => true
  | .Tuple es _ _ => es.all isName
  | _ => false
theorem sg_any {e : Expr} (hN : X.N.Nodup) {sc : Scope} (hf : LocOk X cells sc) (hc : X.calm = true) (he : okTgt e = true) : PG X e (rdG X.K G (tgIx X.N e) (setT cells X.N sc e)) := by
  cases e with
  | Name x p => exact sg_name hN hf
  | Tuple es k p => exact sg_tup hN hf hc he
  | _ => cases he
end
def wipeE (ρ : Env0') : List Nat → Env0'
  | [] => ρ
  | v :: vs => (wipeE ρ vs).set v none
theorem wipeE_some {ρ : Env0'} {i : Nat} {x : W} : ∀ {vs : List Nat}, (wipeE ρ vs)[i]? = some (some x) → ρ[i]? = some (some x) ∧ i ∉ vs
  | [], h => ⟨h, by simp⟩
  | v :: vs, h => by
    unfold wipeE at h
    by_cases hi : v = i
    · subst hi
      by_cases hv : v < (wipeE ρ vs).length
      · rw [List.getElem?_set_self hv] at h; cases h
      · rw [List.getElem?_eq_none (by simpa using hv)] at h; cases h
    · rw [List.getElem?_set_ne hi] at h
      obtain ⟨h1, h2⟩ := wipeE_some h
      exact ⟨h1, by simp only [List.mem_cons, not_or]; exact ⟨fun e => hi e.symm, h2⟩⟩
theorem wipeE_length (ρ : Env0') : ∀ vs : List Nat, (wipeE ρ vs).length = ρ.length
  | [] => rfl
  | v :: vs => by unfold wipeE; rw [List.length_set, wipeE_length ρ vs]
theorem wipe_get {σ : L2.St} {i : Nat} : ∀ {vs : List Nat}, i ∉ vs → (wipe σ vs)[i]? = σ[i]?
  | [], _ => rfl
  | v :: vs, h => by
    unfold wipe
    rw [List.getElem?_set_ne (fun e => h (by simp [e])), wipe_get fun z => h (List.mem_cons_of_mem _ z)]
theorem wipe_in {σ : L2.St} {i : Nat} : ∀ {vs : List Nat}, i ∈ vs → i < σ.length → (wipe σ vs)[i]? = some none
  | v :: vs, h, hl => by
    unfold wipe
    by_cases e : v = i
    · subst e; rw [List.getElem?_set_self (by rw [wipe_length]; exact hl)]
    · rw [List.getElem?_set_ne e]
      rcases List.mem_cons.mp h with h | h
      · exact absurd h.symm e
      · exact wipe_in h hl
theorem wipe_same {σ σ' : L2.St} {vs : List Nat} (h : Same vs σ σ') : wipe σ' vs = wipe σ vs := by
  refine List.ext_getElem? fun i => ?_
  by_cases hi : i ∈ vs
  · by_cases hl : i < σ.length
    · rw [wipe_in hi hl, wipe_in hi (by rw [h.1]; exact hl)]
    · rw [List.getElem?_eq_none (by rw [wipe_length, h.1]; omega), List.getElem?_eq_none (by rw [wipe_length]; omega)]
  · rw [wipe_get hi, wipe_get hi, h.2 i hi]
theorem wipe_wipe {σ : L2.St} {vs : List Nat} : wipe (wipe σ vs) vs = wipe σ vs := wipe_same ⟨wipe_length σ vs, fun j hj => wipe_get hj⟩
theorem EnvOk.wipe {K : PySem.W.Frag} {G : Gam} {ι : List Addr} {H : Hp} {ρ : Env0'} {σ : L2.St} (h : EnvOk K G ι H ρ σ) (vs : List Nat) : EnvOk K G ι H (wipeE ρ vs) (L2.wipe σ vs) := by
  refine ⟨by rw [wipeE_length, wipe_length, h.len], fun i w e => ?_⟩
  obtain ⟨h1, h2⟩ := wipeE_some e
  obtain ⟨v, h3, h4⟩ := h.at_ i w h1
  exact ⟨v, by rw [wipe_get h2]; exact h3, h4⟩
/-- the block's own names, with their places -/
def ownOf (N : List Str) (scope : Scope) : List (Str × Nat) := scope.names.filterMap fun y => match y.2 with
  | .local => (ixOf y.1 N).map fun i => (y.1, i)
  | .cell => (ixOf y.1 N).map fun i => (y.1, i)
  | _ => none
def noWx : WX := fun _ _ _ _ => False
theorem CtxF.blk {G : Gam} {X : Cx} {Wx : WX} {k : Nat} {T : FnT} (C : CtxF G X Wx k T) {s : Shared} {H : Hp} {scope : Scope} {cenv : Env} {fp : List Addr} : CtxF G (X.blk s H scope cenv fp) noWx k T :=
  { calm := C.calm, nd := C.nd, tk := L2.takes0, un := C.un, bi := C.bi, gfn := C.gfn, gcl := C.gcl, gco := C.gco, isf := C.isf, clf := C.clf, room := C.room, roomX := C.roomX, fns := C.fns, low := C.low }
def Res.noEx {α : Type} : Res α → Res α
  | .ok a S => .ok a S
  | _ => .bad
theorem Src.now_app {S S' : Store} {src : Src} {ds : List D} (h : src.now S = some ds) : src.now (S ++ S') = some ds := by
  cases src with
  | fix es => exact h
  | cel n =>
    have h : (match S[n]? with | some (Cell.lst ds) => some ds | _ => none) = some ds := h
    show (match (S ++ S')[n]? with | some (Cell.lst ds) => some ds | _ => none) = some ds
    split at h
    · rename_i es hS
      rw [List.getElem?_append_left (List.getElem?_eq_some_iff.mp hS).1, hS]
      exact h
    · cases h
/-- one turn: the item, what there is of the new list, the store -/
def lcT (tgt : W → Env0' → Option Env0') (t : Sm Bool) (e : Sm W) (ρw : Env0') (d : D) (acc : List D) (S : Store) : Res (List D) := match tgt (.dat d) ρw with
  | none => .bad
  | some ρ1 => (t ρ1 (S ++ [.lst acc])).noEx.bind fun b S1 => if b = true then (e ρ1 S1).noEx.bind fun w S2 => match w with
      | .dat z => match S2[S.length]? with
        | some (.lst acc2) => if acc2.length < sizeLine then .ok (acc2 ++ [z]) (S2.take S.length) else .bad
        | _ => .bad
      | _ => .bad
    else match S1[S.length]? with
      | some (.lst acc2) => .ok acc2 (S1.take S.length)
      | _ => .bad
def lcN (src : Src) (turn : D → List D → Store → Res (List D)) : Nat → Nat → List D → Store → Res (List D)
  | 0, _, _, _ => .bad
  | f + 1, i, acc, S => match src.now S with
    | none => .bad
    | some ds => match ds[i]? with
      | none => .ok acc S
      | some d => (turn d acc S).bind fun acc' S' => lcN src turn f (i + 1) acc' S'
def lcFin (bx : Bool) (acc : List D) (S : Store) : Res W := if bx = true then .ok (.cell S.length) (S ++ [.lst acc]) else .ok (.dat (.lst acc)) S
def Src.fuel (S : Store) (src : Src) : Nat := match src.now S with
  | some ds => ds.length + 1
  | none => 0
def sLc (src : Sm Src) (tgt : W → Env0' → Option Env0') (t : Sm Bool) (e : Sm W) (vs : List Nat) (bx : Bool) : Sm W := fun ρ S => (src ρ S).bind fun sr S1 => (lcN sr (lcT tgt t e (wipeE ρ vs)) (sr.fuel S1) 0 [] S1).bind fun acc S2 => lcFin bx acc S2
section
variable {K : PySem.W.Frag} {G : Gam} {Wx : WX} {σ : L2.St} {H : Hp} {E : XK} {Q : VK}
theorem List.take_set_last {α : Type} {l : List α} {n : Nat} (h : n < l.length) (c : α) : (l.set n c).take (n + 1) = l.take n ++ [c] := by
  rw [List.take_succ, List.take_set_of_le (Nat.le_refl _), List.getElem?_set_self h]
  rfl
theorem List.take_get_last {α : Type} {l : List α} {n : Nat} {c : α} (h : l[n]? = some c) : l.take (n + 1) = l.take n ++ [c] := by
  rw [List.take_succ, h]; rfl
/-- the walk of the list that is made at L -/
theorem lc_walk {src : Src} {is vs : List Nat} {tgt : W → Env0' → Option Env0'} {t : Sm Bool} {e : Sm W} {bx : Bool} {J : It} {ι : List Addr} {ρ : Env0'} {L : Addr} {S0 : Store} (hv : ∀ i ∈ is, i ∈ vs) (he : EnvOk K G ι H ρ σ) (hJ : ItOk K G ι H src J) (hL : H L = none) (st0 : StOk K G ι S0 H)
    (o : Out K G ι H E (fun ι' H' _ w => ∀ v, RepW K G ι' H' v w → Q v H') ((lcN src (lcT tgt t e (wipeE ρ vs)) (src.fuel S0) 0 [] S0).bind fun acc S2 => lcFin bx acc S2)) :
    ∃ Wi : Nat → Nat → Hp → Prop, (∃ m, Wi 0 m (upd H L (.lst []))) ∧ ∀ i m H, Wi i m H → (J.stop i H ∧ Q (.ref L) H) ∨ (J.go i H ∧ ∃ Nx : Hp → Prop, (∀ H', Nx H' → ∃ m', m' < m ∧ Wi (i + 1) m' H') ∧
      ∀ x H', J.yld i H x H' → rdG K G is tgt x (L2.wipe σ vs) H' fun σ2 H2 => L2.wipe σ2 vs = L2.wipe σ vs ∧ rdT K G noWx t σ2 H2 fun b H3 =>
        if b = true then rdE K G noWx e σ2 H3 fun y H4 => ∃ acc, H4 L = some (.lst acc) ∧ acc.length < sizeLine ∧ Nx (upd H4 L (.lst (acc ++ [y]))) else Nx H3) := by
  have hLi : L ∉ ι := fresh_out st0 hL
  have hix : (ι ++ [L])[ι.length]? = some L := by simp
  refine ⟨fun i m H1 => ∃ S acc, Ext ι H (ι ++ [L]) H1 ∧ StOk K G (ι ++ [L]) (S ++ [.lst acc]) H1 ∧ Out K G ι H E (fun ι' H' _ w => ∀ v, RepW K G ι' H' v w → Q v H') ((lcN src (lcT tgt t e (wipeE ρ vs)) m i acc S).bind fun acc S2 => lcFin bx acc S2), ⟨src.fuel S0, S0, [], ?_, ?_, o⟩, ?_⟩
  · exact (st0.push (c := .lst []) (o := .lst []) hL ⟨[], upd_same, .nil⟩).2
  · exact (st0.push (c := .lst []) (o := .lst []) hL ⟨[], upd_same, .nil⟩).1
  rintro i m H1 ⟨S, acc, e1, st, o⟩
  have hlen : S.length = ι.length := by have := st.len; simp at this; omega
  have cut : ∀ {ι' : List Addr} {H' : Hp}, Ext ι H ι' H' → Ext ι H (ι ++ [L]) H' := fun x => ⟨⟨[L], rfl, by simpa using hL⟩, x.keep, x.stay⟩
  cases m with
  | zero => exact o.elim
  | succ f =>
    unfold lcN at o
    cases hn : src.now S with
    | none => rw [hn] at o; exact o.elim
    | some ds =>
      rw [hn] at o
      simp only at o
      obtain ⟨j1, j2⟩ := hJ i _ H1 _ ds e1 st (Src.now_app hn)
      cases hd : ds[i]? with
      | none =>
        rw [hd] at o
        simp only [Res.bind_ok] at o
        refine .inl ⟨j1 (List.getElem?_eq_none_iff.mp hd), ?_⟩
        unfold lcFin at o
        cases bx with
        | true =>
          simp only [if_true] at o
          exact o _ H1 e1 st _ (.cell (by rw [hlen]; exact hix))
        | false =>
          simp only [Bool.false_eq_true, if_false] at o
          have cell := st.at_ ι.length L (.lst acc) hix (by rw [← hlen]; simp)
          have st' := st.take (n := ι.length) (by simp)
          rw [List.take_left, ← hlen, List.take_left] at st'
          exact o ι H1 e1.back st' _ (.dat (CellOk.frozen cell hLi (fun a ha z => ha (List.mem_append_left _ z)) (fun _ _ z => by cases z)))
      | some d =>
        rw [hd] at o
        simp only at o
        obtain ⟨g1, g2⟩ := j2 d hd
        refine .inr ⟨g1, _, fun H' h => ⟨f, Nat.lt_succ_self _, h⟩, fun x H2 hy => ?_⟩
        obtain ⟨e2, st2, rx⟩ := g2 x H2 hy
        unfold lcT at o
        cases ht : tgt (.dat d) (wipeE ρ vs) with
        | none => rw [ht] at o; exact o.elim
        | some ρ1 =>
          rw [ht] at o
          simp only at o
          refine ⟨ι ++ [L], wipeE ρ vs, S ++ [.lst acc], .dat d, ρ1, ⟨((he.ext e1).ext e2).wipe vs, st2⟩, .dat rx, ht, fun σ2 sm m2 => ⟨?_, ι ++ [L], ρ1, S ++ [.lst acc], m2, ?_⟩⟩
          · rw [wipe_same (sm.sub hv), wipe_wipe]
          · cases hb : t ρ1 (S ++ [.lst acc]) with
            | bad => rw [hb] at o; exact o.elim
            | ex c fs S3 => rw [hb] at o; exact o.elim
            | ok b S3 =>
              rw [hb] at o
              simp only [Res.noEx, Res.bind_ok] at o
              intro ι3 H3 e3 st3
              have tk3 : ι3.take (ι.length + 1) = ι ++ [L] := by have := e3.take; simpa using this
              have ln3 : ι.length + 1 ≤ ι3.length := by have := e3.len; simpa using this
              cases b with
              | true =>
                simp only [if_true] at o ⊢
                refine ⟨ι3, ρ1, S3, ⟨m2.env.ext e3, st3⟩, ?_⟩
                cases hw : e ρ1 S3 with
                | bad => rw [hw] at o; exact o.elim
                | ex c fs S4 => rw [hw] at o; exact o.elim
                | ok w S4 =>
                  rw [hw] at o
                  simp only [Res.noEx, Res.bind_ok] at o
                  intro ι4 H4 e4 st4 y ry
                  have tk4 : ι4.take (ι.length + 1) = ι ++ [L] := by have := (e3.trans e4).take; simpa using this
                  have ln4 : ι.length + 1 ≤ ι4.length := by have := (e3.trans e4).len; simpa using this
                  split at o
                  · rename_i z
                    split at o
                    · rename_i acc2 hS4
                      split at o
                      · rename_i hz
                        have hL4 : ι4[S.length]? = some L := by rw [hlen]; exact (e3.trans e4).idx hix
                        obtain ⟨xs, hx, rx2⟩ := st4.at_ _ _ _ hL4 hS4
                        cases ry with
                        | dat ry =>
                          obtain ⟨s5, e5⟩ := st4.setLst hL4 hS4 (rx2.append (.cons ry .nil))
                          have s6 := s5.take (n := ι.length + 1) ln4
                          have hlt : S.length < S4.length := (List.getElem?_eq_some_iff.mp hS4).1
                          rw [tk4, ← hlen, List.take_set_last hlt] at s6
                          exact ⟨xs, hx, by rw [rx2.length]; exact hz, _, _, cut ((((e1.trans e2).trans e3).trans e4).trans e5), s6, o⟩
                      · exact o.elim
                    · exact o.elim
                  · exact o.elim
              | false =>
                simp only [Bool.false_eq_true, if_false] at o ⊢
                split at o
                · rename_i acc2 hS3
                  have s6 := st3.take (n := ι.length + 1) ln3
                  rw [tk3, ← hlen, List.take_get_last hS3] at s6
                  exact ⟨_, _, cut ((e1.trans e2).trans e3), s6, o⟩
                · exact o.elim
end
section
variable {X : Cx} {G : Gam} {Wx : WX} {k : Nat} {T : FnT} {pos : Pos} {tg iter elt : Expr} {ifs : List Expr} {scope : Scope} {src : Sm Src} {t : Sm Bool} {e : Sm W}
/-- a list comprehension; what its parts read as is told in the block's own context -/
theorem sd_lc (bx : Bool) (C : CtxF G X Wx k T) (hi : PI X tg iter (rdI X.K G Wx src)) (hb : blkC X.N X.env.scope scope (ownOf X.N scope) = true) (ho : okTgt tg = true) (hv : (tgIx X.N tg).all (fun i => decide (i ∈ (ownOf X.N scope).map (·.2))) = true)
    (ht : ∀ (s : Shared) (H : Hp) (Cc : Addr) (cl : List (Str × Addr)) (fp : List Addr), PTs (X.blk s H scope (compEnvC scope cl Cc X.env) fp) ifs (rdT X.K G noWx t))
    (he : ∀ (s : Shared) (H : Hp) (Cc : Addr) (cl : List (Str × Addr)) (fp : List Addr), PE (X.blk s H scope (compEnvC scope cl Cc X.env) fp) elt (rdE X.K G noWx e)) (hs : ∀ x, foldedSetIterable iter X.env x = pure x) :
    PE X (.ListComp elt [⟨tg, iter, ifs, 0⟩] scope pos) (rdE X.K G Wx (sLc src (setT true X.N scope tg) t e ((ownOf X.N scope).map (·.2)) bx)) := by
  have hg : ∀ (s : Shared) (H : Hp) (Cc : Addr) (cl : List (Str × Addr)) (fp : List Addr), PG (X.blk s H scope (compEnvC scope cl Cc X.env) fp) tg (rdG X.K G (tgIx X.N tg) (setT true X.N scope tg)) := fun s H Cc cl fp =>
    sg_any (X := X.blk s H scope (compEnvC scope cl Cc X.env) fp) (cells := true) C.nd locOk_blk C.calm ho
  refine PE.imp (pe_lc C.calm C.nd hi (blkOk_by hb) hg ht he hs) fun σ H Q h => ?_
  obtain ⟨ι, ρ, S, m, o⟩ := h
  refine ⟨ι, ρ, S, m, o.bind.imp fun ι1 H1 S1 sr e1 s1 o1 J hJ L hL => ?_⟩
  have hv' : ∀ i ∈ tgIx X.N tg, i ∈ (ownOf X.N scope).map (·.2) := fun i hi => by
    have := List.all_eq_true.mp hv i hi
    simpa using this
  exact lc_walk hv' (m.env.ext e1) hJ hL s1 o1
end
end EC
namespace EC
open PySem PySem.Spec PyProof.Rows L2
/-- how a statement ends -/
inductive SR where
  | nx (ρ : Env0') (S : Store) | rt (w : W) (S : Store) | bk (ρ : Env0') (S : Store) | ct (ρ : Env0') (S : Store)
  | ex (c : Str) (fs : List D) (ρ : Env0') (S : Store) | bad
abbrev Ss := Env0' → Store → SR
def OutS (K : PySem.W.Frag) (G : Gam) (ι : List Addr) (H : Hp) (D : Ends) (Wx : WX) : SR → Prop
  | .nx ρ S => ∀ ι' H' σ', Ext ι H ι' H' → MtE K G ι' ρ S σ' H' → D.nx σ' H'
  | .rt w S => ∀ ι' H' v, Ext ι H ι' H' → StOk K G ι' S H' → RepW K G ι' H' v w → D.rt v H'
  | .bk ρ S => ∀ ι' H' σ', Ext ι H ι' H' → MtE K G ι' ρ S σ' H' → D.bk σ' H'
  | .ct ρ S => ∀ ι' H' σ', Ext ι H ι' H' → MtE K G ι' ρ S σ' H' → D.ct σ' H'
  | .ex c fs ρ S => ∀ ι' H' σ' cls d, Ext ι H ι' H' → MtE K G ι' ρ S σ' H' → XOk K G ι' H' c fs cls d → Wx cls d σ' H'
  | .bad => False
def rdS (K : PySem.W.Frag) (G : Gam) (Wx : WX) (c : Ss) : TS := fun D σ H => ∃ ι ρ S, MtE K G ι ρ S σ H ∧ OutS K G ι H D Wx (c ρ S)
def Res.toS {α : Type} (r : Res α) (ρ : Env0') (f : α → Store → SR) : SR := match r with
  | .ok a S => f a S
  | .ex c fs S => .ex c fs ρ S
  | .bad => .bad
def SR.andThen (r : SR) (f : Ss) : SR := match r with
  | .nx ρ S => f ρ S
  | r => r
section
variable {K : PySem.W.Frag} {G : Gam} {ι ι' : List Addr} {H H' : Hp} {D : Ends} {Wx : WX} {σ : L2.St} {ρ : Env0'} {S : Store}
theorem OutS.ext (e : Ext ι H ι' H') {r : SR} (h : OutS K G ι H D Wx r) : OutS K G ι' H' D Wx r := by
  cases r with
  | nx ρ S => exact fun a b c e2 m => h a b c (e.trans e2) m
  | rt w S => exact fun a b c e2 m r => h a b c (e.trans e2) m r
  | bk ρ S => exact fun a b c e2 m => h a b c (e.trans e2) m
  | ct ρ S => exact fun a b c e2 m => h a b c (e.trans e2) m
  | ex c fs ρ S => exact fun a b c f g e2 m x => h a b c f g (e.trans e2) m x
  | bad => exact h
theorem OutS.res {α : Type} {r : Res α} {f : α → Store → SR} (he : EnvOk K G ι H ρ σ) (h : OutS K G ι H D Wx (r.toS ρ f)) :
    Out K G ι H (fun c d H' => Wx c d σ H') (fun ι' H' S a => OutS K G ι' H' D Wx (f a S)) r := by
  cases r with
  | ok a S => exact fun ι' H' e s => OutS.ext e h
  | ex c fs S => exact fun ι' H' cls d e s x => h ι' H' σ cls d e ⟨he.ext e, s⟩ x
  | bad => exact h
theorem OutS.nxt (m : MtE K G ι ρ S σ H) (h : OutS K G ι H D Wx (.nx ρ S)) : D.nx σ H := h ι H σ (Ext.refl _ _) m
theorem OutS.seq {f : Ss} {r : SR} (h : OutS K G ι H D Wx (r.andThen f)) : OutS K G ι H { D with nx := fun σ' H' => ∃ ι' ρ' S', MtE K G ι' ρ' S' σ' H' ∧ OutS K G ι' H' D Wx (f ρ' S') } Wx r := by
  cases r with
  | nx ρ S => exact fun a b c e2 m => ⟨a, ρ, S, m, OutS.ext e2 h⟩
  | rt w S => exact h
  | bk ρ S => exact h
  | ct ρ S => exact h
  | ex c fs ρ S => exact h
  | bad => exact h
end
theorem ps_bad {X : Cx} {st : Stmt} {K : PySem.W.Frag} {G : Gam} {Wx : WX} : PS X st (rdS K G Wx fun _ _ => .bad) := ⟨fun _ _ _ _ _ _ ⟨_, _, _, _, h⟩ => h.elim⟩
def sSeq (a b : Ss) : Ss := fun ρ S => (a ρ S).andThen b
def sNil : Ss := fun ρ S => .nx ρ S
section
variable {X : Cx} {G : Gam} {Wx : WX} {k : Nat} {T : FnT} {pos pos' p : Pos} {e e2 : Expr} {c c2 c3 : Sm W} {t : Sm Bool} {a b : Ss} {st : Stmt} {sts sts2 : List Stmt}
theorem ss_nil : PSs X [] (rdS X.K G Wx sNil) := PSs.imp pss_nil fun D σ H ⟨ι, ρ, S, m, o⟩ => o.nxt m
theorem ss_cons (h1 : PS X st (rdS X.K G Wx a)) (h2 : PSs X sts (rdS X.K G Wx b)) : PSs X (st :: sts) (rdS X.K G Wx (sSeq a b)) :=
  PSs.imp (pss_cons h1 h2) fun D σ H ⟨ι, ρ, S, m, o⟩ => ⟨ι, ρ, S, m, o.seq⟩
theorem ss_pass : PS X (.Pass pos) (rdS X.K G Wx sNil) := PS.imp ps_pass fun D σ H ⟨ι, ρ, S, m, o⟩ => o.nxt m
def sBrk : Ss := fun ρ S => .bk ρ S
def sCnt : Ss := fun ρ S => .ct ρ S
theorem ss_break : PS X (.Break pos) (rdS X.K G Wx sBrk) := PS.imp ps_break fun D σ H ⟨ι, ρ, S, m, o⟩ => o ι H σ (Ext.refl _ _) m
theorem ss_cont : PS X (.Continue pos) (rdS X.K G Wx sCnt) := PS.imp ps_continue fun D σ H ⟨ι, ρ, S, m, o⟩ => o ι H σ (Ext.refl _ _) m
def sExpr (c : Sm W) : Ss := fun ρ S => (c ρ S).toS ρ fun _ S1 => .nx ρ S1
theorem sw_plain {e : Expr} {tg : Option Expr} {l : Nat} {env : Env} (h : ∀ a b c d, e ≠ .ListComp a b c d) (h2 : ∀ a b c d, e ≠ .SetComp a b c d) (h3 : ∀ a b c d f, e ≠ .DictComp a b c d f) : swapsWith e tg l env = pure false := by
  cases e <;> first | rfl | exact absurd rfl (h _ _ _ _) | exact absurd rfl (h2 _ _ _ _) | exact absurd rfl (h3 _ _ _ _ _)
def notComp : Expr → Bool
  | .ListComp .. => false
  | .SetComp .. => false
  | .DictComp .. => false
  | _ => true
theorem sw_notComp {e : Expr} {tg : Option Expr} {l : Nat} {env : Env} (h : notComp e = true) : swapsWith e tg l env = pure false := by
  cases e <;> first | rfl | cases h
theorem ss_expr (he : PE X e (rdE X.K G Wx c)) (hs : notComp e = true) : PS X (.Expr e pos) (rdS X.K G Wx (sExpr c)) := by
  refine PS.imp (ps_expr he (sw_notComp hs)) fun D σ H ⟨ι, ρ, S, m, o⟩ => ⟨ι, ρ, S, m, (OutS.res m.env o).imp fun ι1 H1 S1 w e1 s1 o1 v rv => ?_⟩
  exact o1.nxt ⟨m.env.ext e1, s1⟩
def sRet (c : Sm W) : Ss := fun ρ S => (c ρ S).toS ρ fun w S1 => .rt w S1
theorem ss_ret (he : PE X e (rdE X.K G Wx c)) : PS X (.Return (some e) pos) (rdS X.K G Wx (sRet c)) := by
  refine PS.imp (ps_ret he) fun D σ H ⟨ι, ρ, S, m, o⟩ => ⟨ι, ρ, S, m, (OutS.res m.env o).imp fun ι1 H1 S1 w e1 s1 o1 v rv => ?_⟩
  exact o1 ι1 H1 v (Ext.refl _ _) s1 rv
def sRetN : Ss := fun _ S => .rt (.dat .non) S
theorem ss_retN : PS X (.Return none pos) (rdS X.K G Wx sRetN) := PS.imp ps_retN fun D σ H ⟨ι, ρ, S, m, o⟩ => o ι H _ (Ext.refl _ _) m.st (.dat .non)
def sIte (t : Sm Bool) (a b : Ss) : Ss := fun ρ S => (t ρ S).toS ρ fun r S1 => if r = true then a ρ S1 else b ρ S1
theorem ss_if (hc : PT X e (rdT X.K G Wx t)) (ha : PSs X sts (rdS X.K G Wx a)) (hb : PSs X sts2 (rdS X.K G Wx b)) : PS X (.If e sts sts2 pos) (rdS X.K G Wx (sIte t a b)) := by
  refine PS.imp (ps_if hc ha hb) fun D σ H ⟨ι, ρ, S, m, o⟩ => ⟨ι, ρ, S, m, (OutS.res m.env o).imp fun ι1 H1 S1 r e1 s1 o1 => ?_⟩
  cases r with
  | true => exact ⟨ι1, ρ, S1, ⟨m.env.ext e1, s1⟩, o1⟩
  | false => exact ⟨ι1, ρ, S1, ⟨m.env.ext e1, s1⟩, o1⟩
def whN (t : Sm Bool) (b : Ss) : Nat → Ss
  | 0 => fun _ _ => .bad
  | f + 1 => fun ρ S => (t ρ S).toS ρ fun r S1 => if r = true then match b ρ S1 with
      | .nx ρ' S' => whN t b f ρ' S'
      | .ct ρ' S' => whN t b f ρ' S'
      | .bk ρ' S' => .nx ρ' S'
      | r => r
    else .nx ρ S1
def forN (src : Src) (tgt : W → Env0' → Option Env0') (b : Ss) : Nat → Nat → Ss
  | 0, _ => fun _ _ => .bad
  | f + 1, i => fun ρ S => match src.now S with
    | none => .bad
    | some ds => match ds[i]? with
      | none => .nx ρ S
      | some d => match tgt (.dat d) ρ with
        | none => .bad
        | some ρ1 => match b ρ1 S with
          | .nx ρ' S' => forN src tgt b f (i + 1) ρ' S'
          | .ct ρ' S' => forN src tgt b f (i + 1) ρ' S'
          | .bk ρ' S' => .nx ρ' S'
          | r => r
def sFor (src : Sm Src) (tgt : W → Env0' → Option Env0') (b : Ss) : Ss := fun ρ S => (src ρ S).toS ρ fun sr S1 => forN sr tgt b (sr.fuel S1) 0 ρ S1
def whFuel : Nat := 1000000
def sWhile (t : Sm Bool) (b : Ss) : Ss := whN t b whFuel
theorem ss_while (hp : PassesOwn (model X.prog X.w) X.A X.env X.xe) (hc : PT X e (rdT X.K G Wx t)) (hb : PSs X sts (rdS X.K G Wx a)) : PS X (.While e sts [] pos) (rdS X.K G Wx (sWhile t a)) := by
  refine PS.imp (ps_while hp hc hb) fun D σ H ⟨ι, ρ, S, m, o⟩ => ?_
  refine ⟨fun n σ' H' => ∃ ι' ρ' S', MtE X.K G ι' ρ' S' σ' H' ∧ OutS X.K G ι' H' D Wx (whN t a n ρ' S'), ⟨whFuel, ι, ρ, S, m, o⟩, ?_⟩
  rintro n σ1 H1 ⟨ι1, ρ1, S1, m1, o1⟩
  cases n with
  | zero => exact o1.elim
  | succ f =>
    unfold whN at o1
    refine ⟨ι1, ρ1, S1, m1, (OutS.res m1.env o1).imp fun ι2 H2 S2 r e2 s2 o2 => ?_⟩
    cases r with
    | true =>
      simp only [if_true] at o2 ⊢
      refine ⟨fun σ' H' => ∃ ι' ρ' S', MtE X.K G ι' ρ' S' σ' H' ∧ OutS X.K G ι' H' D Wx (whN t a f ρ' S'), fun σ' H' h => ⟨f, Nat.lt_succ_self _, h⟩, ι2, ρ1, S2, ⟨m1.env.ext e2, s2⟩, ?_⟩
      cases hr : a ρ1 S2 with
      | nx ρ' S' => rw [hr] at o2; exact fun ι' H' σ' e' m' => ⟨ι', ρ', S', m', OutS.ext e' o2⟩
      | ct ρ' S' => rw [hr] at o2; exact fun ι' H' σ' e' m' => ⟨ι', ρ', S', m', OutS.ext e' o2⟩
      | bk ρ' S' => rw [hr] at o2; exact o2
      | rt w S' => rw [hr] at o2; exact o2
      | ex c fs ρ' S' => rw [hr] at o2; exact o2
      | bad => rw [hr] at o2; exact o2
    | false =>
      simp only [Bool.false_eq_true, if_false] at o2 ⊢
      exact o2.nxt ⟨m1.env.ext e2, s2⟩
theorem ss_for {tg iter : Expr} {src : Sm Src} {is : List Nat} {tgt : W → Env0' → Option Env0'} (hp : PassesOwn (model X.prog X.w) X.A X.env X.xe) (C : Ctx G X Wx) (hi : PI X tg iter (rdI X.K G Wx src)) (hg : PG X tg (rdG X.K G is tgt)) (hb : PSs X sts (rdS X.K G Wx a))
    (hs : ∀ x, foldedSetIterable iter X.env x = pure x) : PS X (.For tg iter sts [] pos) (rdS X.K G Wx (sFor src tgt a)) := by
  refine PS.imp (ps_for hp C.calm hi hg hb hs) fun D σ H ⟨ι, ρ, S, m, o⟩ => ⟨ι, ρ, S, m, (OutS.res m.env o).imp fun ι0 H0 S0 sr e0 s0 o0 J hJ => ?_⟩
  have m0 := (⟨m.env.ext e0, s0⟩ : MtE X.K G ι0 ρ S0 σ H0)
  refine ⟨fun i n σ' H' => ∃ ι' ρ' S', Ext ι0 H0 ι' H' ∧ MtE X.K G ι' ρ' S' σ' H' ∧ OutS X.K G ι' H' D Wx (forN sr tgt a n i ρ' S'), ⟨sr.fuel S0, ι0, ρ, S0, Ext.refl _ _, m0, o0⟩, ?_⟩
  rintro i n σ1 H1 ⟨ι1, ρ1, S1, x1, m1, o1⟩
  cases n with
  | zero => exact o1.elim
  | succ f =>
    unfold forN at o1
    cases hn : sr.now S1 with
    | none => rw [hn] at o1; exact o1.elim
    | some ds =>
      rw [hn] at o1
      simp only at o1
      obtain ⟨j1, j2⟩ := hJ i ι1 H1 S1 ds x1 m1.st hn
      cases hd : ds[i]? with
      | none =>
        rw [hd] at o1
        exact .inl ⟨j1 (List.getElem?_eq_none_iff.mp hd), o1.nxt m1⟩
      | some d =>
        rw [hd] at o1
        simp only at o1
        obtain ⟨g1, g2⟩ := j2 d hd
        refine .inr ⟨g1, fun σ' H' => ∃ ι' ρ' S', Ext ι0 H0 ι' H' ∧ MtE X.K G ι' ρ' S' σ' H' ∧ OutS X.K G ι' H' D Wx (forN sr tgt a f (i + 1) ρ' S'), fun σ' H' h => ⟨f, Nat.lt_succ_self _, h⟩, fun x H2 hy => ?_⟩
        obtain ⟨e2, s2, rx⟩ := g2 x H2 hy
        cases ht : tgt (.dat d) ρ1 with
        | none => rw [ht] at o1; exact o1.elim
        | some ρ2 =>
          rw [ht] at o1
          simp only at o1
          refine ⟨ι1, ρ1, S1, .dat d, ρ2, ⟨m1.env.ext e2, s2⟩, .dat rx, ht, fun σ2 sm m2 => ⟨ι1, ρ2, S1, m2, ?_⟩⟩
          have o2 := OutS.ext e2 o1
          have x2 := x1.trans e2
          cases hr : a ρ2 S1 with
          | nx ρ' S' => rw [hr] at o2; exact fun ι' H' σ' e' m' => ⟨ι', ρ', S', x2.trans e', m', OutS.ext e' o2⟩
          | ct ρ' S' => rw [hr] at o2; exact fun ι' H' σ' e' m' => ⟨ι', ρ', S', x2.trans e', m', OutS.ext e' o2⟩
          | bk ρ' S' => rw [hr] at o2; exact o2
          | rt w S' => rw [hr] at o2; exact o2
          | ex c fs ρ' S' => rw [hr] at o2; exact o2
          | bad => rw [hr] at o2; exact o2
end
end EC
namespace EC
open PySem PySem.Spec PyProof.Rows L2
section
variable {K : PySem.W.Frag} {G : Gam} {ι : List Addr} {H : Hp} {E : XK} {Q : VK} {S : Store}
/-- a new list becomes a cell -/
theorem Out.cellL {ds : List D} {xs : List V} (st : StOk K G ι S H) (r : RepAll K G ι H xs ds) (o : Out K G ι H E (fun ι' H' _ w => ∀ v, RepW K G ι' H' v w → Q v H') (.ok (.cell S.length) (S ++ [.lst ds]))) (p : Addr) (hp : H p = none) : Q (.ref p) (upd H p (.lst xs)) := by
  have e0 : Ext ι H (ι ++ [p]) (upd H p (.lst xs)) := ⟨⟨[p], rfl, by simpa using hp⟩, fun b u _ e _ => by rw [upd_ne (ne_of_none e hp)]; exact e, fun b e => by
    by_cases q : b = p
    · rw [q, upd_same] at e; cases e
    · rw [upd_ne q] at e; exact e⟩
  obtain ⟨s1, e1⟩ := st.push (c := .lst ds) (o := .lst xs) hp ⟨xs, upd_same, r.ext e0⟩
  exact o _ _ e1 s1 _ (.cell (by rw [← st.len]; simp))
theorem Out.cellD {ks : List Key} {ds : List D} {xs : List V} (st : StOk K G ι S H) (hl : ks.length = xs.length) (r : RepAll K G ι H xs ds) (o : Out K G ι H E (fun ι' H' _ w => ∀ v, RepW K G ι' H' v w → Q v H') (.ok (.cell S.length) (S ++ [.dct ks ds]))) (p : Addr) (hp : H p = none) : Q (.ref p) (upd H p (.dK (ks.zip xs))) := by
  have e0 : Ext ι H (ι ++ [p]) (upd H p (.dK (ks.zip xs))) := ⟨⟨[p], rfl, by simpa using hp⟩, fun b u _ e _ => by rw [upd_ne (ne_of_none e hp)]; exact e, fun b e => by
    by_cases q : b = p
    · rw [q, upd_same] at e; cases e
    · rw [upd_ne q] at e; exact e⟩
  obtain ⟨s1, e1⟩ := st.push (c := .dct ks ds) (o := .dK (ks.zip xs)) hp ⟨xs, upd_same, hl, r.ext e0⟩
  exact o _ _ e1 s1 _ (.cell (by rw [← st.len]; simp))
end
def mkLstB (ws : List W) (S : Store) : Res W := match allD ws with
  | some ds => if fits ds.length then .ok (.cell S.length) (S ++ [.lst ds]) else .bad
  | none => .bad
/-- list(x), dict(x), to be changed later -/
def fBiB (b : Bool) (ws : List W) (S : Store) : Res W := match derefs S ws with
  | some [.lst xs] => if b = true then .ok (.cell S.length) (S ++ [.lst xs]) else match pairsOf? xs with
    | some ps => .ok (.cell S.length) (S ++ [.dct (mergeD [] [] ps).1 (mergeD [] [] ps).2])
    | none => .bad
  | some [.tup xs] => if b = true then .ok (.cell S.length) (S ++ [.lst xs]) else .bad
  | some [.scr ns] => if b = true then .ok (.cell S.length) (S ++ [.lst (ns.map .int)]) else .bad
  | _ => .bad
section
variable {X : Cx} {G : Gam} {Wx : WX} {k : Nat} {T : FnT} {pos pos' p : Pos} {e e2 : Expr} {es : List Expr} {c c2 c3 : Sm W} {ca : Sm (List W)} {t : Sm Bool} {a b : Ss} {st : Stmt} {sts sts2 : List Stmt} {g : Expr → Sm W}
theorem sd_lstB (h : PA X es (rdA X.K G Wx ca)) : PE X (.List es pos) (rdE X.K G Wx fun ρ S => (ca ρ S).bind mkLstB) := by
  refine PE.imp (pe_lst h) fun σ H Q hh => ?_
  obtain ⟨ι, ρ, S, m, o⟩ := hh
  refine ⟨ι, ρ, S, m, o.bind.imp fun ι1 H1 S1 ws e1 s1 o1 xs rxs => ?_⟩
  unfold mkLstB at o1
  split at o1
  · rename_i ds hd
    split at o1
    · rename_i hf
      have r := rxs.all hd
      exact ⟨by rw [r.length]; exact fits_iff.mp hf, fun p hp => o1.cellL s1 r p hp⟩
    · exact o1.elim
  · exact o1.elim
def sCallBB (b : Bool) (ca : Sm (List W)) : Sm W := fun ρ S => (ca ρ S).bind fun ws S1 => fBiB b ws S1
def rNew (K : PySem.W.Frag) (G : Gam) (b : Bool) : List V → Hp → VK → Prop := fun vs H Q => ∃ ι S ws, StOk K G ι S H ∧ RepWs K G ι H vs ws ∧ Out K G ι H (fun _ _ _ => True) (fun ι' H' _ w => ∀ v, RepW K G ι' H' v w → Q v H') (fBiB b ws S)
theorem Out.top {K : PySem.W.Frag} {ι : List Addr} {H : Hp} {α : Type} {P : List Addr → Hp → Store → α → Prop} {E : XK} {r : Res α} (h : Out K G ι H E P r) : Out K G ι H (fun _ _ _ => True) P r := by
  cases r with
  | ok a S => exact h
  | ex c fs S => exact fun _ _ _ _ _ _ _ => trivial
  | bad => exact h
theorem call_listB : CallR X (.type "list") (rNew X.K G true) := by
  intro pins s σ H vs us Q I r h
  obtain ⟨ι, S, ws, st, rws, o⟩ := h
  unfold fBiB at o
  split at o
  · rename_i hd; simp only [if_true] at o
    obtain ⟨v, rfl, ob⟩ := (obsAll_of st rws hd).one; obtain ⟨a, xs, rfl, h1, rr⟩ := ob.lstO
    exact call_list_of pins s σ H _ us Q I r ⟨a, xs, rfl, .inl (.of h1), fun p hp => o.cellL st rr p hp⟩
  · rename_i hd; simp only [if_true] at o
    obtain ⟨v, rfl, ob⟩ := (obsAll_of st rws hd).one; obtain ⟨a, xs, rfl, h1, rr⟩ := ob.tupO
    exact call_list_of pins s σ H _ us Q I r ⟨a, xs, rfl, .inr (.of h1), fun p hp => o.cellL st rr p hp⟩
  · rename_i hd; simp only [if_true] at o
    obtain ⟨v, rfl, ob⟩ := (obsAll_of st rws hd).one; obtain ⟨a, rfl, h1⟩ := ob.scrO
    exact call_list_of pins s σ H _ us Q I r ⟨a, _, rfl, .inl h1, fun p hp => o.cellL st (.ofInts _) p hp⟩
  · exact o.elim
theorem call_dictB (hc : X.calm = true) : CallR X (.type "dict") (rNew X.K G false) := by
  intro pins s σ H vs us Q I r h
  obtain ⟨ι, S, ws, st, rws, o⟩ := h
  unfold fBiB at o
  split at o
  · rename_i xs hd; simp only [Bool.false_eq_true, if_false] at o
    obtain ⟨v, rfl, ob⟩ := (obsAll_of st rws hd).one; obtain ⟨a, ys, rfl, h1, rr⟩ := ob.lstO
    split at o
    · rename_i ps hn
      obtain ⟨as, kvs, rfl, e2, e3, e4⟩ := pairs_rep rr hn
      refine call_dictP hc pins s σ H _ us Q I r ⟨a, as, kvs, rfl, .of h1, e2, fun p hp => ?_⟩
      obtain ⟨ks', xs', m1, m2, m3, m4⟩ := mergeD_zip kvs [] [] rfl (by simp)
      obtain ⟨m5, m6⟩ := m4 X.K G ι H [] ps e3 e4 .nil
      have m1 : mergeK [] kvs = ks'.zip xs' := m1
      rw [m1]
      subst m5
      exact o.cellD st m2 m6 p hp
    · exact o.elim
  · simp only [Bool.false_eq_true, if_false] at o; exact o.elim
  · simp only [Bool.false_eq_true, if_false] at o; exact o.elim
  · exact o.elim
theorem sd_callBB {x : Str} {b : Bool} (C : CtxF G X Wx k T) (ha : ∀ e ∈ es, PE X e (rdE X.K G Wx (g e))) (hs : noStars es = true) (hx : x = (if b = true then "list" else "dict" : Str)) (hg : glbB X.env.scope x = true) :
    PE X (.Call (.Name x p) es [] pos) (rdE X.K G Wx (sCallBB b (evs g es))) := by
  cases es with
  | nil => exact ⟨fun pins s σ H Q I h => by
      obtain ⟨ι, ρ, S, m, o⟩ := h
      exact o.elim⟩
  | cons e es =>
    have hp := sd_args (e :: es) ha
    unfold noStars at hs
    rw [List.all_cons, Bool.and_eq_true] at hs
    have fin : ∀ σ H Q, rdE X.K G Wx (sCallBB b (evs g (e :: es))) σ H Q → tCB (rNew X.K G b) (rdA X.K G Wx (evs g (e :: es))) σ H Q := fun σ H Q h => by
      refine rdA_mono (rd_args h) fun xs H1 hh => ?_
      obtain ⟨ι, ρ, S, ws, m, rws, o⟩ := hh
      exact ⟨ι, S, ws, m.st, rws, o.top⟩
    cases b with
    | true =>
      simp only [if_true] at hx
      subst hx
      exact PE.imp (pe_callTy call_listB (glbB_iff hg) (C.bi _ (by decide +kernel)) (boot_bi (("list" : Str), Bi.list) (List.mem_of_getElem? (i := 10) (show biTab[10]? = some (("list" : Str), Bi.list) from rfl))).1 hp (by decide) (by decide) (starEach_cons hs.1) (noStar_any hs.2)) fin
    | false =>
      simp only [Bool.false_eq_true, if_false] at hx
      subst hx
      exact PE.imp (pe_callTy (call_dictB C.calm) (glbB_iff hg) (C.bi _ (by decide +kernel)) (boot_bi (("dict" : Str), Bi.dict) (List.mem_of_getElem? (i := 12) (show biTab[12]? = some (("dict" : Str), Bi.dict) from rfl))).1 hp (by decide) (by decide) (starEach_cons hs.1) (noStar_any hs.2)) fin
/-- the pairs, from the left: keys, data -/
def evPs (f : Expr → Sm W) : List (Option Expr) → List Expr → Env0' → Store → Res (List (Key × D))
  | [], [], _, S => .ok [] S
  | some k :: ks, v :: vs, ρ, S => (f k ρ S).bind fun wk S1 => (f v ρ S1).bind fun wv S2 => match wk, wv with
    | .dat dk, .dat dv => match keyOf? dk with
      | some q => (evPs f ks vs ρ S2).bind fun ps S3 => .ok ((q, dv) :: ps) S3
      | none => .bad
    | _, _ => .bad
  | _, _, _, _ => .bad
def dctFin (bx : Bool) (n : Nat) (ps : List (Key × D)) (S : Store) : Res W := match S[n]? with
  | some (.dct [] []) => if bx = true then .ok (.cell n) ((S.set n (.dct (mergeD [] [] ps).1 (mergeD [] [] ps).2)).take (n + 1)) else .ok (.dat (.dct (mergeD [] [] ps).1 (mergeD [] [] ps).2)) (S.take n)
  | _ => .bad
def sDict (bx : Bool) (f : Expr → Sm W) (ks : List (Option Expr)) (vs : List Expr) : Sm W := fun ρ S => match evPs f ks vs ρ (S ++ [.dct [] []]) with
  | .ok ps S2 => dctFin bx S.length ps S2
  | .ex c fs S2 => .ex c fs S2
  | .bad => .bad
/-- the same, told to the hand layer -/
def trsOf (K : PySem.W.Frag) (G : Gam) (Wx : WX) (f : Expr → Sm W) : List (Option Expr) → List Expr → List (TE × TE)
  | some k :: ks, v :: vs => (rdE K G Wx (f k), rdE K G Wx (f v)) :: trsOf K G Wx f ks vs
  | _, _ => []
theorem pps_of {f : Expr → Sm W} : ∀ (ks : List (Option Expr)) (vs : List Expr), ks.length = vs.length → ks.all (·.isSome) = true → (∀ e, some e ∈ ks → PE X e (rdE X.K G Wx (f e))) → (∀ e ∈ vs, PE X e (rdE X.K G Wx (f e))) → PPs X pos ks vs (trsOf X.K G Wx f ks vs)
  | [], [], _, _, _, _ => pps_nil
  | some k :: ks, v :: vs, hl, ha, h1, h2 => by
    rw [List.all_cons, Bool.and_eq_true] at ha
    exact pps_cons (h1 k List.mem_cons_self) (h2 v List.mem_cons_self) (pps_of ks vs (by simpa using hl) ha.2 (fun e he => h1 e (List.mem_cons_of_mem _ he)) fun e he => h2 e (List.mem_cons_of_mem _ he))
  | none :: ks, v :: vs, _, ha, _, _ => by rw [List.all_cons] at ha; cases ha
theorem pairs_rd {K : PySem.W.Frag} {f : Expr → Sm W} {σ : L2.St} {ρ : Env0'} : ∀ (ks : List (Option Expr)) (vs : List Expr) (ι : List Addr) (H : Hp) (S : Store) (P : List Addr → Hp → Store → List (Key × D) → Prop) (Q : List (V × V) → Hp → Prop), MtE K G ι ρ S σ H →
    Out K G ι H (fun c d H' => Wx c d σ H') P (evPs f ks vs ρ S) →
    (∀ (ι2 : List Addr) (H2 : Hp) (S2 : Store) (ps : List (Key × D)) (kvs : List (Key × V)), Ext ι H ι2 H2 → StOk K G ι2 S2 H2 → kvs.map (·.1) = ps.map (·.1) → RepAll K G ι2 H2 (kvs.map (·.2)) (ps.map (·.2)) → kvs.length = ks.length → P ι2 H2 S2 ps → Q (kvs.map (fun kv : Key × V => (kV kv.1, kv.2))) H2) →
    tPairs (trsOf K G Wx f ks vs) σ H Q
  | [], [], ι, H, S, P, Q, m, o, hQ => hQ ι H S [] [] (Ext.refl _ _) m.st rfl .nil rfl (o ι H (Ext.refl _ _) m.st)
  | some k :: ks, v :: vs, ι, H, S, P, Q, m, o, hQ => by
    unfold evPs at o
    refine ⟨ι, ρ, S, m, o.bind.imp fun ι1 H1 S1 wk e1 s1 o1 x rx => ?_⟩
    refine ⟨ι1, ρ, S1, ⟨m.env.ext e1, s1⟩, o1.bind.imp fun ι2 H2 S2 wv e2 s2 o2 y ry => ?_⟩
    split at o2
    · rename_i dk dv
      split at o2
      · rename_i q hq
        cases rx with
        | dat rx =>
          cases ry with
          | dat ry =>
            refine pairs_rd ks vs ι2 H2 S2 _ _ ⟨(m.env.ext e1).ext e2, s2⟩ o2.bind fun ι3 H3 S3 ps kvs e3 s3 f2 f3 f4 f5 => ?_
            have := hQ ι3 H3 S3 ((q, dv) :: ps) ((q, y) :: kvs) ((e1.trans e2).trans e3) s3 (by rw [List.map_cons, List.map_cons, f2]) (.cons (ry.ext e3) f3) (by rw [List.length_cons, List.length_cons, f4]) (f5 ι3 H3 (Ext.refl _ _) s3)
            rw [keyOf_obs (.dat rx) hq]
            exact this
      · exact o2.elim
    · exact o2.elim
  | [], _ :: _, _, _, _, _, _, _, o, _ => o.elim
  | some _ :: _, [], _, _, _, _, _, _, o, _ => o.elim
  | none :: _, _, _, _, _, _, _, _, o, _ => by cases ‹List Expr› <;> exact o.elim
theorem sd_dict (bx : Bool) {f : Expr → Sm W} {ks : List (Option Expr)} {vs : List Expr} (hl : ks.length = vs.length) (hall : ks.all (·.isSome) = true) (h0 : ks ≠ []) (h15 : ks.length ≤ 15) (h1 : ∀ e, some e ∈ ks → PE X e (rdE X.K G Wx (f e))) (h2 : ∀ e ∈ vs, PE X e (rdE X.K G Wx (f e))) :
    PE X (.Dict ks vs pos) (rdE X.K G Wx (sDict bx f ks vs)) := by
  refine PE.imp (pe_disp (pps_of ks vs hl hall h1 h2) hall hl h0 h15) fun σ H Q h => ?_
  obtain ⟨ι, ρ, S, m, o⟩ := h
  intro p hp
  obtain ⟨st1, e1⟩ := m.st.push (c := .dct [] []) (o := .dK []) hp ⟨[], by rw [upd_same]; rfl, rfl, .nil⟩
  have hpi : p ∉ ι := fresh_out m.st hp
  have hix : (ι ++ [p])[S.length]? = some p := by rw [← m.st.len]; simp
  have m1 : MtE X.K G (ι ++ [p]) ρ (S ++ [.dct [] []]) σ (upd H p (.dK [])) := ⟨m.env.ext e1, st1⟩
  refine pairs_rd ks vs _ _ _ (fun ι2 H2 S2 ps => Out X.K G ι H (fun c d H' => Wx c d σ H') (fun ι' H' _ w => ∀ v, RepW X.K G ι' H' v w → Q v H') (dctFin bx S.length ps S2)) _ m1 ?_ fun ι2 H2 S2 ps kvs e2 st2 f2 f3 f4 o2 => ?_
  · unfold sDict at o
    cases hr : evPs f ks vs ρ (S ++ [.dct [] []]) with
    | bad => rw [hr] at o; exact o.elim
    | ex c fs S2 => rw [hr] at o; exact fun ι' H' cls d e s x => o ι' H' cls d (e1.trans e) s x
    | ok ps S2 => rw [hr] at o; exact fun ι' H' e s => o
  · unfold dctFin at o2
    split at o2
    · rename_i hS
      have hp2 := e2.idx hix
      obtain ⟨xs, hx, hlx, rx⟩ := st2.at_ _ _ _ hp2 hS
      cases rx
      have hx : H2 p = some (.dK []) := hx
      refine ⟨hx, kvs, rfl, by rw [f4]; exact h15, ?_⟩
      obtain ⟨ks', xs', m1', m2, m3, m4⟩ := mergeD_zip kvs [] [] rfl (by simp)
      obtain ⟨m5, m6⟩ := m4 X.K G ι2 H2 [] ps f2 f3 .nil
      have m1' : mergeK [] kvs = ks'.zip xs' := m1'
      rw [m1']
      subst m5
      obtain ⟨s3, e3⟩ := st2.setDct hp2 hS m2 m6
      have e13 := (e1.trans e2).trans e3
      have hlt : S.length < S2.length := (List.getElem?_eq_some_iff.mp hS).1
      have tk : ι2.take (S.length + 1) = ι ++ [p] := by have := e2.take; rw [← m.st.len]; simpa using this
      have ln : S.length + 1 ≤ ι2.length := by have := e2.len; rw [← m.st.len]; simpa using this
      have cut : Ext ι H (ι ++ [p]) (upd H2 p (.dK ((mergeD [] [] ps).1.zip xs'))) := ⟨⟨[p], rfl, by simpa using hp⟩, e13.keep, e13.stay⟩
      have s4 := s3.take (n := S.length + 1) ln
      rw [tk] at s4
      split at o2
      · exact o2 _ _ cut s4 _ (.cell hix)
      · have s5 := s3.take (n := S.length) (by omega)
        have tk5 : ι2.take S.length = ι := by
          have : (ι2.take (S.length + 1)).take S.length = (ι ++ [p]).take S.length := by rw [tk]
          rw [List.take_take, Nat.min_eq_left (Nat.le_succ _)] at this
          rw [this, ← m.st.len, List.take_left]
        rw [tk5, List.take_set_of_le (Nat.le_refl _)] at s5
        have cell := s3.at_ S.length p _ hp2 (by rw [List.getElem?_set_self hlt])
        exact o2 ι _ e13.back s5 _ (.dat (CellOk.frozen cell hpi (fun a ha z => ha (by have := List.mem_append_left [p] z; rw [← tk] at this; exact List.mem_of_mem_take this)) (fun _ _ z => by cases z)))
    · exact o2.elim
def sDict0 (bx : Bool) : Sm W := fun _ S => if bx = true then .ok (.cell S.length) (S ++ [.dct [] []]) else .ok (.dat (.dct [] [])) S
theorem sd_dict0 (bx : Bool) : PE X (.Dict [] [] pos) (rdE X.K G Wx (sDict0 bx)) := by
  refine PE.imp pe_dnewK fun σ H Q h => ?_
  obtain ⟨ι, ρ, S, m, o⟩ := h
  intro p hp
  unfold sDict0 at o
  split at o
  · exact o.cellD (ks := []) (xs := []) m.st rfl .nil p hp
  · exact (Out.got o).dct (ks := []) (xs := []) m.st rfl .nil p hp
end
end EC
namespace EC
open PySem PySem.Spec PyProof.Rows L2 LamX
theorem LamR.tr {G : Gam} {X : Cx} (h : LamR G X) (pn : List (Addr × Obj)) (xe : Value → Shared → Prop) : LamR G (X.tr pn xe) := h
theorem LamR.none {G : Gam} {X : Cx} (h : G.lam = Option.none) : LamR G X := fun l e => by rw [h] at e; cases e
/-- what a lambda gives is a datum -/
def toD : W → Store → Res D
  | .dat d, S => .ok d S
  | _, _ => .bad
section
variable {K : PySem.W.Frag} {G G' : Gam} {ι : List Addr} {H : Hp}
theorem XOk.gam (h1 : G'.fns = G.fns) (h2 : G'.clss = G.clss) (h3 : G'.exs = G.exs) {c : Str} {fs : List D} {cls : Value} {d : Option Addr} (x : XOk K G ι H c fs cls d) : XOk K G' ι H c fs cls d := by
  obtain ⟨ci, k1, k2, da, xs, k3, k4, k5, k6, k7⟩ := x
  exact ⟨ci, by rw [h3]; exact k1, k2, da, xs, k3, k4, k5, k6, RepAll.gam h1 h2 k7⟩
theorem Out.gamD (h1 : G'.fns = G.fns) (h2 : G'.clss = G.clss) (h3 : G'.exs = G.exs) (h4 : G'.tabs = G.tabs) {E : XK} {Q : VK} {r : Res D} (o : Out K G ι H E (fun ι' H' _ d => ∀ v, Rep K G ι' H' v d → Q v H') r) : Out K G' ι H E (fun ι' H' _ d => ∀ v, Rep K G' ι' H' v d → Q v H') r := by
  cases r with
  | ok w S => exact fun ι' H' e s v r => o ι' H' e (s.gam h1.symm h2.symm h4.symm) v (r.gam h1.symm h2.symm)
  | ex c fs S => exact fun ι' H' cls d e s x => o ι' H' cls d e (s.gam h1.symm h2.symm h4.symm) (x.gam h1.symm h2.symm h3.symm)
  | bad => exact o
theorem Out.toW {E : XK} {Q : VK} {r : Res W} (o : Out K G ι H E (fun ι' H' _ d => ∀ v, Rep K G ι' H' v d → Q v H') (r.bind toD)) : Out K G ι H E (fun ι' H' _ w => ∀ v, RepW K G ι' H' v w → Q v H') r := by
  refine (Out.bind o).imp fun ι' H' S w e s o1 v rv => ?_
  cases rv with
  | dat r => exact Out.ok s o1 v r
  | cell _ => exact o1.elim
  | lam _ _ => exact o1.elim
end
/-- the lambda, as it was made: its code object and what it captured -/
def mkLam (K : PySem.W.Frag) (G : Gam) (f c' : Addr) (q : Str) (σ : L2.St) (ρ : Env0') (c : Sm W) : LamI where
  f := f
  run := fun S => (c ρ S).bind toD
  cap := fun ι H => EnvOk K G ι H ρ σ ∧ c' ∉ ι ∧ H c' = some (CodeO c' q)
  mono := fun e ⟨h1, h2, h3⟩ => ⟨h1.ext e, e.out h2 h3, e.keep _ _ h2 h3 codeO_ne⟩
section
variable {X : Cx} {G : Gam} {pins : List (Addr × Obj)} {σ : L2.St} {H : Hp} {s : Shared}
theorem lamR_mk {CXg : CXT} {Eg : XK} {Ng : List Str} {qg : Str} {sg : Scope} {g f c' : Addr} {cdg pm ctv : Value} {params : Arguments} {body : Expr} {scope : Scope} {k : Nat} {ρ : Env0'} {c : Sm W}
    (I : Inv X pins σ H s) (L : LamS X.env.scope scope) (hf : s.heap.get? f = some (PySem.W.kla_obj "<lambda>" (X.env.qual ++ "<lambda>") params body scope (cloFrom X.env.cells scope.names []) pm c' ctv)) (hfn : H f = none) (hfr : f ∉ frs X.stack)
    (hbind : bindArgs (PySem.W.kla_fn "<lambda>" (X.env.qual ++ "<lambda>") params body scope (cloFrom X.env.cells scope.names []) pm (.ref c') ctv) ⟨[], []⟩ = pure [])
    (hr : Room (k + 1) (X.A.deeper (envOfC qg sg s.heap.objs.size g cdg)))
    (hbody : ∀ (A : Around) (outer : List Env) (s : Shared) (H : Hp) (E : XK), Room k (A.deeper (lamEnv X scope s.heap.objs.size f c')) → PE (lamCx X A outer s H E scope f c') body (rdE X.K G (fun cls d _ H => E cls d H) c)) :
    LamR { G with lam := some (mkLam X.K G f c' (X.env.qual ++ "<lambda>") σ ρ c) } (cxOf CXg X.prog X.w X.K X.mg X.base Ng qg sg g cdg X.A X.stack s H Eg) := by
  intro l hl pn xe W' pinsZ σZ HZ s1 ι S Q tk I1 hc st o pos
  cases hl
  obtain ⟨hE, hni, hco⟩ := hc
  have of1 : s1.heap.get? f = some (PySem.W.kla_obj "<lambda>" (X.env.qual ++ "<lambda>") params body scope (cloFrom X.env.cells scope.names []) pm c' ctv) := I1.base.keep f _ hf hfn hfr (fun z => nomatch (show f ∈ ([] : List Addr) from z))
  have un : Un (frs X.stack) [] H HZ s.heap s1.heap := I1.base
  obtain ⟨⟨oc, vs, t, hoc, hdc, hvc⟩, _, _⟩ := I1.hok c' _ hco
  have o2 : Out X.K G ι HZ (fun cls d H' => W' cls d σZ H') (fun ι' H' _ w => ∀ v, RepW X.K G ι' H' v w → Q v H') (c ρ S) := Out.toW (@Out.gamD X.K { G with lam := some (mkLam X.K G f c' (X.env.qual ++ "<lambda>") σ ρ c) } G ι HZ rfl rfl rfl rfl _ _ _ o)
  have st2 : StOk X.K G ι S HZ := StOk.gam (G' := G) (G := { G with lam := some (mkLam X.K G f c' (X.env.qual ++ "<lambda>") σ ρ c) }) rfl rfl rfl st
  have rc : codeAny (model X.prog X.w) (X.A.deeper (envOfC qg sg s.heap.objs.size g cdg)) (.call (.ref f) ⟨[], []⟩) (CR (L2.CX X.prog X.w) (envOfC qg sg s.heap.objs.size g cdg :: X.stack) X.prog X.w HZ s1 Q (fun cls d H' => W' cls d σZ H')) s1 := by
    refine PySem.W.kla_callFunE hr.depth of1 rfl L.co L.gen rfl ⟨c', oc, vs, t, rfl, hoc, hdc, hvc⟩ ?_
    rw [hbind]
    refine wpAny_pure (wpAny_newFunctionEnv (fun y hy => (L.own y hy).2) (fun y hy => absurd hy (by simp)) (fun h₁ hns hsb => ⟨I1.nolimit.fresh _ hsb, ?_⟩) L.kind)
    show codeAny _ _ (.expr body (lamEnv X scope s1.heap.objs.size f c')) _ _
    have kp : ∀ b o, s1.heap.get? b = some o → h₁.get? b = some o := fun b o e => hsb.extBut b o (Nat.ne_of_lt (Heap.lt_size e)) (Heap.get?_push_of_some _ e)
    have J : Inv (lamCx X (X.A.deeper (envOfC qg sg s.heap.objs.size g cdg)) (envOfC qg sg s.heap.objs.size g cdg :: X.stack) s1 HZ (fun cls d H' => W' cls d σZ H') scope f c') [] σ HZ { s1 with heap := h₁, toks := s1.toks + ([] : List (Str × Value)).length } :=
      lam_start2 I L I1.env0 hr.hd un hns kp
    refine PySem.W.kla_codeExpr (wpAny_mono ((hbody _ _ s1 HZ _ (hr.deeper _)).run [] _ _ HZ Q J ⟨ι, ρ, S, ⟨hE, st2⟩, o2⟩) (fun v s' hq => ?_) fun e s' hq => hq)
    obtain ⟨w', H', J', rv, q⟩ := hq
    exact ⟨w', H', J'.os, J'.bare, J'.base, J'.hok, rv, q⟩
  refine PySem.W.callWith_F0 ⟨_, _, _, _, of1⟩ ?_
  refine wpAny_call (codeAny_mono rc fun r s' hq => ?_)
  cases r with
  | error e => exact tk e s' (XE.of_call I1 (fun cls d H' h => h) hq)
  | ok fl =>
    cases fl with
    | ret u => exact I1.after hq
    | next => exact False.elim hq
    | brk => exact False.elim hq
    | cont => exact False.elim hq
end
/-- what comes out of a def that took a lambda -/
def noL : W → Store → Res W := fun w S => if noLam w then .ok w S else .bad
theorem RepW.gamN {K : PySem.W.Frag} {G G' : Gam} {ι : List Addr} {H : Hp} (h1 : G'.fns = G.fns) (h2 : G'.clss = G.clss) {v : V} {w : W} (hn : noLam w = true) (r : RepW K G ι H v w) : RepW K G' ι H v w := by
  cases r with
  | dat r => exact .dat (Rep.gam h1 h2 r)
  | cell h => exact .cell h
  | lam _ _ => cases hn
theorem Out.gamL {K : PySem.W.Frag} {G G' : Gam} {ι : List Addr} {H : Hp} (h1 : G'.fns = G.fns) (h2 : G'.clss = G.clss) (h3 : G'.exs = G.exs) (h4 : G'.tabs = G.tabs) {E : XK} {Q : VK} {r : Res W} (o : Out K G ι H E (fun ι' H' _ w => ∀ v, RepW K G ι' H' v w → Q v H') (r.bind noL)) :
    Out K G' ι H E (fun ι' H' _ w => ∀ v, RepW K G' ι' H' v w → Q v H') r := by
  cases r with
  | ok w S =>
    have o : Out K G ι H E (fun ι' H' _ w => ∀ v, RepW K G ι' H' v w → Q v H') (noL w S) := o
    unfold noL at o
    split at o
    · rename_i hn
      exact fun ι' H' e s v r => o ι' H' e (s.gam h1.symm h2.symm h4.symm) v (r.gamN h1.symm h2.symm hn)
    · exact o.elim
  | ex c fs S => exact fun ι' H' cls d e s x => o ι' H' cls d e (s.gam h1.symm h2.symm h4.symm) (x.gam h1.symm h2.symm h3.symm)
  | bad => exact o
section
variable {X : Cx} {G : Gam} {Wx : WX} {k : Nat} {T : FnT} {pins : List (Addr × Obj)} {σ : L2.St} {H : Hp} {s : Shared}
/-- a def is called with a new lambda -/
theorem run_goodL {a f c' : Addr} {g : Str} {pm ctv : Value} {params : Arguments} {body : Expr} {scope : Scope} {ρ : Env0'} {S : Store} {ι : List Addr} {Q : VK} {c : Sm W} (C : CtxF G X Wx k T) (hk : 3 ≤ k) (F : FnGoodL X.prog X.w X.K X.mg X.base G.base k T g a) (I : Inv X pins σ H s)
    (L : LamS X.env.scope scope) (hf : s.heap.get? f = some (PySem.W.kla_obj "<lambda>" (X.env.qual ++ "<lambda>") params body scope (cloFrom X.env.cells scope.names []) pm c' ctv)) (hfn : H f = none) (hfr : f ∉ frs X.stack)
    (hbind : bindArgs (PySem.W.kla_fn "<lambda>" (X.env.qual ++ "<lambda>") params body scope (cloFrom X.env.cells scope.names []) pm (.ref c') ctv) ⟨[], []⟩ = pure [])
    (hbody : ∀ (A : Around) (outer : List Env) (s : Shared) (H : Hp) (E : XK), Room (k - 1) (A.deeper (lamEnv X scope s.heap.objs.size f c')) → PE (lamCx X A outer s H E scope f c') body (rdE X.K G (fun cls d _ H => E cls d H) c))
    (he : EnvOk X.K G ι H ρ σ) (hni : c' ∉ ι) (hco : H c' = some (CodeO c' (X.env.qual ++ "<lambda>"))) (st : StOk X.K G ι S H)
    (o : Out X.K G ι H (fun c d H' => Wx c d σ H') (fun ι' H' _ w => ∀ v, RepW X.K G ι' H' v w → Q v H') ((T g [.lam fun S => (c ρ S).bind toD] S).bind noL)) :
    wpAny (model X.prog X.w) X.A (call (.ref a) [.ref f]) (EP X pins σ Q) X.xe s := by
  obtain ⟨x, qual, st0, fd, N, ps, Fn, Sc, B, h1, hb⟩ := F
  obtain ⟨oc, od, kV, doc, pm', an, cdv, ct, osl, rfl, lk, hcd⟩ := Fn.ex
  have hl : ps.length = 1 := by
    rcases h1 (fun S => (c ρ S).bind toD) S with z | z
    · exact z
    · rw [z] at o; exact o.elim
  have rc : codeAny (model X.prog X.w) X.A (.call (.ref a) ⟨[.ref f], []⟩) (CR (L2.CX X.prog X.w) X.stack X.prog X.w H s Q fun cls d H' => Wx cls d σ H') s := by
    refine run_ofS (N := N) (ps := ps) (us := [.ref f]) (vs := [.ref f]) lk hcd Sc C.room I.env0 (B s [.ref f] I.kIn (by rw [hl]; rfl)) (.cons rfl .nil) (by rw [hl]; rfl) fun hr' => ?_
    obtain ⟨k', rfl⟩ : ∃ k', k = k' + 1 := ⟨k - 1, by omega⟩
    exact hb (mkLam X.K G f c' (X.env.qual ++ "<lambda>") σ ρ c) X.A X.stack s H Q _ ι S hr' (lamR_mk I L hf hfn hfr hbind hr' hbody) (@StOk.gam X.K G { G with lam := some (mkLam X.K G f c' (X.env.qual ++ "<lambda>") σ ρ c) } ι H rfl rfl rfl S st) ⟨he, hni, hco⟩ (@Out.gamL X.K G { G with lam := some (mkLam X.K G f c' (X.env.qual ++ "<lambda>") σ ρ c) } ι H rfl rfl rfl rfl _ Q (T g [.lam fun S => (c ρ S).bind toD] S) o)
  refine wpAny_call (codeAny_mono rc fun r s' hq => ?_)
  cases r with
  | error e => exact C.tk e s' (XE.of_call I (fun cls d H' h => h) hq)
  | ok fl =>
    cases fl with
    | ret u => exact I.after hq
    | next => exact False.elim hq
    | brk => exact False.elim hq
    | cont => exact False.elim hq
end
section
variable {X : Cx} {G : Gam} {Wx : WX} {k : Nat} {T : FnT}
/-- the context of a lambda's body -/
theorem CtxF.lamCx (C : CtxF G X Wx (k + 2) T) (hk : 1 ≤ k) {A : Around} {outer : List Env} {s : Shared} {H : Hp} {E : XK} {scope : Scope} {f c' : Addr} (hr : Room (k + 1) (A.deeper (lamEnv X scope s.heap.objs.size f c'))) :
    CtxF G (LamX.lamCx X A outer s H E scope f c') (fun cls d _ H => E cls d H) k (loT T) :=
  { calm := rfl, nd := C.nd, tk := takes_of rfl rfl rfl rfl, un := by have := hr.un; show (A.deeper (lamEnv X scope s.heap.objs.size f c')).units + 100 < cLine; omega, bi := C.bi, gfn := C.gfn, gcl := C.gcl, gco := C.gco, isf := C.isf, clf := C.clf, room := hr, roomX := hr.mono (by omega), fns := C.low.next.fns (by omega), low := C.low.next }
end
section
variable {X : Cx} {pins : List (Addr × Obj)} {σ : L2.St} {H : Hp} {s : Shared}
/-- the name of a lambda's code object, made here -/
abbrev lamQ (X : Cx) : Str := X.env.qual ++ "<lambda>"
theorem lam_mk3 {TT : List (Addr × Str)} {c P : Addr} {prm : Arguments} {bd : Expr} {sc : Scope} {pos : Pos} {E Q : Value → Shared → Prop}
    (I : Inv X pins σ H s) (tb : TabB X.base X.mg c P) (cd : X.env.code = .ref c) (mem : (P, lamQ X) ∈ TT)
    (one : ∀ p ∈ TT, p.1 = P → p.2 = lamQ X) (tabs : Tabs TT H) (dfl : defaultsOf prm X.env = ([], []))
    (fr : ∀ y ∈ sc.names, y.2 = .free → ∃ c, X.env.cells.lookup y.1 = some c)
    (go : ∀ (f c' : Addr) (pm ctv : Value) (K : Hp) (s' : Shared), Inv X pins σ K s' → ExtN H K → (∀ b, K b = none → H b = none) → Tabs TT K →
      s'.heap.get? f = some (PySem.W.kla_obj "<lambda>" (lamQ X) prm bd sc (cloFrom X.env.cells sc.names []) pm c' ctv) →
      K f = none → f ∉ frs X.stack → K c' = some (CodeO c' (lamQ X)) → (H c' = none ∨ H c' = some (CodeO c' (lamQ X))) → Q (.ref f) s') :
    wpAny (model X.prog X.w) X.A (eval (.Lambda prm bd sc pos) X.env) Q E s := by
  obtain ⟨tv, hPt, tri, named⟩ := tabs _ mem
  have atP : s.heap.get? P = some { cls := .none, data := .fields tv } :=
    I.hok P _ hPt
  have bmP : s.heap.BuiltinsAt X.mg P :=
    tb.bm.keeps I.bk
  have off : ∀ {f : Addr}, s.heap.objs.size ≤ f → f ∉ frs X.stack := fun {f} big z => by
    rcases List.mem_cons.mp (I.stkSub f z) with e | e
    · exact absurd I.lt (by rw [← e]; exact Nat.not_lt.mpr big)
    · exact I.nofs big e
  refine PySem.W.kla_eval dfl ?_
  cases got : codeAmong pos tv.toList with
  | some cv =>
    obtain ⟨c', rfl, hc'⟩ := named pos cv got
    refine PySem.W.kla_makeFunctionHit (mg := X.mg) (c := c) (P := P) (ps := tv) (closure_ok fr) I.ok.glob (I.mod.glob.keeps I.bk) cd (tb.code.keeps I.bk)
      atP tri got bmP fun ctv hp tk kx big => ?_
    refine go hp.objs.size c' ((X.mg "__name__").getD .none) ctv H _
      (I.kept fun b o e => Heap.get?_push_of_some _ (kx b o e)) (ExtN.refl H) (fun _ e => e) tabs (Heap.get?_push_size _ rfl) (I.hok.fresh big) (off big) hc' (.inr hc')
  | none =>
    refine PySem.W.kla_makeFunction (mg := X.mg) (c := c) (P := P) (ps := tv) (closure_ok fr) I.ok.glob (I.mod.glob.keeps I.bk) cd (tb.code.keeps I.bk)
      atP tri got tb.gP bmP fun c' ctv hp tk kx lo hi rec' tab' => ?_
    obtain ⟨c2, oc, vs, t, e2, g1, g2, g3⟩ := rec'
    cases e2
    have big : s.heap.objs.size ≤ hp.objs.size := Nat.le_trans lo (Nat.le_of_lt hi)
    have new : H c' = none := I.hok.fresh lo
    have PC : P ≠ c' := ne_of_none hPt new
    let K : Hp := upd (upd H P (.tbl (tv ++ #[rawInt pos.line, rawInt pos.col, .ref c']))) c' (CodeO c' (lamQ X))
    have J := inv_table (q := lamQ X) (t' := tk) (more := #[rawInt pos.line, rawInt pos.col, .ref c'])
      (h' := hp.push (PySem.W.kla_obj "<lambda>" (lamQ X) prm bd sc (cloFrom X.env.cells sc.names []) ((X.mg "__name__").getD .none) c' ctv)) I hPt
      (fun b o hb e => Heap.get?_push_of_some _ (kx b o hb e)) (Heap.get?_push_of_some _ tab') lo ⟨oc, vs, t, Heap.get?_push_of_some _ g1, g2, g3⟩
    have kn : ExtN H K := fun b o e no => by
      show upd (upd H P _) c' _ b = _
      rw [upd_ne (ne_of_none e new), upd_ne (fun z => no tv (by rw [z, hPt] at e; exact (Option.some.inj e).symm))]
      exact e
    have back : ∀ b, K b = none → H b = none := fun b e => by
      by_cases z1 : b = c'
      · rw [z1]; exact new
      · by_cases z2 : b = P
        · have e' : upd (upd H P (.tbl (tv ++ #[rawInt pos.line, rawInt pos.col, .ref c']))) c' (CodeO c' (lamQ X)) b = none := e
          rw [upd_ne z1, z2, upd_same] at e'
          cases e'
        · have e' : upd (upd H P (.tbl (tv ++ #[rawInt pos.line, rawInt pos.col, .ref c']))) c' (CodeO c' (lamQ X)) b = none := e
          rwa [upd_ne z1, upd_ne z2] at e'
    have asL : (tv ++ #[rawInt pos.line, rawInt pos.col, .ref c']).toList = tv.toList ++ [rawInt pos.line, rawInt pos.col, .ref c'] := by simp
    refine go hp.objs.size c' ((X.mg "__name__").getD .none) ctv K _ J kn back (fun p hp' => ?_) (Heap.get?_push_size _ rfl) ?_ (off big) upd_same (.inl new)
    · by_cases hb : p.1 = P
      · rw [one p hp' hb, hb]
        refine ⟨tv ++ #[rawInt pos.line, rawInt pos.col, .ref c'], ?_, by rw [asL]; exact PySem.TriplesOk_snoc _ _ _ _ tri, fun p' cv z => ?_⟩
        · show upd (upd H P _) c' _ P = _
          rw [upd_ne PC, upd_same]
        · rw [asL] at z
          rcases among_app _ tri z with z | z
          · obtain ⟨c0, y1, y2⟩ := named p' cv z
            exact ⟨c0, y1, kn _ _ y2 codeO_ne⟩
          · exact ⟨c', z, upd_same⟩
      · obtain ⟨tv', a1, a2, a3⟩ := tabs p hp'
        refine ⟨tv', ?_, a2, fun p' cv z => ?_⟩
        · show upd (upd H P _) c' _ p.1 = _
          rw [upd_ne (ne_of_none a1 new), upd_ne hb]
          exact a1
        · obtain ⟨c0, y1, y2⟩ := a3 p' cv z
          exact ⟨c0, y1, kn _ _ y2 codeO_ne⟩
    · show upd (upd H P _) c' _ hp.objs.size = none
      rw [upd_ne (Nat.ne_of_gt hi), upd_ne (Nat.ne_of_gt (Nat.lt_of_lt_of_le (Heap.lt_size atP) big))]
      exact I.hok.fresh big
end
/-- the table of the code objects made here is known -/
def TabF (G : Gam) (X : Cx) : Prop := ∃ c P, X.env.code = .ref c ∧ TabB X.base X.mg c P ∧ (P, lamQ X) ∈ G.tabs ∧ ∀ p ∈ G.tabs, p.1 = P → p.2 = lamQ X
/-- x(lambda: c) -/
def sLamCall (G : Gam) (T : FnT) (x : Str) (c : Sm W) : Sm W := fun ρ S => if (G.fns.lookup x).isSome then (T x [.lam fun S => (c ρ S).bind toD] S).bind noL else .bad
theorem codeO_cell {K : PySem.W.Frag} {G : Gam} {ι : List Addr} {H : Hp} {S : Store} {c : Addr} {q : Str} (st : StOk K G ι S H) (h : H c = none ∨ H c = some (CodeO c q)) : c ∉ ι := fun m => by
  obtain ⟨n, hn, e⟩ := List.getElem_of_mem m
  have hl : n < S.length := by rw [← st.len]; exact hn
  obtain ⟨cl, hd⟩ : ∃ cl, S[n]? = some cl := ⟨S[n], by simp⟩
  have k := st.at_ n c _ (by rw [← e]; simp) hd
  rcases h with h | h
  · obtain ⟨o, z, _⟩ := k.hsome
    rw [h] at z; cases z
  · cases cl with
    | lst ds => obtain ⟨xs, q', _⟩ := k; rw [h] at q'; unfold CodeO at q'; cases q'
    | dct ks vs => obtain ⟨xs, q', _⟩ := k; rw [h] at q'; unfold CodeO at q'; cases q'
    | ins cn vs => obtain ⟨ci, dx, xs, _, q', _⟩ := k; rw [h] at q'; unfold CodeO at q'; cases q'
section
variable {X : Cx} {G : Gam} {Wx : WX} {k : Nat} {T : FnT} {x : Str} {params : Arguments} {body : Expr} {scope : Scope} {p lpos pos : Pos} {c : Sm W}
theorem sd_lamCall (C : CtxF G X Wx k T) (TF : TabF G X) (hg : glbB X.env.scope x = true) (hn : okName x = true) (L : lamSB X.env.scope scope = true) (hdef : defaultsOf params X.env = ([], []))
    (hbind : ∀ (q : Str) (cl : List (Str × Addr)) (pm cv ctv : Value), bindArgs (PySem.W.kla_fn "<lambda>" q params body scope cl pm cv ctv) ⟨[], []⟩ = pure [])
    (hbody : 3 ≤ k → ∀ (A : Around) (outer : List Env) (s : Shared) (H : Hp) (E : XK) (f c' : Addr), Room (k - 1) (A.deeper (lamEnv X scope s.heap.objs.size f c')) → PE (lamCx X A outer s H E scope f c') body (rdE X.K G (fun cls d _ H => E cls d H) c)) :
    PE X (.Call (.Name x p) [.Lambda params body scope lpos] [] pos) (rdE X.K G Wx (sLamCall G T x c)) := by
  refine ⟨fun pins s σ H Q I h => ?_⟩
  obtain ⟨ι, ρ, S, m, o⟩ := h
  unfold sLamCall at o
  cases hx : G.fns.lookup x with
  | none => rw [hx] at o; exact o.elim
  | some a =>
    rw [hx] at o
    simp only [Option.isSome_some, if_true] at o
    by_cases hk : 3 ≤ k
    · obtain ⟨cc, P, t1, t2, t3, t4⟩ := TF
      obtain ⟨n1, n2, n3⟩ := okName_iff hn
      have LS := lamS_by L
      refine wpAny_Call_Name_kw (ld_glob I (glbB_iff hg) (C.gfn x a hx).1 ?_ n1)
      refine PySem.W.callWith_K (h₀ := X.base) I.ok.mod.kin (C.gfn x a hx).2 ?_ (by rfl) (by rfl)
      show wpAny _ _ (spliced ((false, eval (.Lambda params body scope lpos) X.env) :: backTo pos (starEach [] X.env))) _ _ s
      refine Calls.spliced_cons (lam_mk3 I t2 t1 t3 t4 m.st.tabs hdef (LS.has I.ok) fun f c' pm ctv H1 s' I1 eN back T1 hf hfn hfr hco hor => ?_)
      refine Calls.spliced_nil ⟨I1.kIn, ?_⟩
      have e1 : Ext ι H ι H1 := ⟨⟨[], by simp, by simp⟩, fun b u _ e no => eN b u e no, back⟩
      have st1 : StOk X.K G ι S H1 := ⟨m.st.len, m.st.nd, fun n a c h1 h2 => by
        obtain ⟨u, hu, no⟩ := (m.st.at_ n a c h1 h2).hsome
        exact (m.st.at_ n a c h1 h2).ext (Rep.ext e1) fun w hw => by
          rw [hu] at hw; cases hw
          exact eN _ _ hu no, T1⟩
      exact run_goodL C hk (C.fns.lam x a hx) I1 LS hf hfn hfr (hbind _ _ _ _ _) (fun A outer s H E hr => hbody hk A outer s H E f c' hr) (m.env.ext e1) (codeO_cell m.st hor) hco st1 (o.ext e1)
    · have hb := C.low.bad 0 (by omega) x [.lam fun S => (c ρ S).bind toD] S
      have hb' : T x [.lam fun S => (c ρ S).bind toD] S = .bad := hb
      rw [hb'] at o
      exact o.elim
end
/-- x(), where x may be the lambda at hand -/
def sCallL (G : Gam) (T : FnT) (cf : Sm W) (ca : Sm (List W)) : Sm W := fun ρ S => match cf ρ S with
  | .ok (.lam run) S1 => (run S1).bind fun d S2 => .ok (.dat d) S2
  | _ => sCallN G T cf ca ρ S
section
variable {X : Cx} {G : Gam} {Wx : WX} {k : Nat} {T : FnT} {x : Str} {p pos : Pos} {g : Expr → Sm W}
theorem sd_callL (C : CtxF G X Wx k T) (lr : LamR G X) : PE X (.Call (.Name x p) [] [] pos) (rdE X.K G Wx (sCallL G T (eName G X.N X.env.scope x) (evs g []))) := by
  refine ⟨fun pins s σ H Q I h => ?_⟩
  obtain ⟨ι, ρ, S, m, o⟩ := h
  have other : Out X.K G ι H (fun c d H' => Wx c d σ H') (fun ι' H' _ w => ∀ v, RepW X.K G ι' H' v w → Q v H') (sCallN G T (eName G X.N X.env.scope x) (evs g []) ρ S) → wpAny (model X.prog X.w) X.A (eval (.Call (.Name x p) [] [] pos) X.env) (EP X pins σ Q) X.xe s := fun o =>
    (sd_callN (es := []) (g := g) (pos := pos) (p := p) C (fun _ h => absurd h (by simp)) rfl).run pins s σ H Q I ⟨ι, ρ, S, m, o⟩
  unfold sCallL at o
  split at o
  · rename_i run S1 hc
    refine wpAny_Call_Name_kw (thn ((sd_name (Wx := Wx) C.toCtx.toCtxN (pos := p) (x := x)).run pins s σ H (fun v H1 => ∃ ι1, Ext ι H ι1 H1 ∧ StOk X.K G ι1 S1 H1 ∧ RepW X.K G ι1 H1 v (.lam run)) I ⟨ι, ρ, S, m, by
      rw [hc]
      exact fun ι1 H1 e1 s1 v rv => ⟨ι1, e1, s1, rv⟩⟩) fun u s1 ⟨v, H1, I1, r1, ι1, e1, st1, rw1⟩ => ?_)
    cases rw1 with
    | @lam l hl hcap =>
      cases r1
      refine lr l hl X.pn X.xe Wx pins σ H1 s1 ι1 S1 Q C.tk I1 hcap st1 ?_ pos
      have o' := Out.ext e1 o
      cases hrun : l.run S1 with
      | ok d S2 =>
        rw [hrun] at o'
        exact fun ι2 H2 e2 s2 v rv => o' ι2 H2 e2 s2 v (.dat rv)
      | ex c fs S2 => rw [hrun] at o'; exact o'
      | bad => rw [hrun] at o'; exact o'
  · exact other o
end
/-- the one at hand may be called; one may be made -/
structure Lm where
  cl : Bool
  nu : Bool
structure CtxM (G : Gam) (X : Cx) (Wx : WX) (k : Nat) (T : FnT) (m : Lm) : Prop extends CtxF G X Wx k T where
  lamr : m.cl = true → LamR G X
  tabf : m.nu = true → TabF G X
abbrev noLm : Lm := ⟨false, false⟩
theorem CtxF.noM {G : Gam} {X : Cx} {Wx : WX} {k : Nat} {T : FnT} (C : CtxF G X Wx k T) : CtxM G X Wx k T noLm := { C with lamr := (fun h => nomatch h), tabf := (fun h => nomatch h) }
/-- no parameters -/
def noPrm : Arguments → Bool
  | ⟨[], [], none, [], [], none, []⟩ => true
  | _ => false
theorem noPrm_def {p : Arguments} {env : Env} (h : noPrm p = true) : defaultsOf p env = ([], []) := by
  unfold noPrm at h
  split at h
  · rfl
  · cases h
theorem noPrm_bind {p : Arguments} {q : Str} {cl : List (Str × Addr)} {pm cv ctv : Value} {body : Expr} {scope : Scope} (h : noPrm p = true) : bindArgs (PySem.W.kla_fn "<lambda>" q p body scope cl pm cv ctv) ⟨[], []⟩ = pure [] := by
  unfold noPrm at h
  split at h
  · rfl
  · cases h
end EC
namespace EC
open PySem PySem.Spec PyProof.Rows L2
/-- the context of a def's own statements -/
structure CtxS (G : Gam) (X : Cx) (Wx : WX) (k : Nat) (T : FnT) : Prop extends CtxF G X Wx k T where
  kind : X.env.scope.kind = .function
  fnc : ∀ x, X.env.scope.names.lookup x = some .cell → X.fn x = true
  pass : PassesOwn (model X.prog X.w) X.A X.env X.xe
  stk : X.stack = X.env :: X.outer
  frm : X.env.frame = some X.env.locals
  lamr : LamR G X
section
variable {X : Cx} {G : Gam} {Wx : WX} {k : Nat} {T : FnT} {pos pos' p : Pos} {tg e e2 : Expr} {es : List Expr} {c c2 c3 : Sm W} {ca : Sm (List W)} {g : Expr → Sm W}
def sAsg (c : Sm W) (tgt : W → Env0' → Option Env0') : Ss := fun ρ S => (c ρ S).toS ρ fun w S1 => match tgt w ρ with
  | some ρ1 => .nx ρ1 S1
  | none => .bad
theorem asg_rd {K : PySem.W.Frag} {is : List Nat} {tgt : W → Env0' → Option Env0'} {D : Ends} {σ : L2.St} {H : Hp} (h : rdS K G Wx (sAsg c tgt) D σ H) : tAsg (rdE K G Wx c) (rdG K G is tgt) D σ H := by
  obtain ⟨ι, ρ, S, m, o⟩ := h
  refine ⟨ι, ρ, S, m, (OutS.res m.env o).imp fun ι1 H1 S1 w e1 s1 o1 v rv => ?_⟩
  split at o1
  · rename_i ρ1 ht
    exact ⟨ι1, ρ, S1, w, ρ1, ⟨m.env.ext e1, s1⟩, rv, ht, fun σ' _ m' => o1.nxt m'⟩
  · exact o1.elim
def notTup : Expr → Bool
  | .Tuple .. => false
  | _ => true
theorem h1_tgt {tg : Expr} {env : Env} (h : okTgt tg = true) : (assignEach [tg] env).map (·.2) = [assign tg env] := by
  cases tg <;> first | rfl | cases h
theorem hw_none {tg e : Expr} {env : Env} (h : okTgt tg = true) (h2 : notTup tg = true ∨ notTup e = true) : swappedStores [tg] e env = pure none := by
  cases tg with
  | Name x p => cases e <;> rfl
  | Tuple es k p =>
    rcases h2 with h2 | h2
    · cases h2
    · cases e <;> first | rfl | cases h2
  | _ => cases h
/-- target = value, neither a comprehension nor a tuple by a tuple -/
theorem ss_asg (C : CtxS G X Wx k T) (he : PE X e (rdE X.K G Wx c)) (ho : okTgt tg = true) (hn : notComp e = true) (ht : notTup tg = true ∨ notTup e = true) : PS X (.Assign [tg] e pos) (rdS X.K G Wx (sAsg c (setT true X.N X.env.scope tg))) :=
  PS.imp (ps_asg he (sg_any (G := G) (cells := true) C.nd (locOk_own fun _ => C.fnc) C.calm ho) (sw_notComp hn) (hw_none ho ht) (h1_tgt ho)) fun D σ H h => asg_rd h
def swB (sc : Scope) (t : Str) (tp vp : Pos) (scope : Scope) : Bool := (sc.names.lookup t == some .local) && (tp.line == vp.line) && !(scope.names.any fun (n, k) => n == t && (k == .local || k == .cell))
def swOff (sc : Scope) (p : Pos) (scope : Scope) : Expr → Bool
  | .Name t tp => !swB sc t tp p scope
  | _ => true
theorem sw_comp {elt : Expr} {gs : List Comprehension} {scope : Scope} {pos : Pos} {tg : Expr} {l : Nat} {env : Env} (h : swOff env.scope pos scope tg = true) : swapsWith (.ListComp elt gs scope pos) (some tg) l env = pure false := by
  cases tg with
  | Name t tp =>
    have h : (!swB env.scope t tp pos scope) = true := h
    rw [Bool.not_eq_true'] at h
    unfold swB at h
    have h2 : (env.kindOf t == some .local && tp.line == pos.line && !(scope.names.any fun (n, k) => n == t && (k == .local || k == .cell))) = false := h
    show (pure (env.blockKind == .function && env.kindOf t == some .local && tp.line == pos.line && !(scope.names.any fun (n, k) => n == t && (k == .local || k == .cell))) : Sem Bool) = pure false
    rw [Bool.and_assoc, Bool.and_assoc, ← Bool.and_assoc (env.kindOf t == some .local), h2, Bool.and_false]
  | _ => rfl
theorem ss_asgLc {elt : Expr} {gs : List Comprehension} {scope : Scope} (C : CtxS G X Wx k T) (he : PE X (.ListComp elt gs scope p) (rdE X.K G Wx c)) (ho : okTgt tg = true) (hn : swOff X.env.scope p scope tg = true) :
    PS X (.Assign [tg] (.ListComp elt gs scope p) pos) (rdS X.K G Wx (sAsg c (setT true X.N X.env.scope tg))) :=
  PS.imp (ps_asg he (sg_any (G := G) (cells := true) C.nd (locOk_own fun _ => C.fnc) C.calm ho) (sw_comp hn) (hw_none ho (.inr rfl)) (h1_tgt ho)) fun D σ H h => asg_rd h
theorem ss_setLc {x : Str} {px : Pos} {iter elt : Expr} {ifs : List Expr} {scope : Scope} {src : Sm Src} {t : Sm Bool} {e : Sm W} {i : Nat} (bx : Bool) (C : CtxS G X Wx k T) (hi : PI X tg iter (rdI X.K G Wx src)) (hb : blkC X.N X.env.scope scope (ownOf X.N scope) = true) (ho : okTgt tg = true) (hv : (tgIx X.N tg).all (fun i => decide (i ∈ (ownOf X.N scope).map (·.2))) = true)
    (ht : ∀ (s : Shared) (H : Hp) (Cc : Addr) (cl : List (Str × Addr)) (fp : List Addr), PTs (X.blk s H scope (compEnvC scope cl Cc X.env) fp) ifs (rdT X.K G noWx t))
    (he : ∀ (s : Shared) (H : Hp) (Cc : Addr) (cl : List (Str × Addr)) (fp : List Addr), PE (X.blk s H scope (compEnvC scope cl Cc X.env) fp) elt (rdE X.K G noWx e)) (hs : ∀ x, foldedSetIterable iter X.env x = pure x)
    (hx : ixOf x X.N = some i) (hsw : swB X.env.scope x px p scope = true) :
    PS X (.Assign [.Name x px] (.ListComp elt [⟨tg, iter, ifs, 0⟩] scope p) pos) (rdS X.K G Wx (sAsg (sLc src (setT true X.N scope tg) t e ((ownOf X.N scope).map (·.2)) bx) (setT true X.N X.env.scope (.Name x px)))) := by
  have hg : ∀ (s : Shared) (H : Hp) (Cc : Addr) (cl : List (Str × Addr)) (fp : List Addr), PG (X.blk s H scope (compEnvC scope cl Cc X.env) fp) tg (rdG X.K G (tgIx X.N tg) (setT true X.N scope tg)) := fun s H Cc cl fp =>
    sg_any (X := X.blk s H scope (compEnvC scope cl Cc X.env) fp) (cells := true) C.nd locOk_blk C.calm ho
  have hsw' := hsw
  unfold swB at hsw
  simp only [Bool.and_eq_true, Bool.not_eq_true'] at hsw
  obtain ⟨⟨w1, w2⟩, w3⟩ := hsw
  have w1 : X.env.scope.names.lookup x = some .local := eq_of_beq w1
  refine PS.imp (ps_setLc C.calm C.nd (ixOf_get hx) w1 (sw_true C.kind w1 w2 w3) hi (blkOk_by hb) hg ht he hs) fun D σ H h => ?_
  have hh := asg_rd (is := [i]) h
  obtain ⟨ι, ρ, S, m, o⟩ := hh
  refine ⟨ι, ρ, S, m, o.bind.imp fun ι1 H1 S1 sr e1 s1 o1 J hJ L hL => ?_⟩
  have hv' : ∀ i ∈ tgIx X.N tg, i ∈ (ownOf X.N scope).map (·.2) := fun i hi => by
    have := List.all_eq_true.mp hv i hi
    simpa using this
  have o2 := o1.imp (Q := fun ι' H' _ w => ∀ v, RepW X.K G ι' H' v w → gName i v σ H' D.nx) fun ι' H' S' w e' s' h v rv => by
    obtain ⟨ι2, ρ2, S2, w2, ρ3, m2, r2, hs2, q2⟩ := h v rv
    have hl : locB true X.env.scope x = true := by unfold locB; rw [w1]
    have hs2 : setN true X.N X.env.scope x w2 ρ2 = some ρ3 := hs2
    unfold setN at hs2
    rw [if_pos hl, hx] at hs2
    cases hs2
    exact q2 _ (Same.set i _) (m2.set r2 i)
  exact lc_walk hv' (m.env.ext e1) hJ hL s1 o2
def putI (ci : ClsI) (f : Str) (d : D) (vs : List D) : Option (List D) := match ixOf f ci.fields with
  | some i => if i < vs.length then some (vs.set i d) else if i = vs.length then some (vs ++ [d]) else none
  | none => none
def putFld (G : Gam) (f : Str) (w : W) (d : D) (S : Store) : Option Store := match w with
  | .cell n => match S[n]? with
    | some (.ins c vs) => match G.clss.lookup c with
      | some ci => match putI ci f d vs with
        | some vs' => some (S.set n (.ins c vs'))
        | none => none
      | none => none
    | _ => none
  | _ => none
def sFldAsg (G : Gam) (f : Str) (cv co : Sm W) : Ss := fun ρ S => (cv ρ S).toS ρ fun wv S1 => (co ρ S1).toS ρ fun wo S2 => match wv with
  | .dat d => match putFld G f wo d S2 with
    | some S3 => .nx ρ S3
    | none => .bad
  | _ => .bad
theorem putF_zip {f : Str} {v : V} : ∀ {fs : List Str} {xs : List V} {i : Nat}, fs.Nodup → ixOf f fs = some i → (i < xs.length → putF f v (fs.zip xs) = fs.zip (xs.set i v)) ∧ (i = xs.length → putF f v (fs.zip xs) = fs.zip (xs ++ [v]))
  | [], _, _, _, h => by cases h
  | g :: fs, [], i, nd, h => by
    refine ⟨fun z => absurd z (Nat.not_lt_zero _), fun z => ?_⟩
    unfold ixOf at h
    by_cases q : g = f
    · subst q; simp [putF]
    · rw [if_neg q] at h
      cases hj : ixOf f fs with
      | none => rw [hj] at h; cases h
      | some j => rw [hj] at h; cases h; cases z
  | g :: fs, x :: xs, i, nd, h => by
    unfold ixOf at h
    rw [List.zip_cons_cons]
    by_cases q : g = f
    · rw [if_pos q] at h; cases h
      refine ⟨fun _ => ?_, fun z => by cases z⟩
      rw [putF, if_pos q, List.set_cons_zero, List.zip_cons_cons]
    · rw [if_neg q] at h
      cases hj : ixOf f fs with
      | none => rw [hj] at h; cases h
      | some j =>
        rw [hj] at h; cases h
        obtain ⟨z1, z2⟩ := putF_zip (v := v) (xs := xs) (List.nodup_cons.mp nd).2 hj
        refine ⟨fun z => ?_, fun z => ?_⟩
        · rw [putF, if_neg q, z1 (by simpa using z), List.set_cons_succ, List.zip_cons_cons]
        · rw [putF, if_neg q, z2 (by simpa using z), List.cons_append, List.zip_cons_cons]
theorem ss_fld {o : Expr} {f : Str} (C : CtxS G X Wx k T) (hv : PE X e (rdE X.K G Wx c)) (ho : PE X o (rdE X.K G Wx c2)) (hn : notComp e = true) : PS X (.Assign [.Attribute o f pos'] e pos) (rdS X.K G Wx (sFldAsg G f c c2)) := by
  refine PS.imp (ps_fld ho hv (sw_notComp hn)) fun D σ H ⟨ι, ρ, S, m, o⟩ => ?_
  refine ⟨ι, ρ, S, m, (OutS.res m.env o).imp fun ι1 H1 S1 wv e1 s1 o1 y ry => ?_⟩
  refine ⟨ι1, ρ, S1, ⟨m.env.ext e1, s1⟩, (OutS.res (m.env.ext e1) o1).imp fun ι2 H2 S2 wo e2 s2 o2 x rx => ?_⟩
  split at o2
  · rename_i d
    cases ry with
    | dat ry =>
      split at o2
      · rename_i S3 hp
        unfold putFld at hp
        split at hp
        · rename_i n
          split at hp
          · rename_i cn vs hS
            split at hp
            · rename_i ci hci
              split at hp
              · rename_i vs' hvs
                cases hp
                cases rx with
                | @cell _ a ha =>
                  obtain ⟨ci', dx, xs, h0, h1, h2, h3⟩ := s2.at_ n a _ ha hS
                  rw [hci] at h0; cases h0
                  unfold putI at hvs
                  split at hvs
                  · rename_i i hi
                    obtain ⟨few, nd⟩ := C.clf.few cn ci hci
                    obtain ⟨z1, z2⟩ := putF_zip (v := y) (xs := xs) nd hi
                    have ry2 := ry.ext e2
                    have hil : i < ci.fields.length := (List.getElem?_eq_some_iff.mp (ixOf_get hi)).1
                    have hzl : (ci.fields.zip xs).length < 1000 := by rw [List.length_zip]; have := Nat.min_le_left ci.fields.length xs.length; omega
                    refine ⟨a, ci.C, dx, _, rfl, h1, (C.isf.own cn ci hci).1, C.clf.flds cn ci f hci (ixOf_mem hi), hzl, ?_⟩
                    split at hvs
                    · rename_i hl
                      cases hvs
                      rw [z1 (by rw [h3.length]; exact hl)]
                      obtain ⟨s3, e3⟩ := s2.setIns (dx := dx) ha hS hci (by rw [List.length_set]; exact h2) (h3.set ry2 i)
                      exact o2 _ _ _ e3 ⟨((m.env.ext e1).ext e2).ext e3, s3⟩
                    · split at hvs
                      · rename_i hl
                        cases hvs
                        rw [z2 (by rw [h3.length]; exact hl)]
                        obtain ⟨s3, e3⟩ := s2.setIns (dx := dx) ha hS hci (by rw [List.length_append, List.length_singleton, h3.length]; omega) (h3.append (.cons ry2 .nil))
                        exact o2 _ _ _ e3 ⟨((m.env.ext e1).ext e2).ext e3, s3⟩
                      · cases hvs
                  · cases hvs
              · cases hp
            · cases hp
          · cases hp
        · cases hp
      · exact o2.elim
  · exact o2.elim
def nodupB (ks : List Key) : Bool := decide ks.Nodup
def putDct (w : W) (k : Option Key) (d : D) (S : Store) : Option Store := match w, k with
  | .cell n, some q => match S[n]? with
    | some (.dct ks vs) => if nodupB ks && decide (ks.length < sizeLine) then some (S.set n (.dct (putKey q ks) (putVal q d ks vs))) else none
    | _ => none
  | _, _ => none
def sPut (cv co ci : Sm W) : Ss := fun ρ S => (cv ρ S).toS ρ fun wv S1 => (co ρ S1).toS ρ fun wo S2 => (ci ρ S2).toS ρ fun wi S3 => match wv, wi with
  | .dat d, .dat k => match putDct wo (keyOf? k) d S3 with
    | some S4 => .nx ρ S4
    | none => .bad
  | _, _ => .bad
theorem ss_put {o i : Expr} (C : CtxS G X Wx k T) (hv : PE X e (rdE X.K G Wx c)) (ho : PE X o (rdE X.K G Wx c2)) (hi : PE X i (rdE X.K G Wx c3)) (hn : notComp e = true) : PS X (.Assign [.Subscript o i pos'] e pos) (rdS X.K G Wx (sPut c c2 c3)) := by
  refine PS.imp (ps_dput (by have := C.un; omega) ho hi hv (sw_notComp hn)) fun D σ H ⟨ι, ρ, S, m, o⟩ => ?_
  refine ⟨ι, ρ, S, m, (OutS.res m.env o).imp fun ι1 H1 S1 wv e1 s1 o1 y ry => ?_⟩
  refine ⟨ι1, ρ, S1, ⟨m.env.ext e1, s1⟩, (OutS.res (m.env.ext e1) o1).imp fun ι2 H2 S2 wo e2 s2 o2 x rx => ?_⟩
  refine ⟨ι2, ρ, S2, ⟨(m.env.ext e1).ext e2, s2⟩, (OutS.res ((m.env.ext e1).ext e2) o2).imp fun ι3 H3 S3 wi e3 s3 o3 z rz => ?_⟩
  split at o3
  · rename_i d kd
    cases ry with
    | dat ry =>
      cases rz with
      | dat rz =>
        split at o3
        · rename_i S4 hp
          unfold putDct at hp
          split at hp
          · rename_i n q hq
            split at hp
            · rename_i ks vs hS
              split at hp
              · rename_i hb
                cases hp
                simp only [Bool.and_eq_true, decide_eq_true_eq, nodupB] at hb
                cases rx with
                | @cell _ a ha =>
                  have ha3 := e3.idx ha
                  obtain ⟨xs, h1, hl, h2⟩ := s3.at_ n a _ ha3 hS
                  have ry3 := (ry.ext e2).ext e3
                  obtain ⟨s4, e4⟩ := s3.setDct ha3 hS (putKey_length q y ks xs hl) (h2.put ry3)
                  have gk := keyOf_obs (.dat rz) hq
                  rw [← putK_zip q y ks xs hl hb.1] at s4 e4
                  refine ⟨a, _, rfl, ?_, o3 _ _ _ e4 ⟨(((m.env.ext e1).ext e2).ext e3).ext e4, s4⟩⟩
                  rw [gk]
                  exact DPut.k h1 (by rw [List.length_zip]; have := Nat.min_le_left ks.length xs.length; omega)
              · cases hp
            · cases hp
          · cases hp
        · exact o3.elim
  · exact o3.elim
def augI : Operator → Int → Int → Option Int
  | .Add, a, b => some (a + b)
  | .Sub, a, b => some (a - b)
  | _, _, _ => none
def rAugI (op : Operator) : V → V → Hp → VK → Prop := fun x y H Q => ∃ i j z, x = .int i ∧ y = .int j ∧ augI op i j = some z ∧ Q (.int z) H
theorem in_aug (op : Operator) : InOp X op (rAugI op) := by
  intro pins s σ H x y u v Q I rx ry h
  obtain ⟨i, j, z, h1, h2, hz, q⟩ := h
  cases op <;> simp only [augI] at hz <;> first | cases hz | skip
  · exact in_add pins s σ H x y u v Q I rx ry ⟨i, j, h1, h2, q⟩
  · exact in_sub pins s σ H x y u v Q I rx ry ⟨i, j, h1, h2, q⟩
def sAugN (i : Nat) (op : Operator) (c : Sm W) : Ss := fun ρ S => match ρ[i]? with
  | some (some (.dat (.int a))) => (c ρ S).toS ρ fun w S1 => match w with
    | .dat (.int b) => match augI op a b with
      | some z => .nx (ρ.set i (some (.dat (.int z)))) S1
      | none => .bad
    | _ => .bad
  | _ => .bad
theorem ss_augN {x : Str} {i : Nat} {op : Operator} (C : CtxS G X Wx k T) (he : PE X e (rdE X.K G Wx c)) (hi : ixOf x X.N = some i) (hl : locB true X.env.scope x = true) : PS X (.AugAssign (.Name x pos') op e pos) (rdS X.K G Wx (sAugN i op c)) := by
  have hx : Loc X.env.scope x ∧ (X.fn x = true ∨ X.env.scope.names.lookup x = some .local) := by
    unfold locB at hl
    split at hl
    · exact ⟨.inl (by assumption), .inr (by assumption)⟩
    · exact ⟨.inr (by assumption), .inl (C.fnc x (by assumption))⟩
    · cases hl
  refine PS.imp (ps_aug C.nd (ixOf_get hi) hx.1 he (in_aug op) hx.2) fun D σ H ⟨ι, ρ, S, m, o⟩ => ?_
  unfold sAugN at o
  split at o
  · rename_i a ha
    obtain ⟨v, h1, h2⟩ := m.env.at_ i _ ha
    cases h2 with
    | dat h2 =>
      cases h2
      refine ⟨_, h1, ι, ρ, S, m, (OutS.res m.env o).imp fun ι1 H1 S1 w e1 s1 o1 y ry => ?_⟩
      split at o1
      · rename_i b
        split at o1
        · rename_i z hz
          cases ry with
          | dat ry => cases ry; exact ⟨a, b, z, rfl, rfl, hz, o1.nxt ((⟨m.env.ext e1, s1⟩ : MtE X.K G ι1 ρ S1 σ H1).set (.dat (.int z)) i)⟩
        · exact o1.elim
      · exact o1.elim
  · exact o.elim
def sAugF (G : Gam) (f : Str) (op : Operator) (co cv : Sm W) : Ss := fun ρ S => (co ρ S).toS ρ fun wo S1 => match wo with
  | .cell n => match fldD G f ((S1[n]?).elim .non Cell.frz) with
    | some (.int a) => (cv ρ S1).toS ρ fun wv S2 => match wv with
      | .dat (.int b) => match augI op a b with
        | some z => match S1[n]?, S2[n]? with
          | some (.ins c1 _), some (.ins c2 vs2) => if c1 = c2 then match G.clss.lookup c2 with
            | some ci => match ixOf f ci.fields with
              | some i => if i < vs2.length then .nx ρ (S2.set n (.ins c2 (vs2.set i (.int z)))) else .bad
              | none => .bad
            | none => .bad
            else .bad
          | _, _ => .bad
        | none => .bad
      | _ => .bad
    | _ => .bad
  | _ => .bad
theorem ss_augF {o : Expr} {f : Str} {op : Operator} (C : CtxS G X Wx k T) (ho : PE X o (rdE X.K G Wx c2)) (he : PE X e (rdE X.K G Wx c)) : PS X (.AugAssign (.Attribute o f pos') op e pos) (rdS X.K G Wx (sAugF G f op c2 c)) := by
  refine PS.imp (ps_fldaug ho he (in_aug op)) fun D σ H ⟨ι, ρ, S, m, o⟩ => ?_
  refine ⟨ι, ρ, S, m, (OutS.res m.env o).imp fun ι1 H1 S1 wo e1 s1 o1 x rx => ?_⟩
  split at o1
  · rename_i n
    split at o1
    · rename_i a hf
      cases rx with
      | @cell _ ad ha =>
        cases hS1 : S1[n]? with
        | none => rw [hS1] at hf; cases hf
        | some c0 =>
          rw [hS1] at hf
          cases c0 with
          | ins cn vs =>
            obtain ⟨ci, dx, xs, h0, h1, h2, h3⟩ := s1.at_ n ad _ ha hS1
            have hf : fldD G f (.ins cn vs) = some (.int a) := hf
            unfold fldD at hf
            simp only [h0] at hf
            split at hf
            · rename_i i hi
              obtain ⟨v, g5, g6⟩ := h3.get hf
              cases g6
              obtain ⟨few, nd⟩ := C.clf.few cn ci h0
              refine ⟨ad, ci.C, dx, _, _, rfl, h1, (C.isf.own cn ci h0).1, C.clf.flds cn ci f h0 (ixOf_mem hi), lookup_zip hi g5, ι1, ρ, S1, ⟨m.env.ext e1, s1⟩, (OutS.res (m.env.ext e1) o1).imp fun ι2 H2 S2 wv e2 s2 o2 y ry => ?_⟩
              split at o2
              · rename_i b
                split at o2
                · rename_i z hz
                  cases ry with
                  | dat ry =>
                    cases ry
                    rw [hS1] at o2
                    refine ⟨a, b, z, rfl, rfl, hz, ?_⟩
                    split at o2
                    · rename_i c1 vs1 c2' vs2 q1 hS2
                      cases q1
                      split at o2
                      · rename_i hcc
                        subst hcc
                        simp only [h0, hi] at o2
                        split at o2
                        · rename_i hlt
                          have ha2 := e2.idx ha
                          obtain ⟨ci', dx', xs', k0, k1, k2, k3⟩ := s2.at_ n ad _ ha2 hS2
                          rw [h0] at k0; cases k0
                          obtain ⟨z1, _⟩ := putF_zip (v := V.int z) (xs := xs') nd hi
                          have hzl : (ci.fields.zip xs').length < 1000 := by rw [List.length_zip]; have := Nat.min_le_left ci.fields.length xs'.length; omega
                          refine ⟨dx', _, k1, hzl, ?_⟩
                          rw [z1 (by rw [k3.length]; exact hlt)]
                          obtain ⟨s3, e3⟩ := s2.setIns (dx := dx') ha2 hS2 h0 (by rw [List.length_set]; exact k2) (k3.set (.int z) i)
                          exact o2 _ _ _ e3 ⟨((m.env.ext e1).ext e2).ext e3, s3⟩
                        · exact o2.elim
                      · exact o2.elim
                    · exact o2.elim
                · exact o2.elim
              · exact o2.elim
            · cases hf
          | _ => cases hf
    · exact o1.elim
  · exact o1.elim
end
end EC
namespace EC
open PySem PySem.Spec PyProof.Rows L2
def isStar : Expr → Bool
  | .Starred .. => true
  | _ => false
def tupNames (sc : Scope) (ts : List Expr) : List Str := ts.filterMap fun
  | .Name id pos => if sc.names.lookup id == some .local && pos.line == (ts.head?.map (·.pos.line)).getD 0 then some id else none
  | _ => none
def swPure (sc : Scope) (ts vs : List Expr) : Option (Option (List Str)) :=
  if (!(ts.length == 2 || ts.length == 3) || vs.length != ts.length) = true then some none
  else if (vs.any isStar) = true then some none
  else if ((tupNames sc ts).length != ts.length || (tupNames sc ts).eraseDups.length != (tupNames sc ts).length) = true then some none
  else if (vs.all (foldedForSure 8)) = true then some none
  else if (vs.all (constantsAlone 8)) = true then none
  else some (some (tupNames sc ts))
theorem any_star (vs : List Expr) : (vs.any fun | .Starred .. => true | _ => false) = vs.any isStar := rfl
theorem sw_pure {env : Env} {ts vs : List Expr} {k k2 : Nat} {p p2 : Pos} {r : Option (List Str)} (hk : env.scope.kind = .function) (h : swPure env.scope ts vs = some r) : swappedStores [.Tuple ts k p] (.Tuple vs k2 p2) env = pure r := by
  have hb : env.blockKind = .function := by unfold Env.blockKind; rw [hk]; rfl
  have e0 : swappedStores [.Tuple ts k p] (.Tuple vs k2 p2) env =
      (if (!(ts.length == 2 || ts.length == 3) || vs.length != ts.length || env.blockKind != .function) = true then pure none
       else if (vs.any isStar) = true then pure none
       else if ((tupNames env.scope ts).length != ts.length || (tupNames env.scope ts).eraseDups.length != (tupNames env.scope ts).length) = true then pure none
       else if (vs.all (foldedForSure 8)) = true then pure none
       else if (vs.all (constantsAlone 8)) = true then (unsupported "assign.tuple-of-constant-expressions:order-of-the-stores" >>= fun (_ : Unit) => pure (some (tupNames env.scope ts))) else pure (some (tupNames env.scope ts))) := by
    unfold swappedStores
    rfl
  rw [e0, hb]
  unfold swPure at h
  split at h
  · rename_i c; cases h; rw [if_pos (by rw [c]; rfl)]
  · rename_i c
    rw [if_neg (by simpa using c)]
    split at h
    · rename_i c; cases h; rw [if_pos c]
    · rename_i c
      rw [if_neg c]
      split at h
      · rename_i c; cases h; rw [if_pos c]
      · rename_i c
        rw [if_neg c]
        split at h
        · rename_i c; cases h; rw [if_pos c]
        · rename_i c
          rw [if_neg c]
          split at h
          · cases h
          · rename_i c; cases h; rw [if_neg c]
def sTT (ca : Sm (List W)) (tgt : List W → Env0' → Option Env0') : Ss := fun ρ S => (ca ρ S).toS ρ fun ws S1 => if fits ws.length = true then match tgt ws ρ with
  | some ρ1 => .nx ρ1 S1
  | none => .bad
  else .bad
section
variable {X : Cx} {G : Gam} {Wx : WX} {k0 : Nat} {T : FnT} {pos p p2 : Pos} {ts vs : List Expr} {k k2 : Nat} {g : Expr → Sm W}
theorem ss_tt (C : CtxS G X Wx k0 T) (ha : ∀ e ∈ vs, PE X e (rdE X.K G Wx (g e))) (ht : ts.all isName = true) (hw : swPure X.env.scope ts vs = some none) :
    PS X (.Assign [.Tuple ts k p] (.Tuple vs k2 p2) pos) (rdS X.K G Wx (sTT (evs g vs) (setNs true X.N X.env.scope ts))) := by
  obtain ⟨a1, a2⟩ := assignEach_names (env := X.env) ts ht
  have pt := pe_tup (x1 := k2) (pos := p2) (sd_args (G := G) (Wx := Wx) vs ha)
  have pg := pg_tup (k := k) (pos := p) C.calm (sgs_names (G := G) (cells := true) (k := k) (tp := p) C.nd (locOk_own fun _ => C.fnc) ts ht) a1 a2
  refine PS.imp (ps_asg pt pg (by rfl) (sw_pure C.kind hw) (by rfl)) fun D σ H ⟨ι, ρ, S, m, o⟩ => ?_
  refine ⟨ι, ρ, S, m, (OutS.res m.env o).imp fun ι1 H1 S1 ws e1 s1 o1 xs rxs => ?_⟩
  split at o1
  · rename_i hf
    refine ⟨by rw [rxs.length]; exact fits_iff.mp hf, fun q hq => ?_⟩
    split at o1
    · rename_i ρ1 hset
      have e2 : Ext ι1 H1 ι1 (upd H1 q (.tup xs)) := Ext.new hq
      have hl := setNs_length hset
      refine ⟨q, xs, rfl, .of upd_same, by rw [rxs.length, hl], ι1, ρ, S1, ws, ρ1, ⟨(m.env.ext e1).ext e2, s1.new hq⟩, rxs.ext e2, hset, fun σ' _ m' => ?_⟩
      exact o1 _ _ _ e2 m'
    · exact o1.elim
  · exact o1.elim
theorem ss_tt2 {x y : Str} {px py : Pos} {a b : Expr} {i j : Nat} (C : CtxS G X Wx k0 T) (ha : ∀ e ∈ [a, b], PE X e (rdE X.K G Wx (g e))) (hw : swPure X.env.scope [.Name x px, .Name y py] [a, b] = some (some [x, y])) (hi : ixOf x X.N = some i) (hj : ixOf y X.N = some j) (hij : i ≠ j)
    (hx : X.env.scope.names.lookup x = some .local) (hy : X.env.scope.names.lookup y = some .local) :
    PS X (.Assign [.Tuple [.Name x px, .Name y py] k p] (.Tuple [a, b] k2 p2) pos) (rdS X.K G Wx (sTT (evs g [a, b]) (setNs true X.N X.env.scope [.Name x px, .Name y py]))) := by
  refine PS.imp (ps_par (ta := rdA X.K G Wx (evs g [a, b])) C.calm C.nd (ixOf_get hi) (ixOf_get hj) hij hx hy (sd_args [a, b] ha) (sw_pure C.kind hw)) fun D σ H ⟨ι, ρ, S, m, o⟩ => ?_
  refine ⟨ι, ρ, S, m, (OutS.res m.env o).imp fun ι1 H1 S1 ws e1 s1 o1 xs rxs => ?_⟩
  split at o1
  · split at o1
    · rename_i ρ1 hset
      have l1 : locB true X.env.scope x = true := by unfold locB; rw [hx]
      have l2 : locB true X.env.scope y = true := by unfold locB; rw [hy]
      cases rxs with
      | nil => simp [setNs] at hset
      | @cons v1 vs w1 ws r1 rxs =>
        cases rxs with
        | nil => simp [setNs, setN, l1, hi] at hset
        | @cons v2 vs w2 ws r2 rxs =>
          cases rxs with
          | cons _ _ => simp [setNs, setN, l1, l2, hi, hj] at hset
          | nil =>
            simp only [setNs, setN, l1, l2, hi, hj, if_true, Option.some.injEq] at hset
            subst hset
            exact ⟨v1, v2, rfl, o1.nxt (((⟨m.env.ext e1, s1⟩ : MtE X.K G ι1 ρ S1 σ H1).set r1 i).set r2 j)⟩
    · exact o1.elim
  · exact o1.elim
theorem ss_tt3 {x y z : Str} {px py pz : Pos} {a b c : Expr} {i j l : Nat} (C : CtxS G X Wx k0 T) (ha : ∀ e ∈ [a, b, c], PE X e (rdE X.K G Wx (g e))) (hw : swPure X.env.scope [.Name x px, .Name y py, .Name z pz] [a, b, c] = some (some [x, y, z])) (hi : ixOf x X.N = some i) (hj : ixOf y X.N = some j) (hl : ixOf z X.N = some l)
    (hij : i ≠ j) (hil : i ≠ l) (hjl : j ≠ l) (hx : X.env.scope.names.lookup x = some .local) (hy : X.env.scope.names.lookup y = some .local) (hz : X.env.scope.names.lookup z = some .local) :
    PS X (.Assign [.Tuple [.Name x px, .Name y py, .Name z pz] k p] (.Tuple [a, b, c] k2 p2) pos) (rdS X.K G Wx (sTT (evs g [a, b, c]) (setNs true X.N X.env.scope [.Name x px, .Name y py, .Name z pz]))) := by
  refine PS.imp (ps_par3 (ta := rdA X.K G Wx (evs g [a, b, c])) C.calm C.nd (ixOf_get hi) (ixOf_get hj) (ixOf_get hl) hij hil hjl hx hy hz (sd_args [a, b, c] ha) (sw_pure C.kind hw)) fun D σ H ⟨ι, ρ, S, m, o⟩ => ?_
  refine ⟨ι, ρ, S, m, (OutS.res m.env o).imp fun ι1 H1 S1 ws e1 s1 o1 xs rxs => ?_⟩
  split at o1
  · split at o1
    · rename_i ρ1 hset
      have l1 : locB true X.env.scope x = true := by unfold locB; rw [hx]
      have l2 : locB true X.env.scope y = true := by unfold locB; rw [hy]
      have l3 : locB true X.env.scope z = true := by unfold locB; rw [hz]
      cases rxs with
      | nil => simp [setNs] at hset
      | @cons v1 vs w1 ws r1 rxs =>
        cases rxs with
        | nil => simp [setNs, setN, l1, hi] at hset
        | @cons v2 vs w2 ws r2 rxs =>
          cases rxs with
          | nil => simp [setNs, setN, l1, l2, hi, hj] at hset
          | @cons v3 vs w3 ws r3 rxs =>
            cases rxs with
            | cons _ _ => simp [setNs, setN, l1, l2, l3, hi, hj, hl] at hset
            | nil =>
              simp only [setNs, setN, l1, l2, l3, hi, hj, hl, if_true, Option.some.injEq] at hset
              subst hset
              exact ⟨v1, v2, v3, rfl, o1.nxt ((((⟨m.env.ext e1, s1⟩ : MtE X.K G ι1 ρ S1 σ H1).set r1 i).set r2 j).set r3 l)⟩
    · exact o1.elim
  · exact o1.elim
end
theorem putFld_ok {X : Cx} {G : Gam} {K : PySem.W.Frag} {ι : List Addr} {H : Hp} {S S3 : Store} {x y : V} {wo : W} {d : D} {f : Str} (isf : IsFacts K G) (clf : ClsFacts K G) (st : StOk K G ι S H) (rx : RepW K G ι H x wo) (ry : Rep K G ι H y d) (hp : putFld G f wo d S = some S3) :
    ∃ a C dx fs, x = .ref a ∧ H a = some (.ins C dx fs) ∧ Cls K C ∧ NoAttr K C f ∧ fs.length < 1000 ∧ Ext ι H ι (upd H a (.ins C dx (putF f y fs))) ∧ StOk K G ι S3 (upd H a (.ins C dx (putF f y fs))) := by
  unfold putFld at hp
  split at hp
  · rename_i n
    split at hp
    · rename_i cn vs hS
      split at hp
      · rename_i ci hci
        split at hp
        · rename_i vs' hvs
          cases hp
          cases rx with
          | @cell _ a ha =>
            obtain ⟨ci', dx, xs, h0, h1, h2, h3⟩ := st.at_ n a _ ha hS
            rw [hci] at h0; cases h0
            unfold putI at hvs
            split at hvs
            · rename_i i hi
              obtain ⟨few, nd⟩ := clf.few cn ci hci
              obtain ⟨z1, z2⟩ := putF_zip (v := y) (xs := xs) nd hi
              have hzl : (ci.fields.zip xs).length < 1000 := by rw [List.length_zip]; have := Nat.min_le_left ci.fields.length xs.length; omega
              have hil : i < ci.fields.length := (List.getElem?_eq_some_iff.mp (ixOf_get hi)).1
              refine ⟨a, ci.C, dx, _, rfl, h1, (isf.own cn ci hci).1, clf.flds cn ci f hci (ixOf_mem hi), hzl, ?_⟩
              split at hvs
              · rename_i hl
                cases hvs
                rw [z1 (by rw [h3.length]; exact hl)]
                obtain ⟨s3, e3⟩ := st.setIns (dx := dx) ha hS hci (by rw [List.length_set]; exact h2) (h3.set ry i)
                exact ⟨e3, s3⟩
              · split at hvs
                · rename_i hl
                  cases hvs
                  rw [z2 (by rw [h3.length]; exact hl)]
                  obtain ⟨s3, e3⟩ := st.setIns (dx := dx) ha hS hci (by rw [List.length_append, List.length_singleton, h3.length]; omega) (h3.append (.cons ry .nil))
                  exact ⟨e3, s3⟩
                · cases hvs
            · cases hvs
        · cases hp
      · cases hp
    · cases hp
  · cases hp
/-- o.f is set -/
def gFldK (G : Gam) (f : Str) (w wo : W) : Ss := fun ρ S1 => match w with
  | .dat d => match putFld G f wo d S1 with
    | some S2 => .nx ρ S2
    | none => .bad
  | _ => .bad
def gFldW (G : Gam) (f : Str) (co : Sm W) (w : W) : Ss := fun ρ S => (co ρ S).toS ρ fun wo S1 => gFldK G f w wo ρ S1
def gNmW (N : List Str) (sc : Scope) (x : Str) (w : W) : Ss := fun ρ S => match setN true N sc x w ρ with
  | some ρ1 => .nx ρ1 S
  | none => .bad
def gAll : List (W → Ss) → List W → Ss
  | [], [] => sNil
  | t :: ts, w :: ws => sSeq (t w) (gAll ts ws)
  | _, _ => fun _ _ => .bad
def SR.noRt : SR → SR
  | .nx ρ S => .nx ρ S
  | .ex c fs ρ S => .ex c fs ρ S
  | _ => .bad
/-- a, o.f, .. = x, y, .. -/
def sTM (ca : Sm (List W)) (tgs : List (W → Ss)) : Ss := fun ρ S => (ca ρ S).toS ρ fun ws S1 => if fits ws.length = true ∧ ws.length = tgs.length then (gAll tgs ws ρ S1).noRt else .bad
abbrev nxE (Q : L2.St → Hp → Prop) : Ends := { nx := Q, rt := fun _ _ => False }
def rdM (K : PySem.W.Frag) (G : Gam) (Wx : WX) (f : W → Ss) : TG := fun v σ H Q => ∃ ι ρ S w, MtE K G ι ρ S σ H ∧ RepW K G ι H v w ∧ OutS K G ι H (nxE Q) Wx (f w ρ S)
def rdMs (K : PySem.W.Frag) (G : Gam) (Wx : WX) (f : List W → Ss) : TGs := fun vs σ H Q => ∃ ι ρ S ws, MtE K G ι ρ S σ H ∧ RepWs K G ι H vs ws ∧ OutS K G ι H (nxE Q) Wx (f ws ρ S)
section
variable {X : Cx} {G : Gam} {Wx : WX} {k0 : Nat} {T : FnT} {pos p p2 : Pos} {ts vs : List Expr} {k k2 : Nat} {g : Expr → Sm W}
theorem gm_name {x : Str} (C : CtxS G X Wx k0 T) : PG X (.Name x pos) (rdM X.K G Wx (gNmW X.N X.env.scope x)) := by
  refine ⟨fun pins s σ H v u Q I r h => (sg_name (G := G) (cells := true) (x := x) (pos := pos) C.nd (locOk_own fun _ => C.fnc)).run pins s σ H v u Q I r ?_⟩
  obtain ⟨ι, ρ, S, w, m, rw', o⟩ := h
  unfold gNmW at o
  split at o
  · rename_i ρ1 hs
    exact ⟨ι, ρ, S, w, ρ1, m, rw', hs, fun σ' _ m' => o ι H σ' (Ext.refl _ _) m'⟩
  · exact o.elim
theorem gm_fld {o : Expr} {f : Str} {co : Sm W} (C : CtxS G X Wx k0 T) (ho : PE X o (rdE X.K G Wx co)) : PG X (.Attribute o f pos) (rdM X.K G Wx (gFldW G f co)) := by
  refine ⟨fun pins s σ H v u Q I r h => ?_⟩
  obtain ⟨ι, ρ, S, w, m, rw', o1⟩ := h
  rw [arm_assign_Attribute]
  have hr := ho.run pins s σ H (fun x H1 => ∃ ι1 S1 wo, Ext ι H ι1 H1 ∧ StOk X.K G ι1 S1 H1 ∧ RepW X.K G ι1 H1 x wo ∧ OutS X.K G ι1 H1 (nxE Q) Wx (gFldK G f w wo ρ S1)) I ⟨ι, ρ, S, m, (OutS.res m.env o1).imp fun ι1 H1 S1 wo e1 s1 o2 x rx => ⟨ι1, S1, wo, e1, s1, rx, o2⟩⟩
  refine wpAny_bind (wpAny_holding (thn hr fun ov s1 ⟨x, H1, I1, rx, ι1, S1, wo, e1, st1, rxw, o2⟩ => ?_))
  refine wpAny_bind (wpAny_standAt (wpAny_bind (wpAny_holding ?_)))
  unfold gFldK at o2
  cases rw' with
  | @dat _ d ry =>
      simp only at o2
      split at o2
      · rename_i S2 hp
        obtain ⟨a, Cc, dx, fs, rfl, h1, h2, h3, h4, h5, h6⟩ := putFld_ok (X := X) C.isf C.clf st1 rxw (ry.ext e1) hp
        obtain rfl : ov = Value.ref a := rx
        refine setattr_ok I1 h1 h2 h3 h4 r fun s2 I2 => wpAny_release ⟨σ, _, I2, ?_⟩
        exact o2 ι1 _ σ h5 ⟨(m.env.ext e1).ext h5, h6⟩
      · exact o2.elim
  | cell _ => exact o2.elim
  | lam _ _ => exact o2.elim
def isTg : Expr → Bool
  | .Name .. => true
  | .Attribute .. => true
  | _ => false
theorem assignEach_tgs {env : Env} : ∀ (es : List Expr), es.all isTg = true → (assignEach es env).length = es.length ∧ (assignEach es env).findIdx? (·.1) = none
  | [], _ => ⟨rfl, rfl⟩
  | e :: es, h => by
    rw [List.all_cons, Bool.and_eq_true] at h
    obtain ⟨h1, h2⟩ := assignEach_tgs (env := env) es h.2
    cases e with
    | Name x p =>
      refine ⟨by show (assignEach es env).length + 1 = _; rw [h1]; rfl, ?_⟩
      show List.findIdx? _ ((false, _) :: assignEach es env) = none
      rw [List.findIdx?_cons]
      simp [h2]
    | Attribute x f p =>
      refine ⟨by show (assignEach es env).length + 1 = _; rw [h1]; rfl, ?_⟩
      show List.findIdx? _ ((false, _) :: assignEach es env) = none
      rw [List.findIdx?_cons]
      simp [h2]
    | _ => cases h.1
/-- the target's reading -/
def gOf (G : Gam) (N : List Str) (sc : Scope) (g : Expr → Sm W) : Expr → W → Ss
  | .Name x _ => gNmW N sc x
  | .Attribute o f _ => gFldW G f (g o)
  | _ => fun _ _ _ => .bad
theorem gms {g : Expr → Sm W} (C : CtxS G X Wx k0 T) (hg : ∀ e, PE X e (rdE X.K G Wx (g e))) : ∀ (es : List Expr), es.all isTg = true → PGs X es (rdMs X.K G Wx (gAll (es.map (gOf G X.N X.env.scope g))))
  | [], _ => ⟨fun pins s σ H vs us Q I r h => pgs_nil.run pins s σ H vs us Q I r (by
      obtain ⟨ι, ρ, S, ws, m, rw', o⟩ := h
      cases rw' with
      | nil => exact ⟨rfl, o ι H σ (Ext.refl _ _) m⟩
      | cons _ _ => exact o.elim)⟩
  | e :: es, he => by
    rw [List.all_cons, Bool.and_eq_true] at he
    have h1 : PG X e (rdM X.K G Wx (gOf G X.N X.env.scope g e)) := by
      cases e with
      | Name x p => exact gm_name C
      | Attribute o f p => exact gm_fld C (hg o)
      | _ => cases he.1
    have hs : (assignEach (e :: es) X.env).map (·.2) = assign e X.env :: (assignEach es X.env).map (·.2) := by
      cases e <;> first | rfl | cases he.1
    have h2 := pgs_cons h1 (gms C hg es he.2) hs
    refine ⟨fun pins s σ H vs us Q I r h => h2.run pins s σ H vs us Q I r ?_⟩
    obtain ⟨ι, ρ, S, ws, m, rw', o⟩ := h
    cases rw' with
    | nil => exact o.elim
    | @cons v vs w ws r1 rs =>
      refine ⟨v, vs, rfl, ι, ρ, S, w, m, r1, ?_⟩
      have o' : OutS X.K G ι H (nxE Q) Wx ((gOf G X.N X.env.scope g e w ρ S).andThen (gAll (es.map (gOf G X.N X.env.scope g)) ws)) := o
      cases hr : gOf G X.N X.env.scope g e w ρ S with
      | nx ρ1 S1 =>
        rw [hr] at o'
        exact fun ι' H' σ' e' m' => ⟨ι', ρ1, S1, ws, m', rs.ext e', OutS.ext e' o'⟩
      | rt w1 S1 => rw [hr] at o'; exact o'
      | bk ρ1 S1 => rw [hr] at o'; exact o'
      | ct ρ1 S1 => rw [hr] at o'; exact o'
      | ex c fs ρ1 S1 => rw [hr] at o'; exact o'
      | bad => rw [hr] at o'; exact o'
theorem ss_tm {g : Expr → Sm W} (C : CtxS G X Wx k0 T) (hg : ∀ e, PE X e (rdE X.K G Wx (g e))) (ht : ts.all isTg = true) (hw : swPure X.env.scope ts vs = some none) :
    PS X (.Assign [.Tuple ts k p] (.Tuple vs k2 p2) pos) (rdS X.K G Wx (sTM (evs g vs) (ts.map (gOf G X.N X.env.scope g)))) := by
  obtain ⟨a1, a2⟩ := assignEach_tgs (env := X.env) ts ht
  have pt := pe_tup (x1 := k2) (pos := p2) (sd_args (G := G) (Wx := Wx) vs fun e _ => hg e)
  have pg := pg_tup (k := k) (pos := p) C.calm (gms C hg ts ht) a1 a2
  refine PS.imp (ps_asg pt pg (by rfl) (sw_pure C.kind hw) (by rfl)) fun D σ H ⟨ι, ρ, S, m, o⟩ => ?_
  refine ⟨ι, ρ, S, m, (OutS.res m.env o).imp fun ι1 H1 S1 ws e1 s1 o1 xs rxs => ?_⟩
  split at o1
  · rename_i hf
    refine ⟨by rw [rxs.length]; exact fits_iff.mp hf.1, fun q hq => ?_⟩
    have e2 : Ext ι1 H1 ι1 (upd H1 q (.tup xs)) := Ext.new hq
    refine ⟨q, xs, rfl, .of upd_same, by rw [rxs.length, hf.2, List.length_map], ι1, ρ, S1, ws, ⟨(m.env.ext e1).ext e2, s1.new hq⟩, rxs.ext e2, ?_⟩
    have o2 := OutS.ext e2 o1
    cases hr : gAll (ts.map (gOf G X.N X.env.scope g)) ws ρ S1 with
    | nx ρ2 S2 => rw [hr] at o2; exact o2
    | rt w2 S2 => rw [hr] at o2; exact o2.elim
    | bk ρ2 S2 => rw [hr] at o2; exact o2.elim
    | ct ρ2 S2 => rw [hr] at o2; exact o2.elim
    | ex c fs ρ2 S2 => rw [hr] at o2; exact o2
    | bad => rw [hr] at o2; exact o2
  · exact o1.elim
end
end EC
namespace EC
open PySem PySem.Spec PyProof.Rows L2
/-- how a part is read: to be a new cell or not, the scope, the part -/
abbrev Rd := Bool → Scope → Expr → Sm W
def badE : Sm W := fun _ _ => .bad
def isSlice : Expr → Bool
  | .Slice .. => true
  | _ => false
def cSub (r : Rd) (sc : Scope) (a b : Expr) : Sm W := match b with
  | .Slice lo hi none _ => sSl (r false sc a) (lo.map (r false sc)) (hi.map (r false sc))
  | b => if isSlice b then badE else s2 (f2 dIx) (r false sc a) (r false sc b)
def cCmp (r : Rd) (sc : Scope) (a : Expr) (ops : List CmpOp) (es : List Expr) : Sm W := match ops, es with
  | [op], [b] => if notSet b then s2 (f2 (dCmpD op)) (r false sc a) (r false sc b) else badE
  | [op, op'], [b, c] => if notSet b && notSet c then s3 op op' (r false sc a) (r false sc b) (r false sc c) else badE
  | _, _ => badE
def cBool (r : Rd) (sc : Scope) (op : BoolOp) (es : List Expr) (pos : Pos) : Sm W := match op, es with
  | _, [a] => r false sc a
  | .And, a :: b :: rest => sAnd (r false sc a) (r false sc (.BoolOp .And (b :: rest) pos))
  | .Or, a :: b :: rest => sOr (r false sc a) (r false sc (.BoolOp .Or (b :: rest) pos))
  | _, _ => badE
def cUn (r : Rd) (sc : Scope) (op : UnaryOp) (a : Expr) : Sm W := match op with
  | .Not => sNot (r false sc a)
  | .USub => sNeg (r false sc a)
  | _ => badE
/-- a name that is no built-in is called -/
def cCallN (G : Gam) (T : FnT) (m : Lm) (r rl : Rd) (N : List Str) (sc : Scope) (x : Str) (es : List Expr) : Sm W := match es with
  | [] => if m.cl && !glbB sc x then sCallL G T (eName G N sc x) (evs (r false sc) []) else sCallN G T (eName G N sc x) (evs (r false sc) [])
  | [.Lambda prm bd sc2 _] => if m.nu && glbB sc x && okName x && LamX.lamSB sc sc2 && noPrm prm then sLamCall G T x (rl false sc2 bd) else badE
  | es => sCallN G T (eName G N sc x) (evs (r false sc) es)
def cCall (G : Gam) (T : FnT) (m : Lm) (r rl : Rd) (bx : Bool) (N : List Str) (sc : Scope) (fn : Expr) (es : List Expr) (pos : Pos) : Sm W := match fn with
  | .Name x _ => if noStars es then match biTab.lookup x with
      | some b => if glbB sc x && okName x then
          (if bx && decide (x = ("list" : Str)) then sCallBB true (evs (r false sc) es) else if bx && decide (x = ("dict" : Str)) then sCallBB false (evs (r false sc) es) else sCallB b (evs (r false sc) es))
        else sCallN G T (eName G N sc x) (evs (r false sc) es)
      | none => cCallN G T m r rl N sc x es
    else badE
  | .Attribute o m ap => if notCall0 o && noStars es && decide (es.length < 30) && (ap.endLine == pos.line) then sMeth G T m (r false sc o) (evs (r false sc) es) else badE
  | _ => badE
def cDict (r : Rd) (bx : Bool) (sc : Scope) (ks : List (Option Expr)) (vs : List Expr) : Sm W :=
  if ks.isEmpty && vs.isEmpty then sDict0 bx else if decide (ks.length = vs.length) && ks.all (·.isSome) && !ks.isEmpty && decide (ks.length ≤ 15) then sDict bx (r false sc) ks vs else badE
/-- what is walked -/
def badI : Sm Src := fun _ _ => .bad
def isTupE : Expr → Bool
  | .Tuple .. => true
  | _ => false
def cIter (r : Rd) (sc : Scope) (tg it : Expr) : Sm Src := match it with
  | .Call (.Name x _) [a] [] _ => if decide (x = ("range" : Str)) then (if noStars [a] && glbB sc ("range" : Str) then sRng1 (evs (r false sc) [a]) else badI) else sIter (r false sc it)
  | .Call (.Name x _) [a, b] [] _ => if decide (x = ("range" : Str)) then (if noStars [a, b] && glbB sc ("range" : Str) then sRng2 (evs (r false sc) [a, b]) else badI)
      else if decide (x = ("zip" : Str)) then (if noStars [a, b] && glbB sc ("zip" : Str) && isTupE tg then sZip (evs (r false sc) [a, b]) else badI) else sIter (r false sc it)
  | it => sIter (r false sc it)
def cIfs (r : Rd) (sc : Scope) (ifs : List Expr) : Sm Bool := match ifs with
  | [] => fun _ S => .ok true S
  | [c] => tst (r false sc c)
  | _ => fun _ _ => .bad
def okLc (N : List Str) (sc scope : Scope) (tg it : Expr) : Bool := blkC N sc scope (ownOf N scope) && okTgt tg && (tgIx N tg).all (fun i => decide (i ∈ (ownOf N scope).map (·.2))) && notSet it
def cLc (r r0 : Rd) (bx : Bool) (N : List Str) (sc : Scope) (elt : Expr) (gs : List Comprehension) (scope : Scope) : Sm W := match gs with
  | [⟨tg, it, ifs, 0⟩] => if okLc N sc scope tg it && decide (ifs.length ≤ 1) then sLc (cIter r sc tg it) (setT true N scope tg) (cIfs r0 (relS scope sc) ifs) (r0 false (relS scope sc) elt) ((ownOf N scope).map (·.2)) bx else badE
  | _ => badE
def cE (G : Gam) (N : List Str) : Nat → FnT → Lm → Rd
  | 0 => fun _ _ _ _ _ => badE
  | f + 1 => fun T m bx sc e => match e with
    | .Name x _ => eName G N sc x
    | .Constant c _ _ => eConst c
    | .Tuple es _ _ => if noStars es then fun ρ S => (evs (cE G N f T m false sc) es ρ S).bind mkTup else badE
    | .List es _ => if noStars es then (if bx then fun ρ S => (evs (cE G N f T m false sc) es ρ S).bind mkLstB else fun ρ S => (evs (cE G N f T m false sc) es ρ S).bind mkLst) else badE
    | .BinOp a op b _ => s2 (f2 (dBin op)) (cE G N f T m false sc a) (cE G N f T m false sc b)
    | .Subscript a b _ => cSub (cE G N f T m) sc a b
    | .Compare a ops es _ => cCmp (cE G N f T m) sc a ops es
    | .UnaryOp op a _ => cUn (cE G N f T m) sc op a
    | .BoolOp op es pos => cBool (cE G N f T m) sc op es pos
    | .IfExp c a b _ => sIf (tst (cE G N f T m false sc c)) (cE G N f T m bx sc a) (cE G N f T m bx sc b)
    | .Call fn es [] pos => cCall G T m (cE G N f T m) (cE G N f (loT T) noLm) bx N sc fn es pos
    | .Attribute o fl _ => if notCall0 o then sFld G fl (cE G N f T m false sc o) else badE
    | .Dict ks vs _ => cDict (cE G N f T m) bx sc ks vs
    | .ListComp elt gs scope _ => cLc (cE G N f T m) (cE G N f T noLm) bx N sc elt gs scope
    | _ => badE
/-- what is proved of a reading -/
def SndE (X : Cx) (G : Gam) (Wx : WX) (e : Expr) (c : Sm W) : Prop := PE X e (rdE X.K G Wx c) ∧ PT X e (rdT X.K G Wx (tst c)) ∧ (∀ op es pos, e = .BoolOp op es pos → PW X e (rdT X.K G Wx (tst c)))
theorem tst_bad : tst badE = fun _ _ => .bad := rfl
section
variable {X : Cx} {G : Gam} {Wx : WX} {k : Nat} {T : FnT} {m : Lm} {e : Expr} {c : Sm W} {pos : Pos}
theorem pw_bad {K : PySem.W.Frag} : PW X e (rdT K G Wx fun _ _ => .bad) := ⟨fun _ _ _ _ _ _ _ ⟨_, _, _, _, h⟩ => h.elim⟩
theorem SndE.bad : SndE X G Wx e badE := ⟨pe_bad, pt_bad, fun _ _ _ _ => pw_bad⟩
/-- a form whose truth is its value's -/
theorem SndE.val (h : PE X e (rdE X.K G Wx c)) (hp : plainTest e = true) : SndE X G Wx e c := ⟨h, sd_val h hp, fun op es pos q => by rw [q] at hp; cases hp⟩
theorem plainIx_of {b : Expr} (h : isSlice b = false) : PlainIx b := by
  intro o i
  cases b <;> first | rfl | cases h
theorem fsi_of {e : Expr} {env : Env} (h : notSet e = true) : ∀ x, foldedSetIterable e env x = pure x := by
  intro x
  cases e <;> first | rfl | cases h
/-- what is known of the parts -/
def AllR (X : Cx) (G : Gam) (N : List Str) (k : Nat) (T : FnT) (m : Lm) (r : Rd) : Prop := ∀ (Y : Cx) (Wy : WX) (bx : Bool) (e : Expr), CtxM G Y Wy k T m → Y.N = N → Y.K = X.K → SndE Y G Wy e (r bx Y.env.scope e)
theorem snd_sub {r : Rd} {N : List Str} {a b : Expr} (hr : AllR X G N k T m r) (C : CtxM G X Wx k T m) (hN : X.N = N) : SndE X G Wx (.Subscript a b pos) (cSub r X.env.scope a b) := by
  unfold cSub
  split
  · rename_i lo hi p2
    refine SndE.val (sd_slice (hr X Wx false a C hN rfl).1 ?_ ?_) rfl
    · cases lo with
      | none => exact sd_part_none
      | some x => exact sd_part_some (hr X Wx false x C hN rfl).1
    · cases hi with
      | none => exact sd_part_none
      | some x => exact sd_part_some (hr X Wx false x C hN rfl).1
  · split
    · exact SndE.bad
    · rename_i h
      exact SndE.val (sd_ix C.toCtx (hr X Wx false a C hN rfl).1 (hr X Wx false b C hN rfl).1 (plainIx_of (by simpa using h))) rfl
theorem snd_cmp {r : Rd} {N : List Str} {a : Expr} {ops : List CmpOp} {es : List Expr} (hr : AllR X G N k T m r) (C : CtxM G X Wx k T m) (hN : X.N = N) : SndE X G Wx (.Compare a ops es pos) (cCmp r X.env.scope a ops es) := by
  unfold cCmp
  split
  · rename_i op b
    split
    · rename_i h
      exact ⟨sd_cmp C.toCtx op (hr X Wx false a C hN rfl).1 (hr X Wx false b C hN rfl).1 h, sd_cmpT C.toCtx op (hr X Wx false a C hN rfl).1 (hr X Wx false b C hN rfl).1 h, fun _ _ _ q => by cases q⟩
    · exact SndE.bad
  · rename_i op op' b c
    split
    · rename_i h
      rw [Bool.and_eq_true] at h
      have p := sd_chain (pos := pos) C.toCtx op op' (hr X Wx false a C hN rfl).1 (hr X Wx false b C hN rfl).1 (hr X Wx false c C hN rfl).1 h.1 h.2
      refine ⟨p, PT.imp (pt_chain (op_cmp (G := G) op (by have := C.un; omega)) (op_cmp (G := G) op' (by have := C.un; omega)) (hr X Wx false a C hN rfl).1 (hr X Wx false b C hN rfl).1 (hr X Wx false c C hN rfl).1 (by first | exact notSet_marks h.1 | exact notSet_marks h.2 | (simp [lastMarks, markedEach, notSet_marks h.2]; done))) fun σ H Q q => rd_chain (rd_tst q), fun _ _ _ q => by cases q⟩
    · exact SndE.bad
  · exact SndE.bad
theorem snd_un {r : Rd} {N : List Str} {op : UnaryOp} {a : Expr} (hr : AllR X G N k T m r) (C : CtxM G X Wx k T m) (hN : X.N = N) : SndE X G Wx (.UnaryOp op a pos) (cUn r X.env.scope op a) := by
  have h := hr X Wx false a C hN rfl
  unfold cUn
  cases op with
  | Not => exact ⟨sd_not h.1, sd_notT h.2.1, fun _ _ _ q => by cases q⟩
  | USub => exact ⟨sd_neg h.1, PT.imp (pt_val (sd_neg (pos := pos) h.1)) fun σ H Q q => rd_tst q, fun _ _ _ q => by cases q⟩
  | _ => exact SndE.bad
theorem snd_bool {r : Rd} {N : List Str} {op : BoolOp} {es : List Expr} (hr : AllR X G N k T m r) (C : CtxM G X Wx k T m) (hN : X.N = N) : SndE X G Wx (.BoolOp op es pos) (cBool r X.env.scope op es pos) := by
  unfold cBool
  split
  · rename_i a
    have h := hr X Wx false a C hN rfl
    have p : PW X (.BoolOp op [a] pos) (rdT X.K G Wx (tst (r false X.env.scope a))) := by
      cases op with
      | And => exact pw_and1 h.2.1
      | Or => exact pw_or1 h.2.1
    exact ⟨pe_one h.1, p.pt, fun _ _ _ _ => p⟩
  · rename_i a b rest
    have h := hr X Wx false a C hN rfl
    have h2 := hr X Wx false (.BoolOp .And (b :: rest) pos) C hN rfl
    have p := sd_andT h.2.1 (h2.2.2 _ _ _ rfl)
    exact ⟨sd_and h.1 h2.1, p.pt, fun _ _ _ _ => p⟩
  · rename_i a b rest
    have h := hr X Wx false a C hN rfl
    have h2 := hr X Wx false (.BoolOp .Or (b :: rest) pos) C hN rfl
    have p := sd_orT h.2.1 (h2.2.2 _ _ _ rfl)
    exact ⟨sd_or h.1 h2.1, p.pt, fun _ _ _ _ => p⟩
  · exact SndE.bad
theorem snd_callN {r rl : Rd} {N : List Str} {x : Str} {p : Pos} {es : List Expr} (hr : AllR X G N k T m r) (hrl : ∀ j, k = j + 2 → AllR X G N j (loT T) noLm rl) (C : CtxM G X Wx k T m) (hN : X.N = N) (hs : noStars es = true) : SndE X G Wx (.Call (.Name x p) es [] pos) (cCallN G T m r rl N X.env.scope x es) := by
  subst hN
  have ha : ∀ e ∈ es, PE X e (rdE X.K G Wx (r false X.env.scope e)) := fun e _ => (hr X Wx false e C rfl rfl).1
  unfold cCallN
  split
  · split
    · rename_i h
      rw [Bool.and_eq_true] at h
      exact SndE.val (sd_callL C.toCtxF (C.lamr h.1)) rfl
    · exact SndE.val (sd_callN C.toCtxF ha hs) rfl
  · rename_i prm bd sc2 lp
    split
    · rename_i h
      simp only [Bool.and_eq_true] at h
      obtain ⟨⟨⟨⟨h1, h2⟩, h3⟩, h4⟩, h5⟩ := h
      refine SndE.val (sd_lamCall C.toCtxF (C.tabf h1) h2 h3 h4 (noPrm_def h5) (fun _ _ _ _ _ => noPrm_bind h5) fun hk A outer s H E f c' hroom => ?_) rfl
      obtain ⟨j, rfl⟩ : ∃ j, k = j + 2 := ⟨k - 2, by omega⟩
      have C' : CtxF G (LamX.lamCx X A outer s H E sc2 f c') (fun cls d _ H => E cls d H) j (loT T) := CtxF.lamCx C.toCtxF (by omega) hroom
      exact (hrl j rfl (LamX.lamCx X A outer s H E sc2 f c') _ false bd C'.noM rfl rfl).1
    · exact SndE.bad
  · exact SndE.val (sd_callN C.toCtxF ha hs) rfl
theorem snd_call {r rl : Rd} {N : List Str} {bx : Bool} {fn : Expr} {es : List Expr} (hr : AllR X G N k T m r) (hrl : ∀ j, k = j + 2 → AllR X G N j (loT T) noLm rl) (C : CtxM G X Wx k T m) (hN : X.N = N) : SndE X G Wx (.Call fn es [] pos) (cCall G T m r rl bx N X.env.scope fn es pos) := by
  subst hN
  have ha : ∀ e ∈ es, PE X e (rdE X.K G Wx (r false X.env.scope e)) := fun e _ => (hr X Wx false e C rfl rfl).1
  unfold cCall
  split
  · rename_i x p
    split
    · rename_i hs
      split
      · rename_i b hb
        split
        · rename_i hg
          rw [Bool.and_eq_true] at hg
          split
          · rename_i h
            simp only [Bool.and_eq_true, decide_eq_true_eq] at h
            exact SndE.val (sd_callBB (b := true) C.toCtxF ha hs h.2 hg.1) rfl
          · split
            · rename_i h
              simp only [Bool.and_eq_true, decide_eq_true_eq] at h
              exact SndE.val (sd_callBB (b := false) C.toCtxF ha hs h.2 hg.1) rfl
            · exact SndE.val (sd_callB C.toCtxF ha hs hb hg.1 hg.2) rfl
        · exact SndE.val (sd_callN C.toCtxF ha hs) rfl
      · exact snd_callN hr hrl C rfl hs
    · exact SndE.bad
  · rename_i o m ap
    split
    · rename_i h
      simp only [Bool.and_eq_true, decide_eq_true_eq] at h
      obtain ⟨⟨⟨h1, h2⟩, h3⟩, h4⟩ := h
      exact SndE.val (sd_meth C.toCtxF (hr X Wx false o C rfl rfl).1 ha h1 h2 h3 h4) rfl
    · exact SndE.bad
  · exact SndE.bad
theorem snd_dict {r : Rd} {N : List Str} {bx : Bool} {ks : List (Option Expr)} {vs : List Expr} (hr : AllR X G N k T m r) (C : CtxM G X Wx k T m) (hN : X.N = N) : SndE X G Wx (.Dict ks vs pos) (cDict r bx X.env.scope ks vs) := by
  unfold cDict
  split
  · rename_i h
    rw [Bool.and_eq_true, List.isEmpty_iff, List.isEmpty_iff] at h
    obtain ⟨rfl, rfl⟩ := h
    exact SndE.val (sd_dict0 bx) rfl
  · split
    · rename_i h
      simp only [Bool.and_eq_true, decide_eq_true_eq, Bool.not_eq_true', List.isEmpty_eq_false_iff] at h
      obtain ⟨⟨⟨h1, h2⟩, h3⟩, h4⟩ := h
      exact SndE.val (sd_dict bx h1 h2 h3 h4 (fun e _ => (hr X Wx false e C hN rfl).1) fun e _ => (hr X Wx false e C hN rfl).1) rfl
    · exact SndE.bad
theorem pi_bad {tg it : Expr} : PI X tg it (rdI X.K G Wx badI) := ⟨fun _ _ _ _ _ _ ⟨_, _, _, _, h⟩ => h.elim⟩
theorem snd_iter {r : Rd} {N : List Str} {tg it : Expr} (hr : AllR X G N k T m r) (C : CtxM G X Wx k T m) (hN : X.N = N) : PI X tg it (rdI X.K G Wx (cIter r X.env.scope tg it)) := by
  have any : ∀ it, PI X tg it (rdI X.K G Wx (sIter (r false X.env.scope it))) := fun it => si_any (hr X Wx false it C hN rfl).1
  have ha : ∀ es : List Expr, ∀ e ∈ es, PE X e (rdE X.K G Wx (r false X.env.scope e)) := fun es e _ => (hr X Wx false e C hN rfl).1
  unfold cIter
  split
  · rename_i x p a pos
    split
    · rename_i hx
      split
      · rename_i h
        rw [Bool.and_eq_true] at h
        rw [of_decide_eq_true hx]
        exact si_rng1 C.toCtx (ha _) h.1 h.2
      · exact pi_bad
    · exact any _
  · rename_i x p a b pos
    split
    · rename_i hx
      split
      · rename_i h
        rw [Bool.and_eq_true] at h
        rw [of_decide_eq_true hx]
        exact si_rng2 C.toCtx (ha _) h.1 h.2
      · exact pi_bad
    · split
      · rename_i hx
        split
        · rename_i h
          simp only [Bool.and_eq_true] at h
          rw [of_decide_eq_true hx]
          cases tg with
          | Tuple es kk tp => exact si_zip C.toCtx (ha _) h.1.1 h.1.2
          | _ => exact absurd h.2 Bool.false_ne_true
        · exact pi_bad
      · exact any _
  · exact any _
theorem tst_if {t : Sm Bool} {c1 c2 : Sm W} {ρ : Env0'} {S : Store} : tst (sIf t c1 c2) ρ S = (t ρ S).bind fun b S1 => if b = true then tst c1 ρ S1 else tst c2 ρ S1 := by
  unfold tst sIf
  rw [Res.bind_assoc]
  congr 1
  funext b S1
  cases b <;> rfl
theorem pt_if {c a b : Expr} {t : Sm Bool} {c1 c2 : Sm W} (hc : PT X c (rdT X.K G Wx t)) (ha : PT X a (rdT X.K G Wx (tst c1))) (hb : PT X b (rdT X.K G Wx (tst c2))) : PT X (.IfExp c a b pos) (rdT X.K G Wx (tst (sIf t c1 c2))) := by
  refine ⟨fun pins s σ H Q I h => ?_⟩
  obtain ⟨ι, ρ, S, m, o⟩ := h
  rw [tst_if] at o
  refine PyProof.Rows.isTrue_IfExp (thn (hc.run pins s σ H (fun r H1 => if r = true then rdT X.K G Wx (tst c1) σ H1 Q else rdT X.K G Wx (tst c2) σ H1 Q) I ⟨ι, ρ, S, m, o.bind.imp fun ι1 H1 S1 r e1 s1 o1 => ?_⟩) fun r s1 hh => ?_)
  · cases r with
    | true => exact ⟨ι1, ρ, S1, ⟨m.env.ext e1, s1⟩, o1⟩
    | false => exact ⟨ι1, ρ, S1, ⟨m.env.ext e1, s1⟩, o1⟩
  · obtain ⟨H1, I1, q1⟩ := hh
    cases r with
    | true => exact ha.run pins s1 σ H1 Q I1 q1
    | false => exact hb.run pins s1 σ H1 Q I1 q1
theorem snd_ifs {r : Rd} {N : List Str} {ifs : List Expr} (hr : AllR X G N k T m r) (C : CtxM G X Wx k T m) (hN : X.N = N) (hl : ifs.length ≤ 1) : PTs X ifs (rdT X.K G Wx (cIfs r X.env.scope ifs)) := by
  match ifs, hl with
  | [], _ => exact ⟨fun pins s σ H Q I h => pts_nil.run pins s σ H Q I (by
      obtain ⟨ι, ρ, S, m, o⟩ := h
      exact o ι H (Ext.refl _ _) m.st)⟩
  | [c], _ => exact pts_one (hr X Wx false c C hN rfl).2.1
theorem AllR.to {r : Rd} {N : List Str} {Y : Cx} (hr : AllR X G N k T m r) (h : Y.K = X.K) : AllR Y G N k T m r := fun Z Wz bx e C hN hK => hr Z Wz bx e C hN (hK.trans h)
theorem snd_lc {r r0 : Rd} {N : List Str} {bx : Bool} {elt : Expr} {gs : List Comprehension} {scope : Scope} (hr : AllR X G N k T m r) (hr0 : AllR X G N k T noLm r0) (C : CtxM G X Wx k T m) (hN : X.N = N) : SndE X G Wx (.ListComp elt gs scope pos) (cLc r r0 bx N X.env.scope elt gs scope) := by
  subst hN
  unfold cLc
  split
  · rename_i tg it ifs
    split
    · rename_i h
      rw [Bool.and_eq_true] at h
      obtain ⟨h, hl⟩ := h
      have hl := of_decide_eq_true hl
      unfold okLc at h
      simp only [Bool.and_eq_true] at h
      obtain ⟨⟨⟨h1, h2⟩, h3⟩, h4⟩ := h
      exact SndE.val (sd_lc bx C.toCtxF (snd_iter hr C rfl) h1 h2 h3 (fun s H Cc cl fp => snd_ifs (X := X.blk s H scope (compEnvC scope cl Cc X.env) fp) (hr0.to rfl) C.toCtxF.blk.noM rfl hl) (fun s H Cc cl fp => (hr0 (X.blk s H scope (compEnvC scope cl Cc X.env) fp) noWx false elt C.toCtxF.blk.noM rfl rfl).1) (fsi_of h4)) rfl
    · exact SndE.bad
  · exact SndE.bad
end
/-- every expression's reading is sound -/
theorem snd_all {G : Gam} {N : List Str} : ∀ (f : Nat) (k : Nat) (T : FnT) (m : Lm) (X : Cx), AllR X G N k T m (cE G N f T m)
  | 0, k, T, m, X => fun Y Wy bx e C hN hK => SndE.bad
  | f + 1, k, T, m, X => fun Y Wy bx e C hN hK => by
    have ih : AllR Y G N k T m (cE G N f T m) := snd_all f k T m Y
    have ih0 : AllR Y G N k T noLm (cE G N f T noLm) := snd_all f k T noLm Y
    have ihl : ∀ j, k = j + 2 → AllR Y G N j (loT T) noLm (cE G N f (loT T) noLm) := fun j _ => snd_all f j (loT T) noLm Y
    have at_ : ∀ bx e, SndE Y G Wy e (cE G N f T m bx Y.env.scope e) := fun bx e => ih Y Wy bx e C hN rfl
    unfold cE
    split
    · subst hN; exact SndE.val (sd_name C.toCtx.toCtxN) rfl
    · exact SndE.val sd_const rfl
    · split
      · exact SndE.val (sd_tup (sd_args _ fun e _ => (at_ false e).1)) rfl
      · exact SndE.bad
    · split
      · split
        · exact SndE.val (sd_lstB (sd_args _ fun e _ => (at_ false e).1)) rfl
        · exact SndE.val (sd_lst (sd_args _ fun e _ => (at_ false e).1)) rfl
      · exact SndE.bad
    · exact SndE.val (sd_bin _ (at_ false _).1 (at_ false _).1) rfl
    · exact snd_sub ih C hN
    · exact snd_cmp ih C hN
    · exact snd_un ih C hN
    · exact snd_bool ih C hN
    · exact ⟨sd_if (at_ false _).2.1 (at_ _ _).1 (at_ _ _).1, pt_if (at_ false _).2.1 (at_ _ _).2.1 (at_ _ _).2.1, fun _ _ _ q => by cases q⟩
    · exact snd_call ih ihl C hN
    · split
      · rename_i h
        exact SndE.val (sd_fld C.toCtxF (at_ false _).1 h) rfl
      · exact SndE.bad
    · exact snd_dict ih C hN
    · exact snd_lc ih ih0 C hN
    · exact SndE.bad
end EC
namespace EC
open PySem PySem.Spec PyProof.Rows L2
/-- self.f = f, field by field -/
def initB (N : List Str) (sc : Scope) : List Str → List Stmt → Bool
  | [], [] => true
  | f :: fs, .Assign [.Attribute (.Name s _) g _] (.Name x _) _ :: rest => decide (s = ("self" : Str)) && decide (g = f) && decide (x = f) && okName f && visB sc f && (ixOf f N).isSome && initB N sc fs rest
  | _, _ => false
def spIx (C : Addr) (fs : List Str) : Sp := fun vs H Q _ => ∃ a ys, vs = .ref a :: ys ∧ ys.length = fs.length ∧ H a = some (exo a C none) ∧
  ∀ d H', H d = none → d ≠ a → H' a = some (exo a C (some d)) → H' d = some (exd d (fs.zip ys).reverse) → (∀ b, b ≠ a → b ≠ d → H' b = H b) → Q .non H'
theorem ixOf_of {x : Str} : ∀ {N : List Str} {i : Nat}, N.Nodup → N[i]? = some x → ixOf x N = some i
  | [], _, _, h => by simp at h
  | y :: ys, 0, nd, h => by
    simp at h
    unfold ixOf
    rw [if_pos h]
  | y :: ys, i + 1, nd, h => by
    rw [List.getElem?_cons_succ] at h
    have hne : y ≠ x := fun e => (List.nodup_cons.mp nd).1 (by rw [e]; exact List.mem_of_getElem? h)
    unfold ixOf
    rw [if_neg hne, ixOf_of (List.nodup_cons.mp nd).2 h]
    rfl
def HasAll (N : List Str) (σ : L2.St) (ps : List (Str × V)) : Prop := ∀ p ∈ ps, ∃ i, ixOf p.1 N = some i ∧ σ[i]? = some (some p.2)
section
variable {X : Cx} {C : Addr}
theorem init_step {f s x g : Str} {p1 p2 p3 p4 : Pos} (h0 : X.N[0]? = some ("self" : Str)) (v0 : Vis X.env.scope ("self" : Str)) {i : Nat} (hi : ixOf f X.N = some i) (ho : okName f = true) (hv : visB X.env.scope f = true) (e1 : s = ("self" : Str)) (e2 : g = f) (e3 : x = f) :
    PS X (.Assign [.Attribute (.Name s p1) g p2] (.Name x p3) p4) (tOst X.K f (tVar 0) (tVar i)) := by
  subst e1 e2 e3
  obtain ⟨n1, n2, _⟩ := okName_iff ho
  exact ps_ost (pe_var h0 v0) (pe_var (ixOf_get hi) (visB_iff hv) n1 n2) rfl
theorem init_rest (T : OexC X.K C) (h0 : X.N[0]? = some ("self" : Str)) (v0 : Vis X.env.scope ("self" : Str)) : ∀ (fs : List Str) (rest : List Stmt), initB X.N X.env.scope fs rest = true → (∀ f ∈ fs, PySem.W.findIn X.K (.ref C) f = some none) →
    ∃ t, PSs X rest t ∧ ∀ (D : Ends) (σ : L2.St) (H : Hp) (ys : List V) (acc : List (Str × V)) (a d : Addr), σ[0]? = some (some (.ref a)) → HasAll X.N σ (fs.zip ys) → ys.length = fs.length → H a = some (exo a C (some d)) → H d = some (exd d acc) → acc.length + fs.length ≤ 900 → d ≠ a →
      (∀ H', H' a = some (exo a C (some d)) → H' d = some (exd d ((fs.zip ys).reverse ++ acc)) → (∀ b, b ≠ a → b ≠ d → H' b = H b) → D.nx σ H') → t D σ H
  | [], [], _, _ => ⟨_, pss_nil, fun D σ H ys acc a d s0 ha hl e1 e2 hz hne k => k H e1 (by cases ys with | nil => exact e2 | cons _ _ => cases hl) fun _ _ _ => rfl⟩
  | f :: fs, st :: rest, hb, hn => by
    unfold initB at hb
    split at hb
    · rename_i h; cases h
    · rename_i f' fs' s p1 g p2 x p3 p4 rest' e1 e2
      cases e1; cases e2
      simp only [Bool.and_eq_true, decide_eq_true_eq] at hb
      obtain ⟨⟨⟨⟨⟨⟨b1, b2⟩, b3⟩, b4⟩, b5⟩, b6⟩, b7⟩ := hb
      obtain ⟨i, hi⟩ := Option.isSome_iff_exists.mp b6
      obtain ⟨t, ht, hr⟩ := init_rest T h0 v0 fs rest b7 fun f hf => hn f (List.mem_cons_of_mem _ hf)
      refine ⟨_, pss_cons (init_step h0 v0 hi b4 b5 b1 b2 b3) ht, fun D σ H ys acc a d s0 ha hl e1 e2 hz hne k => ?_⟩
      cases ys with
      | nil => cases hl
      | cons y ys =>
        obtain ⟨i', hi', hy⟩ := ha (f, y) (by rw [List.zip_cons_cons]; exact List.mem_cons_self)
        rw [hi] at hi'; cases hi'
        refine ⟨y, hy, .ref a, s0, a, C, rfl, T, hn f List.mem_cons_self, .inr ⟨d, acc, e1, e2, by simp at hz; omega, ?_⟩⟩
        refine hr D σ _ ys ((f, y) :: acc) a d s0 (fun p hp => ha p (by rw [List.zip_cons_cons]; exact List.mem_cons_of_mem _ hp)) (by simpa using hl) (by rw [upd_ne hne.symm]; exact e1) upd_same (by simp at hz ⊢; omega) hne fun H' g1 g2 g3 => ?_
        refine k H' g1 ?_ fun b hb1 hb2 => by rw [g3 b hb1 hb2, upd_ne hb2]
        rw [g2, List.zip_cons_cons, List.reverse_cons, List.append_assoc]
        rfl
    · cases hb
  | [], _ :: _, hb, _ => by simp [initB] at hb
  | _ :: _, [], hb, _ => by simp [initB] at hb
theorem init_walk (T : OexC X.K C) (h0 : X.N[0]? = some ("self" : Str)) (v0 : Vis X.env.scope ("self" : Str)) {fs : List Str} {body : List Stmt} (hne : fs ≠ []) (hz : fs.length ≤ 900) (hb : initB X.N X.env.scope fs body = true) (hn : ∀ f ∈ fs, PySem.W.findIn X.K (.ref C) f = some none) :
    ∃ t, PSs X body t ∧ ∀ (D : Ends) (σ : L2.St) (H : Hp) (ys : List V) (a : Addr), σ[0]? = some (some (.ref a)) → HasAll X.N σ (fs.zip ys) → ys.length = fs.length → H a = some (exo a C none) →
      (∀ d H', H d = none → d ≠ a → H' a = some (exo a C (some d)) → H' d = some (exd d (fs.zip ys).reverse) → (∀ b, b ≠ a → b ≠ d → H' b = H b) → D.nx σ H') → t D σ H := by
  cases fs with
  | nil => exact absurd rfl hne
  | cons f fs =>
    cases body with
    | nil => simp [initB] at hb
    | cons st rest =>
      unfold initB at hb
      split at hb
      · rename_i h; cases h
      · rename_i f' fs' s p1 g p2 x p3 p4 rest' e1 e2
        cases e1; cases e2
        simp only [Bool.and_eq_true, decide_eq_true_eq] at hb
        obtain ⟨⟨⟨⟨⟨⟨b1, b2⟩, b3⟩, b4⟩, b5⟩, b6⟩, b7⟩ := hb
        obtain ⟨i, hi⟩ := Option.isSome_iff_exists.mp b6
        obtain ⟨t, ht, hr⟩ := init_rest T h0 v0 fs rest b7 fun f hf => hn f (List.mem_cons_of_mem _ hf)
        refine ⟨_, pss_cons (init_step h0 v0 hi b4 b5 b1 b2 b3) ht, fun D σ H ys a s0 ha hl e1 k => ?_⟩
        cases ys with
        | nil => cases hl
        | cons y ys =>
          obtain ⟨i', hi', hy⟩ := ha (f, y) (by rw [List.zip_cons_cons]; exact List.mem_cons_self)
          rw [hi] at hi'; cases hi'
          refine ⟨y, hy, .ref a, s0, a, C, rfl, T, hn f List.mem_cons_self, .inl ⟨e1, fun d hd hda => ?_⟩⟩
          refine hr D σ _ ys [(f, y)] a d s0 (fun p hp => ha p (by rw [List.zip_cons_cons]; exact List.mem_cons_of_mem _ hp)) (by simpa using hl) upd_same (by rw [upd_ne hda, upd_same]) (by simp at hz ⊢; omega) hda fun H' g1 g2 g3 => ?_
          refine k d H' hd hda g1 ?_ fun b hb1 hb2 => by rw [g3 b hb1 hb2, upd_ne hb1, upd_ne hb2]
          rw [g2, List.zip_cons_cons, List.reverse_cons]
      · cases hb
end
theorem ok_init {P : Program} {w : World} {K : PySem.W.Frag} {mg : Str → Option Value} {base : Heap} {C a : Addr} {x qual : Str} {st : Stmt} {fd : FuncData} {fs : List Str} (Fn : Fun K x qual st a fd) (Sc : FnScope (("self" : Str) :: fs) (("self" : Str) :: fs) (defScope st)) (T : OexC K C) (hne : fs ≠ []) (hz : fs.length ≤ 900)
    (hb : initB (("self" : Str) :: fs) (defScope st) fs (defBody st) = true) (hn : ∀ f ∈ fs, PySem.W.findIn K (.ref C) f = some none) : FnOk P w K mg base (L2.CX P w) 1 a fd (("self" : Str) :: fs) (spIx C fs) := by
  refine Fn.okX Sc (fun vs H Q E h => ?_) (fun cdv A outer s H vs Q E hr h => ?_)
  · obtain ⟨a', ys, rfl, hl, _⟩ := h
    simp [hl]
  · obtain ⟨a', ys, rfl, hl, ha, k⟩ := h
    let X := cxOf (L2.CX P w) P w K mg base (("self" : Str) :: fs) qual (defScope st) a cdv A outer s H E
    have v0 : Vis X.env.scope ("self" : Str) := by
      rcases Sc.par ("self" : Str) List.mem_cons_self with q | q
      · exact .inl q
      · exact .inr (.inl q)
    obtain ⟨t, ht, hr'⟩ := init_walk (X := X) (C := C) T rfl v0 hne hz hb hn
    refine ⟨t, ht, hr' _ _ _ ys a' rfl (fun p hp => ?_) hl ha k⟩
    obtain ⟨j, hj⟩ := List.getElem?_of_mem hp
    have hjf : fs[j]? = some p.1 ∧ ys[j]? = some p.2 := by
      rw [List.getElem?_zip_eq_some] at hj
      exact hj
    have hnd : (("self" : Str) :: fs).Nodup := Sc.nd
    have hix : ixOf p.1 (("self" : Str) :: fs) = some (j + 1) := ixOf_of hnd (by rw [List.getElem?_cons_succ]; exact hjf.1)
    refine ⟨j + 1, hix, ?_⟩
    show (L2.start (("self" : Str) :: fs) (V.ref a' :: ys))[j + 1]? = some (some p.2)
    unfold L2.start
    rw [List.getElem?_append_left (by have := (List.getElem?_eq_some_iff.mp hjf.2).1; simp; omega), List.getElem?_map, List.getElem?_cons_succ, hjf.2]
    rfl
/-- what is known of the own exceptions; their fields stand last first -/
structure ExF (K : PySem.W.Frag) (mg : Str → Option Value) (G : Gam) : Prop where
  ex : ∀ c ci, G.exs.lookup c = some ci → ∃ (ps : List Str) (a : Addr) (fd : FuncData) (x qual : Str) (st : Stmt), ci.fields = ps.reverse ∧ ps ≠ [] ∧ ps.length ≤ 900 ∧ mg c = some (.ref ci.C) ∧ OexC K ci.C ∧ PySem.W.findIn K (.ref ci.C) "__init__" = some (some (.ref a)) ∧
    PySem.W.typeIn K (.ref a) = some (.type "function") ∧ Fun K x qual st a fd ∧ FnScope (("self" : Str) :: ps) (("self" : Str) :: ps) (defScope st) ∧ initB (("self" : Str) :: ps) (defScope st) ps (defBody st) = true ∧ (∀ f ∈ ps, PySem.W.findIn K (.ref ci.C) f = some none) ∧ Binds K fd (("self" : Str) :: ps) [] ∧ XfC K ci.C
  exm : ∀ c ci d di, G.exs.lookup c = some ci → G.exs.lookup d = some di → PySem.W.exmOne K (.ref ci.C) (.ref di.C) = some (decide (c = d))
def sRaise (G : Gam) (x : Str) (ca : Sm (List W)) : Ss := fun ρ S => (ca ρ S).toS ρ fun ws S1 => match G.exs.lookup x, allD ws with
  | some ci, some ds => if ds.length = ci.fields.length ∧ 0 < ds.length then .ex x ds.reverse ρ S1 else .bad
  | _, _ => .bad
theorem StOk.keepAll {K : PySem.W.Frag} {G : Gam} {ι : List Addr} {H H' : Hp} {S : Store} (st : StOk K G ι S H) (e : Ext ι H ι H') (k : ∀ b o, H b = some o → H' b = some o) : StOk K G ι S H' :=
  ⟨st.len, st.nd, fun n a c h1 h2 => (st.at_ n a c h1 h2).ext (Rep.ext e) fun o h => k _ _ h, st.tabs.ext k⟩
theorem zip_reverse {α β : Type} : ∀ {xs : List α} {ys : List β}, xs.length = ys.length → (xs.zip ys).reverse = xs.reverse.zip ys.reverse
  | [], [], _ => rfl
  | x :: xs, y :: ys, h => by
    have h' : xs.length = ys.length := by simpa using h
    rw [List.zip_cons_cons, List.reverse_cons, List.reverse_cons, List.reverse_cons, zip_reverse h', List.zip_append (by simp [h'])]
    rfl
theorem passX {X : Cx} : Passes (L2.CX X.prog X.w) X (fun _ _ _ => False) := fun _ _ _ _ _ _ _ h => by
  obtain ⟨_, _, _, _, _, _, _, _, _, _, _, _, z⟩ := h
  exact z.elim
section
variable {X : Cx} {G : Gam} {Wx : WX} {k : Nat} {T : FnT} {pos pos' p : Pos} {es : List Expr} {g : Expr → Sm W}
theorem ss_raise {x : Str} {ci : ClsI} (C : CtxS G X Wx k T) (EF : ExF X.K X.mg G) (hx : G.exs.lookup x = some ci) (hg : glbB X.env.scope x = true) (ho : okName x = true) (ha : ∀ e ∈ es, PE X e (rdE X.K G Wx (g e))) (hs : noStars es = true) :
    PS X (.Raise (some (.Call (.Name x p) es [] pos')) none pos) (rdS X.K G Wx (sRaise G x (evs g es))) := by
  obtain ⟨n1, n2, _⟩ := okName_iff ho
  obtain ⟨ps, a, fd, xn, qual, st, ef, pne, pz, hm, T', iC, tI, Fn, Sc, ib, hn, hb, _⟩ := EF.ex x ci hx
  cases es with
  | nil => exact ⟨fun pins s σ H D I h => by
      obtain ⟨ι, ρ, S, m, o⟩ := h
      have e0 : sRaise G x (evs g []) ρ S = .bad := by simp [sRaise, evs, Res.toS, hx, allD]
      rw [e0] at o
      exact o.elim⟩
  | cons e es =>
    have hp := sd_args (e :: es) ha
    unfold noStars at hs
    rw [List.all_cons, Bool.and_eq_true] at hs
    have F1 : FnOk X.prog X.w X.K X.mg X.base (L2.CX X.prog X.w) 1 a fd (("self" : Str) :: ps) (spIx ci.C ps) := ok_init Fn Sc T' pne pz ib hn
    have hr : Room 2 X.A := C.roomX
    refine PS.imp (ps_raise C.calm C.tk (pmk_oex T' iC tI F1 hr hb .nil passX (glbB_iff hg) hm hp n1 (starEach_cons hs.1) (noStar_any hs.2))) fun D σ H ⟨ι, ρ, S, m, o⟩ => ?_
    refine ⟨ι, ρ, S, m, (OutS.res m.env o).imp fun ι1 H1 S1 ws e1 s1 o1 vs rvs => ?_⟩
    rw [hx] at o1
    split at o1
    · rename_i ci' ds hc hd
      cases hc
      split at o1
      · rename_i hl
        have r := rvs.all hd
        have hlen : vs.length = ps.length := by rw [r.length, hl.1, ef, List.length_reverse]
        refine ⟨by rw [hlen]; omega, fun b hb1 => ⟨b, vs ++ [], rfl, by rw [List.append_nil]; exact hlen, upd_same, fun d H2 hd2 hdb e2 e3 e4 => ?_⟩⟩
        rw [List.append_nil] at e3
        have hd1 : H1 d = none := by rw [upd_ne hdb] at hd2; exact hd2
        refine ⟨rfl, d, _, e2, e3, hd1, ?_⟩
        have kall : ∀ q u, H1 q = some u → upd (del H2 b) d (.xd (ps.zip vs).reverse) q = some u := fun q u h => by
          have q1 : q ≠ d := ne_of_none h hd1
          have q2 : q ≠ b := ne_of_none h hb1
          rw [upd_ne q1, del_ne q2, e4 q q2 q1, upd_ne q2]
          exact h
        have ex : Ext ι1 H1 ι1 (upd (del H2 b) d (.xd (ps.zip vs).reverse)) := ⟨⟨[], by simp, by simp⟩, fun q u _ h _ => kall q u h, fun q h => by
          cases hq : H1 q with
          | none => rfl
          | some u => rw [kall q u hq] at h; cases h⟩
        refine o1 ι1 _ σ _ _ ex ⟨(m.env.ext e1).ext ex, s1.keepAll ex kall⟩ ⟨ci, hx, rfl, d, vs.reverse, rfl, fresh_out s1 hd1, ?_, by rw [ef, List.length_reverse, List.length_reverse, hlen], (r.ext ex).reverse⟩
        rw [upd_same, ef, zip_reverse hlen.symm]
      · exact o1.elim
    · exact o1.elim
end
end EC
namespace EC
open PySem PySem.Spec PyProof.Rows L2
/-- a clause: its class, the slot of its name, its suite's reading -/
structure Clause where
  c : Value
  at_ : Option Nat
  ts : Addr → Value → Option Addr → TS
def offs (o : Option Nat) (D : Ends) : Ends := match o with
  | none => D
  | some i => { nx := fun σ H => D.nx (σ.set i none) H, rt := D.rt, bk := fun σ H => D.bk (σ.set i none) H, ct := fun σ H => D.ct (σ.set i none) H }
def ons (o : Option Nat) (a : Addr) (σ : L2.St) : L2.St := match o with
  | none => σ
  | some i => σ.set i (some (.ref a))
/-- what the clauses wish of an exception -/
def wCl (K : PySem.W.Frag) (Wo : WX) (D : Ends) : List Clause → WX
  | [] => Wo
  | q :: r => fun cls d σ H => ∃ b, PySem.W.exmOne K cls q.c = some b ∧ (b = true → ∀ a, H a = none → q.ts a cls d (offs q.at_ D) (ons q.at_ a σ) H) ∧ (b = false → wCl K Wo D r cls d σ H)
inductive ClsOk (X : Cx) : List ExceptHandler → List Clause → Prop
  | nil : ClsOk X [] []
  | bare {x : Str} {q : Clause} {b₀ : Stmt} {su : List Stmt} {p1 p2 : Pos} {hs : List ExceptHandler} {l : List Clause} (hc : Names X x q.c) (ho : q.at_ = none)
      (hsu : ∀ (a : Addr) (oe : Obj) (cls : Value) (d : Option Addr) (pn : List (Addr × Obj)), Zc cls d oe → (∃ vs, oe.data = .fields vs) → PSs (X.suite a ((a, oe) :: pn)) (b₀ :: su) (q.ts a cls d)) (r : ClsOk X hs l) :
      ClsOk X (.ExceptHandler (some (.Name x p1)) none (b₀ :: su) p2 :: hs) (q :: l)
  | as_ {x n : Str} {i : Nat} {q : Clause} {b₀ : Stmt} {su : List Stmt} {p1 p2 : Pos} {hs : List ExceptHandler} {l : List Clause} (hc : Names X x q.c) (ho : q.at_ = some i) (hN : X.N.Nodup) (hi : X.N[i]? = some n) (hn : X.env.kindOf n = some .local)
      (hsu : ∀ (a : Addr) (oe : Obj) (cls : Value) (d : Option Addr) (pn : List (Addr × Obj)), Zc cls d oe → (∃ vs, oe.data = .fields vs) → PSs (X.suite a ((a, oe) :: pn)) (b₀ :: su) (q.ts a cls d)) (r : ClsOk X hs l) :
      ClsOk X (.ExceptHandler (some (.Name x p1)) (some n) (b₀ :: su) p2 :: hs) (q :: l)
section
variable {X : Cx} {body : List Stmt} {h0 : ExceptHandler} {hs : List ExceptHandler} {l : List Clause} {pos : Pos} {tb : WX → TS} {Wo : WX}
/-- the exception at a, told to the clauses one by one -/
theorem clauses_run {pins : List (Addr × Obj)} {D : Ends} (sk : X.stack = X.env :: X.outer) (fr : X.env.frame = some X.env.locals) (tk : Takes X Wo) {a : Addr} {B : Heap} {sI s3 : Shared} {σ : L2.St} {H : Hp} {cls : Value} {d : Option Addr} (ok : X.Ok) (J : Inv X pins σ H sI)
    (nb : ∀ b o, sI.heap.get? b = some o → b ∉ frs X.stack → B.get? b = some o) (up : sI.heap.UpToSlots s3.heap) (fl : HandSPX.FlyingZ B (X.env :: X.outer) a (Zc cls d) s3.heap) (na : H a = none) (os : s3.os = sI.os) (ag : AllBare s3.gens)
    {hs : List ExceptHandler} {l : List Clause} (hk : ClsOk X hs l) (wish : wCl X.K Wo D l cls d σ H) : wpAny (model X.prog X.w) X.A (handleBy (.ref a) X.env hs) (SP X pins D) X.xe s3 := by
  have J3 : Inv X pins σ H s3 := J.landed nb fl.1 up os ag
  obtain ⟨oe3, vs3, he3, hz3, hd3⟩ := fl.there
  have nfr : a ∉ frs (X.env :: X.outer) := fun hm => by
    obtain ⟨_, o1, e1, q1⟩ := fl.2.2.1.mem hm
    rw [he3] at e1; cases e1; exact q1 _ hd3
  have nL : a ≠ X.env.locals := fun z => nfr (List.mem_filterMap.mpr ⟨_, List.mem_cons_self, fr.trans (congrArg some z.symm)⟩)
  have nF : a ∉ X.fs := fun hm => let ⟨e, he, q⟩ := List.mem_filterMap.mp hm; nfr (List.mem_filterMap.mpr ⟨e, List.mem_cons_of_mem _ he, q⟩)
  have S3 := J3.suite he3 hd3 na nL nF
  have look : PySem.W.Looks (model X.prog X.w) s3.heap (typeOf (.ref a)) cls := fun A Q E s k q => wpAny_typeOf_ref (k _ _ he3) (hz3.1 ▸ q)
  have ev : ∀ {x : Str} {c : Value} {np : Pos} {Q : Value → Shared → Prop} {E : Value → Shared → Prop}, Names X x c → Q c s3 → wpAny (model X.prog X.w) (X.A.mark (some (.ref a))) (eval (.Name x np) X.env) Q E s3 := fun {x c np Q E} hc q => by
    obtain ⟨g1, g2, g3 | ⟨g3, g4, g5⟩⟩ := hc
    · exact ld_glob (X := X.suite a ((a, oe3) :: (X.pn ++ pins))) S3 g1 g3 q g2
    · exact ld_blt (X := X.suite a ((a, oe3) :: (X.pn ++ pins))) S3 g1 g3 g4 q g5 g2
  -- the suite's own start
  have again : ∀ {Q : Unit → Shared → Prop} {E : Value → Shared → Prop}, (∀ s4 oe, Inv X pins σ H s4 → Zc cls d oe → (∃ vs, oe.data = .fields vs) → Inv (X.suite a ((a, oe) :: (X.pn ++ pins))) [] σ H s4 → Q () s4) → wpAny (model X.prog X.w) (X.A.mark (some (.ref a))) (setFlight (.ref a) none) Q E s3 := fun {Q E} hq =>
    HandSPX.lands_againZ fl fun h4 fl4 up4 => by
      have J4 : Inv X pins σ H { s3 with heap := h4 } := J.landed nb fl4.1 (up.trans up4) os ag
      obtain ⟨oe4, vs4, he4, hz4, hd4⟩ := fl4.there
      exact hq _ oe4 J4 hz4 ⟨_, hd4⟩ (J4.suite he4 hd4 na nL nF)
  induction hk with
  | nil =>
    refine wpAny_handleBy_nil ?_
    obtain ⟨_, _, _, oe, vs, Tb, _, _, he, _, hd, h1, _⟩ := id fl
    unfold PySem.passOn
    refine wpAny_bind (wpAny_field he hd h1 ?_)
    rw [if_neg (by simp : ¬ ((Value.ref Tb == Value.none) = true))]
    have go : wpAny (model X.prog X.w) X.A (setFlight (.ref a) X.env.frame) (fun _ t => wpAny (model X.prog X.w) X.A (throw (.ref a) : Sem Flow) (SP X pins D) X.xe t) X.xe s3 := by
      rw [fr]
      exact HandSPX.setFlight_upZ fl fun h4 g4 up4 => wpAny_throw (tk _ _ ⟨a, B, sI, pins, σ, H, cls, d, rfl, J, nb, up.trans up4, .inr (.inr (by rw [sk]; exact g4)), na, os, ag, wish⟩)
    first | exact wpAny_bind (wpAny_pure (wpAny_bind go)) | exact wpAny_bind go
  | @bare x q b₀ su p1 p2 hs l hc ho hsu r ih =>
    obtain ⟨b, hb, hy, hno⟩ := wish
    have LM := PySem.W.exm_one (M := model X.prog X.w) (J3.kIn) look hb
    refine wpAny_handleBy_cons (codeAny_handlers_test (ev hc (LM.here ?_))) (by intro z; cases z)
    cases b with
    | false => exact ih (hno rfl)
    | true =>
      refine codeAny_handlers_suite (again fun s4 oe J4 hz hd S4 => ?_)
      have w0 := hy rfl a na
      rw [ho] at w0
      refine wpAny_mono ((hsu a oe cls d (X.pn ++ pins) hz hd).run [] _ _ H _ S4 w0) (fun f s6 hsp => ?_) fun _ _ z => z.elim
      cases f with
      | ret u => obtain ⟨v6, σ6, H6, S6, r6, q6⟩ := hsp; exact ⟨v6, σ6, H6, S6.unsuite ok, r6, q6⟩
      | next => obtain ⟨σ6, H6, S6, q6⟩ := hsp; exact ⟨σ6, H6, S6.unsuite ok, q6⟩
      | brk => obtain ⟨σ6, H6, S6, q6⟩ := hsp; exact ⟨σ6, H6, S6.unsuite ok, q6⟩
      | cont => obtain ⟨σ6, H6, S6, q6⟩ := hsp; exact ⟨σ6, H6, S6.unsuite ok, q6⟩
  | @as_ x n i q b₀ su p1 p2 hs l hc ho hN hi hn hsu r ih =>
    obtain ⟨b, hb, hy, hno⟩ := wish
    have LM := PySem.W.exm_one (M := model X.prog X.w) (J3.kIn) look hb
    refine wpAny_handleBy_cons (codeAny_handlers_test (ev hc (LM.here ?_))) (by intro z; cases z)
    cases b with
    | false => exact ih (hno rfl)
    | true =>
      refine codeAny_handlers_suite_as (again fun s4 oe J4 hz hd S4 => ?_)
      have w0 := hy rfl a na
      rw [ho] at w0
      refine store_ok (X := X.suite a ((a, oe) :: (X.pn ++ pins))) (v := .ref a) S4 hN hi (.inl hn) rfl (fun s5 S5 => ?_) (.inr hn)
      refine wpAny_mono ((hsu a oe cls d (X.pn ++ pins) hz hd).run [] s5 _ H _ S5 w0) (fun f s6 hsp => ?_) fun _ _ z => z.elim
      have off : ∀ {τ : L2.St} {H6 : Hp} {Q : Shared → Prop}, Inv (X.suite a ((a, oe) :: (X.pn ++ pins))) [] τ H6 s6 → (∀ t, Inv X pins (τ.set i none) H6 t → Q t) → wpAny (model X.prog X.w) X.A (do bindName X.env n .none; unbindBehindTheSuite X.env n p2) (fun _ t => Q t) X.xe s6 := fun S6 hq => gone_ok (S6.unsuite ok) hN hi hn hq
      cases f with
      | ret u => obtain ⟨v6, σ6, H6, S6, r6, q6⟩ := hsp; exact off S6 fun t J7 => ⟨v6, _, H6, J7, r6, q6⟩
      | next => obtain ⟨σ6, H6, S6, q6⟩ := hsp; exact off S6 fun t J7 => ⟨_, H6, J7, q6⟩
      | brk => obtain ⟨σ6, H6, S6, q6⟩ := hsp; exact off S6 fun t J7 => ⟨_, H6, J7, q6⟩
      | cont => obtain ⟨σ6, H6, S6, q6⟩ := hsp; exact off S6 fun t J7 => ⟨_, H6, J7, q6⟩
theorem ps_tryC (sk : X.stack = X.env :: X.outer) (fr : X.env.frame = some X.env.locals) (tk : Takes X Wo)
    (hb : ∀ (W : WX) (pn : List (Addr × Obj)) (xe : Value → Shared → Prop), Takes (X.tr pn xe) W → PassesOwn (model X.prog X.w) X.A X.env xe → PSs (X.tr pn xe) body (tb W))
    (hk : ClsOk X (h0 :: hs) l) : PS X (.Try body (h0 :: hs) [] [] pos) (fun D σ H => tb (wCl X.K Wo D l) D σ H) := by
  refine ⟨fun pins s σ H D I h => wpAny_Try_except ?_⟩
  have ok := I.ok
  refine wpAny_mono ((hb (wCl X.K Wo D l) (X.pn ++ pins) _ (fun u s' xx => ?_) PassesOwn.looking).run [] s σ H D (I.toTry _) h) (fun f s1 hsp => ?_) (fun e s1 he => he)
  · obtain ⟨a, B, sI, pins', σ', H', cls, d, rfl, J', nb, up, sky, na, os, ag, w⟩ := xx
    have sky' : Sky B (X.env :: X.outer) a (Zc cls d) X.env.locals s'.heap := sk ▸ sky
    exact Sky.land Zc.steady (by rw [ok.frames, sk]) fr sky' fun h3 fl3 up3 => clauses_run (s3 := { s' with heap := h3 }) sk fr tk ok (J'.ofTry ok) nb (up.trans up3) fl3 na os ag hk w
  · cases f with
    | ret u => obtain ⟨v, σ', H', J', r, q⟩ := hsp; exact ⟨v, σ', H', J'.ofTry ok, r, q⟩
    | next => obtain ⟨σ', H', J', q⟩ := hsp; exact wpAny_execs_nil ⟨σ', H', J'.ofTry ok, q⟩
    | brk => obtain ⟨σ', H', J', q⟩ := hsp; exact ⟨σ', H', J'.ofTry ok, q⟩
    | cont => obtain ⟨σ', H', J', q⟩ := hsp; exact ⟨σ', H', J'.ofTry ok, q⟩
end
end EC
namespace EC
open PySem PySem.Spec PyProof.Rows L2
/-- the exception at hand -/
structure XI where
  a : Addr
  cls : Value
  d : Option Addr
  i : Option Nat
  ci : ClsI
  fs : List D
def XHold (K : PySem.W.Frag) (G : Gam) (x : XI) (ι : List Addr) (σ : L2.St) (H : Hp) : Prop :=
  x.cls = .ref x.ci.C ∧ (∀ i, x.i = some i → σ[i]? = some (some (.ref x.a))) ∧ ∃ da xs, x.d = some da ∧ da ∉ ι ∧ H da = some (.xd (x.ci.fields.zip xs)) ∧ x.ci.fields.length = xs.length ∧ RepAll K G ι H xs x.fs
theorem XHold.ext {K : PySem.W.Frag} {G : Gam} {x : XI} {ι ι' : List Addr} {σ : L2.St} {H H' : Hp} (h : XHold K G x ι σ H) (e : Ext ι H ι' H') : XHold K G x ι' σ H' := by
  obtain ⟨h1, h2, da, xs, h3, h4, h5, h6, h7⟩ := h
  exact ⟨h1, h2, da, xs, h3, e.out h4 h5, e.keep _ _ h4 h5 (fun _ z => by cases z), h6, h7.ext e⟩
def rdX (K : PySem.W.Frag) (G : Gam) (x : XI) (c : Sm W) : TE := fun σ H Q => ∃ ι ρ S, MtE K G ι ρ S σ H ∧ XHold K G x ι σ H ∧ Out K G ι H (fun _ _ _ => False) (fun ι' H' _ w => ∀ v, RepW K G ι' H' v w → Q v H') (c ρ S)
def rdXA (K : PySem.W.Frag) (G : Gam) (x : XI) (c : Sm (List W)) : TA := fun σ H Q => ∃ ι ρ S, MtE K G ι ρ S σ H ∧ XHold K G x ι σ H ∧ Out K G ι H (fun _ _ _ => False) (fun ι' H' _ ws => ∀ vs, RepWs K G ι' H' vs ws → Q vs H') (c ρ S)
/-- what a clause's suite may ask: n the exception's name -/
def hE (G : Gam) (N : List Str) (sc : Scope) (n : Option Str) (ci : ClsI) (fs : List D) : Nat → Expr → Sm W
  | 0, _ => badE
  | f + 1, e => match e with
    | .Constant c _ _ => eConst c
    | .Name x _ => eName G N sc x
    | .Attribute (.Name x _) g _ => if n = some x then fun _ S => match ixOf g ci.fields with
        | some j => match fs[j]? with
          | some d => .ok (.dat d) S
          | none => .bad
        | none => .bad
      else badE
    | .List es _ => if noStars es then fun ρ S => (evs (hE G N sc n ci fs f) es ρ S).bind mkLst else badE
    | .Tuple es _ _ => if noStars es then fun ρ S => (evs (hE G N sc n ci fs f) es ρ S).bind mkTup else badE
    | _ => badE
theorem pe_badX {X : Cx} {e : Expr} {K : PySem.W.Frag} {G : Gam} {x : XI} : PE X e (rdX K G x badE) := ⟨fun _ _ _ _ _ _ ⟨_, _, _, _, _, h⟩ => h.elim⟩
theorem sx_args {X : Cx} {G : Gam} {x : XI} {f : Expr → Sm W} : ∀ (es : List Expr), (∀ e ∈ es, PE X e (rdX X.K G x (f e))) → noStars es = true → PA X es (rdXA X.K G x (evs f es))
  | [], _, _ => PA.imp pa_nil fun σ H Q ⟨ι, ρ, S, m, hx, o⟩ => o ι H (Ext.refl _ _) m.st [] .nil
  | e :: es, h, hs => by
    unfold noStars at hs
    rw [List.all_cons, Bool.and_eq_true] at hs
    unfold evs
    simp only [hs.1, if_true]
    refine PA.imp (pa_cons (h e List.mem_cons_self) (sx_args es (fun e he => h e (List.mem_cons_of_mem _ he)) hs.2) (starEach_cons hs.1)) fun σ H Q ⟨ι, ρ, S, m, hx, o⟩ => ?_
    refine ⟨ι, ρ, S, m, hx, o.bind.imp fun ι1 H1 S1 w1 e1 s1 o1 v rv => ?_⟩
    refine ⟨ι1, ρ, S1, ⟨m.env.ext e1, s1⟩, hx.ext e1, o1.bind.imp fun ι2 H2 S2 ws e2 s2 o2 vs rvs => ?_⟩
    exact o2 ι2 H2 (Ext.refl _ _) s2 (v :: vs) (.cons (rv.ext e2) rvs)
section
variable {X : Cx} {G : Gam} {pn : List (Addr × Obj)} {oe : Obj} {x : XI} {n : Option Str}
theorem snd_h (C : CtxN G X) (T : XfC X.K x.ci.C) (hno : ∀ g ∈ x.ci.fields, PySem.W.findIn X.K (.ref x.ci.C) g = some none) (hz : Zc x.cls x.d oe) (hf : ∃ vs, oe.data = .fields vs)
    (hn : ∀ m, n = some m → ∃ i, x.i = some i ∧ X.N[i]? = some m ∧ X.env.scope.names.lookup m = some .local ∧ okName m = true) : ∀ (f : Nat) (e : Expr), PE (X.suite x.a ((x.a, oe) :: pn)) e (rdX X.K G x (hE G X.N X.env.scope n x.ci x.fs f e))
  | 0, e => pe_badX
  | f + 1, e => by
    have CN : CtxN G (X.suite x.a ((x.a, oe) :: pn)) := ⟨C.nd, C.bi, C.gfn, C.gcl, C.gco⟩
    have ih := snd_h C T hno hz hf hn f
    unfold hE
    split
    · exact PE.imp (sd_const (G := G) (Wx := noWx)) fun σ H Q ⟨ι, ρ, S, m, hx, o⟩ => ⟨ι, ρ, S, m, o⟩
    · exact PE.imp (sd_name (Wx := noWx) CN) fun σ H Q ⟨ι, ρ, S, m, hx, o⟩ => ⟨ι, ρ, S, m, o⟩
    · rename_i y p g pos
      split
      · rename_i hy
        obtain ⟨i, h1, h2, h3, h4⟩ := hn y hy
        obtain ⟨n1, n2, _⟩ := okName_iff h4
        by_cases hg : g ∈ x.ci.fields
        · refine PE.imp (pe_xf T (hno g hg) hz hf (pe_var (X := X.suite x.a ((x.a, oe) :: pn)) (i := i) h2 (.inl h3) n1 n2) (by rfl)) fun σ H Q ⟨ι, ρ, S, m, hx, o⟩ => ?_
          obtain ⟨k1, k2, da, xs, k3, k4, k5, k6, k7⟩ := hx
          refine ⟨_, k2 i h1, rfl, k1, da, x.ci.fields.zip xs, ?_⟩
          split at o
          · rename_i j hj
            split at o
            · rename_i d hd
              obtain ⟨v, e1, e2⟩ := k7.get hd
              exact ⟨v, k3, k5, lookup_zip hj e1, o ι H (Ext.refl _ _) m.st v (.dat e2)⟩
            · exact o.elim
          · exact o.elim
        · refine ⟨fun pins s σ H Q I ⟨ι, ρ, S, m, hx, o⟩ => ?_⟩
          split at o
          · rename_i j hj
            exact absurd (ixOf_mem hj) hg
          · exact o.elim
      · exact pe_badX
    · split
      · rename_i es p hs
        refine PE.imp (pe_lst (sx_args es (fun e _ => ih e) hs)) fun σ H Q ⟨ι, ρ, S, m, hx, o⟩ => ?_
        refine ⟨ι, ρ, S, m, hx, o.bind.imp fun ι1 H1 S1 ws e1 s1 o1 xs rxs => ?_⟩
        unfold mkLst at o1
        split at o1
        · rename_i ds hd
          split at o1
          · rename_i hf2
            have r := rxs.all hd
            exact ⟨by rw [r.length]; exact fits_iff.mp hf2, (Out.got o1).lst s1 r⟩
          · exact o1.elim
        · exact o1.elim
      · exact pe_badX
    · split
      · rename_i es k p hs
        refine PE.imp (pe_tup (sx_args es (fun e _ => ih e) hs)) fun σ H Q ⟨ι, ρ, S, m, hx, o⟩ => ?_
        refine ⟨ι, ρ, S, m, hx, o.bind.imp fun ι1 H1 S1 ws e1 s1 o1 xs rxs => ?_⟩
        unfold mkTup at o1
        split at o1
        · rename_i ds hd
          split at o1
          · rename_i hf2
            have r := rxs.all hd
            exact ⟨by rw [r.length]; exact fits_iff.mp hf2, (Out.got o1).tup s1 r⟩
          · exact o1.elim
        · exact o1.elim
      · exact pe_badX
    · exact pe_badX
end
/-- a suite of one statement -/
def hS (G : Gam) (N : List Str) (sc : Scope) (n : Option Str) (ci : ClsI) (fs : List D) (sts : List Stmt) : Ss := match sts with
  | [.Return (some e) _] => sRet (hE G N sc n ci fs 20 e)
  | [.Assign [.Name y _] e _] => if n ≠ some y ∧ notComp e = true then sAsg (hE G N sc n ci fs 20 e) (setN false N sc y) else badS0
  | _ => badS0
where badS0 : Ss := fun _ _ => .bad
def rdXS (K : PySem.W.Frag) (G : Gam) (x : XI) (c : Ss) : TS := fun D σ H => ∃ ι ρ S, MtE K G ι ρ S σ H ∧ XHold K G x ι σ H ∧ OutS K G ι H D noWx (c ρ S)
section
variable {X : Cx} {G : Gam} {pn : List (Addr × Obj)} {oe : Obj} {x : XI} {n : Option Str}
theorem OutS.resX {K : PySem.W.Frag} {ι : List Addr} {H : Hp} {D : Ends} {ρ : Env0'} {α : Type} {r : Res α} {f : α → Store → SR} {σ : L2.St} (he : EnvOk K G ι H ρ σ) (h : OutS K G ι H D noWx (r.toS ρ f)) :
    Out K G ι H (fun _ _ _ => False) (fun ι' H' S a => OutS K G ι' H' D noWx (f a S)) r := OutS.res (Wx := noWx) he h
theorem snd_hS (C : CtxN G X) (T : XfC X.K x.ci.C) (hno : ∀ g ∈ x.ci.fields, PySem.W.findIn X.K (.ref x.ci.C) g = some none) (hz : Zc x.cls x.d oe) (hf : ∃ vs, oe.data = .fields vs)
    (hn : ∀ m, n = some m → ∃ i, x.i = some i ∧ X.N[i]? = some m ∧ X.env.scope.names.lookup m = some .local ∧ okName m = true) (sts : List Stmt) : PSs (X.suite x.a ((x.a, oe) :: pn)) sts (rdXS X.K G x (hS G X.N X.env.scope n x.ci x.fs sts)) := by
  have bad : ∀ sts, PSs (X.suite x.a ((x.a, oe) :: pn)) sts (rdXS X.K G x hS.badS0) := fun sts => ⟨fun pins s σ H D I ⟨ι, ρ, S, m, hx, o⟩ => o.elim⟩
  have he := fun e => snd_h (pn := pn) C T hno hz hf hn 20 e
  unfold hS
  split
  · rename_i e p
    refine pss_one (PS.imp (ps_ret (he e)) fun D σ H ⟨ι, ρ, S, m, hx, o⟩ => ?_)
    refine ⟨ι, ρ, S, m, hx, (OutS.resX m.env o).imp fun ι1 H1 S1 w e1 s1 o1 v rv => ?_⟩
    exact o1 ι1 H1 v (Ext.refl _ _) s1 rv
  · rename_i y p e p2
    split
    · rename_i h
      have hg := sg_name (G := G) (X := X.suite x.a ((x.a, oe) :: pn)) (cells := false) (x := y) (pos := p) C.nd (locOk_own fun z => by cases z)
      refine pss_one (PS.imp (ps_asg (X := X.suite x.a ((x.a, oe) :: pn)) (he e) hg (@sw_notComp e (some (.Name y p)) p2.line X.env h.2) (by cases e <;> rfl) (by rfl)) fun D σ H ⟨ι, ρ, S, m, hx, o⟩ => ?_)
      refine ⟨ι, ρ, S, m, hx, (OutS.resX m.env o).imp fun ι1 H1 S1 w e1 s1 o1 v rv => ?_⟩
      split at o1
      · rename_i ρ1 ht
        exact ⟨ι1, ρ, S1, w, ρ1, ⟨m.env.ext e1, s1⟩, rv, ht, fun σ' _ m' => o1.nxt m'⟩
      · exact o1.elim
    · exact bad _
  · exact bad _
end
/-- a clause as it is read: class, the exception's name and slot, the suite -/
structure ClD where
  x : Str
  nm : Option Str
  i : Option Nat
  sts : List Stmt
def unset (i : Option Nat) (r : SR) : SR := match i with
  | none => r
  | some i => match r with
    | .nx ρ S => .nx (ρ.set i none) S
    | .bk ρ S => .bk (ρ.set i none) S
    | .ct ρ S => .ct (ρ.set i none) S
    | r => r
def SR.noEx : SR → SR
  | .ex _ _ _ _ => .bad
  | r => r
theorem noEx_of {K : PySem.W.Frag} {G : Gam} {ι : List Addr} {H : Hp} {D : Ends} {Wx : WX} {r : SR} (h : OutS K G ι H D Wx r.noEx) : OutS K G ι H D noWx r := by
  cases r with
  | ex c fs ρ S => exact h.elim
  | _ => exact h
def pickC (G : Gam) (N : List Str) (sc : Scope) (c : Str) (ci : ClsI) (fs : List D) (ρ : Env0') (S : Store) : List ClD → SR
  | [] => .ex c fs ρ S
  | q :: r => if c = q.x then (match q.i with
      | none => (hS G N sc q.nm ci fs q.sts ρ S).noEx
      | some i => if i < ρ.length then unset (some i) (hS G N sc q.nm ci fs q.sts (ρ.set i none) S).noEx else .bad)
    else pickC G N sc c ci fs ρ S r
def sTry (G : Gam) (N : List Str) (sc : Scope) (b : Ss) (cl : List ClD) : Ss := fun ρ S => match b ρ S with
  | .ex c fs ρ1 S1 => match G.exs.lookup c with
    | some ci => pickC G N sc c ci fs ρ1 S1 cl
    | none => .bad
  | r => r
theorem OutS.unset {K : PySem.W.Frag} {G : Gam} {ι : List Addr} {H : Hp} {D : Ends} {Wx : WX} {i : Nat} {r : SR} (h : OutS K G ι H D Wx (EC.unset (some i) r)) : OutS K G ι H (offs (some i) D) Wx r := by
  have key : ∀ {ι' : List Addr} {H' : Hp} {ρ : Env0'} {S : Store} {σ : L2.St}, MtE K G ι' ρ S σ H' → MtE K G ι' (ρ.set i none) S (σ.set i none) H' := fun {ι' H' ρ S σ} m => by
    refine ⟨⟨by simp [m.env.len], fun j w e => ?_⟩, m.st⟩
    by_cases hj : j = i
    · subst hj
      by_cases hl : j < ρ.length
      · rw [List.getElem?_set_self hl] at e; cases e
      · rw [List.getElem?_eq_none (by simpa using hl)] at e; cases e
    · rw [List.getElem?_set_ne (Ne.symm hj)] at e ⊢
      exact m.env.at_ j w e
  cases r with
  | nx ρ S => exact fun a b c e m => h a b _ e (key m)
  | rt w S => exact h
  | bk ρ S => exact fun a b c e m => h a b _ e (key m)
  | ct ρ S => exact fun a b c e m => h a b _ e (key m)
  | ex c fs ρ S => exact h
  | bad => exact h
theorem noEx_of' {K : PySem.W.Frag} {G : Gam} {ι : List Addr} {H : Hp} {D : Ends} {Wx : WX} {i : Nat} {r : SR} (h : OutS K G ι H D Wx (EC.unset (some i) r.noEx)) : OutS K G ι H (offs (some i) D) noWx r := noEx_of (OutS.unset h)
/-- the clauses, told to the hand layer -/
def clauseOf (K : PySem.W.Frag) (G : Gam) (N : List Str) (sc : Scope) (D0 : Unit) (q : ClD) : Option Clause := match G.exs.lookup q.x with
  | some cx => some ⟨.ref cx.C, q.i, fun a cls d D σ H => ∃ c ci fs, G.exs.lookup c = some ci ∧ rdXS K G ⟨a, cls, d, q.i, ci, fs⟩ (hS G N sc q.nm ci fs q.sts) D σ H⟩
  | none => none
def clausesOf (K : PySem.W.Frag) (G : Gam) (N : List Str) (sc : Scope) : List ClD → Option (List Clause)
  | [] => some []
  | q :: r => match clauseOf K G N sc () q, clausesOf K G N sc r with
    | some a, some b => some (a :: b)
    | _, _ => none
section
variable {X : Cx} {G : Gam} {Wx : WX} {k : Nat} {T : FnT} {pos : Pos}
/-- the wish of the clauses, from what the text's reading asks -/
theorem wCl_of (EF : ExF X.K X.mg G) {N : List Str} {sc : Scope} {E : Ends} {c : Str} {ci : ClsI} {fs : List D} (hc : G.exs.lookup c = some ci) : ∀ (cl : List ClD) (l : List Clause), clausesOf X.K G N sc cl = some l → ∀ {ι : List Addr} {ρ : Env0'} {S : Store} {σ : L2.St} {H : Hp} {cls : Value} {d : Option Addr},
    MtE X.K G ι ρ S σ H → XOk X.K G ι H c fs cls d → OutS X.K G ι H E Wx (pickC G N sc c ci fs ρ S cl) → wCl X.K Wx E l cls d σ H
  | [], l, hl, ι, ρ, S, σ, H, cls, d, m, x, o => by
    cases hl
    exact o ι H σ cls d (Ext.refl _ _) m x
  | q :: r, l, hl, ι, ρ, S, σ, H, cls, d, m, x, o => by
    unfold clausesOf at hl
    split at hl
    · rename_i qa rb h1 h2
      cases hl
      unfold clauseOf at h1
      split at h1
      · rename_i cx hx
        cases h1
        obtain ⟨ci', x1, x2, da, xs, x3, x4, x5, x6, x7⟩ := id x
        rw [hc] at x1; cases x1
        subst x2
        refine ⟨decide (c = q.x), EF.exm c ci q.x cx hc hx, fun hb a na => ?_, fun hb => ?_⟩
        · have hb := of_decide_eq_true hb
          unfold pickC at o
          rw [if_pos hb] at o
          refine ⟨c, ci, fs, hc, ?_⟩
          obtain ⟨qx, qn, qi, qs⟩ := q
          cases qi with
          | none => exact ⟨ι, ρ, S, m, ⟨rfl, (fun i h => by cases h), da, xs, x3, x4, x5, x6, x7⟩, noEx_of o⟩
          | some i =>
            simp only at o
            split at o
            · rename_i hlt
              rw [m.env.len] at hlt
              refine ⟨ι, ρ.set i none, S, ⟨⟨by simp [ons, m.env.len], fun j w e => ?_⟩, m.st⟩, ⟨rfl, (fun j h => by cases h; exact List.getElem?_set_self hlt), da, xs, x3, x4, x5, x6, x7⟩, noEx_of' o⟩
              by_cases hj : j = i
              · subst hj
                rw [List.getElem?_set_self (by rw [m.env.len]; exact hlt)] at e; cases e
              · rw [List.getElem?_set_ne (Ne.symm hj)] at e
                obtain ⟨v, e1, e2⟩ := m.env.at_ j w e
                exact ⟨v, by show (σ.set i _)[j]? = _; rw [List.getElem?_set_ne (Ne.symm hj)]; exact e1, e2⟩
            · exact o.elim
        · have hb := of_decide_eq_false hb
          unfold pickC at o
          rw [if_neg hb] at o
          exact wCl_of EF hc r rb h2 m x o
      · cases h1
    · cases hl
/-- a clause, read -/
def clOf (G : Gam) (N : List Str) (sc : Scope) : ExceptHandler → Option ClD
  | .ExceptHandler (some (.Name x _)) none (b₀ :: su) _ => if (G.exs.lookup x).isSome && glbB sc x && okName x then some ⟨x, none, none, b₀ :: su⟩ else none
  | .ExceptHandler (some (.Name x _)) (some n) (b₀ :: su) _ => if (G.exs.lookup x).isSome && glbB sc x && okName x && locB false sc n && okName n && (ixOf n N).isSome then some ⟨x, some n, ixOf n N, b₀ :: su⟩ else none
  | _ => none
def clsOf (G : Gam) (N : List Str) (sc : Scope) : List ExceptHandler → Option (List ClD)
  | [] => some []
  | h :: r => match clOf G N sc h, clsOf G N sc r with
    | some a, some b => some (a :: b)
    | _, _ => none
theorem suite_ok (C : CtxN G X) (EF : ExF X.K X.mg G) {q : ClD} (hq : ∀ m, q.nm = some m → ∃ i, q.i = some i ∧ X.N[i]? = some m ∧ X.env.scope.names.lookup m = some .local ∧ okName m = true) (a : Addr) (oe : Obj) (cls : Value) (d : Option Addr) (pn : List (Addr × Obj)) (hz : Zc cls d oe) (hf : ∃ vs, oe.data = .fields vs) :
    PSs (X.suite a ((a, oe) :: pn)) q.sts (fun D σ H => ∃ c ci fs, G.exs.lookup c = some ci ∧ rdXS X.K G ⟨a, cls, d, q.i, ci, fs⟩ (hS G X.N X.env.scope q.nm ci fs q.sts) D σ H) := by
  refine ⟨fun pins s σ H D I h => ?_⟩
  obtain ⟨c, ci, fs, hc, h⟩ := h
  obtain ⟨ps, a', fd, xn, qual, st, ef, pne, pz, hm, T', iC, tI, Fn, Sc, ib, hn, hb, xf⟩ := EF.ex c ci hc
  exact (snd_hS (x := ⟨a, cls, d, q.i, ci, fs⟩) C xf (fun g hg => hn g (by rw [ef] at hg; exact List.mem_reverse.mp hg)) hz hf hq q.sts).run pins s σ H D I h
theorem clauses_ok (C : CtxN G X) (EF : ExF X.K X.mg G) : ∀ (hs : List ExceptHandler) (cl : List ClD), clsOf G X.N X.env.scope hs = some cl → ∃ l, clausesOf X.K G X.N X.env.scope cl = some l ∧ ClsOk X hs l
  | [], cl, h => by cases h; exact ⟨[], rfl, .nil⟩
  | h :: r, cl, hh => by
    unfold clsOf at hh
    split at hh
    · rename_i q b h1 h2
      cases hh
      obtain ⟨l, g1, g2⟩ := clauses_ok C EF r b h2
      unfold clOf at h1
      split at h1
      · rename_i x p1 b₀ su p2
        split at h1
        · rename_i hc
          cases h1
          simp only [Bool.and_eq_true] at hc
          obtain ⟨⟨c1, c2⟩, c3⟩ := hc
          obtain ⟨cx, hx⟩ := Option.isSome_iff_exists.mp c1
          obtain ⟨ps, a', fd, xn, qual, st, ef, pne, pz, hm, _⟩ := EF.ex x cx hx
          refine ⟨_ :: l, by unfold clausesOf clauseOf; rw [hx, g1], .bare ⟨glbB_iff c2, (okName_iff c3).1, .inl hm⟩ rfl (fun a oe cls d pn hz hf => suite_ok (q := ⟨x, none, none, b₀ :: su⟩) C EF (fun m z => by cases z) a oe cls d pn hz hf) g2⟩
        · cases h1
      · rename_i x p1 n b₀ su p2
        split at h1
        · rename_i hc
          cases h1
          simp only [Bool.and_eq_true] at hc
          obtain ⟨⟨⟨⟨⟨c1, c2⟩, c3⟩, c4⟩, c5⟩, c6⟩ := hc
          obtain ⟨cx, hx⟩ := Option.isSome_iff_exists.mp c1
          obtain ⟨i, hi⟩ := Option.isSome_iff_exists.mp c6
          obtain ⟨ps, a', fd, xn, qual, st, ef, pne, pz, hm, _⟩ := EF.ex x cx hx
          have hl : X.env.scope.names.lookup n = some .local := by
            unfold locB at c4
            split at c4
            · assumption
            · cases c4
            · cases c4
          refine ⟨_ :: l, by unfold clausesOf clauseOf; rw [hx, g1], .as_ (i := i) ⟨glbB_iff c2, (okName_iff c3).1, .inl hm⟩ hi C.nd (ixOf_get hi) hl (fun a oe cls d pn hz hf => suite_ok (q := ⟨x, some n, ixOf n X.N, b₀ :: su⟩) C EF (fun m z => by cases z; exact ⟨i, hi, ixOf_get hi, hl, c5⟩) a oe cls d pn hz hf) g2⟩
        · cases h1
      · cases h1
    · cases hh
theorem CtxS.tr (C : CtxS G X Wx k T) {W : WX} {pn : List (Addr × Obj)} {xe : Value → Shared → Prop} (tk : Takes (X.tr pn xe) W) (hp : PassesOwn (model X.prog X.w) X.A X.env xe) : CtxS G (X.tr pn xe) W k T :=
  { calm := C.calm, nd := C.nd, tk := tk, un := C.un, bi := C.bi, gfn := C.gfn, gcl := C.gcl, gco := C.gco, isf := C.isf, clf := C.clf, room := C.room, roomX := C.roomX, fns := C.fns, low := C.low, kind := C.kind, fnc := C.fnc, pass := hp, stk := C.stk, frm := C.frm, lamr := C.lamr.tr pn xe }
theorem ss_try {h0 : ExceptHandler} {hs : List ExceptHandler} {cl : List ClD} {body : List Stmt} {cb : Ss} (C : CtxS G X Wx k T) (EF : ExF X.K X.mg G) (hcl : clsOf G X.N X.env.scope (h0 :: hs) = some cl)
    (hb : ∀ (W : WX) (pn : List (Addr × Obj)) (xe : Value → Shared → Prop), CtxS G (X.tr pn xe) W k T → PSs (X.tr pn xe) body (rdS X.K G W cb)) : PS X (.Try body (h0 :: hs) [] [] pos) (rdS X.K G Wx (sTry G X.N X.env.scope cb cl)) := by
  obtain ⟨l, g1, g2⟩ := clauses_ok C.toCtxN EF _ _ hcl
  refine PS.imp (ps_tryC C.stk C.frm C.tk (tb := fun W => rdS X.K G W cb) (fun W pn xe tk hp => hb W pn xe (C.tr tk hp)) g2) fun D σ H ⟨ι, ρ, S, m, o⟩ => ⟨ι, ρ, S, m, ?_⟩
  unfold sTry at o
  cases hr : cb ρ S with
  | nx ρ' S' => rw [hr] at o; exact o
  | rt w S' => rw [hr] at o; exact o
  | bk ρ' S' => rw [hr] at o; exact o
  | ct ρ' S' => rw [hr] at o; exact o
  | bad => rw [hr] at o; exact o
  | ex c fs ρ' S' =>
    rw [hr] at o
    intro ι' H' σ' cls d e m' x'
    cases hc : G.exs.lookup c with
    | none => simp only [hc] at o; exact o.elim
    | some ci =>
      simp only [hc] at o
      exact wCl_of EF hc cl l g1 m' x' (OutS.ext e o)
end
end EC
namespace EC
open PySem PySem.Spec PyProof.Rows L2
def badS : Ss := fun _ _ => .bad
/-- what a def is read with: its names, scope, the names that hold new cells, whether its result is one -/
structure FnI where
  N : List Str
  sc : Scope
  bxs : List Str
  rb : Bool
  tb : Bool
abbrev FnI.lm (F : FnI) : Lm := ⟨true, F.tb⟩
def tgBx (bxs : List Str) : Expr → Bool
  | .Name x _ => decide (x ∈ bxs)
  | .Tuple es _ _ => es.any fun e => match e with
    | .Name x _ => decide (x ∈ bxs)
    | _ => false
  | _ => false
/-- may a, b be set by two, three at once -/
def ttOk (N : List Str) (sc : Scope) (ts vs : List Expr) : Bool := match swPure sc ts vs with
  | some none => true
  | some (some names) => match ts, vs with
    | [.Name x _, .Name y _], [_, _] => decide (names = [x, y]) && (match ixOf x N, ixOf y N with
      | some i, some j => decide (i ≠ j)
      | _, _ => false) && decide (sc.names.lookup x = some .local) && decide (sc.names.lookup y = some .local)
    | [.Name x _, .Name y _, .Name z _], [_, _, _] => decide (names = [x, y, z]) && (match ixOf x N, ixOf y N, ixOf z N with
      | some i, some j, some l => decide (i ≠ j) && decide (i ≠ l) && decide (j ≠ l)
      | _, _, _ => false) && decide (sc.names.lookup x = some .local) && decide (sc.names.lookup y = some .local) && decide (sc.names.lookup z = some .local)
    | _, _ => false
  | none => false
def swNone : Option (Option (List Str)) → Bool
  | some none => true
  | _ => false
theorem swNone_eq {o : Option (Option (List Str))} (h : swNone o = true) : o = some none := by
  unfold swNone at h
  split at h
  · rfl
  · cases h
def cAsg1 (G : Gam) (F : FnI) (r r0 : Rd) (tg e : Expr) : Ss := if okTgt tg then (match e with
    | .ListComp elt gs scope p => if swOff F.sc p scope tg then sAsg (r (tgBx F.bxs tg) F.sc e) (setT true F.N F.sc tg) else (match gs with
      | [⟨tg2, it, ifs, 0⟩] => if okLc F.N F.sc scope tg2 it && decide (ifs.length ≤ 1) && (tgIx F.N tg).length == 1 then sAsg (sLc (cIter r F.sc tg2 it) (setT true F.N scope tg2) (cIfs r0 (relS scope F.sc) ifs) (r0 false (relS scope F.sc) elt) ((ownOf F.N scope).map (·.2)) (tgBx F.bxs tg)) (setT true F.N F.sc tg) else badS
      | _ => badS)
    | .Tuple vs _ _ => (match tg with
      | .Tuple ts _ _ => if ttOk F.N F.sc ts vs then sTT (evs (r (tgBx F.bxs tg) F.sc) vs) (setNs true F.N F.sc ts) else badS
      | tg => sAsg (r (tgBx F.bxs tg) F.sc e) (setT true F.N F.sc tg))
    | e => if notComp e then sAsg (r (tgBx F.bxs tg) F.sc e) (setT true F.N F.sc tg) else badS) else badS
def cAsg (G : Gam) (F : FnI) (r r0 : Rd) (tg e : Expr) : Ss :=
  match tg with
  | .Attribute o f _ => if notComp e then sFldAsg G f (r false F.sc e) (r false F.sc o) else badS
  | .Subscript o i _ => if notComp e then sPut (r false F.sc e) (r false F.sc o) (r false F.sc i) else badS
  | .Tuple ts k p => if okTgt (.Tuple ts k p) then cAsg1 G F r r0 (.Tuple ts k p) e else (match e with
    | .Tuple vs _ _ => if ts.all isTg && swNone (swPure F.sc ts vs) then sTM (evs (r false F.sc) vs) (ts.map (gOf G F.N F.sc (r false F.sc))) else badS
    | _ => badS)
  | tg => cAsg1 G F r r0 tg e
def seqOf (h : Stmt → Ss) : List Stmt → Ss
  | [] => sNil
  | st :: rest => sSeq (h st) (seqOf h rest)
def cAug (G : Gam) (F : FnI) (r : Rd) (tg : Expr) (op : Operator) (e : Expr) : Ss := match tg with
  | .Name x _ => match ixOf x F.N with
    | some i => if locB true F.sc x then sAugN i op (r false F.sc e) else badS
    | none => badS
  | .Attribute o f _ => sAugF G f op (r false F.sc o) (r false F.sc e)
  | _ => badS
def cS (G : Gam) (T : FnT) (F : FnI) (ef : Nat) : Nat → Stmt → Ss
  | 0 => fun _ => badS
  | f + 1 => fun st => match st with
    | .Pass _ => sNil
    | .Break _ => sBrk
    | .Continue _ => sCnt
    | .Expr e _ => if notComp e then sExpr (cE G F.N ef T F.lm false F.sc e) else badS
    | .Return none _ => sRetN
    | .Return (some e) _ => sRet (cE G F.N ef T F.lm F.rb F.sc e)
    | .If c a b _ => sIte (tst (cE G F.N ef T F.lm false F.sc c)) (seqOf (cS G T F ef f) a) (seqOf (cS G T F ef f) b)
    | .While c body [] _ => sWhile (tst (cE G F.N ef T F.lm false F.sc c)) (seqOf (cS G T F ef f) body)
    | .For tg it body [] _ => if okTgt tg && notSet it then sFor (cIter (cE G F.N ef T F.lm) F.sc tg it) (setT true F.N F.sc tg) (seqOf (cS G T F ef f) body) else badS
    | .Assign [tg] e _ => cAsg G F (cE G F.N ef T F.lm) (cE G F.N ef T noLm) tg e
    | .AugAssign tg op e _ => cAug G F (cE G F.N ef T F.lm) tg op e
    | .Raise (some (.Call (.Name x _) es [] _)) none _ => if (G.exs.lookup x).isSome && glbB F.sc x && okName x && noStars es then sRaise G x (evs (cE G F.N ef T F.lm false F.sc) es) else badS
    | .Try body (h0 :: hs) [] [] _ => match clsOf G F.N F.sc (h0 :: hs) with
      | some cl => sTry G F.N F.sc (seqOf (cS G T F ef f) body) cl
      | none => badS
    | _ => badS
section
variable {X : Cx} {G : Gam} {Wx : WX} {k : Nat} {T : FnT} {F : FnI} {pos : Pos}
theorem CtxS.toM {tb : Bool} (C : CtxS G X Wx k T) (ht : tb = true → TabF G X) : CtxM G X Wx k T ⟨true, tb⟩ := { C.toCtxF with lamr := fun _ => C.lamr, tabf := ht }
theorem snd_asg1 {r r0 : Rd} {tg e : Expr} (hr : AllR X G F.N k T F.lm r) (hr0 : AllR X G F.N k T noLm r0) (C : CtxS G X Wx k T) (ht : F.tb = true → TabF G X) (hN : X.N = F.N) (hsc : X.env.scope = F.sc) : PS X (.Assign [tg] e pos) (rdS X.K G Wx (cAsg1 G F r r0 tg e)) := by
  have CM := C.toM ht
  obtain ⟨N, sc, bxs, rb, tb⟩ := F
  simp only at hN hsc hr hr0 CM
  subst hN hsc
  have at_ : ∀ bx e, PE X e (rdE X.K G Wx (r bx X.env.scope e)) := fun bx e => (hr X Wx bx e CM rfl rfl).1
  unfold cAsg1
  split
  · rename_i ho
    split
    · rename_i elt gs scope p
      split
      · rename_i hsw
        exact ss_asgLc C (at_ _ _) ho hsw
      · rename_i hsw
        split
        · rename_i tg2 it ifs
          split
          · rename_i hc
            simp only [Bool.and_eq_true] at hc
            obtain ⟨⟨hc, hl⟩, hone⟩ := hc
            have hl := of_decide_eq_true hl
            unfold okLc at hc
            simp only [Bool.and_eq_true] at hc
            obtain ⟨⟨⟨c1, c2⟩, c3⟩, c4⟩ := hc
            cases tg with
            | Name x px =>
              have hsw : ¬ (!swB X.env.scope x px p scope) = true := hsw
              have hsw : swB X.env.scope x px p scope = true := by
                cases q : swB X.env.scope x px p scope with
                | true => rfl
                | false => rw [q] at hsw; exact absurd rfl hsw
              cases hx : ixOf x X.N with
              | none =>
                have hone : ((ixOf x X.N).toList.length == 1) = true := hone
                rw [hx] at hone
                exact absurd hone (by decide)
              | some i => exact ss_setLc _ C (snd_iter hr CM rfl) c1 c2 c3 (fun s H Cc cl fp => snd_ifs (X := X.blk s H scope (compEnvC scope cl Cc X.env) fp) (hr0.to rfl) C.toCtxF.blk.noM rfl hl) (fun s H Cc cl fp => (hr0 (X.blk s H scope (compEnvC scope cl Cc X.env) fp) noWx false elt C.toCtxF.blk.noM rfl rfl).1) (fsi_of c4) hx hsw
            | _ => exact (hsw rfl).elim
          · exact ps_bad
        · exact ps_bad
    · rename_i vs k2 p2
      split
      · rename_i ts k1 p1
        split
        · rename_i ht
          have ha : ∀ e ∈ vs, PE X e (rdE X.K G Wx (r (tgBx bxs (.Tuple ts k1 p1)) X.env.scope e)) := fun e _ => at_ _ e
          unfold ttOk at ht
          split at ht
          · rename_i hw
            exact ss_tt C ha ho hw
          · rename_i names hw
            split at ht
            · rename_i x px y py a b
              simp only [Bool.and_eq_true, decide_eq_true_eq] at ht
              obtain ⟨⟨⟨t1, t2⟩, t3⟩, t4⟩ := ht
              subst t1
              split at t2
              · rename_i i j hi hj
                exact ss_tt2 C ha hw hi hj (of_decide_eq_true t2) t3 t4
              · cases t2
            · rename_i x px y py z pz a b c
              simp only [Bool.and_eq_true, decide_eq_true_eq] at ht
              obtain ⟨⟨⟨⟨t1, t2⟩, t3⟩, t4⟩, t5⟩ := ht
              subst t1
              split at t2
              · rename_i i j l hi hj hl
                simp only [Bool.and_eq_true, decide_eq_true_eq] at t2
                exact ss_tt3 C ha hw hi hj hl t2.1.1 t2.1.2 t2.2 t3 t4 t5
              · cases t2
            · cases ht
          · cases ht
        · exact ps_bad
      · rename_i hnt
        refine ss_asg C (at_ _ _) ho rfl (.inl ?_)
        cases tg <;> first | rfl | exact (hnt _ _ _ rfl).elim
    · rename_i hnl hnt
      split
      · rename_i hn
        refine ss_asg C (at_ _ _) ho hn (.inr ?_)
        cases e <;> first | rfl | exact (hnt _ _ _ rfl).elim
      · exact ps_bad
  · exact ps_bad
theorem snd_asg {r r0 : Rd} {tg e : Expr} (hr : AllR X G F.N k T F.lm r) (hr0 : AllR X G F.N k T noLm r0) (C : CtxS G X Wx k T) (ht : F.tb = true → TabF G X) (hN : X.N = F.N) (hsc : X.env.scope = F.sc) : PS X (.Assign [tg] e pos) (rdS X.K G Wx (cAsg G F r r0 tg e)) := by
  have CM := C.toM ht
  obtain ⟨N, sc, bxs, rb, tb⟩ := F
  simp only at hN hsc hr hr0 CM
  subst hN hsc
  have at_ : ∀ bx e, PE X e (rdE X.K G Wx (r bx X.env.scope e)) := fun bx e => (hr X Wx bx e CM rfl rfl).1
  unfold cAsg
  split
  · split
    · rename_i h
      exact ss_fld C (at_ _ _) (at_ _ _) h
    · exact ps_bad
  · split
    · rename_i h
      exact ss_put C (at_ _ _) (at_ _ _) (at_ _ _) h
    · exact ps_bad
  · rename_i ts k p
    split
    · exact snd_asg1 (F := ⟨X.N, X.env.scope, bxs, rb, tb⟩) hr hr0 C ht rfl rfl
    · split
      · split
        · rename_i h
          rw [Bool.and_eq_true] at h
          exact ss_tm C (fun e => at_ false e) h.1 (swNone_eq h.2)
        · exact ps_bad
      · exact ps_bad
  · exact snd_asg1 (F := ⟨X.N, X.env.scope, bxs, rb, tb⟩) hr hr0 C ht rfl rfl
theorem snd_aug {r : Rd} {tg e : Expr} {op : Operator} (hr : AllR X G F.N k T F.lm r) (C : CtxS G X Wx k T) (ht : F.tb = true → TabF G X) (hN : X.N = F.N) (hsc : X.env.scope = F.sc) : PS X (.AugAssign tg op e pos) (rdS X.K G Wx (cAug G F r tg op e)) := by
  have CM := C.toM ht
  obtain ⟨N, sc, bxs, rb, tb⟩ := F
  simp only at hN hsc hr CM
  subst hN hsc
  have at_ : ∀ bx e, PE X e (rdE X.K G Wx (r bx X.env.scope e)) := fun bx e => (hr X Wx bx e CM rfl rfl).1
  unfold cAug
  split
  · split
    · rename_i i hi
      split
      · rename_i hl
        exact ss_augN C (at_ _ _) hi hl
      · exact ps_bad
    · exact ps_bad
  · exact ss_augF C (at_ _ _) (at_ _ _)
  · exact ps_bad
theorem snd_seq {h : Stmt → Ss} (hh : ∀ st, PS X st (rdS X.K G Wx (h st))) : ∀ sts : List Stmt, PSs X sts (rdS X.K G Wx (seqOf h sts))
  | [] => ss_nil
  | st :: rest => ss_cons (hh st) (snd_seq hh rest)
end
theorem snd_stm {G : Gam} {k : Nat} {T : FnT} {F : FnI} (ef : Nat) : ∀ (f : Nat) (X : Cx) (Wx : WX) (_ : CtxS G X Wx k T) (_ : ExF X.K X.mg G) (_ : F.tb = true → TabF G X) (_ : X.N = F.N) (_ : X.env.scope = F.sc) (st : Stmt), PS X st (rdS X.K G Wx (cS G T F ef f st))
  | 0, X, Wx, C, EF, ht, hN, hsc, st => ps_bad
  | f + 1, X, Wx, C, EF, ht, hN, hsc, st => by
    have ih := snd_seq (snd_stm ef f X Wx C EF ht hN hsc)
    have CM := C.toM ht
    have hr : AllR X G F.N k T F.lm (cE G F.N ef T F.lm) := snd_all ef k T F.lm X
    have hr0 : AllR X G F.N k T noLm (cE G F.N ef T noLm) := snd_all ef k T noLm X
    have at_ : ∀ bx e, SndE X G Wx e (cE G F.N ef T F.lm bx F.sc e) := fun bx e => by
      have := hr X Wx bx e CM hN rfl
      rw [hsc] at this
      exact this
    unfold cS
    split
    · exact ss_pass
    · exact ss_break
    · exact ss_cont
    · split
      · rename_i h; exact ss_expr (at_ _ _).1 h
      · exact ps_bad
    · exact ss_retN
    · exact ss_ret (at_ _ _).1
    · exact ss_if (at_ _ _).2.1 (ih _) (ih _)
    · exact ss_while C.pass (at_ _ _).2.1 (ih _)
    · rename_i tg it body p
      split
      · rename_i h
        rw [Bool.and_eq_true] at h
        have hi := snd_iter (tg := tg) (it := it) hr CM hN
        rw [hsc] at hi
        have hg := sg_any (G := G) (X := X) (cells := true) C.nd (locOk_own fun _ => C.fnc) C.calm h.1
        rw [hN, hsc] at hg
        exact ss_for C.pass C.toCtx hi hg (ih _) (fsi_of h.2)
      · exact ps_bad
    · exact snd_asg hr hr0 C ht hN hsc
    · exact snd_aug hr C ht hN hsc
    · split
      · rename_i x p1 es p2 p3 h
        simp only [Bool.and_eq_true] at h
        obtain ⟨⟨⟨h1, h2⟩, h3⟩, h4⟩ := h
        obtain ⟨ci, hx⟩ := Option.isSome_iff_exists.mp h1
        rw [← hsc] at h2
        exact ss_raise C EF hx h2 h3 (fun e _ => (at_ false e).1) h4
      · exact ps_bad
    · rename_i body h0 hs p
      split
      · rename_i cl hcl
        have hcl' := hcl
        rw [← hN, ← hsc] at hcl'
        have := ss_try (body := body) (pos := p) (cb := seqOf (cS G T F ef f) body) C EF hcl' (fun W pn xe C' => snd_seq (X := X.tr pn xe) (snd_stm ef f (X.tr pn xe) W C' EF ht hN hsc) body)
        rw [hN, hsc] at this
        exact this
      · exact ps_bad
    · exact ps_bad
theorem cE_lam {G : Gam} {N : List Str} (o : Option LamI) : ∀ f, cE { G with lam := o } N f = cE G N f
  | 0 => rfl
  | f + 1 => by
    have ih := cE_lam (G := G) (N := N) o f
    funext T m bx sc e
    cases e <;> simp only [cE, ih] <;> rfl
theorem hE_lam {G : Gam} {N : List Str} {sc : Scope} {n : Option Str} {ci : ClsI} {fs : List D} (o : Option LamI) : ∀ (f : Nat) (e : Expr), hE { G with lam := o } N sc n ci fs f e = hE G N sc n ci fs f e
  | 0, _ => rfl
  | f + 1, e => by
    have ih : hE { G with lam := o } N sc n ci fs f = hE G N sc n ci fs f := funext fun e => hE_lam o f e
    simp only [hE, ih]
    rfl
theorem hS_lam {G : Gam} {N : List Str} {sc : Scope} {n : Option Str} {ci : ClsI} {fs : List D} (o : Option LamI) (sts : List Stmt) : hS { G with lam := o } N sc n ci fs sts = hS G N sc n ci fs sts := by
  unfold hS
  simp only [hE_lam]
theorem pickC_lam {G : Gam} {N : List Str} {sc : Scope} {c : Str} {ci : ClsI} {fs : List D} {ρ : Env0'} {S : Store} (o : Option LamI) (cl : List ClD) : pickC { G with lam := o } N sc c ci fs ρ S cl = pickC G N sc c ci fs ρ S cl := by
  induction cl with
  | nil => rfl
  | cons q r ih => simp only [pickC, hS_lam, ih]
theorem sTry_lam {G : Gam} (o : Option LamI) : sTry { G with lam := o } = sTry G := by
  funext N sc b cl ρ S
  simp only [sTry, pickC_lam]
theorem cS_lam {G : Gam} {T : FnT} {F : FnI} {ef : Nat} (o : Option LamI) : ∀ f, cS { G with lam := o } T F ef f = cS G T F ef f
  | 0 => rfl
  | f + 1 => by
    have ih := cS_lam (G := G) (T := T) (F := F) (ef := ef) o f
    have ie := cE_lam (G := G) (N := F.N) o ef
    have e1 : ∀ F r, cAsg { G with lam := o } F r = cAsg G F r := fun _ _ => rfl
    have e2 : ∀ F r, cAug { G with lam := o } F r = cAug G F r := fun _ _ => rfl
    have e3 : sRaise { G with lam := o } = sRaise G := rfl
    have e4 : ∀ N sc hs, clsOf { G with lam := o } N sc hs = clsOf G N sc hs := fun N sc hs => by
      induction hs with
      | nil => rfl
      | cons h t ih => cases h <;> (first | rfl | (simp only [clsOf, ih]; rfl))
    have e5 := sTry_lam (G := G) o
    funext st
    simp only [cS, ih, ie, e1, e2, e3, e4, e5]
end EC
namespace EC
open PySem PySem.Spec PyProof.Rows L2
/-- a def as it is read -/
structure DefI where
  ps : List Str
  fi : FnI
  body : List Stmt
  ef : Nat
  sf : Nat
abbrev Prg := List (Str × DefI)
def startE (N : List Str) (ws : List W) : Env0' := ws.map some ++ List.replicate (N.length - ws.length) none
/-- a result leaves: the cells made within are forgotten, what is handed out stands frozen, or as the one new cell -/
def leave (G : Gam) (rb : Bool) (n : Nat) (w : W) (S : Store) : Res W := match w with
  | .dat d => .ok (.dat d) (S.take n)
  | .cell m => if m < n then .ok (.cell m) (S.take n) else match S[m]? with
    | none => .bad
    | some c => if rb = true then .ok (.cell n) (S.take n ++ [c]) else match c with
      | .ins cn vs => match G.clss.lookup cn with
        | some ci => if vs.length = ci.fields.length then .ok (.dat (.ins cn vs)) (S.take n) else .bad
        | none => .bad
      | c => .ok (.dat c.frz) (S.take n)
  | .lam _ => .bad
def endF (G : Gam) (rb : Bool) (n : Nat) : SR → Res W
  | .nx _ S => .ok (.dat .non) (S.take n)
  | .rt w S => leave G rb n w S
  | .ex c fs _ S => .ex c fs (S.take n)
  | _ => .bad
def runF (G : Gam) (P : Prg) : Nat → FnT
  | 0 => fun _ _ _ => .bad
  | k + 1 => fun f ws S => match ws with
    | .lam _ :: .lam _ :: ws' => runF G P k f ws' S
    | ws => match P.lookup f with
    | none => .bad
    | some d => if ws.length = d.ps.length ∧ ws.length ≤ d.fi.N.length then endF G d.fi.rb S.length (seqOf (cS G (runF G P k) d.fi d.ef d.sf) d.body (startE d.fi.N ws) S) else .bad
section
variable {K : PySem.W.Frag} {G : Gam} {ι ι' : List Addr} {H H' : Hp} {S S' : Store}
theorem EnvOk.start {vs : List V} {ws : List W} (N : List Str) (r : RepWs K G ι H vs ws) : EnvOk K G ι H (startE N ws) (L2.start N vs) := by
  have hl := r.length
  refine ⟨by unfold startE L2.start; simp [hl], fun i w e => ?_⟩
  unfold startE at e
  unfold L2.start
  by_cases hi : i < ws.length
  · rw [List.getElem?_append_left (by simpa using hi), List.getElem?_map] at e
    rw [List.getElem?_append_left (by simpa [hl] using hi), List.getElem?_map]
    cases hw : ws[i]? with
    | none => rw [hw] at e; cases e
    | some w' =>
      rw [hw] at e
      cases e
      obtain ⟨v, h1, h2⟩ := r.get hw
      exact ⟨v, by rw [h1]; rfl, h2⟩
  · rw [List.getElem?_append_right (by simpa using Nat.le_of_not_lt hi)] at e
    obtain ⟨h1, h2⟩ := List.getElem?_eq_some_iff.mp e
    simp at h2
/-- one of the cells stays, behind the first n -/
theorem StOk.pick (h : StOk K G ι' S' H') {n m : Nat} {a : Addr} {c : Cell} (hn : n ≤ m) (ha : ι'[m]? = some a) (hc : S'[m]? = some c) : StOk K G (ι'.take n ++ [a]) (S'.take n ++ [c]) H' := by
  have ham : a ∉ ι'.take n := fun z => by
    obtain ⟨j, hj, e⟩ := List.getElem_of_mem z
    rw [List.getElem_take] at e
    rw [List.length_take] at hj
    obtain ⟨h1, h2⟩ := List.getElem?_eq_some_iff.mp ha
    have := (List.getElem_inj h.nd).mp (e.trans h2.symm)
    omega
  have hm : m < ι'.length := (List.getElem?_eq_some_iff.mp ha).1
  have hl := h.len
  have sub : ∀ b, b ∉ ι' → b ∉ ι'.take n ++ [a] := fun b hb z => by
    rcases List.mem_append.mp z with z | z
    · exact hb (List.mem_of_mem_take z)
    · simp at z; subst z; exact hb (List.mem_of_getElem? ha)
  have t := h.take (n := n) (by omega)
  refine ⟨by simp [hl], ?_, fun j b d h1 h2 => ?_, h.tabs⟩
  · rw [List.nodup_append]
    exact ⟨t.nd, by simp, fun x hx y hy z => by simp at hy; subst hy; subst z; exact ham hx⟩
  · by_cases q : j < n
    · rw [List.getElem?_append_left (by simp; omega)] at h1
      rw [List.getElem?_append_left (by simp; omega)] at h2
      rw [List.getElem?_take_of_lt q] at h1 h2
      exact (h.at_ j b d h1 h2).ext (Rep.less sub) fun u e => e
    · have hj : j = n := by
        obtain ⟨z, _⟩ := List.getElem?_eq_some_iff.mp h1
        simp at z; omega
      subst hj
      rw [List.getElem?_append_right (by simp; omega)] at h1
      rw [List.getElem?_append_right (by simp; omega)] at h2
      have e1 : j - (ι'.take j).length = 0 := by simp; omega
      have e2 : j - (S'.take j).length = 0 := by simp; omega
      rw [e1] at h1; rw [e2] at h2
      simp at h1 h2
      subst h1 h2
      exact (h.at_ m a c ha hc).ext (Rep.less sub) fun u e => e
theorem take_entry (e : Ext ι H ι' H') : ι'.take ι.length = ι := e.take
/-- what leaves a def -/
theorem leave_out {E : XK} {Q : VK} {rb : Bool} {w : W} {v : V} (e : Ext ι H ι' H') (st0 : S.length = ι.length) (st : StOk K G ι' S' H') (r : RepW K G ι' H' v w)
    (o : Out K G ι H E (fun ι' H' _ w => ∀ v, RepW K G ι' H' v w → Q v H') (leave G rb S.length w S')) : Q v H' := by
  have tk : ι'.take S.length = ι := by rw [st0]; exact e.take
  have ln : S.length ≤ ι'.length := by rw [st0]; exact e.len
  have st1 := st.take (n := S.length) ln
  rw [tk] at st1
  have sub : ∀ a, a ∉ ι' → a ∉ ι := fun a ha z => ha (by rw [← tk] at z; exact List.mem_of_mem_take z)
  have e1 := e.back
  cases r with
  | dat r => exact o ι H' e1 st1 v (.dat (r.less sub))
  | lam _ _ => exact o.elim
  | @cell m a ha =>
    unfold leave at o
    simp only at o
    split at o
    · rename_i hm
      refine o ι H' e1 st1 _ (.cell ?_)
      rw [← tk, List.getElem?_take_of_lt hm]
      exact ha
    · rename_i hm
      have ham : a ∉ ι := fun z => by
        rw [← tk] at z
        obtain ⟨j, hj, ej⟩ := List.getElem_of_mem z
        rw [List.getElem_take] at ej
        rw [List.length_take] at hj
        obtain ⟨h1, h2⟩ := List.getElem?_eq_some_iff.mp ha
        have := (List.getElem_inj st.nd).mp (ej.trans h2.symm)
        omega
      split at o
      · exact o.elim
      · rename_i c hc
        have cell := st.at_ m a c ha hc
        split at o
        · have st2 := st.pick (n := S.length) (Nat.le_of_not_lt hm) ha hc
          rw [tk] at st2
          have hHa : H a = none := by
            obtain ⟨l, el, hl⟩ := e.pre
            refine hl a ?_
            have : a ∈ ι' := List.mem_of_getElem? ha
            rw [el] at this
            rcases List.mem_append.mp this with z | z
            · exact absurd z ham
            · exact z
          refine o _ H' ⟨⟨[a], rfl, by simpa using hHa⟩, e.keep, e.stay⟩ st2 _ (.cell ?_)
          rw [st0]; simp
        · split at o
          · rename_i cn vs
            split at o
            · rename_i ci hci
              split at o
              · rename_i hl
                exact o ι H' e1 st1 _ (.dat (cell.frozen ham sub (fun cn' vs' q => by cases q; exact ⟨ci, hci, hl.symm⟩)))
              · exact o.elim
            · exact o.elim
          · rename_i hni
            exact o ι H' e1 st1 _ (.dat (cell.frozen ham sub (fun cn' vs' q => by exact (hni _ _ q).elim)))
end
/-- what is known of the module -/
structure GFacts (K : PySem.W.Frag) (mg : Str → Option Value) (G : Gam) : Prop where
  bi : ∀ x, x ∈ biNames → mg x = none
  gfn : ∀ f a, G.fns.lookup f = some a → mg f = some (.ref a) ∧ PySem.W.keepIn K (.ref a) = true
  gcl : ∀ c ci, G.clss.lookup c = some ci → mg c = some (.ref ci.C)
  gco : ∀ c d, G.cons.lookup c = some d → ∃ v u, mg c = some u ∧ RelV v u ∧ ∀ ι H, Rep K G ι H v d
  isf : IsFacts K G
  clf : ClsFacts K G
  exf : ExF K mg G
/-- a def of the text is read as d -/
def LamTab (G : Gam) (qual : Str) (cdv : Value) : Prop := ∃ c P, cdv = .ref c ∧ (c, P) ∈ G.cds ∧ (P, qual ++ ".<locals>." ++ "<lambda>") ∈ G.tabs ∧ ∀ p ∈ G.tabs, p.1 = P → p.2 = qual ++ ".<locals>." ++ "<lambda>"
structure DefOk (K : PySem.W.Frag) (G : Gam) (f : Str) (a : Addr) (d : DefI) : Prop where
  ex : ∃ x qual st fd, Fun K x qual st a fd ∧ FnScope d.fi.N d.ps (defScope st) ∧ Binds K fd d.ps [] ∧ d.fi.sc = defScope st ∧ d.body = defBody st ∧ (d.fi.tb = true → LamTab G qual fd.code)
/-- every def of the text -/
def Known (K : PySem.W.Frag) (G : Gam) (P : Prg) (f : Str) (a : Addr) : Prop := ∃ d, P.lookup f = some d ∧ DefOk K G f a d
structure PrgOk (K : PySem.W.Frag) (G : Gam) (P : Prg) : Prop where
  fn : ∀ f a, G.fns.lookup f = some a → Known K G P f a
  meth : ∀ c ci m q a, G.clss.lookup c = some ci → ci.meths.lookup m = some (q, a) → Known K G P q a
  init : ∀ c ci q a, G.clss.lookup c = some ci → ci.init = some (q, a) → Known K G P q a
section
variable {P : Program} {w : World} {K : PySem.W.Frag} {mg : Str → Option Value} {base : Heap} {G : Gam} {Pr : Prg}
theorem spOf_bad {vs : List V} {H : Hp} {Q : VK} {E : XK} (h : spOf K G (fun _ _ => .bad) vs H Q E) : False := by
  obtain ⟨ι, ws, S, st, r, o⟩ := h
  exact o.elim
theorem endF_lam {G : Gam} (o : Option LamI) : endF { G with lam := o } = endF G := by
  funext rb n r
  cases r <;> rfl
def noPair : List W → Bool
  | .lam _ :: .lam _ :: _ => false
  | _ => true
theorem runF_norm {j : Nat} {f : Str} {ws : List W} {S : Store} {d : DefI} (h : noPair ws = true) (hd : Pr.lookup f = some d) : runF G Pr (j + 1) f ws S = if ws.length = d.ps.length ∧ ws.length ≤ d.fi.N.length then endF G d.fi.rb S.length (seqOf (cS G (runF G Pr j) d.fi d.ef d.sf) d.body (startE d.fi.N ws) S) else .bad := by
  conv => lhs; unfold runF
  split
  · simp [noPair] at h
  · rw [hd]
theorem loT_run (G : Gam) (Pr : Prg) : ∀ j, loT (runF G Pr j) = runF G Pr (j - 1)
  | 0 => rfl
  | j + 1 => rfl
theorem lowT_run (G : Gam) (Pr : Prg) : ∀ n j, lowT n (runF G Pr j) = runF G Pr (j - n)
  | 0, j => rfl
  | n + 1, j => by
    show lowT n (loT (runF G Pr j)) = _
    rw [loT_run, lowT_run G Pr n (j - 1)]
    congr 1
    omega
theorem noPair_of {G : Gam} (hG : G.lam = none) {ι : List Addr} {H : Hp} {vs : List V} {ws : List W} (r : RepWs K G ι H vs ws) : noPair ws = true := by
  cases r with
  | nil => rfl
  | cons r _ =>
    cases r with
    | dat _ => rfl
    | cell _ => rfl
    | lam h _ => rw [hG] at h; cases h
/-- the module's facts do not look at the lambda -/
theorem IsFacts.lam {o : Option LamI} (h : IsFacts K G) : IsFacts K { G with lam := o } := ⟨h.own, h.kcc, h.kcb, h.kbc⟩
theorem ClsFacts.lam {o : Option LamI} (h : ClsFacts K G) : ClsFacts K { G with lam := o } := ⟨h.flds, h.ms, h.maker, h.few⟩
theorem ExF.lam {o : Option LamI} (h : ExF K mg G) : ExF K mg { G with lam := o } := ⟨h.ex, h.exm⟩
/-- a def by its body, its code object known -/
theorem Fun.okC {x qual : Str} {st : Stmt} {f : Addr} {fd : FuncData} {N ps : List Str} {k : Nat} {sp : Sp} (F : Fun K x qual st f fd) (S : FnScope N ps (defScope st)) (len : ∀ vs H Q E, sp vs H Q E → vs.length = ps.length)
    (hbody : ∀ (A : Around) (outer : List Env) (s : Shared) (H : Hp) (vs : List V) (Q : VK) (E : XK), Room k (A.deeper (envOfC qual (defScope st) s.heap.objs.size f fd.code)) → sp vs H Q E →
      ∃ t, PSs (cxOf (L2.CX P w) P w K mg base N qual (defScope st) f fd.code A outer s H E) (defBody st) t ∧ t { nx := fun _ H' => Q .non H', rt := Q } (L2.start N vs) H) : FnOk P w K mg base (L2.CX P w) (k + 1) f fd ps sp := by
  obtain ⟨oc, od, kV, doc, pm, an, cdv, ct, osl, rfl, lk, hcd⟩ := F.ex
  exact fn_of lk hcd S len fun A outer s H vs Q E hr hsp => hbody A outer s H vs Q E hr hsp
theorem body_runL {ol : Option LamI} (hG : G.lam = none) (F : GFacts K mg G) (TB : ∀ p ∈ G.cds, LamX.TabB base mg p.1 p.2) {j k : Nat} (hk : 1 ≤ k) (fns : FnsOk P w K mg base G k (runF G Pr j)) (low : FnsLow P w K mg base G k (runF G Pr j)) {qual : Str} {st : Stmt} {a : Addr} {d : DefI} (Sc : FnScope d.fi.N d.ps (defScope st)) (hsc : d.fi.sc = defScope st) (hbd : d.body = defBody st)
    {cdv : Value} (htb : d.fi.tb = true → LamTab G qual cdv) {A : Around} {outer : List Env} {s : Shared} {H : Hp} {vs : List V} {Q : VK} {E : XK} (hr : Room (k + 1) (A.deeper (envOfC qual (defScope st) s.heap.objs.size a cdv)))
    (lr : LamR { G with lam := ol } (cxOf (L2.CX P w) P w K mg base d.fi.N qual (defScope st) a cdv A outer s H E)) {ι : List Addr} {ws : List W} {S : Store} (st0 : StOk K { G with lam := ol } ι S H) (r : RepWs K { G with lam := ol } ι H vs ws)
    (o : Out K { G with lam := ol } ι H E (fun ι' H' _ w => ∀ v, RepW K { G with lam := ol } ι' H' v w → Q v H') (endF { G with lam := ol } d.fi.rb S.length (seqOf (cS { G with lam := ol } (runF G Pr j) d.fi d.ef d.sf) d.body (startE d.fi.N ws) S))) :
    ∃ t, PSs (cxOf (L2.CX P w) P w K mg base d.fi.N qual (defScope st) a cdv A outer s H E) (defBody st) t ∧ t { nx := fun _ H' => Q .non H', rt := Q } (L2.start d.fi.N vs) H := by
  have hGb : ({ G with lam := ol } : Gam).base = G := by
    obtain ⟨_, _, _, _, _, _, _⟩ := G
    simp only at hG
    subst hG
    rfl
  let G' : Gam := { G with lam := ol }
  have gcoL : ∀ c d, G'.cons.lookup c = some d → ∃ v u, mg c = some u ∧ RelV v u ∧ ∀ ι H, Rep K G' ι H v d := fun c d h =>
    let ⟨v, u, h1, h2, h3⟩ := F.gco c d h
    ⟨v, u, h1, h2, fun ι H => (h3 ι H).gam (G' := G') (G := G) rfl rfl⟩
  let X := cxOf (L2.CX P w) P w K mg base d.fi.N qual (defScope st) a cdv A outer s H E
  have C : CtxS G' X (fun cls dd _ H => E cls dd H) k (runF G Pr j) :=
    { calm := rfl, nd := Sc.nd, tk := takes_of rfl rfl rfl rfl, un := by have := hr.un; show (A.deeper (envOfC qual (defScope st) s.heap.objs.size a cdv)).units + 100 < cLine; omega, bi := F.bi, gfn := F.gfn, gcl := F.gcl, gco := gcoL, isf := F.isf.lam, clf := F.clf.lam, room := hr, roomX := hr.mono (by omega), fns := by
        show FnsOk P w K mg base G'.base k (runF G Pr j)
        rw [hGb]; exact fns
      low := by
        show FnsLow P w K mg base G'.base k (runF G Pr j)
        rw [hGb]; exact low
      kind := Sc.kind, fnc := fun _ _ => rfl, pass := passes_of rfl, stk := rfl, frm := rfl, lamr := lr }
  have ht : d.fi.tb = true → TabF G' X := fun z => by
    obtain ⟨c, P, h1, h2, h3, h4⟩ := htb z
    exact ⟨c, P, h1, TB _ h2, h3, h4⟩
  have hs := snd_seq (X := X) (G := G') (Wx := fun cls dd _ H => E cls dd H) (h := cS G' (runF G Pr j) d.fi d.ef d.sf) (snd_stm d.ef d.sf X _ C F.exf.lam ht rfl hsc.symm) d.body
  rw [hbd] at hs
  refine ⟨_, hs, ι, startE d.fi.N ws, S, ⟨EnvOk.start _ r, st0⟩, ?_⟩
  rw [← hbd]
  cases hres : seqOf (cS G' (runF G Pr j) d.fi d.ef d.sf) d.body (startE d.fi.N ws) S with
  | nx ρ' S' =>
    rw [hres] at o
    intro ι' H' σ' e m
    have st1 := m.st.take (n := S.length) (by rw [← st0.len]; exact e.len)
    have tk : ι'.take S.length = ι := by rw [← st0.len]; exact e.take
    rw [tk] at st1
    exact o ι H' e.back st1 _ (.dat .non)
  | rt w' S' =>
    rw [hres] at o
    intro ι' H' v e s' r'
    exact leave_out e st0.len.symm s' r' o
  | bk ρ' S' => rw [hres] at o; exact o.elim
  | ct ρ' S' => rw [hres] at o; exact o.elim
  | bad => rw [hres] at o; exact o.elim
  | ex c fs ρ' S' =>
    rw [hres] at o
    intro ι' H' σ' cls dd e m x'
    have st1 := m.st.take (n := S.length) (by rw [← st0.len]; exact e.len)
    have tk : ι'.take S.length = ι := by rw [← st0.len]; exact e.take
    rw [tk] at st1
    obtain ⟨ci, x1, x2, da, xs, x3, x4, x5, x6, x7⟩ := x'
    have sub : ∀ a, a ∉ ι' → a ∉ ι := fun a ha z => ha (by rw [← tk] at z; exact List.mem_of_mem_take z)
    exact o ι H' cls dd e.back st1 ⟨ci, x1, x2, da, xs, x3, sub _ x4, x5, x6, x7.less sub⟩
theorem lam_none (hG : G.lam = none) : ({ G with lam := none } : Gam) = G := by
  obtain ⟨_, _, _, _, _, _, _⟩ := G
  simp only at hG
  subst hG
  rfl
theorem body_run (hG : G.lam = none) (F : GFacts K mg G) (TB : ∀ p ∈ G.cds, LamX.TabB base mg p.1 p.2) {j k : Nat} (hk : 1 ≤ k) (fns : FnsOk P w K mg base G k (runF G Pr j)) (low : FnsLow P w K mg base G k (runF G Pr j)) {f qual : Str} {st : Stmt} {a : Addr} {d : DefI} (hd : Pr.lookup f = some d) (Sc : FnScope d.fi.N d.ps (defScope st)) (hsc : d.fi.sc = defScope st) (hbd : d.body = defBody st)
    {cdv : Value} (htb : d.fi.tb = true → LamTab G qual cdv) {A : Around} {outer : List Env} {s : Shared} {H : Hp} {vs : List V} {Q : VK} {E : XK} (hr : Room (k + 1) (A.deeper (envOfC qual (defScope st) s.heap.objs.size a cdv))) (hsp : spOf K G (runF G Pr (j + 1) f) vs H Q E) :
    ∃ t, PSs (cxOf (L2.CX P w) P w K mg base d.fi.N qual (defScope st) a cdv A outer s H E) (defBody st) t ∧ t { nx := fun _ H' => Q .non H', rt := Q } (L2.start d.fi.N vs) H := by
  obtain ⟨ι, ws, S, st0, r, o⟩ := hsp
  rw [runF_norm (noPair_of hG r) hd] at o
  split at o
  · refine body_runL (ol := none) hG F TB hk fns low Sc hsc hbd htb hr (LamR.none rfl) (ι := ι) (ws := ws) (S := S) ?_ ?_ ?_
    · rw [lam_none hG]; exact st0
    · rw [lam_none hG]; exact r
    · rw [lam_none hG]; exact o
  · exact o.elim
theorem good_step (hG : G.lam = none) (F : GFacts K mg G) (TB : ∀ p ∈ G.cds, LamX.TabB base mg p.1 p.2) {j k : Nat} (hk : 1 ≤ k) (fns : FnsOk P w K mg base G k (runF G Pr j)) (low : FnsLow P w K mg base G k (runF G Pr j)) {f : Str} {a : Addr} (h : Known K G Pr f a) : FnGood P w K mg base G (k + 2) (runF G Pr (j + 1)) f a := by
  obtain ⟨d, hd, ⟨x, qual, st, fd, Fn, Sc, B, hsc, hbd, htb⟩⟩ := h
  refine ⟨fd, d.ps, Fun.okC Fn Sc (fun vs H Q E hsp => ?_) (fun A outer s H vs Q E hr hsp => body_run hG F TB hk fns low hd Sc hsc hbd htb hr hsp), B⟩
  obtain ⟨ι, ws, S, st, r, o⟩ := hsp
  rw [runF_norm (noPair_of hG r) hd] at o
  split at o
  · rename_i hl; rw [r.length]; exact hl.1
  · exact o.elim
theorem good_stepL (hG : G.lam = none) (F : GFacts K mg G) (TB : ∀ p ∈ G.cds, LamX.TabB base mg p.1 p.2) {j k : Nat} (hk : 1 ≤ k) (fns : FnsOk P w K mg base G k (runF G Pr j)) (low : FnsLow P w K mg base G k (runF G Pr j)) {f : Str} {a : Addr} (h : Known K G Pr f a) : FnGoodL P w K mg base G (k + 2) (runF G Pr (j + 1)) f a := by
  obtain ⟨d, hd, ⟨x, qual, st, fd, Fn, Sc, B, hsc, hbd, htb⟩⟩ := h
  refine ⟨x, qual, st, fd, d.fi.N, d.ps, Fn, Sc, B, fun run S => ?_, fun l A outer s H Q E ι S hr lr st0 hc o => ?_⟩
  · rw [runF_norm rfl hd]
    by_cases hl : ([W.lam run] : List W).length = d.ps.length ∧ ([W.lam run] : List W).length ≤ d.fi.N.length
    · exact .inl hl.1.symm
    · exact .inr (if_neg hl)
  · rw [runF_norm rfl hd] at o
    split at o
    · refine body_runL (ol := some l) hG F TB hk fns low Sc hsc hbd htb (hr.mono (by omega)) lr (ι := ι) (ws := [.lam l.run]) (S := S) st0 (.cons (.lam rfl hc) .nil) ?_
      rw [cS_lam, endF_lam]
      exact o
    · exact o.elim
theorem low_of {j : Nat} (h : ∀ i, i ≤ j → FnsOk P w K mg base G (2 * i + 1) (runF G Pr i)) : FnsLow P w K mg base G (2 * j + 1) (runF G Pr j) :=
  ⟨fun n hn => by
    rw [lowT_run, show 2 * j + 1 - 2 * n = 2 * (j - n) + 1 by omega]
    exact h _ (by omega), fun n hn f ws S => by
    rw [lowT_run, show j - n = 0 by omega]
    rfl⟩
theorem fns_all (hG : G.lam = none) (F : GFacts K mg G) (TB : ∀ p ∈ G.cds, LamX.TabB base mg p.1 p.2) (PO : PrgOk K G Pr) (base0 : FnsOk P w K mg base G 1 (runF G Pr 0)) : ∀ j : Nat, ∀ i, i ≤ j → FnsOk P w K mg base G (2 * i + 1) (runF G Pr i)
  | 0 => fun i hi => by
    obtain rfl : i = 0 := by omega
    exact base0
  | j + 1 => fun i hi => by
    have ih := fns_all hG F TB PO base0 j
    by_cases h : i ≤ j
    · exact ih i h
    · obtain rfl : i = j + 1 := by omega
      have f0 := ih j (Nat.le_refl _)
      have l0 := low_of ih
      exact ⟨fun f a h => good_step hG F TB (by omega) f0 l0 (PO.fn f a h), fun c ci m q a h1 h2 => good_step hG F TB (by omega) f0 l0 (PO.meth c ci m q a h1 h2), fun c ci q a h1 h2 => good_step hG F TB (by omega) f0 l0 (PO.init c ci q a h1 h2), fun f a h => good_stepL hG F TB (by omega) f0 l0 (PO.fn f a h)⟩
theorem good_zero {f : Str} {a : Addr} (h : Known K G Pr f a) : FnGood P w K mg base G 1 (runF G Pr 0) f a := by
  obtain ⟨d, hd, ⟨x, qual, st, fd, Fn, Sc, B, hsc, hbd, htb⟩⟩ := h
  exact ⟨fd, d.ps, ⟨fun vs H Q E h => (spOf_bad h).elim, fun A outer s H args us vs Q E _ _ _ _ h => (spOf_bad h).elim⟩, B⟩
theorem good_zeroL {f : Str} {a : Addr} (h : Known K G Pr f a) : FnGoodL P w K mg base G 1 (runF G Pr 0) f a := by
  obtain ⟨d, hd, ⟨x, qual, st, fd, Fn, Sc, B, hsc, hbd, htb⟩⟩ := h
  exact ⟨x, qual, st, fd, d.fi.N, d.ps, Fn, Sc, B, fun run S => .inr rfl, fun l A outer s H Q E ι S hr lr st0 hc o => o.elim⟩
theorem fns_zero (PO : PrgOk K G Pr) : FnsOk P w K mg base G 1 (runF G Pr 0) :=
  ⟨fun f a h => good_zero (PO.fn f a h), fun c ci m q a h1 h2 => good_zero (PO.meth c ci m q a h1 h2), fun c ci q a h1 h2 => good_zero (PO.init c ci q a h1 h2), fun f a h => good_zeroL (PO.fn f a h)⟩
/-- ALL DEFS, at every level -/
theorem fns_ok (hG : G.lam = none) (F : GFacts K mg G) (TB : ∀ p ∈ G.cds, LamX.TabB base mg p.1 p.2) (PO : PrgOk K G Pr) (j : Nat) : FnsOk P w K mg base G (2 * j + 1) (runF G Pr j) := fns_all hG F TB PO (fns_zero PO) j j (Nat.le_refl _)
theorem low_ok (hG : G.lam = none) (F : GFacts K mg G) (TB : ∀ p ∈ G.cds, LamX.TabB base mg p.1 p.2) (PO : PrgOk K G Pr) (j : Nat) : FnsLow P w K mg base G (2 * j + 1) (runF G Pr j) := low_of (fns_all hG F TB PO (fns_zero PO) j)
end
end EC
namespace EC
open PySem PySem.Spec PyProof.Rows L2
/-- a def as it stands behind the top -/
structure DefAt (K : PySem.W.Frag) (x qual : Str) (st : Stmt) (a : Addr) : Prop where
  ex : ∃ fd, Fun K x qual st a fd
theorem defAt {K : PySem.W.Frag} {x qual : Str} {st : Stmt} {f : Addr} {oc : Value} {od an : Option Addr} {osl : Array (Option Value)} {kV doc pm cdv ct : Value} (l : K.lookup f = some ⟨oc, od, .func (PySem.W.fnOf x qual (defArgs st) (defBody st) (defScope st) .none kV doc pm an cdv ct), osl⟩)
    (c : PySem.W.codeIn K cdv qual = true) (k : PySem.W.keepIn K (.ref f) = true) : DefAt K x qual st f := ⟨_, fun_mk l c k⟩
theorem DefAt.keep {K : PySem.W.Frag} {x qual : Str} {st : Stmt} {a : Addr} (D : DefAt K x qual st a) : PySem.W.keepIn K (.ref a) = true := let ⟨_, F⟩ := D.ex; F.kp
/-- a def that makes lambdas: its code object -/
structure DefAtC (K : PySem.W.Frag) (x qual : Str) (st : Stmt) (a c : Addr) : Prop where
  ex : ∃ fd, Fun K x qual st a fd ∧ fd.code = .ref c
theorem defAtC {K : PySem.W.Frag} {x qual : Str} {st : Stmt} {f c : Addr} {oc : Value} {od an : Option Addr} {osl : Array (Option Value)} {kV doc pm ct : Value} (l : K.lookup f = some ⟨oc, od, .func (PySem.W.fnOf x qual (defArgs st) (defBody st) (defScope st) .none kV doc pm an (.ref c) ct), osl⟩)
    (i : PySem.W.codeIn K (.ref c) qual = true) (k : PySem.W.keepIn K (.ref f) = true) : DefAtC K x qual st f c := ⟨_, fun_mk l i k, rfl⟩
theorem DefAtC.at_ {K : PySem.W.Frag} {x qual : Str} {st : Stmt} {a c : Addr} (D : DefAtC K x qual st a c) : DefAt K x qual st a := let ⟨fd, F, _⟩ := D.ex; ⟨fd, F⟩
theorem DefAtC.keep {K : PySem.W.Frag} {x qual : Str} {st : Stmt} {a c : Addr} (D : DefAtC K x qual st a c) : PySem.W.keepIn K (.ref a) = true := D.at_.keep
/-- the code object with its table -/
theorem lawAt {K : PySem.W.Frag} {G : Gam} {st : Stmt} {a : Addr} {tb : Bool} (D : DefAt K "law" "law" st a) (h : tb = false) : ∃ fd, Fun K "law" "law" st a fd ∧ (tb = true → LamTab G "law" fd.code) :=
  let ⟨fd, F⟩ := D.ex
  ⟨fd, F, fun z => by rw [h] at z; cases z⟩
theorem lawAtC {K : PySem.W.Frag} {G : Gam} {st : Stmt} {a c : Addr} {tb : Bool} (D : DefAtC K "law" "law" st a c) (h : LamTab G "law" (.ref c)) : ∃ fd, Fun K "law" "law" st a fd ∧ (tb = true → LamTab G "law" fd.code) :=
  let ⟨fd, F, e⟩ := D.ex
  ⟨fd, F, fun _ => by rw [e]; exact h⟩
def chkC (vs : Array Value) (c P : Addr) : Bool := (match (vs[11]? : Option Value) with | some (.ref P') => P' == P | _ => false) &&
      (match vs.getD 18 .none with | .str _ _ => true | _ => false) && (match vs.getD 7 .none with | .int _ _ => true | _ => false) &&
      (match vs.getD 9 .none with | .bool _ => true | _ => false) && (match vs.getD 10 .none with | .int _ _ => true | _ => false) && c != P
theorem codeHd_mk {K : PySem.W.Frag} {c P : Addr} {d : Option Addr} {vs : Array Value} {sl : Array (Option Value)} (l : K.lookup c = some ⟨.type "code", d, .fields vs, sl⟩) (_ : vs[11]? = some (.ref P)) (h : chkC vs c P = true) : PySem.W.codeHdIn K c P = true := by
  unfold PySem.W.codeHdIn
  rw [l]
  exact h
theorem lamTab_mk {G : Gam} {q : Str} {c P : Addr} (h1 : (c, P) ∈ G.cds) (h2 : (P, q ++ ".<locals>." ++ "<lambda>") ∈ G.tabs) (nd : (G.tabs.map (·.1)).Nodup) : LamTab G q (.ref c) := by
  refine ⟨c, P, rfl, h1, h2, fun p hp e => ?_⟩
  generalize G.tabs = l at h2 nd hp
  induction l with
  | nil => cases hp
  | cons x l ih =>
    rw [List.map_cons, List.nodup_cons] at nd
    rcases List.mem_cons.mp hp with z1 | z1
    · rcases List.mem_cons.mp h2 with z2 | z2
      · rw [z1, ← z2]
      · exact absurd (List.mem_map.mpr ⟨_, z2, by rw [← e, z1]⟩) nd.1
    · rcases List.mem_cons.mp h2 with z2 | z2
      · exact absurd (List.mem_map.mpr ⟨_, z1, by rw [e, ← z2]⟩) nd.1
      · exact ih z2 nd.2 z1
theorem known_mk {K : PySem.W.Frag} {G : Gam} {P : Prg} {f x qual : Str} {st : Stmt} {a : Addr} (d : DefI) (D : DefAt K x qual st a) (hp : P.lookup f = some d) (Sc : FnScope d.fi.N d.ps (defScope st))
    (hb : ∀ (kV doc pm : Value) (an : Option Addr) (cdv ct : Value) (us : List Value), us.length = d.ps.length → bindArgs (PySem.W.fnOf x qual (defArgs st) (defBody st) (defScope st) .none kV doc pm an cdv ct) ⟨us, []⟩ = pure (d.ps.zip us))
    (h1 : d.fi.sc = defScope st) (h2 : d.body = defBody st) (ht : d.fi.tb = false) : Known K G P f a := by
  obtain ⟨fd, F⟩ := D.ex
  exact ⟨d, hp, x, qual, st, fd, F, Sc, F.binds hb, h1, h2, fun z => by rw [ht] at z; cases z⟩
theorem known_mkC {K : PySem.W.Frag} {G : Gam} {P : Prg} {f x qual : Str} {st : Stmt} {a c : Addr} (d : DefI) (D : DefAtC K x qual st a c) (hp : P.lookup f = some d) (Sc : FnScope d.fi.N d.ps (defScope st))
    (hb : ∀ (kV doc pm : Value) (an : Option Addr) (cdv ct : Value) (us : List Value), us.length = d.ps.length → bindArgs (PySem.W.fnOf x qual (defArgs st) (defBody st) (defScope st) .none kV doc pm an cdv ct) ⟨us, []⟩ = pure (d.ps.zip us))
    (h1 : d.fi.sc = defScope st) (h2 : d.body = defBody st) (ht : LamTab G qual (.ref c)) : Known K G P f a := by
  obtain ⟨fd, F, hc⟩ := D.ex
  exact ⟨d, hp, x, qual, st, fd, F, Sc, F.binds hb, h1, h2, fun _ => by rw [hc]; exact ht⟩
theorem all_nil {α : Type} {p : α → Prop} : ∀ e ∈ ([] : List α), p e := fun _ h => absurd h (by simp)
theorem all_cons {α : Type} {p : α → Prop} {x : α} {l : List α} (h : p x) (t : ∀ e ∈ l, p e) : ∀ e ∈ x :: l, p e := fun e he => by
  rcases List.mem_cons.mp he with rfl | he
  · exact h
  · exact t e he
theorem look_all {α : Type} {l : List (Str × α)} {p : Str × α → Prop} (h : ∀ e ∈ l, p e) (f : Str) (a : α) (e : l.lookup f = some a) : p (f, a) := h _ (PySem.mem_of_lookup e)
/-- isinstance, told by what the classes stand under -/
theorem kit_rr {K : PySem.W.Frag} {t : Value} {D : Addr} {b : Bool} (hne : (t == .ref D) = false) (h1 : (PySem.W.clsIn K D).isSome = true) (h2 : PySem.W.typeIn K (.ref D) = some (.type "type")) (h3 : PySem.W.subIn K t (.ref D) = some b) : PySem.W.kitOne K t (.ref D) = some b := by
  unfold PySem.W.kitOne PySem.W.kitCls
  rw [hne, if_neg Bool.false_ne_true]
  show (if ((PySem.W.clsIn K D).isSome && PySem.W.typeIn K (.ref D) == some (.type "type")) = true then PySem.W.subIn K t (.ref D) else none) = some b
  rw [h1, h2]
  exact h3
theorem kit_rt {K : PySem.W.Frag} {C : Addr} {n : String} {b : Bool} (hm : PySem.W.kitMeta n = true) (h3 : PySem.W.subIn K (.ref C) (.type n) = some b) : PySem.W.kitOne K (.ref C) (.type n) = some b := by
  unfold PySem.W.kitOne PySem.W.kitCls
  have : (Value.ref C == Value.type n) = false := rfl
  rw [this]
  simp only [Bool.false_eq_true, if_false, hm, if_true]
  exact h3
theorem kit_self {K : PySem.W.Frag} {C : Addr} {b : Bool} (h : b = true) : PySem.W.kitOne K (.ref C) (.ref C) = some b := by
  unfold PySem.W.kitOne
  rw [h, if_pos (by simp)]
theorem meta_tags : ∀ n ∈ tagNames, PySem.W.kitMeta n = true := by decide +kernel
/-- an own exception class -/
theorem oexC {K : PySem.W.Frag} {C : Addr} {nm q N bs bm sn sub ab col dd k0 k1 k2 k3 k5} (l : K.lookup C = some (excClassObj nm q C N bs bm true sn sub ab col dd k0 k1 k2 k3 k5 "ValueError.__new__")) (r : PySem.HandSPX.refsVE bm = true)
    (sa : PySem.W.findIn K (.ref C) "__setattr__" = some (some (.builtin "object.__setattr__"))) (ex : PySem.W.subIn K (.ref C) (.type "BaseException") = some true) (ty : PySem.W.typeIn K (.ref C) = some (.type "type")) (kc : PySem.W.keepIn K (.ref C) = true) : OexC K C :=
  ⟨⟨_, _, _, _, _, _, _, _, _, _, _, _, _, _, _, l, r⟩, sa, ex, ty, kc⟩
theorem exm_rr {K : PySem.W.Frag} {t : Value} {D : Addr} {b : Bool} (ex : PySem.W.subIn K (.ref D) (.type "BaseException") = some true) (h1 : (PySem.W.clsIn K D).isSome = true) (h2 : PySem.W.typeIn K (.ref D) = some (.type "type")) (h3 : PySem.W.subIn K t (.ref D) = some b) : PySem.W.exmOne K t (.ref D) = some b := by
  unfold PySem.W.exmOne
  rw [ex, if_pos (by rfl)]
  unfold PySem.W.kitCls
  show (if ((PySem.W.clsIn K D).isSome && PySem.W.typeIn K (.ref D) == some (.type "type")) = true then PySem.W.subIn K t (.ref D) else none) = some b
  rw [h1, h2]
  exact h3
theorem exf_mk {K : PySem.W.Frag} {mg : Str → Option Value} {c x qual : Str} {ci : ClsI} {st : Stmt} {a : Addr} (ps : List Str) (hf : ci.fields = ps.reverse) (hne : ps ≠ []) (hz : ps.length ≤ 900) (hm : mg c = some (.ref ci.C)) (T : OexC K ci.C) (iC : PySem.W.findIn K (.ref ci.C) "__init__" = some (some (.ref a)))
    (tI : PySem.W.typeIn K (.ref a) = some (.type "function")) (D : DefAt K x qual st a) (Sc : FnScope (("self" : Str) :: ps) (("self" : Str) :: ps) (defScope st)) (ib : initB (("self" : Str) :: ps) (defScope st) ps (defBody st) = true) (hn : ∀ f ∈ ps, PySem.W.findIn K (.ref ci.C) f = some none)
    (hb : ∀ (kV doc pm : Value) (an : Option Addr) (cdv ct : Value) (us : List Value), us.length = (("self" : Str) :: ps).length → bindArgs (PySem.W.fnOf x qual (defArgs st) (defBody st) (defScope st) .none kV doc pm an cdv ct) ⟨us, []⟩ = pure ((("self" : Str) :: ps).zip us)) (xf : XfC K ci.C) :
    ∃ (ps : List Str) (a : Addr) (fd : FuncData) (x qual : Str) (st : Stmt), ci.fields = ps.reverse ∧ ps ≠ [] ∧ ps.length ≤ 900 ∧ mg c = some (.ref ci.C) ∧ OexC K ci.C ∧ PySem.W.findIn K (.ref ci.C) "__init__" = some (some (.ref a)) ∧
    PySem.W.typeIn K (.ref a) = some (.type "function") ∧ Fun K x qual st a fd ∧ FnScope (("self" : Str) :: ps) (("self" : Str) :: ps) (defScope st) ∧ initB (("self" : Str) :: ps) (defScope st) ps (defBody st) = true ∧ (∀ f ∈ ps, PySem.W.findIn K (.ref ci.C) f = some none) ∧ Binds K fd (("self" : Str) :: ps) [] ∧ XfC K ci.C := by
  obtain ⟨fd, Fn⟩ := D.ex
  exact ⟨ps, a, fd, x, qual, st, hf, hne, hz, hm, T, iC, tI, Fn, Sc, ib, hn, Fn.binds hb, xf⟩
section
variable {P : Program} {w : World} {K : PySem.W.Frag} {mg : Str → Option Value} {base : Heap} {G : Gam} {Pr : Prg}
theorem fn_step (hG : G.lam = none) (F : GFacts K mg G) (TB : ∀ p ∈ G.cds, LamX.TabB base mg p.1 p.2) (PO : PrgOk K G Pr) (j : Nat) {f x qual : Str} {st : Stmt} {a : Addr} {fd : FuncData} (d : DefI) (hd : Pr.lookup f = some d) (Fn : Fun K x qual st a fd) (Sc : FnScope d.fi.N d.ps (defScope st)) (B : Binds K fd d.ps []) (hsc : d.fi.sc = defScope st) (hbd : d.body = defBody st) (htb : d.fi.tb = true → LamTab G qual fd.code) :
    FnOk P w K mg base (L2.CX P w) (2 * j + 3) a fd d.ps (spOf K G (runF G Pr (j + 1) f)) := by
  have fns : FnsOk P w K mg base G (2 * j + 1) (runF G Pr j) := fns_ok hG F TB PO j
  have hGb : G.base = G := by
    obtain ⟨_, _, _, _, _, _, _⟩ := G
    simp only at hG
    subst hG
    rfl
  refine Fun.okC Fn Sc (fun vs H Q E hsp => ?_) (fun A outer s H vs Q E hr hsp => ?_)
  · obtain ⟨ι, ws, S, st, r, o⟩ := hsp
    rw [runF_norm (noPair_of hG r) hd] at o
    split at o
    · rename_i hl; rw [r.length]; exact hl.1
    · exact o.elim
  · exact body_run hG F TB (by omega) fns (low_ok hG F TB PO j) hd Sc hsc hbd htb hr hsp
/-- the script is a list of ints that is read -/
theorem law_sp {H : Hp} (hT : LamX.Tabs G.tabs H) {a : Addr} {ns : List Int} (hS : SqL K H a (ns.map V.int)) {r : List W → Store → Res W} {S' : Store} (h : r [.dat (.scr ns)] [] = .ok (.dat (.bl true)) S') : spOf K G r [.ref a] H (fun v _ => v = .bl true) fun _ _ _ => False := by
  refine ⟨[], [.dat (.scr ns)], [], ⟨rfl, by simp, fun n a c h1 h2 => by simp at h1, hT⟩, .cons (.dat (.scr ?_)) .nil, ?_⟩
  · rcases hS with hS | hS
    · exact .inl ⟨by simp, hS⟩
    · exact .inr hS
  · rw [h]
    intro ι' H' e s v r
    cases r with
    | dat r => cases r; rfl
theorem tabs_new {H : Hp} (hm : G.tabs.map (·.1) = G.cds.map (·.2)) (hT : ∀ p ∈ G.cds, H p.2 = some (.tbl #[])) : LamX.Tabs G.tabs H := fun p hp => by
  have : p.1 ∈ G.cds.map (·.2) := by rw [← hm]; exact List.mem_map.mpr ⟨p, hp, rfl⟩
  obtain ⟨q, hq, e⟩ := List.mem_map.mp this
  refine ⟨#[], by rw [← e]; exact hT q hq, trivial, fun pos cv h => ?_⟩
  simp [codeAmong] at h
theorem law_need {l : PySem.W.OpenLaw} {h : Heap} {st : Stmt} {fa : Addr} (hG : G.lam = none) (X : K.In h) (gf : ∀ (h : Heap) (mg : Str → Option Value), K.In h → h.Ns mainGlobals mg → GFacts K mg G) (PO : PrgOk K G Pr) (d : DefI) (hd : Pr.lookup ("law" : Str) = some d)
    (D : ∃ fd, Fun K "law" "law" st fa fd ∧ (d.fi.tb = true → LamTab G "law" fd.code)) (Sc : FnScope d.fi.N d.ps (defScope st)) (hps : d.ps = [("script" : Str)])
    (hb : ∀ (kV doc pm : Value) (an : Option Addr) (cdv ct : Value) (us : List Value), us.length = d.ps.length → bindArgs (PySem.W.fnOf "law" "law" (defArgs st) (defBody st) (defScope st) .none kV doc pm an cdv ct) ⟨us, []⟩ = pure (d.ps.zip us))
    (h1 : d.fi.sc = defScope st) (h2 : d.body = defBody st)
    (hm : G.tabs.map (·.1) = G.cds.map (·.2)) (hT : ∀ p ∈ G.cds, h.get? p.2 = some { cls := .none, data := .fields #[] }) (nT : ∀ p ∈ G.cds, K.lookup p.2 = none) (cT : ∀ p ∈ G.cds, PySem.W.codeHdIn K p.1 p.2 = true) (J : Nat)
    (plain : ∀ ns : List Int, ns.length ≤ 63 → (∀ z ∈ ns, Builtin.Int.intBits z ≤ 1048576) → ∃ S', runF G Pr (J + 1) "law" [.dat (.scr ns)] [] = .ok (.dat (.bl true)) S') :
    LamX.LawAtS l w K (L2.CX l.prog w) (2 * J + 3) 63 "script" mg fa h := by
  obtain ⟨fd, Fn, htb⟩ := D
  have B := Fn.binds hb
  refine ⟨fd, G.cds, spOf K G (runF G Pr (J + 1) "law"), hT, nT, fun p hp => PySem.W.codeHd_of_K X (cT p hp), fun s u => ?_, fun H a ns hl hbits hH hS => ?_, fun base hK hns TB => ?_⟩
  · obtain ⟨oc, od, kV, doc, pm, an, cdv, ct, osl, rfl, _⟩ := Fn.ex
    have := hb kV doc pm an cdv ct [u] (by rw [hps]; rfl)
    rw [hps] at this
    exact .of_eq this
  · obtain ⟨S', hr⟩ := plain ns hl hbits
    exact law_sp (tabs_new hm hH) hS hr
  · have := fn_step (P := l.prog) (w := w) (base := base) hG (gf base mg hK hns) TB PO J d hd Fn Sc B h1 h2 htb
    rw [hps] at this
    exact this
end
theorem law_walk {l : PySem.W.OpenLaw} {q : Program} {loose : List Str} {XP : (Str → Option Value) → Heap → Prop} {YP : World → Heap → Prop} {d : DefRec} {K : Params → PySem.W.Frag} (J : Nat) (hJ : J ≤ 60) (hn : l.most = some 63) (hdf : d.params.defaults = [])
    (hY : ∀ (w : World) (h : Heap), YP w h → (K w.params).In h)
    (F : ∀ (w : World) (mg : Str → Option Value) (fa : Addr) (h : Heap), YP w h → (K w.params).In h → h.Ns mainGlobals mg → mg d.name = some (.ref fa) → LamX.LawAtS l w (K w.params) (L2.CX l.prog w) (2 * J + 3) 63 "script" mg fa h) :
    PySem.W.WalkO q loose XP YP l.row.toRowW d [] (fun f vs => PySem.call f vs) :=
  LamX.walk_ofTs (n := 63) (k := 2 * J + 3) (x := "script") (CX := fun w => L2.CX l.prog w) hn (by decide) hdf (Room.mono (k := 123) ⟨rfl, by decide, by decide⟩ (by omega)) hY (fun w mg fa h Y KX G hmg => F w mg fa h Y KX G hmg)
    fun w H s e s' z => by
      obtain ⟨_, _, _, _, _, _, _, _, _, _, _, _, z⟩ := z
      exact z.elim
end EC
namespace EC
open PySem PySem.Spec PyProof.Rows L2
def sVar (i : Nat) : Sm W := fun ρ S => match ρ[i]? with
  | some (some w) => .ok w S
  | _ => .bad
def sVal (d : D) : Sm W := fun _ S => .ok (.dat d) S
/-- arguments, read already -/
def evl : List (Sm W) → Sm (List W)
  | [] => fun _ S => .ok [] S
  | c :: cs => fun ρ S => (c ρ S).bind fun w S1 => (evl cs ρ S1).bind fun ws S2 => .ok (w :: ws) S2
def sTup (cs : List (Sm W)) : Sm W := fun ρ S => (evl cs ρ S).bind mkTup
def sLst (bx : Bool) (cs : List (Sm W)) : Sm W := if bx then fun ρ S => (evl cs ρ S).bind mkLstB else fun ρ S => (evl cs ρ S).bind mkLst
/-- a call of a def of the text -/
def sFn (T : FnT) (f : Str) (ca : Sm (List W)) : Sm W := fun ρ S => (ca ρ S).bind fun ws S2 => callT T f ws S2
def sMk (T : FnT) (c : Str) (ci : ClsI) (ca : Sm (List W)) : Sm W := fun ρ S => (ca ρ S).bind fun ws S2 => callMk T c ci ws S2
/-- names set: places -/
def setI (i : Nat) : W → Env0' → Option Env0' := fun w ρ => some (ρ.set i (some w))
def setIs : List Nat → List W → Env0' → Option Env0'
  | [], [], ρ => some ρ
  | i :: is, w :: ws, ρ => setIs is ws (ρ.set i (some w))
  | _, _, _ => none
def setTI (is : List Nat) : W → Env0' → Option Env0' := fun w ρ => match w with
  | .dat (.tup ds) => setIs is (ds.map .dat) ρ
  | _ => none
def gI (i : Nat) (w : W) : Ss := fun ρ S => .nx (ρ.set i (some w)) S
def seqL : List Ss → Ss
  | [] => sNil
  | a :: r => sSeq a (seqL r)
def sBi (b : Bi) (cs : List (Sm W)) : Sm W := fun ρ S => (evl cs ρ S).bind fun ws S1 => fBi b ws S1
def sBiB (b : Bool) (cs : List (Sm W)) : Sm W := fun ρ S => (evl cs ρ S).bind fun ws S1 => fBiB b ws S1
/-- a new instance, told without the class's address -/
def callMkN (T : FnT) (c q : Str) (nf : Nat) (muta : Bool) (ws : List W) (S : Store) : Res W := (callT T q (.cell S.length :: ws) (S ++ [.ins c []])).bind fun w S2 => match w with
  | .dat .non => if S2.length = S.length + 1 then match S2[S.length]? with
    | some (.ins c' vs) => if c' = c ∧ vs.length = nf then (if muta then .ok (.cell S.length) S2 else .ok (.dat (.ins c vs)) (S2.take S.length)) else .bad
    | _ => .bad
    else .bad
  | _ => .bad
def sNewN (T : FnT) (c q : Str) (nf : Nat) (muta : Bool) (cs : List (Sm W)) : Sm W := fun ρ S => (evl cs ρ S).bind fun ws S2 => callMkN T c q nf muta ws S2
def sFnL (T : FnT) (f : Str) (cs : List (Sm W)) : Sm W := fun ρ S => (evl cs ρ S).bind fun ws S2 => callT T f ws S2
/-- x(lambda: c), x a def of the text -/
def sLamN (T : FnT) (x : Str) (c : Sm W) : Sm W := fun ρ S => (T x [.lam fun S => (c ρ S).bind toD] S).bind noL
def evPl : List (Sm W × Sm W) → Env0' → Store → Res (List (Key × D))
  | [], _, S => .ok [] S
  | (k, v) :: r, ρ, S => (k ρ S).bind fun wk S1 => (v ρ S1).bind fun wv S2 => match wk, wv with
    | .dat dk, .dat dv => match keyOf? dk with
      | some q => (evPl r ρ S2).bind fun ps S3 => .ok ((q, dv) :: ps) S3
      | none => .bad
    | _, _ => .bad
def sDictL (bx : Bool) (ps : List (Sm W × Sm W)) : Sm W := fun ρ S => match evPl ps ρ (S ++ [.dct [] []]) with
  | .ok ps S2 => dctFin bx S.length ps S2
  | .ex c fs S2 => .ex c fs S2
  | .bad => .bad
def yes : Sm Bool := fun _ S => .ok true S
def hFld (g : Str) (ci : ClsI) (fs : List D) : Sm W := fun _ S => match ixOf g ci.fields with
  | some j => match fs[j]? with
    | some d => .ok (.dat d) S
    | none => .bad
  | none => .bad
def pickL (c : Str) (ci : ClsI) (fs : List D) (ρ : Env0') (S : Store) : List (Str × Option Nat × (ClsI → List D → Ss)) → SR
  | [] => .ex c fs ρ S
  | q :: r => if c = q.1 then (match q.2.1 with
      | none => (q.2.2 ci fs ρ S).noEx
      | some i => if i < ρ.length then unset (some i) (q.2.2 ci fs (ρ.set i none) S).noEx else .bad)
    else pickL c ci fs ρ S r
def sTryL (G : Gam) (b : Ss) (cl : List (Str × Option Nat × (ClsI → List D → Ss))) : Ss := fun ρ S => match b ρ S with
  | .ex c fs ρ1 S1 => match G.exs.lookup c with
    | some ci => pickL c ci fs ρ1 S1 cl
    | none => .bad
  | r => r
end EC
namespace EC
open PySem PySem.Spec PyProof.Rows L2
section
variable {ρ : Env0'} {S : Store} {a b c : Ss} {r : List Ss}
theorem seqL_nil : seqL [] ρ S = .nx ρ S := rfl
theorem seqL_cons : seqL (a :: r) ρ S = (a ρ S).andThen (seqL r) := rfl
theorem andThen_nx {f : Ss} : (SR.nx ρ S).andThen f = f ρ S := rfl
theorem andThen_rt {f : Ss} {w : W} : (SR.rt w S).andThen f = .rt w S := rfl
theorem andThen_bk {f : Ss} : (SR.bk ρ S).andThen f = .bk ρ S := rfl
theorem andThen_ct {f : Ss} : (SR.ct ρ S).andThen f = .ct ρ S := rfl
theorem andThen_ex {f : Ss} {x : Str} {fs : List D} : (SR.ex x fs ρ S).andThen f = .ex x fs ρ S := rfl
theorem toS_ok {α : Type} {v : α} {S' : Store} {f : α → Store → SR} : (Res.ok v S').toS ρ f = f v S' := rfl
theorem toS_ex {α : Type} {x : Str} {fs : List D} {S' : Store} {f : α → Store → SR} : (Res.ex x fs S' : Res α).toS ρ f = .ex x fs ρ S' := rfl
theorem sIte_tt {t : Sm Bool} {S' : Store} (h : t ρ S = .ok true S') : sIte t a b ρ S = a ρ S' := by unfold sIte; rw [h]; rfl
theorem sIte_ff {t : Sm Bool} {S' : Store} (h : t ρ S = .ok false S') : sIte t a b ρ S = b ρ S' := by unfold sIte; rw [h]; rfl
theorem sIte_ok {t : Sm Bool} {S' : Store} {k : Bool} (h : t ρ S = .ok k S') : sIte t a b ρ S = if k = true then a ρ S' else b ρ S' := by unfold sIte; rw [h]; rfl
theorem sRet_ok {e : Sm W} {w : W} {S' : Store} (h : e ρ S = .ok w S') : sRet e ρ S = .rt w S' := by unfold sRet; rw [h]; rfl
theorem sAsg_ok {e : Sm W} {w : W} {S' : Store} {i : Nat} (h : e ρ S = .ok w S') : sAsg e (setI i) ρ S = .nx (ρ.set i (some w)) S' := by unfold sAsg; rw [h]; rfl
theorem sExpr_ok {e : Sm W} {w : W} {S' : Store} (h : e ρ S = .ok w S') : sExpr e ρ S = .nx ρ S' := by unfold sExpr; rw [h]; rfl
end
section
variable {ρ : Env0'} {S S1 S2 S3 : Store} {c c1 c2 : Sm W} {w w1 w2 : W}
theorem sVal_ok {d : D} : sVal d ρ S = .ok (.dat d) S := rfl
theorem sVar_ok {i : Nat} (h : ρ[i]? = some (some w)) : sVar i ρ S = .ok w S := by unfold sVar; rw [h]
theorem s2_ok {f : D → D → Option D} {d e z : D} (h1 : c1 ρ S = .ok w1 S1) (h2 : c2 ρ S1 = .ok w2 S2) (k1 : derefW S2 w1 = some d) (k2 : derefW S2 w2 = some e) (k : f d e = some z) : s2 (f2 f) c1 c2 ρ S = .ok (.dat z) S2 := by
  unfold s2 f2; rw [h1, Res.bind_ok, h2, Res.bind_ok, k1, k2]; simp only [k]
theorem tst_ok {k : Bool} (h : c ρ S = .ok (.dat (.bl k)) S1) : tst c ρ S = .ok k S1 := by unfold tst; rw [h]; rfl
theorem sAnd_tt (h : c1 ρ S = .ok (.dat (.bl true)) S1) : sAnd c1 c2 ρ S = c2 ρ S1 := by unfold sAnd; rw [h]; rfl
theorem sAnd_ff (h : c1 ρ S = .ok (.dat (.bl false)) S1) : sAnd c1 c2 ρ S = .ok (.dat (.bl false)) S1 := by unfold sAnd; rw [h]; rfl
theorem sOr_ff (h : c1 ρ S = .ok (.dat (.bl false)) S1) : sOr c1 c2 ρ S = c2 ρ S1 := by unfold sOr; rw [h]; rfl
theorem sOr_tt (h : c1 ρ S = .ok (.dat (.bl true)) S1) : sOr c1 c2 ρ S = .ok (.dat (.bl true)) S1 := by unfold sOr; rw [h]; rfl
theorem sNot_ok {k : Bool} (h : c ρ S = .ok (.dat (.bl k)) S1) : sNot c ρ S = .ok (.dat (.bl (!k))) S1 := by unfold sNot; rw [h]; rfl
theorem evl_nil : evl [] ρ S = .ok [] S := rfl
theorem evl_cons {cs : List (Sm W)} {ws : List W} (h : c ρ S = .ok w S1) (t : evl cs ρ S1 = .ok ws S2) : evl (c :: cs) ρ S = .ok (w :: ws) S2 := by unfold evl; rw [h, Res.bind_ok, t]; rfl
theorem sFnL_ok {T : FnT} {f : Str} {cs : List (Sm W)} {ws : List W} (h : evl cs ρ S = .ok ws S1) (hn : ws.all noLam = true) : sFnL T f cs ρ S = T f ws S1 := by unfold sFnL callT; rw [h, Res.bind_ok, if_pos hn]
theorem derefW_dat {d : D} : derefW S (.dat d) = some d := rfl
theorem derefW_cell {n : Nat} {x : Cell} (h : S[n]? = some x) : derefW S (.cell n) = some x.frz := by show (S[n]?).map Cell.frz = _; rw [h]; rfl
end
theorem dAdd (i j : Int) : dBin .Add (.int i) (.int j) = some (.int (i + j)) := rfl
theorem dSub (i j : Int) : dBin .Sub (.int i) (.int j) = some (.int (i - j)) := rfl
theorem dMul {i j : Int} (h : (-(2 ^ 64) < i ∧ i < 2 ^ 64) ∨ (-(2 ^ 64) < j ∧ j < 2 ^ 64)) : dBin .Mult (.int i) (.int j) = some (.int (i * j)) := by
  show (if _ then _ else _) = _
  rw [if_pos]
  simp only [Bool.or_eq_true, Bool.and_eq_true, decide_eq_true_eq]
  exact h
theorem dFdiv {i j : Int} (h : 0 < j) (h2 : j < 1073741824) : dBin .FloorDiv (.int i) (.int j) = some (.int (i / j)) := by
  show (if _ then _ else _) = _
  rw [if_pos]
  simp only [Bool.and_eq_true, decide_eq_true_eq]
  exact ⟨h, h2⟩
theorem dMod {i j : Int} (h : 0 < j) : dBin .Mod (.int i) (.int j) = some (.int (i % j)) := by
  show (if _ then _ else _) = _
  rw [if_pos (decide_eq_true h)]
theorem dPow {i j : Int} (h0 : 0 ≤ j) (h1 : j ≤ 1000000) (h2 : i.natAbs < 2 ^ 64) : dBin .Pow (.int i) (.int j) = some (.int (i ^ j.toNat)) := by
  show (if _ then _ else _) = _
  rw [if_pos]
  simp only [Bool.and_eq_true, decide_eq_true_eq]
  exact ⟨⟨h0, h1⟩, h2⟩
theorem dLt (i j : Int) : dCmpD .Lt (.int i) (.int j) = some (.bl (decide (i < j))) := rfl
theorem dLe (i j : Int) : dCmpD .LtE (.int i) (.int j) = some (.bl (decide (i ≤ j))) := rfl
theorem dGt (i j : Int) : dCmpD .Gt (.int i) (.int j) = some (.bl (decide (j < i))) := rfl
theorem dGe (i j : Int) : dCmpD .GtE (.int i) (.int j) = some (.bl (decide (j ≤ i))) := rfl
theorem dEqI (i j : Int) : dCmpD .Eq (.int i) (.int j) = some (.bl (PyData.eqv (.int i) (.int j))) := rfl
theorem dIxD (ks : List Key) (vs : List D) (x : Str) : dIx (.dct ks vs) (.str x) = valD ks vs (.inr x) := rfl
theorem dIxL (ds : List D) (i : Int) : dIx (.lst ds) (.int i) = atI ds i := rfl
theorem dIxT (ds : List D) (i : Int) : dIx (.tup ds) (.int i) = atI ds i := rfl
theorem atI_nat {α : Type} {xs : List α} {n : Nat} (h : n < xs.length) : atI xs (n : Int) = xs[n]? := by
  unfold atI ixN
  rw [if_pos (by omega), if_pos (by omega)]
  simp
end EC
namespace EC
open PySem PySem.Spec PyProof.Rows L2
def kAsg (tgt : W → Env0' → Option Env0') (ρ : Env0') (w : W) (S : Store) : SR := match tgt w ρ with
  | some ρ1 => .nx ρ1 S
  | none => .bad
def kIte (a b : Ss) (ρ : Env0') (r : Bool) (S : Store) : SR := if r = true then a ρ S else b ρ S
def kTst (w : W) (S : Store) : Res Bool := match w with
  | .dat (.bl b) => .ok b S
  | _ => .bad
def kCons (w : W) (ws : List W) (S : Store) : Res (List W) := .ok (w :: ws) S
def kEvl (cs : List (Sm W)) (ρ : Env0') (w : W) (S : Store) : Res (List W) := (evl cs ρ S).bind (kCons w)
def consO {α : Type} (d : α) (o : Option (List α)) : Option (List α) := o.map (d :: ·)
def kB {α : Type} (b : Bool) (x : α) : Option α := if b = true then some x else none
def kO (o : Option D) (S : Store) : Res W := match o with
  | some z => .ok (.dat z) S
  | none => .bad
def kTup (o : Option (List D)) (S : Store) : Res W := kO (o.bind fun ds => kB (fits ds.length) (.tup ds)) S
def kLst (o : Option (List D)) (S : Store) : Res W := kO (o.bind fun ds => kB (fits ds.length) (.lst ds)) S
def kLstB (o : Option (List D)) (S : Store) : Res W := match o with
  | some ds => if fits ds.length then .ok (.cell S.length) (S ++ [.lst ds]) else .bad
  | none => .bad
def kF2 (f : D → D → Option D) (o p : Option D) (S : Store) : Res W := match o, p with
  | some d, some e => kO (f d e) S
  | _, _ => .bad
def k2 (f : W → W → Store → Res W) (c2 : Sm W) (ρ : Env0') (w1 : W) (S1 : Store) : Res W := (c2 ρ S1).bind (f w1)
def kNot (w : W) (S : Store) : Res W := match w with
  | .dat (.bl b) => .ok (.dat (.bl (!b))) S
  | _ => .bad
def kNeg (w : W) (S : Store) : Res W := match w with
  | .dat (.int b) => .ok (.dat (.int (-b))) S
  | _ => .bad
def kAnd (c2 : Sm W) (ρ : Env0') (w : W) (S : Store) : Res W := match w with
  | .dat (.bl true) => c2 ρ S
  | .dat (.bl false) => .ok (.dat (.bl false)) S
  | _ => .bad
def kOr (c2 : Sm W) (ρ : Env0') (w : W) (S : Store) : Res W := match w with
  | .dat (.bl false) => c2 ρ S
  | .dat (.bl true) => .ok (.dat (.bl true)) S
  | _ => .bad
def kIf (c1 c2 : Sm W) (ρ : Env0') (b : Bool) (S : Store) : Res W := if b = true then c1 ρ S else c2 ρ S
def kPart (w : W) (S : Store) : Res (Option Int) := match w with
  | .dat (.int i) => .ok (some i) S
  | _ => .bad
def kF1 (f : D → Option D) (o : Option D) (S : Store) : Res W := match o with
  | some d => kO (f d) S
  | none => .bad
def kSl2 (w : W) (l h : Option Int) (S : Store) : Res W := kF1 (fun d => dSl d l h) (derefW S w) S
def kSl1 (hi : Option (Sm W)) (ρ : Env0') (w : W) (l : Option Int) (S : Store) : Res W := (sPart hi ρ S).bind (kSl2 w l)
def kSl (lo hi : Option (Sm W)) (ρ : Env0') (w : W) (S : Store) : Res W := (sPart lo ρ S).bind (kSl1 hi ρ w)
def cons2 (o : Option D) (p : Option (List D)) : Option (List D) := match o, p with
  | some d, some ds => some (d :: ds)
  | _, _ => none
def kBi (b : Bi) (o : Option (List D)) (S : Store) : Res W := match o with
  | some ds => kO (dBi b ds) S
  | none => .bad
def kCall (b : Bool) (T : FnT) (f : Str) (ws : List W) (S : Store) : Res W := if b = true then T f ws S else .bad
def kM4 (T : FnT) (q : Str) (w : W) (ws : List W) (S : Store) : Res W := kCall ((w :: ws).all noLam) T q (w :: ws) S
def kM3 (o : Option (Str × Addr)) (T : FnT) (ca : Sm (List W)) (ρ : Env0') (w : W) (S : Store) : Res W := match o with
  | some qa => (ca ρ S).bind (kM4 T qa.1 w)
  | none => .bad
def kMb (o : Option BM) (ty : String) (ca : Sm (List W)) (ρ : Env0') (w : W) (S : Store) : Res W := match o with
  | some b => if ty = b.ty then (ca ρ S).bind (dMt b w) else .bad
  | none => .bad
def methOf (G : Gam) (c m : Str) : Option (Str × Addr) := (G.clss.lookup c).bind fun ci => ci.meths.lookup m
def kM2 (G : Gam) (T : FnT) (m : Str) (ca : Sm (List W)) (ρ : Env0') (w : W) (o : Option D) (S : Store) : Res W := match o with
  | some (.ins c _) => kM3 (methOf G c m) T ca ρ w S
  | some d => kMb (bmOf m) (tyD d) ca ρ w S
  | none => .bad
def kM1 (G : Gam) (T : FnT) (m : Str) (ca : Sm (List W)) (ρ : Env0') (w : W) (S : Store) : Res W := kM2 G T m ca ρ w (derefW S w) S
def kFor (tgt : W → Env0' → Option Env0') (b : Ss) (ρ : Env0') (sr : Src) (S : Store) : SR := forN sr tgt b (sr.fuel S) 0 ρ S
def kPut2 (w wo : W) (ρ : Env0') (wi : W) (S : Store) : SR := match w, wi with
  | .dat d, .dat k => match putDct wo (keyOf? k) d S with
    | some S4 => .nx ρ S4
    | none => .bad
  | _, _ => .bad
def kPut1 (ci : Sm W) (ρ : Env0') (w wo : W) (S : Store) : SR := (ci ρ S).toS ρ (kPut2 w wo ρ)
def kPut (co ci : Sm W) (ρ : Env0') (w : W) (S : Store) : SR := (co ρ S).toS ρ (kPut1 ci ρ w)
def kFA1 (G : Gam) (f : Str) (ρ : Env0') (w wo : W) (S : Store) : SR := gFldK G f w wo ρ S
def kFA (G : Gam) (f : Str) (co : Sm W) (ρ : Env0') (w : W) (S : Store) : SR := (co ρ S).toS ρ (kFA1 G f ρ w)
def kTT (tgt : List W → Env0' → Option Env0') (ρ : Env0') (ws : List W) (S : Store) : SR := if fits ws.length = true then match tgt ws ρ with
  | some ρ1 => .nx ρ1 S
  | none => .bad
  else .bad
def kTM (tgs : List (W → Ss)) (ρ : Env0') (ws : List W) (S : Store) : SR := if fits ws.length = true ∧ ws.length = tgs.length then (gAll tgs ws ρ S).noRt else .bad
def kAugN (i : Nat) (op : Operator) (o : Option (Option W)) (ρ : Env0') (w : W) (S : Store) : SR := match o, w with
  | some (some (.dat (.int a))), .dat (.int b) => match augI op a b with
      | some z => .nx (ρ.set i (some (.dat (.int z)))) S
      | none => .bad
  | _, _ => .bad
def exFields (G : Gam) (x : Str) : Nat := match G.exs.lookup x with
  | some ci => ci.fields.length
  | none => 0
def kRaise (G : Gam) (x : Str) (ρ : Env0') (ws : List W) (S : Store) : SR := match G.exs.lookup x, allD ws with
  | some ci, some ds => if ds.length = ci.fields.length ∧ 0 < ds.length then .ex x ds.reverse ρ S else .bad
  | _, _ => .bad
def kTry (G : Gam) (cl : List (Str × Option Nat × (ClsI → List D → Ss))) (r : SR) : SR := match r with
  | .ex c fs ρ1 S1 => match G.exs.lookup c with
    | some ci => pickL c ci fs ρ1 S1 cl
    | none => .bad
  | r => r
def kWh (t : Sm Bool) (b : Ss) (f : Nat) (r : SR) : SR := match r with
  | .nx ρ' S' => whN t b f ρ' S'
  | .ct ρ' S' => whN t b f ρ' S'
  | .bk ρ' S' => .nx ρ' S'
  | r => r
def kLam (d : D) (S : Store) : Res W := .ok (.dat d) S
def kCL (G : Gam) (T : FnT) (cf : Sm W) (ca : Sm (List W)) (ρ : Env0') (S : Store) (r : Res W) : Res W := match r with
  | .ok (.lam run) S1 => (run S1).bind kLam
  | _ => sCallN G T cf ca ρ S
def fldE (G : Gam) (f : Str) (c : Str) (vs : List D) : Option D := fldD G f (.ins c vs)
section
variable {G : Gam} {T : FnT} {ρ : Env0'} {S S1 : Store} {w w1 w2 : W} {ws : List W} {c c0 c1 c2 : Sm W} {cs : List (Sm W)} {a b : Ss} {r : List Ss} {f : D → D → Option D} {i : Nat} {o : Option W} {d e : D} {ds : List D} {x m : Str}
theorem e_var0 : sVar 0 (some w :: ρ) S = .ok w S := rfl
theorem e_varS : sVar (i + 1) (o :: ρ) S = sVar i ρ S := rfl
theorem e_ret : sRet c ρ S = (c ρ S).toS ρ SR.rt := rfl
theorem e_asg {tgt : W → Env0' → Option Env0'} : sAsg c tgt ρ S = (c ρ S).toS ρ (kAsg tgt ρ) := rfl
theorem e_kasg : kAsg (setI i) ρ w S = .nx (ρ.set i (some w)) S := rfl
theorem e_kasgT {is : List Nat} : kAsg (setTI is) ρ (.dat (.tup ds)) S = (match setIs is (ds.map .dat) ρ with
  | some ρ1 => .nx ρ1 S
  | none => .bad) := rfl
theorem e_ite {t : Sm Bool} : sIte t a b ρ S = (t ρ S).toS ρ (kIte a b ρ) := rfl
theorem e_kite1 : kIte a b ρ true S = a ρ S := rfl
theorem e_kite0 : kIte a b ρ false S = b ρ S := rfl
theorem e_tst : tst c ρ S = (c ρ S).bind kTst := rfl
theorem e_ktst {b : Bool} : kTst (.dat (.bl b)) S = .ok b S := rfl
theorem e_expr : sExpr c ρ S = (c ρ S).toS ρ (fun _ S1 => .nx ρ S1) := rfl
theorem e_evl0 : evl [] ρ S = .ok [] S := rfl
theorem e_evl : evl (c :: cs) ρ S = (c ρ S).bind (kEvl cs ρ) := rfl
theorem e_kevl : kEvl cs ρ w S = (evl cs ρ S).bind (kCons w) := rfl
theorem e_kcons : kCons w ws S = .ok (w :: ws) S := rfl
theorem e_tup : sTup cs ρ S = (evl cs ρ S).bind fun ws S => kTup (allD ws) S := by
  unfold sTup
  congr 1
  funext ws S
  unfold mkTup kTup kO kB
  cases allD ws with
  | none => rfl
  | some ds => by_cases h : fits ds.length = true <;> simp [h]
theorem e_lst : sLst false cs ρ S = (evl cs ρ S).bind fun ws S => kLst (allD ws) S := by
  show (evl cs ρ S).bind mkLst = _
  congr 1
  funext ws S
  unfold mkLst kLst kO kB
  cases allD ws with
  | none => rfl
  | some ds => by_cases h : fits ds.length = true <;> simp [h]
theorem e_lstB : sLst true cs ρ S = (evl cs ρ S).bind fun ws S => kLstB (allD ws) S := by
  rfl
theorem e_allD0 : allD [] = some [] := rfl
theorem e_allD : allD (.dat d :: ws) = consO d (allD ws) := rfl
theorem e_consO {α : Type} {x : α} {l : List α} : consO x (some l) = some (x :: l) := rfl
theorem e_ktup : kTup (some ds) S = kO (kB (fits ds.length) (.tup ds)) S := rfl
theorem e_klst : kLst (some ds) S = kO (kB (fits ds.length) (.lst ds)) S := rfl
theorem e_klstB (h : fits ds.length = true) : kLstB (some ds) S = .ok (.cell S.length) (S ++ [.lst ds]) := by unfold kLstB; simp only [h, if_true]
theorem e_kB {α : Type} {x : α} : kB true x = some x := rfl
theorem e_kO : kO (some d) S = .ok (.dat d) S := rfl
theorem e_s2 {f : W → W → Store → Res W} : s2 f c1 c2 ρ S = (c1 ρ S).bind (k2 f c2 ρ) := rfl
theorem e_k2 {f : W → W → Store → Res W} : k2 f c2 ρ w S = (c2 ρ S).bind (f w) := rfl
theorem e_f2 : f2 f w1 w2 S = kF2 f (derefW S w1) (derefW S w2) S := by
  unfold f2 kF2 kO
  cases derefW S w1 with
  | none => rfl
  | some d => cases derefW S w2 <;> rfl
theorem e_kf2 : kF2 f (some d) (some e) S = kO (f d e) S := rfl
theorem e_drD : derefW S (.dat d) = some d := rfl
theorem e_drC : derefW S (.cell i) = (S[i]?).map Cell.frz := rfl
theorem e_frzL : Cell.frz (.lst ds) = .lst ds := rfl
theorem e_frzD {ks : List Key} : Cell.frz (.dct ks ds) = .dct ks ds := rfl
theorem e_frzI : Cell.frz (.ins x ds) = .ins x ds := rfl
theorem e_not : sNot c ρ S = (c ρ S).bind kNot := rfl
theorem e_knot {b : Bool} : kNot (.dat (.bl b)) S = .ok (.dat (.bl (!b))) S := rfl
theorem e_neg : sNeg c ρ S = (c ρ S).bind kNeg := rfl
theorem e_kneg {b : Int} : kNeg (.dat (.int b)) S = .ok (.dat (.int (-b))) S := rfl
theorem e_and : sAnd c1 c2 ρ S = (c1 ρ S).bind (kAnd c2 ρ) := rfl
theorem e_kand1 : kAnd c ρ (.dat (.bl true)) S = c ρ S := rfl
theorem e_kand0 : kAnd c ρ (.dat (.bl false)) S = .ok (.dat (.bl false)) S := rfl
theorem e_or : sOr c1 c2 ρ S = (c1 ρ S).bind (kOr c2 ρ) := rfl
theorem e_kor1 : kOr c ρ (.dat (.bl true)) S = .ok (.dat (.bl true)) S := rfl
theorem e_kor0 : kOr c ρ (.dat (.bl false)) S = c ρ S := rfl
theorem e_if {t : Sm Bool} : sIf t c1 c2 ρ S = (t ρ S).bind (kIf c1 c2 ρ) := rfl
theorem e_kif1 : kIf c1 c2 ρ true S = c1 ρ S := rfl
theorem e_kif0 : kIf c1 c2 ρ false S = c2 ρ S := rfl
theorem e_sl {lo hi : Option (Sm W)} : sSl c lo hi ρ S = (c ρ S).bind (kSl lo hi ρ) := rfl
theorem e_ksl {lo hi : Option (Sm W)} : kSl lo hi ρ w S = (sPart lo ρ S).bind (kSl1 hi ρ w) := rfl
theorem e_ksl1 {hi : Option (Sm W)} {l : Option Int} : kSl1 hi ρ w l S = (sPart hi ρ S).bind (kSl2 w l) := rfl
theorem e_ksl2 {l h : Option Int} : kSl2 w l h S = kF1 (fun d => dSl d l h) (derefW S w) S := rfl
theorem e_kf1 {f : D → Option D} : kF1 f (some d) S = kO (f d) S := rfl
theorem e_part0 : sPart none ρ S = .ok none S := rfl
theorem e_part : sPart (some c) ρ S = (c ρ S).bind kPart := rfl
theorem e_kpart {j : Int} : kPart (.dat (.int j)) S = .ok (some j) S := rfl
theorem e_bi {b : Bi} : sBi b cs ρ S = (evl cs ρ S).bind fun ws S => kBi b (derefs S ws) S := by
  rfl
theorem e_kbi {b : Bi} : kBi b (some ds) S = kO (dBi b ds) S := rfl
theorem e_drs0 : derefs S [] = some [] := rfl
theorem e_drs : derefs S (w :: ws) = cons2 (derefW S w) (derefs S ws) := rfl
theorem e_cons2 : cons2 (some d) (some ds) = some (d :: ds) := rfl
theorem e_bib {b : Bool} : sBiB b cs ρ S = (evl cs ρ S).bind (fBiB b) := rfl
theorem e_fn : sFnL T x cs ρ S = (evl cs ρ S).bind fun ws S => kCall (ws.all noLam) T x ws S := rfl
theorem e_kcall : kCall true T x ws S = T x ws S := rfl
theorem e_all0 : ([] : List W).all noLam = true := rfl
theorem e_allW : (W.dat d :: ws).all noLam = ws.all noLam := rfl
theorem e_allC : (W.cell i :: ws).all noLam = ws.all noLam := rfl
theorem e_meth {ca : Sm (List W)} : sMeth G T m c ca ρ S = (c ρ S).bind (kM1 G T m ca ρ) := by
  unfold sMeth
  congr 1
  funext w S1
  unfold kM1
  cases derefW S1 w with
  | none => rfl
  | some d =>
    cases d with
    | ins c vs =>
      show (match G.clss.lookup c with
        | some ci => match ci.meths.lookup m with
          | some qa => (ca ρ S1).bind fun ws S2 => callT T qa.1 (w :: ws) S2
          | none => .bad
        | none => .bad) = kM3 (methOf G c m) T ca ρ w S1
      unfold methOf
      cases G.clss.lookup c with
      | none => rfl
      | some ci =>
        show (match ci.meths.lookup m with
          | some qa => (ca ρ S1).bind fun ws S2 => callT T qa.1 (w :: ws) S2
          | none => .bad) = kM3 (ci.meths.lookup m) T ca ρ w S1
        cases ci.meths.lookup m <;> rfl
    | _ =>
      show (match bmOf m with
        | some b => if _ = b.ty then (ca ρ S1).bind fun ws S2 => dMt b w ws S2 else .bad
        | none => .bad) = kMb (bmOf m) _ ca ρ w S1
      cases bmOf m <;> rfl
theorem e_km1 {ca : Sm (List W)} : kM1 G T m ca ρ w S = kM2 G T m ca ρ w (derefW S w) S := rfl
theorem e_km2i {ca : Sm (List W)} : kM2 G T m ca ρ w (some (.ins x ds)) S = kM3 (methOf G x m) T ca ρ w S := rfl
theorem e_km3 {ca : Sm (List W)} {q : Str} {ad : Addr} : kM3 (some (q, ad)) T ca ρ w S = (ca ρ S).bind (kM4 T q w) := rfl
theorem e_km4 {q : Str} : kM4 T q w ws S = kCall ((w :: ws).all noLam) T q (w :: ws) S := rfl
theorem e_km2l {ca : Sm (List W)} : kM2 G T m ca ρ w (some (.lst ds)) S = kMb (bmOf m) "list" ca ρ w S := rfl
theorem e_km2s {ca : Sm (List W)} : kM2 G T m ca ρ w (some (.str x)) S = kMb (bmOf m) "str" ca ρ w S := rfl
theorem e_km2d {ca : Sm (List W)} {ks : List Key} : kM2 G T m ca ρ w (some (.dct ks ds)) S = kMb (bmOf m) "dict" ca ρ w S := rfl
theorem e_bmA : bmOf ("append" : Str) = some .append := by kernel_rfl
theorem e_bmP : bmOf ("pop" : Str) = some .pop := by kernel_rfl
theorem e_bmE : bmOf ("extend" : Str) = some .extend := by kernel_rfl
theorem e_bmS : bmOf ("split" : Str) = some .split := by kernel_rfl
theorem e_bmG : bmOf ("get" : Str) = some .get1 := by kernel_rfl
theorem e_kmbA {ca : Sm (List W)} : kMb (some .append) "list" ca ρ w S = (ca ρ S).bind (dMt .append w) := by unfold kMb; simp [BM.ty]
theorem e_kmbP {ca : Sm (List W)} : kMb (some .pop) "list" ca ρ w S = (ca ρ S).bind (dMt .pop w) := by unfold kMb; simp [BM.ty]
theorem e_kmbE {ca : Sm (List W)} : kMb (some .extend) "list" ca ρ w S = (ca ρ S).bind (dMt .extend w) := by unfold kMb; simp [BM.ty]
theorem e_kmbS {ca : Sm (List W)} : kMb (some .split) "str" ca ρ w S = (ca ρ S).bind (dMt .split w) := by unfold kMb; simp [BM.ty]
theorem e_kmbG {ca : Sm (List W)} : kMb (some .get1) "dict" ca ρ w S = (ca ρ S).bind (dMt .get1 w) := by unfold kMb; simp [BM.ty]
theorem e_fld : sFld G x c ρ S = (c ρ S).bind fun w S => kF1 (fldD G x) (derefW S w) S := rfl
theorem e_put {ca co ci : Sm W} : sPut ca co ci ρ S = (ca ρ S).toS ρ (kPut co ci ρ) := rfl
theorem e_kput : kPut c1 c2 ρ w S = (c1 ρ S).toS ρ (kPut1 c2 ρ w) := rfl
theorem e_kput1 : kPut1 c ρ w w1 S = (c ρ S).toS ρ (kPut2 w w1 ρ) := rfl
theorem e_fa : sFldAsg G x c1 c2 ρ S = (c1 ρ S).toS ρ (kFA G x c2 ρ) := rfl
theorem e_kfa : kFA G x c ρ w S = (c ρ S).toS ρ (kFA1 G x ρ w) := rfl
theorem e_kfa1 : kFA1 G x ρ w w1 S = gFldK G x w w1 ρ S := rfl
theorem e_tt {ca : Sm (List W)} {tgt : List W → Env0' → Option Env0'} : sTT ca tgt ρ S = (ca ρ S).toS ρ (kTT tgt ρ) := rfl
theorem e_ktt2 {j : Nat} : kTT (setIs [i, j]) ρ [w1, w2] S = .nx ((ρ.set i (some w1)).set j (some w2)) S := rfl
theorem e_ktt3 {j l : Nat} {w3 : W} : kTT (setIs [i, j, l]) ρ [w1, w2, w3] S = .nx (((ρ.set i (some w1)).set j (some w2)).set l (some w3)) S := rfl
theorem e_tm {ca : Sm (List W)} {tgs : List (W → Ss)} : sTM ca tgs ρ S = (ca ρ S).toS ρ (kTM tgs ρ) := rfl
theorem e_augN {op : Operator} {n : Int} (h : ρ[i]? = some (some (.dat (.int n)))) : sAugN i op c ρ S = (c ρ S).toS ρ (kAugN i op (some (some (.dat (.int n)))) ρ) := by
  unfold sAugN
  rw [h]
  show (c ρ S).toS ρ _ = _
  congr 1
  funext w S1
  cases w with
  | dat d => cases d <;> rfl
  | _ => rfl
theorem e_raise {ca : Sm (List W)} : sRaise G x ca ρ S = (ca ρ S).toS ρ (kRaise G x ρ) := rfl
theorem e_try {cl : List (Str × Option Nat × (ClsI → List D → Ss))} : sTryL G a cl ρ S = kTry G cl (a ρ S) := rfl
theorem e_ktryR {cl : List (Str × Option Nat × (ClsI → List D → Ss))} : kTry G cl (.rt w S) = .rt w S := rfl
theorem e_ktryN {cl : List (Str × Option Nat × (ClsI → List D → Ss))} : kTry G cl (.nx ρ S) = .nx ρ S := rfl
theorem e_lamN : sLamN T x c ρ S = (T x [.lam fun S => (c ρ S).bind toD] S).bind noL := rfl
theorem e_callL {cf : Sm W} {ca : Sm (List W)} : sCallL G T cf ca ρ S = kCL G T cf ca ρ S (cf ρ S) := by
  unfold sCallL kCL
  cases cf ρ S with
  | ok w S1 => cases w <;> rfl
  | _ => rfl
theorem e_kcl {cf : Sm W} {ca : Sm (List W)} {run : Store → Res D} : kCL G T cf ca ρ S (.ok (.lam run) S1) = (run S1).bind kLam := rfl
theorem e_klam : kLam d S = .ok (.dat d) S := rfl
end
section
variable {i j : Int} {ds : List D} {a b : Str} {p q : Bool} {d e : D}
theorem o_add : dBin .Add (.int i) (.int j) = some (.int (i + j)) := rfl
theorem o_sub : dBin .Sub (.int i) (.int j) = some (.int (i - j)) := rfl
theorem o_addS : dBin .Add (.str a) (.str b) = kB (fits (a.length + b.length)) (.str (a ++ b)) := by first | rfl | (show (if _ then _ else _) = _; unfold kB; rfl)
theorem o_lt : dCmpD .Lt (.int i) (.int j) = some (.bl (decide (i < j))) := rfl
theorem o_le : dCmpD .LtE (.int i) (.int j) = some (.bl (decide (i ≤ j))) := rfl
theorem o_gt : dCmpD .Gt (.int i) (.int j) = some (.bl (decide (j < i))) := rfl
theorem o_ge : dCmpD .GtE (.int i) (.int j) = some (.bl (decide (j ≤ i))) := rfl
theorem o_isN : dCmpD .Is d .non = some (.bl (isNon d)) := rfl
theorem o_isnN : dCmpD .IsNot d .non = some (.bl (!isNon d)) := by first | rfl | (show (if _ then _ else _) = _; unfold kB; rfl)
theorem o_isB : dCmpD .Is d (.bl p) = some (.bl (isBl p d)) := rfl
theorem o_ixL : dIx (.lst ds) (.int i) = atI ds i := rfl
theorem o_ixT : dIx (.tup ds) (.int i) = atI ds i := rfl
theorem o_ixK : dIx (.kup ds) (.int i) = atI ds i := rfl
theorem o_lenL : dBi .len [.lst ds] = some (.int ds.length) := rfl
theorem o_lenT : dBi .len [.tup ds] = some (.int ds.length) := rfl
theorem o_lenS : dBi .len [.str a] = kB (fits a.length) (.int a.length) := by first | rfl | (show (if _ then _ else _) = _; unfold kB; rfl)
theorem o_tupL : dBi .tuple [.lst ds] = some (.tup ds) := rfl
theorem o_int : dBi .int [.int i] = some (.int i) := rfl
theorem o_slL : ∀ l h, dSl (.lst ds) l h = some (.lst (cutD ds l h)) := fun _ _ => rfl
theorem o_slT : ∀ l h, dSl (.tup ds) l h = some (.tup (cutD ds l h)) := fun _ _ => rfl
theorem o_slS : ∀ l h, dSl (.str a) l h = kB (fits a.length) (.str (cutS a l h)) := fun _ _ => rfl
theorem o_isi : dBi .isi [d, e] = (dIsi d e).map .bl := rfl
end
def ev0 := And.intro (@e_var0) (And.intro (@e_varS) (And.intro (@e_ret) (And.intro (@e_asg) (And.intro (@e_kasg) (And.intro (@e_kasgT) (And.intro (@e_ite) (And.intro (@e_kite1) (And.intro (@e_kite0) (And.intro (@e_tst) (And.intro (@e_ktst) (And.intro (@e_expr) (And.intro (@e_evl0) (And.intro (@e_evl) (And.intro (@e_kevl) (And.intro (@e_kcons) (And.intro (@e_tup) (And.intro (@e_lst) (And.intro (@e_lstB) (And.intro (@e_allD0) (And.intro (@e_allD) (And.intro (@e_consO) (And.intro (@e_ktup) (And.intro (@e_klst) (@e_kB))))))))))))))))))))))))
def ev1 := And.intro (@e_kO) (And.intro (@e_s2) (And.intro (@e_k2) (And.intro (@e_f2) (And.intro (@e_kf2) (And.intro (@e_drD) (And.intro (@e_drC) (And.intro (@e_frzL) (And.intro (@e_frzD) (And.intro (@e_frzI) (And.intro (@e_not) (And.intro (@e_knot) (And.intro (@e_neg) (And.intro (@e_kneg) (And.intro (@e_and) (And.intro (@e_kand1) (And.intro (@e_kand0) (And.intro (@e_or) (And.intro (@e_kor1) (And.intro (@e_kor0) (And.intro (@e_if) (And.intro (@e_kif1) (And.intro (@e_kif0) (And.intro (@e_sl) (@e_ksl))))))))))))))))))))))))
def ev2 := And.intro (@e_ksl1) (And.intro (@e_ksl2) (And.intro (@e_kf1) (And.intro (@e_part0) (And.intro (@e_part) (And.intro (@e_kpart) (And.intro (@e_bi) (And.intro (@e_kbi) (And.intro (@e_drs0) (And.intro (@e_drs) (And.intro (@e_cons2) (And.intro (@e_bib) (And.intro (@e_fn) (And.intro (@e_kcall) (And.intro (@e_all0) (And.intro (@e_allW) (And.intro (@e_allC) (And.intro (@e_meth) (And.intro (@e_km1) (And.intro (@e_km2i) (And.intro (@e_km3) (And.intro (@e_km4) (And.intro (@e_km2l) (And.intro (@e_km2s) (@e_km2d))))))))))))))))))))))))
def ev3 := And.intro (@e_bmA) (And.intro (@e_bmP) (And.intro (@e_bmE) (And.intro (@e_bmS) (And.intro (@e_bmG) (And.intro (@e_kmbP) (And.intro (@e_kmbE) (And.intro (@e_kmbS) (And.intro (@e_kmbG) (And.intro (@e_fld) (And.intro (@e_put) (And.intro (@e_kput) (And.intro (@e_kput1) (And.intro (@e_fa) (And.intro (@e_kfa) (And.intro (@e_kfa1) (And.intro (@e_tt) (And.intro (@e_ktt2) (And.intro (@e_ktt3) (And.intro (@e_tm) (And.intro (@e_raise) (And.intro (@e_try) (And.intro (@e_ktryR) (And.intro (@e_ktryN) (@e_ktryR))))))))))))))))))))))))
def ev4 := And.intro (@e_callL) (And.intro (@e_kcl) (And.intro (@e_klam) (And.intro (@e_klstB) (And.intro (@o_add) (And.intro (@o_sub) (And.intro (@o_addS) (And.intro (@o_lt) (And.intro (@o_le) (And.intro (@o_gt) (And.intro (@o_ge) (And.intro (@o_isN) (And.intro (@o_isnN) (And.intro (@o_isB) (And.intro (@o_ixL) (And.intro (@o_ixT) (And.intro (@o_ixK) (And.intro (@o_lenL) (And.intro (@o_lenT) (And.intro (@o_lenS) (And.intro (@o_tupL) (And.intro (@o_int) (And.intro (@o_slL) (And.intro (@o_slT) (@o_slS))))))))))))))))))))))))
def ev5 := And.intro (@o_lt) (And.intro (@e_kmbA) (And.intro (@seqL_nil) (And.intro (@seqL_cons) (And.intro (@andThen_nx) (And.intro (@andThen_rt) (And.intro (@andThen_bk) (And.intro (@andThen_ct) (And.intro (@andThen_ex) (And.intro (@toS_ok) (And.intro (@toS_ex) (And.intro (@Res.bind_ok) (@Res.bind_ex))))))))))))
def ev := And.intro (ev0) (And.intro (ev1) (And.intro (ev2) (And.intro (ev3) (And.intro (ev4) (ev5)))))
section
variable {G : Gam} {T : FnT} {S : Store}
example {c : Nat} : seqL [sIte (tst (s2 (f2 (dCmpD .Lt)) (sVar 0) (sVal (.int 3)))) (seqL [sRet (sVal (.bl false))]) (seqL []), sRet (s2 (f2 (dBin .Add)) (sVar 0) (sVar 1))] [some (.dat (.int 5)), some (.dat (.int c))] S = .rt (.dat (.int (5 + c))) S := by
  simp only [ev, sVal_ok]
  rfl
end
end EC
namespace EC
open PySem PySem.Spec PyProof.Rows L2
def bd_pen (G : Gam) (T : FnT) : Ss := (seqL [(sAsg (sVal (.int 89)) (setI 1)), (sFor (sIter (sVar 0)) (setI 2) (seqL [(sAsg (s2 (f2 (dBin .Mod)) (sBi .int [(s2 (f2 (dBin .Add)) (s2 (f2 (dBin .Mult)) (sVar 1) (sVal (.int 239))) (sVar 2))]) (sVal (.int 1000000891))) (setI 1))])), (sRet (sDictL true [((sVal (.str ("cells" : Str))), (sBi .list [(sVar 0)])), ((sVal (.str ("at" : Str))), (sVal (.int 0))), ((sVal (.str ("digits" : Str))), (sVal (.int 0))), ((sVal (.str ("count" : Str))), (sVal (.int 0))), ((sVal (.str ("fold" : Str))), (sVar 1))]))])
def bd_draw (G : Gam) (T : FnT) : Ss := (seqL [(sPut (s2 (f2 (dBin .Add)) (s2 (f2 dIx) (sVar 0) (sVal (.str ("count" : Str)))) (sVal (.int 1))) (sVar 0) (sVal (.str ("count" : Str)))), (sIte (tst (sAnd (s2 (f2 (dCmpD .Eq)) (s2 (f2 dIx) (sVar 0) (sVal (.str ("digits" : Str)))) (sVal (.int 0))) (s2 (f2 (dCmpD .Lt)) (s2 (f2 dIx) (sVar 0) (sVal (.str ("at" : Str)))) (sBi .len [(s2 (f2 dIx) (sVar 0) (sVal (.str ("cells" : Str))))])))) (seqL [(sAsg (s2 (f2 dIx) (s2 (f2 dIx) (sVar 0) (sVal (.str ("cells" : Str)))) (s2 (f2 dIx) (sVar 0) (sVal (.str ("at" : Str))))) (setI 2)), (sPut (s2 (f2 (dBin .Add)) (s2 (f2 dIx) (sVar 0) (sVal (.str ("at" : Str)))) (sVal (.int 1))) (sVar 0) (sVal (.str ("at" : Str)))), (sIte (tst (s2 (f2 (dCmpD .GtE)) (sVar 2) (s2 (f2 (dBin .Pow)) (sVal (.int 10)) (sVal (.int 18))))) (seqL [(sPut (s2 (f2 (dBin .Sub)) (sVar 2) (s2 (f2 (dBin .Pow)) (sVal (.int 10)) (sVal (.int 18)))) (sVar 0) (sVal (.str ("digits" : Str))))]) (seqL [(sPut (s2 (f2 (dBin .Mod)) (sBi .int [(s2 (f2 (dBin .Add)) (s2 (f2 (dBin .Mult)) (s2 (f2 dIx) (sVar 0) (sVal (.str ("fold" : Str)))) (sVal (.int 70297))) (sVar 2))]) (sVal (.int 2147483029))) (sVar 0) (sVal (.str ("fold" : Str))))]))]) (seqL [])), (sIte (tst (s2 (f2 (dCmpD .Gt)) (s2 (f2 dIx) (sVar 0) (sVal (.str ("digits" : Str)))) (sVal (.int 0)))) (seqL [(sAsg (s2 (f2 (dBin .Mod)) (sBi .int [(s2 (f2 dIx) (sVar 0) (sVal (.str ("digits" : Str))))]) (sVar 1)) (setI 3)), (sPut (s2 (f2 (dBin .FloorDiv)) (s2 (f2 dIx) (sVar 0) (sVal (.str ("digits" : Str)))) (sVar 1)) (sVar 0) (sVal (.str ("digits" : Str)))), (sRet (sVar 3))]) (seqL [])), (sAsg (s2 (f2 (dBin .Add)) (s2 (f2 (dBin .Add)) (s2 (f2 dIx) (sVar 0) (sVal (.str ("fold" : Str)))) (s2 (f2 (dBin .Mult)) (s2 (f2 dIx) (sVar 0) (sVal (.str ("count" : Str)))) (sVal (.int 8069)))) (sVal (.int 157))) (setI 4)), (sRet (s2 (f2 (dBin .Mod)) (s2 (f2 (dBin .FloorDiv)) (sBi .int [(s2 (f2 (dBin .Mod)) (s2 (f2 (dBin .Pow)) (sVar 4) (sVal (.int 17))) (sVal (.int 2305843009213693951)))]) (sVal (.int 128))) (sVar 1)))])
def bd_pick (G : Gam) (T : FnT) : Ss := (seqL [(sRet (s2 (f2 dIx) (sVar 1) (sFnL T ("_law_draw" : Str) [(sVar 0), (sBi .len [(sVar 1)])])))])
abbrev penK : List Key := [.inr "cells", .inr "at", .inr "digits", .inr "count", .inr "fold"]
structure PenS where
  cells : List Int
  at_ : Nat
  digits : Int
  count : Int
  fold : Int
abbrev PenS.cell (p : PenS) : Cell := .dct penK [.lst (p.cells.map .int), .int p.at_, .int p.digits, .int p.count, .int p.fold]
/-- c more draws may come -/
structure PenOk (p : PenS) (c : Nat) : Prop where
  at_ : p.at_ ≤ p.cells.length
  dg : 0 ≤ p.digits
  ct : 0 ≤ p.count
  ct2 : p.count + c ≤ 1000000000
  fd : 0 ≤ p.fold
  fd2 : p.fold < 2147483648
theorem PenOk.less {p : PenS} {c d : Nat} (h : PenOk p c) (hd : d ≤ c) : PenOk p d := { h with ct2 := by have := h.ct2; omega }
def kPD (o : Option Cell) (n : Nat) (k : Option Key) (d : D) (S : Store) : Option Store := match k with
  | some q => match o with
    | some (.dct ks vs) => if nodupB ks && decide (ks.length < sizeLine) then some (S.set n (.dct (putKey q ks) (putVal q d ks vs))) else none
    | _ => none
  | none => none
section
variable {n : Nat} {k : Option Key} {d : D} {S : Store} {a b c e z : D}
theorem p_put : putDct (.cell n) k d S = kPD S[n]? n k d S := by
  unfold putDct kPD
  cases k with
  | none => rfl
  | some q => rfl
theorem p_ixCells : dIx (.dct penK [a, b, c, d, e]) (.str ("cells" : Str)) = some a := by kernel_rfl
theorem p_ixAt : dIx (.dct penK [a, b, c, d, e]) (.str ("at" : Str)) = some b := by kernel_rfl
theorem p_ixDigits : dIx (.dct penK [a, b, c, d, e]) (.str ("digits" : Str)) = some c := by kernel_rfl
theorem p_ixCount : dIx (.dct penK [a, b, c, d, e]) (.str ("count" : Str)) = some d := by kernel_rfl
theorem p_ixFold : dIx (.dct penK [a, b, c, d, e]) (.str ("fold" : Str)) = some e := by kernel_rfl
theorem p_putAt : kPD (some (.dct penK [a, b, c, d, e])) n (keyOf? (.str ("at" : Str))) z S = some (S.set n (.dct penK [a, z, c, d, e])) := by kernel_rfl
theorem p_putDigits : kPD (some (.dct penK [a, b, c, d, e])) n (keyOf? (.str ("digits" : Str))) z S = some (S.set n (.dct penK [a, b, z, d, e])) := by kernel_rfl
theorem p_putCount : kPD (some (.dct penK [a, b, c, d, e])) n (keyOf? (.str ("count" : Str))) z S = some (S.set n (.dct penK [a, b, c, z, e])) := by kernel_rfl
theorem p_putFold : kPD (some (.dct penK [a, b, c, d, e])) n (keyOf? (.str ("fold" : Str))) z S = some (S.set n (.dct penK [a, b, c, d, z])) := by kernel_rfl
theorem p_kput2 {ρ : Env0'} : kPut2 (.dat d) (.cell n) ρ (.dat e) S = (match kPD S[n]? n (keyOf? e) d S with
  | some S4 => .nx ρ S4
  | none => .bad) := by
  unfold kPut2
  simp only [p_put]
  first | done | rfl
theorem set_get {α : Type} {l : List α} {n : Nat} {x : α} (h : n < l.length) : (l.set n x)[n]? = some x := List.getElem?_set_self h
end
def evp := And.intro @p_ixCells (And.intro @p_ixAt (And.intro @p_ixDigits (And.intro @p_ixCount (And.intro @p_ixFold (And.intro @p_putAt (And.intro @p_putDigits (And.intro @p_putCount (And.intro @p_putFold @p_kput2))))))))
theorem env_set0 {ρ : Env0'} {o x : Option W} : (o :: ρ).set 0 x = x :: ρ := rfl
theorem env_setS {ρ : Env0'} {o x : Option W} {i : Nat} : (o :: ρ).set (i + 1) x = o :: ρ.set i x := rfl
def evE := And.intro (@List.set_cons_zero (Option W)) (And.intro (@List.set_cons_succ (Option W)) (@Option.map_some Cell D))
theorem pow18 : dBin .Pow (.int 10) (.int 18) = some (.int 1000000000000000000) := by kernel_rfl
theorem o_eqI {i j : Int} : dCmpD .Eq (.int i) (.int j) = some (.bl (decide (i = j))) := by
  show some (D.bl (i == j)) = _
  congr 2
theorem o_mulL {i j : Int} (h : (decide (-(2 ^ 64) < j) && decide (j < 2 ^ 64)) = true) : dBin .Mult (.int i) (.int j) = some (.int (i * j)) := dMul (.inr (by simpa using h))
theorem draw_b {G : Gam} {T : FnT} {S : Store} {n : Nat} {p : PenS} {c : Nat} {m : Int} (h : S[n]? = some p.cell) (hp : PenOk p (c + 1)) (hm : 0 < m) (hm2 : m < 1073741824) :
    ∃ r p', bd_draw G T [some (.cell n), some (.dat (.int m)), none, none, none] S = .rt (.dat (.int r)) (S.set n p'.cell) ∧ 0 ≤ r ∧ r < m ∧ PenOk p' c := by
  have hn : n < S.length := (List.getElem?_eq_some_iff.mp h).1
  obtain ⟨cells, at_, digits, count, fold⟩ := p
  obtain ⟨q1, q2, q3, q4, q5, q6⟩ := hp
  simp only at q1 q2 q3 q4 q5 q6
  have g : ∀ x, (S.set n x)[n]? = some x := fun x => set_get hn
  -- the end, from a pen that was looked after
  have fin : ∀ (o : Option W) (at2 : Nat) (dg2 fo2 : Int), at2 ≤ cells.length → 0 ≤ dg2 → 0 ≤ fo2 → fo2 < 2147483648 → ∃ r p', seqL [(sIte (tst (s2 (f2 (dCmpD .Gt)) (s2 (f2 dIx) (sVar 0) (sVal (.str ("digits" : Str)))) (sVal (.int 0)))) (seqL [(sAsg (s2 (f2 (dBin .Mod)) (sBi .int [(s2 (f2 dIx) (sVar 0) (sVal (.str ("digits" : Str))))]) (sVar 1)) (setI 3)), (sPut (s2 (f2 (dBin .FloorDiv)) (s2 (f2 dIx) (sVar 0) (sVal (.str ("digits" : Str)))) (sVar 1)) (sVar 0) (sVal (.str ("digits" : Str)))), (sRet (sVar 3))]) (seqL [])), (sAsg (s2 (f2 (dBin .Add)) (s2 (f2 (dBin .Add)) (s2 (f2 dIx) (sVar 0) (sVal (.str ("fold" : Str)))) (s2 (f2 (dBin .Mult)) (s2 (f2 dIx) (sVar 0) (sVal (.str ("count" : Str)))) (sVal (.int 8069)))) (sVal (.int 157))) (setI 4)), (sRet (s2 (f2 (dBin .Mod)) (s2 (f2 (dBin .FloorDiv)) (sBi .int [(s2 (f2 (dBin .Mod)) (s2 (f2 (dBin .Pow)) (sVar 4) (sVal (.int 17))) (sVal (.int 2305843009213693951)))]) (sVal (.int 128))) (sVar 1)))] [some (.cell n), some (.dat (.int m)), o, none, none] (S.set n (PenS.cell ⟨cells, at2, dg2, count + 1, fo2⟩)) = .rt (.dat (.int r)) (S.set n p'.cell) ∧ 0 ≤ r ∧ r < m ∧ PenOk p' c := by
    intro o at2 dg2 fo2 z1 z2 z3 z4
    by_cases hd : 0 < dg2
    · refine ⟨dg2 % m, ⟨cells, at2, dg2 / m, count + 1, fo2⟩, ?_, Int.emod_nonneg _ (by omega), Int.emod_lt_of_pos _ hm, ⟨z1, Int.ediv_nonneg z2 (by omega), by show 0 ≤ count + 1; omega, by show count + 1 + c ≤ _; push_cast at q4; omega, z3, z4⟩⟩
      simp only [ev, evp, evE, sVal_ok, g, dMod hm, dFdiv hm hm2, decide_eq_true hd, List.set_set]
    · have hb : (decide (-(2 ^ 64) < (8069 : Int)) && decide ((8069 : Int) < 2 ^ 64)) = true := by decide
      have hc : (fo2 + (count + 1) * 8069 + 157).natAbs < 2 ^ 64 := by push_cast at q4; omega
      refine ⟨(fo2 + (count + 1) * 8069 + 157) ^ 17 % 2305843009213693951 / 128 % m, ⟨cells, at2, dg2, count + 1, fo2⟩, ?_, Int.emod_nonneg _ (by omega), Int.emod_lt_of_pos _ hm, ⟨z1, z2, by show 0 ≤ count + 1; omega, by show count + 1 + c ≤ _; push_cast at q4; omega, z3, z4⟩⟩
      simp only [ev, evp, evE, sVal_ok, g, decide_eq_false hd, dAdd, o_mulL hb, dPow (i := fo2 + (count + 1) * 8069 + 157) (j := 17) (by decide) (by decide) hc, dMod (show (0 : Int) < 2305843009213693951 by decide), dFdiv (show (0 : Int) < 128 by decide) (show (128 : Int) < 1073741824 by decide), dMod hm]
      rfl
  unfold bd_draw
  by_cases hd : digits = 0
  · by_cases ha : at_ < cells.length
    · have hix : atI (cells.map D.int) (at_ : Int) = some (.int cells[at_]) := by
        rw [atI_nat (by rw [List.length_map]; exact ha), List.getElem?_map, List.getElem?_eq_getElem ha]
        rfl
      have hl : decide ((at_ : Int) < (List.map D.int cells).length) = true := by rw [List.length_map]; exact decide_eq_true (by omega)
      by_cases hz : (1000000000000000000 : Int) ≤ cells[at_]
      · obtain ⟨r, p', e1, e2⟩ := fin (some (.dat (.int cells[at_]))) (at_ + 1) (cells[at_] - 1000000000000000000) fold ha (by omega) q5 q6
        refine ⟨r, p', ?_, e2⟩
        rw [← e1]
        simp only [ev, evp, evE, sVal_ok, h, g, pow18, dAdd, dSub, o_eqI, hd, decide_true, hl, hix, decide_eq_true hz, List.set_set]
        rfl
      · have hb : (decide (-(2 ^ 64) < (70297 : Int)) && decide ((70297 : Int) < 2 ^ 64)) = true := by decide
        obtain ⟨r, p', e1, e2⟩ := fin (some (.dat (.int cells[at_]))) (at_ + 1) 0 ((fold * 70297 + cells[at_]) % 2147483029) ha (by omega) (Int.emod_nonneg _ (by decide)) (by have := Int.emod_lt_of_pos (fold * 70297 + cells[at_]) (show (0 : Int) < 2147483029 by decide); omega)
        refine ⟨r, p', ?_, e2⟩
        rw [← e1]
        simp only [ev, evp, evE, sVal_ok, h, g, pow18, dAdd, o_eqI, hd, decide_true, hl, hix, decide_eq_false hz, o_mulL hb, dMod (show (0 : Int) < 2147483029 by decide), List.set_set]
        rfl
    · obtain ⟨r, p', e1, e2⟩ := fin none at_ digits fold q1 q2 q5 q6
      have hl : decide ((at_ : Int) < (List.map D.int cells).length) = false := by rw [List.length_map]; exact decide_eq_false (by omega)
      refine ⟨r, p', ?_, e2⟩
      rw [← e1]
      simp only [ev, evp, evE, sVal_ok, h, g, dAdd, o_eqI, hd, decide_true, hl, List.set_set]
  · obtain ⟨r, p', e1, e2⟩ := fin none at_ digits fold q1 q2 q5 q6
    refine ⟨r, p', ?_, e2⟩
    rw [← e1]
    simp only [ev, evp, evE, sVal_ok, h, g, dAdd, o_eqI, decide_eq_false hd, List.set_set]
end EC
namespace EC
open PySem PySem.Spec PyProof.Rows L2
/-- what is asked of a turn's end -/
def Turn (P : SR → Prop) (N : Env0' → Store → Prop) : SR → Prop
  | .nx ρ S => N ρ S
  | .ct ρ S => N ρ S
  | .bk ρ S => P (.nx ρ S)
  | r => P r
section
variable {tgt : W → Env0' → Option Env0'} {b : Ss} {t : Sm Bool} {ds : List D} {P : SR → Prop} {I : Nat → Env0' → Store → Prop}
theorem forN_ind (hend : ∀ ρ S, I ds.length ρ S → P (.nx ρ S))
    (step : ∀ j (hj : j < ds.length) ρ S, I j ρ S → ∃ ρ1, tgt (.dat ds[j]) ρ = some ρ1 ∧ Turn P (I (j + 1)) (b ρ1 S)) :
    ∀ (f i : Nat) (ρ : Env0') (S : Store), i ≤ ds.length → ds.length < f + i → I i ρ S → P (forN (.fix ds) tgt b f i ρ S)
  | 0, i, ρ, S, h1, h2, h => by omega
  | f + 1, i, ρ, S, h1, h2, h => by
    show P (match ds[i]? with
      | none => .nx ρ S
      | some d => match tgt (.dat d) ρ with
        | none => .bad
        | some ρ1 => match b ρ1 S with
          | .nx ρ' S' => forN (.fix ds) tgt b f (i + 1) ρ' S'
          | .ct ρ' S' => forN (.fix ds) tgt b f (i + 1) ρ' S'
          | .bk ρ' S' => .nx ρ' S'
          | r => r)
    by_cases hi : i < ds.length
    · obtain ⟨ρ1, e1, tn⟩ := step i hi ρ S h
      rw [List.getElem?_eq_getElem hi]
      simp only [e1]
      cases hb : b ρ1 S with
      | nx ρ' S' => rw [hb] at tn; exact forN_ind hend step f (i + 1) ρ' S' hi (by omega) tn
      | ct ρ' S' => rw [hb] at tn; exact forN_ind hend step f (i + 1) ρ' S' hi (by omega) tn
      | bk ρ' S' => rw [hb] at tn; exact tn
      | rt w S' => rw [hb] at tn; exact tn
      | ex c fs ρ' S' => rw [hb] at tn; exact tn
      | bad => rw [hb] at tn; exact tn
    · have hi : i = ds.length := by omega
      rw [List.getElem?_eq_none (by omega)]
      exact hend ρ S (hi ▸ h)
/-- for t in ds: b -/
theorem for_ind {src : Sm Src} {ρ : Env0'} {S S1 : Store} (hs : src ρ S = .ok (.fix ds) S1) (h0 : I 0 ρ S1) (hend : ∀ ρ S, I ds.length ρ S → P (.nx ρ S))
    (step : ∀ j (hj : j < ds.length) ρ S, I j ρ S → ∃ ρ1, tgt (.dat ds[j]) ρ = some ρ1 ∧ Turn P (I (j + 1)) (b ρ1 S)) : P (sFor src tgt b ρ S) := by
  unfold sFor
  rw [hs]
  exact forN_ind hend step (ds.length + 1) 0 ρ S1 (Nat.zero_le _) (by omega) h0
/-- the same, the list a cell's, which stays -/
theorem forC_ind {n : Nat} (hc : ∀ i ρ S, I i ρ S → S[n]? = some (.lst ds)) (hend : ∀ ρ S, I ds.length ρ S → P (.nx ρ S))
    (step : ∀ j (hj : j < ds.length) ρ S, I j ρ S → ∃ ρ1, tgt (.dat ds[j]) ρ = some ρ1 ∧ Turn P (I (j + 1)) (b ρ1 S)) :
    ∀ (f i : Nat) (ρ : Env0') (S : Store), i ≤ ds.length → ds.length < f + i → I i ρ S → P (forN (.cel n) tgt b f i ρ S)
  | 0, i, ρ, S, h1, h2, h => by omega
  | f + 1, i, ρ, S, h1, h2, h => by
    have hn : (Src.cel n).now S = some ds := by show (match S[n]? with | some (.lst ds) => some ds | _ => none) = _; rw [hc i ρ S h]
    unfold forN
    rw [hn]
    by_cases hi : i < ds.length
    · obtain ⟨ρ1, e1, tn⟩ := step i hi ρ S h
      simp only [List.getElem?_eq_getElem hi, e1]
      cases hb : b ρ1 S with
      | nx ρ' S' => rw [hb] at tn; exact forC_ind hc hend step f (i + 1) ρ' S' hi (by omega) tn
      | ct ρ' S' => rw [hb] at tn; exact forC_ind hc hend step f (i + 1) ρ' S' hi (by omega) tn
      | bk ρ' S' => rw [hb] at tn; exact tn
      | rt w S' => rw [hb] at tn; exact tn
      | ex c fs ρ' S' => rw [hb] at tn; exact tn
      | bad => rw [hb] at tn; exact tn
    · have hi : i = ds.length := by omega
      simp only [List.getElem?_eq_none (show ds.length ≤ i by omega)]
      exact hend ρ S (hi ▸ h)
theorem whN_ind (step : ∀ m ρ S, I m ρ S → ∃ r S1, t ρ S = .ok r S1 ∧ (r = false → P (.nx ρ S1)) ∧ (r = true → Turn P (fun ρ' S' => ∃ m', m' < m ∧ I m' ρ' S') (b ρ S1))) :
    ∀ (f m : Nat) (ρ : Env0') (S : Store), m < f → I m ρ S → P (whN t b f ρ S)
  | 0, m, ρ, S, h1, h => by omega
  | f + 1, m, ρ, S, h1, h => by
    obtain ⟨r, S1, e1, h2, h3⟩ := step m ρ S h
    unfold whN
    rw [e1]
    cases r with
    | false => exact h2 rfl
    | true =>
      have tn := h3 rfl
      show P (match b ρ S1 with
        | .nx ρ' S' => whN t b f ρ' S'
        | .ct ρ' S' => whN t b f ρ' S'
        | .bk ρ' S' => .nx ρ' S'
        | r => r)
      cases hb : b ρ S1 with
      | nx ρ' S' => rw [hb] at tn; obtain ⟨m', hm, hi⟩ := tn; exact whN_ind step f m' ρ' S' (by omega) hi
      | ct ρ' S' => rw [hb] at tn; obtain ⟨m', hm, hi⟩ := tn; exact whN_ind step f m' ρ' S' (by omega) hi
      | bk ρ' S' => rw [hb] at tn; exact tn
      | rt w S' => rw [hb] at tn; exact tn
      | ex c fs ρ' S' => rw [hb] at tn; exact tn
      | bad => rw [hb] at tn; exact tn
theorem wh_ind {ρ : Env0'} {S : Store} {m : Nat} (h0 : I m ρ S) (hm : m < 1000000)
    (step : ∀ m ρ S, I m ρ S → ∃ r S1, t ρ S = .ok r S1 ∧ (r = false → P (.nx ρ S1)) ∧ (r = true → Turn P (fun ρ' S' => ∃ m', m' < m ∧ I m' ρ' S') (b ρ S1))) : P (sWhile t b ρ S) :=
  whN_ind step whFuel m ρ S hm h0
end
section
variable {tgt : W → Env0' → Option Env0'} {t : Sm Bool} {e : Sm W} {ds : List D} {ρ ρw : Env0'} {S : Store} {vs : List Nat} {bx : Bool}
theorem lcN_ind {I : Nat → List D → Store → Prop} {turn : D → List D → Store → Res (List D)} (step : ∀ j (hj : j < ds.length) acc S, I j acc S → ∃ acc' S', turn ds[j] acc S = .ok acc' S' ∧ I (j + 1) acc' S') :
    ∀ (f i : Nat) (acc : List D) (S : Store), i ≤ ds.length → ds.length < f + i → I i acc S → ∃ acc' S', lcN (.fix ds) turn f i acc S = .ok acc' S' ∧ I ds.length acc' S'
  | 0, i, acc, S, h1, h2, h => by omega
  | f + 1, i, acc, S, h1, h2, h => by
    by_cases hi : i < ds.length
    · obtain ⟨acc', S', e1, h'⟩ := step i hi acc S h
      obtain ⟨acc2, S2, e2, h2'⟩ := lcN_ind step f (i + 1) acc' S' hi (by omega) h'
      refine ⟨acc2, S2, ?_, h2'⟩
      show (match ds[i]? with
        | none => (Res.ok acc S : Res (List D))
        | some d => (turn d acc S).bind fun acc' S' => lcN (.fix ds) turn f (i + 1) acc' S') = _
      rw [List.getElem?_eq_getElem hi]
      simp only [e1, Res.bind_ok, e2]
    · have hi : i = ds.length := by omega
      refine ⟨acc, S, ?_, hi ▸ h⟩
      show (match ds[i]? with
        | none => (Res.ok acc S : Res (List D))
        | some d => (turn d acc S).bind fun acc' S' => lcN (.fix ds) turn f (i + 1) acc' S') = _
      rw [List.getElem?_eq_none (by omega)]
theorem lc_ind {I : Nat → List D → Store → Prop} {src : Sm Src} {S1 : Store} (hs : src ρ S = .ok (.fix ds) S1) (h0 : I 0 [] S1) (step : ∀ j (hj : j < ds.length) acc S, I j acc S → ∃ acc' S', lcT tgt t e (wipeE ρ vs) ds[j] acc S = .ok acc' S' ∧ I (j + 1) acc' S') :
    ∃ acc S', sLc src tgt t e vs bx ρ S = lcFin bx acc S' ∧ I ds.length acc S' := by
  obtain ⟨acc, S', e1, h⟩ := lcN_ind step (ds.length + 1) 0 [] S1 (Nat.zero_le _) (by omega) h0
  refine ⟨acc, S', ?_, h⟩
  unfold sLc
  rw [hs]
  show (lcN (.fix ds) (lcT tgt t e (wipeE ρ vs)) (ds.length + 1) 0 [] S1).bind _ = _
  rw [e1]
  rfl
theorem lcT_ok {d z : D} {acc : List D} {ρ1 : Env0'} {S2 : Store} (h1 : tgt (.dat d) ρw = some ρ1) (ht : t ρ1 (S ++ [.lst acc]) = .ok true (S ++ [.lst acc])) (he : e ρ1 (S ++ [.lst acc]) = .ok (.dat z) (S2 ++ [.lst acc])) (hS : S2.length = S.length) (hl : acc.length < sizeLine) : lcT tgt t e ρw d acc S = .ok (acc ++ [z]) S2 := by
  unfold lcT
  rw [h1]
  simp only [ht, Res.noEx, Res.bind_ok, if_true, he]
  rw [List.getElem?_append_right (Nat.le_of_eq hS)]
  simp only [hS, Nat.sub_self, List.getElem?_cons_zero, if_pos hl]
  rw [← hS, List.take_left]
theorem lcT_no {d : D} {acc : List D} {ρ1 : Env0'} (h1 : tgt (.dat d) ρw = some ρ1) (ht : t ρ1 (S ++ [.lst acc]) = .ok false (S ++ [.lst acc])) : lcT tgt t e ρw d acc S = .ok acc S := by
  unfold lcT
  rw [h1]
  simp only [ht, Res.noEx, Res.bind_ok]
  simp
/-- a comprehension that changes nothing -/
theorem lc_pure {src : Sm Src} (p : D → Bool) (g : D → D) (hs : src ρ S = .ok (.fix ds) S) (hl : ds.length < sizeLine)
    (h : ∀ d ∈ ds, ∃ ρ1, tgt (.dat d) (wipeE ρ vs) = some ρ1 ∧ ∀ acc : List D, t ρ1 (S ++ [.lst acc]) = .ok (p d) (S ++ [.lst acc]) ∧ (p d = true → e ρ1 (S ++ [.lst acc]) = .ok (.dat (g d)) (S ++ [.lst acc]))) :
    sLc src tgt t e vs bx ρ S = lcFin bx ((ds.filter p).map g) S := by
  obtain ⟨acc, S', e1, h1, h2⟩ := lc_ind (bx := bx) (vs := vs) (t := t) (e := e) (tgt := tgt) (I := fun j acc S' => S' = S ∧ acc = ((ds.take j).filter p).map g) hs ⟨rfl, by simp⟩ (fun j hj acc S' hI => by
    obtain ⟨rfl, rfl⟩ := hI
    obtain ⟨ρ1, k1, k2⟩ := h ds[j] (List.getElem_mem hj)
    have hlen : (((ds.take j).filter p).map g).length < sizeLine := by
      rw [List.length_map]
      exact Nat.lt_of_le_of_lt (Nat.le_trans (List.length_filter_le _ _) (by rw [List.length_take]; exact Nat.le_trans (Nat.min_le_right _ _) (Nat.le_refl _))) hl
    obtain ⟨k3, k4⟩ := k2 (((ds.take j).filter p).map g)
    have ht : ds.take (j + 1) = ds.take j ++ [ds[j]] := by rw [List.take_succ, List.getElem?_eq_getElem hj]; rfl
    cases hp : p ds[j] with
    | true => exact ⟨_, _, lcT_ok k1 (by rw [k3, hp]) (k4 hp) rfl hlen, rfl, by rw [ht, List.filter_append, List.map_append]; simp [hp]⟩
    | false => exact ⟨_, _, lcT_no k1 (by rw [k3, hp]), rfl, by rw [ht, List.filter_append, List.map_append]; simp [hp]⟩)
  subst h1 h2
  rw [e1, List.take_length]
/-- the same: [e for x in ds] -/
theorem lc_map {src : Sm Src} (g : D → D) (hs : src ρ S = .ok (.fix ds) S) (hl : ds.length < sizeLine)
    (h : ∀ d ∈ ds, ∃ ρ1, tgt (.dat d) (wipeE ρ vs) = some ρ1 ∧ ∀ acc : List D, e ρ1 (S ++ [.lst acc]) = .ok (.dat (g d)) (S ++ [.lst acc])) :
    sLc src tgt yes e vs bx ρ S = lcFin bx (ds.map g) S := by
  have := lc_pure (bx := bx) (t := yes) (fun _ => true) g hs hl (fun d hd => by
    obtain ⟨ρ1, h1, h2⟩ := h d hd
    exact ⟨ρ1, h1, fun acc => ⟨rfl, fun _ => h2 acc⟩⟩)
  rw [this, List.filter_eq_self.mpr (fun _ _ => rfl)]
end
theorem lcFin_f {acc : List D} {S : Store} : lcFin false acc S = .ok (.dat (.lst acc)) S := rfl
theorem lcFin_t {acc : List D} {S : Store} : lcFin true acc S = .ok (.cell S.length) (S ++ [.lst acc]) := rfl
theorem setI_e {i : Nat} {w : W} {ρ : Env0'} : setI i w ρ = some (ρ.set i (some w)) := rfl
end EC
namespace EC
open PySem PySem.Spec PyProof.Rows L2
theorem sq_cons {ρ : Env0'} {S : Store} {a : Ss} {r : List Ss} : seqL (a :: r) ρ S = (a ρ S).andThen (seqL r) := by cases S <;> rfl
theorem an_nx {ρ : Env0'} {S : Store} {f : Ss} : (SR.nx ρ S).andThen f = f ρ S := by cases S <;> rfl
theorem endF_nx {G : Gam} {rb : Bool} {n : Nat} {ρ : Env0'} {S : Store} : endF G rb n (.nx ρ S) = .ok (.dat .non) (S.take n) := rfl
theorem endF_rt {G : Gam} {rb : Bool} {n : Nat} {d : D} {S : Store} : endF G rb n (.rt (.dat d) S) = .ok (.dat d) (S.take n) := rfl
theorem endF_ex {G : Gam} {rb : Bool} {n : Nat} {x : Str} {fs : List D} {ρ : Env0'} {S : Store} : endF G rb n (.ex x fs ρ S) = .ex x fs (S.take n) := rfl
theorem endF_lst {G : Gam} {n m : Nat} {ds : List D} {S : Store} (hm : n ≤ m) (h : S[m]? = some (.lst ds)) : endF G false n (.rt (.cell m) S) = .ok (.dat (.lst ds)) (S.take n) := by
  show leave G false n (.cell m) S = _
  unfold leave
  simp only [if_neg (Nat.not_lt.mpr hm), h]
  rfl
theorem take_set {S : Store} {n : Nat} {c : Cell} : (S.set n c).take S.length = S.set n c := List.take_of_length_le (by simp)
theorem take_all {S : Store} : S.take S.length = S := List.take_length
theorem take_app {S L : Store} : (S ++ L).take S.length = S := List.take_left
theorem take_setapp {S L : Store} {n : Nat} {c : Cell} : (S.set n c ++ L).take S.length = S.set n c := by
  have := List.take_left (l₁ := S.set n c) (l₂ := L)
  rwa [List.length_set] at this
theorem dMt_app {S : Store} {m : Nat} {ds : List D} {d : D} (h : S[m]? = some (.lst ds)) (hl : ds.length < sizeLine) : dMt .append (.cell m) [.dat d] S = .ok (.dat .non) (S.set m (.lst (ds ++ [d]))) := by
  have hd : derefW S (.cell m) = some (.lst ds) := by show (S[m]?).map Cell.frz = _; rw [h]; rfl
  unfold dMt
  rw [hd]
  show (if ds.length < sizeLine then (Res.ok (.dat .non) (S.set m (.lst (ds ++ [d]))) : Res W) else .bad) = _
  rw [if_pos hl]
theorem dMt_popAt {S : Store} {m : Nat} {ds : List D} {i : Int} {j : Nat} (h : S[m]? = some (.lst ds)) (hi : i = j) (hj : j < ds.length) (hz : ds.length < sizeLine) : dMt .pop (.cell m) [.dat (.int i)] S = .ok (.dat ds[j]) (S.set m (.lst (ds.eraseIdx j))) := by
  have hd : derefW S (.cell m) = some (.lst ds) := by show (S[m]?).map Cell.frz = _; rw [h]; rfl
  rw [sizeLine_eq] at hz
  have h1 : -(2 ^ 63) ≤ i ∧ i < 2 ^ 63 := by subst hi; omega
  have h2 : seqIndex? i ds.length = some j := by
    subst hi
    unfold seqIndex?
    have e0 : (if (j : Int) < 0 then (j : Int) + (ds.length : Int) else (j : Int)) = j := if_neg (by omega)
    simp only [e0]
    have : (decide (0 ≤ (j : Int)) && decide ((j : Int) < (ds.length : Int))) = true := by
      rw [Bool.and_eq_true, decide_eq_true_eq, decide_eq_true_eq]; omega
    rw [if_pos this, Int.toNat_natCast]
  unfold dMt
  rw [hd]
  show (if -(2 ^ 63) ≤ i ∧ i < 2 ^ 63 then match seqIndex? i ds.length with
      | some j => match ds[j]? with
        | some d => (Res.ok (.dat d) (S.set m (.lst (ds.eraseIdx j))) : Res W)
        | none => .bad
      | none => .bad
      else .bad) = _
  rw [if_pos h1, h2]
  simp only [List.getElem?_eq_getElem hj]
theorem dMt_split {S : Store} {a z : Str} {w : W} (h : derefW S w = some (.str a)) (hz : (z.length == 0) = false) (ha : a.length + 2 ≤ sizeLine) : dMt .split w [.dat (.str z)] S = .ok (.dat (.lst ((Txt.split a z).map .str))) S := by
  unfold dMt
  rw [h]
  show (if (z.length == 0) = false ∧ a.length + 2 ≤ sizeLine then (Res.ok (.dat (.lst ((Txt.split a z).map .str))) S : Res W) else .bad) = _
  rw [if_pos ⟨hz, ha⟩]
def Draws (T : FnT) : Prop := ∀ (S : Store) (n : Nat) (p : PenS) (c : Nat) (m : Int), S[n]? = some p.cell → PenOk p (c + 1) → 0 < m → m < 1073741824 →
  ∃ r p', T ("_law_draw" : Str) [.cell n, .dat (.int m)] S = .ok (.dat (.int r)) (S.set n p'.cell) ∧ 0 ≤ r ∧ r < m ∧ PenOk p' c
theorem draws_of {G : Gam} {R : Nat → FnT} (h : ∀ k w0 w1 S, noPair [w0, w1] = true → R (k + 1) ("_law_draw" : Str) [w0, w1] S = endF G false S.length (bd_draw G (R k) [some w0, some w1, none, none, none] S)) (k : Nat) : Draws (R (k + 1)) := by
  intro S n p c m h1 h2 h3 h4
  obtain ⟨r, p', e1, e2⟩ := draw_b (G := G) (T := R k) h1 h2 h3 h4
  exact ⟨r, p', by rw [h _ _ _ _ rfl, e1, endF_rt, take_set], e2⟩
def Picks (T : FnT) : Prop := ∀ (S : Store) (n : Nat) (p : PenS) (c : Nat) (ds : List D), S[n]? = some p.cell → PenOk p (c + 1) → ds ≠ [] → ds.length < 1073741824 →
  ∃ d p', T ("_law_pick" : Str) [.cell n, .dat (.lst ds)] S = .ok (.dat d) (S.set n p'.cell) ∧ d ∈ ds ∧ PenOk p' c
theorem picks_of {G : Gam} {R : Nat → FnT} (h : ∀ k w0 w1 S, noPair [w0, w1] = true → R (k + 1) ("_law_pick" : Str) [w0, w1] S = endF G false S.length (bd_pick G (R k) [some w0, some w1] S)) (k : Nat) (hd : Draws (R k)) : Picks (R (k + 1)) := by
  intro S n p c ds h1 h2 h3 h4
  have hl : 0 < ds.length := List.length_pos_iff.mpr h3
  obtain ⟨r, p', e1, e2, e3, e4⟩ := hd S n p c ds.length h1 h2 (by omega) (by omega)
  obtain ⟨j, rfl⟩ : ∃ j : Nat, r = j := ⟨r.toNat, by omega⟩
  have hj : j < ds.length := by omega
  refine ⟨ds[j], p', ?_, List.getElem_mem hj, e4⟩
  rw [h _ _ _ _ rfl]
  unfold bd_pick
  simp only [ev, e1, atI_nat hj, List.getElem?_eq_getElem hj, endF_rt, take_set]
def bd_shuffled (G : Gam) (T : FnT) : Ss := (seqL [(sTT (evl [(sBiB true [(sVar 1)]), (sLst true [])]) (setIs [2, 3])), (sFor (sRng1 (evl [(sBi .len [(sVar 1)])])) (setI 4) (seqL [(sExpr (sMeth G T ("append" : Str) (sVar 3) (evl [(sMeth G T ("pop" : Str) (sVar 2) (evl [(sFnL T ("_law_draw" : Str) [(sVar 0), (sBi .len [(sVar 2)])])]))])))])), (sRet (sVar 3))])
def Shuffles (T : FnT) : Prop := ∀ (S : Store) (n : Nat) (p : PenS) (c : Nat) (ds : List D), S[n]? = some p.cell → PenOk p (c + ds.length) → ds.length < 1000000 →
  ∃ es p', T ("_law_shuffled" : Str) [.cell n, .dat (.lst ds)] S = .ok (.dat (.lst es)) (S.set n p'.cell) ∧ es.Perm ds ∧ PenOk p' c
theorem fits_of {n : Nat} (h : n ≤ 16777216) : fits n = true := by unfold fits; rw [sizeLine_eq]; exact decide_eq_true h
theorem fits_0 : fits 0 = true := fits_of (by omega)
theorem fits_1 : fits 1 = true := fits_of (by omega)
theorem fits_2 : fits 2 = true := fits_of (by omega)
theorem fits_3 : fits 3 = true := fits_of (by omega)
theorem fits_4 : fits 4 = true := fits_of (by omega)
theorem fits_5 : fits 5 = true := fits_of (by omega)
theorem fitsl_0 {α : Type} : fits ([] : List α).length = true := fits_of (by simp)
theorem fitsl_1 {α : Type} {a : α} : fits ([a] : List α).length = true := fits_of (by simp)
theorem fitsl_2 {α : Type} {a b : α} : fits ([a, b] : List α).length = true := fits_of (by simp)
theorem fitsl_3 {α : Type} {a b c : α} : fits ([a, b, c] : List α).length = true := fits_of (by simp)
theorem fitsl_4 {α : Type} {a b c d : α} : fits ([a, b, c, d] : List α).length = true := fits_of (by simp)
theorem fitsl_5 {α : Type} {a b c d e : α} : fits ([a, b, c, d, e] : List α).length = true := fits_of (by simp)
theorem fitsl_6 {α : Type} {a b c d e f : α} : fits ([a, b, c, d, e, f] : List α).length = true := fits_of (by simp)
theorem fitsl_7 {α : Type} {a b c d e f g : α} : fits ([a, b, c, d, e, f, g] : List α).length = true := fits_of (by simp)
theorem fitsl_8 {α : Type} {a b c d e f g h : α} : fits ([a, b, c, d, e, f, g, h] : List α).length = true := fits_of (by simp)
theorem fitsl_9 {α : Type} {a b c d e f g h i : α} : fits ([a, b, c, d, e, f, g, h, i] : List α).length = true := fits_of (by simp)
theorem fitsl_10 {α : Type} {a b c d e f g h i j : α} : fits ([a, b, c, d, e, f, g, h, i, j] : List α).length = true := fits_of (by simp)
theorem fitsl_11 {α : Type} {a b c d e f g h i j k : α} : fits ([a, b, c, d, e, f, g, h, i, j, k] : List α).length = true := fits_of (by simp)
theorem fitsl_12 {α : Type} {a b c d e f g h i j k l : α} : fits ([a, b, c, d, e, f, g, h, i, j, k, l] : List α).length = true := fits_of (by simp)
theorem fitsl_13 {α : Type} {a b c d e f g h i j k l m : α} : fits ([a, b, c, d, e, f, g, h, i, j, k, l, m] : List α).length = true := fits_of (by simp)
theorem fitsl_14 {α : Type} {a b c d e f g h i j k l m n : α} : fits ([a, b, c, d, e, f, g, h, i, j, k, l, m, n] : List α).length = true := fits_of (by simp)
theorem fitsl_15 {α : Type} {a b c d e f g h i j k l m n o : α} : fits ([a, b, c, d, e, f, g, h, i, j, k, l, m, n, o] : List α).length = true := fits_of (by simp)
theorem fitsl_16 {α : Type} {a b c d e f g h i j k l m n o p : α} : fits ([a, b, c, d, e, f, g, h, i, j, k, l, m, n, o, p] : List α).length = true := fits_of (by simp)
theorem fitsl_17 {α : Type} {a b c d e f g h i j k l m n o p q : α} : fits ([a, b, c, d, e, f, g, h, i, j, k, l, m, n, o, p, q] : List α).length = true := fits_of (by simp)
def evF := And.intro (@fitsl_0 D) (And.intro (@fitsl_1 D) (And.intro (@fitsl_2 D) (And.intro (@fitsl_3 D) (And.intro (@fitsl_4 D) (And.intro (@fitsl_5 D) (And.intro (@fitsl_6 D) (And.intro (@fitsl_7 D) (And.intro (@fitsl_8 D) (And.intro (@fitsl_9 D) (And.intro (@fitsl_10 D) (And.intro (@fitsl_11 D) (And.intro (@fitsl_12 D) (And.intro (@fitsl_13 D) (And.intro (@fitsl_14 D) (And.intro (@fitsl_15 D) (And.intro (@fitsl_16 D) (And.intro (@fitsl_17 D) (And.intro (@fitsl_0 W) (And.intro (@fitsl_1 W) (And.intro (@fitsl_2 W) (And.intro (@fitsl_3 W) (And.intro (@fitsl_4 W) (And.intro (@fitsl_5 W) (And.intro (@fitsl_6 W) (And.intro (@fitsl_7 W) (And.intro (@fitsl_8 W) (And.intro (@fitsl_9 W) (And.intro (@fitsl_10 W) (And.intro (@fitsl_11 W) (And.intro (@fitsl_12 W) (And.intro (@fitsl_13 W) (And.intro (@fitsl_14 W) (And.intro (@fitsl_15 W) (And.intro (@fitsl_16 W) (@fitsl_17 W)))))))))))))))))))))))))))))))))))
theorem rng1_int {S : Store} {j : Int} (h : -(2 ^ 62) ≤ j ∧ j < 2 ^ 62) : rngOf1 [.dat (.int j)] S = .ok (.fix (rngD 0 j.toNat)) S := if_pos h
theorem rng1_nat {S : Store} {j : Nat} (hj : j < 1000000000) : rngOf1 [.dat (.int j)] S = .ok (.fix (rngD 0 j)) S := by
  have h1 : -(2 ^ 62) ≤ (j : Int) := by omega
  have h2 : (j : Int) < 2 ^ 62 := by omega
  rw [rng1_int ⟨h1, h2⟩, Int.toNat_natCast]
theorem sRng1_ok {c : Sm (List W)} {ρ : Env0'} {S S1 : Store} {j : Nat} (h : c ρ S = .ok [.dat (.int j)] S1) (hj : j < 1000000000) : sRng1 c ρ S = .ok (.fix (rngD 0 j)) S1 := by
  unfold sRng1
  rw [h, Res.bind_ok, rng1_nat hj]
theorem rngD_length {lo : Int} {n : Nat} : (rngD lo n).length = n := by unfold rngD; simp
theorem getElem_rngD {n i : Nat} (h : i < (rngD 0 n).length) : (rngD 0 n)[i] = .int i := by unfold rngD; simp
theorem app_get0 {S : Store} {L : Store} {i : Nat} {c : Cell} (h : L[i]? = some c) : (S ++ L)[S.length + i]? = some c := by
  rw [List.getElem?_append_right (by omega)]; simpa using h
theorem app_set0 {S : Store} {L : Store} {i : Nat} {c : Cell} : (S ++ L).set (S.length + i) c = S ++ L.set i c := by
  rw [List.set_append_right _ _ (by omega)]; simp
theorem app_setL {S : Store} {L : Store} {n : Nat} {c : Cell} (h : n < S.length) : (S ++ L).set n c = S.set n c ++ L := List.set_append_left _ _ h
theorem app_getL {S : Store} {L : Store} {n : Nat} (h : n < S.length) : (S ++ L)[n]? = S[n]? := List.getElem?_append_left h
theorem perm_eraseIdx {α : Type} {l : List α} {j : Nat} (h : j < l.length) : (l[j] :: l.eraseIdx j).Perm l := by
  induction l generalizing j with
  | nil => cases h
  | cons x l ih =>
    cases j with
    | zero => exact List.Perm.refl _
    | succ j =>
      simp only [List.getElem_cons_succ, List.eraseIdx_cons_succ]
      exact (List.Perm.swap _ _ _).trans (List.Perm.cons x (ih (by simpa using h)))
theorem shuffles_of {G : Gam} {R : Nat → FnT} (h : ∀ k w0 w1 S, noPair [w0, w1] = true → R (k + 1) ("_law_shuffled" : Str) [w0, w1] S = endF G false S.length (bd_shuffled G (R k) [some w0, some w1, none, none, none] S)) (k : Nat) (hd : Draws (R k)) : Shuffles (R (k + 1)) := by
  intro S n p c ds h1 h2 h3
  have hn : n < S.length := (List.getElem?_eq_some_iff.mp h1).1
  rw [h _ _ _ _ rfl]
  unfold bd_shuffled
  have e0 : (sTT (evl [(sBiB true [(sVar 1)]), (sLst true [])]) (setIs [2, 3])) [some (.cell n), some (.dat (.lst ds)), none, none, none] S = .nx [some (.cell n), some (.dat (.lst ds)), some (.cell S.length), some (.cell (S.length + 1)), none] (S ++ [.lst ds, .lst []]) := by
    simp only [ev, evE, fBiB, if_true, e_klstB (ds := []) fits_0]
    simp
  rw [sq_cons, e0, an_nx, sq_cons]
  have key : ∃ es p' x, (sFor (sRng1 (evl [(sBi .len [(sVar 1)])])) (setI 4) (seqL [(sExpr (sMeth G (R k) ("append" : Str) (sVar 3) (evl [(sMeth G (R k) ("pop" : Str) (sVar 2) (evl [(sFnL (R k) ("_law_draw" : Str) [(sVar 0), (sBi .len [(sVar 2)])])]))])))])) [some (.cell n), some (.dat (.lst ds)), some (.cell S.length), some (.cell (S.length + 1)), none] (S ++ [.lst ds, .lst []]) = .nx [some (.cell n), some (.dat (.lst ds)), some (.cell S.length), some (.cell (S.length + 1)), x] (S.set n p'.cell ++ [.lst [], .lst es]) ∧ es.Perm ds ∧ PenOk p' c := by
    refine for_ind (ds := rngD 0 ds.length) (I := fun j ρ S' => ∃ x q left found, ρ = [some (.cell n), some (.dat (.lst ds)), some (.cell S.length), some (.cell (S.length + 1)), x] ∧ S' = S.set n (PenS.cell q) ++ [.lst left, .lst found] ∧ PenOk q (c + (ds.length - j)) ∧ left.length = ds.length - j ∧ (found ++ left).Perm ds)
      (P := fun r => ∃ es p' x, r = .nx [some (.cell n), some (.dat (.lst ds)), some (.cell S.length), some (.cell (S.length + 1)), x] (S.set n (PenS.cell p') ++ [.lst [], .lst es]) ∧ es.Perm ds ∧ PenOk p' c)
      (S1 := S ++ [.lst ds, .lst []]) (sRng1_ok (j := ds.length) ?_ (by omega)) ⟨none, p, ds, [], rfl, ?_, h2, rfl, List.Perm.refl _⟩ ?_ ?_
    · simp only [ev]
    · rw [(List.getElem?_eq_some_iff.mp h1).2.symm, List.set_getElem_self]
    · rintro ρ S' ⟨x, q, left, found, rfl, rfl, q1, q2, q3⟩
      rw [rngD_length] at q1 q2
      have hl : left = [] := List.length_eq_zero_iff.mp (by omega)
      subst hl
      exact ⟨found, q, x, rfl, by simpa using q3, q1.less (by omega)⟩
    · rintro j hj ρ S' ⟨x, q, left, found, rfl, rfl, q1, q2, q3⟩
      rw [rngD_length] at hj
      refine ⟨_, rfl, ?_⟩
      have hln : n < (S.set n q.cell).length := by rw [List.length_set]; exact hn
      have g1 : (S.set n q.cell ++ [.lst left, .lst found])[n]? = some q.cell := by rw [app_getL hln]; exact set_get hn
      have hz : left.length ≤ ds.length := by omega
      obtain ⟨r, p', e1, e2, e3, e4⟩ := hd _ n q (c + (ds.length - (j + 1))) left.length g1 (q1.less (by omega)) (by omega) (by omega)
      obtain ⟨i, rfl⟩ : ∃ i : Nat, r = i := ⟨r.toNat, by omega⟩
      have hi : i < left.length := by omega
      rw [app_setL hln, List.set_set] at e1
      have lS : (S.set n p'.cell).length = S.length := List.length_set
      have g2 : (S.set n q.cell ++ [Cell.lst left, Cell.lst found])[S.length]? = some (Cell.lst left) := by
        have := app_get0 (S := S.set n q.cell) (L := [Cell.lst left, Cell.lst found]) (i := 0) rfl
        rwa [List.length_set] at this
      have g3 : (S.set n p'.cell ++ [Cell.lst left, Cell.lst found])[S.length]? = some (Cell.lst left) := by
        have := app_get0 (S := S.set n p'.cell) (L := [Cell.lst left, Cell.lst found]) (i := 0) rfl
        rwa [lS] at this
      have g4 : (S.set n p'.cell ++ [Cell.lst left, Cell.lst found]).set S.length (Cell.lst (left.eraseIdx i)) = S.set n p'.cell ++ [Cell.lst (left.eraseIdx i), Cell.lst found] := by
        have := app_set0 (S := S.set n p'.cell) (L := [Cell.lst left, Cell.lst found]) (i := 0) (c := Cell.lst (left.eraseIdx i))
        rw [lS] at this
        exact this
      have g5 : (S.set n p'.cell ++ [Cell.lst (left.eraseIdx i), Cell.lst found])[S.length + 1]? = some (Cell.lst found) := by
        have := app_get0 (S := S.set n p'.cell) (L := [Cell.lst (left.eraseIdx i), Cell.lst found]) (i := 1) rfl
        rwa [lS] at this
      have g6 : (S.set n p'.cell ++ [Cell.lst (left.eraseIdx i), Cell.lst found]).set (S.length + 1) (Cell.lst (found ++ [left[i]])) = S.set n p'.cell ++ [Cell.lst (left.eraseIdx i), Cell.lst (found ++ [left[i]])] := by
        have := app_set0 (S := S.set n p'.cell) (L := [Cell.lst (left.eraseIdx i), Cell.lst found]) (i := 1) (c := Cell.lst (found ++ [left[i]]))
        rw [lS] at this
        exact this
      have g7 : (S.set n q.cell ++ [Cell.lst left, Cell.lst found])[S.length + 1]? = some (Cell.lst found) := by
        have := app_get0 (S := S.set n q.cell) (L := [Cell.lst left, Cell.lst found]) (i := 1) rfl
        rwa [List.length_set] at this
      have hfl : found.length ≤ ds.length := by have := q3.length_eq; rw [List.length_append] at this; omega
      simp only [ev, evE, e1, g2, g7, dMt_popAt g3 rfl hi (by rw [sizeLine_eq]; omega), g4, dMt_app (d := left[i]) g5 (by rw [sizeLine_eq]; omega), g6, Turn]
      refine ⟨_, p', left.eraseIdx i, found ++ [left[i]], rfl, rfl, e4, by rw [List.length_eraseIdx, if_pos hi]; omega, ?_⟩
      refine List.Perm.trans ?_ q3
      rw [List.append_assoc]
      exact List.Perm.append_left _ (perm_eraseIdx hi)
  obtain ⟨es, p', x, e1, e2, e3⟩ := key
  refine ⟨es, p', ?_, e2, e3⟩
  rw [e1, an_nx]
  simp only [ev]
  have lS : (S.set n p'.cell).length = S.length := List.length_set
  have g : (S.set n p'.cell ++ [.lst [], .lst es])[S.length + 1]? = some (.lst es) := by
    have := app_get0 (S := S.set n p'.cell) (L := [Cell.lst [], Cell.lst es]) (i := 1) rfl
    rwa [lS] at this
  rw [endF_lst (Nat.le_succ _) g, take_setapp]
end EC
namespace EC
open PySem PySem.Spec PyProof.Rows L2
abbrev mkS (w : List Nat) : Str := ⟨w.toArray⟩
theorem mkS_of (z : Str) : mkS z.cps.toList = z := by cases z; rfl
theorem mkS_app (a b : List Nat) : mkS a ++ mkS b = mkS (a ++ b) := by
  show Str.append _ _ = _
  unfold Str.append
  simp
theorem mkS_length (a : List Nat) : (mkS a).length = a.length := by show (a.toArray).size = _; simp
theorem mkS_list (a : List Nat) : (mkS a).cps.toList = a := rfl
theorem mkS_inj {a b : List Nat} (h : mkS a = mkS b) : a = b := by
  have := congrArg (fun z : Str => z.cps.toList) h
  exact this
theorem cut_hi {w : List Nat} {k : Nat} (h : k ≤ w.length) : cutS (mkS w) none (some (k : Int)) = mkS (w.take k) := by
  unfold cutS
  rw [HT.sIx_none, HT.sIx_nat, mkS_length, Nat.min_eq_left h, Nat.sub_zero]
  rfl
theorem cut_lo {w : List Nat} {k : Nat} (h : k ≤ w.length) : cutS (mkS w) (some (k : Int)) none = mkS (w.drop k) := by
  unfold cutS
  rw [HT.sIx_none, HT.sIx_nat, mkS_length, Nat.min_eq_left h, List.take_of_length_le]
  show (w.drop k).length ≤ _
  rw [List.length_drop]
  exact Nat.le_refl _
theorem cut_lh {w : List Nat} {a b : Nat} (h : a ≤ w.length) : cutS (mkS w) (some (a : Int)) (some (b : Int)) = mkS ((w.drop a).take (b - a)) := by
  unfold cutS
  rw [HT.sIx_nat, HT.sIx_nat, mkS_length, Nat.min_eq_left h]
  show mkS ((w.drop a).take (min b w.length - a)) = _
  by_cases hb : b ≤ w.length
  · rw [Nat.min_eq_left hb]
  · rw [Nat.min_eq_right (by omega), List.take_of_length_le (by rw [List.length_drop]; exact Nat.le_refl _), List.take_of_length_le (by rw [List.length_drop]; omega)]
theorem LET_list : ("abcdefghijklmnopqrstuvwxyz" : Str).cps.toList = List.range' 97 26 := by decide +kernel
theorem LET_len : ("abcdefghijklmnopqrstuvwxyz" : Str).length = 26 := by decide +kernel
theorem range'_get : ∀ r : Fin 26, (List.range' 97 26)[r.1]? = some (97 + r.1) := by decide
theorem ix_let {r : Nat} (h : r < 26) : dIx (.str ("abcdefghijklmnopqrstuvwxyz" : Str)) (.int r) = some (.str (mkS [97 + r])) := by
  show (if fits ("abcdefghijklmnopqrstuvwxyz" : Str).length then (atI ("abcdefghijklmnopqrstuvwxyz" : Str).cps.toList (r : Int)).map fun c => D.str ⟨#[c]⟩ else none) = _
  rw [LET_len, if_pos (fits_of (by omega)), LET_list, atI_nat (by simpa using h), range'_get ⟨r, h⟩]
  rfl
/-- the figures of a number -/
def figs (i : Nat) : List Nat := (toString (i : Int) : Str).cps.toList
theorem figs_100 : ∀ i : Fin 100, 1 ≤ (figs i.1).length ∧ (figs i.1).length ≤ 2 ∧ ∀ c ∈ figs i.1, 48 ≤ c ∧ c ≤ 57 := by decide +kernel
theorem figs_inj : ∀ i j : Fin 100, figs i.1 = figs j.1 → i = j := by decide +kernel
theorem str_int {i : Nat} (h : i < 100) : dBi .str [.int i] = some (.str (mkS (figs i))) := by
  show (if decide ((i : Int).natAbs.log2 < 1920) then some (D.str (toString (i : Int))) else none) = _
  have : (i : Int).natAbs.log2 < 1920 := by
    rw [Int.natAbs_natCast]
    by_cases hi : i = 0
    · subst hi; decide
    · rw [Nat.log2_lt hi]
      exact Nat.lt_of_lt_of_le h (Nat.le_trans (by decide : 100 ≤ 2 ^ 7) (Nat.pow_le_pow_right (by decide) (by decide)))
  rw [if_pos (decide_eq_true this)]
  unfold figs
  rw [mkS_of]
/-- a drawn name with the figures of i -/
structure Named (i : Nat) (z : Str) : Prop where
  ex : ∃ (w : List Nat) (pl : Nat), z = mkS (w.take pl ++ figs i ++ w.drop pl) ∧ (∀ c ∈ w, 97 ≤ c ∧ c ≤ 122) ∧ 1 ≤ w.length ∧ w.length ≤ 8 ∧ 1 ≤ pl ∧ pl ≤ w.length
def bd_name (G : Gam) (T : FnT) : Ss := (seqL [(sAsg (sVal (.str ("" : Str))) (setI 2)), (sFor (sRng1 (evl [(s2 (f2 (dBin .Add)) (sVal (.int 1)) (sFnL T ("_law_draw" : Str) [(sVar 0), (sVal (.int 8))]))])) (setI 3) (seqL [(sAsg (s2 (f2 (dBin .Add)) (sVar 2) (s2 (f2 dIx) (sVal (.str ("abcdefghijklmnopqrstuvwxyz" : Str))) (sFnL T ("_law_draw" : Str) [(sVar 0), (sVal (.int 26))]))) (setI 2))])), (sAsg (s2 (f2 (dBin .Add)) (sVal (.int 1)) (sFnL T ("_law_draw" : Str) [(sVar 0), (sBi .len [(sVar 2)])])) (setI 4)), (sRet (s2 (f2 (dBin .Add)) (s2 (f2 (dBin .Add)) (sSl (sVar 2) none (some (sVar 4))) (sBi .str [(sVar 1)])) (sSl (sVar 2) (some (sVar 4)) none)))])
def bd_names (G : Gam) (T : FnT) : Ss := (seqL [(sRet (sFnL T ("_law_shuffled" : Str) [(sVar 0), (sLc (sRng1 (evl [(sVar 1)])) (setI 2) yes (sFnL T ("_law_name" : Str) [(sVar 0), (sVar 2)]) [2] false)]))])
def Names1 (T : FnT) : Prop := ∀ (S : Store) (n : Nat) (p : PenS) (c i : Nat), S[n]? = some p.cell → PenOk p (c + 10) → i < 100 →
  ∃ z p', T ("_law_name" : Str) [.cell n, .dat (.int i)] S = .ok (.dat (.str z)) (S.set n p'.cell) ∧ Named i z ∧ PenOk p' c
theorem empty_str : ("" : Str) = mkS [] := by decide +kernel
theorem fitS {a b : List Nat} (h : a.length + b.length ≤ 16777216) : fits ((mkS a).length + (mkS b).length) = true := by rw [mkS_length, mkS_length]; exact fits_of h
theorem fitS1 {a : List Nat} (h : a.length ≤ 16777216) : fits (mkS a).length = true := by rw [mkS_length]; exact fits_of h
theorem names1_of {G : Gam} {R : Nat → FnT} (h : ∀ k w0 w1 S, noPair [w0, w1] = true → R (k + 1) ("_law_name" : Str) [w0, w1] S = endF G false S.length (bd_name G (R k) [some w0, some w1, none, none, none] S)) (k : Nat) (hd : Draws (R k)) : Names1 (R (k + 1)) := by
  intro S n p c i h1 h2 h3
  have hn : n < S.length := (List.getElem?_eq_some_iff.mp h1).1
  have g : ∀ x, (S.set n x)[n]? = some x := fun x => set_get hn
  obtain ⟨r, p1, e1, e2, e3, e4⟩ := hd S n p (c + 9) 8 h1 h2 (by decide) (by decide)
  obtain ⟨m, rfl⟩ : ∃ m : Nat, r = m := ⟨r.toNat, by omega⟩
  have hm : m < 8 := by omega
  have key : ∃ w p' x, (sFor (sRng1 (evl [(s2 (f2 (dBin .Add)) (sVal (.int 1)) (sFnL (R k) ("_law_draw" : Str) [(sVar 0), (sVal (.int 8))]))])) (setI 3) (seqL [(sAsg (s2 (f2 (dBin .Add)) (sVar 2) (s2 (f2 dIx) (sVal (.str ("abcdefghijklmnopqrstuvwxyz" : Str))) (sFnL (R k) ("_law_draw" : Str) [(sVar 0), (sVal (.int 26))]))) (setI 2))])) [some (.cell n), some (.dat (.int i)), some (.dat (.str (mkS []))), none, none] S
      = .nx [some (.cell n), some (.dat (.int i)), some (.dat (.str (mkS w))), x, none] (S.set n p'.cell) ∧ (∀ c ∈ w, 97 ≤ c ∧ c ≤ 122) ∧ w.length = 1 + m ∧ PenOk p' (c + 1) := by
    refine for_ind (ds := rngD 0 (1 + m)) (I := fun j ρ S' => ∃ x q w, ρ = [some (.cell n), some (.dat (.int i)), some (.dat (.str (mkS w))), x, none] ∧ S' = S.set n (PenS.cell q) ∧ PenOk q (c + 1 + (1 + m - j)) ∧ w.length = j ∧ ∀ c ∈ w, 97 ≤ c ∧ c ≤ 122)
      (P := fun r => ∃ w p' x, r = .nx [some (.cell n), some (.dat (.int i)), some (.dat (.str (mkS w))), x, none] (S.set n (PenS.cell p')) ∧ (∀ c ∈ w, 97 ≤ c ∧ c ≤ 122) ∧ w.length = 1 + m ∧ PenOk p' (c + 1))
      (S1 := S.set n p1.cell) (sRng1_ok (j := 1 + m) ?_ (by omega)) ⟨none, p1, [], rfl, rfl, e4.less (by omega), rfl, by simp⟩ ?_ ?_
    · simp only [ev, evE, sVal_ok, e1]
      rfl
    · rintro ρ S' ⟨x, q, w, rfl, rfl, q1, q2, q3⟩
      rw [rngD_length] at q1 q2
      exact ⟨w, q, x, rfl, q3, q2, q1.less (by omega)⟩
    · rintro j hj ρ S' ⟨x, q, w, rfl, rfl, q1, q2, q3⟩
      rw [rngD_length] at hj
      refine ⟨_, rfl, ?_⟩
      obtain ⟨r, p', k1, k2, k3, k4⟩ := hd _ n q (c + 1 + (1 + m - (j + 1))) 26 (g _) (q1.less (by omega)) (by decide) (by decide)
      obtain ⟨l, rfl⟩ : ∃ l : Nat, r = l := ⟨r.toNat, by omega⟩
      rw [List.set_set] at k1
      simp only [ev, evE, sVal_ok, k1, ix_let (show l < 26 by omega), fitS (a := w) (b := [97 + l]) (by simp; omega), mkS_app, Turn]
      refine ⟨_, p', w ++ [97 + l], rfl, rfl, k4, by simp [q2], fun c hc => ?_⟩
      rcases List.mem_append.mp hc with z | z
      · exact q3 c z
      · simp at z; omega
  obtain ⟨w, p2, x, f1, f2, f3, f4⟩ := key
  obtain ⟨r, p3, k1, k2, k3, k4⟩ := hd _ n p2 c w.length (g _) f4 (by omega) (by omega)
  obtain ⟨l, rfl⟩ : ∃ l : Nat, r = l := ⟨r.toNat, by omega⟩
  have e0 : sAsg (sVal (.str ("" : Str))) (setI 2) [some (.cell n), some (.dat (.int i)), none, none, none] S = .nx [some (.cell n), some (.dat (.int i)), some (.dat (.str (mkS []))), none, none] S := by
    rw [empty_str]; simp only [ev, evE, sVal_ok]
  have fg := figs_100 ⟨i, h3⟩
  simp only at fg
  refine ⟨_, p3, ?_, ⟨w, 1 + l, rfl, f2, by omega, by omega, by omega, by omega⟩, k4⟩
  rw [h _ _ _ _ rfl]
  unfold bd_name
  rw [sq_cons, e0, an_nx, sq_cons, f1, an_nx]
  rw [List.set_set] at k1
  have hpl : ((1 : Int) + (l : Int)) = ((1 + l : Nat) : Int) := by push_cast; rfl
  simp only [ev, evE, sVal_ok, fitS1 (a := w) (by omega), mkS_length, k1, hpl, fits_of (show w.length ≤ 16777216 by omega)]
  simp only [cut_hi (show 1 + l ≤ w.length by omega), cut_lo (show 1 + l ≤ w.length by omega), str_int h3, ev]
  have l1 : fits (mkS (w.take (1 + l))).length = true := by rw [mkS_length]; exact fits_of (by rw [List.length_take]; omega)
  have l2 : fits ((mkS (w.take (1 + l))).length + (mkS (figs i)).length) = true := by rw [mkS_length, mkS_length]; exact fits_of (by rw [List.length_take]; omega)
  have l3 : fits ((mkS (w.take (1 + l) ++ figs i)).length + (mkS (w.drop (1 + l))).length) = true := by rw [mkS_length, mkS_length]; exact fits_of (by rw [List.length_append, List.length_take, List.length_drop]; omega)
  simp only [l2, mkS_app, ev, fitS1 (a := w) (show w.length ≤ 16777216 by omega), cut_lo (show 1 + l ≤ w.length by omega), l3, endF_rt, take_set]
def NamesN (T : FnT) : Prop := ∀ (S : Store) (n : Nat) (p : PenS) (c m : Nat), S[n]? = some p.cell → PenOk p (c + 11 * m) → m ≤ 100 →
  ∃ (zs : List Str) (es : List D) (p' : PenS), T ("_law_names" : Str) [.cell n, .dat (.int m)] S = .ok (.dat (.lst es)) (S.set n p'.cell) ∧ zs.length = m ∧ (∀ i (h : i < zs.length), Named i zs[i]) ∧ es.Perm (zs.map .str) ∧ PenOk p' c
theorem namesN_of {G : Gam} {R : Nat → FnT} (h : ∀ k w0 w1 S, noPair [w0, w1] = true → R (k + 1) ("_law_names" : Str) [w0, w1] S = endF G false S.length (bd_names G (R k) [some w0, some w1, none] S)) (k : Nat) (h1 : Names1 (R k)) (hs : Shuffles (R k)) : NamesN (R (k + 1)) := by
  intro S n p c m hS hp hm
  have hn : n < S.length := (List.getElem?_eq_some_iff.mp hS).1
  have g : ∀ x, (S.set n x)[n]? = some x := fun x => set_get hn
  obtain ⟨acc, S', e1, zs, q, z1, z2, z3, z4, z5⟩ := lc_ind (bx := false) (vs := [2]) (t := yes) (e := sFnL (R k) ("_law_name" : Str) [(sVar 0), (sVar 2)]) (tgt := setI 2) (ds := rngD 0 m) (ρ := [some (.cell n), some (.dat (.int m)), none]) (S := S) (S1 := S)
    (I := fun j acc S' => ∃ (zs : List Str) (q : PenS), S' = S.set n q.cell ∧ acc = zs.map .str ∧ zs.length = j ∧ (∀ i (h : i < zs.length), Named i zs[i]) ∧ PenOk q (c + m + 10 * (m - j)))
    (src := sRng1 (evl [(sVar 1)])) (sRng1_ok (by simp only [ev]) (by omega)) ⟨[], p, by rw [(List.getElem?_eq_some_iff.mp hS).2.symm, List.set_getElem_self], rfl, rfl, by simp, hp.less (by omega)⟩ (fun j hj acc S' hI => by
      obtain ⟨zs, q, rfl, rfl, z3, z4, z5⟩ := hI
      rw [rngD_length] at hj
      have hln : n < (S.set n q.cell).length := by rw [List.length_set]; exact hn
      obtain ⟨z, p', k1, k2, k3⟩ := h1 (S.set n q.cell ++ [.lst (zs.map .str)]) n q (c + m + 10 * (m - (j + 1))) j (by rw [app_getL hln]; exact g _) (z5.less (by omega)) (by omega)
      rw [app_setL hln, List.set_set] at k1
      refine ⟨_, S.set n p'.cell, lcT_ok (ρ1 := [some (.cell n), some (.dat (.int m)), some (.dat (.int j))]) (z := .str z) ?_ rfl ?_ (by simp) ?_, zs ++ [z], p', rfl, by simp, by simp [z3], fun i hi => ?_, k3⟩
      · rw [getElem_rngD]; rfl
      · simp only [ev, k1]
      · rw [List.length_map, z3, sizeLine_eq]; omega
      · by_cases hz : i < zs.length
        · rw [List.getElem_append_left hz]; exact z4 i hz
        · have : i = zs.length := by simp at hi; omega
          subst this
          rw [List.getElem_append_right (Nat.le_refl _)]
          simp only [Nat.sub_self, List.getElem_singleton]
          rw [z3]; exact k2)
  subst z1 z2
  rw [rngD_length] at z3 z5
  obtain ⟨es, p', k1, k2, k3⟩ := hs _ n q c (zs.map .str) (g _) (z5.less (by rw [List.length_map]; omega)) (by rw [List.length_map]; omega)
  rw [List.set_set] at k1
  refine ⟨zs, es, p', ?_, z3, z4, k2, k3⟩
  rw [h _ _ _ _ rfl]
  unfold bd_names
  simp only [ev, e1, lcFin_f, k1, endF_rt, take_set]
end EC
namespace EC
open PySem PySem.Spec PyProof.Rows L2
/-- plain data of depth at most n -/
def Sh (n : Nat) (d : D) : Prop := ∃ p, toPy d = some p ∧ p.canLay0 = true ∧ p.depth ≤ n
def ShL (n : Nat) (ds : List D) : Prop := ∃ ps, toPyL ds = some ps ∧ PyData.canLayAll0 ps = true ∧ PyData.depthAll ps ≤ n
theorem Sh.mono {n m : Nat} {d : D} (h : Sh n d) (k : n ≤ m) : Sh m d := let ⟨p, h1, h2, h3⟩ := h; ⟨p, h1, h2, Nat.le_trans h3 k⟩
theorem sh_non {n : Nat} : Sh n .non := ⟨_, rfl, rfl, Nat.zero_le _⟩
theorem sh_bl {n : Nat} {b : Bool} : Sh n (.bl b) := ⟨_, rfl, rfl, Nat.zero_le _⟩
theorem sh_int {n : Nat} {i : Int} : Sh n (.int i) := ⟨_, rfl, rfl, Nat.zero_le _⟩
theorem sh_str {n : Nat} {x : Str} (h : PyData.strOk x = true) : Sh n (.str x) := ⟨_, rfl, h, Nat.zero_le _⟩
theorem shL_nil {n : Nat} : ShL n [] := ⟨_, rfl, rfl, Nat.zero_le _⟩
theorem shL_cons {n : Nat} {d : D} {ds : List D} (h : Sh n d) (t : ShL n ds) : ShL n (d :: ds) := by
  obtain ⟨p, h1, h2, h3⟩ := h
  obtain ⟨ps, t1, t2, t3⟩ := t
  refine ⟨p :: ps, by rw [toPyL, h1, t1], ?_, ?_⟩
  · rw [PyData.canLayAll0, h2, t2]; rfl
  · rw [PyData.depthAll]; exact Nat.max_le.mpr ⟨h3, t3⟩
theorem shL_of {n : Nat} : ∀ {ds : List D}, (∀ d ∈ ds, Sh n d) → ShL n ds
  | [], _ => shL_nil
  | d :: ds, h => shL_cons (h d (by simp)) (shL_of fun e he => h e (by simp [he]))
theorem sh_tup {n : Nat} {ds : List D} (h : ShL n ds) : Sh (n + 1) (.tup ds) := by
  obtain ⟨ps, t1, t2, t3⟩ := h
  refine ⟨.tuple ps, by rw [toPy, t1]; rfl, ?_, ?_⟩
  · rw [PyData.canLay0]; exact t2
  · rw [PyData.depth]; omega
theorem sh_kup {n : Nat} {ds : List D} (h : ShL n ds) : Sh (n + 1) (.kup ds) := by
  obtain ⟨ps, t1, t2, t3⟩ := h
  refine ⟨.tuple ps, by rw [toPy, t1]; rfl, ?_, ?_⟩
  · rw [PyData.canLay0]; exact t2
  · rw [PyData.depth]; omega
theorem sh_lst {n : Nat} {ds : List D} (h : ShL n ds) : Sh (n + 1) (.lst ds) := by
  obtain ⟨ps, t1, t2, t3⟩ := h
  refine ⟨.list ps, by rw [toPy, t1]; rfl, ?_, ?_⟩
  · rw [PyData.canLay0]; exact t2
  · rw [PyData.depth]; omega
theorem Sh.shaped {d : D} (h : Sh 64 d) : ∃ p, toPy d = some p ∧ SeqAt.shaped p = true := by
  obtain ⟨p, h1, h2, h3⟩ := h
  refine ⟨p, h1, ?_⟩
  unfold SeqAt.shaped
  rw [h2, decide_eq_true h3]
  rfl
/-- equal, as data -/
def eqD (d e : D) : Bool := PyData.eqv (pyOf d) (pyOf e)
theorem pyOf_eq {d : D} {p : PyData} (h : toPy d = some p) : pyOf d = p := by unfold pyOf; rw [h]; rfl
theorem dEq_sh {d e : D} (h : Sh 64 d) (k : Sh 64 e) : dEq d e = some (eqD d e) := by
  obtain ⟨p, h1, h2⟩ := h.shaped
  obtain ⟨q, k1, k2⟩ := k.shaped
  unfold dEq eqD
  rw [h1, k1, pyOf_eq h1, pyOf_eq k1]
  simp only [h2, k2, Bool.and_self, if_true]
theorem o_eq {d e : D} (h : Sh 64 d) (k : Sh 64 e) : dCmpD .Eq d e = some (.bl (eqD d e)) := by
  show (dEq d e).map D.bl = _
  rw [dEq_sh h k]; rfl
theorem o_ne {d e : D} (h : Sh 64 d) (k : Sh 64 e) : dCmpD .NotEq d e = some (.bl (!eqD d e)) := by
  show ((dEq d e).map not).map D.bl = _
  rw [dEq_sh h k]; rfl
theorem eqD_str {x y : Str} : eqD (.str x) (.str y) = decide (x = y) := by
  show PyData.eqv (.str x) (.str y) = _
  rw [PyData.eqv]
  rfl
theorem eqD_int {i j : Int} : eqD (.int i) (.int j) = decide (i = j) := rfl
theorem eqD_refl {d : D} (h : Sh 64 d) : eqD d d = true := by
  obtain ⟨p, h1, h2, h3⟩ := h
  unfold eqD
  rw [pyOf_eq h1]
  exact SeqAt.eqv_refl p h2
theorem o_eqS {x y : Str} (h : PyData.strOk x = true) (k : PyData.strOk y = true) : dCmpD .Eq (.str x) (.str y) = some (.bl (decide (x = y))) := by rw [o_eq (sh_str h) (sh_str k), eqD_str]
theorem o_neS {x y : Str} (h : PyData.strOk x = true) (k : PyData.strOk y = true) : dCmpD .NotEq (.str x) (.str y) = some (.bl (!decide (x = y))) := by rw [o_ne (sh_str h) (sh_str k), eqD_str]
/-- a sign in a text -/
theorem o_in1 {c : Nat} {z : Str} : dCmpD .In (.str (mkS [c])) (.str z) = some (.bl (decide (c ∈ z.cps.toList))) := rfl
theorem o_nin1 {c : Nat} {z : Str} : dCmpD .NotIn (.str (mkS [c])) (.str z) = some (.bl (!decide (c ∈ z.cps.toList))) := rfl
theorem toPyL_strs : ∀ {zs : List Str}, toPyL (zs.map .str) = some (zs.map .str)
  | [] => rfl
  | z :: zs => by
    rw [List.map_cons, toPyL, toPyL_strs]
    rfl
theorem any_strs {x : Str} : ∀ {zs : List Str}, ((zs.map PyData.str).any fun z => PyData.eqv z (.str x)) = decide (x ∈ zs)
  | [] => rfl
  | z :: zs => by
    rw [List.map_cons, List.any_cons, any_strs, PyData.eqv]
    by_cases h : x = z
    · subst h; simp
    · have : (z == x) = false := by simpa using fun e => h e.symm
      rw [this]
      simp [h]
theorem shL_strs {n : Nat} {zs : List Str} (h : zs.all PyData.strOk = true) : ShL n (zs.map .str) := shL_of fun d hd => by
  obtain ⟨z, hz, rfl⟩ := List.mem_map.mp hd
  exact sh_str (List.all_eq_true.mp h z hz)
theorem o_inL {x : Str} {zs : List Str} (h : PyData.strOk x = true) (k : zs.all PyData.strOk = true) : dCmpD .In (.str x) (.lst (zs.map .str)) = some (.bl (decide (x ∈ zs))) := by
  obtain ⟨p, h1, h2⟩ := (sh_lst (shL_strs (n := 0) k)).mono (show 0 + 1 ≤ 64 by omega) |>.shaped
  have h3 : toPy (.lst (zs.map .str)) = some (.list (zs.map .str)) := by rw [toPy, toPyL_strs]; rfl
  rw [h3] at h1; cases h1
  obtain ⟨q, k1, k2⟩ := (sh_str (n := 64) h).shaped
  cases k1
  show (match toPyL (zs.map .str), toPy (.str x) with
    | some ps, some p => if SeqAt.shaped (.list ps) && SeqAt.shaped p then some (ps.any fun z => PyData.eqv z p) else none
    | _, _ => none).map D.bl = _
  rw [toPyL_strs]
  show (if SeqAt.shaped (.list (zs.map .str)) && SeqAt.shaped (.str x) then some ((zs.map PyData.str).any fun z => PyData.eqv z (.str x)) else none).map D.bl = _
  rw [h2, k2, any_strs]
  rfl
theorem o_inK {x : Str} {zs : List Str} (h : PyData.strOk x = true) (k : zs.all PyData.strOk = true) : dCmpD .In (.str x) (.kup (zs.map .str)) = some (.bl (decide (x ∈ zs))) := by
  obtain ⟨p, h1, h2⟩ := (sh_tup (shL_strs (n := 0) k)).mono (show 0 + 1 ≤ 64 by omega) |>.shaped
  have h3 : toPy (.tup (zs.map .str)) = some (.tuple (zs.map .str)) := by rw [toPy, toPyL_strs]; rfl
  rw [h3] at h1; cases h1
  obtain ⟨q, k1, k2⟩ := (sh_str (n := 64) h).shaped
  cases k1
  show (match toPyL (zs.map .str), toPy (.str x) with
    | some ps, some p => if SeqAt.shaped (.tuple ps) && SeqAt.shaped p then some (ps.any fun z => PyData.eqv z p) else none
    | _, _ => none).map D.bl = _
  rw [toPyL_strs]
  show (if SeqAt.shaped (.tuple (zs.map .str)) && SeqAt.shaped (.str x) then some ((zs.map PyData.str).any fun z => PyData.eqv z (.str x)) else none).map D.bl = _
  rw [h2, k2, any_strs]
  rfl
theorem strOk_mk {w : List Nat} (h : ∀ c ∈ w, c < 1114112) : PyData.strOk (mkS w) = true := by
  unfold PyData.strOk
  rw [← Array.all_toList]
  rw [List.all_eq_true]
  exact fun c hc => decide_eq_true (h c hc)
theorem strOk_of {x : Str} (h : PyData.strOk x = true) : ∀ c ∈ x.cps.toList, c < 1114112 := by
  unfold PyData.strOk at h
  rw [← Array.all_toList, List.all_eq_true] at h
  exact fun c hc => of_decide_eq_true (h c hc)
theorem o_isiStr {d : D} {b : Bool} (h : dIsi d (.bty "str") = some b) : dBi .isi [d, .bty "str"] = some (.bl b) := by show (dIsi d (.bty "str")).map D.bl = _; rw [h]; rfl
theorem is_non : isNon .non = true := rfl
theorem is_nonB {b : Bool} : isNon (.bl b) = false := rfl
theorem is_nonI {i : Int} : isNon (.int i) = false := rfl
theorem is_nonS {x : Str} : isNon (.str x) = false := rfl
theorem is_nonT {ds : List D} : isNon (.tup ds) = false := rfl
theorem is_nonL {ds : List D} : isNon (.lst ds) = false := rfl
theorem is_tt : isBl true (.bl true) = true := rfl
theorem is_tf : isBl true (.bl false) = false := rfl
theorem is_ft : isBl false (.bl true) = false := rfl
theorem is_ff : isBl false (.bl false) = true := rfl
theorem is_bI {b : Bool} {i : Int} : isBl b (.int i) = false := rfl
theorem is_bS {b : Bool} {x : Str} : isBl b (.str x) = false := rfl
theorem is_bT {b : Bool} {ds : List D} : isBl b (.tup ds) = false := rfl
theorem is_bL {b : Bool} {ds : List D} : isBl b (.lst ds) = false := rfl
theorem is_bN {b : Bool} : isBl b .non = false := rfl
def evIs := And.intro @is_non (And.intro @is_nonB (And.intro @is_nonI (And.intro @is_nonS (And.intro @is_nonT (And.intro @is_nonL (And.intro @is_tt (And.intro @is_tf (And.intro @is_ft (And.intro @is_ff (And.intro @is_bI (And.intro @is_bS (And.intro @is_bT (And.intro @is_bL @is_bN)))))))))))))
def bd_same (G : Gam) (T : FnT) : Ss := (seqL [(sIte (tst (sBi .isi [(sVar 1), (sVal (.bty "tuple"))])) (seqL [(sRet (sAnd (sBi .isi [(sVar 0), (sVal (.bty "tuple"))]) (sAnd (s2 (f2 (dCmpD .Eq)) (sBi .len [(sVar 0)]) (sBi .len [(sVar 1)])) (sBi .all [(sLc (sZip (evl [(sVar 0), (sVar 1)])) (setTI [2, 3]) yes (sFnL T ("_law_same" : Str) [(sVar 2), (sVar 3)]) [2, 3] false)]))))]) (seqL [])), (sIte (tst (s2 (f2 (dCmpD .Is)) (sVar 1) (sVal (.non)))) (seqL [(sRet (s2 (f2 (dCmpD .Is)) (sVar 0) (sVal (.non))))]) (seqL [])), (sIte (tst (s2 (f2 (dCmpD .Is)) (sVar 1) (sVal (.bl true)))) (seqL [(sRet (s2 (f2 (dCmpD .Is)) (sVar 0) (sVal (.bl true))))]) (seqL [])), (sIte (tst (s2 (f2 (dCmpD .Is)) (sVar 1) (sVal (.bl false)))) (seqL [(sRet (s2 (f2 (dCmpD .Is)) (sVar 0) (sVal (.bl false))))]) (seqL [])), (sIte (tst (sBi .isi [(sVar 1), (sVal (.bty "int"))])) (seqL [(sRet (sAnd (sBi .isi [(sVar 0), (sVal (.bty "int"))]) (sAnd (sNot (sBi .isi [(sVar 0), (sVal (.bty "bool"))])) (s2 (f2 (dCmpD .Eq)) (sVar 0) (sVar 1)))))]) (seqL [])), (sRet (sAnd (sBi .isi [(sVar 0), (sVal (.bty "str"))]) (s2 (f2 (dCmpD .Eq)) (sVar 0) (sVar 1))))])
/-- what _law_same takes as the same as itself: tuples of depth at most n -/
inductive Smd : Nat → D → Prop
  | non {n : Nat} : Smd n .non
  | bl {n : Nat} (b : Bool) : Smd n (.bl b)
  | int {n : Nat} (i : Int) : Smd n (.int i)
  | str {n : Nat} {x : Str} (h : PyData.strOk x = true) : Smd n (.str x)
  | tup {n : Nat} {ds : List D} (h : ∀ d ∈ ds, Smd n d) (hl : ds.length < 1000000) : Smd (n + 1) (.tup ds)
theorem isi_tup {ds : List D} : dBi .isi [.tup ds, .bty "tuple"] = some (.bl true) := by kernel_rfl
theorem isi_nonT : dBi .isi [.non, .bty "tuple"] = some (.bl false) := by kernel_rfl
theorem isi_blT {b : Bool} : dBi .isi [.bl b, .bty "tuple"] = some (.bl false) := by kernel_rfl
theorem isi_intT {i : Int} : dBi .isi [.int i, .bty "tuple"] = some (.bl false) := by kernel_rfl
theorem isi_strT {x : Str} : dBi .isi [.str x, .bty "tuple"] = some (.bl false) := by kernel_rfl
theorem isi_intI {i : Int} : dBi .isi [.int i, .bty "int"] = some (.bl true) := by kernel_rfl
theorem isi_intB {i : Int} : dBi .isi [.int i, .bty "bool"] = some (.bl false) := by kernel_rfl
theorem isi_strI {x : Str} : dBi .isi [.str x, .bty "int"] = some (.bl false) := by kernel_rfl
theorem isi_strS {x : Str} : dBi .isi [.str x, .bty "str"] = some (.bl true) := by kernel_rfl
theorem isi_nonS : dBi .isi [.non, .bty "str"] = some (.bl false) := by kernel_rfl
theorem isi_blS {b : Bool} : dBi .isi [.bl b, .bty "str"] = some (.bl false) := by kernel_rfl
theorem isi_intS {i : Int} : dBi .isi [.int i, .bty "str"] = some (.bl false) := by kernel_rfl
theorem isi_tupS {ds : List D} : dBi .isi [.tup ds, .bty "str"] = some (.bl false) := by kernel_rfl
theorem isi_lstS {ds : List D} : dBi .isi [.lst ds, .bty "str"] = some (.bl false) := by kernel_rfl
theorem isi_dctS {ks : List Key} {ds : List D} : dBi .isi [.dct ks ds, .bty "str"] = some (.bl false) := by kernel_rfl
theorem zipD_self : ∀ ds : List D, zipD ds ds = ds.map fun d => .tup [d, d]
  | [] => rfl
  | d :: ds => by unfold zipD; rw [zipD_self ds]; rfl
theorem blsOf_true : ∀ ds : List D, blsOf? (ds.map fun _ => D.bl true) = some (ds.map fun _ => true)
  | [] => rfl
  | d :: ds => by rw [List.map_cons, blsOf?, blsOf_true ds]; rfl
theorem all_true : ∀ ds : List D, (ds.map fun _ => true).all id = true
  | [] => rfl
  | _ :: ds => by rw [List.map_cons, List.all_cons, all_true ds]; rfl
theorem dBi_all {ds : List D} : dBi .all [.lst (ds.map fun _ => D.bl true)] = some (.bl true) := by
  show (blsOf? (ds.map fun _ => D.bl true)).map (fun ns => D.bl (ns.all id)) = _
  rw [blsOf_true]
  show some (D.bl ((ds.map fun _ => true).all id)) = _
  rw [all_true]
theorem same_of {G : Gam} {R : Nat → FnT} (h : ∀ k w0 w1 S, noPair [w0, w1] = true → R (k + 1) ("_law_same" : Str) [w0, w1] S = endF G false S.length (bd_same G (R k) [some w0, some w1, none, none] S)) : ∀ (n k : Nat) (d : D) (S : Store), Smd n d → n < k → R k ("_law_same" : Str) [.dat d, .dat d] S = .ok (.dat (.bl true)) S := by
  intro n
  induction n with
  | zero =>
    intro k d S hs hk
    obtain ⟨k, rfl⟩ : ∃ j, k = j + 1 := ⟨k - 1, by omega⟩
    rw [h _ _ _ _ rfl]
    unfold bd_same
    cases hs with
    | non => simp only [ev, sVal_ok, isi_nonT, evIs, endF_rt, take_all]
    | bl b => cases b <;> simp only [ev, sVal_ok, isi_blT, evIs, endF_rt, take_all]
    | int i => simp only [ev, sVal_ok, isi_intT, isi_intI, isi_intB, evIs, o_eqI, decide_true, Bool.not_false, endF_rt, take_all]
    | str hx => simp only [ev, sVal_ok, isi_strT, isi_strI, isi_strS, evIs, o_eqS hx hx, decide_true, endF_rt, take_all]
  | succ n ih =>
    intro k d S hs hk
    obtain ⟨k, rfl⟩ : ∃ j, k = j + 1 := ⟨k - 1, by omega⟩
    rw [h _ _ _ _ rfl]
    unfold bd_same
    cases hs with
    | non => simp only [ev, sVal_ok, isi_nonT, evIs, endF_rt, take_all]
    | bl b => cases b <;> simp only [ev, sVal_ok, isi_blT, evIs, endF_rt, take_all]
    | int i => simp only [ev, sVal_ok, isi_intT, isi_intI, isi_intB, evIs, o_eqI, decide_true, Bool.not_false, endF_rt, take_all]
    | str hx => simp only [ev, sVal_ok, isi_strT, isi_strI, isi_strS, evIs, o_eqS hx hx, decide_true, endF_rt, take_all]
    | @tup _ ds hd hl =>
      have e1 : sLc (sZip (evl [(sVar 0), (sVar 1)])) (setTI [2, 3]) yes (sFnL (R k) ("_law_same" : Str) [(sVar 2), (sVar 3)]) [2, 3] false [some (.dat (.tup ds)), some (.dat (.tup ds)), none, none] S = lcFin false ((zipD ds ds).map fun _ => .bl true) S := by
        refine lc_map (fun _ => .bl true) ?_ ?_ fun d hd' => ?_
        · unfold sZip; simp only [ev]; rfl
        · rw [zipD_self, List.length_map, sizeLine_eq]; omega
        · rw [zipD_self] at hd'
          obtain ⟨d0, hd0, rfl⟩ := List.mem_map.mp hd'
          refine ⟨_, rfl, fun acc => ?_⟩
          simp only [ev, wipeE, evE, setIs]
          exact ih k d0 _ (hd d0 hd0) (by omega)
      rw [zipD_self, List.map_map] at e1
      have e2 : (ds.map ((fun _ => D.bl true) ∘ fun d => D.tup [d, d])) = ds.map fun _ => D.bl true := rfl
      rw [e2, lcFin_f] at e1
      simp only [ev, sVal_ok, isi_tup, o_eqI, decide_true, e1, dBi_all, endF_rt, take_all]
end EC
namespace EC
open PySem PySem.Spec PyProof.Rows L2
def kGF (G : Gam) (f : Str) (n : Nat) (d : D) (o : Option Cell) (ρ : Env0') (S : Store) : SR := match o with
  | some (.ins c vs) => match G.clss.lookup c with
    | some ci => match putI ci f d vs with
      | some vs' => .nx ρ (S.set n (.ins c vs'))
      | none => .bad
    | none => .bad
  | _ => .bad
section
variable {G : Gam} {T : FnT} {f x q : Str} {n : Nat} {d : D} {ρ : Env0'} {S : Store} {ws : List W} {vs : List D} {cs : List (Sm W)} {ci : ClsI}
theorem g_fldk : gFldK G f (.dat d) (.cell n) ρ S = kGF G f n d S[n]? ρ S := by
  show (match putFld G f (.cell n) d S with
    | some S2 => SR.nx ρ S2
    | none => .bad) = _
  unfold putFld kGF
  simp only
  generalize S[n]? = oc
  cases oc with
  | none => rfl
  | some c =>
    cases c with
    | ins c vs =>
      simp only
      cases G.clss.lookup c with
      | none => rfl
      | some ci =>
        simp only
        cases putI ci f d vs <;> rfl
    | _ => rfl
/-- o.f += e -/
theorem augF_ok {co cv : Sm W} {op : Operator} {a b z : Int} {i : Nat} {c : Str} (h1 : co ρ S = .ok (.cell n) S) (h2 : S[n]? = some (.ins c vs)) (hc : G.clss.lookup c = some ci) (hi : ixOf f ci.fields = some i) (hv : vs[i]? = some (.int a)) (h3 : cv ρ S = .ok (.dat (.int b)) S) (hz : augI op a b = some z) :
    sAugF G f op co cv ρ S = .nx ρ (S.set n (.ins c (vs.set i (.int z)))) := by
  have hl : i < vs.length := (List.getElem?_eq_some_iff.mp hv).1
  have hf : fldD G f (.ins c vs) = some (.int a) := by
    show (match G.clss.lookup c with
      | some ci => match ixOf f ci.fields with
        | some i => vs[i]?
        | none => none
      | none => none) = _
    rw [hc]
    simp only [hi, hv]
  unfold sAugF
  rw [h1]
  show (match fldD G f ((S[n]?).elim .non Cell.frz) with
    | some (.int a) => (cv ρ S).toS ρ _
    | _ => .bad) = _
  rw [h2]
  show (match fldD G f (.ins c vs) with
    | some (.int a) => (cv ρ S).toS ρ _
    | _ => .bad) = _
  rw [hf]
  simp only [h3, toS_ok, hz, h2, if_true, hc, hi, if_pos hl]
/-- a new instance that may change -/
theorem new_ok {c : Str} (h : T q (.cell S.length :: ws) (S ++ [.ins c []]) = .ok (.dat .non) (S ++ [.ins c vs])) (hw : ws.all noLam = true) : callMkN T c q vs.length true ws S = .ok (.cell S.length) (S ++ [.ins c vs]) := by
  unfold callMkN callT
  have : ((W.cell S.length :: ws).all noLam) = true := hw
  rw [if_pos this, h]
  simp
/-- a new instance that stays -/
theorem newF_ok {c : Str} (h : T q (.cell S.length :: ws) (S ++ [.ins c []]) = .ok (.dat .non) (S ++ [.ins c vs])) (hw : ws.all noLam = true) : callMkN T c q vs.length false ws S = .ok (.dat (.ins c vs)) S := by
  unfold callMkN callT
  have : ((W.cell S.length :: ws).all noLam) = true := hw
  rw [if_pos this, h]
  simp
theorem e_new {c : Str} {nf : Nat} {mu : Bool} : sNewN T c q nf mu cs ρ S = (evl cs ρ S).bind (callMkN T c q nf mu) := rfl
end
end EC
namespace EC
open PySem PySem.Spec PyProof.Rows L2
section
variable {S : Store} {c1 c2 x : Cell}
theorem fr1_get : (S ++ [c1])[S.length]? = some c1 := app_get0 (L := [c1]) (i := 0) rfl
theorem fr1_set : (S ++ [c1]).set S.length x = S ++ [x] := app_set0 (L := [c1]) (i := 0)
theorem fr2_get0 : (S ++ [c1, c2])[S.length]? = some c1 := app_get0 (L := [c1, c2]) (i := 0) rfl
theorem fr2_get1 : (S ++ [c1, c2])[S.length + 1]? = some c2 := app_get0 (L := [c1, c2]) (i := 1) rfl
theorem fr2_set0 : (S ++ [c1, c2]).set S.length x = S ++ [x, c2] := app_set0 (L := [c1, c2]) (i := 0)
theorem fr2_set1 : (S ++ [c1, c2]).set (S.length + 1) x = S ++ [c1, x] := app_set0 (L := [c1, c2]) (i := 1)
end
theorem e_dictL {ρ : Env0'} {S : Store} {bx : Bool} {ps : List (Sm W × Sm W)} {qs : List (Key × D)} (h : evPl ps ρ (S ++ [.dct [] []]) = .ok qs (S ++ [.dct [] []])) :
    sDictL bx ps ρ S = if bx = true then .ok (.cell S.length) (S ++ [.dct (mergeD [] [] qs).1 (mergeD [] [] qs).2]) else .ok (.dat (.dct (mergeD [] [] qs).1 (mergeD [] [] qs).2)) S := by
  unfold sDictL
  rw [h]
  show dctFin bx S.length qs (S ++ [.dct [] []]) = _
  unfold dctFin
  rw [fr1_get]
  simp only
  cases bx
  · simp only [Bool.false_eq_true, if_false, take_app]
  · simp only [if_true]
    rw [fr1_set, List.take_of_length_le (by simp)]
theorem pen_of {G : Gam} {R : Nat → FnT} (h : ∀ k w0 S, noPair [w0] = true → R (k + 1) ("_law_pen" : Str) [w0] S = endF G true S.length (bd_pen G (R k) [some w0, none, none] S)) (k : Nat) (ns : List Int) (hns : ns.length < 1000) (S : Store) :
    ∃ p : PenS, R (k + 1) ("_law_pen" : Str) [.dat (.scr ns)] S = .ok (.cell S.length) (S ++ [p.cell]) ∧ PenOk p 1000000000 := by
  have key : ∃ (fo : Int) (x : Option W), sFor (sIter (sVar 0)) (setI 2) (seqL [(sAsg (s2 (f2 (dBin .Mod)) (sBi .int [(s2 (f2 (dBin .Add)) (s2 (f2 (dBin .Mult)) (sVar 1) (sVal (.int 239))) (sVar 2))]) (sVal (.int 1000000891))) (setI 1))]) [some (.dat (.scr ns)), some (.dat (.int 89)), none] S = .nx [some (.dat (.scr ns)), some (.dat (.int fo)), x] S ∧ 0 ≤ fo ∧ fo < 2147483648 := by
    refine for_ind (ds := ns.map .int) (S1 := S) (I := fun j ρ S' => ∃ (fo : Int) (x : Option W), ρ = [some (.dat (.scr ns)), some (.dat (.int fo)), x] ∧ S' = S ∧ 0 ≤ fo ∧ fo < 2147483648)
      (P := fun r => ∃ (fo : Int) (x : Option W), r = .nx [some (.dat (.scr ns)), some (.dat (.int fo)), x] S ∧ 0 ≤ fo ∧ fo < 2147483648) rfl ⟨89, none, rfl, rfl, by decide, by decide⟩ ?_ ?_
    · rintro ρ S' ⟨fo, x, rfl, rfl, h1, h2⟩
      exact ⟨fo, x, rfl, h1, h2⟩
    · rintro j hj ρ S' ⟨fo, x, rfl, rfl, h1, h2⟩
      have hb : (decide (-(2 ^ 64) < (239 : Int)) && decide ((239 : Int) < 2 ^ 64)) = true := by decide
      have hj' : j < ns.length := by simpa using hj
      have e : (ns.map D.int)[j] = .int ns[j] := by simp
      refine ⟨_, rfl, ?_⟩
      rw [e]
      simp only [ev, evE, sVal_ok, o_mulL hb, dMod (show (0 : Int) < 1000000891 by decide), EC.Turn]
      refine ⟨_, _, rfl, trivial, Int.emod_nonneg _ (by decide), ?_⟩
      have := Int.emod_lt_of_pos (fo * 239 + ns[j]) (show (0 : Int) < 1000000891 by decide)
      omega
  obtain ⟨fo, x, e1, e2, e3⟩ := key
  refine ⟨⟨ns, 0, 0, 0, fo⟩, ?_, ⟨Nat.zero_le _, Int.le_refl _, Int.le_refl _, by simp, e2, e3⟩⟩
  rw [h _ _ _ rfl]
  unfold bd_pen
  have e0 : sAsg (sVal (.int 89)) (setI 1) [some (.dat (.scr ns)), none, none] S = .nx [some (.dat (.scr ns)), some (.dat (.int 89)), none] S := rfl
  rw [sq_cons, e0, an_nx, sq_cons, e1, an_nx]
  have e4 : sDictL true [((sVal (.str ("cells" : Str))), (sBi .list [(sVar 0)])), ((sVal (.str ("at" : Str))), (sVal (.int 0))), ((sVal (.str ("digits" : Str))), (sVal (.int 0))), ((sVal (.str ("count" : Str))), (sVal (.int 0))), ((sVal (.str ("fold" : Str))), (sVar 1))] [some (.dat (.scr ns)), some (.dat (.int fo)), x] S = .ok (.cell S.length) (S ++ [PenS.cell ⟨ns, 0, 0, 0, fo⟩]) := by
    have hm : ∀ a b c d e : D, mergeD [] [] [((.inr "cells" : Key), a), (.inr "at", b), (.inr "digits", c), (.inr "count", d), (.inr "fold", e)] = (penK, [a, b, c, d, e]) := fun a b c d e => by kernel_rfl
    rw [e_dictL (qs := [((.inr "cells" : Key), .lst (ns.map .int)), (.inr "at", .int 0), (.inr "digits", .int 0), (.inr "count", .int 0), (.inr "fold", .int fo)]) rfl, if_pos rfl, hm]
    rfl
  rw [seqL_cons, e_ret, e4, toS_ok]
  show endF G true S.length (.rt (.cell S.length) (S ++ [PenS.cell ⟨ns, 0, 0, 0, fo⟩])) = _
  show leave G true S.length (.cell S.length) (S ++ [PenS.cell ⟨ns, 0, 0, 0, fo⟩]) = _
  unfold leave
  simp only [Nat.lt_irrefl, if_false, fr1_get, if_true, take_app]
section
variable {G : Gam} {T : FnT} {ρ : Env0'} {S : Store} {c : Str} {fs : List D} {ci : ClsI}
theorem kTry_ex {cl : List (Str × Option Nat × (ClsI → List D → Ss))} (h : G.exs.lookup c = some ci) : kTry G cl (.ex c fs ρ S) = pickL c ci fs ρ S cl := by
  unfold kTry
  simp only [h]
theorem pickL_hit {i : Nat} {hd : ClsI → List D → Ss} {r : List (Str × Option Nat × (ClsI → List D → Ss))} (hi : i < ρ.length) : pickL c ci fs ρ S ((c, some i, hd) :: r) = unset (some i) (hd ci fs (ρ.set i none) S).noEx := by
  unfold pickL
  simp only [if_true, if_pos hi]
theorem pickL_miss {x : Str} {o : Option Nat × (ClsI → List D → Ss)} {r : List (Str × Option Nat × (ClsI → List D → Ss))} (hx : ¬ c = x) : pickL c ci fs ρ S ((x, o) :: r) = pickL c ci fs ρ S r := by
  conv => lhs; unfold pickL
  simp only [if_neg hx]
theorem unset_nx {i : Nat} : unset (some i) (.nx ρ S) = .nx (ρ.set i none) S := rfl
theorem noEx_nx : (SR.nx ρ S).noEx = .nx ρ S := rfl
theorem unset_rt {i : Nat} {w : W} : unset (some i) (.rt w S) = .rt w S := rfl
theorem noEx_rt {w : W} : (SR.rt w S).noEx = .rt w S := rfl
theorem toD_dat {d : D} : toD (.dat d) S = .ok d S := rfl
theorem noL_dat {d : D} : noL (.dat d) S = .ok (.dat d) S := rfl
theorem noL_cell {n : Nat} : noL (.cell n) S = .ok (.cell n) S := rfl
end
theorem addL {a b : List D} (h : a.length + b.length ≤ 16777216) : dBin .Add (.lst a) (.lst b) = some (.lst (a ++ b)) := by
  show (if fits (a.length + b.length) then some (D.lst (a ++ b)) else none) = _
  rw [if_pos (fits_of h)]
theorem addT {a b : List D} (h : a.length + b.length ≤ 16777216) : dBin .Add (.tup a) (.tup b) = some (.tup (a ++ b)) := by
  show (if fits (a.length + b.length) then some (D.tup (a ++ b)) else none) = _
  rw [if_pos (fits_of h)]
theorem addS {a b : List Nat} (h : a.length + b.length ≤ 16777216) : dBin .Add (.str (mkS a)) (.str (mkS b)) = some (.str (mkS (a ++ b))) := by
  show (if fits ((mkS a).length + (mkS b).length) then some (D.str (mkS a ++ mkS b)) else none) = _
  rw [if_pos (fitS h), mkS_app]
end EC
namespace K02
open PySem PySem.Spec PyProof.Rows L2 EC
def top (i : Nat) : Stmt := PySem.Challenge.pw_everycrew_k02_whole_tokens.main.body.getD i (.Pass ⟨0, 0, 0, 0⟩)
abbrev s_is_run_sign : Stmt := (top 19)
def d_is_run_sign : DefI := ⟨[("sign" : Str)], ⟨[("sign" : Str)], defScope s_is_run_sign, [], false, false⟩, defBody s_is_run_sign, 40, 30⟩
abbrev s_is_numeral : Stmt := (top 20)
def d_is_numeral : DefI := ⟨[("run" : Str)], ⟨[("run" : Str), ("sign" : Str)], defScope s_is_numeral, [], false, false⟩, defBody s_is_numeral, 40, 30⟩
abbrev s_kind_of : Stmt := (top 21)
def d_kind_of : DefI := ⟨[("run" : Str)], ⟨[("run" : Str)], defScope s_kind_of, [], false, false⟩, defBody s_kind_of, 40, 30⟩
abbrev s_is_name : Stmt := (top 22)
def d_is_name : DefI := ⟨[("value" : Str)], ⟨[("value" : Str), ("sign" : Str)], defScope s_is_name, [], false, false⟩, defBody s_is_name, 40, 30⟩
abbrev s_Scanner___init__ : Stmt := (inClass (top 23) 0)
def d_Scanner___init__ : DefI := ⟨[("self" : Str), ("text" : Str)], ⟨[("self" : Str), ("text" : Str)], defScope s_Scanner___init__, [], false, false⟩, defBody s_Scanner___init__, 40, 30⟩
abbrev s_Scanner_is_over : Stmt := (inClass (top 23) 1)
def d_Scanner_is_over : DefI := ⟨[("self" : Str)], ⟨[("self" : Str)], defScope s_Scanner_is_over, [], false, false⟩, defBody s_Scanner_is_over, 40, 30⟩
abbrev s_Scanner_skip : Stmt := (inClass (top 23) 2)
def d_Scanner_skip : DefI := ⟨[("self" : Str), ("many" : Str)], ⟨[("self" : Str), ("many" : Str)], defScope s_Scanner_skip, [], false, false⟩, defBody s_Scanner_skip, 40, 30⟩
abbrev s_Scanner_pass_gap : Stmt := (inClass (top 23) 3)
def d_Scanner_pass_gap : DefI := ⟨[("self" : Str)], ⟨[("self" : Str), ("sign" : Str)], defScope s_Scanner_pass_gap, [], false, false⟩, defBody s_Scanner_pass_gap, 40, 30⟩
abbrev s_Scanner_token : Stmt := (inClass (top 23) 4)
def d_Scanner_token : DefI := ⟨[("self" : Str)], ⟨[("self" : Str), ("place" : Str), ("many" : Str), ("word" : Str), ("kind" : Str)], defScope s_Scanner_token, [], false, false⟩, defBody s_Scanner_token, 40, 30⟩
abbrev s_tokens : Stmt := (top 24)
def d_tokens : DefI := ⟨[("text" : Str)], ⟨[("text" : Str), ("scanner" : Str), ("found" : Str)], defScope s_tokens, [("found" : Str)], false, false⟩, defBody s_tokens, 40, 30⟩
abbrev s__law_pen : Stmt := (top 26)
def d__law_pen : DefI := ⟨[("script" : Str)], ⟨[("script" : Str), ("fold" : Str), ("cell" : Str)], defScope s__law_pen, [], true, false⟩, defBody s__law_pen, 40, 30⟩
abbrev s__law_draw : Stmt := (top 27)
def d__law_draw : DefI := ⟨[("pen" : Str), ("many" : Str)], ⟨[("pen" : Str), ("many" : Str), ("cell" : Str), ("digit" : Str), ("blend" : Str)], defScope s__law_draw, [("pen" : Str)], false, false⟩, defBody s__law_draw, 40, 30⟩
abbrev s__law_pick : Stmt := (top 28)
def d__law_pick : DefI := ⟨[("pen" : Str), ("some" : Str)], ⟨[("pen" : Str), ("some" : Str)], defScope s__law_pick, [], false, false⟩, defBody s__law_pick, 40, 30⟩
abbrev s__law_shuffled : Stmt := (top 29)
def d__law_shuffled : DefI := ⟨[("pen" : Str), ("some" : Str)], ⟨[("pen" : Str), ("some" : Str), ("left" : Str), ("found" : Str), ("lap" : Str)], defScope s__law_shuffled, [("found" : Str), ("left" : Str)], false, false⟩, defBody s__law_shuffled, 40, 30⟩
abbrev s__law_name : Stmt := (top 30)
def d__law_name : DefI := ⟨[("pen" : Str), ("index" : Str)], ⟨[("pen" : Str), ("index" : Str), ("word" : Str), ("spot" : Str), ("place" : Str)], defScope s__law_name, [], false, false⟩, defBody s__law_name, 40, 30⟩
abbrev s__law_names : Stmt := (top 31)
def d__law_names : DefI := ⟨[("pen" : Str), ("many" : Str)], ⟨[("pen" : Str), ("many" : Str), ("index" : Str)], defScope s__law_names, [], false, false⟩, defBody s__law_names, 40, 30⟩
abbrev s__law_same : Stmt := (top 32)
def d__law_same : DefI := ⟨[("told" : Str), ("due" : Str)], ⟨[("told" : Str), ("due" : Str), ("one" : Str), ("two" : Str)], defScope s__law_same, [], false, false⟩, defBody s__law_same, 40, 30⟩
abbrev s__law_why : Stmt := (top 33)
def d__law_why : DefI := ⟨[("call" : Str)], ⟨[("call" : Str), ("found" : Str), ("error" : Str)], defScope s__law_why, [], false, false⟩, defBody s__law_why, 40, 30⟩
abbrev s__law_keys : Stmt := (top 34)
def d__law_keys : DefI := ⟨[], ⟨[], defScope s__law_keys, [], false, false⟩, defBody s__law_keys, 40, 30⟩
abbrev s__law_is_name : Stmt := (top 35)
def d__law_is_name : DefI := ⟨[("value" : Str)], ⟨[("value" : Str), ("sign" : Str)], defScope s__law_is_name, [], false, false⟩, defBody s__law_is_name, 40, 30⟩
abbrev s__law_is_number : Stmt := (top 36)
def d__law_is_number : DefI := ⟨[("word" : Str)], ⟨[("word" : Str), ("sign" : Str)], defScope s__law_is_number, [], false, false⟩, defBody s__law_is_number, 40, 30⟩
abbrev s__law_kind_of_word : Stmt := (top 37)
def d__law_kind_of_word : DefI := ⟨[("word" : Str)], ⟨[("word" : Str)], defScope s__law_kind_of_word, [], false, false⟩, defBody s__law_kind_of_word, 40, 30⟩
abbrev s__law_due : Stmt := (top 38)
def d__law_due : DefI := ⟨[("text" : Str)], ⟨[("text" : Str), ("found" : Str), ("line" : Str), ("column" : Str), ("at" : Str), ("run" : Str), ("lap" : Str), ("sign" : Str), ("many" : Str), ("step" : Str), ("word" : Str), ("kind" : Str)], defScope s__law_due, [("found" : Str)], false, false⟩, defBody s__law_due, 40, 30⟩
abbrev s__law_is_told : Stmt := (top 39)
def d__law_is_told : DefI := ⟨[("text" : Str)], ⟨[("text" : Str), ("told" : Str), ("due" : Str)], defScope s__law_is_told, [("told" : Str)], false, true⟩, defBody s__law_is_told, 40, 30⟩
abbrev s_law : Stmt := (top 40)
def d_law : DefI := ⟨[("script" : Str)], ⟨[("script" : Str), ("pen" : Str), ("lap" : Str), ("names" : Str), ("right" : Str), ("wrong" : Str), ("text" : Str), ("turn" : Str), ("word" : Str), ("value" : Str), ("odd" : Str)], defScope s_law, [], false, true⟩, defBody s_law, 40, 30⟩
def prg : Prg := [(("is_run_sign" : Str), d_is_run_sign), (("is_numeral" : Str), d_is_numeral), (("kind_of" : Str), d_kind_of), (("is_name" : Str), d_is_name), (("Scanner.__init__" : Str), d_Scanner___init__), (("Scanner.is_over" : Str), d_Scanner_is_over), (("Scanner.skip" : Str), d_Scanner_skip), (("Scanner.pass_gap" : Str), d_Scanner_pass_gap), (("Scanner.token" : Str), d_Scanner_token), (("tokens" : Str), d_tokens), (("_law_pen" : Str), d__law_pen), (("_law_draw" : Str), d__law_draw), (("_law_pick" : Str), d__law_pick), (("_law_shuffled" : Str), d__law_shuffled), (("_law_name" : Str), d__law_name), (("_law_names" : Str), d__law_names), (("_law_same" : Str), d__law_same), (("_law_why" : Str), d__law_why), (("_law_keys" : Str), d__law_keys), (("_law_is_name" : Str), d__law_is_name), (("_law_is_number" : Str), d__law_is_number), (("_law_kind_of_word" : Str), d__law_kind_of_word), (("_law_due" : Str), d__law_due), (("_law_is_told" : Str), d__law_is_told), (("law" : Str), d_law)]
abbrev s_BadText___init__ : Stmt := (inClass (top 2) 0)
abbrev s_Misread___init__ : Stmt := (inClass (top 3) 0)
abbrev s_Misplaced___init__ : Stmt := (inClass (top 4) 0)
abbrev s_BadName___init__ : Stmt := (inClass (top 5) 0)
abbrev s_BadNumber___init__ : Stmt := (inClass (top 6) 0)
abbrev s_BadRow___init__ : Stmt := (inClass (top 7) 0)
abbrev s_TakenName___init__ : Stmt := (inClass (top 8) 0)
abbrev s_Unlike___init__ : Stmt := (inClass (top 9) 0)
abbrev s_NotThere___init__ : Stmt := (inClass (top 10) 0)
abbrev s_TooMany___init__ : Stmt := (inClass (top 11) 0)
abbrev fnsL (a0 a1 a2 a3 a4 a5 a6 a7 a8 a9 a10 a11 a12 a13 a14 a15 a16 a17 a18 a19 a20 a21 a22 a23 a24 C0 E0 E1 E2 E3 E4 E5 E6 E7 E8 E9 cc0 cc1 pp0 pp1 : Addr) : List (Str × Addr) := [(("is_run_sign" : Str), a0), (("is_numeral" : Str), a1), (("kind_of" : Str), a2), (("is_name" : Str), a3), (("tokens" : Str), a9), (("_law_pen" : Str), a10), (("_law_draw" : Str), a11), (("_law_pick" : Str), a12), (("_law_shuffled" : Str), a13), (("_law_name" : Str), a14), (("_law_names" : Str), a15), (("_law_same" : Str), a16), (("_law_why" : Str), a17), (("_law_keys" : Str), a18), (("_law_is_name" : Str), a19), (("_law_is_number" : Str), a20), (("_law_kind_of_word" : Str), a21), (("_law_due" : Str), a22), (("_law_is_told" : Str), a23), (("law" : Str), a24)]
abbrev clsL (a0 a1 a2 a3 a4 a5 a6 a7 a8 a9 a10 a11 a12 a13 a14 a15 a16 a17 a18 a19 a20 a21 a22 a23 a24 C0 E0 E1 E2 E3 E4 E5 E6 E7 E8 E9 cc0 cc1 pp0 pp1 : Addr) : List (Str × ClsI) := [(("Scanner" : Str), ⟨C0, [("text" : Str), ("at" : Str), ("line" : Str), ("column" : Str)], some (("Scanner.__init__" : Str), a4), [(("is_over" : Str), ("Scanner.is_over" : Str), a5), (("skip" : Str), ("Scanner.skip" : Str), a6), (("pass_gap" : Str), ("Scanner.pass_gap" : Str), a7), (("token" : Str), ("Scanner.token" : Str), a8)], true⟩)]
abbrev exsL (a0 a1 a2 a3 a4 a5 a6 a7 a8 a9 a10 a11 a12 a13 a14 a15 a16 a17 a18 a19 a20 a21 a22 a23 a24 C0 E0 E1 E2 E3 E4 E5 E6 E7 E8 E9 cc0 cc1 pp0 pp1 : Addr) : List (Str × ClsI) := [(("BadText" : Str), ⟨E0, [("word" : Str), ("line" : Str)], none, [], false⟩), (("Misread" : Str), ⟨E1, [("column" : Str), ("line" : Str)], none, [], false⟩), (("Misplaced" : Str), ⟨E2, [("name" : Str), ("why" : Str), ("column" : Str), ("line" : Str)], none, [], false⟩), (("BadName" : Str), ⟨E3, [("name" : Str)], none, [], false⟩), (("BadNumber" : Str), ⟨E4, [("number" : Str), ("what" : Str)], none, [], false⟩), (("BadRow" : Str), ⟨E5, [("row" : Str), ("what" : Str)], none, [], false⟩), (("TakenName" : Str), ⟨E6, [("name" : Str)], none, [], false⟩), (("Unlike" : Str), ⟨E7, [("what" : Str)], none, [], false⟩), (("NotThere" : Str), ⟨E8, [("what" : Str)], none, [], false⟩), (("TooMany" : Str), ⟨E9, [("limit" : Str), ("many" : Str), ("what" : Str)], none, [], false⟩)]
def conL : List (Str × D) := [(("KEYS" : Str), .kup [.str ("site" : Str), .str ("place" : Str), .str ("crew" : Str), .str ("rest" : Str), .str ("road" : Str), .str ("to" : Str), .str ("by" : Str), .str ("cost" : Str), .str ("laid" : Str)]), (("SIGNS" : Str), .kup [.str ("{" : Str), .str ("}" : Str), .str ("," : Str), .str (";" : Str), .str (":" : Str)]), (("LETTERS" : Str), .str ("abcdefghijklmnopqrstuvwxyz" : Str)), (("FIGURES" : Str), .str ("0123456789" : Str)), (("LONGEST_NAME" : Str), .int 12), (("LONGEST_NUMBER" : Str), .int 3)]
def gam (a0 a1 a2 a3 a4 a5 a6 a7 a8 a9 a10 a11 a12 a13 a14 a15 a16 a17 a18 a19 a20 a21 a22 a23 a24 C0 E0 E1 E2 E3 E4 E5 E6 E7 E8 E9 cc0 cc1 pp0 pp1 : Addr) : Gam := { fns := fnsL a0 a1 a2 a3 a4 a5 a6 a7 a8 a9 a10 a11 a12 a13 a14 a15 a16 a17 a18 a19 a20 a21 a22 a23 a24 C0 E0 E1 E2 E3 E4 E5 E6 E7 E8 E9 cc0 cc1 pp0 pp1, clss := clsL a0 a1 a2 a3 a4 a5 a6 a7 a8 a9 a10 a11 a12 a13 a14 a15 a16 a17 a18 a19 a20 a21 a22 a23 a24 C0 E0 E1 E2 E3 E4 E5 E6 E7 E8 E9 cc0 cc1 pp0 pp1, cons := conL, exs := exsL a0 a1 a2 a3 a4 a5 a6 a7 a8 a9 a10 a11 a12 a13 a14 a15 a16 a17 a18 a19 a20 a21 a22 a23 a24 C0 E0 E1 E2 E3 E4 E5 E6 E7 E8 E9 cc0 cc1 pp0 pp1, tabs := [(pp0, ("_law_is_told.<locals>.<lambda>" : Str)), (pp1, ("law.<locals>.<lambda>" : Str))], cds := [(cc0, pp0), (cc1, pp1)], lam := none }
section
variable {K : PySem.W.Frag} {h : Heap} {mg : Str → Option Value}
theorem kn_is_run_sign {G : Gam} {a : Addr} (D : DefAt K ("is_run_sign" : Str) ("is_run_sign" : Str) s_is_run_sign a) : Known K G prg ("is_run_sign" : Str) a := known_mk d_is_run_sign D (by rfl) ⟨rfl, rfl, rfl, by decide +kernel, rfl, by decide +kernel, by decide +kernel⟩ (fun _ _ _ _ _ _ us hl => match us, hl with | [_], _ => rfl) rfl rfl rfl
theorem kn_is_numeral {G : Gam} {a : Addr} (D : DefAt K ("is_numeral" : Str) ("is_numeral" : Str) s_is_numeral a) : Known K G prg ("is_numeral" : Str) a := known_mk d_is_numeral D (by rfl) ⟨rfl, rfl, rfl, by decide +kernel, rfl, by decide +kernel, by decide +kernel⟩ (fun _ _ _ _ _ _ us hl => match us, hl with | [_], _ => rfl) rfl rfl rfl
theorem kn_kind_of {G : Gam} {a : Addr} (D : DefAt K ("kind_of" : Str) ("kind_of" : Str) s_kind_of a) : Known K G prg ("kind_of" : Str) a := known_mk d_kind_of D (by rfl) ⟨rfl, rfl, rfl, by decide +kernel, rfl, by decide +kernel, by decide +kernel⟩ (fun _ _ _ _ _ _ us hl => match us, hl with | [_], _ => rfl) rfl rfl rfl
theorem kn_is_name {G : Gam} {a : Addr} (D : DefAt K ("is_name" : Str) ("is_name" : Str) s_is_name a) : Known K G prg ("is_name" : Str) a := known_mk d_is_name D (by rfl) ⟨rfl, rfl, rfl, by decide +kernel, rfl, by decide +kernel, by decide +kernel⟩ (fun _ _ _ _ _ _ us hl => match us, hl with | [_], _ => rfl) rfl rfl rfl
theorem kn_Scanner___init__ {G : Gam} {a : Addr} (D : DefAt K ("__init__" : Str) ("Scanner.__init__" : Str) s_Scanner___init__ a) : Known K G prg ("Scanner.__init__" : Str) a := known_mk d_Scanner___init__ D (by rfl) ⟨rfl, rfl, rfl, by decide +kernel, rfl, by decide +kernel, by decide +kernel⟩ (fun _ _ _ _ _ _ us hl => match us, hl with | [_, _], _ => rfl) rfl rfl rfl
theorem kn_Scanner_is_over {G : Gam} {a : Addr} (D : DefAt K ("is_over" : Str) ("Scanner.is_over" : Str) s_Scanner_is_over a) : Known K G prg ("Scanner.is_over" : Str) a := known_mk d_Scanner_is_over D (by rfl) ⟨rfl, rfl, rfl, by decide +kernel, rfl, by decide +kernel, by decide +kernel⟩ (fun _ _ _ _ _ _ us hl => match us, hl with | [_], _ => rfl) rfl rfl rfl
theorem kn_Scanner_skip {G : Gam} {a : Addr} (D : DefAt K ("skip" : Str) ("Scanner.skip" : Str) s_Scanner_skip a) : Known K G prg ("Scanner.skip" : Str) a := known_mk d_Scanner_skip D (by rfl) ⟨rfl, rfl, rfl, by decide +kernel, rfl, by decide +kernel, by decide +kernel⟩ (fun _ _ _ _ _ _ us hl => match us, hl with | [_, _], _ => rfl) rfl rfl rfl
theorem kn_Scanner_pass_gap {G : Gam} {a : Addr} (D : DefAt K ("pass_gap" : Str) ("Scanner.pass_gap" : Str) s_Scanner_pass_gap a) : Known K G prg ("Scanner.pass_gap" : Str) a := known_mk d_Scanner_pass_gap D (by rfl) ⟨rfl, rfl, rfl, by decide +kernel, rfl, by decide +kernel, by decide +kernel⟩ (fun _ _ _ _ _ _ us hl => match us, hl with | [_], _ => rfl) rfl rfl rfl
theorem kn_Scanner_token {G : Gam} {a : Addr} (D : DefAt K ("token" : Str) ("Scanner.token" : Str) s_Scanner_token a) : Known K G prg ("Scanner.token" : Str) a := known_mk d_Scanner_token D (by rfl) ⟨rfl, rfl, rfl, by decide +kernel, rfl, by decide +kernel, by decide +kernel⟩ (fun _ _ _ _ _ _ us hl => match us, hl with | [_], _ => rfl) rfl rfl rfl
theorem kn_tokens {G : Gam} {a : Addr} (D : DefAt K ("tokens" : Str) ("tokens" : Str) s_tokens a) : Known K G prg ("tokens" : Str) a := known_mk d_tokens D (by rfl) ⟨rfl, rfl, rfl, by decide +kernel, rfl, by decide +kernel, by decide +kernel⟩ (fun _ _ _ _ _ _ us hl => match us, hl with | [_], _ => rfl) rfl rfl rfl
theorem kn__law_pen {G : Gam} {a : Addr} (D : DefAt K ("_law_pen" : Str) ("_law_pen" : Str) s__law_pen a) : Known K G prg ("_law_pen" : Str) a := known_mk d__law_pen D (by rfl) ⟨rfl, rfl, rfl, by decide +kernel, rfl, by decide +kernel, by decide +kernel⟩ (fun _ _ _ _ _ _ us hl => match us, hl with | [_], _ => rfl) rfl rfl rfl
theorem kn__law_draw {G : Gam} {a : Addr} (D : DefAt K ("_law_draw" : Str) ("_law_draw" : Str) s__law_draw a) : Known K G prg ("_law_draw" : Str) a := known_mk d__law_draw D (by rfl) ⟨rfl, rfl, rfl, by decide +kernel, rfl, by decide +kernel, by decide +kernel⟩ (fun _ _ _ _ _ _ us hl => match us, hl with | [_, _], _ => rfl) rfl rfl rfl
theorem kn__law_pick {G : Gam} {a : Addr} (D : DefAt K ("_law_pick" : Str) ("_law_pick" : Str) s__law_pick a) : Known K G prg ("_law_pick" : Str) a := known_mk d__law_pick D (by rfl) ⟨rfl, rfl, rfl, by decide +kernel, rfl, by decide +kernel, by decide +kernel⟩ (fun _ _ _ _ _ _ us hl => match us, hl with | [_, _], _ => rfl) rfl rfl rfl
theorem kn__law_shuffled {G : Gam} {a : Addr} (D : DefAt K ("_law_shuffled" : Str) ("_law_shuffled" : Str) s__law_shuffled a) : Known K G prg ("_law_shuffled" : Str) a := known_mk d__law_shuffled D (by rfl) ⟨rfl, rfl, rfl, by decide +kernel, rfl, by decide +kernel, by decide +kernel⟩ (fun _ _ _ _ _ _ us hl => match us, hl with | [_, _], _ => rfl) rfl rfl rfl
theorem kn__law_name {G : Gam} {a : Addr} (D : DefAt K ("_law_name" : Str) ("_law_name" : Str) s__law_name a) : Known K G prg ("_law_name" : Str) a := known_mk d__law_name D (by rfl) ⟨rfl, rfl, rfl, by decide +kernel, rfl, by decide +kernel, by decide +kernel⟩ (fun _ _ _ _ _ _ us hl => match us, hl with | [_, _], _ => rfl) rfl rfl rfl
theorem kn__law_names {G : Gam} {a : Addr} (D : DefAt K ("_law_names" : Str) ("_law_names" : Str) s__law_names a) : Known K G prg ("_law_names" : Str) a := known_mk d__law_names D (by rfl) ⟨rfl, rfl, rfl, by decide +kernel, rfl, by decide +kernel, by decide +kernel⟩ (fun _ _ _ _ _ _ us hl => match us, hl with | [_, _], _ => rfl) rfl rfl rfl
theorem kn__law_same {G : Gam} {a : Addr} (D : DefAt K ("_law_same" : Str) ("_law_same" : Str) s__law_same a) : Known K G prg ("_law_same" : Str) a := known_mk d__law_same D (by rfl) ⟨rfl, rfl, rfl, by decide +kernel, rfl, by decide +kernel, by decide +kernel⟩ (fun _ _ _ _ _ _ us hl => match us, hl with | [_, _], _ => rfl) rfl rfl rfl
theorem kn__law_why {G : Gam} {a : Addr} (D : DefAt K ("_law_why" : Str) ("_law_why" : Str) s__law_why a) : Known K G prg ("_law_why" : Str) a := known_mk d__law_why D (by rfl) ⟨rfl, rfl, rfl, by decide +kernel, rfl, by decide +kernel, by decide +kernel⟩ (fun _ _ _ _ _ _ us hl => match us, hl with | [_], _ => rfl) rfl rfl rfl
theorem kn__law_keys {G : Gam} {a : Addr} (D : DefAt K ("_law_keys" : Str) ("_law_keys" : Str) s__law_keys a) : Known K G prg ("_law_keys" : Str) a := known_mk d__law_keys D (by rfl) ⟨rfl, rfl, rfl, by decide +kernel, rfl, by decide +kernel, by decide +kernel⟩ (fun _ _ _ _ _ _ us hl => match us, hl with | [], _ => rfl) rfl rfl rfl
theorem kn__law_is_name {G : Gam} {a : Addr} (D : DefAt K ("_law_is_name" : Str) ("_law_is_name" : Str) s__law_is_name a) : Known K G prg ("_law_is_name" : Str) a := known_mk d__law_is_name D (by rfl) ⟨rfl, rfl, rfl, by decide +kernel, rfl, by decide +kernel, by decide +kernel⟩ (fun _ _ _ _ _ _ us hl => match us, hl with | [_], _ => rfl) rfl rfl rfl
theorem kn__law_is_number {G : Gam} {a : Addr} (D : DefAt K ("_law_is_number" : Str) ("_law_is_number" : Str) s__law_is_number a) : Known K G prg ("_law_is_number" : Str) a := known_mk d__law_is_number D (by rfl) ⟨rfl, rfl, rfl, by decide +kernel, rfl, by decide +kernel, by decide +kernel⟩ (fun _ _ _ _ _ _ us hl => match us, hl with | [_], _ => rfl) rfl rfl rfl
theorem kn__law_kind_of_word {G : Gam} {a : Addr} (D : DefAt K ("_law_kind_of_word" : Str) ("_law_kind_of_word" : Str) s__law_kind_of_word a) : Known K G prg ("_law_kind_of_word" : Str) a := known_mk d__law_kind_of_word D (by rfl) ⟨rfl, rfl, rfl, by decide +kernel, rfl, by decide +kernel, by decide +kernel⟩ (fun _ _ _ _ _ _ us hl => match us, hl with | [_], _ => rfl) rfl rfl rfl
theorem kn__law_due {G : Gam} {a : Addr} (D : DefAt K ("_law_due" : Str) ("_law_due" : Str) s__law_due a) : Known K G prg ("_law_due" : Str) a := known_mk d__law_due D (by rfl) ⟨rfl, rfl, rfl, by decide +kernel, rfl, by decide +kernel, by decide +kernel⟩ (fun _ _ _ _ _ _ us hl => match us, hl with | [_], _ => rfl) rfl rfl rfl
theorem kn__law_is_told {G : Gam} {a c : Addr} (D : DefAtC K ("_law_is_told" : Str) ("_law_is_told" : Str) s__law_is_told a c) (T : LamTab G ("_law_is_told" : Str) (.ref c)) : Known K G prg ("_law_is_told" : Str) a := known_mkC d__law_is_told D (by rfl) ⟨rfl, rfl, rfl, by decide +kernel, rfl, by decide +kernel, by decide +kernel⟩ (fun _ _ _ _ _ _ us hl => match us, hl with | [_], _ => rfl) rfl rfl T
theorem kn_law {G : Gam} {a c : Addr} (D : DefAtC K ("law" : Str) ("law" : Str) s_law a c) (T : LamTab G ("law" : Str) (.ref c)) : Known K G prg ("law" : Str) a := known_mkC d_law D (by rfl) ⟨rfl, rfl, rfl, by decide +kernel, rfl, by decide +kernel, by decide +kernel⟩ (fun _ _ _ _ _ _ us hl => match us, hl with | [_], _ => rfl) rfl rfl T
structure Facts (K : PySem.W.Frag) (a0 a1 a2 a3 a4 a5 a6 a7 a8 a9 a10 a11 a12 a13 a14 a15 a16 a17 a18 a19 a20 a21 a22 a23 a24 C0 E0 E1 E2 E3 E4 E5 E6 E7 E8 E9 cc0 cc1 pp0 pp1 : Addr) : Prop where
  gf : ∀ (h : Heap) (mg : Str → Option Value), K.In h → h.Ns mainGlobals mg → GFacts K mg (gam a0 a1 a2 a3 a4 a5 a6 a7 a8 a9 a10 a11 a12 a13 a14 a15 a16 a17 a18 a19 a20 a21 a22 a23 a24 C0 E0 E1 E2 E3 E4 E5 E6 E7 E8 E9 cc0 cc1 pp0 pp1)
  po : PrgOk K (gam a0 a1 a2 a3 a4 a5 a6 a7 a8 a9 a10 a11 a12 a13 a14 a15 a16 a17 a18 a19 a20 a21 a22 a23 a24 C0 E0 E1 E2 E3 E4 E5 E6 E7 E8 E9 cc0 cc1 pp0 pp1) prg
  dl : ∃ fd, Fun K "law" "law" s_law a24 fd ∧ (d_law.fi.tb = true → LamTab (gam a0 a1 a2 a3 a4 a5 a6 a7 a8 a9 a10 a11 a12 a13 a14 a15 a16 a17 a18 a19 a20 a21 a22 a23 a24 C0 E0 E1 E2 E3 E4 E5 E6 E7 E8 E9 cc0 cc1 pp0 pp1) "law" fd.code)
  nl : PySem.W.nsIn K mainGlobals "law" = some (some (.ref a24))
  nt : ∀ p ∈ (gam a0 a1 a2 a3 a4 a5 a6 a7 a8 a9 a10 a11 a12 a13 a14 a15 a16 a17 a18 a19 a20 a21 a22 a23 a24 C0 E0 E1 E2 E3 E4 E5 E6 E7 E8 E9 cc0 cc1 pp0 pp1).cds, K.lookup p.2 = none
  ct : ∀ p ∈ (gam a0 a1 a2 a3 a4 a5 a6 a7 a8 a9 a10 a11 a12 a13 a14 a15 a16 a17 a18 a19 a20 a21 a22 a23 a24 C0 E0 E1 E2 E3 E4 E5 E6 E7 E8 E9 cc0 cc1 pp0 pp1).cds, PySem.W.codeHdIn K p.1 p.2 = true
set_option maxRecDepth 100000 in
set_option maxHeartbeats 4000000 in
theorem facts {a0 a1 a2 a3 a4 a5 a6 a7 a8 a9 a10 a11 a12 a13 a14 a15 a16 a17 a18 a19 a20 a21 a22 a23 a24 C0 E0 E1 E2 E3 E4 E5 E6 E7 E8 E9 cc0 cc1 pp0 pp1 iE0 iE1 iE2 iE3 iE4 iE5 iE6 iE7 iE8 iE9 : Addr} {cd_C0 cd_E0 cd_E1 cd_E2 cd_E3 cd_E4 cd_E5 cd_E6 cd_E7 cd_E8 cd_E9 : ClassData} {ka_KEYS : Addr} {tk_KEYS_0 : Tok} {tk_KEYS_1 : Tok} {tk_KEYS_2 : Tok} {tk_KEYS_3 : Tok} {tk_KEYS_4 : Tok} {tk_KEYS_5 : Tok} {tk_KEYS_6 : Tok} {tk_KEYS_7 : Tok} {tk_KEYS_8 : Tok} {dd_KEYS : Option Addr} {nn_KEYS : Nat} {sl_KEYS : Array (Option Value)} {ka_SIGNS : Addr} {tk_SIGNS_0 : Tok} {tk_SIGNS_1 : Tok} {tk_SIGNS_2 : Tok} {tk_SIGNS_3 : Tok} {tk_SIGNS_4 : Tok} {dd_SIGNS : Option Addr} {nn_SIGNS : Nat} {sl_SIGNS : Array (Option Value)} {tk_LETTERS : Tok} {tk_FIGURES : Tok} {tk_LONGEST_NAME : Tok} {tk_LONGEST_NUMBER : Tok}
    (n_a0 : PySem.W.nsIn K mainGlobals ("is_run_sign" : Str) = some (some (.ref a0)))
    (n_a1 : PySem.W.nsIn K mainGlobals ("is_numeral" : Str) = some (some (.ref a1)))
    (n_a2 : PySem.W.nsIn K mainGlobals ("kind_of" : Str) = some (some (.ref a2)))
    (n_a3 : PySem.W.nsIn K mainGlobals ("is_name" : Str) = some (some (.ref a3)))
    (n_a9 : PySem.W.nsIn K mainGlobals ("tokens" : Str) = some (some (.ref a9)))
    (n_a10 : PySem.W.nsIn K mainGlobals ("_law_pen" : Str) = some (some (.ref a10)))
    (n_a11 : PySem.W.nsIn K mainGlobals ("_law_draw" : Str) = some (some (.ref a11)))
    (n_a12 : PySem.W.nsIn K mainGlobals ("_law_pick" : Str) = some (some (.ref a12)))
    (n_a13 : PySem.W.nsIn K mainGlobals ("_law_shuffled" : Str) = some (some (.ref a13)))
    (n_a14 : PySem.W.nsIn K mainGlobals ("_law_name" : Str) = some (some (.ref a14)))
    (n_a15 : PySem.W.nsIn K mainGlobals ("_law_names" : Str) = some (some (.ref a15)))
    (n_a16 : PySem.W.nsIn K mainGlobals ("_law_same" : Str) = some (some (.ref a16)))
    (n_a17 : PySem.W.nsIn K mainGlobals ("_law_why" : Str) = some (some (.ref a17)))
    (n_a18 : PySem.W.nsIn K mainGlobals ("_law_keys" : Str) = some (some (.ref a18)))
    (n_a19 : PySem.W.nsIn K mainGlobals ("_law_is_name" : Str) = some (some (.ref a19)))
    (n_a20 : PySem.W.nsIn K mainGlobals ("_law_is_number" : Str) = some (some (.ref a20)))
    (n_a21 : PySem.W.nsIn K mainGlobals ("_law_kind_of_word" : Str) = some (some (.ref a21)))
    (n_a22 : PySem.W.nsIn K mainGlobals ("_law_due" : Str) = some (some (.ref a22)))
    (n_a23 : PySem.W.nsIn K mainGlobals ("_law_is_told" : Str) = some (some (.ref a23)))
    (n_a24 : PySem.W.nsIn K mainGlobals ("law" : Str) = some (some (.ref a24)))
    (n_C0 : PySem.W.nsIn K mainGlobals ("Scanner" : Str) = some (some (.ref C0)))
    (n_a4 : PySem.W.findIn K (.ref C0) ("__init__" : Str) = some (some (.ref a4)))
    (i_a4 : PySem.W.isFn K (.ref a4) = true)
    (n_a5 : PySem.W.findIn K (.ref C0) ("is_over" : Str) = some (some (.ref a5)))
    (i_a5 : PySem.W.isFn K (.ref a5) = true)
    (n_a6 : PySem.W.findIn K (.ref C0) ("skip" : Str) = some (some (.ref a6)))
    (i_a6 : PySem.W.isFn K (.ref a6) = true)
    (n_a7 : PySem.W.findIn K (.ref C0) ("pass_gap" : Str) = some (some (.ref a7)))
    (i_a7 : PySem.W.isFn K (.ref a7) = true)
    (n_a8 : PySem.W.findIn K (.ref C0) ("token" : Str) = some (some (.ref a8)))
    (i_a8 : PySem.W.isFn K (.ref a8) = true)
    (d_a0 : DefAt K ("is_run_sign" : Str) ("is_run_sign" : Str) s_is_run_sign a0)
    (d_a1 : DefAt K ("is_numeral" : Str) ("is_numeral" : Str) s_is_numeral a1)
    (d_a2 : DefAt K ("kind_of" : Str) ("kind_of" : Str) s_kind_of a2)
    (d_a3 : DefAt K ("is_name" : Str) ("is_name" : Str) s_is_name a3)
    (d_a4 : DefAt K ("__init__" : Str) ("Scanner.__init__" : Str) s_Scanner___init__ a4)
    (d_a5 : DefAt K ("is_over" : Str) ("Scanner.is_over" : Str) s_Scanner_is_over a5)
    (d_a6 : DefAt K ("skip" : Str) ("Scanner.skip" : Str) s_Scanner_skip a6)
    (d_a7 : DefAt K ("pass_gap" : Str) ("Scanner.pass_gap" : Str) s_Scanner_pass_gap a7)
    (d_a8 : DefAt K ("token" : Str) ("Scanner.token" : Str) s_Scanner_token a8)
    (d_a9 : DefAt K ("tokens" : Str) ("tokens" : Str) s_tokens a9)
    (d_a10 : DefAt K ("_law_pen" : Str) ("_law_pen" : Str) s__law_pen a10)
    (d_a11 : DefAt K ("_law_draw" : Str) ("_law_draw" : Str) s__law_draw a11)
    (d_a12 : DefAt K ("_law_pick" : Str) ("_law_pick" : Str) s__law_pick a12)
    (d_a13 : DefAt K ("_law_shuffled" : Str) ("_law_shuffled" : Str) s__law_shuffled a13)
    (d_a14 : DefAt K ("_law_name" : Str) ("_law_name" : Str) s__law_name a14)
    (d_a15 : DefAt K ("_law_names" : Str) ("_law_names" : Str) s__law_names a15)
    (d_a16 : DefAt K ("_law_same" : Str) ("_law_same" : Str) s__law_same a16)
    (d_a17 : DefAt K ("_law_why" : Str) ("_law_why" : Str) s__law_why a17)
    (d_a18 : DefAt K ("_law_keys" : Str) ("_law_keys" : Str) s__law_keys a18)
    (d_a19 : DefAt K ("_law_is_name" : Str) ("_law_is_name" : Str) s__law_is_name a19)
    (d_a20 : DefAt K ("_law_is_number" : Str) ("_law_is_number" : Str) s__law_is_number a20)
    (d_a21 : DefAt K ("_law_kind_of_word" : Str) ("_law_kind_of_word" : Str) s__law_kind_of_word a21)
    (d_a22 : DefAt K ("_law_due" : Str) ("_law_due" : Str) s__law_due a22)
    (d_a23 : DefAtC K ("_law_is_told" : Str) ("_law_is_told" : Str) s__law_is_told a23 cc0)
    (kc_a23 : PySem.W.codeHdIn K cc0 pp0 = true)
    (kn_a23 : K.lookup pp0 = none)
    (d_a24 : DefAtC K ("law" : Str) ("law" : Str) s_law a24 cc1)
    (kc_a24 : PySem.W.codeHdIn K cc1 pp1 = true)
    (kn_a24 : K.lookup pp1 = none)
    (nd_t : ([pp0, pp1] : List Addr).Nodup)
    (z_len : PySem.W.nsIn K mainGlobals ("len" : Str) = some none)
    (z_sorted : PySem.W.nsIn K mainGlobals ("sorted" : Str) = some none)
    (z_sum : PySem.W.nsIn K mainGlobals ("sum" : Str) = some none)
    (z_min : PySem.W.nsIn K mainGlobals ("min" : Str) = some none)
    (z_max : PySem.W.nsIn K mainGlobals ("max" : Str) = some none)
    (z_all : PySem.W.nsIn K mainGlobals ("all" : Str) = some none)
    (z_any : PySem.W.nsIn K mainGlobals ("any" : Str) = some none)
    (z_abs : PySem.W.nsIn K mainGlobals ("abs" : Str) = some none)
    (z_isinstance : PySem.W.nsIn K mainGlobals ("isinstance" : Str) = some none)
    (z_repr : PySem.W.nsIn K mainGlobals ("repr" : Str) = some none)
    (z_range : PySem.W.nsIn K mainGlobals ("range" : Str) = some none)
    (z_zip : PySem.W.nsIn K mainGlobals ("zip" : Str) = some none)
    (z_enumerate : PySem.W.nsIn K mainGlobals ("enumerate" : Str) = some none)
    (z_int : PySem.W.nsIn K mainGlobals ("int" : Str) = some none)
    (z_str : PySem.W.nsIn K mainGlobals ("str" : Str) = some none)
    (z_bool : PySem.W.nsIn K mainGlobals ("bool" : Str) = some none)
    (z_list : PySem.W.nsIn K mainGlobals ("list" : Str) = some none)
    (z_tuple : PySem.W.nsIn K mainGlobals ("tuple" : Str) = some none)
    (z_dict : PySem.W.nsIn K mainGlobals ("dict" : Str) = some none)
    (z_set : PySem.W.nsIn K mainGlobals ("set" : Str) = some none)
    (z_ValueError : PySem.W.nsIn K mainGlobals ("ValueError" : Str) = some none)
    (o_get : PySem.W.specialIn K (.builtin "object.__class__") "__get__" = some (some (.builtin "getset_descriptor.__get__")))
    (o_tk : PySem.W.takesIn K (.builtin "object.__class__") = some true)
    (pg_C0 : PySem.W.plainGet K C0 Str.empty = true)
    (hd_C0 : PySem.W.hasDictIn K C0 = true)
    (po_C0 : PySem.W.plainOver K C0 = true)
    (sa_C0 : PySem.W.findIn K (.ref C0) "__setattr__" = some (some (.builtin "object.__setattr__")))
    (cl_C0 : PySem.W.findIn K (.ref C0) "__class__" = some (some (.builtin "object.__class__")))
    (mo_C0 : PySem.W.mroIn K C0 (.type "object") = some true)
    (mk_C0 : PySem.W.makesIn K C0 = true)
    (kc_C0 : PySem.W.keepIn K (.ref C0) = true)
    (ci_C0 : PySem.W.clsIn K C0 = some cd_C0)
    (ty_C0 : PySem.W.typeIn K (.ref C0) = some (.type "type"))
    (f_C0_text : PySem.W.findIn K (.ref C0) ("text" : Str) = some none)
    (f_C0_at : PySem.W.findIn K (.ref C0) ("at" : Str) = some none)
    (f_C0_line : PySem.W.findIn K (.ref C0) ("line" : Str) = some none)
    (f_C0_column : PySem.W.findIn K (.ref C0) ("column" : Str) = some none)
    (s_C0_NoneType : PySem.W.subIn K (.ref C0) (.type "NoneType") = some false)
    (t_C0_NoneType : PySem.W.subIn K (.type "NoneType") (.ref C0) = some false)
    (s_C0_bool : PySem.W.subIn K (.ref C0) (.type "bool") = some false)
    (t_C0_bool : PySem.W.subIn K (.type "bool") (.ref C0) = some false)
    (s_C0_int : PySem.W.subIn K (.ref C0) (.type "int") = some false)
    (t_C0_int : PySem.W.subIn K (.type "int") (.ref C0) = some false)
    (s_C0_str : PySem.W.subIn K (.ref C0) (.type "str") = some false)
    (t_C0_str : PySem.W.subIn K (.type "str") (.ref C0) = some false)
    (s_C0_tuple : PySem.W.subIn K (.ref C0) (.type "tuple") = some false)
    (t_C0_tuple : PySem.W.subIn K (.type "tuple") (.ref C0) = some false)
    (s_C0_list : PySem.W.subIn K (.ref C0) (.type "list") = some false)
    (t_C0_list : PySem.W.subIn K (.type "list") (.ref C0) = some false)
    (s_C0_dict : PySem.W.subIn K (.ref C0) (.type "dict") = some false)
    (t_C0_dict : PySem.W.subIn K (.type "dict") (.ref C0) = some false)
    (n_E0 : PySem.W.nsIn K mainGlobals ("BadText" : Str) = some (some (.ref E0)))
    (o_E0 : OexC K E0)
    (ni_E0 : PySem.W.findIn K (.ref E0) "__init__" = some (some (.ref iE0)))
    (ti_E0 : PySem.W.typeIn K (.ref iE0) = some (.type "function"))
    (d_E0 : DefAt K ("__init__" : Str) ("BadText.__init__" : Str) s_BadText___init__ iE0)
    (f_E0_line : PySem.W.findIn K (.ref E0) ("line" : Str) = some none)
    (f_E0_word : PySem.W.findIn K (.ref E0) ("word" : Str) = some none)
    (ga_E0 : PySem.W.findIn K (.ref E0) "__getattribute__" = some (some (.builtin "BaseException.__getattribute__")))
    (gg_E0 : PySem.W.findIn K (.ref E0) "__getattr__" = some none)
    (hd_E0 : PySem.W.hasDictIn K E0 = true)
    (ci_E0 : PySem.W.clsIn K E0 = some cd_E0)
    (x_E0_E0 : PySem.W.subIn K (.ref E0) (.ref E0) = some true)
    (x_E0_E1 : PySem.W.subIn K (.ref E0) (.ref E1) = some false)
    (x_E0_E2 : PySem.W.subIn K (.ref E0) (.ref E2) = some false)
    (x_E0_E3 : PySem.W.subIn K (.ref E0) (.ref E3) = some false)
    (x_E0_E4 : PySem.W.subIn K (.ref E0) (.ref E4) = some false)
    (x_E0_E5 : PySem.W.subIn K (.ref E0) (.ref E5) = some false)
    (x_E0_E6 : PySem.W.subIn K (.ref E0) (.ref E6) = some false)
    (x_E0_E7 : PySem.W.subIn K (.ref E0) (.ref E7) = some false)
    (x_E0_E8 : PySem.W.subIn K (.ref E0) (.ref E8) = some false)
    (x_E0_E9 : PySem.W.subIn K (.ref E0) (.ref E9) = some false)
    (n_E1 : PySem.W.nsIn K mainGlobals ("Misread" : Str) = some (some (.ref E1)))
    (o_E1 : OexC K E1)
    (ni_E1 : PySem.W.findIn K (.ref E1) "__init__" = some (some (.ref iE1)))
    (ti_E1 : PySem.W.typeIn K (.ref iE1) = some (.type "function"))
    (d_E1 : DefAt K ("__init__" : Str) ("Misread.__init__" : Str) s_Misread___init__ iE1)
    (f_E1_line : PySem.W.findIn K (.ref E1) ("line" : Str) = some none)
    (f_E1_column : PySem.W.findIn K (.ref E1) ("column" : Str) = some none)
    (ga_E1 : PySem.W.findIn K (.ref E1) "__getattribute__" = some (some (.builtin "BaseException.__getattribute__")))
    (gg_E1 : PySem.W.findIn K (.ref E1) "__getattr__" = some none)
    (hd_E1 : PySem.W.hasDictIn K E1 = true)
    (ci_E1 : PySem.W.clsIn K E1 = some cd_E1)
    (x_E1_E0 : PySem.W.subIn K (.ref E1) (.ref E0) = some false)
    (x_E1_E1 : PySem.W.subIn K (.ref E1) (.ref E1) = some true)
    (x_E1_E2 : PySem.W.subIn K (.ref E1) (.ref E2) = some false)
    (x_E1_E3 : PySem.W.subIn K (.ref E1) (.ref E3) = some false)
    (x_E1_E4 : PySem.W.subIn K (.ref E1) (.ref E4) = some false)
    (x_E1_E5 : PySem.W.subIn K (.ref E1) (.ref E5) = some false)
    (x_E1_E6 : PySem.W.subIn K (.ref E1) (.ref E6) = some false)
    (x_E1_E7 : PySem.W.subIn K (.ref E1) (.ref E7) = some false)
    (x_E1_E8 : PySem.W.subIn K (.ref E1) (.ref E8) = some false)
    (x_E1_E9 : PySem.W.subIn K (.ref E1) (.ref E9) = some false)
    (n_E2 : PySem.W.nsIn K mainGlobals ("Misplaced" : Str) = some (some (.ref E2)))
    (o_E2 : OexC K E2)
    (ni_E2 : PySem.W.findIn K (.ref E2) "__init__" = some (some (.ref iE2)))
    (ti_E2 : PySem.W.typeIn K (.ref iE2) = some (.type "function"))
    (d_E2 : DefAt K ("__init__" : Str) ("Misplaced.__init__" : Str) s_Misplaced___init__ iE2)
    (f_E2_line : PySem.W.findIn K (.ref E2) ("line" : Str) = some none)
    (f_E2_column : PySem.W.findIn K (.ref E2) ("column" : Str) = some none)
    (f_E2_why : PySem.W.findIn K (.ref E2) ("why" : Str) = some none)
    (f_E2_name : PySem.W.findIn K (.ref E2) ("name" : Str) = some none)
    (ga_E2 : PySem.W.findIn K (.ref E2) "__getattribute__" = some (some (.builtin "BaseException.__getattribute__")))
    (gg_E2 : PySem.W.findIn K (.ref E2) "__getattr__" = some none)
    (hd_E2 : PySem.W.hasDictIn K E2 = true)
    (ci_E2 : PySem.W.clsIn K E2 = some cd_E2)
    (x_E2_E0 : PySem.W.subIn K (.ref E2) (.ref E0) = some false)
    (x_E2_E1 : PySem.W.subIn K (.ref E2) (.ref E1) = some false)
    (x_E2_E2 : PySem.W.subIn K (.ref E2) (.ref E2) = some true)
    (x_E2_E3 : PySem.W.subIn K (.ref E2) (.ref E3) = some false)
    (x_E2_E4 : PySem.W.subIn K (.ref E2) (.ref E4) = some false)
    (x_E2_E5 : PySem.W.subIn K (.ref E2) (.ref E5) = some false)
    (x_E2_E6 : PySem.W.subIn K (.ref E2) (.ref E6) = some false)
    (x_E2_E7 : PySem.W.subIn K (.ref E2) (.ref E7) = some false)
    (x_E2_E8 : PySem.W.subIn K (.ref E2) (.ref E8) = some false)
    (x_E2_E9 : PySem.W.subIn K (.ref E2) (.ref E9) = some false)
    (n_E3 : PySem.W.nsIn K mainGlobals ("BadName" : Str) = some (some (.ref E3)))
    (o_E3 : OexC K E3)
    (ni_E3 : PySem.W.findIn K (.ref E3) "__init__" = some (some (.ref iE3)))
    (ti_E3 : PySem.W.typeIn K (.ref iE3) = some (.type "function"))
    (d_E3 : DefAt K ("__init__" : Str) ("BadName.__init__" : Str) s_BadName___init__ iE3)
    (f_E3_name : PySem.W.findIn K (.ref E3) ("name" : Str) = some none)
    (ga_E3 : PySem.W.findIn K (.ref E3) "__getattribute__" = some (some (.builtin "BaseException.__getattribute__")))
    (gg_E3 : PySem.W.findIn K (.ref E3) "__getattr__" = some none)
    (hd_E3 : PySem.W.hasDictIn K E3 = true)
    (ci_E3 : PySem.W.clsIn K E3 = some cd_E3)
    (x_E3_E0 : PySem.W.subIn K (.ref E3) (.ref E0) = some false)
    (x_E3_E1 : PySem.W.subIn K (.ref E3) (.ref E1) = some false)
    (x_E3_E2 : PySem.W.subIn K (.ref E3) (.ref E2) = some false)
    (x_E3_E3 : PySem.W.subIn K (.ref E3) (.ref E3) = some true)
    (x_E3_E4 : PySem.W.subIn K (.ref E3) (.ref E4) = some false)
    (x_E3_E5 : PySem.W.subIn K (.ref E3) (.ref E5) = some false)
    (x_E3_E6 : PySem.W.subIn K (.ref E3) (.ref E6) = some false)
    (x_E3_E7 : PySem.W.subIn K (.ref E3) (.ref E7) = some false)
    (x_E3_E8 : PySem.W.subIn K (.ref E3) (.ref E8) = some false)
    (x_E3_E9 : PySem.W.subIn K (.ref E3) (.ref E9) = some false)
    (n_E4 : PySem.W.nsIn K mainGlobals ("BadNumber" : Str) = some (some (.ref E4)))
    (o_E4 : OexC K E4)
    (ni_E4 : PySem.W.findIn K (.ref E4) "__init__" = some (some (.ref iE4)))
    (ti_E4 : PySem.W.typeIn K (.ref iE4) = some (.type "function"))
    (d_E4 : DefAt K ("__init__" : Str) ("BadNumber.__init__" : Str) s_BadNumber___init__ iE4)
    (f_E4_what : PySem.W.findIn K (.ref E4) ("what" : Str) = some none)
    (f_E4_number : PySem.W.findIn K (.ref E4) ("number" : Str) = some none)
    (ga_E4 : PySem.W.findIn K (.ref E4) "__getattribute__" = some (some (.builtin "BaseException.__getattribute__")))
    (gg_E4 : PySem.W.findIn K (.ref E4) "__getattr__" = some none)
    (hd_E4 : PySem.W.hasDictIn K E4 = true)
    (ci_E4 : PySem.W.clsIn K E4 = some cd_E4)
    (x_E4_E0 : PySem.W.subIn K (.ref E4) (.ref E0) = some false)
    (x_E4_E1 : PySem.W.subIn K (.ref E4) (.ref E1) = some false)
    (x_E4_E2 : PySem.W.subIn K (.ref E4) (.ref E2) = some false)
    (x_E4_E3 : PySem.W.subIn K (.ref E4) (.ref E3) = some false)
    (x_E4_E4 : PySem.W.subIn K (.ref E4) (.ref E4) = some true)
    (x_E4_E5 : PySem.W.subIn K (.ref E4) (.ref E5) = some false)
    (x_E4_E6 : PySem.W.subIn K (.ref E4) (.ref E6) = some false)
    (x_E4_E7 : PySem.W.subIn K (.ref E4) (.ref E7) = some false)
    (x_E4_E8 : PySem.W.subIn K (.ref E4) (.ref E8) = some false)
    (x_E4_E9 : PySem.W.subIn K (.ref E4) (.ref E9) = some false)
    (n_E5 : PySem.W.nsIn K mainGlobals ("BadRow" : Str) = some (some (.ref E5)))
    (o_E5 : OexC K E5)
    (ni_E5 : PySem.W.findIn K (.ref E5) "__init__" = some (some (.ref iE5)))
    (ti_E5 : PySem.W.typeIn K (.ref iE5) = some (.type "function"))
    (d_E5 : DefAt K ("__init__" : Str) ("BadRow.__init__" : Str) s_BadRow___init__ iE5)
    (f_E5_what : PySem.W.findIn K (.ref E5) ("what" : Str) = some none)
    (f_E5_row : PySem.W.findIn K (.ref E5) ("row" : Str) = some none)
    (ga_E5 : PySem.W.findIn K (.ref E5) "__getattribute__" = some (some (.builtin "BaseException.__getattribute__")))
    (gg_E5 : PySem.W.findIn K (.ref E5) "__getattr__" = some none)
    (hd_E5 : PySem.W.hasDictIn K E5 = true)
    (ci_E5 : PySem.W.clsIn K E5 = some cd_E5)
    (x_E5_E0 : PySem.W.subIn K (.ref E5) (.ref E0) = some false)
    (x_E5_E1 : PySem.W.subIn K (.ref E5) (.ref E1) = some false)
    (x_E5_E2 : PySem.W.subIn K (.ref E5) (.ref E2) = some false)
    (x_E5_E3 : PySem.W.subIn K (.ref E5) (.ref E3) = some false)
    (x_E5_E4 : PySem.W.subIn K (.ref E5) (.ref E4) = some false)
    (x_E5_E5 : PySem.W.subIn K (.ref E5) (.ref E5) = some true)
    (x_E5_E6 : PySem.W.subIn K (.ref E5) (.ref E6) = some false)
    (x_E5_E7 : PySem.W.subIn K (.ref E5) (.ref E7) = some false)
    (x_E5_E8 : PySem.W.subIn K (.ref E5) (.ref E8) = some false)
    (x_E5_E9 : PySem.W.subIn K (.ref E5) (.ref E9) = some false)
    (n_E6 : PySem.W.nsIn K mainGlobals ("TakenName" : Str) = some (some (.ref E6)))
    (o_E6 : OexC K E6)
    (ni_E6 : PySem.W.findIn K (.ref E6) "__init__" = some (some (.ref iE6)))
    (ti_E6 : PySem.W.typeIn K (.ref iE6) = some (.type "function"))
    (d_E6 : DefAt K ("__init__" : Str) ("TakenName.__init__" : Str) s_TakenName___init__ iE6)
    (f_E6_name : PySem.W.findIn K (.ref E6) ("name" : Str) = some none)
    (ga_E6 : PySem.W.findIn K (.ref E6) "__getattribute__" = some (some (.builtin "BaseException.__getattribute__")))
    (gg_E6 : PySem.W.findIn K (.ref E6) "__getattr__" = some none)
    (hd_E6 : PySem.W.hasDictIn K E6 = true)
    (ci_E6 : PySem.W.clsIn K E6 = some cd_E6)
    (x_E6_E0 : PySem.W.subIn K (.ref E6) (.ref E0) = some false)
    (x_E6_E1 : PySem.W.subIn K (.ref E6) (.ref E1) = some false)
    (x_E6_E2 : PySem.W.subIn K (.ref E6) (.ref E2) = some false)
    (x_E6_E3 : PySem.W.subIn K (.ref E6) (.ref E3) = some false)
    (x_E6_E4 : PySem.W.subIn K (.ref E6) (.ref E4) = some false)
    (x_E6_E5 : PySem.W.subIn K (.ref E6) (.ref E5) = some false)
    (x_E6_E6 : PySem.W.subIn K (.ref E6) (.ref E6) = some true)
    (x_E6_E7 : PySem.W.subIn K (.ref E6) (.ref E7) = some false)
    (x_E6_E8 : PySem.W.subIn K (.ref E6) (.ref E8) = some false)
    (x_E6_E9 : PySem.W.subIn K (.ref E6) (.ref E9) = some false)
    (n_E7 : PySem.W.nsIn K mainGlobals ("Unlike" : Str) = some (some (.ref E7)))
    (o_E7 : OexC K E7)
    (ni_E7 : PySem.W.findIn K (.ref E7) "__init__" = some (some (.ref iE7)))
    (ti_E7 : PySem.W.typeIn K (.ref iE7) = some (.type "function"))
    (d_E7 : DefAt K ("__init__" : Str) ("Unlike.__init__" : Str) s_Unlike___init__ iE7)
    (f_E7_what : PySem.W.findIn K (.ref E7) ("what" : Str) = some none)
    (ga_E7 : PySem.W.findIn K (.ref E7) "__getattribute__" = some (some (.builtin "BaseException.__getattribute__")))
    (gg_E7 : PySem.W.findIn K (.ref E7) "__getattr__" = some none)
    (hd_E7 : PySem.W.hasDictIn K E7 = true)
    (ci_E7 : PySem.W.clsIn K E7 = some cd_E7)
    (x_E7_E0 : PySem.W.subIn K (.ref E7) (.ref E0) = some false)
    (x_E7_E1 : PySem.W.subIn K (.ref E7) (.ref E1) = some false)
    (x_E7_E2 : PySem.W.subIn K (.ref E7) (.ref E2) = some false)
    (x_E7_E3 : PySem.W.subIn K (.ref E7) (.ref E3) = some false)
    (x_E7_E4 : PySem.W.subIn K (.ref E7) (.ref E4) = some false)
    (x_E7_E5 : PySem.W.subIn K (.ref E7) (.ref E5) = some false)
    (x_E7_E6 : PySem.W.subIn K (.ref E7) (.ref E6) = some false)
    (x_E7_E7 : PySem.W.subIn K (.ref E7) (.ref E7) = some true)
    (x_E7_E8 : PySem.W.subIn K (.ref E7) (.ref E8) = some false)
    (x_E7_E9 : PySem.W.subIn K (.ref E7) (.ref E9) = some false)
    (n_E8 : PySem.W.nsIn K mainGlobals ("NotThere" : Str) = some (some (.ref E8)))
    (o_E8 : OexC K E8)
    (ni_E8 : PySem.W.findIn K (.ref E8) "__init__" = some (some (.ref iE8)))
    (ti_E8 : PySem.W.typeIn K (.ref iE8) = some (.type "function"))
    (d_E8 : DefAt K ("__init__" : Str) ("NotThere.__init__" : Str) s_NotThere___init__ iE8)
    (f_E8_what : PySem.W.findIn K (.ref E8) ("what" : Str) = some none)
    (ga_E8 : PySem.W.findIn K (.ref E8) "__getattribute__" = some (some (.builtin "BaseException.__getattribute__")))
    (gg_E8 : PySem.W.findIn K (.ref E8) "__getattr__" = some none)
    (hd_E8 : PySem.W.hasDictIn K E8 = true)
    (ci_E8 : PySem.W.clsIn K E8 = some cd_E8)
    (x_E8_E0 : PySem.W.subIn K (.ref E8) (.ref E0) = some false)
    (x_E8_E1 : PySem.W.subIn K (.ref E8) (.ref E1) = some false)
    (x_E8_E2 : PySem.W.subIn K (.ref E8) (.ref E2) = some false)
    (x_E8_E3 : PySem.W.subIn K (.ref E8) (.ref E3) = some false)
    (x_E8_E4 : PySem.W.subIn K (.ref E8) (.ref E4) = some false)
    (x_E8_E5 : PySem.W.subIn K (.ref E8) (.ref E5) = some false)
    (x_E8_E6 : PySem.W.subIn K (.ref E8) (.ref E6) = some false)
    (x_E8_E7 : PySem.W.subIn K (.ref E8) (.ref E7) = some false)
    (x_E8_E8 : PySem.W.subIn K (.ref E8) (.ref E8) = some true)
    (x_E8_E9 : PySem.W.subIn K (.ref E8) (.ref E9) = some false)
    (n_E9 : PySem.W.nsIn K mainGlobals ("TooMany" : Str) = some (some (.ref E9)))
    (o_E9 : OexC K E9)
    (ni_E9 : PySem.W.findIn K (.ref E9) "__init__" = some (some (.ref iE9)))
    (ti_E9 : PySem.W.typeIn K (.ref iE9) = some (.type "function"))
    (d_E9 : DefAt K ("__init__" : Str) ("TooMany.__init__" : Str) s_TooMany___init__ iE9)
    (f_E9_what : PySem.W.findIn K (.ref E9) ("what" : Str) = some none)
    (f_E9_many : PySem.W.findIn K (.ref E9) ("many" : Str) = some none)
    (f_E9_limit : PySem.W.findIn K (.ref E9) ("limit" : Str) = some none)
    (ga_E9 : PySem.W.findIn K (.ref E9) "__getattribute__" = some (some (.builtin "BaseException.__getattribute__")))
    (gg_E9 : PySem.W.findIn K (.ref E9) "__getattr__" = some none)
    (hd_E9 : PySem.W.hasDictIn K E9 = true)
    (ci_E9 : PySem.W.clsIn K E9 = some cd_E9)
    (x_E9_E0 : PySem.W.subIn K (.ref E9) (.ref E0) = some false)
    (x_E9_E1 : PySem.W.subIn K (.ref E9) (.ref E1) = some false)
    (x_E9_E2 : PySem.W.subIn K (.ref E9) (.ref E2) = some false)
    (x_E9_E3 : PySem.W.subIn K (.ref E9) (.ref E3) = some false)
    (x_E9_E4 : PySem.W.subIn K (.ref E9) (.ref E4) = some false)
    (x_E9_E5 : PySem.W.subIn K (.ref E9) (.ref E5) = some false)
    (x_E9_E6 : PySem.W.subIn K (.ref E9) (.ref E6) = some false)
    (x_E9_E7 : PySem.W.subIn K (.ref E9) (.ref E7) = some false)
    (x_E9_E8 : PySem.W.subIn K (.ref E9) (.ref E8) = some false)
    (x_E9_E9 : PySem.W.subIn K (.ref E9) (.ref E9) = some true)
    (c_KEYS : PySem.W.nsIn K mainGlobals ("KEYS" : Str) = some (some (.ref ka_KEYS)))
    (l_KEYS : K.lookup ka_KEYS = some ⟨.type "tuple", dd_KEYS, .seq (List.toArray [.str ("site" : Str) tk_KEYS_0, .str ("place" : Str) tk_KEYS_1, .str ("crew" : Str) tk_KEYS_2, .str ("rest" : Str) tk_KEYS_3, .str ("road" : Str) tk_KEYS_4, .str ("to" : Str) tk_KEYS_5, .str ("by" : Str) tk_KEYS_6, .str ("cost" : Str) tk_KEYS_7, .str ("laid" : Str) tk_KEYS_8]) nn_KEYS, sl_KEYS⟩)
    (c_SIGNS : PySem.W.nsIn K mainGlobals ("SIGNS" : Str) = some (some (.ref ka_SIGNS)))
    (l_SIGNS : K.lookup ka_SIGNS = some ⟨.type "tuple", dd_SIGNS, .seq (List.toArray [.str ("{" : Str) tk_SIGNS_0, .str ("}" : Str) tk_SIGNS_1, .str ("," : Str) tk_SIGNS_2, .str (";" : Str) tk_SIGNS_3, .str (":" : Str) tk_SIGNS_4]) nn_SIGNS, sl_SIGNS⟩)
    (c_LETTERS : PySem.W.nsIn K mainGlobals ("LETTERS" : Str) = some (some (.str ("abcdefghijklmnopqrstuvwxyz" : Str) tk_LETTERS)))
    (c_FIGURES : PySem.W.nsIn K mainGlobals ("FIGURES" : Str) = some (some (.str ("0123456789" : Str) tk_FIGURES)))
    (c_LONGEST_NAME : PySem.W.nsIn K mainGlobals ("LONGEST_NAME" : Str) = some (some (.int 12 tk_LONGEST_NAME)))
    (c_LONGEST_NUMBER : PySem.W.nsIn K mainGlobals ("LONGEST_NUMBER" : Str) = some (some (.int 3 tk_LONGEST_NUMBER)))
    : Facts K a0 a1 a2 a3 a4 a5 a6 a7 a8 a9 a10 a11 a12 a13 a14 a15 a16 a17 a18 a19 a20 a21 a22 a23 a24 C0 E0 E1 E2 E3 E4 E5 E6 E7 E8 E9 cc0 cc1 pp0 pp1 := by
  refine ⟨fun h mg X Gn => ⟨?_, ?_, ?_, ?_, ?_, ?_, ?_⟩, ⟨?_, ?_, ?_⟩, lawAtC d_a24 (lamTab_mk (G := gam a0 a1 a2 a3 a4 a5 a6 a7 a8 a9 a10 a11 a12 a13 a14 a15 a16 a17 a18 a19 a20 a21 a22 a23 a24 C0 E0 E1 E2 E3 E4 E5 E6 E7 E8 E9 cc0 cc1 pp0 pp1) (show _ ∈ (gam a0 a1 a2 a3 a4 a5 a6 a7 a8 a9 a10 a11 a12 a13 a14 a15 a16 a17 a18 a19 a20 a21 a22 a23 a24 C0 E0 E1 E2 E3 E4 E5 E6 E7 E8 E9 cc0 cc1 pp0 pp1).cds from (.tail _ (.head _))) (show (pp1, ("law.<locals>.<lambda>" : Str)) ∈ (gam a0 a1 a2 a3 a4 a5 a6 a7 a8 a9 a10 a11 a12 a13 a14 a15 a16 a17 a18 a19 a20 a21 a22 a23 a24 C0 E0 E1 E2 E3 E4 E5 E6 E7 E8 E9 cc0 cc1 pp0 pp1).tabs from (.tail _ (.head _))) nd_t), n_a24, (all_cons kn_a23 (all_cons kn_a24 (all_nil))), (all_cons kc_a23 (all_cons kc_a24 (all_nil)))⟩
  · show ∀ x ∈ biNames, mg x = none
    exact (all_cons (PySem.W.mg_none_of X Gn z_len) (all_cons (PySem.W.mg_none_of X Gn z_sorted) (all_cons (PySem.W.mg_none_of X Gn z_sum) (all_cons (PySem.W.mg_none_of X Gn z_min) (all_cons (PySem.W.mg_none_of X Gn z_max) (all_cons (PySem.W.mg_none_of X Gn z_all) (all_cons (PySem.W.mg_none_of X Gn z_any) (all_cons (PySem.W.mg_none_of X Gn z_abs) (all_cons (PySem.W.mg_none_of X Gn z_isinstance) (all_cons (PySem.W.mg_none_of X Gn z_repr) (all_cons (PySem.W.mg_none_of X Gn z_range) (all_cons (PySem.W.mg_none_of X Gn z_zip) (all_cons (PySem.W.mg_none_of X Gn z_enumerate) (all_cons (PySem.W.mg_none_of X Gn z_int) (all_cons (PySem.W.mg_none_of X Gn z_str) (all_cons (PySem.W.mg_none_of X Gn z_bool) (all_cons (PySem.W.mg_none_of X Gn z_list) (all_cons (PySem.W.mg_none_of X Gn z_tuple) (all_cons (PySem.W.mg_none_of X Gn z_dict) (all_cons (PySem.W.mg_none_of X Gn z_set) (all_cons (PySem.W.mg_none_of X Gn z_ValueError) (all_nil))))))))))))))))))))))
  · exact look_all (l := fnsL a0 a1 a2 a3 a4 a5 a6 a7 a8 a9 a10 a11 a12 a13 a14 a15 a16 a17 a18 a19 a20 a21 a22 a23 a24 C0 E0 E1 E2 E3 E4 E5 E6 E7 E8 E9 cc0 cc1 pp0 pp1) (p := fun e => mg e.1 = some (.ref e.2) ∧ PySem.W.keepIn K (.ref e.2) = true) (all_cons ⟨PySem.W.mg_of X Gn n_a0, d_a0.keep⟩ (all_cons ⟨PySem.W.mg_of X Gn n_a1, d_a1.keep⟩ (all_cons ⟨PySem.W.mg_of X Gn n_a2, d_a2.keep⟩ (all_cons ⟨PySem.W.mg_of X Gn n_a3, d_a3.keep⟩ (all_cons ⟨PySem.W.mg_of X Gn n_a9, d_a9.keep⟩ (all_cons ⟨PySem.W.mg_of X Gn n_a10, d_a10.keep⟩ (all_cons ⟨PySem.W.mg_of X Gn n_a11, d_a11.keep⟩ (all_cons ⟨PySem.W.mg_of X Gn n_a12, d_a12.keep⟩ (all_cons ⟨PySem.W.mg_of X Gn n_a13, d_a13.keep⟩ (all_cons ⟨PySem.W.mg_of X Gn n_a14, d_a14.keep⟩ (all_cons ⟨PySem.W.mg_of X Gn n_a15, d_a15.keep⟩ (all_cons ⟨PySem.W.mg_of X Gn n_a16, d_a16.keep⟩ (all_cons ⟨PySem.W.mg_of X Gn n_a17, d_a17.keep⟩ (all_cons ⟨PySem.W.mg_of X Gn n_a18, d_a18.keep⟩ (all_cons ⟨PySem.W.mg_of X Gn n_a19, d_a19.keep⟩ (all_cons ⟨PySem.W.mg_of X Gn n_a20, d_a20.keep⟩ (all_cons ⟨PySem.W.mg_of X Gn n_a21, d_a21.keep⟩ (all_cons ⟨PySem.W.mg_of X Gn n_a22, d_a22.keep⟩ (all_cons ⟨PySem.W.mg_of X Gn n_a23, d_a23.keep⟩ (all_cons ⟨PySem.W.mg_of X Gn n_a24, d_a24.keep⟩ (all_nil)))))))))))))))))))))
  · exact look_all (l := clsL a0 a1 a2 a3 a4 a5 a6 a7 a8 a9 a10 a11 a12 a13 a14 a15 a16 a17 a18 a19 a20 a21 a22 a23 a24 C0 E0 E1 E2 E3 E4 E5 E6 E7 E8 E9 cc0 cc1 pp0 pp1) (p := fun e => mg e.1 = some (.ref e.2.C)) (all_cons (PySem.W.mg_of X Gn n_C0) (all_nil))
  · refine look_all (l := conL) (p := fun e => ∃ v u, mg e.1 = some u ∧ RelV v u ∧ ∀ ι H, Rep K (gam a0 a1 a2 a3 a4 a5 a6 a7 a8 a9 a10 a11 a12 a13 a14 a15 a16 a17 a18 a19 a20 a21 a22 a23 a24 C0 E0 E1 E2 E3 E4 E5 E6 E7 E8 E9 cc0 cc1 pp0 pp1) ι H v e.2) ?_
    exact (all_cons ⟨.ref _, _, PySem.W.mg_of X Gn c_KEYS, rfl, fun _ _ => .kup (xs := [.str ("site" : Str), .str ("place" : Str), .str ("crew" : Str), .str ("rest" : Str), .str ("road" : Str), .str ("to" : Str), .str ("by" : Str), .str ("cost" : Str), .str ("laid" : Str)]) ⟨_, _, _, l_KEYS, rfl, rfl, by rw [sizeLine_eq]; exact Nat.le_of_ble_eq_true rfl, .cons ⟨_, rfl⟩ (.cons ⟨_, rfl⟩ (.cons ⟨_, rfl⟩ (.cons ⟨_, rfl⟩ (.cons ⟨_, rfl⟩ (.cons ⟨_, rfl⟩ (.cons ⟨_, rfl⟩ (.cons ⟨_, rfl⟩ (.cons ⟨_, rfl⟩ (.nil)))))))))⟩ (.cons (.str _) (.cons (.str _) (.cons (.str _) (.cons (.str _) (.cons (.str _) (.cons (.str _) (.cons (.str _) (.cons (.str _) (.cons (.str _) (.nil))))))))))⟩ (all_cons ⟨.ref _, _, PySem.W.mg_of X Gn c_SIGNS, rfl, fun _ _ => .kup (xs := [.str ("{" : Str), .str ("}" : Str), .str ("," : Str), .str (";" : Str), .str (":" : Str)]) ⟨_, _, _, l_SIGNS, rfl, rfl, by rw [sizeLine_eq]; exact Nat.le_of_ble_eq_true rfl, .cons ⟨_, rfl⟩ (.cons ⟨_, rfl⟩ (.cons ⟨_, rfl⟩ (.cons ⟨_, rfl⟩ (.cons ⟨_, rfl⟩ (.nil)))))⟩ (.cons (.str _) (.cons (.str _) (.cons (.str _) (.cons (.str _) (.cons (.str _) (.nil))))))⟩ (all_cons ⟨.str ("abcdefghijklmnopqrstuvwxyz" : Str), _, PySem.W.mg_of X Gn c_LETTERS, ⟨_, rfl⟩, fun _ _ => .str _⟩ (all_cons ⟨.str ("0123456789" : Str), _, PySem.W.mg_of X Gn c_FIGURES, ⟨_, rfl⟩, fun _ _ => .str _⟩ (all_cons ⟨.int 12, _, PySem.W.mg_of X Gn c_LONGEST_NAME, ⟨_, rfl⟩, fun _ _ => .int _⟩ (all_cons ⟨.int 3, _, PySem.W.mg_of X Gn c_LONGEST_NUMBER, ⟨_, rfl⟩, fun _ _ => .int _⟩ (all_nil)))))))
  · refine ⟨?_, ?_, ?_, ?_⟩
    · exact look_all (l := clsL a0 a1 a2 a3 a4 a5 a6 a7 a8 a9 a10 a11 a12 a13 a14 a15 a16 a17 a18 a19 a20 a21 a22 a23 a24 C0 E0 E1 E2 E3 E4 E5 E6 E7 E8 E9 cc0 cc1 pp0 pp1) (p := fun e => Cls K e.2.C ∧ PySem.W.findIn K (.ref e.2.C) "__class__" = some (some (.builtin "object.__class__")) ∧ PySem.W.specialIn K (.builtin "object.__class__") "__get__" = some (some (.builtin "getset_descriptor.__get__")) ∧ PySem.W.takesIn K (.builtin "object.__class__") = some true ∧ PySem.W.mroIn K e.2.C (.type "object") = some true) (all_cons ⟨⟨pg_C0, hd_C0, po_C0, sa_C0⟩, cl_C0, o_get, o_tk, mo_C0⟩ (all_nil))
    · exact fun c ci d di h1 h2 => look_all (l := clsL a0 a1 a2 a3 a4 a5 a6 a7 a8 a9 a10 a11 a12 a13 a14 a15 a16 a17 a18 a19 a20 a21 a22 a23 a24 C0 E0 E1 E2 E3 E4 E5 E6 E7 E8 E9 cc0 cc1 pp0 pp1) (p := fun e => ∀ d di, (clsL a0 a1 a2 a3 a4 a5 a6 a7 a8 a9 a10 a11 a12 a13 a14 a15 a16 a17 a18 a19 a20 a21 a22 a23 a24 C0 E0 E1 E2 E3 E4 E5 E6 E7 E8 E9 cc0 cc1 pp0 pp1).lookup d = some di → PySem.W.kitOne K (.ref e.2.C) (.ref di.C) = some (decide (e.1 = d))) (all_cons (look_all (l := clsL a0 a1 a2 a3 a4 a5 a6 a7 a8 a9 a10 a11 a12 a13 a14 a15 a16 a17 a18 a19 a20 a21 a22 a23 a24 C0 E0 E1 E2 E3 E4 E5 E6 E7 E8 E9 cc0 cc1 pp0 pp1) (p := fun e => PySem.W.kitOne K (.ref C0) (.ref e.2.C) = some (decide (("Scanner" : Str) = e.1))) (all_cons (kit_self (show decide (("Scanner" : Str) = ("Scanner" : Str)) = true by decide +kernel)) (all_nil))) (all_nil)) c ci h1 d di h2
    · exact fun c ci n h1 h2 => look_all (l := clsL a0 a1 a2 a3 a4 a5 a6 a7 a8 a9 a10 a11 a12 a13 a14 a15 a16 a17 a18 a19 a20 a21 a22 a23 a24 C0 E0 E1 E2 E3 E4 E5 E6 E7 E8 E9 cc0 cc1 pp0 pp1) (p := fun e => ∀ n ∈ tagNames, PySem.W.kitOne K (.ref e.2.C) (.type n) = some false) (all_cons ((all_cons (kit_rt (by decide +kernel) s_C0_NoneType) (all_cons (kit_rt (by decide +kernel) s_C0_bool) (all_cons (kit_rt (by decide +kernel) s_C0_int) (all_cons (kit_rt (by decide +kernel) s_C0_str) (all_cons (kit_rt (by decide +kernel) s_C0_tuple) (all_cons (kit_rt (by decide +kernel) s_C0_list) (all_cons (kit_rt (by decide +kernel) s_C0_dict) (all_nil))))))))) (all_nil)) c ci h1 n h2
    · exact fun c ci n h1 h2 => look_all (l := clsL a0 a1 a2 a3 a4 a5 a6 a7 a8 a9 a10 a11 a12 a13 a14 a15 a16 a17 a18 a19 a20 a21 a22 a23 a24 C0 E0 E1 E2 E3 E4 E5 E6 E7 E8 E9 cc0 cc1 pp0 pp1) (p := fun e => ∀ n ∈ tagNames, PySem.W.kitOne K (.type n) (.ref e.2.C) = some false) (all_cons ((all_cons (kit_rr rfl (by rw [ci_C0]; rfl) ty_C0 t_C0_NoneType) (all_cons (kit_rr rfl (by rw [ci_C0]; rfl) ty_C0 t_C0_bool) (all_cons (kit_rr rfl (by rw [ci_C0]; rfl) ty_C0 t_C0_int) (all_cons (kit_rr rfl (by rw [ci_C0]; rfl) ty_C0 t_C0_str) (all_cons (kit_rr rfl (by rw [ci_C0]; rfl) ty_C0 t_C0_tuple) (all_cons (kit_rr rfl (by rw [ci_C0]; rfl) ty_C0 t_C0_list) (all_cons (kit_rr rfl (by rw [ci_C0]; rfl) ty_C0 t_C0_dict) (all_nil))))))))) (all_nil)) c ci h1 n h2
  · refine ⟨?_, ?_, ?_, ?_⟩
    · exact fun c ci f h1 h2 => look_all (l := clsL a0 a1 a2 a3 a4 a5 a6 a7 a8 a9 a10 a11 a12 a13 a14 a15 a16 a17 a18 a19 a20 a21 a22 a23 a24 C0 E0 E1 E2 E3 E4 E5 E6 E7 E8 E9 cc0 cc1 pp0 pp1) (p := fun e => ∀ f ∈ e.2.fields, NoAttr K e.2.C f) (all_cons ((all_cons f_C0_text (all_cons f_C0_at (all_cons f_C0_line (all_cons f_C0_column (all_nil)))))) (all_nil)) c ci h1 f h2
    · exact fun c ci m qq a h1 h2 => look_all (l := clsL a0 a1 a2 a3 a4 a5 a6 a7 a8 a9 a10 a11 a12 a13 a14 a15 a16 a17 a18 a19 a20 a21 a22 a23 a24 C0 E0 E1 E2 E3 E4 E5 E6 E7 E8 E9 cc0 cc1 pp0 pp1) (p := fun e => ∀ m qq a, e.2.meths.lookup m = some (qq, a) → Meth K e.2.C m a ∧ m ∉ e.2.fields) (all_cons (fun m qq a h => look_all (l := ([(("is_over" : Str), ("Scanner.is_over" : Str), a5), (("skip" : Str), ("Scanner.skip" : Str), a6), (("pass_gap" : Str), ("Scanner.pass_gap" : Str), a7), (("token" : Str), ("Scanner.token" : Str), a8)] : List (Str × Str × Addr))) (p := fun e => Meth K C0 e.1 e.2.2 ∧ e.1 ∉ ([("text" : Str), ("at" : Str), ("line" : Str), ("column" : Str)] : List Str)) (all_cons ⟨⟨n_a5, i_a5, d_a5.keep⟩, show ("is_over" : Str) ∉ ([("text" : Str), ("at" : Str), ("line" : Str), ("column" : Str)] : List Str) by decide +kernel⟩ (all_cons ⟨⟨n_a6, i_a6, d_a6.keep⟩, show ("skip" : Str) ∉ ([("text" : Str), ("at" : Str), ("line" : Str), ("column" : Str)] : List Str) by decide +kernel⟩ (all_cons ⟨⟨n_a7, i_a7, d_a7.keep⟩, show ("pass_gap" : Str) ∉ ([("text" : Str), ("at" : Str), ("line" : Str), ("column" : Str)] : List Str) by decide +kernel⟩ (all_cons ⟨⟨n_a8, i_a8, d_a8.keep⟩, show ("token" : Str) ∉ ([("text" : Str), ("at" : Str), ("line" : Str), ("column" : Str)] : List Str) by decide +kernel⟩ (all_nil))))) m (qq, a) h) (all_nil)) c ci h1 m qq a h2
    · exact fun c ci qq a h1 h2 => look_all (l := clsL a0 a1 a2 a3 a4 a5 a6 a7 a8 a9 a10 a11 a12 a13 a14 a15 a16 a17 a18 a19 a20 a21 a22 a23 a24 C0 E0 E1 E2 E3 E4 E5 E6 E7 E8 E9 cc0 cc1 pp0 pp1) (p := fun e => ∀ qq a, e.2.init = some (qq, a) → Mk K e.2.C a) (all_cons (fun qq a h => by cases h; exact ⟨mk_C0, n_a4, i_a4, kc_C0⟩) (all_nil)) c ci h1 qq a h2
    · exact look_all (l := clsL a0 a1 a2 a3 a4 a5 a6 a7 a8 a9 a10 a11 a12 a13 a14 a15 a16 a17 a18 a19 a20 a21 a22 a23 a24 C0 E0 E1 E2 E3 E4 E5 E6 E7 E8 E9 cc0 cc1 pp0 pp1) (p := fun e => e.2.fields.length < 1000 ∧ e.2.fields.Nodup) (all_cons ⟨show ([("text" : Str), ("at" : Str), ("line" : Str), ("column" : Str)] : List Str).length < 1000 by decide, show ([("text" : Str), ("at" : Str), ("line" : Str), ("column" : Str)] : List Str).Nodup by decide +kernel⟩ (all_nil))
  · refine ⟨?_, ?_⟩
    · exact look_all (l := exsL a0 a1 a2 a3 a4 a5 a6 a7 a8 a9 a10 a11 a12 a13 a14 a15 a16 a17 a18 a19 a20 a21 a22 a23 a24 C0 E0 E1 E2 E3 E4 E5 E6 E7 E8 E9 cc0 cc1 pp0 pp1) (p := fun e => ∃ (ps : List Str) (a : Addr) (fd : FuncData) (x qual : Str) (st : Stmt), e.2.fields = ps.reverse ∧ ps ≠ [] ∧ ps.length ≤ 900 ∧ mg e.1 = some (.ref e.2.C) ∧ OexC K e.2.C ∧ PySem.W.findIn K (.ref e.2.C) "__init__" = some (some (.ref a)) ∧ PySem.W.typeIn K (.ref a) = some (.type "function") ∧ Fun K x qual st a fd ∧ FnScope (("self" : Str) :: ps) (("self" : Str) :: ps) (defScope st) ∧ initB (("self" : Str) :: ps) (defScope st) ps (defBody st) = true ∧ (∀ f ∈ ps, PySem.W.findIn K (.ref e.2.C) f = some none) ∧ Binds K fd (("self" : Str) :: ps) [] ∧ XfC K e.2.C) (all_cons (exf_mk [("line" : Str), ("word" : Str)] rfl (by simp) (by decide) (PySem.W.mg_of X Gn n_E0) o_E0 ni_E0 ti_E0 d_E0 ⟨rfl, rfl, rfl, by decide +kernel, rfl, by decide +kernel, by decide +kernel⟩ (by decide +kernel) (all_cons f_E0_line (all_cons f_E0_word (all_nil))) (fun _ _ _ _ _ _ us hl => match us, hl with | [_, _, _], _ => rfl) ⟨ga_E0, gg_E0, o_E0.exC, hd_E0⟩) (all_cons (exf_mk [("line" : Str), ("column" : Str)] rfl (by simp) (by decide) (PySem.W.mg_of X Gn n_E1) o_E1 ni_E1 ti_E1 d_E1 ⟨rfl, rfl, rfl, by decide +kernel, rfl, by decide +kernel, by decide +kernel⟩ (by decide +kernel) (all_cons f_E1_line (all_cons f_E1_column (all_nil))) (fun _ _ _ _ _ _ us hl => match us, hl with | [_, _, _], _ => rfl) ⟨ga_E1, gg_E1, o_E1.exC, hd_E1⟩) (all_cons (exf_mk [("line" : Str), ("column" : Str), ("why" : Str), ("name" : Str)] rfl (by simp) (by decide) (PySem.W.mg_of X Gn n_E2) o_E2 ni_E2 ti_E2 d_E2 ⟨rfl, rfl, rfl, by decide +kernel, rfl, by decide +kernel, by decide +kernel⟩ (by decide +kernel) (all_cons f_E2_line (all_cons f_E2_column (all_cons f_E2_why (all_cons f_E2_name (all_nil))))) (fun _ _ _ _ _ _ us hl => match us, hl with | [_, _, _, _, _], _ => rfl) ⟨ga_E2, gg_E2, o_E2.exC, hd_E2⟩) (all_cons (exf_mk [("name" : Str)] rfl (by simp) (by decide) (PySem.W.mg_of X Gn n_E3) o_E3 ni_E3 ti_E3 d_E3 ⟨rfl, rfl, rfl, by decide +kernel, rfl, by decide +kernel, by decide +kernel⟩ (by decide +kernel) (all_cons f_E3_name (all_nil)) (fun _ _ _ _ _ _ us hl => match us, hl with | [_, _], _ => rfl) ⟨ga_E3, gg_E3, o_E3.exC, hd_E3⟩) (all_cons (exf_mk [("what" : Str), ("number" : Str)] rfl (by simp) (by decide) (PySem.W.mg_of X Gn n_E4) o_E4 ni_E4 ti_E4 d_E4 ⟨rfl, rfl, rfl, by decide +kernel, rfl, by decide +kernel, by decide +kernel⟩ (by decide +kernel) (all_cons f_E4_what (all_cons f_E4_number (all_nil))) (fun _ _ _ _ _ _ us hl => match us, hl with | [_, _, _], _ => rfl) ⟨ga_E4, gg_E4, o_E4.exC, hd_E4⟩) (all_cons (exf_mk [("what" : Str), ("row" : Str)] rfl (by simp) (by decide) (PySem.W.mg_of X Gn n_E5) o_E5 ni_E5 ti_E5 d_E5 ⟨rfl, rfl, rfl, by decide +kernel, rfl, by decide +kernel, by decide +kernel⟩ (by decide +kernel) (all_cons f_E5_what (all_cons f_E5_row (all_nil))) (fun _ _ _ _ _ _ us hl => match us, hl with | [_, _, _], _ => rfl) ⟨ga_E5, gg_E5, o_E5.exC, hd_E5⟩) (all_cons (exf_mk [("name" : Str)] rfl (by simp) (by decide) (PySem.W.mg_of X Gn n_E6) o_E6 ni_E6 ti_E6 d_E6 ⟨rfl, rfl, rfl, by decide +kernel, rfl, by decide +kernel, by decide +kernel⟩ (by decide +kernel) (all_cons f_E6_name (all_nil)) (fun _ _ _ _ _ _ us hl => match us, hl with | [_, _], _ => rfl) ⟨ga_E6, gg_E6, o_E6.exC, hd_E6⟩) (all_cons (exf_mk [("what" : Str)] rfl (by simp) (by decide) (PySem.W.mg_of X Gn n_E7) o_E7 ni_E7 ti_E7 d_E7 ⟨rfl, rfl, rfl, by decide +kernel, rfl, by decide +kernel, by decide +kernel⟩ (by decide +kernel) (all_cons f_E7_what (all_nil)) (fun _ _ _ _ _ _ us hl => match us, hl with | [_, _], _ => rfl) ⟨ga_E7, gg_E7, o_E7.exC, hd_E7⟩) (all_cons (exf_mk [("what" : Str)] rfl (by simp) (by decide) (PySem.W.mg_of X Gn n_E8) o_E8 ni_E8 ti_E8 d_E8 ⟨rfl, rfl, rfl, by decide +kernel, rfl, by decide +kernel, by decide +kernel⟩ (by decide +kernel) (all_cons f_E8_what (all_nil)) (fun _ _ _ _ _ _ us hl => match us, hl with | [_, _], _ => rfl) ⟨ga_E8, gg_E8, o_E8.exC, hd_E8⟩) (all_cons (exf_mk [("what" : Str), ("many" : Str), ("limit" : Str)] rfl (by simp) (by decide) (PySem.W.mg_of X Gn n_E9) o_E9 ni_E9 ti_E9 d_E9 ⟨rfl, rfl, rfl, by decide +kernel, rfl, by decide +kernel, by decide +kernel⟩ (by decide +kernel) (all_cons f_E9_what (all_cons f_E9_many (all_cons f_E9_limit (all_nil)))) (fun _ _ _ _ _ _ us hl => match us, hl with | [_, _, _, _], _ => rfl) ⟨ga_E9, gg_E9, o_E9.exC, hd_E9⟩) (all_nil)))))))))))
    · exact fun c ci d di h1 h2 => look_all (l := exsL a0 a1 a2 a3 a4 a5 a6 a7 a8 a9 a10 a11 a12 a13 a14 a15 a16 a17 a18 a19 a20 a21 a22 a23 a24 C0 E0 E1 E2 E3 E4 E5 E6 E7 E8 E9 cc0 cc1 pp0 pp1) (p := fun e => ∀ d di, (exsL a0 a1 a2 a3 a4 a5 a6 a7 a8 a9 a10 a11 a12 a13 a14 a15 a16 a17 a18 a19 a20 a21 a22 a23 a24 C0 E0 E1 E2 E3 E4 E5 E6 E7 E8 E9 cc0 cc1 pp0 pp1).lookup d = some di → PySem.W.exmOne K (.ref e.2.C) (.ref di.C) = some (decide (e.1 = d))) (all_cons (look_all (l := exsL a0 a1 a2 a3 a4 a5 a6 a7 a8 a9 a10 a11 a12 a13 a14 a15 a16 a17 a18 a19 a20 a21 a22 a23 a24 C0 E0 E1 E2 E3 E4 E5 E6 E7 E8 E9 cc0 cc1 pp0 pp1) (p := fun e => PySem.W.exmOne K (.ref E0) (.ref e.2.C) = some (decide (("BadText" : Str) = e.1))) (all_cons ((exm_rr o_E0.exC (by rw [ci_E0]; rfl) o_E0.tyC x_E0_E0).trans (show some true = some (decide (("BadText" : Str) = ("BadText" : Str))) by decide +kernel)) (all_cons ((exm_rr o_E1.exC (by rw [ci_E1]; rfl) o_E1.tyC x_E0_E1).trans (show some false = some (decide (("BadText" : Str) = ("Misread" : Str))) by decide +kernel)) (all_cons ((exm_rr o_E2.exC (by rw [ci_E2]; rfl) o_E2.tyC x_E0_E2).trans (show some false = some (decide (("BadText" : Str) = ("Misplaced" : Str))) by decide +kernel)) (all_cons ((exm_rr o_E3.exC (by rw [ci_E3]; rfl) o_E3.tyC x_E0_E3).trans (show some false = some (decide (("BadText" : Str) = ("BadName" : Str))) by decide +kernel)) (all_cons ((exm_rr o_E4.exC (by rw [ci_E4]; rfl) o_E4.tyC x_E0_E4).trans (show some false = some (decide (("BadText" : Str) = ("BadNumber" : Str))) by decide +kernel)) (all_cons ((exm_rr o_E5.exC (by rw [ci_E5]; rfl) o_E5.tyC x_E0_E5).trans (show some false = some (decide (("BadText" : Str) = ("BadRow" : Str))) by decide +kernel)) (all_cons ((exm_rr o_E6.exC (by rw [ci_E6]; rfl) o_E6.tyC x_E0_E6).trans (show some false = some (decide (("BadText" : Str) = ("TakenName" : Str))) by decide +kernel)) (all_cons ((exm_rr o_E7.exC (by rw [ci_E7]; rfl) o_E7.tyC x_E0_E7).trans (show some false = some (decide (("BadText" : Str) = ("Unlike" : Str))) by decide +kernel)) (all_cons ((exm_rr o_E8.exC (by rw [ci_E8]; rfl) o_E8.tyC x_E0_E8).trans (show some false = some (decide (("BadText" : Str) = ("NotThere" : Str))) by decide +kernel)) (all_cons ((exm_rr o_E9.exC (by rw [ci_E9]; rfl) o_E9.tyC x_E0_E9).trans (show some false = some (decide (("BadText" : Str) = ("TooMany" : Str))) by decide +kernel)) (all_nil)))))))))))) (all_cons (look_all (l := exsL a0 a1 a2 a3 a4 a5 a6 a7 a8 a9 a10 a11 a12 a13 a14 a15 a16 a17 a18 a19 a20 a21 a22 a23 a24 C0 E0 E1 E2 E3 E4 E5 E6 E7 E8 E9 cc0 cc1 pp0 pp1) (p := fun e => PySem.W.exmOne K (.ref E1) (.ref e.2.C) = some (decide (("Misread" : Str) = e.1))) (all_cons ((exm_rr o_E0.exC (by rw [ci_E0]; rfl) o_E0.tyC x_E1_E0).trans (show some false = some (decide (("Misread" : Str) = ("BadText" : Str))) by decide +kernel)) (all_cons ((exm_rr o_E1.exC (by rw [ci_E1]; rfl) o_E1.tyC x_E1_E1).trans (show some true = some (decide (("Misread" : Str) = ("Misread" : Str))) by decide +kernel)) (all_cons ((exm_rr o_E2.exC (by rw [ci_E2]; rfl) o_E2.tyC x_E1_E2).trans (show some false = some (decide (("Misread" : Str) = ("Misplaced" : Str))) by decide +kernel)) (all_cons ((exm_rr o_E3.exC (by rw [ci_E3]; rfl) o_E3.tyC x_E1_E3).trans (show some false = some (decide (("Misread" : Str) = ("BadName" : Str))) by decide +kernel)) (all_cons ((exm_rr o_E4.exC (by rw [ci_E4]; rfl) o_E4.tyC x_E1_E4).trans (show some false = some (decide (("Misread" : Str) = ("BadNumber" : Str))) by decide +kernel)) (all_cons ((exm_rr o_E5.exC (by rw [ci_E5]; rfl) o_E5.tyC x_E1_E5).trans (show some false = some (decide (("Misread" : Str) = ("BadRow" : Str))) by decide +kernel)) (all_cons ((exm_rr o_E6.exC (by rw [ci_E6]; rfl) o_E6.tyC x_E1_E6).trans (show some false = some (decide (("Misread" : Str) = ("TakenName" : Str))) by decide +kernel)) (all_cons ((exm_rr o_E7.exC (by rw [ci_E7]; rfl) o_E7.tyC x_E1_E7).trans (show some false = some (decide (("Misread" : Str) = ("Unlike" : Str))) by decide +kernel)) (all_cons ((exm_rr o_E8.exC (by rw [ci_E8]; rfl) o_E8.tyC x_E1_E8).trans (show some false = some (decide (("Misread" : Str) = ("NotThere" : Str))) by decide +kernel)) (all_cons ((exm_rr o_E9.exC (by rw [ci_E9]; rfl) o_E9.tyC x_E1_E9).trans (show some false = some (decide (("Misread" : Str) = ("TooMany" : Str))) by decide +kernel)) (all_nil)))))))))))) (all_cons (look_all (l := exsL a0 a1 a2 a3 a4 a5 a6 a7 a8 a9 a10 a11 a12 a13 a14 a15 a16 a17 a18 a19 a20 a21 a22 a23 a24 C0 E0 E1 E2 E3 E4 E5 E6 E7 E8 E9 cc0 cc1 pp0 pp1) (p := fun e => PySem.W.exmOne K (.ref E2) (.ref e.2.C) = some (decide (("Misplaced" : Str) = e.1))) (all_cons ((exm_rr o_E0.exC (by rw [ci_E0]; rfl) o_E0.tyC x_E2_E0).trans (show some false = some (decide (("Misplaced" : Str) = ("BadText" : Str))) by decide +kernel)) (all_cons ((exm_rr o_E1.exC (by rw [ci_E1]; rfl) o_E1.tyC x_E2_E1).trans (show some false = some (decide (("Misplaced" : Str) = ("Misread" : Str))) by decide +kernel)) (all_cons ((exm_rr o_E2.exC (by rw [ci_E2]; rfl) o_E2.tyC x_E2_E2).trans (show some true = some (decide (("Misplaced" : Str) = ("Misplaced" : Str))) by decide +kernel)) (all_cons ((exm_rr o_E3.exC (by rw [ci_E3]; rfl) o_E3.tyC x_E2_E3).trans (show some false = some (decide (("Misplaced" : Str) = ("BadName" : Str))) by decide +kernel)) (all_cons ((exm_rr o_E4.exC (by rw [ci_E4]; rfl) o_E4.tyC x_E2_E4).trans (show some false = some (decide (("Misplaced" : Str) = ("BadNumber" : Str))) by decide +kernel)) (all_cons ((exm_rr o_E5.exC (by rw [ci_E5]; rfl) o_E5.tyC x_E2_E5).trans (show some false = some (decide (("Misplaced" : Str) = ("BadRow" : Str))) by decide +kernel)) (all_cons ((exm_rr o_E6.exC (by rw [ci_E6]; rfl) o_E6.tyC x_E2_E6).trans (show some false = some (decide (("Misplaced" : Str) = ("TakenName" : Str))) by decide +kernel)) (all_cons ((exm_rr o_E7.exC (by rw [ci_E7]; rfl) o_E7.tyC x_E2_E7).trans (show some false = some (decide (("Misplaced" : Str) = ("Unlike" : Str))) by decide +kernel)) (all_cons ((exm_rr o_E8.exC (by rw [ci_E8]; rfl) o_E8.tyC x_E2_E8).trans (show some false = some (decide (("Misplaced" : Str) = ("NotThere" : Str))) by decide +kernel)) (all_cons ((exm_rr o_E9.exC (by rw [ci_E9]; rfl) o_E9.tyC x_E2_E9).trans (show some false = some (decide (("Misplaced" : Str) = ("TooMany" : Str))) by decide +kernel)) (all_nil)))))))))))) (all_cons (look_all (l := exsL a0 a1 a2 a3 a4 a5 a6 a7 a8 a9 a10 a11 a12 a13 a14 a15 a16 a17 a18 a19 a20 a21 a22 a23 a24 C0 E0 E1 E2 E3 E4 E5 E6 E7 E8 E9 cc0 cc1 pp0 pp1) (p := fun e => PySem.W.exmOne K (.ref E3) (.ref e.2.C) = some (decide (("BadName" : Str) = e.1))) (all_cons ((exm_rr o_E0.exC (by rw [ci_E0]; rfl) o_E0.tyC x_E3_E0).trans (show some false = some (decide (("BadName" : Str) = ("BadText" : Str))) by decide +kernel)) (all_cons ((exm_rr o_E1.exC (by rw [ci_E1]; rfl) o_E1.tyC x_E3_E1).trans (show some false = some (decide (("BadName" : Str) = ("Misread" : Str))) by decide +kernel)) (all_cons ((exm_rr o_E2.exC (by rw [ci_E2]; rfl) o_E2.tyC x_E3_E2).trans (show some false = some (decide (("BadName" : Str) = ("Misplaced" : Str))) by decide +kernel)) (all_cons ((exm_rr o_E3.exC (by rw [ci_E3]; rfl) o_E3.tyC x_E3_E3).trans (show some true = some (decide (("BadName" : Str) = ("BadName" : Str))) by decide +kernel)) (all_cons ((exm_rr o_E4.exC (by rw [ci_E4]; rfl) o_E4.tyC x_E3_E4).trans (show some false = some (decide (("BadName" : Str) = ("BadNumber" : Str))) by decide +kernel)) (all_cons ((exm_rr o_E5.exC (by rw [ci_E5]; rfl) o_E5.tyC x_E3_E5).trans (show some false = some (decide (("BadName" : Str) = ("BadRow" : Str))) by decide +kernel)) (all_cons ((exm_rr o_E6.exC (by rw [ci_E6]; rfl) o_E6.tyC x_E3_E6).trans (show some false = some (decide (("BadName" : Str) = ("TakenName" : Str))) by decide +kernel)) (all_cons ((exm_rr o_E7.exC (by rw [ci_E7]; rfl) o_E7.tyC x_E3_E7).trans (show some false = some (decide (("BadName" : Str) = ("Unlike" : Str))) by decide +kernel)) (all_cons ((exm_rr o_E8.exC (by rw [ci_E8]; rfl) o_E8.tyC x_E3_E8).trans (show some false = some (decide (("BadName" : Str) = ("NotThere" : Str))) by decide +kernel)) (all_cons ((exm_rr o_E9.exC (by rw [ci_E9]; rfl) o_E9.tyC x_E3_E9).trans (show some false = some (decide (("BadName" : Str) = ("TooMany" : Str))) by decide +kernel)) (all_nil)))))))))))) (all_cons (look_all (l := exsL a0 a1 a2 a3 a4 a5 a6 a7 a8 a9 a10 a11 a12 a13 a14 a15 a16 a17 a18 a19 a20 a21 a22 a23 a24 C0 E0 E1 E2 E3 E4 E5 E6 E7 E8 E9 cc0 cc1 pp0 pp1) (p := fun e => PySem.W.exmOne K (.ref E4) (.ref e.2.C) = some (decide (("BadNumber" : Str) = e.1))) (all_cons ((exm_rr o_E0.exC (by rw [ci_E0]; rfl) o_E0.tyC x_E4_E0).trans (show some false = some (decide (("BadNumber" : Str) = ("BadText" : Str))) by decide +kernel)) (all_cons ((exm_rr o_E1.exC (by rw [ci_E1]; rfl) o_E1.tyC x_E4_E1).trans (show some false = some (decide (("BadNumber" : Str) = ("Misread" : Str))) by decide +kernel)) (all_cons ((exm_rr o_E2.exC (by rw [ci_E2]; rfl) o_E2.tyC x_E4_E2).trans (show some false = some (decide (("BadNumber" : Str) = ("Misplaced" : Str))) by decide +kernel)) (all_cons ((exm_rr o_E3.exC (by rw [ci_E3]; rfl) o_E3.tyC x_E4_E3).trans (show some false = some (decide (("BadNumber" : Str) = ("BadName" : Str))) by decide +kernel)) (all_cons ((exm_rr o_E4.exC (by rw [ci_E4]; rfl) o_E4.tyC x_E4_E4).trans (show some true = some (decide (("BadNumber" : Str) = ("BadNumber" : Str))) by decide +kernel)) (all_cons ((exm_rr o_E5.exC (by rw [ci_E5]; rfl) o_E5.tyC x_E4_E5).trans (show some false = some (decide (("BadNumber" : Str) = ("BadRow" : Str))) by decide +kernel)) (all_cons ((exm_rr o_E6.exC (by rw [ci_E6]; rfl) o_E6.tyC x_E4_E6).trans (show some false = some (decide (("BadNumber" : Str) = ("TakenName" : Str))) by decide +kernel)) (all_cons ((exm_rr o_E7.exC (by rw [ci_E7]; rfl) o_E7.tyC x_E4_E7).trans (show some false = some (decide (("BadNumber" : Str) = ("Unlike" : Str))) by decide +kernel)) (all_cons ((exm_rr o_E8.exC (by rw [ci_E8]; rfl) o_E8.tyC x_E4_E8).trans (show some false = some (decide (("BadNumber" : Str) = ("NotThere" : Str))) by decide +kernel)) (all_cons ((exm_rr o_E9.exC (by rw [ci_E9]; rfl) o_E9.tyC x_E4_E9).trans (show some false = some (decide (("BadNumber" : Str) = ("TooMany" : Str))) by decide +kernel)) (all_nil)))))))))))) (all_cons (look_all (l := exsL a0 a1 a2 a3 a4 a5 a6 a7 a8 a9 a10 a11 a12 a13 a14 a15 a16 a17 a18 a19 a20 a21 a22 a23 a24 C0 E0 E1 E2 E3 E4 E5 E6 E7 E8 E9 cc0 cc1 pp0 pp1) (p := fun e => PySem.W.exmOne K (.ref E5) (.ref e.2.C) = some (decide (("BadRow" : Str) = e.1))) (all_cons ((exm_rr o_E0.exC (by rw [ci_E0]; rfl) o_E0.tyC x_E5_E0).trans (show some false = some (decide (("BadRow" : Str) = ("BadText" : Str))) by decide +kernel)) (all_cons ((exm_rr o_E1.exC (by rw [ci_E1]; rfl) o_E1.tyC x_E5_E1).trans (show some false = some (decide (("BadRow" : Str) = ("Misread" : Str))) by decide +kernel)) (all_cons ((exm_rr o_E2.exC (by rw [ci_E2]; rfl) o_E2.tyC x_E5_E2).trans (show some false = some (decide (("BadRow" : Str) = ("Misplaced" : Str))) by decide +kernel)) (all_cons ((exm_rr o_E3.exC (by rw [ci_E3]; rfl) o_E3.tyC x_E5_E3).trans (show some false = some (decide (("BadRow" : Str) = ("BadName" : Str))) by decide +kernel)) (all_cons ((exm_rr o_E4.exC (by rw [ci_E4]; rfl) o_E4.tyC x_E5_E4).trans (show some false = some (decide (("BadRow" : Str) = ("BadNumber" : Str))) by decide +kernel)) (all_cons ((exm_rr o_E5.exC (by rw [ci_E5]; rfl) o_E5.tyC x_E5_E5).trans (show some true = some (decide (("BadRow" : Str) = ("BadRow" : Str))) by decide +kernel)) (all_cons ((exm_rr o_E6.exC (by rw [ci_E6]; rfl) o_E6.tyC x_E5_E6).trans (show some false = some (decide (("BadRow" : Str) = ("TakenName" : Str))) by decide +kernel)) (all_cons ((exm_rr o_E7.exC (by rw [ci_E7]; rfl) o_E7.tyC x_E5_E7).trans (show some false = some (decide (("BadRow" : Str) = ("Unlike" : Str))) by decide +kernel)) (all_cons ((exm_rr o_E8.exC (by rw [ci_E8]; rfl) o_E8.tyC x_E5_E8).trans (show some false = some (decide (("BadRow" : Str) = ("NotThere" : Str))) by decide +kernel)) (all_cons ((exm_rr o_E9.exC (by rw [ci_E9]; rfl) o_E9.tyC x_E5_E9).trans (show some false = some (decide (("BadRow" : Str) = ("TooMany" : Str))) by decide +kernel)) (all_nil)))))))))))) (all_cons (look_all (l := exsL a0 a1 a2 a3 a4 a5 a6 a7 a8 a9 a10 a11 a12 a13 a14 a15 a16 a17 a18 a19 a20 a21 a22 a23 a24 C0 E0 E1 E2 E3 E4 E5 E6 E7 E8 E9 cc0 cc1 pp0 pp1) (p := fun e => PySem.W.exmOne K (.ref E6) (.ref e.2.C) = some (decide (("TakenName" : Str) = e.1))) (all_cons ((exm_rr o_E0.exC (by rw [ci_E0]; rfl) o_E0.tyC x_E6_E0).trans (show some false = some (decide (("TakenName" : Str) = ("BadText" : Str))) by decide +kernel)) (all_cons ((exm_rr o_E1.exC (by rw [ci_E1]; rfl) o_E1.tyC x_E6_E1).trans (show some false = some (decide (("TakenName" : Str) = ("Misread" : Str))) by decide +kernel)) (all_cons ((exm_rr o_E2.exC (by rw [ci_E2]; rfl) o_E2.tyC x_E6_E2).trans (show some false = some (decide (("TakenName" : Str) = ("Misplaced" : Str))) by decide +kernel)) (all_cons ((exm_rr o_E3.exC (by rw [ci_E3]; rfl) o_E3.tyC x_E6_E3).trans (show some false = some (decide (("TakenName" : Str) = ("BadName" : Str))) by decide +kernel)) (all_cons ((exm_rr o_E4.exC (by rw [ci_E4]; rfl) o_E4.tyC x_E6_E4).trans (show some false = some (decide (("TakenName" : Str) = ("BadNumber" : Str))) by decide +kernel)) (all_cons ((exm_rr o_E5.exC (by rw [ci_E5]; rfl) o_E5.tyC x_E6_E5).trans (show some false = some (decide (("TakenName" : Str) = ("BadRow" : Str))) by decide +kernel)) (all_cons ((exm_rr o_E6.exC (by rw [ci_E6]; rfl) o_E6.tyC x_E6_E6).trans (show some true = some (decide (("TakenName" : Str) = ("TakenName" : Str))) by decide +kernel)) (all_cons ((exm_rr o_E7.exC (by rw [ci_E7]; rfl) o_E7.tyC x_E6_E7).trans (show some false = some (decide (("TakenName" : Str) = ("Unlike" : Str))) by decide +kernel)) (all_cons ((exm_rr o_E8.exC (by rw [ci_E8]; rfl) o_E8.tyC x_E6_E8).trans (show some false = some (decide (("TakenName" : Str) = ("NotThere" : Str))) by decide +kernel)) (all_cons ((exm_rr o_E9.exC (by rw [ci_E9]; rfl) o_E9.tyC x_E6_E9).trans (show some false = some (decide (("TakenName" : Str) = ("TooMany" : Str))) by decide +kernel)) (all_nil)))))))))))) (all_cons (look_all (l := exsL a0 a1 a2 a3 a4 a5 a6 a7 a8 a9 a10 a11 a12 a13 a14 a15 a16 a17 a18 a19 a20 a21 a22 a23 a24 C0 E0 E1 E2 E3 E4 E5 E6 E7 E8 E9 cc0 cc1 pp0 pp1) (p := fun e => PySem.W.exmOne K (.ref E7) (.ref e.2.C) = some (decide (("Unlike" : Str) = e.1))) (all_cons ((exm_rr o_E0.exC (by rw [ci_E0]; rfl) o_E0.tyC x_E7_E0).trans (show some false = some (decide (("Unlike" : Str) = ("BadText" : Str))) by decide +kernel)) (all_cons ((exm_rr o_E1.exC (by rw [ci_E1]; rfl) o_E1.tyC x_E7_E1).trans (show some false = some (decide (("Unlike" : Str) = ("Misread" : Str))) by decide +kernel)) (all_cons ((exm_rr o_E2.exC (by rw [ci_E2]; rfl) o_E2.tyC x_E7_E2).trans (show some false = some (decide (("Unlike" : Str) = ("Misplaced" : Str))) by decide +kernel)) (all_cons ((exm_rr o_E3.exC (by rw [ci_E3]; rfl) o_E3.tyC x_E7_E3).trans (show some false = some (decide (("Unlike" : Str) = ("BadName" : Str))) by decide +kernel)) (all_cons ((exm_rr o_E4.exC (by rw [ci_E4]; rfl) o_E4.tyC x_E7_E4).trans (show some false = some (decide (("Unlike" : Str) = ("BadNumber" : Str))) by decide +kernel)) (all_cons ((exm_rr o_E5.exC (by rw [ci_E5]; rfl) o_E5.tyC x_E7_E5).trans (show some false = some (decide (("Unlike" : Str) = ("BadRow" : Str))) by decide +kernel)) (all_cons ((exm_rr o_E6.exC (by rw [ci_E6]; rfl) o_E6.tyC x_E7_E6).trans (show some false = some (decide (("Unlike" : Str) = ("TakenName" : Str))) by decide +kernel)) (all_cons ((exm_rr o_E7.exC (by rw [ci_E7]; rfl) o_E7.tyC x_E7_E7).trans (show some true = some (decide (("Unlike" : Str) = ("Unlike" : Str))) by decide +kernel)) (all_cons ((exm_rr o_E8.exC (by rw [ci_E8]; rfl) o_E8.tyC x_E7_E8).trans (show some false = some (decide (("Unlike" : Str) = ("NotThere" : Str))) by decide +kernel)) (all_cons ((exm_rr o_E9.exC (by rw [ci_E9]; rfl) o_E9.tyC x_E7_E9).trans (show some false = some (decide (("Unlike" : Str) = ("TooMany" : Str))) by decide +kernel)) (all_nil)))))))))))) (all_cons (look_all (l := exsL a0 a1 a2 a3 a4 a5 a6 a7 a8 a9 a10 a11 a12 a13 a14 a15 a16 a17 a18 a19 a20 a21 a22 a23 a24 C0 E0 E1 E2 E3 E4 E5 E6 E7 E8 E9 cc0 cc1 pp0 pp1) (p := fun e => PySem.W.exmOne K (.ref E8) (.ref e.2.C) = some (decide (("NotThere" : Str) = e.1))) (all_cons ((exm_rr o_E0.exC (by rw [ci_E0]; rfl) o_E0.tyC x_E8_E0).trans (show some false = some (decide (("NotThere" : Str) = ("BadText" : Str))) by decide +kernel)) (all_cons ((exm_rr o_E1.exC (by rw [ci_E1]; rfl) o_E1.tyC x_E8_E1).trans (show some false = some (decide (("NotThere" : Str) = ("Misread" : Str))) by decide +kernel)) (all_cons ((exm_rr o_E2.exC (by rw [ci_E2]; rfl) o_E2.tyC x_E8_E2).trans (show some false = some (decide (("NotThere" : Str) = ("Misplaced" : Str))) by decide +kernel)) (all_cons ((exm_rr o_E3.exC (by rw [ci_E3]; rfl) o_E3.tyC x_E8_E3).trans (show some false = some (decide (("NotThere" : Str) = ("BadName" : Str))) by decide +kernel)) (all_cons ((exm_rr o_E4.exC (by rw [ci_E4]; rfl) o_E4.tyC x_E8_E4).trans (show some false = some (decide (("NotThere" : Str) = ("BadNumber" : Str))) by decide +kernel)) (all_cons ((exm_rr o_E5.exC (by rw [ci_E5]; rfl) o_E5.tyC x_E8_E5).trans (show some false = some (decide (("NotThere" : Str) = ("BadRow" : Str))) by decide +kernel)) (all_cons ((exm_rr o_E6.exC (by rw [ci_E6]; rfl) o_E6.tyC x_E8_E6).trans (show some false = some (decide (("NotThere" : Str) = ("TakenName" : Str))) by decide +kernel)) (all_cons ((exm_rr o_E7.exC (by rw [ci_E7]; rfl) o_E7.tyC x_E8_E7).trans (show some false = some (decide (("NotThere" : Str) = ("Unlike" : Str))) by decide +kernel)) (all_cons ((exm_rr o_E8.exC (by rw [ci_E8]; rfl) o_E8.tyC x_E8_E8).trans (show some true = some (decide (("NotThere" : Str) = ("NotThere" : Str))) by decide +kernel)) (all_cons ((exm_rr o_E9.exC (by rw [ci_E9]; rfl) o_E9.tyC x_E8_E9).trans (show some false = some (decide (("NotThere" : Str) = ("TooMany" : Str))) by decide +kernel)) (all_nil)))))))))))) (all_cons (look_all (l := exsL a0 a1 a2 a3 a4 a5 a6 a7 a8 a9 a10 a11 a12 a13 a14 a15 a16 a17 a18 a19 a20 a21 a22 a23 a24 C0 E0 E1 E2 E3 E4 E5 E6 E7 E8 E9 cc0 cc1 pp0 pp1) (p := fun e => PySem.W.exmOne K (.ref E9) (.ref e.2.C) = some (decide (("TooMany" : Str) = e.1))) (all_cons ((exm_rr o_E0.exC (by rw [ci_E0]; rfl) o_E0.tyC x_E9_E0).trans (show some false = some (decide (("TooMany" : Str) = ("BadText" : Str))) by decide +kernel)) (all_cons ((exm_rr o_E1.exC (by rw [ci_E1]; rfl) o_E1.tyC x_E9_E1).trans (show some false = some (decide (("TooMany" : Str) = ("Misread" : Str))) by decide +kernel)) (all_cons ((exm_rr o_E2.exC (by rw [ci_E2]; rfl) o_E2.tyC x_E9_E2).trans (show some false = some (decide (("TooMany" : Str) = ("Misplaced" : Str))) by decide +kernel)) (all_cons ((exm_rr o_E3.exC (by rw [ci_E3]; rfl) o_E3.tyC x_E9_E3).trans (show some false = some (decide (("TooMany" : Str) = ("BadName" : Str))) by decide +kernel)) (all_cons ((exm_rr o_E4.exC (by rw [ci_E4]; rfl) o_E4.tyC x_E9_E4).trans (show some false = some (decide (("TooMany" : Str) = ("BadNumber" : Str))) by decide +kernel)) (all_cons ((exm_rr o_E5.exC (by rw [ci_E5]; rfl) o_E5.tyC x_E9_E5).trans (show some false = some (decide (("TooMany" : Str) = ("BadRow" : Str))) by decide +kernel)) (all_cons ((exm_rr o_E6.exC (by rw [ci_E6]; rfl) o_E6.tyC x_E9_E6).trans (show some false = some (decide (("TooMany" : Str) = ("TakenName" : Str))) by decide +kernel)) (all_cons ((exm_rr o_E7.exC (by rw [ci_E7]; rfl) o_E7.tyC x_E9_E7).trans (show some false = some (decide (("TooMany" : Str) = ("Unlike" : Str))) by decide +kernel)) (all_cons ((exm_rr o_E8.exC (by rw [ci_E8]; rfl) o_E8.tyC x_E9_E8).trans (show some false = some (decide (("TooMany" : Str) = ("NotThere" : Str))) by decide +kernel)) (all_cons ((exm_rr o_E9.exC (by rw [ci_E9]; rfl) o_E9.tyC x_E9_E9).trans (show some true = some (decide (("TooMany" : Str) = ("TooMany" : Str))) by decide +kernel)) (all_nil)))))))))))) (all_nil))))))))))) c ci h1 d di h2
  · exact look_all (l := fnsL a0 a1 a2 a3 a4 a5 a6 a7 a8 a9 a10 a11 a12 a13 a14 a15 a16 a17 a18 a19 a20 a21 a22 a23 a24 C0 E0 E1 E2 E3 E4 E5 E6 E7 E8 E9 cc0 cc1 pp0 pp1) (p := fun e => Known K (gam a0 a1 a2 a3 a4 a5 a6 a7 a8 a9 a10 a11 a12 a13 a14 a15 a16 a17 a18 a19 a20 a21 a22 a23 a24 C0 E0 E1 E2 E3 E4 E5 E6 E7 E8 E9 cc0 cc1 pp0 pp1) prg e.1 e.2) (all_cons (kn_is_run_sign d_a0) (all_cons (kn_is_numeral d_a1) (all_cons (kn_kind_of d_a2) (all_cons (kn_is_name d_a3) (all_cons (kn_tokens d_a9) (all_cons (kn__law_pen d_a10) (all_cons (kn__law_draw d_a11) (all_cons (kn__law_pick d_a12) (all_cons (kn__law_shuffled d_a13) (all_cons (kn__law_name d_a14) (all_cons (kn__law_names d_a15) (all_cons (kn__law_same d_a16) (all_cons (kn__law_why d_a17) (all_cons (kn__law_keys d_a18) (all_cons (kn__law_is_name d_a19) (all_cons (kn__law_is_number d_a20) (all_cons (kn__law_kind_of_word d_a21) (all_cons (kn__law_due d_a22) (all_cons (kn__law_is_told d_a23 (lamTab_mk (G := gam a0 a1 a2 a3 a4 a5 a6 a7 a8 a9 a10 a11 a12 a13 a14 a15 a16 a17 a18 a19 a20 a21 a22 a23 a24 C0 E0 E1 E2 E3 E4 E5 E6 E7 E8 E9 cc0 cc1 pp0 pp1) (show _ ∈ (gam a0 a1 a2 a3 a4 a5 a6 a7 a8 a9 a10 a11 a12 a13 a14 a15 a16 a17 a18 a19 a20 a21 a22 a23 a24 C0 E0 E1 E2 E3 E4 E5 E6 E7 E8 E9 cc0 cc1 pp0 pp1).cds from (.head _)) (show (pp0, ("_law_is_told.<locals>.<lambda>" : Str)) ∈ (gam a0 a1 a2 a3 a4 a5 a6 a7 a8 a9 a10 a11 a12 a13 a14 a15 a16 a17 a18 a19 a20 a21 a22 a23 a24 C0 E0 E1 E2 E3 E4 E5 E6 E7 E8 E9 cc0 cc1 pp0 pp1).tabs from (.head _)) nd_t)) (all_cons (kn_law d_a24 (lamTab_mk (G := gam a0 a1 a2 a3 a4 a5 a6 a7 a8 a9 a10 a11 a12 a13 a14 a15 a16 a17 a18 a19 a20 a21 a22 a23 a24 C0 E0 E1 E2 E3 E4 E5 E6 E7 E8 E9 cc0 cc1 pp0 pp1) (show _ ∈ (gam a0 a1 a2 a3 a4 a5 a6 a7 a8 a9 a10 a11 a12 a13 a14 a15 a16 a17 a18 a19 a20 a21 a22 a23 a24 C0 E0 E1 E2 E3 E4 E5 E6 E7 E8 E9 cc0 cc1 pp0 pp1).cds from (.tail _ (.head _))) (show (pp1, ("law.<locals>.<lambda>" : Str)) ∈ (gam a0 a1 a2 a3 a4 a5 a6 a7 a8 a9 a10 a11 a12 a13 a14 a15 a16 a17 a18 a19 a20 a21 a22 a23 a24 C0 E0 E1 E2 E3 E4 E5 E6 E7 E8 E9 cc0 cc1 pp0 pp1).tabs from (.tail _ (.head _))) nd_t)) (all_nil)))))))))))))))))))))
  · exact fun c ci m qq a h1 h2 => look_all (l := clsL a0 a1 a2 a3 a4 a5 a6 a7 a8 a9 a10 a11 a12 a13 a14 a15 a16 a17 a18 a19 a20 a21 a22 a23 a24 C0 E0 E1 E2 E3 E4 E5 E6 E7 E8 E9 cc0 cc1 pp0 pp1) (p := fun e => ∀ m qq a, e.2.meths.lookup m = some (qq, a) → Known K (gam a0 a1 a2 a3 a4 a5 a6 a7 a8 a9 a10 a11 a12 a13 a14 a15 a16 a17 a18 a19 a20 a21 a22 a23 a24 C0 E0 E1 E2 E3 E4 E5 E6 E7 E8 E9 cc0 cc1 pp0 pp1) prg qq a) (all_cons (fun m qq a h => look_all (l := ([(("is_over" : Str), ("Scanner.is_over" : Str), a5), (("skip" : Str), ("Scanner.skip" : Str), a6), (("pass_gap" : Str), ("Scanner.pass_gap" : Str), a7), (("token" : Str), ("Scanner.token" : Str), a8)] : List (Str × Str × Addr))) (p := fun e => Known K (gam a0 a1 a2 a3 a4 a5 a6 a7 a8 a9 a10 a11 a12 a13 a14 a15 a16 a17 a18 a19 a20 a21 a22 a23 a24 C0 E0 E1 E2 E3 E4 E5 E6 E7 E8 E9 cc0 cc1 pp0 pp1) prg e.2.1 e.2.2) (all_cons (kn_Scanner_is_over d_a5) (all_cons (kn_Scanner_skip d_a6) (all_cons (kn_Scanner_pass_gap d_a7) (all_cons (kn_Scanner_token d_a8) (all_nil))))) m (qq, a) h) (all_nil)) c ci h1 m qq a h2
  · exact fun c ci qq a h1 h2 => look_all (l := clsL a0 a1 a2 a3 a4 a5 a6 a7 a8 a9 a10 a11 a12 a13 a14 a15 a16 a17 a18 a19 a20 a21 a22 a23 a24 C0 E0 E1 E2 E3 E4 E5 E6 E7 E8 E9 cc0 cc1 pp0 pp1) (p := fun e => ∀ qq a, e.2.init = some (qq, a) → Known K (gam a0 a1 a2 a3 a4 a5 a6 a7 a8 a9 a10 a11 a12 a13 a14 a15 a16 a17 a18 a19 a20 a21 a22 a23 a24 C0 E0 E1 E2 E3 E4 E5 E6 E7 E8 E9 cc0 cc1 pp0 pp1) prg qq a) (all_cons (fun qq a h => by cases h; exact (kn_Scanner___init__ d_a4)) (all_nil)) c ci h1 qq a h2
theorem need {l : PySem.W.OpenLaw} {w : World} {fa : Addr} {a0 a1 a2 a3 a4 a5 a6 a7 a8 a9 a10 a11 a12 a13 a14 a15 a16 a17 a18 a19 a20 a21 a22 a23 a24 C0 E0 E1 E2 E3 E4 E5 E6 E7 E8 E9 cc0 cc1 pp0 pp1 : Addr} (F : Facts K a0 a1 a2 a3 a4 a5 a6 a7 a8 a9 a10 a11 a12 a13 a14 a15 a16 a17 a18 a19 a20 a21 a22 a23 a24 C0 E0 E1 E2 E3 E4 E5 E6 E7 E8 E9 cc0 cc1 pp0 pp1) (hT : ∀ p ∈ (gam a0 a1 a2 a3 a4 a5 a6 a7 a8 a9 a10 a11 a12 a13 a14 a15 a16 a17 a18 a19 a20 a21 a22 a23 a24 C0 E0 E1 E2 E3 E4 E5 E6 E7 E8 E9 cc0 cc1 pp0 pp1).cds, h.get? p.2 = some { cls := .none, data := .fields #[] }) (X : K.In h) (Gn : h.Ns mainGlobals mg) (hl : mg ("law" : Str) = some (.ref fa)) (plain : ∀ ns : List Int, ns.length ≤ 63 → (∀ z ∈ ns, Builtin.Int.intBits z ≤ 1048576) → ∃ S', runF (gam a0 a1 a2 a3 a4 a5 a6 a7 a8 a9 a10 a11 a12 a13 a14 a15 a16 a17 a18 a19 a20 a21 a22 a23 a24 C0 E0 E1 E2 E3 E4 E5 E6 E7 E8 E9 cc0 cc1 pp0 pp1) prg 41 ("law" : Str) [.dat (.scr ns)] [] = .ok (.dat (.bl true)) S') :
    LamX.LawAtS l w K (L2.CX l.prog w) 83 63 "script" mg fa h := by
  have e := (PySem.W.mg_of X Gn F.nl).symm.trans hl
  cases e
  exact law_need rfl X F.gf F.po d_law (by rfl) F.dl ⟨rfl, rfl, rfl, by decide +kernel, rfl, by decide +kernel, by decide +kernel⟩ rfl (fun _ _ _ _ _ _ us hl => match us, hl with | [_], _ => rfl) rfl rfl rfl hT F.nt F.ct 40 plain
end
end K02
namespace K02
open PySem PySem.Spec PyProof.Rows L2 EC
abbrev gm (A : Nat → Addr) : Gam := gam (A 0) (A 1) (A 2) (A 3) (A 4) (A 5) (A 6) (A 7) (A 8) (A 9) (A 10) (A 11) (A 12) (A 13) (A 14) (A 15) (A 16) (A 17) (A 18) (A 19) (A 20) (A 21) (A 22) (A 23) (A 24) (A 25) (A 26) (A 27) (A 28) (A 29) (A 30) (A 31) (A 32) (A 33) (A 34) (A 35) (A 36) (A 37) (A 38) (A 39)
def b_is_run_sign (G : Gam) (T : FnT) : Ss := (seqL [(sRet (sOr (s2 (f2 (dCmpD .In)) (sVar 0) (sVal (.str ("abcdefghijklmnopqrstuvwxyz" : Str)))) (s2 (f2 (dCmpD .In)) (sVar 0) (sVal (.str ("0123456789" : Str))))))])
theorem sh_is_run_sign {a0 a1 a2 a3 a4 a5 a6 a7 a8 a9 a10 a11 a12 a13 a14 a15 a16 a17 a18 a19 a20 a21 a22 a23 a24 C0 E0 E1 E2 E3 E4 E5 E6 E7 E8 E9 cc0 cc1 pp0 pp1 : Addr} (T : FnT) : seqOf (cS (gam a0 a1 a2 a3 a4 a5 a6 a7 a8 a9 a10 a11 a12 a13 a14 a15 a16 a17 a18 a19 a20 a21 a22 a23 a24 C0 E0 E1 E2 E3 E4 E5 E6 E7 E8 E9 cc0 cc1 pp0 pp1) T d_is_run_sign.fi 40 30) d_is_run_sign.body = b_is_run_sign (gam a0 a1 a2 a3 a4 a5 a6 a7 a8 a9 a10 a11 a12 a13 a14 a15 a16 a17 a18 a19 a20 a21 a22 a23 a24 C0 E0 E1 E2 E3 E4 E5 E6 E7 E8 E9 cc0 cc1 pp0 pp1) T := by kernel_rfl
def b_is_numeral (G : Gam) (T : FnT) : Ss := (seqL [(sIte (tst (sOr (sNot (sBi .all [(sLc (sIter (sVar 0)) (setI 1) yes (s2 (f2 (dCmpD .In)) (sVar 1) (sVal (.str ("0123456789" : Str)))) [1] false)])) (s2 (f2 (dCmpD .Gt)) (sBi .len [(sVar 0)]) (sVal (.int 3))))) (seqL [(sRet (sVal (.bl false)))]) (seqL [])), (sRet (sOr (s2 (f2 (dCmpD .Eq)) (sVar 0) (sVal (.str ("0" : Str)))) (s2 (f2 (dCmpD .NotEq)) (s2 (f2 dIx) (sVar 0) (sVal (.int 0))) (sVal (.str ("0" : Str))))))])
theorem sh_is_numeral {a0 a1 a2 a3 a4 a5 a6 a7 a8 a9 a10 a11 a12 a13 a14 a15 a16 a17 a18 a19 a20 a21 a22 a23 a24 C0 E0 E1 E2 E3 E4 E5 E6 E7 E8 E9 cc0 cc1 pp0 pp1 : Addr} (T : FnT) : seqOf (cS (gam a0 a1 a2 a3 a4 a5 a6 a7 a8 a9 a10 a11 a12 a13 a14 a15 a16 a17 a18 a19 a20 a21 a22 a23 a24 C0 E0 E1 E2 E3 E4 E5 E6 E7 E8 E9 cc0 cc1 pp0 pp1) T d_is_numeral.fi 40 30) d_is_numeral.body = b_is_numeral (gam a0 a1 a2 a3 a4 a5 a6 a7 a8 a9 a10 a11 a12 a13 a14 a15 a16 a17 a18 a19 a20 a21 a22 a23 a24 C0 E0 E1 E2 E3 E4 E5 E6 E7 E8 E9 cc0 cc1 pp0 pp1) T := by kernel_rfl
def b_kind_of (G : Gam) (T : FnT) : Ss := (seqL [(sIte (tst (s2 (f2 (dCmpD .In)) (sVar 0) (sVal (.kup [.str ("site" : Str), .str ("place" : Str), .str ("crew" : Str), .str ("rest" : Str), .str ("road" : Str), .str ("to" : Str), .str ("by" : Str), .str ("cost" : Str), .str ("laid" : Str)])))) (seqL [(sRet (sVal (.str ("key" : Str))))]) (seqL [])), (sIte (tst (s2 (f2 (dCmpD .In)) (s2 (f2 dIx) (sVar 0) (sVal (.int 0))) (sVal (.str ("abcdefghijklmnopqrstuvwxyz" : Str))))) (seqL [(sRet (sIf (tst (s2 (f2 (dCmpD .LtE)) (sBi .len [(sVar 0)]) (sVal (.int 12)))) (sVal (.str ("name" : Str))) (sVal (.non))))]) (seqL [])), (sRet (sIf (tst (sFnL T ("is_numeral" : Str) [(sVar 0)])) (sVal (.str ("number" : Str))) (sVal (.non))))])
theorem sh_kind_of {a0 a1 a2 a3 a4 a5 a6 a7 a8 a9 a10 a11 a12 a13 a14 a15 a16 a17 a18 a19 a20 a21 a22 a23 a24 C0 E0 E1 E2 E3 E4 E5 E6 E7 E8 E9 cc0 cc1 pp0 pp1 : Addr} (T : FnT) : seqOf (cS (gam a0 a1 a2 a3 a4 a5 a6 a7 a8 a9 a10 a11 a12 a13 a14 a15 a16 a17 a18 a19 a20 a21 a22 a23 a24 C0 E0 E1 E2 E3 E4 E5 E6 E7 E8 E9 cc0 cc1 pp0 pp1) T d_kind_of.fi 40 30) d_kind_of.body = b_kind_of (gam a0 a1 a2 a3 a4 a5 a6 a7 a8 a9 a10 a11 a12 a13 a14 a15 a16 a17 a18 a19 a20 a21 a22 a23 a24 C0 E0 E1 E2 E3 E4 E5 E6 E7 E8 E9 cc0 cc1 pp0 pp1) T := by kernel_rfl
def b_is_name (G : Gam) (T : FnT) : Ss := (seqL [(sIte (tst (sOr (sNot (sBi .isi [(sVar 0), (sVal (.bty "str"))])) (sOr (s2 (f2 (dCmpD .Eq)) (sVar 0) (sVal (.str ("" : Str)))) (sNot (sBi .all [(sLc (sIter (sVar 0)) (setI 1) yes (sFnL T ("is_run_sign" : Str) [(sVar 1)]) [1] false)]))))) (seqL [(sRet (sVal (.bl false)))]) (seqL [])), (sRet (s2 (f2 (dCmpD .Eq)) (sFnL T ("kind_of" : Str) [(sVar 0)]) (sVal (.str ("name" : Str)))))])
theorem sh_is_name {a0 a1 a2 a3 a4 a5 a6 a7 a8 a9 a10 a11 a12 a13 a14 a15 a16 a17 a18 a19 a20 a21 a22 a23 a24 C0 E0 E1 E2 E3 E4 E5 E6 E7 E8 E9 cc0 cc1 pp0 pp1 : Addr} (T : FnT) : seqOf (cS (gam a0 a1 a2 a3 a4 a5 a6 a7 a8 a9 a10 a11 a12 a13 a14 a15 a16 a17 a18 a19 a20 a21 a22 a23 a24 C0 E0 E1 E2 E3 E4 E5 E6 E7 E8 E9 cc0 cc1 pp0 pp1) T d_is_name.fi 40 30) d_is_name.body = b_is_name (gam a0 a1 a2 a3 a4 a5 a6 a7 a8 a9 a10 a11 a12 a13 a14 a15 a16 a17 a18 a19 a20 a21 a22 a23 a24 C0 E0 E1 E2 E3 E4 E5 E6 E7 E8 E9 cc0 cc1 pp0 pp1) T := by kernel_rfl
def b_Scanner___init__ (G : Gam) (T : FnT) : Ss := (seqL [(sFldAsg G ("text" : Str) (sVar 1) (sVar 0)), (sFldAsg G ("at" : Str) (sVal (.int 0)) (sVar 0)), (sFldAsg G ("line" : Str) (sVal (.int 1)) (sVar 0)), (sFldAsg G ("column" : Str) (sVal (.int 1)) (sVar 0))])
theorem sh_Scanner___init__ {a0 a1 a2 a3 a4 a5 a6 a7 a8 a9 a10 a11 a12 a13 a14 a15 a16 a17 a18 a19 a20 a21 a22 a23 a24 C0 E0 E1 E2 E3 E4 E5 E6 E7 E8 E9 cc0 cc1 pp0 pp1 : Addr} (T : FnT) : seqOf (cS (gam a0 a1 a2 a3 a4 a5 a6 a7 a8 a9 a10 a11 a12 a13 a14 a15 a16 a17 a18 a19 a20 a21 a22 a23 a24 C0 E0 E1 E2 E3 E4 E5 E6 E7 E8 E9 cc0 cc1 pp0 pp1) T d_Scanner___init__.fi 40 30) d_Scanner___init__.body = b_Scanner___init__ (gam a0 a1 a2 a3 a4 a5 a6 a7 a8 a9 a10 a11 a12 a13 a14 a15 a16 a17 a18 a19 a20 a21 a22 a23 a24 C0 E0 E1 E2 E3 E4 E5 E6 E7 E8 E9 cc0 cc1 pp0 pp1) T := by kernel_rfl
def b_Scanner_is_over (G : Gam) (T : FnT) : Ss := (seqL [(sRet (s2 (f2 (dCmpD .Eq)) (sFld G ("at" : Str) (sVar 0)) (sBi .len [(sFld G ("text" : Str) (sVar 0))])))])
theorem sh_Scanner_is_over {a0 a1 a2 a3 a4 a5 a6 a7 a8 a9 a10 a11 a12 a13 a14 a15 a16 a17 a18 a19 a20 a21 a22 a23 a24 C0 E0 E1 E2 E3 E4 E5 E6 E7 E8 E9 cc0 cc1 pp0 pp1 : Addr} (T : FnT) : seqOf (cS (gam a0 a1 a2 a3 a4 a5 a6 a7 a8 a9 a10 a11 a12 a13 a14 a15 a16 a17 a18 a19 a20 a21 a22 a23 a24 C0 E0 E1 E2 E3 E4 E5 E6 E7 E8 E9 cc0 cc1 pp0 pp1) T d_Scanner_is_over.fi 40 30) d_Scanner_is_over.body = b_Scanner_is_over (gam a0 a1 a2 a3 a4 a5 a6 a7 a8 a9 a10 a11 a12 a13 a14 a15 a16 a17 a18 a19 a20 a21 a22 a23 a24 C0 E0 E1 E2 E3 E4 E5 E6 E7 E8 E9 cc0 cc1 pp0 pp1) T := by kernel_rfl
def b_Scanner_skip (G : Gam) (T : FnT) : Ss := (seqL [(sAugF G ("at" : Str) .Add (sVar 0) (sVar 1)), (sAugF G ("column" : Str) .Add (sVar 0) (sVar 1))])
theorem sh_Scanner_skip {a0 a1 a2 a3 a4 a5 a6 a7 a8 a9 a10 a11 a12 a13 a14 a15 a16 a17 a18 a19 a20 a21 a22 a23 a24 C0 E0 E1 E2 E3 E4 E5 E6 E7 E8 E9 cc0 cc1 pp0 pp1 : Addr} (T : FnT) : seqOf (cS (gam a0 a1 a2 a3 a4 a5 a6 a7 a8 a9 a10 a11 a12 a13 a14 a15 a16 a17 a18 a19 a20 a21 a22 a23 a24 C0 E0 E1 E2 E3 E4 E5 E6 E7 E8 E9 cc0 cc1 pp0 pp1) T d_Scanner_skip.fi 40 30) d_Scanner_skip.body = b_Scanner_skip (gam a0 a1 a2 a3 a4 a5 a6 a7 a8 a9 a10 a11 a12 a13 a14 a15 a16 a17 a18 a19 a20 a21 a22 a23 a24 C0 E0 E1 E2 E3 E4 E5 E6 E7 E8 E9 cc0 cc1 pp0 pp1) T := by kernel_rfl
def b_Scanner_pass_gap (G : Gam) (T : FnT) : Ss := (seqL [(sAsg (s2 (f2 dIx) (sFld G ("text" : Str) (sVar 0)) (sFld G ("at" : Str) (sVar 0))) (setI 1)), (sIte (tst (s2 (f2 (dCmpD .Eq)) (sVar 1) (sVal (.str ("\n" : Str))))) (seqL [(sTM (evl [(s2 (f2 (dBin .Add)) (sFld G ("at" : Str) (sVar 0)) (sVal (.int 1))), (s2 (f2 (dBin .Add)) (sFld G ("line" : Str) (sVar 0)) (sVal (.int 1))), (sVal (.int 1))]) [(gFldW G ("at" : Str) (sVar 0)), (gFldW G ("line" : Str) (sVar 0)), (gFldW G ("column" : Str) (sVar 0))])]) (seqL [(sIte (tst (s2 (f2 (dCmpD .Eq)) (sVar 1) (sVal (.str (" " : Str))))) (seqL [(sExpr (sMeth G T ("skip" : Str) (sVar 0) (evl [(sVal (.int 1))])))]) (seqL [(sIte (tst (s2 (f2 (dCmpD .Eq)) (sVar 1) (sVal (.str ("#" : Str))))) (seqL [(sExpr (sMeth G T ("skip" : Str) (sVar 0) (evl [(sBi .len [(s2 (f2 dIx) (sMeth G T ("split" : Str) (sSl (sFld G ("text" : Str) (sVar 0)) (some (sFld G ("at" : Str) (sVar 0))) none) (evl [(sVal (.str ("\n" : Str)))])) (sVal (.int 0)))])])))]) (seqL []))]))])), (sRet (s2 (f2 (dCmpD .In)) (sVar 1) (sVal (.str ("\n #" : Str)))))])
theorem sh_Scanner_pass_gap {a0 a1 a2 a3 a4 a5 a6 a7 a8 a9 a10 a11 a12 a13 a14 a15 a16 a17 a18 a19 a20 a21 a22 a23 a24 C0 E0 E1 E2 E3 E4 E5 E6 E7 E8 E9 cc0 cc1 pp0 pp1 : Addr} (T : FnT) : seqOf (cS (gam a0 a1 a2 a3 a4 a5 a6 a7 a8 a9 a10 a11 a12 a13 a14 a15 a16 a17 a18 a19 a20 a21 a22 a23 a24 C0 E0 E1 E2 E3 E4 E5 E6 E7 E8 E9 cc0 cc1 pp0 pp1) T d_Scanner_pass_gap.fi 40 30) d_Scanner_pass_gap.body = b_Scanner_pass_gap (gam a0 a1 a2 a3 a4 a5 a6 a7 a8 a9 a10 a11 a12 a13 a14 a15 a16 a17 a18 a19 a20 a21 a22 a23 a24 C0 E0 E1 E2 E3 E4 E5 E6 E7 E8 E9 cc0 cc1 pp0 pp1) T := by kernel_rfl
def b_Scanner_token (G : Gam) (T : FnT) : Ss := (seqL [(sTT (evl [(sTup [(sFld G ("line" : Str) (sVar 0)), (sFld G ("column" : Str) (sVar 0))]), (sVal (.int 0))]) (setIs [1, 2])), (sWhile (tst (sAnd (s2 (f2 (dCmpD .Lt)) (s2 (f2 (dBin .Add)) (sFld G ("at" : Str) (sVar 0)) (sVar 2)) (sBi .len [(sFld G ("text" : Str) (sVar 0))])) (sFnL T ("is_run_sign" : Str) [(s2 (f2 dIx) (sFld G ("text" : Str) (sVar 0)) (s2 (f2 (dBin .Add)) (sFld G ("at" : Str) (sVar 0)) (sVar 2)))]))) (seqL [(sAugN 2 .Add (sVal (.int 1)))])), (sAsg (sSl (sFld G ("text" : Str) (sVar 0)) (some (sFld G ("at" : Str) (sVar 0))) (some (s2 (f2 (dBin .Add)) (sFld G ("at" : Str) (sVar 0)) (sBi .max [(sVal (.int 1)), (sVar 2)])))) (setI 3)), (sAsg (sIf (tst (s2 (f2 (dCmpD .Gt)) (sVar 2) (sVal (.int 0)))) (sFnL T ("kind_of" : Str) [(sVar 3)]) (sIf (tst (s2 (f2 (dCmpD .In)) (sVar 3) (sVal (.kup [.str ("{" : Str), .str ("}" : Str), .str ("," : Str), .str (";" : Str), .str (":" : Str)])))) (sVal (.str ("sign" : Str))) (sVal (.non)))) (setI 4)), (sIte (tst (s2 (f2 (dCmpD .Is)) (sVar 4) (sVal (.non)))) (seqL [(sRaise G ("Misread" : Str) (evl [(sFld G ("line" : Str) (sVar 0)), (sFld G ("column" : Str) (sVar 0))]))]) (seqL [])), (sExpr (sMeth G T ("skip" : Str) (sVar 0) (evl [(sBi .len [(sVar 3)])]))), (sRet (sTup [(sVar 4), (sVar 3), (sVar 1)]))])
theorem sh_Scanner_token {a0 a1 a2 a3 a4 a5 a6 a7 a8 a9 a10 a11 a12 a13 a14 a15 a16 a17 a18 a19 a20 a21 a22 a23 a24 C0 E0 E1 E2 E3 E4 E5 E6 E7 E8 E9 cc0 cc1 pp0 pp1 : Addr} (T : FnT) : seqOf (cS (gam a0 a1 a2 a3 a4 a5 a6 a7 a8 a9 a10 a11 a12 a13 a14 a15 a16 a17 a18 a19 a20 a21 a22 a23 a24 C0 E0 E1 E2 E3 E4 E5 E6 E7 E8 E9 cc0 cc1 pp0 pp1) T d_Scanner_token.fi 40 30) d_Scanner_token.body = b_Scanner_token (gam a0 a1 a2 a3 a4 a5 a6 a7 a8 a9 a10 a11 a12 a13 a14 a15 a16 a17 a18 a19 a20 a21 a22 a23 a24 C0 E0 E1 E2 E3 E4 E5 E6 E7 E8 E9 cc0 cc1 pp0 pp1) T := by kernel_rfl
def b_tokens (G : Gam) (T : FnT) : Ss := (seqL [(sIte (tst (sNot (sBi .isi [(sVar 0), (sVal (.bty "str"))]))) (seqL [(sRaise G ("Misread" : Str) (evl [(sVal (.int 0)), (sVal (.int 0))]))]) (seqL [])), (sTT (evl [(sNewN T ("Scanner" : Str) ("Scanner.__init__" : Str) 4 true [(sVar 0)]), (sLst true [])]) (setIs [1, 2])), (sWhile (tst (sNot (sMeth G T ("is_over" : Str) (sVar 1) (evl [])))) (seqL [(sIte (tst (sNot (sMeth G T ("pass_gap" : Str) (sVar 1) (evl [])))) (seqL [(sExpr (sMeth G T ("append" : Str) (sVar 2) (evl [(sMeth G T ("token" : Str) (sVar 1) (evl []))])))]) (seqL []))])), (sExpr (sMeth G T ("append" : Str) (sVar 2) (evl [(sTup [(sVal (.str ("end" : Str))), (sVal (.str ("" : Str))), (sTup [(sFld G ("line" : Str) (sVar 1)), (sFld G ("column" : Str) (sVar 1))])])]))), (sRet (sBi .tuple [(sVar 2)]))])
theorem sh_tokens {a0 a1 a2 a3 a4 a5 a6 a7 a8 a9 a10 a11 a12 a13 a14 a15 a16 a17 a18 a19 a20 a21 a22 a23 a24 C0 E0 E1 E2 E3 E4 E5 E6 E7 E8 E9 cc0 cc1 pp0 pp1 : Addr} (T : FnT) : seqOf (cS (gam a0 a1 a2 a3 a4 a5 a6 a7 a8 a9 a10 a11 a12 a13 a14 a15 a16 a17 a18 a19 a20 a21 a22 a23 a24 C0 E0 E1 E2 E3 E4 E5 E6 E7 E8 E9 cc0 cc1 pp0 pp1) T d_tokens.fi 40 30) d_tokens.body = b_tokens (gam a0 a1 a2 a3 a4 a5 a6 a7 a8 a9 a10 a11 a12 a13 a14 a15 a16 a17 a18 a19 a20 a21 a22 a23 a24 C0 E0 E1 E2 E3 E4 E5 E6 E7 E8 E9 cc0 cc1 pp0 pp1) T := by kernel_rfl
def b__law_pen (G : Gam) (T : FnT) : Ss := (seqL [(sAsg (sVal (.int 89)) (setI 1)), (sFor (sIter (sVar 0)) (setI 2) (seqL [(sAsg (s2 (f2 (dBin .Mod)) (sBi .int [(s2 (f2 (dBin .Add)) (s2 (f2 (dBin .Mult)) (sVar 1) (sVal (.int 239))) (sVar 2))]) (sVal (.int 1000000891))) (setI 1))])), (sRet (sDictL true [((sVal (.str ("cells" : Str))), (sBi .list [(sVar 0)])), ((sVal (.str ("at" : Str))), (sVal (.int 0))), ((sVal (.str ("digits" : Str))), (sVal (.int 0))), ((sVal (.str ("count" : Str))), (sVal (.int 0))), ((sVal (.str ("fold" : Str))), (sVar 1))]))])
theorem sh__law_pen {a0 a1 a2 a3 a4 a5 a6 a7 a8 a9 a10 a11 a12 a13 a14 a15 a16 a17 a18 a19 a20 a21 a22 a23 a24 C0 E0 E1 E2 E3 E4 E5 E6 E7 E8 E9 cc0 cc1 pp0 pp1 : Addr} (T : FnT) : seqOf (cS (gam a0 a1 a2 a3 a4 a5 a6 a7 a8 a9 a10 a11 a12 a13 a14 a15 a16 a17 a18 a19 a20 a21 a22 a23 a24 C0 E0 E1 E2 E3 E4 E5 E6 E7 E8 E9 cc0 cc1 pp0 pp1) T d__law_pen.fi 40 30) d__law_pen.body = b__law_pen (gam a0 a1 a2 a3 a4 a5 a6 a7 a8 a9 a10 a11 a12 a13 a14 a15 a16 a17 a18 a19 a20 a21 a22 a23 a24 C0 E0 E1 E2 E3 E4 E5 E6 E7 E8 E9 cc0 cc1 pp0 pp1) T := by kernel_rfl
def b__law_draw (G : Gam) (T : FnT) : Ss := (seqL [(sPut (s2 (f2 (dBin .Add)) (s2 (f2 dIx) (sVar 0) (sVal (.str ("count" : Str)))) (sVal (.int 1))) (sVar 0) (sVal (.str ("count" : Str)))), (sIte (tst (sAnd (s2 (f2 (dCmpD .Eq)) (s2 (f2 dIx) (sVar 0) (sVal (.str ("digits" : Str)))) (sVal (.int 0))) (s2 (f2 (dCmpD .Lt)) (s2 (f2 dIx) (sVar 0) (sVal (.str ("at" : Str)))) (sBi .len [(s2 (f2 dIx) (sVar 0) (sVal (.str ("cells" : Str))))])))) (seqL [(sAsg (s2 (f2 dIx) (s2 (f2 dIx) (sVar 0) (sVal (.str ("cells" : Str)))) (s2 (f2 dIx) (sVar 0) (sVal (.str ("at" : Str))))) (setI 2)), (sPut (s2 (f2 (dBin .Add)) (s2 (f2 dIx) (sVar 0) (sVal (.str ("at" : Str)))) (sVal (.int 1))) (sVar 0) (sVal (.str ("at" : Str)))), (sIte (tst (s2 (f2 (dCmpD .GtE)) (sVar 2) (s2 (f2 (dBin .Pow)) (sVal (.int 10)) (sVal (.int 18))))) (seqL [(sPut (s2 (f2 (dBin .Sub)) (sVar 2) (s2 (f2 (dBin .Pow)) (sVal (.int 10)) (sVal (.int 18)))) (sVar 0) (sVal (.str ("digits" : Str))))]) (seqL [(sPut (s2 (f2 (dBin .Mod)) (sBi .int [(s2 (f2 (dBin .Add)) (s2 (f2 (dBin .Mult)) (s2 (f2 dIx) (sVar 0) (sVal (.str ("fold" : Str)))) (sVal (.int 70297))) (sVar 2))]) (sVal (.int 2147483029))) (sVar 0) (sVal (.str ("fold" : Str))))]))]) (seqL [])), (sIte (tst (s2 (f2 (dCmpD .Gt)) (s2 (f2 dIx) (sVar 0) (sVal (.str ("digits" : Str)))) (sVal (.int 0)))) (seqL [(sAsg (s2 (f2 (dBin .Mod)) (sBi .int [(s2 (f2 dIx) (sVar 0) (sVal (.str ("digits" : Str))))]) (sVar 1)) (setI 3)), (sPut (s2 (f2 (dBin .FloorDiv)) (s2 (f2 dIx) (sVar 0) (sVal (.str ("digits" : Str)))) (sVar 1)) (sVar 0) (sVal (.str ("digits" : Str)))), (sRet (sVar 3))]) (seqL [])), (sAsg (s2 (f2 (dBin .Add)) (s2 (f2 (dBin .Add)) (s2 (f2 dIx) (sVar 0) (sVal (.str ("fold" : Str)))) (s2 (f2 (dBin .Mult)) (s2 (f2 dIx) (sVar 0) (sVal (.str ("count" : Str)))) (sVal (.int 8069)))) (sVal (.int 157))) (setI 4)), (sRet (s2 (f2 (dBin .Mod)) (s2 (f2 (dBin .FloorDiv)) (sBi .int [(s2 (f2 (dBin .Mod)) (s2 (f2 (dBin .Pow)) (sVar 4) (sVal (.int 17))) (sVal (.int 2305843009213693951)))]) (sVal (.int 128))) (sVar 1)))])
theorem sh__law_draw {a0 a1 a2 a3 a4 a5 a6 a7 a8 a9 a10 a11 a12 a13 a14 a15 a16 a17 a18 a19 a20 a21 a22 a23 a24 C0 E0 E1 E2 E3 E4 E5 E6 E7 E8 E9 cc0 cc1 pp0 pp1 : Addr} (T : FnT) : seqOf (cS (gam a0 a1 a2 a3 a4 a5 a6 a7 a8 a9 a10 a11 a12 a13 a14 a15 a16 a17 a18 a19 a20 a21 a22 a23 a24 C0 E0 E1 E2 E3 E4 E5 E6 E7 E8 E9 cc0 cc1 pp0 pp1) T d__law_draw.fi 40 30) d__law_draw.body = b__law_draw (gam a0 a1 a2 a3 a4 a5 a6 a7 a8 a9 a10 a11 a12 a13 a14 a15 a16 a17 a18 a19 a20 a21 a22 a23 a24 C0 E0 E1 E2 E3 E4 E5 E6 E7 E8 E9 cc0 cc1 pp0 pp1) T := by kernel_rfl
def b__law_pick (G : Gam) (T : FnT) : Ss := (seqL [(sRet (s2 (f2 dIx) (sVar 1) (sFnL T ("_law_draw" : Str) [(sVar 0), (sBi .len [(sVar 1)])])))])
theorem sh__law_pick {a0 a1 a2 a3 a4 a5 a6 a7 a8 a9 a10 a11 a12 a13 a14 a15 a16 a17 a18 a19 a20 a21 a22 a23 a24 C0 E0 E1 E2 E3 E4 E5 E6 E7 E8 E9 cc0 cc1 pp0 pp1 : Addr} (T : FnT) : seqOf (cS (gam a0 a1 a2 a3 a4 a5 a6 a7 a8 a9 a10 a11 a12 a13 a14 a15 a16 a17 a18 a19 a20 a21 a22 a23 a24 C0 E0 E1 E2 E3 E4 E5 E6 E7 E8 E9 cc0 cc1 pp0 pp1) T d__law_pick.fi 40 30) d__law_pick.body = b__law_pick (gam a0 a1 a2 a3 a4 a5 a6 a7 a8 a9 a10 a11 a12 a13 a14 a15 a16 a17 a18 a19 a20 a21 a22 a23 a24 C0 E0 E1 E2 E3 E4 E5 E6 E7 E8 E9 cc0 cc1 pp0 pp1) T := by kernel_rfl
def b__law_shuffled (G : Gam) (T : FnT) : Ss := (seqL [(sTT (evl [(sBiB true [(sVar 1)]), (sLst true [])]) (setIs [2, 3])), (sFor (sRng1 (evl [(sBi .len [(sVar 1)])])) (setI 4) (seqL [(sExpr (sMeth G T ("append" : Str) (sVar 3) (evl [(sMeth G T ("pop" : Str) (sVar 2) (evl [(sFnL T ("_law_draw" : Str) [(sVar 0), (sBi .len [(sVar 2)])])]))])))])), (sRet (sVar 3))])
theorem sh__law_shuffled {a0 a1 a2 a3 a4 a5 a6 a7 a8 a9 a10 a11 a12 a13 a14 a15 a16 a17 a18 a19 a20 a21 a22 a23 a24 C0 E0 E1 E2 E3 E4 E5 E6 E7 E8 E9 cc0 cc1 pp0 pp1 : Addr} (T : FnT) : seqOf (cS (gam a0 a1 a2 a3 a4 a5 a6 a7 a8 a9 a10 a11 a12 a13 a14 a15 a16 a17 a18 a19 a20 a21 a22 a23 a24 C0 E0 E1 E2 E3 E4 E5 E6 E7 E8 E9 cc0 cc1 pp0 pp1) T d__law_shuffled.fi 40 30) d__law_shuffled.body = b__law_shuffled (gam a0 a1 a2 a3 a4 a5 a6 a7 a8 a9 a10 a11 a12 a13 a14 a15 a16 a17 a18 a19 a20 a21 a22 a23 a24 C0 E0 E1 E2 E3 E4 E5 E6 E7 E8 E9 cc0 cc1 pp0 pp1) T := by kernel_rfl
def b__law_name (G : Gam) (T : FnT) : Ss := (seqL [(sAsg (sVal (.str ("" : Str))) (setI 2)), (sFor (sRng1 (evl [(s2 (f2 (dBin .Add)) (sVal (.int 1)) (sFnL T ("_law_draw" : Str) [(sVar 0), (sVal (.int 8))]))])) (setI 3) (seqL [(sAsg (s2 (f2 (dBin .Add)) (sVar 2) (s2 (f2 dIx) (sVal (.str ("abcdefghijklmnopqrstuvwxyz" : Str))) (sFnL T ("_law_draw" : Str) [(sVar 0), (sVal (.int 26))]))) (setI 2))])), (sAsg (s2 (f2 (dBin .Add)) (sVal (.int 1)) (sFnL T ("_law_draw" : Str) [(sVar 0), (sBi .len [(sVar 2)])])) (setI 4)), (sRet (s2 (f2 (dBin .Add)) (s2 (f2 (dBin .Add)) (sSl (sVar 2) none (some (sVar 4))) (sBi .str [(sVar 1)])) (sSl (sVar 2) (some (sVar 4)) none)))])
theorem sh__law_name {a0 a1 a2 a3 a4 a5 a6 a7 a8 a9 a10 a11 a12 a13 a14 a15 a16 a17 a18 a19 a20 a21 a22 a23 a24 C0 E0 E1 E2 E3 E4 E5 E6 E7 E8 E9 cc0 cc1 pp0 pp1 : Addr} (T : FnT) : seqOf (cS (gam a0 a1 a2 a3 a4 a5 a6 a7 a8 a9 a10 a11 a12 a13 a14 a15 a16 a17 a18 a19 a20 a21 a22 a23 a24 C0 E0 E1 E2 E3 E4 E5 E6 E7 E8 E9 cc0 cc1 pp0 pp1) T d__law_name.fi 40 30) d__law_name.body = b__law_name (gam a0 a1 a2 a3 a4 a5 a6 a7 a8 a9 a10 a11 a12 a13 a14 a15 a16 a17 a18 a19 a20 a21 a22 a23 a24 C0 E0 E1 E2 E3 E4 E5 E6 E7 E8 E9 cc0 cc1 pp0 pp1) T := by kernel_rfl
def b__law_names (G : Gam) (T : FnT) : Ss := (seqL [(sRet (sFnL T ("_law_shuffled" : Str) [(sVar 0), (sLc (sRng1 (evl [(sVar 1)])) (setI 2) yes (sFnL T ("_law_name" : Str) [(sVar 0), (sVar 2)]) [2] false)]))])
theorem sh__law_names {a0 a1 a2 a3 a4 a5 a6 a7 a8 a9 a10 a11 a12 a13 a14 a15 a16 a17 a18 a19 a20 a21 a22 a23 a24 C0 E0 E1 E2 E3 E4 E5 E6 E7 E8 E9 cc0 cc1 pp0 pp1 : Addr} (T : FnT) : seqOf (cS (gam a0 a1 a2 a3 a4 a5 a6 a7 a8 a9 a10 a11 a12 a13 a14 a15 a16 a17 a18 a19 a20 a21 a22 a23 a24 C0 E0 E1 E2 E3 E4 E5 E6 E7 E8 E9 cc0 cc1 pp0 pp1) T d__law_names.fi 40 30) d__law_names.body = b__law_names (gam a0 a1 a2 a3 a4 a5 a6 a7 a8 a9 a10 a11 a12 a13 a14 a15 a16 a17 a18 a19 a20 a21 a22 a23 a24 C0 E0 E1 E2 E3 E4 E5 E6 E7 E8 E9 cc0 cc1 pp0 pp1) T := by kernel_rfl
def b__law_same (G : Gam) (T : FnT) : Ss := (seqL [(sIte (tst (sBi .isi [(sVar 1), (sVal (.bty "tuple"))])) (seqL [(sRet (sAnd (sBi .isi [(sVar 0), (sVal (.bty "tuple"))]) (sAnd (s2 (f2 (dCmpD .Eq)) (sBi .len [(sVar 0)]) (sBi .len [(sVar 1)])) (sBi .all [(sLc (sZip (evl [(sVar 0), (sVar 1)])) (setTI [2, 3]) yes (sFnL T ("_law_same" : Str) [(sVar 2), (sVar 3)]) [2, 3] false)]))))]) (seqL [])), (sIte (tst (s2 (f2 (dCmpD .Is)) (sVar 1) (sVal (.non)))) (seqL [(sRet (s2 (f2 (dCmpD .Is)) (sVar 0) (sVal (.non))))]) (seqL [])), (sIte (tst (s2 (f2 (dCmpD .Is)) (sVar 1) (sVal (.bl true)))) (seqL [(sRet (s2 (f2 (dCmpD .Is)) (sVar 0) (sVal (.bl true))))]) (seqL [])), (sIte (tst (s2 (f2 (dCmpD .Is)) (sVar 1) (sVal (.bl false)))) (seqL [(sRet (s2 (f2 (dCmpD .Is)) (sVar 0) (sVal (.bl false))))]) (seqL [])), (sIte (tst (sBi .isi [(sVar 1), (sVal (.bty "int"))])) (seqL [(sRet (sAnd (sBi .isi [(sVar 0), (sVal (.bty "int"))]) (sAnd (sNot (sBi .isi [(sVar 0), (sVal (.bty "bool"))])) (s2 (f2 (dCmpD .Eq)) (sVar 0) (sVar 1)))))]) (seqL [])), (sRet (sAnd (sBi .isi [(sVar 0), (sVal (.bty "str"))]) (s2 (f2 (dCmpD .Eq)) (sVar 0) (sVar 1))))])
theorem sh__law_same {a0 a1 a2 a3 a4 a5 a6 a7 a8 a9 a10 a11 a12 a13 a14 a15 a16 a17 a18 a19 a20 a21 a22 a23 a24 C0 E0 E1 E2 E3 E4 E5 E6 E7 E8 E9 cc0 cc1 pp0 pp1 : Addr} (T : FnT) : seqOf (cS (gam a0 a1 a2 a3 a4 a5 a6 a7 a8 a9 a10 a11 a12 a13 a14 a15 a16 a17 a18 a19 a20 a21 a22 a23 a24 C0 E0 E1 E2 E3 E4 E5 E6 E7 E8 E9 cc0 cc1 pp0 pp1) T d__law_same.fi 40 30) d__law_same.body = b__law_same (gam a0 a1 a2 a3 a4 a5 a6 a7 a8 a9 a10 a11 a12 a13 a14 a15 a16 a17 a18 a19 a20 a21 a22 a23 a24 C0 E0 E1 E2 E3 E4 E5 E6 E7 E8 E9 cc0 cc1 pp0 pp1) T := by kernel_rfl
def b__law_why (G : Gam) (T : FnT) : Ss := (seqL [(sAsg (sVal (.non)) (setI 1)), (sTryL G (seqL [(sExpr (sCallL G T (sVar 0) (evl [])))]) [(("Misread" : Str), some 2, fun ci fs => (sAsg (sLst false [(sVal (.str ("read" : Str))), (hFld ("line" : Str) ci fs), (hFld ("column" : Str) ci fs)]) (setI 1))), (("Misplaced" : Str), some 2, fun ci fs => (sAsg (sLst false [(sVal (.str ("placed" : Str))), (hFld ("line" : Str) ci fs), (hFld ("column" : Str) ci fs), (hFld ("why" : Str) ci fs), (hFld ("name" : Str) ci fs)]) (setI 1))), (("BadText" : Str), some 2, fun ci fs => (sAsg (sLst false [(sVal (.str ("text" : Str))), (hFld ("line" : Str) ci fs), (hFld ("word" : Str) ci fs)]) (setI 1))), (("BadName" : Str), some 2, fun ci fs => (sAsg (sLst false [(sVal (.str ("name" : Str))), badE]) (setI 1))), (("NotThere" : Str), some 2, fun ci fs => (sAsg (sLst false [(sVal (.str ("none" : Str))), badE]) (setI 1))), (("TakenName" : Str), some 2, fun ci fs => (sAsg (sLst false [(sVal (.str ("taken" : Str))), badE]) (setI 1))), (("BadNumber" : Str), some 2, fun ci fs => (sAsg (sLst false [(sVal (.str ("number" : Str))), (hFld ("what" : Str) ci fs), badE]) (setI 1))), (("BadRow" : Str), some 2, fun ci fs => (sAsg (sLst false [(sVal (.str ("row" : Str))), (hFld ("what" : Str) ci fs), badE]) (setI 1))), (("Unlike" : Str), some 2, fun ci fs => (sAsg (sLst false [(sVal (.str ("unlike" : Str))), (hFld ("what" : Str) ci fs)]) (setI 1))), (("TooMany" : Str), some 2, fun ci fs => (sAsg (sLst false [(sVal (.str ("many" : Str))), (hFld ("what" : Str) ci fs), (hFld ("many" : Str) ci fs), (hFld ("limit" : Str) ci fs)]) (setI 1)))]), (sRet (sVar 1))])
theorem sh__law_why {a0 a1 a2 a3 a4 a5 a6 a7 a8 a9 a10 a11 a12 a13 a14 a15 a16 a17 a18 a19 a20 a21 a22 a23 a24 C0 E0 E1 E2 E3 E4 E5 E6 E7 E8 E9 cc0 cc1 pp0 pp1 : Addr} (T : FnT) : seqOf (cS (gam a0 a1 a2 a3 a4 a5 a6 a7 a8 a9 a10 a11 a12 a13 a14 a15 a16 a17 a18 a19 a20 a21 a22 a23 a24 C0 E0 E1 E2 E3 E4 E5 E6 E7 E8 E9 cc0 cc1 pp0 pp1) T d__law_why.fi 40 30) d__law_why.body = b__law_why (gam a0 a1 a2 a3 a4 a5 a6 a7 a8 a9 a10 a11 a12 a13 a14 a15 a16 a17 a18 a19 a20 a21 a22 a23 a24 C0 E0 E1 E2 E3 E4 E5 E6 E7 E8 E9 cc0 cc1 pp0 pp1) T := by kernel_rfl
def b__law_keys (G : Gam) (T : FnT) : Ss := (seqL [(sRet (sLst false [(sVal (.str ("site" : Str))), (sVal (.str ("place" : Str))), (sVal (.str ("crew" : Str))), (sVal (.str ("rest" : Str))), (sVal (.str ("road" : Str))), (sVal (.str ("to" : Str))), (sVal (.str ("by" : Str))), (sVal (.str ("cost" : Str))), (sVal (.str ("laid" : Str)))]))])
theorem sh__law_keys {a0 a1 a2 a3 a4 a5 a6 a7 a8 a9 a10 a11 a12 a13 a14 a15 a16 a17 a18 a19 a20 a21 a22 a23 a24 C0 E0 E1 E2 E3 E4 E5 E6 E7 E8 E9 cc0 cc1 pp0 pp1 : Addr} (T : FnT) : seqOf (cS (gam a0 a1 a2 a3 a4 a5 a6 a7 a8 a9 a10 a11 a12 a13 a14 a15 a16 a17 a18 a19 a20 a21 a22 a23 a24 C0 E0 E1 E2 E3 E4 E5 E6 E7 E8 E9 cc0 cc1 pp0 pp1) T d__law_keys.fi 40 30) d__law_keys.body = b__law_keys (gam a0 a1 a2 a3 a4 a5 a6 a7 a8 a9 a10 a11 a12 a13 a14 a15 a16 a17 a18 a19 a20 a21 a22 a23 a24 C0 E0 E1 E2 E3 E4 E5 E6 E7 E8 E9 cc0 cc1 pp0 pp1) T := by kernel_rfl
def b__law_is_name (G : Gam) (T : FnT) : Ss := (seqL [(sIte (tst (sOr (sNot (sBi .isi [(sVar 0), (sVal (.bty "str"))])) (sOr (s2 (f2 (dCmpD .Eq)) (sVar 0) (sVal (.str ("" : Str)))) (sOr (s2 (f2 (dCmpD .Gt)) (sBi .len [(sVar 0)]) (sVal (.int 12))) (sOr (s2 (f2 (dCmpD .In)) (sVar 0) (sFnL T ("_law_keys" : Str) [])) (s2 (f2 (dCmpD .In)) (s2 (f2 dIx) (sVar 0) (sVal (.int 0))) (sVal (.str ("0123456789" : Str))))))))) (seqL [(sRet (sVal (.bl false)))]) (seqL [])), (sRet (s2 (f2 (dCmpD .Eq)) (sLc (sIter (sVar 0)) (setI 1) (tst (s2 (f2 (dCmpD .NotIn)) (sVar 1) (sVal (.str ("abcdefghijklmnopqrstuvwxyz0123456789" : Str))))) (sVar 1) [1] false) (sLst false [])))])
theorem sh__law_is_name {a0 a1 a2 a3 a4 a5 a6 a7 a8 a9 a10 a11 a12 a13 a14 a15 a16 a17 a18 a19 a20 a21 a22 a23 a24 C0 E0 E1 E2 E3 E4 E5 E6 E7 E8 E9 cc0 cc1 pp0 pp1 : Addr} (T : FnT) : seqOf (cS (gam a0 a1 a2 a3 a4 a5 a6 a7 a8 a9 a10 a11 a12 a13 a14 a15 a16 a17 a18 a19 a20 a21 a22 a23 a24 C0 E0 E1 E2 E3 E4 E5 E6 E7 E8 E9 cc0 cc1 pp0 pp1) T d__law_is_name.fi 40 30) d__law_is_name.body = b__law_is_name (gam a0 a1 a2 a3 a4 a5 a6 a7 a8 a9 a10 a11 a12 a13 a14 a15 a16 a17 a18 a19 a20 a21 a22 a23 a24 C0 E0 E1 E2 E3 E4 E5 E6 E7 E8 E9 cc0 cc1 pp0 pp1) T := by kernel_rfl
def b__law_is_number (G : Gam) (T : FnT) : Ss := (seqL [(sRet (sAnd (s2 (f2 (dCmpD .NotEq)) (sVar 0) (sVal (.str ("" : Str)))) (sAnd (s2 (f2 (dCmpD .Lt)) (sBi .len [(sVar 0)]) (sVal (.int 4))) (sAnd (s2 (f2 (dCmpD .Eq)) (sLc (sIter (sVar 0)) (setI 1) (tst (s2 (f2 (dCmpD .NotIn)) (sVar 1) (sVal (.str ("0123456789" : Str))))) (sVar 1) [1] false) (sLst false [])) (sOr (s2 (f2 (dCmpD .Eq)) (sVar 0) (sVal (.str ("0" : Str)))) (s2 (f2 (dCmpD .NotEq)) (s2 (f2 dIx) (sVar 0) (sVal (.int 0))) (sVal (.str ("0" : Str)))))))))])
theorem sh__law_is_number {a0 a1 a2 a3 a4 a5 a6 a7 a8 a9 a10 a11 a12 a13 a14 a15 a16 a17 a18 a19 a20 a21 a22 a23 a24 C0 E0 E1 E2 E3 E4 E5 E6 E7 E8 E9 cc0 cc1 pp0 pp1 : Addr} (T : FnT) : seqOf (cS (gam a0 a1 a2 a3 a4 a5 a6 a7 a8 a9 a10 a11 a12 a13 a14 a15 a16 a17 a18 a19 a20 a21 a22 a23 a24 C0 E0 E1 E2 E3 E4 E5 E6 E7 E8 E9 cc0 cc1 pp0 pp1) T d__law_is_number.fi 40 30) d__law_is_number.body = b__law_is_number (gam a0 a1 a2 a3 a4 a5 a6 a7 a8 a9 a10 a11 a12 a13 a14 a15 a16 a17 a18 a19 a20 a21 a22 a23 a24 C0 E0 E1 E2 E3 E4 E5 E6 E7 E8 E9 cc0 cc1 pp0 pp1) T := by kernel_rfl
def b__law_kind_of_word (G : Gam) (T : FnT) : Ss := (seqL [(sIte (tst (s2 (f2 (dCmpD .In)) (sVar 0) (sFnL T ("_law_keys" : Str) []))) (seqL [(sRet (sVal (.str ("key" : Str))))]) (seqL [])), (sIte (tst (sFnL T ("_law_is_name" : Str) [(sVar 0)])) (seqL [(sRet (sVal (.str ("name" : Str))))]) (seqL [])), (sRet (sIf (tst (sFnL T ("_law_is_number" : Str) [(sVar 0)])) (sVal (.str ("number" : Str))) (sVal (.non))))])
theorem sh__law_kind_of_word {a0 a1 a2 a3 a4 a5 a6 a7 a8 a9 a10 a11 a12 a13 a14 a15 a16 a17 a18 a19 a20 a21 a22 a23 a24 C0 E0 E1 E2 E3 E4 E5 E6 E7 E8 E9 cc0 cc1 pp0 pp1 : Addr} (T : FnT) : seqOf (cS (gam a0 a1 a2 a3 a4 a5 a6 a7 a8 a9 a10 a11 a12 a13 a14 a15 a16 a17 a18 a19 a20 a21 a22 a23 a24 C0 E0 E1 E2 E3 E4 E5 E6 E7 E8 E9 cc0 cc1 pp0 pp1) T d__law_kind_of_word.fi 40 30) d__law_kind_of_word.body = b__law_kind_of_word (gam a0 a1 a2 a3 a4 a5 a6 a7 a8 a9 a10 a11 a12 a13 a14 a15 a16 a17 a18 a19 a20 a21 a22 a23 a24 C0 E0 E1 E2 E3 E4 E5 E6 E7 E8 E9 cc0 cc1 pp0 pp1) T := by kernel_rfl
def b__law_due (G : Gam) (T : FnT) : Ss := (seqL [(sTT (evl [(sLst true []), (sVal (.int 1)), (sVal (.int 1)), (sVal (.int 0)), (sVal (.str ("abcdefghijklmnopqrstuvwxyz0123456789" : Str)))]) (setIs [1, 2, 3, 4, 5])), (sFor (sRng1 (evl [(s2 (f2 (dBin .Add)) (sBi .len [(sVar 0)]) (sVal (.int 1)))])) (setI 6) (seqL [(sIte (tst (s2 (f2 (dCmpD .GtE)) (sVar 4) (sBi .len [(sVar 0)]))) (seqL [sBrk]) (seqL [])), (sAsg (s2 (f2 dIx) (sVar 0) (sVar 4)) (setI 7)), (sIte (tst (s2 (f2 (dCmpD .Eq)) (sVar 7) (sVal (.str ("#" : Str))))) (seqL [(sAsg (sBi .len [(s2 (f2 dIx) (sMeth G T ("split" : Str) (sSl (sVar 0) (some (sVar 4)) none) (evl [(sVal (.str ("\n" : Str)))])) (sVal (.int 0)))]) (setI 8)), (sTT (evl [(s2 (f2 (dBin .Add)) (sVar 4) (sVar 8)), (s2 (f2 (dBin .Add)) (sVar 3) (sVar 8))]) (setIs [4, 3])), sCnt]) (seqL [])), (sIte (tst (s2 (f2 (dCmpD .In)) (sVar 7) (sVal (.str (" \n" : Str))))) (seqL [(sAsg (sIf (tst (s2 (f2 (dCmpD .Eq)) (sVar 7) (sVal (.str ("\n" : Str))))) (sTup [(s2 (f2 (dBin .Add)) (sVar 2) (sVal (.int 1))), (sVal (.int 1))]) (sTup [(sVar 2), (s2 (f2 (dBin .Add)) (sVar 3) (sVal (.int 1)))])) (setTI [2, 3])), (sAsg (s2 (f2 (dBin .Add)) (sVar 4) (sVal (.int 1))) (setI 4)), sCnt]) (seqL [])), (sAsg (sVal (.int 1)) (setI 8)), (sIte (tst (s2 (f2 (dCmpD .In)) (sVar 7) (sVar 5))) (seqL [(sFor (sRng1 (evl [(sBi .len [(sVar 0)])])) (setI 9) (seqL [(sIte (tst (sAnd (s2 (f2 (dCmpD .Lt)) (s2 (f2 (dBin .Add)) (sVar 4) (sVar 8)) (sBi .len [(sVar 0)])) (s2 (f2 (dCmpD .In)) (s2 (f2 dIx) (sVar 0) (s2 (f2 (dBin .Add)) (sVar 4) (sVar 8))) (sVar 5)))) (seqL [(sAsg (s2 (f2 (dBin .Add)) (sVar 8) (sVal (.int 1))) (setI 8))]) (seqL []))]))]) (seqL [])), (sAsg (sSl (sVar 0) (some (sVar 4)) (some (s2 (f2 (dBin .Add)) (sVar 4) (sVar 8)))) (setI 10)), (sAsg (sIf (tst (s2 (f2 (dCmpD .In)) (sVar 10) (sLst false [(sVal (.str ("{" : Str))), (sVal (.str ("}" : Str))), (sVal (.str ("," : Str))), (sVal (.str (";" : Str))), (sVal (.str (":" : Str)))]))) (sVal (.str ("sign" : Str))) (sIf (tst (s2 (f2 (dCmpD .In)) (sVar 7) (sVar 5))) (sFnL T ("_law_kind_of_word" : Str) [(sVar 10)]) (sVal (.non)))) (setI 11)), (sIte (tst (s2 (f2 (dCmpD .Is)) (sVar 11) (sVal (.non)))) (seqL [(sRet (sTup [(sLst false [(sVal (.str ("read" : Str))), (sVar 2), (sVar 3)]), (sVal (.non))]))]) (seqL [])), (sExpr (sMeth G T ("append" : Str) (sVar 1) (evl [(sTup [(sVar 11), (sVar 10), (sTup [(sVar 2), (sVar 3)])])]))), (sTT (evl [(s2 (f2 (dBin .Add)) (sVar 4) (sVar 8)), (s2 (f2 (dBin .Add)) (sVar 3) (sVar 8))]) (setIs [4, 3]))])), (sRet (sTup [(sVal (.non)), (sBi .tuple [(s2 (f2 (dBin .Add)) (sVar 1) (sLst false [(sTup [(sVal (.str ("end" : Str))), (sVal (.str ("" : Str))), (sTup [(sVar 2), (sVar 3)])])]))])]))])
theorem sh__law_due {a0 a1 a2 a3 a4 a5 a6 a7 a8 a9 a10 a11 a12 a13 a14 a15 a16 a17 a18 a19 a20 a21 a22 a23 a24 C0 E0 E1 E2 E3 E4 E5 E6 E7 E8 E9 cc0 cc1 pp0 pp1 : Addr} (T : FnT) : seqOf (cS (gam a0 a1 a2 a3 a4 a5 a6 a7 a8 a9 a10 a11 a12 a13 a14 a15 a16 a17 a18 a19 a20 a21 a22 a23 a24 C0 E0 E1 E2 E3 E4 E5 E6 E7 E8 E9 cc0 cc1 pp0 pp1) T d__law_due.fi 40 30) d__law_due.body = b__law_due (gam a0 a1 a2 a3 a4 a5 a6 a7 a8 a9 a10 a11 a12 a13 a14 a15 a16 a17 a18 a19 a20 a21 a22 a23 a24 C0 E0 E1 E2 E3 E4 E5 E6 E7 E8 E9 cc0 cc1 pp0 pp1) T := by kernel_rfl
def b__law_is_told (G : Gam) (T : FnT) : Ss := (seqL [(sTT (evl [(sLst true []), (sFnL T ("_law_due" : Str) [(sVar 0)])]) (setIs [1, 2])), (sIte (tst (s2 (f2 (dCmpD .NotEq)) (sLamN T ("_law_why" : Str) (sMeth G (loT T) ("append" : Str) (sVar 1) (evl [(sFnL (loT T) ("tokens" : Str) [(sVar 0)])]))) (s2 (f2 dIx) (sVar 2) (sVal (.int 0))))) (seqL [(sRet (sVal (.bl false)))]) (seqL [])), (sRet (sOr (s2 (f2 (dCmpD .IsNot)) (s2 (f2 dIx) (sVar 2) (sVal (.int 0))) (sVal (.non))) (sFnL T ("_law_same" : Str) [(s2 (f2 dIx) (sVar 1) (sVal (.int 0))), (s2 (f2 dIx) (sVar 2) (sVal (.int 1)))])))])
theorem sh__law_is_told {a0 a1 a2 a3 a4 a5 a6 a7 a8 a9 a10 a11 a12 a13 a14 a15 a16 a17 a18 a19 a20 a21 a22 a23 a24 C0 E0 E1 E2 E3 E4 E5 E6 E7 E8 E9 cc0 cc1 pp0 pp1 : Addr} (T : FnT) : seqOf (cS (gam a0 a1 a2 a3 a4 a5 a6 a7 a8 a9 a10 a11 a12 a13 a14 a15 a16 a17 a18 a19 a20 a21 a22 a23 a24 C0 E0 E1 E2 E3 E4 E5 E6 E7 E8 E9 cc0 cc1 pp0 pp1) T d__law_is_told.fi 40 30) d__law_is_told.body = b__law_is_told (gam a0 a1 a2 a3 a4 a5 a6 a7 a8 a9 a10 a11 a12 a13 a14 a15 a16 a17 a18 a19 a20 a21 a22 a23 a24 C0 E0 E1 E2 E3 E4 E5 E6 E7 E8 E9 cc0 cc1 pp0 pp1) T := by kernel_rfl
def b_law (G : Gam) (T : FnT) : Ss := (seqL [(sAsg (sFnL T ("_law_pen" : Str) [(sVar 0)]) (setI 1)), (sFor (sRng1 (evl [(sVal (.int 6))])) (setI 2) (seqL [(sAsg (sFnL T ("_law_names" : Str) [(sVar 1), (sVal (.int 3))]) (setI 3)), (sAsg (s2 (f2 (dBin .Add)) (s2 (f2 (dBin .Add)) (sVar 3) (sFnL T ("_law_keys" : Str) [])) (sLst false [(sVal (.str ("0" : Str))), (sVal (.str ("7" : Str))), (sVal (.str ("10" : Str))), (sVal (.str ("305" : Str))), (sVal (.str ("999" : Str))), (sVal (.str ("{" : Str))), (sVal (.str ("}" : Str))), (sVal (.str (":" : Str))), (sVal (.str (";" : Str))), (sVal (.str ("," : Str))), (sVal (.str ("abcdefghijkl" : Str)))])) (setI 4)), (sAsg (sLst false [(sVal (.str ("01" : Str))), (sVal (.str ("00" : Str))), (sVal (.str ("1000" : Str))), (sVal (.str ("1a" : Str))), (sVal (.str ("abcdefghijklm" : Str))), (sVal (.str ("deeddeeddeed1" : Str))), (sVal (.str ("A" : Str))), (sVal (.str ("_" : Str))), (sVal (.str ("a.b" : Str))), (sVal (.str ("." : Str))), (sVal (.str ("[" : Str))), (sVal (.str ("\t" : Str))), (sVal (.str ("*" : Str))), (sVal (.str ("a_" : Str)))]) (setI 5)), (sAsg (sVal (.str ("" : Str))) (setI 6)), (sFor (sRng1 (evl [(sFnL T ("_law_draw" : Str) [(sVar 1), (sVal (.int 25))])])) (setI 7) (seqL [(sAsg (sIf (tst (s2 (f2 (dCmpD .Gt)) (sFnL T ("_law_draw" : Str) [(sVar 1), (sVal (.int 12))]) (sVal (.int 0)))) (sFnL T ("_law_pick" : Str) [(sVar 1), (sVar 4)]) (sFnL T ("_law_pick" : Str) [(sVar 1), (sVar 5)])) (setI 8)), (sAsg (s2 (f2 (dBin .Add)) (s2 (f2 (dBin .Add)) (sVar 6) (sVar 8)) (sFnL T ("_law_pick" : Str) [(sVar 1), (sLst false [(sVal (.str (" " : Str))), (sVal (.str (" " : Str))), (sVal (.str ("\n" : Str))), (sVal (.str ("" : Str))), (sVal (.str ("  " : Str))), (sVal (.str (" # x } 01\n" : Str))), (sVal (.str ("#\n" : Str))), (sVal (.str ("\n\n" : Str)))])])) (setI 6))])), (sIte (tst (sOr (sNot (sFnL T ("_law_is_told" : Str) [(sVar 6)])) (sNot (sFnL T ("_law_is_told" : Str) [(s2 (f2 (dBin .Add)) (sVar 6) (sFnL T ("_law_pick" : Str) [(sVar 1), (sLst false [(sVal (.str ("#" : Str))), (sVal (.str ("# end" : Str))), (sVal (.str (" " : Str))), (sVal (.str ("\n" : Str))), (sVal (.str ("\n " : Str))), (sVal (.str ("# a\n#b" : Str)))])]))])))) (seqL [(sRet (sVal (.bl false)))]) (seqL []))])), (sFor (sIter (sLst false [(sVal (.str ("" : Str))), (sVal (.str (" " : Str))), (sVal (.str ("\n" : Str))), (sVal (.str ("#" : Str))), (sVal (.str ("a#b\nc" : Str))), (sVal (.str ("{};,:" : Str))), (sVal (.str ("a:1" : Str))), (sVal (.str ("site2" : Str))), (sVal (.str ("2site" : Str))), (sVal (.str ("to" : Str))), (sVal (.str ("tox" : Str))), (sVal (.str ("by" : Str))), (sVal (.str ("bye" : Str)))])) (setI 9) (seqL [(sIte (tst (sNot (sFnL T ("_law_is_told" : Str) [(sVar 9)]))) (seqL [(sRet (sVal (.bl false)))]) (seqL []))])), (sAsg (sFnL T ("_law_pick" : Str) [(sVar 1), (sLst false [(sVal (.non)), (sVal (.int 5)), (sTup []), (sLst false [(sVal (.str ("net" : Str)))]), (sVal (.bl true)), (sDict0 false)])]) (setI 10)), (sIte (tst (s2 (f2 (dCmpD .NotEq)) (sLamN T ("_law_why" : Str) (sFnL (loT T) ("tokens" : Str) [(sVar 10)])) (sLst false [(sVal (.str ("read" : Str))), (sVal (.int 0)), (sVal (.int 0))]))) (seqL [(sRet (sVal (.bl false)))]) (seqL [])), (sFor (sIter (s2 (f2 (dBin .Add)) (s2 (f2 (dBin .Add)) (sFnL T ("_law_names" : Str) [(sVar 1), (sVal (.int 3))]) (sFnL T ("_law_keys" : Str) [])) (sLst false [(sVal (.str ("" : Str))), (s2 (f2 (dBin .Mult)) (sVal (.str ("a" : Str))) (sVal (.int 12))), (s2 (f2 (dBin .Mult)) (sVal (.str ("a" : Str))) (sVal (.int 13))), (sVal (.str ("1a" : Str))), (sVal (.str ("a1" : Str))), (sVal (.str ("A" : Str))), (sVal (.str ("a b" : Str))), (sVal (.str ("a\n" : Str))), (sVal (.non)), (sVal (.int 5)), (sVal (.bl true)), (sTup []), (sLst false [(sVal (.str ("a" : Str)))]), (sVal (.str ("7" : Str))), (sVal (.str ("-" : Str)))]))) (setI 9) (seqL [(sIte (tst (sNot (sFnL T ("_law_same" : Str) [(sFnL T ("is_name" : Str) [(sVar 9)]), (sFnL T ("_law_is_name" : Str) [(sVar 9)])]))) (seqL [(sRet (sVal (.bl false)))]) (seqL []))])), (sRet (sVal (.bl true)))])
theorem sh_law {a0 a1 a2 a3 a4 a5 a6 a7 a8 a9 a10 a11 a12 a13 a14 a15 a16 a17 a18 a19 a20 a21 a22 a23 a24 C0 E0 E1 E2 E3 E4 E5 E6 E7 E8 E9 cc0 cc1 pp0 pp1 : Addr} (T : FnT) : seqOf (cS (gam a0 a1 a2 a3 a4 a5 a6 a7 a8 a9 a10 a11 a12 a13 a14 a15 a16 a17 a18 a19 a20 a21 a22 a23 a24 C0 E0 E1 E2 E3 E4 E5 E6 E7 E8 E9 cc0 cc1 pp0 pp1) T d_law.fi 40 30) d_law.body = b_law (gam a0 a1 a2 a3 a4 a5 a6 a7 a8 a9 a10 a11 a12 a13 a14 a15 a16 a17 a18 a19 a20 a21 a22 a23 a24 C0 E0 E1 E2 E3 E4 E5 E6 E7 E8 E9 cc0 cc1 pp0 pp1) T := by kernel_rfl
abbrev R (A : Nat → Addr) (k : Nat) : FnT := runF (gm A) prg k
section
variable {A : Nat → Addr} {k : Nat} {S : Store}
theorem run_is_run_sign {w0 : W} (h : noPair [w0] = true) : R A (k + 1) ("is_run_sign" : Str) [w0] S = endF (gm A) false S.length (b_is_run_sign (gm A) (R A k) [some w0] S) := by
  show runF (gm A) prg (k + 1) ("is_run_sign" : Str) [w0] S = _
  rw [runF_norm h (show prg.lookup ("is_run_sign" : Str) = some d_is_run_sign by kernel_rfl), if_pos ⟨rfl, Nat.le_of_ble_eq_true rfl⟩, show d_is_run_sign.ef = 40 from rfl, show d_is_run_sign.sf = 30 from rfl, sh_is_run_sign]
  rfl
theorem run_is_numeral {w0 : W} (h : noPair [w0] = true) : R A (k + 1) ("is_numeral" : Str) [w0] S = endF (gm A) false S.length (b_is_numeral (gm A) (R A k) [some w0, none] S) := by
  show runF (gm A) prg (k + 1) ("is_numeral" : Str) [w0] S = _
  rw [runF_norm h (show prg.lookup ("is_numeral" : Str) = some d_is_numeral by kernel_rfl), if_pos ⟨rfl, Nat.le_of_ble_eq_true rfl⟩, show d_is_numeral.ef = 40 from rfl, show d_is_numeral.sf = 30 from rfl, sh_is_numeral]
  rfl
theorem run_kind_of {w0 : W} (h : noPair [w0] = true) : R A (k + 1) ("kind_of" : Str) [w0] S = endF (gm A) false S.length (b_kind_of (gm A) (R A k) [some w0] S) := by
  show runF (gm A) prg (k + 1) ("kind_of" : Str) [w0] S = _
  rw [runF_norm h (show prg.lookup ("kind_of" : Str) = some d_kind_of by kernel_rfl), if_pos ⟨rfl, Nat.le_of_ble_eq_true rfl⟩, show d_kind_of.ef = 40 from rfl, show d_kind_of.sf = 30 from rfl, sh_kind_of]
  rfl
theorem run_is_name {w0 : W} (h : noPair [w0] = true) : R A (k + 1) ("is_name" : Str) [w0] S = endF (gm A) false S.length (b_is_name (gm A) (R A k) [some w0, none] S) := by
  show runF (gm A) prg (k + 1) ("is_name" : Str) [w0] S = _
  rw [runF_norm h (show prg.lookup ("is_name" : Str) = some d_is_name by kernel_rfl), if_pos ⟨rfl, Nat.le_of_ble_eq_true rfl⟩, show d_is_name.ef = 40 from rfl, show d_is_name.sf = 30 from rfl, sh_is_name]
  rfl
theorem run_Scanner___init__ {w0 w1 : W} (h : noPair [w0, w1] = true) : R A (k + 1) ("Scanner.__init__" : Str) [w0, w1] S = endF (gm A) false S.length (b_Scanner___init__ (gm A) (R A k) [some w0, some w1] S) := by
  show runF (gm A) prg (k + 1) ("Scanner.__init__" : Str) [w0, w1] S = _
  rw [runF_norm h (show prg.lookup ("Scanner.__init__" : Str) = some d_Scanner___init__ by kernel_rfl), if_pos ⟨rfl, Nat.le_of_ble_eq_true rfl⟩, show d_Scanner___init__.ef = 40 from rfl, show d_Scanner___init__.sf = 30 from rfl, sh_Scanner___init__]
  rfl
theorem run_Scanner_is_over {w0 : W} (h : noPair [w0] = true) : R A (k + 1) ("Scanner.is_over" : Str) [w0] S = endF (gm A) false S.length (b_Scanner_is_over (gm A) (R A k) [some w0] S) := by
  show runF (gm A) prg (k + 1) ("Scanner.is_over" : Str) [w0] S = _
  rw [runF_norm h (show prg.lookup ("Scanner.is_over" : Str) = some d_Scanner_is_over by kernel_rfl), if_pos ⟨rfl, Nat.le_of_ble_eq_true rfl⟩, show d_Scanner_is_over.ef = 40 from rfl, show d_Scanner_is_over.sf = 30 from rfl, sh_Scanner_is_over]
  rfl
theorem run_Scanner_skip {w0 w1 : W} (h : noPair [w0, w1] = true) : R A (k + 1) ("Scanner.skip" : Str) [w0, w1] S = endF (gm A) false S.length (b_Scanner_skip (gm A) (R A k) [some w0, some w1] S) := by
  show runF (gm A) prg (k + 1) ("Scanner.skip" : Str) [w0, w1] S = _
  rw [runF_norm h (show prg.lookup ("Scanner.skip" : Str) = some d_Scanner_skip by kernel_rfl), if_pos ⟨rfl, Nat.le_of_ble_eq_true rfl⟩, show d_Scanner_skip.ef = 40 from rfl, show d_Scanner_skip.sf = 30 from rfl, sh_Scanner_skip]
  rfl
theorem run_Scanner_pass_gap {w0 : W} (h : noPair [w0] = true) : R A (k + 1) ("Scanner.pass_gap" : Str) [w0] S = endF (gm A) false S.length (b_Scanner_pass_gap (gm A) (R A k) [some w0, none] S) := by
  show runF (gm A) prg (k + 1) ("Scanner.pass_gap" : Str) [w0] S = _
  rw [runF_norm h (show prg.lookup ("Scanner.pass_gap" : Str) = some d_Scanner_pass_gap by kernel_rfl), if_pos ⟨rfl, Nat.le_of_ble_eq_true rfl⟩, show d_Scanner_pass_gap.ef = 40 from rfl, show d_Scanner_pass_gap.sf = 30 from rfl, sh_Scanner_pass_gap]
  rfl
theorem run_Scanner_token {w0 : W} (h : noPair [w0] = true) : R A (k + 1) ("Scanner.token" : Str) [w0] S = endF (gm A) false S.length (b_Scanner_token (gm A) (R A k) [some w0, none, none, none, none] S) := by
  show runF (gm A) prg (k + 1) ("Scanner.token" : Str) [w0] S = _
  rw [runF_norm h (show prg.lookup ("Scanner.token" : Str) = some d_Scanner_token by kernel_rfl), if_pos ⟨rfl, Nat.le_of_ble_eq_true rfl⟩, show d_Scanner_token.ef = 40 from rfl, show d_Scanner_token.sf = 30 from rfl, sh_Scanner_token]
  rfl
theorem run_tokens {w0 : W} (h : noPair [w0] = true) : R A (k + 1) ("tokens" : Str) [w0] S = endF (gm A) false S.length (b_tokens (gm A) (R A k) [some w0, none, none] S) := by
  show runF (gm A) prg (k + 1) ("tokens" : Str) [w0] S = _
  rw [runF_norm h (show prg.lookup ("tokens" : Str) = some d_tokens by kernel_rfl), if_pos ⟨rfl, Nat.le_of_ble_eq_true rfl⟩, show d_tokens.ef = 40 from rfl, show d_tokens.sf = 30 from rfl, sh_tokens]
  rfl
theorem run__law_pen {w0 : W} (h : noPair [w0] = true) : R A (k + 1) ("_law_pen" : Str) [w0] S = endF (gm A) true S.length (b__law_pen (gm A) (R A k) [some w0, none, none] S) := by
  show runF (gm A) prg (k + 1) ("_law_pen" : Str) [w0] S = _
  rw [runF_norm h (show prg.lookup ("_law_pen" : Str) = some d__law_pen by kernel_rfl), if_pos ⟨rfl, Nat.le_of_ble_eq_true rfl⟩, show d__law_pen.ef = 40 from rfl, show d__law_pen.sf = 30 from rfl, sh__law_pen]
  rfl
theorem run__law_draw {w0 w1 : W} (h : noPair [w0, w1] = true) : R A (k + 1) ("_law_draw" : Str) [w0, w1] S = endF (gm A) false S.length (b__law_draw (gm A) (R A k) [some w0, some w1, none, none, none] S) := by
  show runF (gm A) prg (k + 1) ("_law_draw" : Str) [w0, w1] S = _
  rw [runF_norm h (show prg.lookup ("_law_draw" : Str) = some d__law_draw by kernel_rfl), if_pos ⟨rfl, Nat.le_of_ble_eq_true rfl⟩, show d__law_draw.ef = 40 from rfl, show d__law_draw.sf = 30 from rfl, sh__law_draw]
  rfl
theorem run__law_pick {w0 w1 : W} (h : noPair [w0, w1] = true) : R A (k + 1) ("_law_pick" : Str) [w0, w1] S = endF (gm A) false S.length (b__law_pick (gm A) (R A k) [some w0, some w1] S) := by
  show runF (gm A) prg (k + 1) ("_law_pick" : Str) [w0, w1] S = _
  rw [runF_norm h (show prg.lookup ("_law_pick" : Str) = some d__law_pick by kernel_rfl), if_pos ⟨rfl, Nat.le_of_ble_eq_true rfl⟩, show d__law_pick.ef = 40 from rfl, show d__law_pick.sf = 30 from rfl, sh__law_pick]
  rfl
theorem run__law_shuffled {w0 w1 : W} (h : noPair [w0, w1] = true) : R A (k + 1) ("_law_shuffled" : Str) [w0, w1] S = endF (gm A) false S.length (b__law_shuffled (gm A) (R A k) [some w0, some w1, none, none, none] S) := by
  show runF (gm A) prg (k + 1) ("_law_shuffled" : Str) [w0, w1] S = _
  rw [runF_norm h (show prg.lookup ("_law_shuffled" : Str) = some d__law_shuffled by kernel_rfl), if_pos ⟨rfl, Nat.le_of_ble_eq_true rfl⟩, show d__law_shuffled.ef = 40 from rfl, show d__law_shuffled.sf = 30 from rfl, sh__law_shuffled]
  rfl
theorem run__law_name {w0 w1 : W} (h : noPair [w0, w1] = true) : R A (k + 1) ("_law_name" : Str) [w0, w1] S = endF (gm A) false S.length (b__law_name (gm A) (R A k) [some w0, some w1, none, none, none] S) := by
  show runF (gm A) prg (k + 1) ("_law_name" : Str) [w0, w1] S = _
  rw [runF_norm h (show prg.lookup ("_law_name" : Str) = some d__law_name by kernel_rfl), if_pos ⟨rfl, Nat.le_of_ble_eq_true rfl⟩, show d__law_name.ef = 40 from rfl, show d__law_name.sf = 30 from rfl, sh__law_name]
  rfl
theorem run__law_names {w0 w1 : W} (h : noPair [w0, w1] = true) : R A (k + 1) ("_law_names" : Str) [w0, w1] S = endF (gm A) false S.length (b__law_names (gm A) (R A k) [some w0, some w1, none] S) := by
  show runF (gm A) prg (k + 1) ("_law_names" : Str) [w0, w1] S = _
  rw [runF_norm h (show prg.lookup ("_law_names" : Str) = some d__law_names by kernel_rfl), if_pos ⟨rfl, Nat.le_of_ble_eq_true rfl⟩, show d__law_names.ef = 40 from rfl, show d__law_names.sf = 30 from rfl, sh__law_names]
  rfl
theorem run__law_same {w0 w1 : W} (h : noPair [w0, w1] = true) : R A (k + 1) ("_law_same" : Str) [w0, w1] S = endF (gm A) false S.length (b__law_same (gm A) (R A k) [some w0, some w1, none, none] S) := by
  show runF (gm A) prg (k + 1) ("_law_same" : Str) [w0, w1] S = _
  rw [runF_norm h (show prg.lookup ("_law_same" : Str) = some d__law_same by kernel_rfl), if_pos ⟨rfl, Nat.le_of_ble_eq_true rfl⟩, show d__law_same.ef = 40 from rfl, show d__law_same.sf = 30 from rfl, sh__law_same]
  rfl
theorem run__law_why {w0 : W} (h : noPair [w0] = true) : R A (k + 1) ("_law_why" : Str) [w0] S = endF (gm A) false S.length (b__law_why (gm A) (R A k) [some w0, none, none] S) := by
  show runF (gm A) prg (k + 1) ("_law_why" : Str) [w0] S = _
  rw [runF_norm h (show prg.lookup ("_law_why" : Str) = some d__law_why by kernel_rfl), if_pos ⟨rfl, Nat.le_of_ble_eq_true rfl⟩, show d__law_why.ef = 40 from rfl, show d__law_why.sf = 30 from rfl, sh__law_why]
  rfl
theorem run__law_keys (h : noPair [] = true) : R A (k + 1) ("_law_keys" : Str) [] S = endF (gm A) false S.length (b__law_keys (gm A) (R A k) [] S) := by
  show runF (gm A) prg (k + 1) ("_law_keys" : Str) [] S = _
  rw [runF_norm h (show prg.lookup ("_law_keys" : Str) = some d__law_keys by kernel_rfl), if_pos ⟨rfl, Nat.le_of_ble_eq_true rfl⟩, show d__law_keys.ef = 40 from rfl, show d__law_keys.sf = 30 from rfl, sh__law_keys]
  rfl
theorem run__law_is_name {w0 : W} (h : noPair [w0] = true) : R A (k + 1) ("_law_is_name" : Str) [w0] S = endF (gm A) false S.length (b__law_is_name (gm A) (R A k) [some w0, none] S) := by
  show runF (gm A) prg (k + 1) ("_law_is_name" : Str) [w0] S = _
  rw [runF_norm h (show prg.lookup ("_law_is_name" : Str) = some d__law_is_name by kernel_rfl), if_pos ⟨rfl, Nat.le_of_ble_eq_true rfl⟩, show d__law_is_name.ef = 40 from rfl, show d__law_is_name.sf = 30 from rfl, sh__law_is_name]
  rfl
theorem run__law_is_number {w0 : W} (h : noPair [w0] = true) : R A (k + 1) ("_law_is_number" : Str) [w0] S = endF (gm A) false S.length (b__law_is_number (gm A) (R A k) [some w0, none] S) := by
  show runF (gm A) prg (k + 1) ("_law_is_number" : Str) [w0] S = _
  rw [runF_norm h (show prg.lookup ("_law_is_number" : Str) = some d__law_is_number by kernel_rfl), if_pos ⟨rfl, Nat.le_of_ble_eq_true rfl⟩, show d__law_is_number.ef = 40 from rfl, show d__law_is_number.sf = 30 from rfl, sh__law_is_number]
  rfl
theorem run__law_kind_of_word {w0 : W} (h : noPair [w0] = true) : R A (k + 1) ("_law_kind_of_word" : Str) [w0] S = endF (gm A) false S.length (b__law_kind_of_word (gm A) (R A k) [some w0] S) := by
  show runF (gm A) prg (k + 1) ("_law_kind_of_word" : Str) [w0] S = _
  rw [runF_norm h (show prg.lookup ("_law_kind_of_word" : Str) = some d__law_kind_of_word by kernel_rfl), if_pos ⟨rfl, Nat.le_of_ble_eq_true rfl⟩, show d__law_kind_of_word.ef = 40 from rfl, show d__law_kind_of_word.sf = 30 from rfl, sh__law_kind_of_word]
  rfl
theorem run__law_due {w0 : W} (h : noPair [w0] = true) : R A (k + 1) ("_law_due" : Str) [w0] S = endF (gm A) false S.length (b__law_due (gm A) (R A k) [some w0, none, none, none, none, none, none, none, none, none, none, none] S) := by
  show runF (gm A) prg (k + 1) ("_law_due" : Str) [w0] S = _
  rw [runF_norm h (show prg.lookup ("_law_due" : Str) = some d__law_due by kernel_rfl), if_pos ⟨rfl, Nat.le_of_ble_eq_true rfl⟩, show d__law_due.ef = 40 from rfl, show d__law_due.sf = 30 from rfl, sh__law_due]
  rfl
theorem run__law_is_told {w0 : W} (h : noPair [w0] = true) : R A (k + 1) ("_law_is_told" : Str) [w0] S = endF (gm A) false S.length (b__law_is_told (gm A) (R A k) [some w0, none, none] S) := by
  show runF (gm A) prg (k + 1) ("_law_is_told" : Str) [w0] S = _
  rw [runF_norm h (show prg.lookup ("_law_is_told" : Str) = some d__law_is_told by kernel_rfl), if_pos ⟨rfl, Nat.le_of_ble_eq_true rfl⟩, show d__law_is_told.ef = 40 from rfl, show d__law_is_told.sf = 30 from rfl, sh__law_is_told]
  rfl
theorem run_law {w0 : W} (h : noPair [w0] = true) : R A (k + 1) ("law" : Str) [w0] S = endF (gm A) false S.length (b_law (gm A) (R A k) [some w0, none, none, none, none, none, none, none, none, none, none] S) := by
  show runF (gm A) prg (k + 1) ("law" : Str) [w0] S = _
  rw [runF_norm h (show prg.lookup ("law" : Str) = some d_law by kernel_rfl), if_pos ⟨rfl, Nat.le_of_ble_eq_true rfl⟩, show d_law.ef = 40 from rfl, show d_law.sf = 30 from rfl, sh_law]
  rfl
end
end K02
namespace K02
open PySem PySem.Spec PyProof.Rows L2 EC
def lett (c : Nat) : Bool := decide (97 ≤ c ∧ c ≤ 122)
def figc (c : Nat) : Bool := decide (48 ≤ c ∧ c ≤ 57)
def runc (c : Nat) : Bool := lett c || figc c
theorem LETs : ("abcdefghijklmnopqrstuvwxyz" : Str).cps.toList = List.range' 97 26 := LET_list
theorem FIGs : ("0123456789" : Str).cps.toList = List.range' 48 10 := by decide +kernel
theorem RUNs : ("abcdefghijklmnopqrstuvwxyz0123456789" : Str).cps.toList = List.range' 97 26 ++ List.range' 48 10 := by decide +kernel
theorem memLET {c : Nat} : decide (c ∈ ("abcdefghijklmnopqrstuvwxyz" : Str).cps.toList) = lett c := by
  rw [LETs]; unfold lett
  refine decide_eq_decide.mpr ?_
  rw [List.mem_range'_1]; omega
theorem memFIG {c : Nat} : decide (c ∈ ("0123456789" : Str).cps.toList) = figc c := by
  rw [FIGs]; unfold figc
  refine decide_eq_decide.mpr ?_
  rw [List.mem_range'_1]; omega
theorem memRUN {c : Nat} : decide (c ∈ ("abcdefghijklmnopqrstuvwxyz0123456789" : Str).cps.toList) = runc c := by
  rw [RUNs]; unfold runc lett figc
  rw [← Bool.decide_or]
  refine decide_eq_decide.mpr ?_
  rw [List.mem_append, List.mem_range'_1, List.mem_range'_1]; omega
section
variable {A : Nat → Addr} {k : Nat} {S : Store} {c : Nat} {w : List Nat}
theorem strD_mk (w : List Nat) : strD (mkS w) = w.map fun c => .str (mkS [c]) := rfl
theorem ix_str {n : Nat} (h : w[n]? = some c) (hf : w.length ≤ 16777216) : dIx (.str (mkS w)) (.int n) = some (.str (mkS [c])) := by
  show (if fits (mkS w).length then (atI (mkS w).cps.toList (n : Int)).map fun c => D.str ⟨#[c]⟩ else none) = _
  have hn : n < w.length := (List.getElem?_eq_some_iff.mp h).1
  rw [if_pos (fitS1 hf), mkS_list, atI_nat hn, h]
  rfl
theorem ix_str0 {r : List Nat} (hf : (c :: r).length ≤ 16777216) : dIx (.str (mkS (c :: r))) (.int 0) = some (.str (mkS [c])) := ix_str (n := 0) (w := c :: r) rfl hf
theorem len_mk (hf : w.length ≤ 16777216) : dBi .len [.str (mkS w)] = some (.int w.length) := by
  show (if fits (mkS w).length then some (D.int (mkS w).length) else none) = _
  rw [if_pos (fitS1 hf), mkS_length]
theorem all_bl {α : Type} (b : α → Bool) : ∀ w : List α, dBi .all [.lst (w.map fun c => .bl (b c))] = some (.bl (w.all b)) := fun w => by
  have h : ∀ w : List α, blsOf? (w.map fun c => D.bl (b c)) = some (w.map b) := fun w => by
    induction w with
    | nil => rfl
    | cons x w ih => rw [List.map_cons, blsOf?, ih]; rfl
  show (blsOf? (w.map fun c => D.bl (b c))).map (fun ns => D.bl (ns.all id)) = _
  rw [h]
  show some (D.bl ((w.map b).all id)) = _
  rw [List.all_map]
  rfl
/-- a comprehension over a text -/
theorem lc_str {e : Sm W} {ρ : Env0'} {i j : Nat} {bx : Bool} (g : Nat → D) (hi : ρ[i]? = some (some (.dat (.str (mkS w))))) (hl : w.length < 16777216)
    (h : ∀ c ∈ w, ∀ acc : List D, e ((ρ.set j none).set j (some (.dat (.str (mkS [c]))))) (S ++ [.lst acc]) = .ok (.dat (g c)) (S ++ [.lst acc])) :
    sLc (sIter (sVar i)) (setI j) yes e [j] bx ρ S = lcFin bx (w.map g) S := by
  have hs : sIter (sVar i) ρ S = .ok (.fix (w.map fun c => .str (mkS [c]))) S := by
    unfold sIter; rw [sVar_ok hi]; rfl
  rw [lc_map (fun d => match d with | .str z => g (z.cps.toList.headD 0) | d => d) hs (by rw [List.length_map, sizeLine_eq]; exact hl) fun d hd => ?_, List.map_map]
  · rfl
  · obtain ⟨c, hc, rfl⟩ := List.mem_map.mp hd
    exact ⟨_, rfl, fun acc => h c hc acc⟩
/-- [c for c in text if ..] -/
theorem lc_strf {t : Sm Bool} {e : Sm W} {ρ : Env0'} {i j : Nat} {bx : Bool} (p : Nat → Bool) (hi : ρ[i]? = some (some (.dat (.str (mkS w))))) (hl : w.length < 16777216)
    (h : ∀ c ∈ w, ∀ acc : List D, t ((ρ.set j none).set j (some (.dat (.str (mkS [c]))))) (S ++ [.lst acc]) = .ok (p c) (S ++ [.lst acc]) ∧ e ((ρ.set j none).set j (some (.dat (.str (mkS [c]))))) (S ++ [.lst acc]) = .ok (.dat (.str (mkS [c]))) (S ++ [.lst acc])) :
    sLc (sIter (sVar i)) (setI j) t e [j] bx ρ S = lcFin bx ((w.filter p).map fun c => .str (mkS [c])) S := by
  have hs : sIter (sVar i) ρ S = .ok (.fix (w.map fun c => .str (mkS [c]))) S := by
    unfold sIter; rw [sVar_ok hi]; rfl
  rw [lc_pure (fun d => match d with | .str z => p (z.cps.toList.headD 0) | d => false) id hs (by rw [List.length_map, sizeLine_eq]; exact hl) fun d hd => ?_, List.filter_map, List.map_map]
  · rfl
  · obtain ⟨c, hc, rfl⟩ := List.mem_map.mp hd
    exact ⟨_, rfl, fun acc => ⟨(h c hc acc).1, fun _ => (h c hc acc).2⟩⟩
theorem is_run_sign_ok : R A (k + 1) ("is_run_sign" : Str) [.dat (.str (mkS [c]))] S = .ok (.dat (.bl (runc c))) S := by
  rw [run_is_run_sign rfl]
  unfold b_is_run_sign runc
  cases h : lett c <;> simp only [ev, sVal_ok, o_in1, memLET, memFIG, h, endF_rt, take_all, Bool.true_or, Bool.false_or]
def numer (w : List Nat) : Bool := w.all figc && decide (w.length ≤ 3) && (decide (w = [48]) || !decide (w[0]? = some 48))
theorem zero_str : ("0" : Str) = mkS [48] := by decide +kernel
theorem okw (h : w.all runc = true) : ∀ c ∈ w, c < 1114112 := fun c hc => by
  have := List.all_eq_true.mp h c hc
  unfold runc lett figc at this
  simp only [Bool.or_eq_true, decide_eq_true_eq] at this
  omega
theorem ok_sign {c : Nat} (h : c < 1114112) : PyData.strOk (mkS [c]) = true := strOk_mk fun d hd => by simp at hd; subst hd; exact h
theorem eq_mk {a b : List Nat} : decide (mkS a = mkS b) = decide (a = b) := decide_eq_decide.mpr ⟨mkS_inj, fun h => by rw [h]⟩
theorem is_numeral_ok (h : ∀ c ∈ w, c < 1114112) (hw : w ≠ []) (hl : w.length < 1000000) : R A (k + 1) ("is_numeral" : Str) [.dat (.str (mkS w))] S = .ok (.dat (.bl (numer w))) S := by
  rw [run_is_numeral rfl]
  unfold b_is_numeral
  obtain ⟨a, r, rfl⟩ := List.exists_cons_of_ne_nil hw
  have e1 : sLc (sIter (sVar 0)) (setI 1) yes (s2 (f2 (dCmpD .In)) (sVar 1) (sVal (.str ("0123456789" : Str)))) [1] false [some (.dat (.str (mkS (a :: r)))), none] S = lcFin false ((a :: r).map fun c => .bl (figc c)) S :=
    lc_str _ rfl (by omega) fun c hc acc => by simp only [ev, evE, sVal_ok, o_in1, memFIG]
  have ha : PyData.strOk (mkS [a]) = true := ok_sign (h a (by simp))
  have hk : PyData.strOk (mkS (a :: r)) = true := strOk_mk h
  have h0 : PyData.strOk (mkS [48]) = true := by decide +kernel
  have e2 : decide ((3 : Int) < ((a :: r).length : Int)) = !decide ((a :: r).length ≤ 3) := by
    by_cases q : (a :: r).length ≤ 3
    · rw [decide_eq_true q, decide_eq_false (by omega)]; rfl
    · rw [decide_eq_false q, decide_eq_true (by omega)]; rfl
  have e3 := ix_str0 (c := a) (r := r) (by omega)
  have e4 : decide ((a :: r)[0]? = some 48) = decide ([a] = [48]) := decide_eq_decide.mpr (by simp)
  unfold numer
  rw [e4]
  cases h1 : (a :: r).all figc <;> cases h2 : decide ((a :: r).length ≤ 3) <;> cases h3 : decide ((a :: r) = [48]) <;>
    simp only [ev, sVal_ok, e1, lcFin_f, all_bl, h1, len_mk (show (a :: r).length ≤ 16777216 by omega), e2, h2, zero_str, o_eqS hk h0, eq_mk, h3, e3, o_neS ha h0, endF_rt, take_all, Bool.not_true, Bool.not_false, Bool.true_or, Bool.false_or, Bool.and_true, Bool.and_false, Bool.true_and, Bool.false_and] <;> rfl
def keysL : List Str := ["site", "place", "crew", "rest", "road", "to", "by", "cost", "laid"]
theorem in_keys {x : Str} (h : PyData.strOk x = true) : dCmpD .In (.str x) (.kup [.str ("site" : Str), .str ("place" : Str), .str ("crew" : Str), .str ("rest" : Str), .str ("road" : Str), .str ("to" : Str), .str ("by" : Str), .str ("cost" : Str), .str ("laid" : Str)]) = some (.bl (decide (x ∈ keysL))) :=
  o_inK (zs := keysL) h (by decide +kernel)
theorem in_keysL {x : Str} (h : PyData.strOk x = true) : dCmpD .In (.str x) (.lst (keysL.map .str)) = some (.bl (decide (x ∈ keysL))) :=
  o_inL (zs := keysL) h (by decide +kernel)
def hdL : List Nat → Bool
  | c :: _ => lett c
  | [] => false
/-- the kind of a run -/
def kind (w : List Nat) : Option Str :=
  if mkS w ∈ keysL then some "key" else if hdL w = true then (if w.length ≤ 12 then some "name" else none) else if numer w = true then some "number" else none
def kD : Option Str → D
  | some s => .str s
  | none => .non
theorem kind_of_ok (h : ∀ c ∈ w, c < 1114112) (hw : w ≠ []) (hl : w.length < 1000000) : R A (k + 2) ("kind_of" : Str) [.dat (.str (mkS w))] S = .ok (.dat (kD (kind w))) S := by
  rw [run_kind_of rfl]
  unfold b_kind_of
  obtain ⟨a, r, rfl⟩ := List.exists_cons_of_ne_nil hw
  have hk : PyData.strOk (mkS (a :: r)) = true := strOk_mk h
  have e3 := ix_str0 (c := a) (r := r) (by omega)
  have e2 : decide (((a :: r).length : Int) ≤ 12) = decide ((a :: r).length ≤ 12) := decide_eq_decide.mpr (by omega)
  have e5 := is_numeral_ok (A := A) (k := k) (S := S) h hw hl
  unfold kind
  by_cases h1 : mkS (a :: r) ∈ keysL
  · simp only [ev, sVal_ok, in_keys hk, decide_eq_true h1, endF_rt, take_all, if_pos h1]; rfl
  · rw [if_neg h1, show hdL (a :: r) = lett a from rfl]
    rcases Bool.eq_false_or_eq_true (lett a) with h2 | h2
    · by_cases h4 : (a :: r).length ≤ 12 <;> simp only [ev, sVal_ok, in_keys hk, decide_eq_false h1, e3, o_in1, memLET, h2, len_mk (show (a :: r).length ≤ 16777216 by omega), e2, h4, decide_true, decide_false, endF_rt, take_all] <;> rfl
    · cases h3 : numer (a :: r) <;> simp only [ev, sVal_ok, in_keys hk, decide_eq_false h1, e3, o_in1, memLET, h2, e5, h3, endF_rt, take_all] <;> rfl
end
end K02
namespace K02
open PySem PySem.Spec PyProof.Rows L2 EC
section
variable {A : Nat → Addr} {k : Nat} {S : Store} {c : Nat} {w : List Nat}
theorem fits_9 : fits 9 = true := fits_of (by omega)
theorem law_keys_ok : R A (k + 1) ("_law_keys" : Str) [] S = .ok (.dat (.lst (keysL.map .str))) S := by
  rw [run__law_keys rfl]
  unfold b__law_keys
  have e : fits ([D.str ("site" : Str), D.str ("place" : Str), D.str ("crew" : Str), D.str ("rest" : Str), D.str ("road" : Str), D.str ("to" : Str), D.str ("by" : Str), D.str ("cost" : Str), D.str ("laid" : Str)] : List D).length = true := fits_9
  simp only [ev, sVal_ok, e, endF_rt, take_all]
  rfl
theorem eqD_nil (zs : List Str) : eqD (.lst (zs.map .str)) (.lst []) = zs.isEmpty := by
  have h : toPy (.lst (zs.map .str)) = some (.list (zs.map .str)) := by rw [toPy, toPyL_strs]; rfl
  unfold eqD
  rw [pyOf_eq h, pyOf_eq (show toPy (.lst []) = some (.list []) from rfl), PyData.eqv]
  cases zs <;> rfl
/-- the law's own look at names -/
def lnm (w : List Nat) : Bool := match w with
  | [] => false
  | c :: r => !decide (12 < (c :: r).length) && !decide (mkS (c :: r) ∈ keysL) && !figc c && ((c :: r).filter fun c => !runc c).isEmpty
theorem o_eqL0 {w : List Nat} {p : Nat → Bool} (h : ∀ c ∈ w, c < 1114112) : dCmpD .Eq (.lst ((w.filter p).map fun c => .str (mkS [c]))) (.lst []) = some (.bl ((w.filter p).isEmpty)) := by
  have e : ((w.filter p).map fun c => D.str (mkS [c])) = ((w.filter p).map fun c => mkS [c]).map .str := by rw [List.map_map]; rfl
  rw [e]
  have hs : Sh 64 (.lst (((w.filter p).map fun c => mkS [c]).map .str)) := (sh_lst (shL_strs (n := 0) (List.all_eq_true.mpr fun z hz => by
    obtain ⟨c, hc, rfl⟩ := List.mem_map.mp hz
    exact ok_sign (h c (List.mem_filter.mp hc).1)))).mono (by omega)
  rw [o_eq hs ((sh_lst (n := 0) shL_nil).mono (by omega)), eqD_nil, List.isEmpty_map]
theorem nil_ok : PyData.strOk (mkS []) = true := by decide +kernel
theorem law_is_name_str (h : ∀ c ∈ w, c < 1114112) (hl : w.length < 1000000) : R A (k + 2) ("_law_is_name" : Str) [.dat (.str (mkS w))] S = .ok (.dat (.bl (lnm w))) S := by
  rw [run__law_is_name rfl]
  unfold b__law_is_name
  have hk : PyData.strOk (mkS w) = true := strOk_mk h
  cases w with
  | nil => simp only [ev, sVal_ok, isi_strS, empty_str, o_eqS nil_ok nil_ok, decide_true, endF_rt, take_all, Bool.not_true]; rfl
  | cons a r =>
    have e1 : sLc (sIter (sVar 0)) (setI 1) (tst (s2 (f2 (dCmpD .NotIn)) (sVar 1) (sVal (.str ("abcdefghijklmnopqrstuvwxyz0123456789" : Str))))) (sVar 1) [1] false [some (.dat (.str (mkS (a :: r)))), none] S = lcFin false (((a :: r).filter fun c => !runc c).map fun c => .str (mkS [c])) S :=
      lc_strf _ rfl (by omega) fun c hc acc => by simp only [ev, evE, sVal_ok, o_nin1, memRUN]; exact ⟨trivial, trivial⟩
    have e2 : decide ((12 : Int) < ((a :: r).length : Int)) = decide (12 < (a :: r).length) := decide_eq_decide.mpr (by omega)
    have e0 : decide (a :: r = ([] : List Nat)) = false := decide_eq_false (by simp)
    have e3 := ix_str0 (c := a) (r := r) (by omega)
    have e5 := law_keys_ok (A := A) (k := k) (S := S)
    unfold lnm
    simp only [ev, sVal_ok, isi_strS, empty_str, o_eqS hk nil_ok, eq_mk, e0, len_mk (show (a :: r).length ≤ 16777216 by omega), e2, Bool.not_true]
    by_cases h1 : 12 < (a :: r).length
    · simp only [decide_eq_true h1, ev, sVal_ok, endF_rt, take_all, Bool.not_true, Bool.false_and]
    · simp only [decide_eq_false h1, ev, sVal_ok, e5, in_keysL hk]
      by_cases h2 : mkS (a :: r) ∈ keysL
      · simp only [decide_eq_true h2, ev, sVal_ok, endF_rt, take_all, Bool.not_true, Bool.not_false, Bool.true_and, Bool.false_and]
      · simp only [decide_eq_false h2, ev, sVal_ok, e3, o_in1, memFIG]
        cases h3 : figc a <;> simp only [ev, sVal_ok, e1, lcFin_f, e_klst, fits_0, o_eqL0 h, List.length_nil, endF_rt, take_all, Bool.not_true, Bool.not_false, Bool.true_and, Bool.and_true, Bool.and_false, Bool.false_and]
theorem law_is_name_odd {d : D} (h : dBi .isi [d, .bty "str"] = some (.bl false)) : R A (k + 1) ("_law_is_name" : Str) [.dat d] S = .ok (.dat (.bl false)) S := by
  rw [run__law_is_name rfl]
  unfold b__law_is_name
  simp only [ev, sVal_ok, h, endF_rt, take_all, Bool.not_false]
theorem is_name_odd {d : D} (h : dBi .isi [d, .bty "str"] = some (.bl false)) : R A (k + 1) ("is_name" : Str) [.dat d] S = .ok (.dat (.bl false)) S := by
  rw [run_is_name rfl]
  unfold b_is_name
  simp only [ev, sVal_ok, h, endF_rt, take_all, Bool.not_false]
def nm (w : List Nat) : Bool := match w with
  | [] => false
  | c :: r => (c :: r).all runc && decide (kind (c :: r) = some ("name" : Str))
theorem kind_cases (w : List Nat) : kind w = some ("key" : Str) ∨ kind w = some ("name" : Str) ∨ kind w = some ("number" : Str) ∨ kind w = none := by
  unfold kind
  split
  · exact .inl rfl
  · split
    · split
      · exact .inr (.inl rfl)
      · exact .inr (.inr (.inr rfl))
    · split
      · exact .inr (.inr (.inl rfl))
      · exact .inr (.inr (.inr rfl))
theorem o_eqKind {w : List Nat} : dCmpD .Eq (kD (kind w)) (.str ("name" : Str)) = some (.bl (decide (kind w = some ("name" : Str)))) := by
  have hn : PyData.strOk ("name" : Str) = true := by decide +kernel
  rcases kind_cases w with h | h | h | h <;> rw [h]
  · rw [kD, o_eqS (by decide +kernel) hn]; rw [decide_eq_false (show ¬ ("key" : Str) = ("name" : Str) by decide +kernel), decide_eq_false (fun q => (show ¬ ("key" : Str) = ("name" : Str) by decide +kernel) (Option.some.inj q))]
  · rw [kD, o_eqS hn hn, decide_eq_true rfl, decide_eq_true rfl]
  · rw [kD, o_eqS (by decide +kernel) hn]; rw [decide_eq_false (show ¬ ("number" : Str) = ("name" : Str) by decide +kernel), decide_eq_false (fun q => (show ¬ ("number" : Str) = ("name" : Str) by decide +kernel) (Option.some.inj q))]
  · rw [kD, o_eq sh_non (sh_str hn)]; rfl
theorem is_name_str (h : ∀ c ∈ w, c < 1114112) (hl : w.length < 1000000) : R A (k + 3) ("is_name" : Str) [.dat (.str (mkS w))] S = .ok (.dat (.bl (nm w))) S := by
  rw [run_is_name rfl]
  unfold b_is_name
  have hk : PyData.strOk (mkS w) = true := strOk_mk h
  cases w with
  | nil => simp only [ev, sVal_ok, isi_strS, empty_str, o_eqS nil_ok nil_ok, decide_true, endF_rt, take_all, Bool.not_true]; rfl
  | cons a r =>
    have e1 : sLc (sIter (sVar 0)) (setI 1) yes (sFnL (R A (k + 2)) ("is_run_sign" : Str) [(sVar 1)]) [1] false [some (.dat (.str (mkS (a :: r)))), none] S = lcFin false ((a :: r).map fun c => .bl (runc c)) S :=
      lc_str _ rfl (by omega) fun c hc acc => by simp only [ev, evE, is_run_sign_ok]
    have e0 : decide (a :: r = ([] : List Nat)) = false := decide_eq_false (by simp)
    have e5 := kind_of_ok (A := A) (k := k) (S := S) h (by simp) hl
    unfold nm
    simp only [ev, sVal_ok, isi_strS, empty_str, o_eqS hk nil_ok, eq_mk, e0, e1, lcFin_f, all_bl, Bool.not_true]
    cases h1 : (a :: r).all runc <;> simp only [ev, sVal_ok, e5, o_eqKind, endF_rt, take_all, Bool.not_true, Bool.not_false, Bool.true_and, Bool.false_and]
theorem kind_name (c : Nat) (r : List Nat) : kind (c :: r) = some ("name" : Str) ↔ mkS (c :: r) ∉ keysL ∧ lett c = true ∧ (c :: r).length ≤ 12 := by
  unfold kind
  have n1 : ¬ (some ("key" : Str) = some ("name" : Str)) := fun q => (show ¬ ("key" : Str) = ("name" : Str) by decide +kernel) (Option.some.inj q)
  have n2 : ¬ (some ("number" : Str) = some ("name" : Str)) := fun q => (show ¬ ("number" : Str) = ("name" : Str) by decide +kernel) (Option.some.inj q)
  by_cases h1 : mkS (c :: r) ∈ keysL
  · rw [if_pos h1]; exact ⟨fun q => absurd q n1, fun q => absurd h1 q.1⟩
  · rw [if_neg h1]
    rw [show hdL (c :: r) = lett c from rfl]
    by_cases h2 : lett c = true
    · simp only [h2, if_true]
      by_cases h3 : (c :: r).length ≤ 12
      · rw [if_pos h3]; exact ⟨fun _ => ⟨h1, trivial, h3⟩, fun _ => rfl⟩
      · rw [if_neg h3]; exact ⟨fun q => (nomatch q), fun q => absurd q.2.2 h3⟩
    · rw [if_neg h2]
      by_cases h4 : numer (c :: r) = true
      · rw [if_pos h4]; exact ⟨fun q => absurd q n2, fun q => absurd q.2.1 h2⟩
      · rw [if_neg h4]; exact ⟨fun q => (nomatch q), fun q => absurd q.2.1 h2⟩
theorem nm_lnm (w : List Nat) : nm w = lnm w := by
  cases w with
  | nil => rfl
  | cons c r =>
    show ((c :: r).all runc && decide (kind (c :: r) = some ("name" : Str))) = (!decide (12 < (c :: r).length) && !decide (mkS (c :: r) ∈ keysL) && !figc c && ((c :: r).filter fun c => !runc c).isEmpty)
    have hf : ((c :: r).filter fun c => !runc c).isEmpty = (c :: r).all runc := by
      generalize (c :: r) = l
      induction l with
      | nil => rfl
      | cons x l ih =>
        rw [List.filter_cons, List.all_cons]
        cases hx : runc x <;> simp [ih]
    rw [hf]
    by_cases ha : (c :: r).all runc = true
    · have hc : runc c = true := by rw [List.all_cons, Bool.and_eq_true] at ha; exact ha.1
      have hlf : lett c = !figc c := by
        unfold runc at hc
        unfold lett figc at *
        by_cases h1 : 97 ≤ c ∧ c ≤ 122
        · rw [decide_eq_true h1, decide_eq_false (by omega)]; rfl
        · rw [decide_eq_false h1, Bool.false_or] at hc
          rw [decide_eq_false h1, hc]; rfl
      rw [ha, Bool.true_and, Bool.and_true, Bool.eq_iff_iff, decide_eq_true_iff, kind_name, hlf]
      simp only [Bool.and_eq_true, Bool.not_eq_true', decide_eq_false_iff_not]
      constructor
      · rintro ⟨a, b, d⟩; exact ⟨⟨by omega, a⟩, b⟩
      · rintro ⟨⟨a, b⟩, d⟩; exact ⟨b, d, by omega⟩
    · have ha : (c :: r).all runc = false := by simpa using ha
      rw [ha, Bool.false_and, Bool.and_false]
theorem law_is_number_ok (h : ∀ c ∈ w, c < 1114112) (hw : w ≠ []) (hl : w.length < 1000000) : R A (k + 1) ("_law_is_number" : Str) [.dat (.str (mkS w))] S = .ok (.dat (.bl (numer w))) S := by
  rw [run__law_is_number rfl]
  unfold b__law_is_number
  obtain ⟨a, r, rfl⟩ := List.exists_cons_of_ne_nil hw
  have hk : PyData.strOk (mkS (a :: r)) = true := strOk_mk h
  have e1 : sLc (sIter (sVar 0)) (setI 1) (tst (s2 (f2 (dCmpD .NotIn)) (sVar 1) (sVal (.str ("0123456789" : Str))))) (sVar 1) [1] false [some (.dat (.str (mkS (a :: r)))), none] S = lcFin false (((a :: r).filter fun c => !figc c).map fun c => .str (mkS [c])) S :=
    lc_strf _ rfl (by omega) fun c hc acc => by simp only [ev, evE, sVal_ok, o_nin1, memFIG]; exact ⟨trivial, trivial⟩
  have hf : ((a :: r).filter fun c => !figc c).isEmpty = (a :: r).all figc := by
    generalize (a :: r) = l
    induction l with
    | nil => rfl
    | cons x l ih =>
      rw [List.filter_cons, List.all_cons]
      cases hx : figc x <;> simp [ih]
  have ha : PyData.strOk (mkS [a]) = true := ok_sign (h a (by simp))
  have h0 : PyData.strOk (mkS [48]) = true := by decide +kernel
  have e2 : decide (((a :: r).length : Int) < 4) = decide ((a :: r).length ≤ 3) := decide_eq_decide.mpr (by omega)
  have e0 : decide (a :: r = ([] : List Nat)) = false := decide_eq_false (by simp)
  have e3 := ix_str0 (c := a) (r := r) (by omega)
  have e4 : decide ((a :: r)[0]? = some 48) = decide ([a] = [48]) := decide_eq_decide.mpr (by simp)
  unfold numer
  rw [e4]
  simp only [ev, sVal_ok, empty_str, o_neS hk nil_ok, eq_mk, e0, len_mk (show (a :: r).length ≤ 16777216 by omega), e2, Bool.not_false]
  cases h2 : decide ((a :: r).length ≤ 3)
  · simp only [ev, endF_rt, take_all, Bool.and_false, Bool.false_and]
  · simp only [ev, e1, lcFin_f, e_klst, fits_0, List.length_nil, o_eqL0 h, hf]
    cases h1 : (a :: r).all figc
    · simp only [ev, endF_rt, take_all, Bool.and_false, Bool.false_and]
    · cases h3 : decide ((a :: r) = [48]) <;> simp only [ev, sVal_ok, zero_str, o_eqS hk h0, eq_mk, h3, e3, o_neS ha h0, endF_rt, take_all, Bool.true_and, Bool.true_or, Bool.false_or]
theorem law_kind_ok (h : w.all runc = true) (hw : w ≠ []) (hl : w.length < 1000000) : R A (k + 3) ("_law_kind_of_word" : Str) [.dat (.str (mkS w))] S = .ok (.dat (kD (kind w))) S := by
  rw [run__law_kind_of_word rfl]
  unfold b__law_kind_of_word
  have h' := okw h
  have hk : PyData.strOk (mkS w) = true := strOk_mk h'
  obtain ⟨a, r, rfl⟩ := List.exists_cons_of_ne_nil hw
  have e5 := law_keys_ok (A := A) (k := k + 1) (S := S)
  have e6 := law_is_name_str (A := A) (k := k) (S := S) h' hl
  have e7 := law_is_number_ok (A := A) (k := k + 1) (S := S) h' hw hl
  rw [← nm_lnm] at e6
  have e8 : nm (a :: r) = decide (kind (a :: r) = some ("name" : Str)) := by
    show ((a :: r).all runc && decide (kind (a :: r) = some ("name" : Str))) = _
    rw [h, Bool.true_and]
  rw [e8] at e6
  by_cases h1 : mkS (a :: r) ∈ keysL
  · have : kind (a :: r) = some ("key" : Str) := by unfold kind; rw [if_pos h1]
    rw [this]
    simp only [ev, sVal_ok, e5, in_keysL hk, decide_eq_true h1, endF_rt, take_all]
    rfl
  · simp only [ev, sVal_ok, e5, in_keysL hk, decide_eq_false h1, e6]
    by_cases h2 : kind (a :: r) = some ("name" : Str)
    · simp only [decide_eq_true h2, ev, sVal_ok, endF_rt, take_all]
      rw [h2]; rfl
    · have h3 : kind (a :: r) = if numer (a :: r) = true then some ("number" : Str) else none := by
        have hc : runc a = true := by rw [List.all_cons, Bool.and_eq_true] at h; exact h.1
        rw [kind_name] at h2
        unfold kind
        rw [if_neg h1, show hdL (a :: r) = lett a from rfl]
        by_cases h4 : lett a = true
        · have h5 : ¬ (a :: r).length ≤ 12 := fun q => h2 ⟨h1, h4, q⟩
          have h6 : numer (a :: r) = false := by
            unfold numer
            rw [decide_eq_false (show ¬ (a :: r).length ≤ 3 by omega), Bool.and_false, Bool.false_and]
          simp only [h4, if_true, if_neg h5, h6]
          rfl
        · rw [if_neg h4]
      simp only [decide_eq_false h2, ev, sVal_ok, e7]
      rw [h3]
      cases h7 : numer (a :: r) <;> simp only [ev, sVal_ok, endF_rt, take_all] <;> rfl
end
end K02
namespace K02
open PySem PySem.Spec PyProof.Rows L2 EC
theorem glue_ext (g : Array Nat) : ∀ (ps : List Str) (acc : Array Nat), ∃ t, (ps.foldl (fun acc p => acc ++ g ++ p.cps) acc).toList = acc.toList ++ t
  | [], acc => ⟨[], by simp⟩
  | p :: ps, acc => by
    obtain ⟨t, h⟩ := glue_ext g ps (acc ++ g ++ p.cps)
    exact ⟨g.toList ++ p.cps.toList ++ t, by rw [List.foldl_cons, h]; simp⟩
theorem split_first (x y : Str) : ∃ p0 ps, Txt.split x y = p0 :: ps ∧ (p0 = x ∨ ∃ t, x.cps.toList = p0.cps.toList ++ y.cps.toList ++ t) := by
  unfold Txt.split
  split
  · exact ⟨x, [], rfl, .inl rfl⟩
  · split
    · exact ⟨x, [], rfl, .inl rfl⟩
    · have hl := length_partsBetween x (Builtin.Str.occurrences x y 0 x.length (x.length + 1)) y.length
      have hg := StrLaws.glued_between_self x y (x.length + 1)
      generalize Builtin.Str.partsBetween x (Builtin.Str.occurrences x y 0 x.length (x.length + 1)) y.length = parts at hl hg ⊢
      cases parts with
      | nil => simp at hl
      | cons p0 ps =>
        refine ⟨p0, ps, rfl, ?_⟩
        cases ps with
        | nil =>
          refine .inl ?_
          have : p0 = x := by
            rw [← hg]
            unfold Builtin.Str.glued
            simp
          exact this
        | cons p1 ps =>
          refine .inr ?_
          obtain ⟨t, ht⟩ := glue_ext y.cps ps (p0.cps ++ y.cps ++ p1.cps)
          refine ⟨p1.cps.toList ++ t, ?_⟩
          rw [← hg]
          unfold Builtin.Str.glued
          simp only [List.drop_succ_cons, List.drop_zero, List.foldl_cons, List.headD_cons]
          rw [ht]
          simp
def nl : Str := "\n"
theorem nl_eq : ("\n" : Str) = mkS [10] := by decide +kernel
def piece0 (rest : List Nat) : Str := (Txt.split (mkS rest) ("\n" : Str)).headD (mkS rest)
def gapLen (rest : List Nat) : Nat := (piece0 rest).length
theorem piece0_ix (rest : List Nat) : atI ((Txt.split (mkS rest) ("\n" : Str)).map D.str) 0 = some (.str (piece0 rest)) := by
  obtain ⟨p0, ps, h, _⟩ := split_first (mkS rest) ("\n" : Str)
  unfold piece0
  rw [h]
  show atI ((p0 :: ps).map D.str) (((0 : Nat) : Int)) = _
  rw [EC.atI_nat (by simp)]
  rfl
theorem gapLen_le (rest : List Nat) : gapLen rest ≤ rest.length := by
  obtain ⟨p0, ps, h, h2⟩ := split_first (mkS rest) ("\n" : Str)
  unfold gapLen piece0
  rw [h]
  show p0.length ≤ _
  rcases h2 with h2 | ⟨t, h2⟩
  · rw [h2, mkS_length]; exact Nat.le_refl _
  · have := congrArg List.length h2
    rw [mkS_list] at this
    simp only [List.length_append] at this
    show p0.cps.size ≤ _
    rw [← Array.length_toList]
    omega
theorem gapLen_pos (r : List Nat) : 1 ≤ gapLen (35 :: r) := by
  obtain ⟨p0, ps, h, h2⟩ := split_first (mkS (35 :: r)) ("\n" : Str)
  unfold gapLen piece0
  rw [h]
  show 1 ≤ p0.length
  rcases h2 with h2 | ⟨t, h2⟩
  · rw [h2, mkS_length]; simp
  · rw [mkS_list, nl_eq, mkS_list] at h2
    show 1 ≤ p0.cps.size
    rw [← Array.length_toList]
    cases hp : p0.cps.toList with
    | nil => rw [hp] at h2; simp at h2
    | cons a b => simp
abbrev scn (xs : List Nat) (a : Nat) (l c : Int) : Cell := .ins "Scanner" [.str (mkS xs), .int a, .int l, .int c]
section
variable {A : Nat → Addr} {k n a : Nat} {S : Store} {l c : Int} {xs pre rest r : List Nat} {d e f g z : D} {ρ : Env0'} {T : FnT} {w : W} {ca : Sm (List W)}
theorem sc_text : fldD (gm A) ("text" : Str) (.ins "Scanner" [d, e, f, g]) = some d := by kernel_rfl
theorem sc_at : fldD (gm A) ("at" : Str) (.ins "Scanner" [d, e, f, g]) = some e := by kernel_rfl
theorem sc_line : fldD (gm A) ("line" : Str) (.ins "Scanner" [d, e, f, g]) = some f := by kernel_rfl
theorem sc_column : fldD (gm A) ("column" : Str) (.ins "Scanner" [d, e, f, g]) = some g := by kernel_rfl
theorem sp_at : kGF (gm A) ("at" : Str) n z (some (.ins "Scanner" [d, e, f, g])) ρ S = .nx ρ (S.set n (.ins "Scanner" [d, z, f, g])) := by kernel_rfl
theorem sp_line : kGF (gm A) ("line" : Str) n z (some (.ins "Scanner" [d, e, f, g])) ρ S = .nx ρ (S.set n (.ins "Scanner" [d, e, z, g])) := by kernel_rfl
theorem sp_column : kGF (gm A) ("column" : Str) n z (some (.ins "Scanner" [d, e, f, g])) ρ S = .nx ρ (S.set n (.ins "Scanner" [d, e, f, z])) := by kernel_rfl
theorem si_text : kGF (gm A) ("text" : Str) n z (some (.ins "Scanner" [])) ρ S = .nx ρ (S.set n (.ins "Scanner" [z])) := by kernel_rfl
theorem si_at : kGF (gm A) ("at" : Str) n z (some (.ins "Scanner" [d])) ρ S = .nx ρ (S.set n (.ins "Scanner" [d, z])) := by kernel_rfl
theorem si_line : kGF (gm A) ("line" : Str) n z (some (.ins "Scanner" [d, e])) ρ S = .nx ρ (S.set n (.ins "Scanner" [d, e, z])) := by kernel_rfl
theorem si_column : kGF (gm A) ("column" : Str) n z (some (.ins "Scanner" [d, e, f])) ρ S = .nx ρ (S.set n (.ins "Scanner" [d, e, f, z])) := by kernel_rfl
theorem m_over : kM3 (methOf (gm A) "Scanner" ("is_over" : Str)) T ca ρ w S = (ca ρ S).bind (kM4 T ("Scanner.is_over" : Str) w) := by kernel_rfl
theorem m_skip : kM3 (methOf (gm A) "Scanner" ("skip" : Str)) T ca ρ w S = (ca ρ S).bind (kM4 T ("Scanner.skip" : Str) w) := by kernel_rfl
theorem m_gap : kM3 (methOf (gm A) "Scanner" ("pass_gap" : Str)) T ca ρ w S = (ca ρ S).bind (kM4 T ("Scanner.pass_gap" : Str) w) := by kernel_rfl
theorem m_token : kM3 (methOf (gm A) "Scanner" ("token" : Str)) T ca ρ w S = (ca ρ S).bind (kM4 T ("Scanner.token" : Str) w) := by kernel_rfl
def ciS (A : Nat → Addr) : ClsI := ⟨A 25, [("text" : Str), ("at" : Str), ("line" : Str), ("column" : Str)], some (("Scanner.__init__" : Str), A 4), [(("is_over" : Str), ("Scanner.is_over" : Str), A 5), (("skip" : Str), ("Scanner.skip" : Str), A 6), (("pass_gap" : Str), ("Scanner.pass_gap" : Str), A 7), (("token" : Str), ("Scanner.token" : Str), A 8)], true⟩
theorem cls_S : (gm A).clss.lookup ("Scanner" : Str) = some (ciS A) := by kernel_rfl
theorem ix_at : ixOf ("at" : Str) (ciS A).fields = some 1 := by kernel_rfl
theorem ix_col : ixOf ("column" : Str) (ciS A).fields = some 3 := by kernel_rfl
theorem e_ktm3 {t1 t2 t3 : W → Ss} {w1 w2 w3 : W} : kTM [t1, t2, t3] ρ [w1, w2, w3] S = (gAll [t1, t2, t3] [w1, w2, w3] ρ S).noRt := by
  unfold kTM
  rw [if_pos ⟨fits_3, rfl⟩]
theorem e_gall {t : W → Ss} {ts : List (W → Ss)} {ws : List W} : gAll (t :: ts) (w :: ws) ρ S = (t w ρ S).andThen (gAll ts ws) := rfl
theorem e_gall0 : gAll [] [] ρ S = .nx ρ S := rfl
theorem e_nort : (SR.nx ρ S).noRt = .nx ρ S := rfl
theorem e_gfw {G : Gam} {x : Str} {co : Sm W} : gFldW G x co w ρ S = (co ρ S).toS ρ (fun wo S1 => gFldK G x w wo ρ S1) := rfl
theorem over_ok (h : S[n]? = some (scn xs a l c)) (hl : xs.length < 1000000) : R A (k + 1) ("Scanner.is_over" : Str) [.cell n] S = .ok (.dat (.bl (decide (a = xs.length)))) S := by
  rw [run_Scanner_is_over rfl]
  unfold b_Scanner_is_over
  have e2 : decide ((a : Int) = (xs.length : Int)) = decide (a = xs.length) := decide_eq_decide.mpr (by omega)
  simp only [ev, h, evE, sc_at, sc_text, len_mk (w := xs) (by omega), o_eqI, e2, endF_rt, take_all]
theorem skip_ok {m : Nat} (h : S[n]? = some (scn xs a l c)) : R A (k + 1) ("Scanner.skip" : Str) [.cell n, .dat (.int m)] S = .ok (.dat .non) (S.set n (scn xs (a + m) l (c + m))) := by
  rw [run_Scanner_skip rfl]
  unfold b_Scanner_skip
  have hn : n < S.length := (List.getElem?_eq_some_iff.mp h).1
  rw [sq_cons, augF_ok (ci := ciS A) (i := 1) (z := (a : Int) + m) rfl h cls_S ix_at rfl (b := m) rfl rfl, an_nx]
  have g2 : (S.set n (.ins "Scanner" (List.set [.str (mkS xs), .int a, .int l, .int c] 1 (.int (a + m)))))[n]? = some (.ins "Scanner" [.str (mkS xs), .int (a + m), .int l, .int c]) := set_get hn
  rw [sq_cons, augF_ok (ci := ciS A) (i := 3) (z := c + m) rfl g2 cls_S ix_col rfl (b := m) rfl rfl, an_nx, List.set_set, seqL_nil, endF_nx, take_set]
  rfl
theorem gap_list : ("\n #" : Str).cps.toList = [10, 32, 35] := by decide +kernel
theorem sp_eq : (" " : Str) = mkS [32] := by decide +kernel
theorem hash_eq : ("#" : Str) = mkS [35] := by decide +kernel
theorem at_ix {c0 : Nat} (hl : (pre ++ c0 :: r).length < 1000000) : dIx (.str (mkS (pre ++ c0 :: r))) (.int pre.length) = some (.str (mkS [c0])) := by
  refine ix_str (n := pre.length) ?_ (by omega)
  rw [List.getElem?_append_right (Nat.le_refl _), Nat.sub_self]
  rfl
theorem at_cut (hl : (pre ++ rest).length < 1000000) : kB (fits (mkS (pre ++ rest)).length) (D.str (cutS (mkS (pre ++ rest)) (some (pre.length : Int)) none)) = some (.str (mkS rest)) := by
  rw [fitS1 (by omega), cut_lo (by rw [List.length_append]; omega), List.drop_left]
  rfl
theorem eq_sg {a b : Nat} : decide ([a] = [b]) = decide (a = b) := decide_eq_decide.mpr (by simp)
theorem eq_nl {c0 : Nat} (h : c0 < 1114112) : dCmpD .Eq (.str (mkS [c0])) (.str ("\n" : Str)) = some (.bl (decide (c0 = 10))) := by
  rw [nl_eq, o_eqS (ok_sign h) (by decide +kernel), eq_mk, eq_sg]
theorem eq_sp {c0 : Nat} (h : c0 < 1114112) : dCmpD .Eq (.str (mkS [c0])) (.str (" " : Str)) = some (.bl (decide (c0 = 32))) := by
  rw [sp_eq, o_eqS (ok_sign h) (by decide +kernel), eq_mk, eq_sg]
theorem eq_hash {c0 : Nat} (h : c0 < 1114112) : dCmpD .Eq (.str (mkS [c0])) (.str ("#" : Str)) = some (.bl (decide (c0 = 35))) := by
  rw [hash_eq, o_eqS (ok_sign h) (by decide +kernel), eq_mk, eq_sg]
theorem ok10 : PyData.strOk (mkS [10]) = true := by decide +kernel
theorem ok32 : PyData.strOk (mkS [32]) = true := by decide +kernel
theorem ok35 : PyData.strOk (mkS [35]) = true := by decide +kernel
/-- where a gap ends -/
def gapTo (rest : List Nat) (l c : Int) : Option (Nat × Int × Int) := match rest with
  | [] => none
  | c0 :: r => if c0 = 10 then some (1, l + 1, 1) else if c0 = 32 then some (1, l, c + 1) else if c0 = 35 then some (gapLen (c0 :: r), l, c + gapLen (c0 :: r)) else none
theorem gap_ok {c0 : Nat} (h : S[n]? = some (scn (pre ++ c0 :: r) pre.length l c)) (hc : c0 < 1114112) (hl : (pre ++ c0 :: r).length < 1000000) :
    R A (k + 2) ("Scanner.pass_gap" : Str) [.cell n] S = (match gapTo (c0 :: r) l c with
      | some (m, l', c') => .ok (.dat (.bl true)) (S.set n (scn (pre ++ c0 :: r) (pre.length + m) l' c'))
      | none => .ok (.dat (.bl false)) S) := by
  rw [run_Scanner_pass_gap rfl]
  unfold b_Scanner_pass_gap
  have hn : n < S.length := (List.getElem?_eq_some_iff.mp h).1
  have hk := ok_sign hc
  have g : ∀ x, (S.set n x)[n]? = some x := fun x => set_get hn
  have eA : sAsg (s2 (f2 dIx) (sFld (gm A) ("text" : Str) (sVar 0)) (sFld (gm A) ("at" : Str) (sVar 0))) (setI 1) [some (.cell n), none] S = .nx [some (.cell n), some (.dat (.str (mkS [c0])))] S := by
    simp only [ev, evE, h, sc_at, sc_text, at_ix hl]
  rw [sq_cons, eA, an_nx]
  show _ = (match (if c0 = 10 then some (1, l + 1, 1) else if c0 = 32 then some (1, l, c + 1) else if c0 = 35 then some (gapLen (c0 :: r), l, c + gapLen (c0 :: r)) else none) with
      | some (m, l', c') => (.ok (.dat (.bl true)) (S.set n (scn (pre ++ c0 :: r) (pre.length + m) l' c')) : Res W)
      | none => .ok (.dat (.bl false)) S)
  have q1 := eq_nl hc
  have q2 := eq_sp hc
  have q3 := eq_hash hc
  by_cases h1 : c0 = 10
  · rw [if_pos h1]
    simp only [ev, evE, sVal_ok, q1, decide_eq_true h1, h, sc_at, sc_line, e_ktm3, e_gall, e_gfw, g_fldk, sp_at, g, sp_line, sp_column, e_gall0, e_nort, List.set_set, o_in1, gap_list]
    simp only [endF_rt, take_set, h1]
    rfl
  · rw [if_neg h1]
    by_cases h2 : c0 = 32
    · rw [if_pos h2]
      have sk : R A (k + 1) ("Scanner.skip" : Str) [.cell n, .dat (.int 1)] S = .ok (.dat .non) (S.set n (scn (pre ++ c0 :: r) (pre.length + 1) l (c + 1))) := skip_ok (A := A) (k := k) (m := 1) h
      simp only [ev, evE, sVal_ok, q1, q2, decide_eq_true h2, decide_eq_false h1, h, m_skip, sk, o_in1, gap_list]
      simp only [endF_rt, take_set, h2]
      rfl
    · rw [if_neg h2]
      by_cases h3 : c0 = 35
      · rw [if_pos h3]
        have hgl : (c0 :: r).length < 1000000 := by rw [List.length_append] at hl; omega
        have lr : gapLen (c0 :: r) ≤ (c0 :: r).length := gapLen_le _
        have hs : dMt .split (.dat (.str (mkS (c0 :: r)))) [.dat (.str ("\n" : Str))] S = .ok (.dat (.lst ((Txt.split (mkS (c0 :: r)) ("\n" : Str)).map .str))) S := dMt_split rfl (by rw [nl_eq]; rfl) (by rw [mkS_length, sizeLine_eq]; omega)
        have sk := skip_ok (A := A) (k := k) (m := gapLen (c0 :: r)) h
        have ef : fits (piece0 (c0 :: r)).length = true := fits_of (by have : (piece0 (c0 :: r)).length = gapLen (c0 :: r) := rfl; omega)
        have el : (((piece0 (c0 :: r)).length : Nat) : Int) = ((gapLen (c0 :: r) : Nat) : Int) := rfl
        simp only [ev, evE, sVal_ok, q1, q2, q3, decide_eq_true h3, decide_eq_false h2, decide_eq_false h1, h, sc_at, sc_text, at_cut hl, hs, piece0_ix, ef, el, m_skip, sk, o_in1, gap_list]
        simp only [endF_rt, take_set, h3]
        rfl
      · rw [if_neg h3]
        have e9 : decide (c0 ∈ ("\n #" : Str).cps.toList) = false := by rw [gap_list]; exact decide_eq_false (by simp; exact ⟨h1, h2, h3⟩)
        simp only [ev, evE, sVal_ok, q1, q2, q3, decide_eq_false h1, decide_eq_false h2, decide_eq_false h3, o_in1, e9, endF_rt, take_all]
end
end K02
namespace K02
open PySem PySem.Spec PyProof.Rows L2 EC
def signsL : List Str := ["{", "}", ",", ";", ":"]
theorem in_signsK {x : Str} (h : PyData.strOk x = true) : dCmpD .In (.str x) (.kup [.str ("{" : Str), .str ("}" : Str), .str ("," : Str), .str (";" : Str), .str (":" : Str)]) = some (.bl (decide (x ∈ signsL))) :=
  o_inK (zs := signsL) h (by decide +kernel)
theorem in_signsL {x : Str} (h : PyData.strOk x = true) : dCmpD .In (.str x) (.lst [.str ("{" : Str), .str ("}" : Str), .str ("," : Str), .str (";" : Str), .str (":" : Str)]) = some (.bl (decide (x ∈ signsL))) :=
  o_inL (zs := signsL) h (by decide +kernel)
def runOf (rest : List Nat) : List Nat := rest.takeWhile runc
def tokLen (rest : List Nat) : Nat := max 1 (runOf rest).length
def tokW (rest : List Nat) : List Nat := rest.take (tokLen rest)
def tokK (rest : List Nat) : Option Str := if 0 < (runOf rest).length then kind (tokW rest) else if mkS (tokW rest) ∈ signsL then some ("sign" : Str) else none
def tok (kd : Str) (w : List Nat) (l c : Int) : D := .tup [.str kd, .str (mkS w), .tup [.int l, .int c]]
def scan : Nat → List Nat → Int → Int → List D → (Int × Int) ⊕ (List D × Int × Int)
  | _, [], l, c, acc => .inr (acc, l, c)
  | 0, _ :: _, _, _, _ => .inl (0, 0)
  | f + 1, c0 :: r, l, c, acc => match gapTo (c0 :: r) l c with
    | some (m, l', c') => scan f ((c0 :: r).drop m) l' c' acc
    | none => match tokK (c0 :: r) with
      | some kd => scan f ((c0 :: r).drop (tokLen (c0 :: r))) l (c + tokLen (c0 :: r)) (acc ++ [tok kd (tokW (c0 :: r)) l c])
      | none => .inl (l, c)
theorem scan_s {f : Nat} {c0 : Nat} {r : List Nat} {l c : Int} {acc : List D} : scan (f + 1) (c0 :: r) l c acc = (match gapTo (c0 :: r) l c with
    | some (m, l', c') => scan f ((c0 :: r).drop m) l' c' acc
    | none => match tokK (c0 :: r) with
      | some kd => scan f ((c0 :: r).drop (tokLen (c0 :: r))) l (c + tokLen (c0 :: r)) (acc ++ [tok kd (tokW (c0 :: r)) l c])
      | none => .inl (l, c)) := rfl
theorem tw_iff (p : Nat → Bool) : ∀ (l : List Nat) (j : Nat), j ≤ (l.takeWhile p).length → (j < (l.takeWhile p).length ↔ ∃ h : j < l.length, p l[j] = true)
  | [], j, h => by simp
  | a :: l, j, h => by
    rw [List.takeWhile_cons] at h ⊢
    cases hp : p a with
    | false =>
      rw [hp] at h
      simp at h
      subst h
      simp [hp]
    | true =>
      rw [hp] at h
      simp only [if_true] at h ⊢
      cases j with
      | zero => simp [hp]
      | succ j =>
        have := tw_iff p l j (by simpa using h)
        simp only [List.length_cons, Nat.add_lt_add_iff_right, List.getElem_cons_succ] at this ⊢
        exact this
theorem tw_le (p : Nat → Bool) (l : List Nat) : (l.takeWhile p).length ≤ l.length := (List.takeWhile_sublist p).length_le
theorem tokLen_le {c0 : Nat} {r : List Nat} : tokLen (c0 :: r) ≤ (c0 :: r).length := by
  have := tw_le runc (c0 :: r)
  unfold tokLen runOf
  simp only [List.length_cons] at this ⊢
  omega
theorem tokLen_pos {rest : List Nat} : 1 ≤ tokLen rest := Nat.le_max_left _ _
theorem tokW_length {c0 : Nat} {r : List Nat} : (tokW (c0 :: r)).length = tokLen (c0 :: r) := by
  unfold tokW
  rw [List.length_take, Nat.min_eq_left tokLen_le]
theorem tokW_run {rest : List Nat} (h : 0 < (runOf rest).length) : tokW rest = runOf rest := by
  unfold tokW tokLen
  rw [Nat.max_eq_right h]
  unfold runOf
  have := List.takeWhile_prefix (l := rest) runc
  exact (List.prefix_iff_eq_take.mp this).symm
theorem run_all (rest : List Nat) : (runOf rest).all runc = true := List.all_takeWhile
theorem gapTo_pos {rest : List Nat} {l c l' c' : Int} {m : Nat} (h : gapTo rest l c = some (m, l', c')) : 1 ≤ m ∧ m ≤ rest.length := by
  cases rest with
  | nil => cases h
  | cons c0 r =>
    unfold gapTo at h
    simp only at h
    split at h
    · cases h; simp
    · split at h
      · cases h; simp
      · split at h
        · rename_i h35
          cases h
          exact ⟨by rw [h35]; exact gapLen_pos r, gapLen_le _⟩
        · cases h
section
variable {A : Nat → Addr} {k n : Nat} {S : Store} {l c : Int} {xs pre rest r : List Nat} {c0 : Nat}
theorem cast_add {a b : Nat} : (a : Int) + (b : Int) = ((a + b : Nat) : Int) := rfl
theorem max1 {m : Nat} : dBi .max [.int 1, .int m] = some (.int ((max 1 m : Nat) : Int)) := by
  show some (D.int (if (m : Int) > 1 then (m : Int) else 1)) = _
  by_cases h : (m : Int) > 1
  · rw [if_pos h, Nat.max_eq_right (by omega)]
  · rw [if_neg h, Nat.max_eq_left (by omega)]; rfl
theorem raise_mis {ρ : Env0'} {d e : D} : kRaise (gm A) ("Misread" : Str) ρ [.dat d, .dat e] S = .ex ("Misread" : Str) [e, d] ρ S := by kernel_rfl
theorem augN2 {a b : Option W} {j : Int} {d e : Option W} : sAugN 2 .Add (sVal (.int 1)) [a, b, some (.dat (.int j)), d, e] S = .nx [a, b, some (.dat (.int (j + 1))), d, e] S := rfl
theorem token_ok (h : S[n]? = some (scn (pre ++ c0 :: r) pre.length l c)) (hx : ∀ c ∈ pre ++ c0 :: r, c < 1114112) (hl : (pre ++ c0 :: r).length < 1000000) :
    R A (k + 3) ("Scanner.token" : Str) [.cell n] S = (match tokK (c0 :: r) with
      | some kd => .ok (.dat (tok kd (tokW (c0 :: r)) l c)) (S.set n (scn (pre ++ c0 :: r) (pre.length + tokLen (c0 :: r)) l (c + tokLen (c0 :: r))))
      | none => .ex ("Misread" : Str) [.int c, .int l] S) := by
  rw [run_Scanner_token rfl]
  unfold b_Scanner_token
  have hn : n < S.length := (List.getElem?_eq_some_iff.mp h).1
  have hlr : (c0 :: r).length < 1000000 := by rw [List.length_append] at hl; omega
  have hrun : (runOf (c0 :: r)).length ≤ (c0 :: r).length := tw_le _ _
  rw [sq_cons]
  have e0 : sTT (evl [(sTup [(sFld (gm A) ("line" : Str) (sVar 0)), (sFld (gm A) ("column" : Str) (sVar 0))]), (sVal (.int 0))]) (setIs [1, 2]) [some (.cell n), none, none, none, none] S = .nx [some (.cell n), some (.dat (.tup [.int l, .int c])), some (.dat (.int 0)), none, none] S := by
    simp only [ev, evE, sVal_ok, h, sc_line, sc_column, evF]
  rw [e0, an_nx, sq_cons]
  have e1 : sWhile (tst (sAnd (s2 (f2 (dCmpD .Lt)) (s2 (f2 (dBin .Add)) (sFld (gm A) ("at" : Str) (sVar 0)) (sVar 2)) (sBi .len [(sFld (gm A) ("text" : Str) (sVar 0))])) (sFnL (R A (k + 2)) ("is_run_sign" : Str) [(s2 (f2 dIx) (sFld (gm A) ("text" : Str) (sVar 0)) (s2 (f2 (dBin .Add)) (sFld (gm A) ("at" : Str) (sVar 0)) (sVar 2)))]))) (seqL [(sAugN 2 .Add (sVal (.int 1)))]) [some (.cell n), some (.dat (.tup [.int l, .int c])), some (.dat (.int 0)), none, none] S
      = .nx [some (.cell n), some (.dat (.tup [.int l, .int c])), some (.dat (.int (runOf (c0 :: r)).length)), none, none] S := by
    refine wh_ind (m := (c0 :: r).length) (I := fun m ρ S' => ∃ j : Nat, ρ = [some (.cell n), some (.dat (.tup [.int l, .int c])), some (.dat (.int j)), none, none] ∧ S' = S ∧ j ≤ (runOf (c0 :: r)).length ∧ m + j = (c0 :: r).length)
      (P := fun x => x = .nx [some (.cell n), some (.dat (.tup [.int l, .int c])), some (.dat (.int (runOf (c0 :: r)).length)), none, none] S) ⟨0, rfl, rfl, Nat.zero_le _, rfl⟩ hlr ?_
    rintro m ρ S' ⟨j, rfl, rfl, h1, h2⟩
    have hi := tw_iff runc (c0 :: r) j h1
    have e2 : decide (((pre.length + j : Nat) : Int) < ((pre ++ c0 :: r).length : Int)) = decide (j < (c0 :: r).length) := decide_eq_decide.mpr (by rw [List.length_append]; omega)
    by_cases hj : j < (c0 :: r).length
    · have e3 := ix_str (w := pre ++ c0 :: r) (n := pre.length + j) (c := (c0 :: r)[j]) (by rw [List.getElem?_append_right (by omega), Nat.add_sub_cancel_left, List.getElem?_eq_getElem hj]) (by omega)
      refine ⟨runc (c0 :: r)[j], S', ?_, fun hf => ?_, fun ht => ?_⟩
      · simp only [ev, evE, sVal_ok, h, sc_at, sc_text, cast_add, len_mk (w := pre ++ c0 :: r) (by omega), e2, decide_eq_true hj, e3, is_run_sign_ok]
      · have : ¬ j < (runOf (c0 :: r)).length := fun q => by obtain ⟨_, q2⟩ := hi.mp q; rw [q2] at hf; cases hf
        have : j = (runOf (c0 :: r)).length := by omega
        rw [this]
      · have : j < (runOf (c0 :: r)).length := hi.mpr ⟨hj, ht⟩
        rw [sq_cons, augN2, an_nx, seqL_nil]
        exact ⟨m - 1, by omega, j + 1, rfl, rfl, this, by omega⟩
    · refine ⟨false, S', ?_, fun _ => ?_, fun z => by cases z⟩
      · simp only [ev, evE, sVal_ok, h, sc_at, sc_text, cast_add, len_mk (w := pre ++ c0 :: r) (by omega), e2, decide_eq_false hj]
      · have : j = (runOf (c0 :: r)).length := by omega
        rw [this]
  rw [e1, an_nx]
  have hw : ∀ c ∈ tokW (c0 :: r), c < 1114112 := fun c hc => hx c (List.mem_append_right _ (List.mem_of_mem_take hc))
  have hk : PyData.strOk (mkS (tokW (c0 :: r))) = true := strOk_mk hw
  have hwl := tokW_length (c0 := c0) (r := r)
  have hwle := tokLen_le (c0 := c0) (r := r)
  have hne : tokW (c0 :: r) ≠ [] := fun q => by rw [q] at hwl; have := tokLen_pos (rest := c0 :: r); simp at hwl; omega
  have e4 : kB (fits (mkS (pre ++ c0 :: r)).length) (D.str (cutS (mkS (pre ++ c0 :: r)) (some (pre.length : Int)) (some ((pre.length + max 1 (runOf (c0 :: r)).length : Nat) : Int)))) = some (.str (mkS (tokW (c0 :: r)))) := by
    rw [fitS1 (by omega), cut_lh (by rw [List.length_append]; omega), List.drop_left, Nat.add_sub_cancel_left]
    rfl
  have e5 : sAsg (sIf (tst (s2 (f2 (dCmpD .Gt)) (sVar 2) (sVal (.int 0)))) (sFnL (R A (k + 2)) ("kind_of" : Str) [(sVar 3)]) (sIf (tst (s2 (f2 (dCmpD .In)) (sVar 3) (sVal (.kup [.str ("{" : Str), .str ("}" : Str), .str ("," : Str), .str (";" : Str), .str (":" : Str)])))) (sVal (.str ("sign" : Str))) (sVal (.non)))) (setI 4) [some (.cell n), some (.dat (.tup [.int l, .int c])), some (.dat (.int (runOf (c0 :: r)).length)), some (.dat (.str (mkS (tokW (c0 :: r))))), none] S
      = .nx [some (.cell n), some (.dat (.tup [.int l, .int c])), some (.dat (.int (runOf (c0 :: r)).length)), some (.dat (.str (mkS (tokW (c0 :: r))))), some (.dat (kD (tokK (c0 :: r))))] S := by
    have e2 : decide ((0 : Int) < ((runOf (c0 :: r)).length : Int)) = decide (0 < (runOf (c0 :: r)).length) := decide_eq_decide.mpr (by omega)
    have e6 := kind_of_ok (A := A) (k := k) (S := S) hw hne (by omega)
    unfold tokK
    by_cases h1 : 0 < (runOf (c0 :: r)).length
    · rw [if_pos h1]
      simp only [ev, evE, sVal_ok, e2, decide_eq_true h1, e6]
    · rw [if_neg h1]
      by_cases h2 : mkS (tokW (c0 :: r)) ∈ signsL
      · rw [if_pos h2]
        simp only [ev, evE, sVal_ok, e2, decide_eq_false h1, in_signsK hk, decide_eq_true h2]
        rfl
      · rw [if_neg h2]
        simp only [ev, evE, sVal_ok, e2, decide_eq_false h1, in_signsK hk, decide_eq_false h2]
        rfl
  have e6 : sAsg (sSl (sFld (gm A) ("text" : Str) (sVar 0)) (some (sFld (gm A) ("at" : Str) (sVar 0))) (some (s2 (f2 (dBin .Add)) (sFld (gm A) ("at" : Str) (sVar 0)) (sBi .max [(sVal (.int 1)), (sVar 2)])))) (setI 3) [some (.cell n), some (.dat (.tup [.int l, .int c])), some (.dat (.int (runOf (c0 :: r)).length)), none, none] S
      = .nx [some (.cell n), some (.dat (.tup [.int l, .int c])), some (.dat (.int (runOf (c0 :: r)).length)), some (.dat (.str (mkS (tokW (c0 :: r))))), none] S := by
    simp only [ev, evE, sVal_ok, h, sc_at, sc_text, max1, cast_add, e4]
  rw [sq_cons, e6, an_nx, sq_cons, e5, an_nx]
  cases ht : tokK (c0 :: r) with
  | none =>
    simp only [ev, evE, sVal_ok, kD, evIs, h, sc_line, sc_column, raise_mis, endF_ex, take_all]
  | some kd =>
    have sk := skip_ok (A := A) (k := k + 1) (m := tokLen (c0 :: r)) h
    simp only [ev, evE, sVal_ok, kD, evIs, len_mk (w := tokW (c0 :: r)) (by omega), hwl, h, m_skip, sk, evF, endF_rt, take_set]
    rfl
def endTok (l c : Int) : D := .tup [.str ("end" : Str), .str ("" : Str), .tup [.int l, .int c]]
/-- what tokens answers -/
def tokR (R0 : (Int × Int) ⊕ (List D × Int × Int)) (S : Store) : Res W := match R0 with
  | .inl (l, c) => .ex ("Misread" : Str) [.int c, .int l] S
  | .inr (acc, l, c) => .ok (.dat (.tup (acc ++ [endTok l c]))) S
theorem init_ok : R A (k + 1) ("Scanner.__init__" : Str) [.cell S.length, .dat (.str (mkS xs))] (S ++ [.ins "Scanner" []]) = .ok (.dat .non) (S ++ [scn xs 0 1 1]) := by
  rw [run_Scanner___init__ rfl]
  unfold b_Scanner___init__
  have g0 : ∀ x : Cell, (S ++ [x])[S.length]? = some x := fun x => app_get0 (L := [x]) (i := 0) rfl
  have s0 : ∀ x y : Cell, (S ++ [x]).set S.length y = S ++ [y] := fun x y => app_set0 (L := [x]) (i := 0)
  simp only [ev, evE, sVal_ok, g_fldk, g0, s0, si_text, si_at, si_line, si_column, endF_nx]
  rw [List.take_of_length_le (by simp)]
  rfl
theorem tokens_ok (hx : ∀ c ∈ xs, c < 1114112) (hl : xs.length < 100000) : R A (k + 4) ("tokens" : Str) [.dat (.str (mkS xs))] S = tokR (scan xs.length xs 1 1 []) S := by
  rw [run_tokens rfl]
  unfold b_tokens
  have hN := new_ok (T := R A (k + 3)) (q := ("Scanner.__init__" : Str)) (c := ("Scanner" : Str)) (ws := [.dat (.str (mkS xs))]) (S := S) (vs := [.str (mkS xs), .int 0, .int 1, .int 1]) (init_ok (k := k + 2)) rfl
  have e0 : sIte (tst (sNot (sBi .isi [(sVar 0), (sVal (.bty "str"))]))) (seqL [(sRaise (gm A) ("Misread" : Str) (evl [(sVal (.int 0)), (sVal (.int 0))]))]) (seqL []) [some (.dat (.str (mkS xs))), none, none] S = .nx [some (.dat (.str (mkS xs))), none, none] S := by
    simp only [ev, sVal_ok, isi_strS, Bool.not_true]
  have e1 : sTT (evl [(sNewN (R A (k + 3)) ("Scanner" : Str) ("Scanner.__init__" : Str) 4 true [(sVar 0)]), (sLst true [])]) (setIs [1, 2]) [some (.dat (.str (mkS xs))), none, none] S = .nx [some (.dat (.str (mkS xs))), some (.cell S.length), some (.cell (S.length + 1))] (S ++ [scn xs 0 1 1, .lst []]) := by
    simp only [ev, evE, e_new, hN, e_klstB (ds := []) fits_0]
    have hN' : callMkN (R A (k + 3)) ("Scanner" : Str) ("Scanner.__init__" : Str) 4 true [.dat (.str (mkS xs))] S = .ok (.cell S.length) (S ++ [scn xs 0 1 1]) := hN
    simp only [hN', ev, evE, e_klstB (ds := []) fits_0, List.length_append, List.length_cons, List.length_nil, List.append_assoc]
    rfl
  rw [sq_cons, e0, an_nx, sq_cons, e1, an_nx]
  have key : (match scan xs.length xs 1 1 [] with
      | .inl (l, c) => ∃ ρ L, sWhile (tst (sNot (sMeth (gm A) (R A (k + 3)) ("is_over" : Str) (sVar 1) (evl [])))) (seqL [(sIte (tst (sNot (sMeth (gm A) (R A (k + 3)) ("pass_gap" : Str) (sVar 1) (evl [])))) (seqL [(sExpr (sMeth (gm A) (R A (k + 3)) ("append" : Str) (sVar 2) (evl [(sMeth (gm A) (R A (k + 3)) ("token" : Str) (sVar 1) (evl []))])))]) (seqL []))]) [some (.dat (.str (mkS xs))), some (.cell S.length), some (.cell (S.length + 1))] (S ++ [scn xs 0 1 1, .lst []]) = .ex ("Misread" : Str) [.int c, .int l] ρ (S ++ L)
      | .inr (acc, l, c) => sWhile (tst (sNot (sMeth (gm A) (R A (k + 3)) ("is_over" : Str) (sVar 1) (evl [])))) (seqL [(sIte (tst (sNot (sMeth (gm A) (R A (k + 3)) ("pass_gap" : Str) (sVar 1) (evl [])))) (seqL [(sExpr (sMeth (gm A) (R A (k + 3)) ("append" : Str) (sVar 2) (evl [(sMeth (gm A) (R A (k + 3)) ("token" : Str) (sVar 1) (evl []))])))]) (seqL []))]) [some (.dat (.str (mkS xs))), some (.cell S.length), some (.cell (S.length + 1))] (S ++ [scn xs 0 1 1, .lst []]) = .nx [some (.dat (.str (mkS xs))), some (.cell S.length), some (.cell (S.length + 1))] (S ++ [scn xs xs.length l c, .lst acc]) ∧ acc.length ≤ xs.length) := by
    refine wh_ind (m := xs.length) (I := fun m ρ S' => ∃ (pre rest : List Nat) (l c : Int) (acc : List D) (f : Nat), xs = pre ++ rest ∧ ρ = [some (.dat (.str (mkS xs))), some (.cell S.length), some (.cell (S.length + 1))] ∧ S' = S ++ [scn xs pre.length l c, .lst acc] ∧ m = rest.length ∧ rest.length ≤ f ∧ scan f rest l c acc = scan xs.length xs 1 1 [] ∧ acc.length ≤ pre.length)
      (P := fun x => match scan xs.length xs 1 1 [] with
        | .inl (l, c) => ∃ ρ L, x = .ex ("Misread" : Str) [.int c, .int l] ρ (S ++ L)
        | .inr (acc, l, c) => x = .nx [some (.dat (.str (mkS xs))), some (.cell S.length), some (.cell (S.length + 1))] (S ++ [scn xs xs.length l c, .lst acc]) ∧ acc.length ≤ xs.length) ⟨[], xs, 1, 1, [], xs.length, rfl, rfl, rfl, rfl, Nat.le_refl _, rfl, Nat.le_refl _⟩ (by omega) ?_
    rintro m ρ S' ⟨pre, rest, l, c, acc, f, hxs, rfl, rfl, rfl, hf, hs, ha⟩
    have ho := over_ok (A := A) (k := k + 2) (n := S.length) (S := S ++ [scn xs pre.length l c, .lst acc]) (xs := xs) (a := pre.length) (l := l) (c := c) fr2_get0 (by omega)
    have hlen : xs.length = pre.length + rest.length := by rw [hxs, List.length_append]
    refine ⟨!decide (pre.length = xs.length), S ++ [scn xs pre.length l c, .lst acc], ?_, fun hb => ?_, fun hb => ?_⟩
    · simp only [ev, fr2_get0, evE, m_over, ho]
    · have hb : pre.length = xs.length := by simpa using hb
      have hr : rest = [] := List.length_eq_zero_iff.mp (by omega)
      subst hr
      have : scan f [] l c acc = .inr (acc, l, c) := by cases f <;> rfl
      rw [this] at hs
      rw [← hs]
      simp only [hb]
      exact ⟨trivial, by omega⟩
    · have hb : pre.length ≠ xs.length := by simpa using hb
      cases rest with
      | nil => simp at hlen; omega
      | cons c0 r =>
        obtain ⟨f, rfl⟩ : ∃ f', f = f' + 1 := ⟨f - 1, by simp at hf; omega⟩
        have hc0 : c0 < 1114112 := hx c0 (by rw [hxs]; simp)
        have hg := gap_ok (A := A) (k := k + 1) (n := S.length) (S := S ++ [scn xs pre.length l c, .lst acc]) (pre := pre) (r := r) (c0 := c0) (l := l) (c := c) (by rw [← hxs]; exact fr2_get0) hc0 (by rw [← hxs]; omega)
        rw [scan_s] at hs
        cases hgt : gapTo (c0 :: r) l c with
        | some q =>
          obtain ⟨m, l', c'⟩ := q
          rw [hgt] at hg hs
          simp only at hg hs
          rw [fr2_set0, ← hxs] at hg
          obtain ⟨m1, m2⟩ := gapTo_pos hgt
          simp only [ev, evE, fr2_get0, m_gap, hg, Bool.not_true, EC.Turn]
          refine ⟨((c0 :: r).drop m).length, by rw [List.length_drop]; omega, pre ++ (c0 :: r).take m, (c0 :: r).drop m, l', c', acc, f, by rw [List.append_assoc, List.take_append_drop]; exact hxs, trivial, ?_, rfl, by rw [List.length_drop]; omega, hs, by rw [List.length_append]; omega⟩
          rw [List.length_append, List.length_take, Nat.min_eq_left m2]
        | none =>
          rw [hgt] at hg hs
          simp only at hg hs
          have ht := token_ok (A := A) (k := k) (n := S.length) (S := S ++ [scn xs pre.length l c, .lst acc]) (pre := pre) (r := r) (c0 := c0) (l := l) (c := c) (by rw [← hxs]; exact fr2_get0) (by rw [← hxs]; exact hx) (by rw [← hxs]; omega)
          cases htk : tokK (c0 :: r) with
          | none =>
            rw [htk] at ht hs
            simp only at ht hs
            simp only [ev, evE, fr2_get0, fr2_get1, m_gap, hg, Bool.not_false, m_token, ht, EC.Turn]
            rw [← hs]
            exact ⟨_, _, rfl⟩
          | some kd =>
            rw [htk] at ht hs
            simp only at ht hs
            rw [fr2_set0, ← hxs] at ht
            have m1 := tokLen_pos (rest := c0 :: r)
            have m2 := tokLen_le (c0 := c0) (r := r)
            have hap := dMt_app (S := S ++ [scn xs (pre.length + tokLen (c0 :: r)) l (c + tokLen (c0 :: r)), .lst acc]) (m := S.length + 1) (ds := acc) (d := tok kd (tokW (c0 :: r)) l c) fr2_get1 (by rw [sizeLine_eq]; omega)
            rw [fr2_set1] at hap
            simp only [ev, evE, fr2_get0, fr2_get1, m_gap, hg, Bool.not_false, m_token, ht, hap, EC.Turn]
            refine ⟨((c0 :: r).drop (tokLen (c0 :: r))).length, by rw [List.length_drop]; omega, pre ++ (c0 :: r).take (tokLen (c0 :: r)), (c0 :: r).drop (tokLen (c0 :: r)), l, c + tokLen (c0 :: r), acc ++ [tok kd (tokW (c0 :: r)) l c], f, by rw [List.append_assoc, List.take_append_drop]; exact hxs, trivial, ?_, rfl, by rw [List.length_drop]; omega, hs, by rw [List.length_append, List.length_append, List.length_take, Nat.min_eq_left m2]; simp; omega⟩
            rw [List.length_append, List.length_take, Nat.min_eq_left m2]
  unfold tokR
  cases hR : scan xs.length xs 1 1 [] with
  | inl q =>
    obtain ⟨l, c⟩ := q
    rw [hR] at key
    obtain ⟨ρ, L, e⟩ := key
    rw [sq_cons, e]
    simp only [ev, endF_ex, take_app]
  | inr q =>
    obtain ⟨acc, l, c⟩ := q
    rw [hR] at key
    obtain ⟨e, ha⟩ := key
    rw [sq_cons, e, an_nx]
    have hap := dMt_app (S := S ++ [scn xs xs.length l c, .lst acc]) (m := S.length + 1) (ds := acc) (d := endTok l c) fr2_get1 (by rw [sizeLine_eq]; omega)
    rw [fr2_set1] at hap
    have hap' : dMt .append (.cell (S.length + 1)) [.dat (.tup [.str ("end" : Str), .str ("" : Str), .tup [.int l, .int c]])] (S ++ [scn xs xs.length l c, .lst acc]) = .ok (.dat .non) (S ++ [scn xs xs.length l c, .lst (acc ++ [endTok l c])]) := hap
    simp only [ev, evE, sVal_ok, fr2_get0, fr2_get1, sc_line, sc_column, evF, hap', endF_rt, take_app]
end
end K02
namespace K02
open PySem PySem.Spec PyProof.Rows L2 EC
theorem signs_mk : signsL = [mkS [123], mkS [125], mkS [44], mkS [59], mkS [58]] := by decide +kernel
theorem run_no_sign {w : List Nat} (h : w.all runc = true) (hw : w ≠ []) : mkS w ∉ signsL := fun hm => by
  rw [signs_mk] at hm
  simp only [List.mem_cons, List.not_mem_nil, or_false] at hm
  have : w = [123] ∨ w = [125] ∨ w = [44] ∨ w = [59] ∨ w = [58] := by
    rcases hm with q | q | q | q | q <;> have := mkS_inj q <;> simp [this]
  rcases this with q | q | q | q | q <;> subst q <;> revert h <;> decide
section
variable {A : Nat → Addr} {k n : Nat} {S : Store} {l c : Int} {xs pre rest r : List Nat} {c0 : Nat} {x6 x7 x8 x9 x10 x11 : Option W}
abbrev RUN : Str := "abcdefghijklmnopqrstuvwxyz0123456789"
abbrev envD (xs : List Nat) (n : Nat) (l c : Int) (a : Nat) (x6 x7 x8 x9 x10 x11 : Option W) : Env0' := [some (.dat (.str (mkS xs))), some (.cell n), some (.dat (.int l)), some (.dat (.int c)), some (.dat (.int a)), some (.dat (.str RUN)), x6, x7, x8, x9, x10, x11]
theorem spnl_list : (" \n" : Str).cps.toList = [32, 10] := by decide +kernel
theorem in_spnl {c0 : Nat} : dCmpD .In (.str (mkS [c0])) (.str (" \n" : Str)) = some (.bl (decide (c0 = 32 ∨ c0 = 10))) := by
  rw [o_in1, spnl_list]
  congr 2
  exact decide_eq_decide.mpr (by simp)
theorem cast_one {a : Nat} : (a : Int) + 1 = ((a + 1 : Nat) : Int) := rfl
theorem e_ktt5 {ρ : Env0'} {i1 i2 i3 i4 i5 : Nat} {w1 w2 w3 w4 w5 : W} : kTT (setIs [i1, i2, i3, i4, i5]) ρ [w1, w2, w3, w4, w5] S = .nx (((((ρ.set i1 (some w1)).set i2 (some w2)).set i3 (some w3)).set i4 (some w4)).set i5 (some w5)) S := rfl
def stD1 : Ss := sIte (tst (s2 (f2 (dCmpD .GtE)) (sVar 4) (sBi .len [(sVar 0)]))) (seqL [sBrk]) (seqL [])
def stD2 : Ss := sAsg (s2 (f2 dIx) (sVar 0) (sVar 4)) (setI 7)
def stD3 (G : Gam) (T : FnT) : Ss := sIte (tst (s2 (f2 (dCmpD .Eq)) (sVar 7) (sVal (.str ("#" : Str))))) (seqL [(sAsg (sBi .len [(s2 (f2 dIx) (sMeth G T ("split" : Str) (sSl (sVar 0) (some (sVar 4)) none) (evl [(sVal (.str ("\n" : Str)))])) (sVal (.int 0)))]) (setI 8)), (sTT (evl [(s2 (f2 (dBin .Add)) (sVar 4) (sVar 8)), (s2 (f2 (dBin .Add)) (sVar 3) (sVar 8))]) (setIs [4, 3])), sCnt]) (seqL [])
def stD4 : Ss := sIte (tst (s2 (f2 (dCmpD .In)) (sVar 7) (sVal (.str (" \n" : Str))))) (seqL [(sAsg (sIf (tst (s2 (f2 (dCmpD .Eq)) (sVar 7) (sVal (.str ("\n" : Str))))) (sTup [(s2 (f2 (dBin .Add)) (sVar 2) (sVal (.int 1))), (sVal (.int 1))]) (sTup [(sVar 2), (s2 (f2 (dBin .Add)) (sVar 3) (sVal (.int 1)))])) (setTI [2, 3])), (sAsg (s2 (f2 (dBin .Add)) (sVar 4) (sVal (.int 1))) (setI 4)), sCnt]) (seqL [])
def stD5 : Ss := sAsg (sVal (.int 1)) (setI 8)
def stD6 : Ss := sIte (tst (s2 (f2 (dCmpD .In)) (sVar 7) (sVar 5))) (seqL [(sFor (sRng1 (evl [(sBi .len [(sVar 0)])])) (setI 9) (seqL [(sIte (tst (sAnd (s2 (f2 (dCmpD .Lt)) (s2 (f2 (dBin .Add)) (sVar 4) (sVar 8)) (sBi .len [(sVar 0)])) (s2 (f2 (dCmpD .In)) (s2 (f2 dIx) (sVar 0) (s2 (f2 (dBin .Add)) (sVar 4) (sVar 8))) (sVar 5)))) (seqL [(sAsg (s2 (f2 (dBin .Add)) (sVar 8) (sVal (.int 1))) (setI 8))]) (seqL []))]))]) (seqL [])
def stD7 : Ss := sAsg (sSl (sVar 0) (some (sVar 4)) (some (s2 (f2 (dBin .Add)) (sVar 4) (sVar 8)))) (setI 10)
def stD8 (T : FnT) : Ss := sAsg (sIf (tst (s2 (f2 (dCmpD .In)) (sVar 10) (sLst false [(sVal (.str ("{" : Str))), (sVal (.str ("}" : Str))), (sVal (.str ("," : Str))), (sVal (.str (";" : Str))), (sVal (.str (":" : Str)))]))) (sVal (.str ("sign" : Str))) (sIf (tst (s2 (f2 (dCmpD .In)) (sVar 7) (sVar 5))) (sFnL T ("_law_kind_of_word" : Str) [(sVar 10)]) (sVal (.non)))) (setI 11)
def stD9 : Ss := sIte (tst (s2 (f2 (dCmpD .Is)) (sVar 11) (sVal (.non)))) (seqL [(sRet (sTup [(sLst false [(sVal (.str ("read" : Str))), (sVar 2), (sVar 3)]), (sVal (.non))]))]) (seqL [])
def stD10 (G : Gam) (T : FnT) : Ss := sExpr (sMeth G T ("append" : Str) (sVar 1) (evl [(sTup [(sVar 11), (sVar 10), (sTup [(sVar 2), (sVar 3)])])]))
def stD11 : Ss := sTT (evl [(s2 (f2 (dBin .Add)) (sVar 4) (sVar 8)), (s2 (f2 (dBin .Add)) (sVar 3) (sVar 8))]) (setIs [4, 3])
def bodyD (G : Gam) (T : FnT) : Ss := seqL [stD1, stD2, stD3 G T, stD4, stD5, stD6, stD7, stD8 T, stD9, stD10 G T, stD11]
theorem d6_ok (h0 : runc c0 = true) (hl : (pre ++ c0 :: r).length < 100000) : ∃ x9', stD6 (envD (pre ++ c0 :: r) n l c pre.length x6 (some (.dat (.str (mkS [c0])))) (some (.dat (.int 1))) x9 x10 x11) S = .nx (envD (pre ++ c0 :: r) n l c pre.length x6 (some (.dat (.str (mkS [c0])))) (some (.dat (.int (runOf (c0 :: r)).length))) x9' x10 x11) S := by
  have hrun : (runOf (c0 :: r)).length ≤ (c0 :: r).length := tw_le _ _
  have hr1 : 1 ≤ (runOf (c0 :: r)).length := by unfold runOf; rw [List.takeWhile_cons, h0]; simp
  have hlr : (pre ++ c0 :: r).length = pre.length + (c0 :: r).length := List.length_append
  have key : ∃ x9', sFor (sRng1 (evl [(sBi .len [(sVar 0)])])) (setI 9) (seqL [(sIte (tst (sAnd (s2 (f2 (dCmpD .Lt)) (s2 (f2 (dBin .Add)) (sVar 4) (sVar 8)) (sBi .len [(sVar 0)])) (s2 (f2 (dCmpD .In)) (s2 (f2 dIx) (sVar 0) (s2 (f2 (dBin .Add)) (sVar 4) (sVar 8))) (sVar 5)))) (seqL [(sAsg (s2 (f2 (dBin .Add)) (sVar 8) (sVal (.int 1))) (setI 8))]) (seqL []))]) (envD (pre ++ c0 :: r) n l c pre.length x6 (some (.dat (.str (mkS [c0])))) (some (.dat (.int 1))) x9 x10 x11) S = .nx (envD (pre ++ c0 :: r) n l c pre.length x6 (some (.dat (.str (mkS [c0])))) (some (.dat (.int (runOf (c0 :: r)).length))) x9' x10 x11) S := by
    refine for_ind (ds := rngD 0 (pre ++ c0 :: r).length) (S1 := S) (I := fun j ρ S' => ∃ (m : Nat) (x9' : Option W), ρ = envD (pre ++ c0 :: r) n l c pre.length x6 (some (.dat (.str (mkS [c0])))) (some (.dat (.int m))) x9' x10 x11 ∧ S' = S ∧ 1 ≤ m ∧ m ≤ (runOf (c0 :: r)).length ∧ (m = (runOf (c0 :: r)).length ∨ m = 1 + j))
      (P := fun x => ∃ x9', x = .nx (envD (pre ++ c0 :: r) n l c pre.length x6 (some (.dat (.str (mkS [c0])))) (some (.dat (.int (runOf (c0 :: r)).length))) x9' x10 x11) S) (sRng1_ok (j := (pre ++ c0 :: r).length) ?_ (by omega)) ⟨1, x9, rfl, rfl, Nat.le_refl _, hr1, .inr rfl⟩ ?_ ?_
    · simp only [ev, len_mk (w := pre ++ c0 :: r) (by omega)]
    · rintro ρ S' ⟨m, x9', rfl, rfl, h1, h2, h3⟩
      rw [rngD_length] at h3
      have : m = (runOf (c0 :: r)).length := by omega
      subst this
      exact ⟨x9', rfl⟩
    · rintro j hj ρ S' ⟨m, x9', rfl, rfl, h1, h2, h3⟩
      refine ⟨_, rfl, ?_⟩
      have hi := tw_iff runc (c0 :: r) m h2
      have e2 : decide (((pre.length + m : Nat) : Int) < ((pre ++ c0 :: r).length : Int)) = decide (m < (c0 :: r).length) := decide_eq_decide.mpr (by rw [hlr]; omega)
      by_cases hm : m < (c0 :: r).length
      · have e3 := ix_str (w := pre ++ c0 :: r) (n := pre.length + m) (c := (c0 :: r)[m]) (by rw [List.getElem?_append_right (by omega), Nat.add_sub_cancel_left, List.getElem?_eq_getElem hm]) (by omega)
        cases hr : runc (c0 :: r)[m] with
        | true =>
          have : m < (runOf (c0 :: r)).length := hi.mpr ⟨hm, hr⟩
          simp only [ev, evE, sVal_ok, cast_add, len_mk (w := pre ++ c0 :: r) (by omega), e2, decide_eq_true hm, e3, o_in1, memRUN, hr, EC.Turn]
          exact ⟨m + 1, _, rfl, trivial, by omega, this, by omega⟩
        | false =>
          have : ¬ m < (runOf (c0 :: r)).length := fun q => by obtain ⟨_, q2⟩ := hi.mp q; rw [q2] at hr; cases hr
          simp only [ev, evE, sVal_ok, cast_add, len_mk (w := pre ++ c0 :: r) (by omega), e2, decide_eq_true hm, e3, o_in1, memRUN, hr, EC.Turn]
          exact ⟨m, _, rfl, trivial, h1, h2, .inl (by omega)⟩
      · simp only [ev, evE, sVal_ok, cast_add, len_mk (w := pre ++ c0 :: r) (by omega), e2, decide_eq_false hm, EC.Turn]
        exact ⟨m, _, rfl, trivial, h1, h2, .inl (by omega)⟩
  obtain ⟨x9', e⟩ := key
  refine ⟨x9', ?_⟩
  unfold stD6
  rw [e_ite]
  have et : tst (s2 (f2 (dCmpD .In)) (sVar 7) (sVar 5)) (envD (pre ++ c0 :: r) n l c pre.length x6 (some (.dat (.str (mkS [c0])))) (some (.dat (.int 1))) x9 x10 x11) S = .ok true S := by
    simp only [ev, o_in1, memRUN, h0]
  rw [et, toS_ok, e_kite1, sq_cons, e, an_nx, seqL_nil]
/-- a turn -/
theorem turn_ok {acc : List D} (h : S[n]? = some (.lst acc)) (hx : ∀ c ∈ pre ++ c0 :: r, c < 1114112) (hl : (pre ++ c0 :: r).length < 100000) (ha : acc.length < 100000) :
    match gapTo (c0 :: r) l c with
    | some (m, l', c') => ∃ y7 y8, bodyD (gm A) (R A (k + 3)) (envD (pre ++ c0 :: r) n l c pre.length x6 x7 x8 x9 x10 x11) S = .ct (envD (pre ++ c0 :: r) n l' c' (pre.length + m) x6 y7 y8 x9 x10 x11) S
    | none => match tokK (c0 :: r) with
      | some kd => ∃ y7 y8 y9 y10 y11, bodyD (gm A) (R A (k + 3)) (envD (pre ++ c0 :: r) n l c pre.length x6 x7 x8 x9 x10 x11) S = .nx (envD (pre ++ c0 :: r) n l (c + tokLen (c0 :: r)) (pre.length + tokLen (c0 :: r)) x6 y7 y8 y9 y10 y11) (S.set n (.lst (acc ++ [tok kd (tokW (c0 :: r)) l c])))
      | none => bodyD (gm A) (R A (k + 3)) (envD (pre ++ c0 :: r) n l c pre.length x6 x7 x8 x9 x10 x11) S = .rt (.dat (.tup [.lst [.str ("read" : Str), .int l, .int c], .non])) S := by
  have hlr : (pre ++ c0 :: r).length = pre.length + (c0 :: r).length := List.length_append
  have hc : c0 < 1114112 := hx c0 (by simp)
  have q1 := eq_nl hc
  have q3 := eq_hash hc
  have d1 : ∀ {x7 x8 x9 x10 x11}, stD1 (envD (pre ++ c0 :: r) n l c pre.length x6 x7 x8 x9 x10 x11) S = .nx (envD (pre ++ c0 :: r) n l c pre.length x6 x7 x8 x9 x10 x11) S := fun {x7 x8 x9 x10 x11} => by
    unfold stD1
    have : decide (((pre ++ c0 :: r).length : Int) ≤ (pre.length : Int)) = false := decide_eq_false (by rw [hlr]; simp only [List.length_cons]; omega)
    simp only [ev, len_mk (w := pre ++ c0 :: r) (by omega), this]
  have d2 : stD2 (envD (pre ++ c0 :: r) n l c pre.length x6 x7 x8 x9 x10 x11) S = .nx (envD (pre ++ c0 :: r) n l c pre.length x6 (some (.dat (.str (mkS [c0])))) x8 x9 x10 x11) S := by
    unfold stD2
    simp only [ev, evE, at_ix (show (pre ++ c0 :: r).length < 1000000 by omega)]
  unfold bodyD
  rw [sq_cons, d1, an_nx, sq_cons, d2, an_nx]
  show match (if c0 = 10 then some (1, l + 1, 1) else if c0 = 32 then some (1, l, c + 1) else if c0 = 35 then some (gapLen (c0 :: r), l, c + gapLen (c0 :: r)) else none : Option (Nat × Int × Int)) with
    | some (m, l', c') => _
    | none => _
  by_cases h3 : c0 = 35
  · rw [if_neg (by omega), if_neg (by omega), if_pos h3]
    have lr : gapLen (c0 :: r) ≤ (c0 :: r).length := gapLen_le _
    have hs : dMt .split (.dat (.str (mkS (c0 :: r)))) [.dat (.str ("\n" : Str))] S = .ok (.dat (.lst ((Txt.split (mkS (c0 :: r)) ("\n" : Str)).map .str))) S := dMt_split rfl (by rw [nl_eq]; rfl) (by rw [mkS_length, sizeLine_eq]; omega)
    have ef : fits (piece0 (c0 :: r)).length = true := fits_of (by have : (piece0 (c0 :: r)).length = gapLen (c0 :: r) := rfl; omega)
    have el : (((piece0 (c0 :: r)).length : Nat) : Int) = ((gapLen (c0 :: r) : Nat) : Int) := rfl
    refine ⟨some (.dat (.str (mkS [c0]))), some (.dat (.int (gapLen (c0 :: r)))), ?_⟩
    rw [sq_cons]
    unfold stD3
    simp only [ev, evE, sVal_ok, q3, decide_eq_true h3, at_cut (show (pre ++ c0 :: r).length < 1000000 by omega), hs, piece0_ix, ef, el, cast_add, sCnt]
  · have d3 : stD3 (gm A) (R A (k + 3)) (envD (pre ++ c0 :: r) n l c pre.length x6 (some (.dat (.str (mkS [c0])))) x8 x9 x10 x11) S = .nx (envD (pre ++ c0 :: r) n l c pre.length x6 (some (.dat (.str (mkS [c0])))) x8 x9 x10 x11) S := by
      unfold stD3
      simp only [ev, sVal_ok, q3, decide_eq_false h3]
    rw [sq_cons, d3, an_nx, sq_cons]
    by_cases h1 : c0 = 10
    · rw [if_pos h1]
      refine ⟨some (.dat (.str (mkS [c0]))), x8, ?_⟩
      have e1 : decide (c0 = 32 ∨ c0 = 10) = true := decide_eq_true (.inr h1)
      unfold stD4
      simp only [ev, evE, evF, sVal_ok, in_spnl, e1, q1, decide_eq_true h1, setIs, List.map_cons, List.map_nil, cast_one, sCnt]
    · rw [if_neg h1]
      by_cases h2 : c0 = 32
      · rw [if_pos h2]
        refine ⟨some (.dat (.str (mkS [c0]))), x8, ?_⟩
        have e1 : decide (c0 = 32 ∨ c0 = 10) = true := decide_eq_true (.inl h2)
        unfold stD4
        simp only [ev, evE, evF, sVal_ok, in_spnl, e1, q1, decide_eq_false h1, setIs, List.map_cons, List.map_nil, cast_one, sCnt]
      · rw [if_neg h2, if_neg h3]
        have e1 : decide (c0 = 32 ∨ c0 = 10) = false := decide_eq_false (by omega)
        have d4 : stD4 (envD (pre ++ c0 :: r) n l c pre.length x6 (some (.dat (.str (mkS [c0])))) x8 x9 x10 x11) S = .nx (envD (pre ++ c0 :: r) n l c pre.length x6 (some (.dat (.str (mkS [c0])))) x8 x9 x10 x11) S := by
          unfold stD4
          simp only [ev, sVal_ok, in_spnl, e1]
        have d5 : stD5 (envD (pre ++ c0 :: r) n l c pre.length x6 (some (.dat (.str (mkS [c0])))) x8 x9 x10 x11) S = .nx (envD (pre ++ c0 :: r) n l c pre.length x6 (some (.dat (.str (mkS [c0])))) (some (.dat (.int 1))) x9 x10 x11) S := by
          unfold stD5
          simp only [ev, evE, sVal_ok]
        rw [d4, an_nx, sq_cons, d5, an_nx, sq_cons]
        have d6 : ∃ y9, stD6 (envD (pre ++ c0 :: r) n l c pre.length x6 (some (.dat (.str (mkS [c0])))) (some (.dat (.int 1))) x9 x10 x11) S = .nx (envD (pre ++ c0 :: r) n l c pre.length x6 (some (.dat (.str (mkS [c0])))) (some (.dat (.int (tokLen (c0 :: r))))) y9 x10 x11) S := by
          cases hr : runc c0 with
          | true =>
            have : tokLen (c0 :: r) = (runOf (c0 :: r)).length := by
              unfold tokLen
              exact Nat.max_eq_right (by unfold runOf; rw [List.takeWhile_cons, hr]; simp)
            rw [this]
            exact d6_ok hr hl
          | false =>
            have : tokLen (c0 :: r) = 1 := by unfold tokLen runOf; rw [List.takeWhile_cons, hr]; rfl
            rw [this]
            refine ⟨x9, ?_⟩
            unfold stD6
            simp only [ev, o_in1, memRUN, hr]
            rfl
        obtain ⟨y9, d6⟩ := d6
        have hx' : ∀ c ∈ tokW (c0 :: r), c < 1114112 := fun c hc => hx c (List.mem_append_right _ (List.mem_of_mem_take hc))
        have hk : PyData.strOk (mkS (tokW (c0 :: r))) = true := strOk_mk hx'
        have hwl := tokW_length (c0 := c0) (r := r)
        have hwle := tokLen_le (c0 := c0) (r := r)
        have e4 : kB (fits (mkS (pre ++ c0 :: r)).length) (D.str (cutS (mkS (pre ++ c0 :: r)) (some (pre.length : Int)) (some ((pre.length + tokLen (c0 :: r) : Nat) : Int)))) = some (.str (mkS (tokW (c0 :: r)))) := by
          rw [fitS1 (by omega), cut_lh (by rw [List.length_append]; omega), List.drop_left, Nat.add_sub_cancel_left]
          rfl
        have d7 : stD7 (envD (pre ++ c0 :: r) n l c pre.length x6 (some (.dat (.str (mkS [c0])))) (some (.dat (.int (tokLen (c0 :: r))))) y9 x10 x11) S = .nx (envD (pre ++ c0 :: r) n l c pre.length x6 (some (.dat (.str (mkS [c0])))) (some (.dat (.int (tokLen (c0 :: r))))) y9 (some (.dat (.str (mkS (tokW (c0 :: r)))))) x11) S := by
          unfold stD7
          simp only [ev, evE, cast_add, e4]
        have d8 : stD8 (R A (k + 3)) (envD (pre ++ c0 :: r) n l c pre.length x6 (some (.dat (.str (mkS [c0])))) (some (.dat (.int (tokLen (c0 :: r))))) y9 (some (.dat (.str (mkS (tokW (c0 :: r)))))) x11) S = .nx (envD (pre ++ c0 :: r) n l c pre.length x6 (some (.dat (.str (mkS [c0])))) (some (.dat (.int (tokLen (c0 :: r))))) y9 (some (.dat (.str (mkS (tokW (c0 :: r)))))) (some (.dat (kD (tokK (c0 :: r)))))) S := by
          unfold stD8
          cases hr : runc c0 with
          | true =>
            have h0 : 0 < (runOf (c0 :: r)).length := by unfold runOf; rw [List.takeWhile_cons, hr]; simp
            have hw := tokW_run h0
            have hall : (tokW (c0 :: r)).all runc = true := by rw [hw]; exact run_all _
            have hne : tokW (c0 :: r) ≠ [] := by rw [hw]; intro q; rw [q] at h0; cases h0
            have hns := run_no_sign hall hne
            have e6 := law_kind_ok (A := A) (k := k) (S := S) hall hne (by omega)
            have e7 : tokK (c0 :: r) = kind (tokW (c0 :: r)) := by unfold tokK; rw [if_pos h0]
            rw [e7]
            simp only [ev, evE, evF, sVal_ok, in_signsL hk, decide_eq_false hns, o_in1, memRUN, hr, e6]
          | false =>
            have h0 : (runOf (c0 :: r)).length = 0 := by unfold runOf; rw [List.takeWhile_cons, hr]; rfl
            unfold tokK
            rw [if_neg (by omega)]
            by_cases hs : mkS (tokW (c0 :: r)) ∈ signsL
            · rw [if_pos hs]
              simp only [ev, evE, evF, sVal_ok, in_signsL hk, decide_eq_true hs]
              rfl
            · rw [if_neg hs]
              simp only [ev, evE, evF, sVal_ok, in_signsL hk, decide_eq_false hs, o_in1, memRUN, hr]
              rfl
        rw [d6, an_nx, sq_cons, d7, an_nx, sq_cons, d8, an_nx, sq_cons]
        simp only
        cases ht : tokK (c0 :: r) with
        | none =>
          unfold stD9
          simp only [ev, evE, evF, evIs, sVal_ok, kD]
        | some kd =>
          have hap := dMt_app (S := S) (m := n) (ds := acc) (d := .tup [.str kd, .str (mkS (tokW (c0 :: r))), .tup [.int l, .int c]]) h (by rw [sizeLine_eq]; omega)
          refine ⟨some (.dat (.str (mkS [c0]))), some (.dat (.int (tokLen (c0 :: r)))), y9, some (.dat (.str (mkS (tokW (c0 :: r))))), some (.dat (.str kd)), ?_⟩
          unfold stD9 stD10 stD11
          simp only [ev, evE, evF, evIs, sVal_ok, kD, h, hap, cast_add]
          rfl
/-- what _law_due answers -/
def dueR (R0 : (Int × Int) ⊕ (List D × Int × Int)) (S : Store) : Res W := match R0 with
  | .inl (l, c) => .ok (.dat (.tup [.lst [.str ("read" : Str), .int l, .int c], .non])) S
  | .inr (acc, l, c) => .ok (.dat (.tup [.non, .tup (acc ++ [endTok l c])])) S
theorem due_ok (hx : ∀ c ∈ xs, c < 1114112) (hl : xs.length < 100000) : R A (k + 4) ("_law_due" : Str) [.dat (.str (mkS xs))] S = dueR (scan xs.length xs 1 1 []) S := by
  rw [run__law_due rfl]
  have hb : b__law_due (gm A) (R A (k + 3)) = seqL [sTT (evl [(sLst true []), (sVal (.int 1)), (sVal (.int 1)), (sVal (.int 0)), (sVal (.str RUN))]) (setIs [1, 2, 3, 4, 5]), sFor (sRng1 (evl [(s2 (f2 (dBin .Add)) (sBi .len [(sVar 0)]) (sVal (.int 1)))])) (setI 6) (bodyD (gm A) (R A (k + 3))), sRet (sTup [(sVal (.non)), (sBi .tuple [(s2 (f2 (dBin .Add)) (sVar 1) (sLst false [(sTup [(sVal (.str ("end" : Str))), (sVal (.str ("" : Str))), (sTup [(sVar 2), (sVar 3)])])]))])])] := rfl
  rw [hb]
  have e0 : sTT (evl [(sLst true []), (sVal (.int 1)), (sVal (.int 1)), (sVal (.int 0)), (sVal (.str RUN))]) (setIs [1, 2, 3, 4, 5]) [some (.dat (.str (mkS xs))), none, none, none, none, none, none, none, none, none, none, none] S = .nx (envD xs S.length 1 1 0 none none none none none none) (S ++ [.lst []]) := by
    simp only [ev, evE, sVal_ok, e_klstB (ds := []) fits_0, e_ktt5]
    rfl
  rw [sq_cons, e0, an_nx, sq_cons]
  have key : (match scan xs.length xs 1 1 [] with
      | .inl (l, c) => ∃ L, sFor (sRng1 (evl [(s2 (f2 (dBin .Add)) (sBi .len [(sVar 0)]) (sVal (.int 1)))])) (setI 6) (bodyD (gm A) (R A (k + 3))) (envD xs S.length 1 1 0 none none none none none none) (S ++ [.lst []]) = .rt (.dat (.tup [.lst [.str ("read" : Str), .int l, .int c], .non])) (S ++ L)
      | .inr (acc, l, c) => ∃ a y6 y7 y8 y9 y10 y11, sFor (sRng1 (evl [(s2 (f2 (dBin .Add)) (sBi .len [(sVar 0)]) (sVal (.int 1)))])) (setI 6) (bodyD (gm A) (R A (k + 3))) (envD xs S.length 1 1 0 none none none none none none) (S ++ [.lst []]) = .nx (envD xs S.length l c a y6 y7 y8 y9 y10 y11) (S ++ [.lst acc]) ∧ acc.length ≤ xs.length) := by
    refine for_ind (ds := rngD 0 (xs.length + 1)) (S1 := S ++ [.lst []]) (I := fun j ρ S' => ∃ (pre rest : List Nat) (l c : Int) (acc : List D) (f : Nat) (y6 y7 y8 y9 y10 y11 : Option W), xs = pre ++ rest ∧ ρ = envD xs S.length l c pre.length y6 y7 y8 y9 y10 y11 ∧ S' = S ++ [.lst acc] ∧ rest.length + j ≤ xs.length ∧ rest.length ≤ f ∧ scan f rest l c acc = scan xs.length xs 1 1 [] ∧ acc.length ≤ pre.length)
      (P := fun x => match scan xs.length xs 1 1 [] with
        | .inl (l, c) => ∃ L, x = .rt (.dat (.tup [.lst [.str ("read" : Str), .int l, .int c], .non])) (S ++ L)
        | .inr (acc, l, c) => ∃ a y6 y7 y8 y9 y10 y11, x = .nx (envD xs S.length l c a y6 y7 y8 y9 y10 y11) (S ++ [.lst acc]) ∧ acc.length ≤ xs.length)
      (sRng1_ok (j := xs.length + 1) ?_ (by omega)) ⟨[], xs, 1, 1, [], xs.length, none, none, none, none, none, none, rfl, rfl, rfl, by omega, Nat.le_refl _, rfl, Nat.le_refl _⟩ ?_ ?_
    · simp only [ev, sVal_ok, len_mk (w := xs) (by omega), cast_one]
    · rintro ρ S' ⟨pre, rest, l, c, acc, f, y6, y7, y8, y9, y10, y11, hxs, rfl, rfl, h1, h2, hs, ha⟩
      rw [rngD_length] at h1
      omega
    · rintro j hj ρ S' ⟨pre, rest, l, c, acc, f, y6, y7, y8, y9, y10, y11, hxs, rfl, rfl, h1, h2, hs, ha⟩
      have hlen : xs.length = pre.length + rest.length := by rw [hxs, List.length_append]
      refine ⟨_, rfl, ?_⟩
      cases rest with
      | nil =>
        have hb : bodyD (gm A) (R A (k + 3)) (envD xs S.length l c pre.length (some (.dat (rngD 0 (xs.length + 1))[j])) y7 y8 y9 y10 y11) (S ++ [.lst acc]) = .bk (envD xs S.length l c pre.length (some (.dat (rngD 0 (xs.length + 1))[j])) y7 y8 y9 y10 y11) (S ++ [.lst acc]) := by
          have : decide ((xs.length : Int) ≤ (pre.length : Int)) = true := decide_eq_true (by simp at hlen; omega)
          unfold bodyD
          rw [sq_cons]
          unfold stD1
          simp only [ev, len_mk (w := xs) (by omega), this, sBrk]
        have hb' : bodyD (gm A) (R A (k + 3)) ((envD xs S.length l c pre.length y6 y7 y8 y9 y10 y11).set 6 (some (.dat (rngD 0 (xs.length + 1))[j]))) (S ++ [.lst acc]) = _ := hb
        rw [hb']
        have : scan f [] l c acc = .inr (acc, l, c) := by cases f <;> rfl
        rw [this] at hs
        show match scan xs.length xs 1 1 [] with
          | .inl (l, c) => _
          | .inr (acc, l, c) => _
        rw [← hs]
        exact ⟨_, _, _, _, _, _, _, rfl, by omega⟩
      | cons c0 r =>
        obtain ⟨f, rfl⟩ : ∃ f', f = f' + 1 := ⟨f - 1, by simp at h2; omega⟩
        have tk := turn_ok (A := A) (k := k) (n := S.length) (S := S ++ [.lst acc]) (pre := pre) (r := r) (c0 := c0) (l := l) (c := c) (acc := acc) (x6 := some (.dat (rngD 0 (xs.length + 1))[j])) (x7 := y7) (x8 := y8) (x9 := y9) (x10 := y10) (x11 := y11) fr1_get (by rw [← hxs]; exact hx) (by rw [← hxs]; exact hl) (by omega)
        rw [scan_s] at hs
        rw [← hxs] at tk
        have henv : (envD xs S.length l c pre.length y6 y7 y8 y9 y10 y11).set 6 (some (.dat (rngD 0 (xs.length + 1))[j])) = envD xs S.length l c pre.length (some (.dat (rngD 0 (xs.length + 1))[j])) y7 y8 y9 y10 y11 := rfl
        rw [henv]
        cases hgt : gapTo (c0 :: r) l c with
        | some q =>
          obtain ⟨m, l', c'⟩ := q
          rw [hgt] at tk hs
          simp only at tk hs
          obtain ⟨m1, m2⟩ := gapTo_pos hgt
          obtain ⟨z7, z8, e⟩ := tk
          rw [e]
          refine ⟨pre ++ (c0 :: r).take m, (c0 :: r).drop m, l', c', acc, f, some (.dat (rngD 0 (xs.length + 1))[j]), z7, z8, y9, y10, y11, by rw [List.append_assoc, List.take_append_drop]; exact hxs, ?_, rfl, by rw [List.length_drop]; simp only [List.length_cons] at *; omega, by rw [List.length_drop]; simp only [List.length_cons] at *; omega, hs, by rw [List.length_append]; omega⟩
          rw [List.length_append, List.length_take, Nat.min_eq_left m2]
        | none =>
          rw [hgt] at tk hs
          simp only at tk hs
          cases htk : tokK (c0 :: r) with
          | none =>
            rw [htk] at tk hs
            simp only at tk hs
            rw [tk]
            show match scan xs.length xs 1 1 [] with
              | .inl (l, c) => _
              | .inr (acc, l, c) => _
            rw [← hs]
            exact ⟨_, rfl⟩
          | some kd =>
            rw [htk] at tk hs
            simp only at tk hs
            have m1 := tokLen_pos (rest := c0 :: r)
            have m2 := tokLen_le (c0 := c0) (r := r)
            obtain ⟨z7, z8, z9, z10, z11, e⟩ := tk
            rw [e, fr1_set]
            refine ⟨pre ++ (c0 :: r).take (tokLen (c0 :: r)), (c0 :: r).drop (tokLen (c0 :: r)), l, c + tokLen (c0 :: r), acc ++ [tok kd (tokW (c0 :: r)) l c], f, some (.dat (rngD 0 (xs.length + 1))[j]), z7, z8, z9, z10, z11, by rw [List.append_assoc, List.take_append_drop]; exact hxs, ?_, rfl, by rw [List.length_drop]; simp only [List.length_cons] at *; omega, by rw [List.length_drop]; simp only [List.length_cons] at *; omega, hs, by rw [List.length_append, List.length_append, List.length_take, Nat.min_eq_left m2]; simp; omega⟩
            rw [List.length_append, List.length_take, Nat.min_eq_left m2]
  unfold dueR
  cases hR : scan xs.length xs 1 1 [] with
  | inl q =>
    obtain ⟨l, c⟩ := q
    rw [hR] at key
    obtain ⟨L, e⟩ := key
    rw [e]
    simp only [ev, endF_rt, take_app]
  | inr q =>
    obtain ⟨acc, l, c⟩ := q
    rw [hR] at key
    obtain ⟨a, y6, y7, y8, y9, y10, y11, e, ha⟩ := key
    rw [e, an_nx]
    have hf : fits (acc.length + ([D.tup [.str ("end" : Str), .str ("" : Str), .tup [.int l, .int c]]] : List D).length) = true := fits_of (by simp; omega)
    have hadd : dBin .Add (.lst acc) (.lst [.tup [.str ("end" : Str), .str ("" : Str), .tup [.int l, .int c]]]) = some (.lst (acc ++ [endTok l c])) := by
      show (if fits (acc.length + _) then some (D.lst (acc ++ _)) else none) = _
      rw [if_pos hf]
      rfl
    simp only [ev, evE, evF, sVal_ok, fr1_get, hadd, endF_rt, take_app]
end
end K02
namespace K02
open PySem PySem.Spec PyProof.Rows L2 EC
section
variable {A : Nat → Addr} {k n : Nat} {S S1 : Store} {l c : Int} {xs : List Nat}
def ciM (A : Nat → Addr) : ClsI := ⟨A 27, [("column" : Str), ("line" : Str)], none, [], false⟩
theorem exs_M : (gm A).exs.lookup ("Misread" : Str) = some (ciM A) := by kernel_rfl
theorem hf_line {a b : D} {ρ : Env0'} : hFld ("line" : Str) (ciM A) [a, b] ρ S = .ok (.dat b) S := by kernel_rfl
theorem hf_col {a b : D} {ρ : Env0'} : hFld ("column" : Str) (ciM A) [a, b] ρ S = .ok (.dat a) S := by kernel_rfl
theorem why_ok {run : Store → Res D} {d : D} (h : run S = .ok d S1) (hl : S1.length = S.length) : R A (k + 1) ("_law_why" : Str) [.lam run] S = .ok (.dat .non) S1 := by
  rw [run__law_why rfl]
  unfold b__law_why
  have e1 : sAsg (sVal (.non)) (setI 1) [some (.lam run), none, none] S = .nx [some (.lam run), some (.dat .non), none] S := rfl
  rw [sq_cons, e1, an_nx, sq_cons]
  simp only [ev, h, ← hl, endF_rt, List.take_length]
theorem why_ex {run : Store → Res D} (h : run S = .ex ("Misread" : Str) [.int c, .int l] S1) (hl : S1.length = S.length) : R A (k + 1) ("_law_why" : Str) [.lam run] S = .ok (.dat (.lst [.str ("read" : Str), .int l, .int c])) S1 := by
  rw [run__law_why rfl]
  unfold b__law_why
  have e1 : sAsg (sVal (.non)) (setI 1) [some (.lam run), none, none] S = .nx [some (.lam run), some (.dat .non), none] S := rfl
  rw [sq_cons, e1, an_nx, sq_cons]
  simp only [ev, h, kTry_ex exs_M, pickL_hit (show 2 < ([some (.lam run), some (.dat .non), none] : Env0').length by simp), evE, evF, sVal_ok, hf_line, hf_col, noEx_nx, unset_nx, ← hl, endF_rt, List.take_length]
theorem loT_R {f : Str} {ws : List W} : loT (R A (k + 1)) f ws S = R A k f ws S := rfl
/-- the tokens found so far can be compared -/
theorem tok_smd {kd : Str} {w : List Nat} (h : PyData.strOk kd = true) (hw : PyData.strOk (mkS w) = true) : Smd 2 (tok kd w l c) :=
  .tup (n := 1) (fun d hd => by
    simp only [List.mem_cons, List.not_mem_nil, or_false] at hd
    rcases hd with rfl | rfl | rfl
    · exact .str h
    · exact .str hw
    · exact .tup (n := 0) (fun d hd => by
        simp only [List.mem_cons, List.not_mem_nil, or_false] at hd
        rcases hd with rfl | rfl <;> exact .int _) (by simp)) (by simp)
theorem tokK_ok {rest : List Nat} {kd : Str} (h : tokK rest = some kd) : PyData.strOk kd = true := by
  unfold tokK at h
  split at h
  · rcases kind_cases (tokW rest) with q | q | q | q <;> rw [q] at h <;> cases h <;> decide +kernel
  · split at h
    · cases h; decide +kernel
    · cases h
theorem scan_smd : ∀ (f : Nat) (rest : List Nat) (l c : Int) (acc : List D), (∀ x ∈ rest, x < 1114112) → (∀ d ∈ acc, Smd 2 d) → ∀ acc' l' c', scan f rest l c acc = .inr (acc', l', c') → (∀ d ∈ acc', Smd 2 d) ∧ acc'.length ≤ acc.length + rest.length
  | f, [], l, c, acc, hx, ha, acc', l', c', h => by
    have : scan f [] l c acc = .inr (acc, l, c) := by cases f <;> rfl
    rw [this] at h; cases h
    exact ⟨ha, by simp⟩
  | 0, _ :: _, l, c, acc, hx, ha, acc', l', c', h => by cases h
  | f + 1, c0 :: r, l, c, acc, hx, ha, acc', l', c', h => by
    rw [scan_s] at h
    cases hg : gapTo (c0 :: r) l c with
    | some q =>
      obtain ⟨m, l2, c2⟩ := q
      rw [hg] at h
      simp only at h
      obtain ⟨h1, h2⟩ := scan_smd f _ l2 c2 acc (fun x hx' => hx x (List.mem_of_mem_drop hx')) ha acc' l' c' h
      refine ⟨h1, Nat.le_trans h2 ?_⟩
      rw [List.length_drop]; omega
    | none =>
      rw [hg] at h
      simp only at h
      cases ht : tokK (c0 :: r) with
      | none => rw [ht] at h; cases h
      | some kd =>
        rw [ht] at h
        simp only at h
        have hw : PyData.strOk (mkS (tokW (c0 :: r))) = true := strOk_mk fun x hx' => hx x (List.mem_of_mem_take hx')
        obtain ⟨h1, h2⟩ := scan_smd f _ l _ (acc ++ [tok kd (tokW (c0 :: r)) l c]) (fun x hx' => hx x (List.mem_of_mem_drop hx')) (fun d hd => by
          rcases List.mem_append.mp hd with z | z
          · exact ha d z
          · simp at z; subst z; exact tok_smd (tokK_ok ht) hw) acc' l' c' h
        refine ⟨h1, Nat.le_trans h2 ?_⟩
        have := tokLen_pos (rest := c0 :: r)
        rw [List.length_append, List.length_drop]
        simp only [List.length_cons, List.length_nil]
        omega
theorem same_ok (n k : Nat) (d : D) (S : Store) (h : Smd n d) (hk : n < k) : R A k ("_law_same" : Str) [.dat d, .dat d] S = .ok (.dat (.bl true)) S :=
  same_of (G := gm A) (R := R A) (fun k w0 w1 S h => run__law_same h) n k d S h hk
theorem told_ok (hx : ∀ c ∈ xs, c < 1114112) (hl : xs.length < 100000) : R A (k + 7) ("_law_is_told" : Str) [.dat (.str (mkS xs))] S = .ok (.dat (.bl true)) S := by
  rw [run__law_is_told rfl]
  unfold b__law_is_told
  have hd := due_ok (A := A) (k := k + 2) (S := S ++ [.lst []]) hx hl
  have ht := tokens_ok (A := A) (k := k + 1) (S := S ++ [.lst []]) hx hl
  cases hR : scan xs.length xs 1 1 [] with
  | inl q =>
    obtain ⟨l, c⟩ := q
    rw [hR] at hd ht
    unfold dueR at hd
    unfold tokR at ht
    simp only at hd ht
    have e0 : sTT (evl [(sLst true []), (sFnL (R A (k + 6)) ("_law_due" : Str) [(sVar 0)])]) (setIs [1, 2]) [some (.dat (.str (mkS xs))), none, none] S = .nx [some (.dat (.str (mkS xs))), some (.cell S.length), some (.dat (.tup [.lst [.str ("read" : Str), .int l, .int c], .non]))] (S ++ [.lst []]) := by
      simp only [ev, evE, e_klstB (ds := []) fits_0, hd]
    rw [sq_cons, e0, an_nx]
    have hrun : (fun S' => (sMeth (gm A) (loT (R A (k + 6))) ("append" : Str) (sVar 1) (evl [(sFnL (loT (R A (k + 6))) ("tokens" : Str) [(sVar 0)])]) [some (.dat (.str (mkS xs))), some (.cell S.length), some (.dat (.tup [.lst [.str ("read" : Str), .int l, .int c], .non]))] S').bind toD) (S ++ [.lst []]) = .ex ("Misread" : Str) [.int c, .int l] (S ++ [.lst []]) := by
      simp only [ev, evE, fr1_get, loT_R, ht]
    have hw := why_ex (A := A) (k := k + 5) (S := S ++ [.lst []]) (run := (fun S' => (sMeth (gm A) (loT (R A (k + 6))) ("append" : Str) (sVar 1) (evl [(sFnL (loT (R A (k + 6))) ("tokens" : Str) [(sVar 0)])]) [some (.dat (.str (mkS xs))), some (.cell S.length), some (.dat (.tup [.lst [.str ("read" : Str), .int l, .int c], .non]))] S').bind toD)) hrun rfl
    have e5 : sLamN (R A (k + 6)) ("_law_why" : Str) (sMeth (gm A) (loT (R A (k + 6))) ("append" : Str) (sVar 1) (evl [(sFnL (loT (R A (k + 6))) ("tokens" : Str) [(sVar 0)])])) [some (.dat (.str (mkS xs))), some (.cell S.length), some (.dat (.tup [.lst [.str ("read" : Str), .int l, .int c], .non]))] (S ++ [.lst []]) = .ok (.dat (.lst [.str ("read" : Str), .int l, .int c])) (S ++ [.lst []]) := by
      rw [e_lamN, hw, Res.bind_ok, noL_dat]
    have e9 : atI [D.lst [.str ("read" : Str), .int l, .int c], .non] 0 = some (.lst [.str ("read" : Str), .int l, .int c]) := rfl
    have sh : Sh 64 (.lst [.str ("read" : Str), .int l, .int c]) := (sh_lst (n := 0) (shL_cons (sh_str (by decide +kernel)) (shL_cons sh_int (shL_cons sh_int shL_nil)))).mono (by omega)
    simp only [ev, evE, e5, sVal_ok, e9, o_ne sh sh, eqD_refl sh, Bool.not_true, evIs, Bool.not_false, endF_rt, take_app]
  | inr q =>
    obtain ⟨acc, l, c⟩ := q
    rw [hR] at hd ht
    unfold dueR at hd
    unfold tokR at ht
    simp only at hd ht
    have e0 : sTT (evl [(sLst true []), (sFnL (R A (k + 6)) ("_law_due" : Str) [(sVar 0)])]) (setIs [1, 2]) [some (.dat (.str (mkS xs))), none, none] S = .nx [some (.dat (.str (mkS xs))), some (.cell S.length), some (.dat (.tup [.non, .tup (acc ++ [endTok l c])]))] (S ++ [.lst []]) := by
      simp only [ev, evE, e_klstB (ds := []) fits_0, hd]
    rw [sq_cons, e0, an_nx]
    have hap := dMt_app (S := S ++ [.lst []]) (m := S.length) (ds := []) (d := .tup (acc ++ [endTok l c])) fr1_get (by rw [sizeLine_eq]; decide)
    rw [fr1_set] at hap
    have hrun : (fun S' => (sMeth (gm A) (loT (R A (k + 6))) ("append" : Str) (sVar 1) (evl [(sFnL (loT (R A (k + 6))) ("tokens" : Str) [(sVar 0)])]) [some (.dat (.str (mkS xs))), some (.cell S.length), some (.dat (.tup [.non, .tup (acc ++ [endTok l c])]))] S').bind toD) (S ++ [.lst []]) = .ok .non (S ++ [.lst [.tup (acc ++ [endTok l c])]]) := by
      simp only [ev, evE, fr1_get, loT_R, ht, hap, toD_dat]
      rfl
    have hw := why_ok (A := A) (k := k + 5) (S := S ++ [.lst []]) (run := (fun S' => (sMeth (gm A) (loT (R A (k + 6))) ("append" : Str) (sVar 1) (evl [(sFnL (loT (R A (k + 6))) ("tokens" : Str) [(sVar 0)])]) [some (.dat (.str (mkS xs))), some (.cell S.length), some (.dat (.tup [.non, .tup (acc ++ [endTok l c])]))] S').bind toD)) hrun (by simp)
    have e5 : sLamN (R A (k + 6)) ("_law_why" : Str) (sMeth (gm A) (loT (R A (k + 6))) ("append" : Str) (sVar 1) (evl [(sFnL (loT (R A (k + 6))) ("tokens" : Str) [(sVar 0)])])) [some (.dat (.str (mkS xs))), some (.cell S.length), some (.dat (.tup [.non, .tup (acc ++ [endTok l c])]))] (S ++ [.lst []]) = .ok (.dat (.non)) (S ++ [.lst [.tup (acc ++ [endTok l c])]]) := by
      rw [e_lamN, hw, Res.bind_ok, noL_dat]
    have e9 : atI [D.non, .tup (acc ++ [endTok l c])] 0 = some .non := rfl
    have e8 : atI [D.non, .tup (acc ++ [endTok l c])] 1 = some (.tup (acc ++ [endTok l c])) := rfl
    have e7 : atI [D.tup (acc ++ [endTok l c])] 0 = some (.tup (acc ++ [endTok l c])) := rfl
    obtain ⟨s1, s2⟩ := scan_smd _ _ _ _ _ hx (by simp) _ _ _ hR
    have sm : Smd 3 (.tup (acc ++ [endTok l c])) := .tup (fun d hd' => by
      rcases List.mem_append.mp hd' with z | z
      · exact s1 d z
      · simp at z; subst z; exact (show Smd 2 (tok ("end" : Str) [] l c) from tok_smd (by decide +kernel) nil_ok)) (by rw [List.length_append]; simp at s2 ⊢; omega)
    have hsm := same_ok (A := A) 3 (k + 6) _ (S ++ [.lst [.tup (acc ++ [endTok l c])]]) sm (by omega)
    have hne : eqD .non .non = true := eqD_refl (sh_non (n := 64))
    simp only [ev, evE, e5, sVal_ok, e9, o_ne (sh_non (n := 64)) (sh_non (n := 64)), hne, Bool.not_true, evIs, Bool.not_false, fr1_get, e8, e7, hsm, endF_rt, take_app]
def Gd (m : Nat) (d : D) : Prop := ∃ w, d = .str (mkS w) ∧ w.length ≤ m ∧ ∀ c ∈ w, c < 1114112
theorem gd_of {m : Nat} {x : Str} (h : x.length ≤ m) (k : PyData.strOk x = true) : Gd m (.str x) := ⟨x.cps.toList, by rw [mkS_of], by rw [Array.length_toList]; exact h, strOk_of k⟩
theorem gd_all {m : Nat} {zs : List Str} (h : (zs.all fun z => decide (z.length ≤ m) && PyData.strOk z) = true) : ∀ d ∈ zs.map D.str, Gd m d := fun d hd => by
  obtain ⟨z, hz, rfl⟩ := List.mem_map.mp hd
  have := List.all_eq_true.mp h z hz
  rw [Bool.and_eq_true, decide_eq_true_eq] at this
  exact gd_of this.1 this.2
theorem gd_named {i : Nat} {z : Str} (h : Named i z) (hi : i < 100) : Gd 14 (.str z) := by
  obtain ⟨w, pl, rfl, h1, h2, h3, h4, h5⟩ := h.ex
  have fg := figs_100 ⟨i, hi⟩
  simp only at fg
  refine ⟨_, rfl, ?_, fun c hc => ?_⟩
  · rw [List.length_append, List.length_append, List.length_take, List.length_drop]; omega
  · rcases List.mem_append.mp hc with z | z
    · rcases List.mem_append.mp z with z | z
      · have := h1 c (List.mem_of_mem_take z); omega
      · have := fg.2.2 c z; omega
    · have := h1 c (List.mem_of_mem_drop z); omega
theorem draws (k : Nat) : Draws (R A (k + 1)) := draws_of (G := gm A) (R := R A) (fun k w0 w1 S h => run__law_draw h) k
theorem picks (k : Nat) : Picks (R A (k + 2)) := picks_of (G := gm A) (R := R A) (fun k w0 w1 S h => run__law_pick h) (k + 1) (draws k)
theorem shuffles (k : Nat) : Shuffles (R A (k + 2)) := shuffles_of (G := gm A) (R := R A) (fun k w0 w1 S h => run__law_shuffled h) (k + 1) (draws k)
theorem names1 (k : Nat) : Names1 (R A (k + 2)) := names1_of (G := gm A) (R := R A) (fun k w0 w1 S h => run__law_name h) (k + 1) (draws k)
theorem namesN (k : Nat) : NamesN (R A (k + 3)) := namesN_of (G := gm A) (R := R A) (fun k w0 w1 S h => run__law_names h) (k + 2) (names1 k) (shuffles k)
theorem names3 {p : PenS} {c : Nat} (hp : PenOk p (c + 33)) : ∃ (es : List D) (p' : PenS), R A (k + 3) ("_law_names" : Str) [.cell 0, .dat (.int 3)] [p.cell] = .ok (.dat (.lst es)) [p'.cell] ∧ es.length = 3 ∧ (∀ d ∈ es, Gd 14 d) ∧ PenOk p' c := by
  obtain ⟨zs, es, p', e1, e2, e3, e4, e5⟩ := namesN (A := A) k [p.cell] 0 p c 3 rfl hp (by decide)
  refine ⟨es, p', e1, by rw [e4.length_eq, List.length_map, e2], fun d hd => ?_, e5⟩
  obtain ⟨z, hz, rfl⟩ := List.mem_map.mp (e4.mem_iff.mp hd)
  obtain ⟨i, hi, rfl⟩ := List.getElem_of_mem hz
  exact gd_named (e3 i hi) (by omega)
theorem pick0 {p : PenS} {c : Nat} {ds : List D} (hp : PenOk p (c + 1)) (h : ds ≠ []) (hl : ds.length < 1073741824) : ∃ d p', R A (k + 2) ("_law_pick" : Str) [.cell 0, .dat (.lst ds)] [p.cell] = .ok (.dat d) [p'.cell] ∧ d ∈ ds ∧ PenOk p' c := by
  obtain ⟨d, p', e1, e2, e3⟩ := picks (A := A) k [p.cell] 0 p c ds rfl hp h hl
  exact ⟨d, p', e1, e2, e3⟩
theorem draw0 {p : PenS} {c : Nat} {m : Int} (hp : PenOk p (c + 1)) (h : 0 < m) (hl : m < 1073741824) : ∃ (r : Int) (p' : PenS), R A (k + 1) ("_law_draw" : Str) [.cell 0, .dat (.int m)] [p.cell] = .ok (.dat (.int r)) [p'.cell] ∧ 0 ≤ r ∧ r < m ∧ PenOk p' c := by
  obtain ⟨r, p', e1, e2⟩ := draws (A := A) k [p.cell] 0 p c m rfl hp h hl
  exact ⟨r, p', e1, e2⟩
end
end K02
namespace K02
open PySem PySem.Spec PyProof.Rows L2 EC
def rights : List Str := ["0", "7", "10", "305", "999", "{", "}", ":", ";", ",", "abcdefghijkl"]
def wrongs : List Str := ["01", "00", "1000", "1a", "abcdefghijklm", "deeddeeddeed1", "A", "_", "a.b", ".", "[", "\t", "*", "a_"]
def seps : List Str := [" ", " ", "\n", "", "  ", " # x } 01\n", "#\n", "\n\n"]
def ends : List Str := ["#", "# end", " ", "\n", "\n ", "# a\n#b"]
def texts : List Str := ["", " ", "\n", "#", "a#b\nc", "{};,:", "a:1", "site2", "2site", "to", "tox", "by", "bye"]
section
variable {A : Nat → Addr} {k n : Nat} {S S1 : Store} {l c : Int} {xs : List Nat} {x2 x3 x4 x5 x6 x7 x8 x9 x10 : Option W} {ns : List Int} {p : PenS}
theorem told_gd {m : Nat} {d : D} (h : Gd m d) (hm : m < 100000) (k : Nat) (S : Store) : R A (k + 7) ("_law_is_told" : Str) [.dat d] S = .ok (.dat (.bl true)) S := by
  obtain ⟨w, rfl, h1, h2⟩ := h
  exact told_ok h2 (by omega)
theorem keys_gd : ∀ d ∈ keysL.map D.str, Gd 14 d := gd_all (by decide +kernel)
theorem rights_gd : ∀ d ∈ rights.map D.str, Gd 14 d := gd_all (by decide +kernel)
theorem wrongs_gd : ∀ d ∈ wrongs.map D.str, Gd 14 d := gd_all (by decide +kernel)
theorem seps_gd : ∀ d ∈ seps.map D.str, Gd 10 d := gd_all (by decide +kernel)
theorem ends_gd : ∀ d ∈ ends.map D.str, Gd 10 d := gd_all (by decide +kernel)
theorem texts_gd : ∀ d ∈ texts.map D.str, Gd 14 d := gd_all (by decide +kernel)
def sW : Ss := seqL [(sAsg (sIf (tst (s2 (f2 (dCmpD .Gt)) (sFnL (R A 40) ("_law_draw" : Str) [(sVar 1), (sVal (.int 12))]) (sVal (.int 0)))) (sFnL (R A 40) ("_law_pick" : Str) [(sVar 1), (sVar 4)]) (sFnL (R A 40) ("_law_pick" : Str) [(sVar 1), (sVar 5)])) (setI 8)), (sAsg (s2 (f2 (dBin .Add)) (s2 (f2 (dBin .Add)) (sVar 6) (sVar 8)) (sFnL (R A 40) ("_law_pick" : Str) [(sVar 1), (sLst false [(sVal (.str (" " : Str))), (sVal (.str (" " : Str))), (sVal (.str ("\n" : Str))), (sVal (.str ("" : Str))), (sVal (.str ("  " : Str))), (sVal (.str (" # x } 01\n" : Str))), (sVal (.str ("#\n" : Str))), (sVal (.str ("\n\n" : Str)))])])) (setI 6))]
abbrev envL (ns : List Int) (x2 x3 : Option W) (rs ws : List D) (w : List Nat) (x7 x8 x9 x10 : Option W) : Env0' := [some (.dat (.scr ns)), some (.cell 0), x2, x3, some (.dat (.lst rs)), some (.dat (.lst ws)), some (.dat (.str (mkS w))), x7, x8, x9, x10]
theorem seps_pick {q : PenS} {c : Nat} (h : PenOk q (c + 1)) : ∃ s q', R A 40 ("_law_pick" : Str) [.cell 0, .dat (.lst [.str (" " : Str), .str (" " : Str), .str ("\n" : Str), .str ("" : Str), .str ("  " : Str), .str (" # x } 01\n" : Str), .str ("#\n" : Str), .str ("\n\n" : Str)])] [q.cell] = .ok (.dat (.str (mkS s))) [q'.cell] ∧ s.length ≤ 10 ∧ (∀ c ∈ s, c < 1114112) ∧ PenOk q' c := by
  obtain ⟨d, q', e1, e2, e3⟩ := pick0 (A := A) (k := 38) (ds := seps.map .str) h (by decide) (by decide)
  obtain ⟨s, rfl, h1, h2⟩ := seps_gd d e2
  exact ⟨s, q', e1, h1, h2, e3⟩
theorem word_ok {rs ws : List D} {w : List Nat} {q : PenS} {c : Nat} (hr : ∀ d ∈ rs, Gd 14 d) (hr0 : rs ≠ []) (hrl : rs.length < 1000) (hw : ∀ d ∈ ws, Gd 14 d) (hw0 : ws ≠ []) (hwl : ws.length < 1000) (h : PenOk q (c + 3)) (hx : ∀ c ∈ w, c < 1114112) (hl : w.length < 10000) :
    ∃ w' q' x8', sW (A := A) (envL ns x2 x3 rs ws w x7 x8 x9 x10) [q.cell] = .nx (envL ns x2 x3 rs ws w' x7 x8' x9 x10) [q'.cell] ∧ w'.length ≤ w.length + 24 ∧ (∀ c ∈ w', c < 1114112) ∧ PenOk q' c := by
  obtain ⟨r, q1, e1, e2, e3, e4⟩ := draw0 (A := A) (k := 39) (m := 12) h (by decide) (by decide)
  have e1' : R A 40 ("_law_draw" : Str) [.cell 0, .dat (.int 12)] [q.cell] = .ok (.dat (.int r)) [q1.cell] := e1
  have hpick : ∃ v q2, (if (0 : Int) < r then R A 40 ("_law_pick" : Str) [.cell 0, .dat (.lst rs)] [q1.cell] else R A 40 ("_law_pick" : Str) [.cell 0, .dat (.lst ws)] [q1.cell]) = .ok (.dat (.str (mkS v))) [q2.cell] ∧ v.length ≤ 14 ∧ (∀ c ∈ v, c < 1114112) ∧ PenOk q2 (c + 1) := by
    by_cases hz : (0 : Int) < r
    · rw [if_pos hz]
      obtain ⟨d, q2, f1, f2, f3⟩ := pick0 (A := A) (k := 38) (ds := rs) e4 hr0 (by omega)
      obtain ⟨v, rfl, g1, g2⟩ := hr d f2
      exact ⟨v, q2, f1, g1, g2, f3⟩
    · rw [if_neg hz]
      obtain ⟨d, q2, f1, f2, f3⟩ := pick0 (A := A) (k := 38) (ds := ws) e4 hw0 (by omega)
      obtain ⟨v, rfl, g1, g2⟩ := hw d f2
      exact ⟨v, q2, f1, g1, g2, f3⟩
  obtain ⟨v, q2, f1, f2, f3, f4⟩ := hpick
  obtain ⟨s, q3, g1, g2, g3, g4⟩ := seps_pick (A := A) f4
  have a1 : dBin .Add (.str (mkS w)) (.str (mkS v)) = some (.str (mkS (w ++ v))) := addS (by omega)
  have a2 : dBin .Add (.str (mkS (w ++ v))) (.str (mkS s)) = some (.str (mkS (w ++ v ++ s))) := addS (by rw [List.length_append]; omega)
  refine ⟨w ++ v ++ s, q3, some (.dat (.str (mkS v))), ?_, by rw [List.length_append, List.length_append]; omega, fun x hx' => ?_, g4⟩
  · unfold sW
    by_cases hz : (0 : Int) < r
    · rw [if_pos hz] at f1
      simp only [ev, evE, evF, sVal_ok, e1', decide_eq_true hz, f1, g1]
      have a1' : kB (fits ((mkS w).length + (mkS v).length)) (D.str (mkS w ++ mkS v)) = some (.str (mkS (w ++ v))) := a1
      have a2' : kB (fits ((mkS (w ++ v)).length + (mkS s).length)) (D.str (mkS (w ++ v) ++ mkS s)) = some (.str (mkS (w ++ v ++ s))) := a2
      simp only [a1', ev, evE, evF, sVal_ok, g1, a2']
    · rw [if_neg hz] at f1
      simp only [ev, evE, evF, sVal_ok, e1', decide_eq_false hz, f1, g1]
      have a1' : kB (fits ((mkS w).length + (mkS v).length)) (D.str (mkS w ++ mkS v)) = some (.str (mkS (w ++ v))) := a1
      have a2' : kB (fits ((mkS (w ++ v)).length + (mkS s).length)) (D.str (mkS (w ++ v) ++ mkS s)) = some (.str (mkS (w ++ v ++ s))) := a2
      simp only [a1', ev, evE, evF, sVal_ok, g1, a2']
  · rcases List.mem_append.mp hx' with z | z
    · rcases List.mem_append.mp z with z | z
      · exact hx x z
      · exact f3 x z
    · exact g3 x z
def sLap1 : Ss := sAsg (sFnL (R A 40) ("_law_names" : Str) [(sVar 1), (sVal (.int 3))]) (setI 3)
def sLap2 : Ss := sAsg (s2 (f2 (dBin .Add)) (s2 (f2 (dBin .Add)) (sVar 3) (sFnL (R A 40) ("_law_keys" : Str) [])) (sLst false [(sVal (.str ("0" : Str))), (sVal (.str ("7" : Str))), (sVal (.str ("10" : Str))), (sVal (.str ("305" : Str))), (sVal (.str ("999" : Str))), (sVal (.str ("{" : Str))), (sVal (.str ("}" : Str))), (sVal (.str (":" : Str))), (sVal (.str (";" : Str))), (sVal (.str ("," : Str))), (sVal (.str ("abcdefghijkl" : Str)))])) (setI 4)
def sLap3 : Ss := sAsg (sLst false [(sVal (.str ("01" : Str))), (sVal (.str ("00" : Str))), (sVal (.str ("1000" : Str))), (sVal (.str ("1a" : Str))), (sVal (.str ("abcdefghijklm" : Str))), (sVal (.str ("deeddeeddeed1" : Str))), (sVal (.str ("A" : Str))), (sVal (.str ("_" : Str))), (sVal (.str ("a.b" : Str))), (sVal (.str ("." : Str))), (sVal (.str ("[" : Str))), (sVal (.str ("\t" : Str))), (sVal (.str ("*" : Str))), (sVal (.str ("a_" : Str)))]) (setI 5)
def sLap4 : Ss := sAsg (sVal (.str ("" : Str))) (setI 6)
def sLap5 : Ss := sFor (sRng1 (evl [(sFnL (R A 40) ("_law_draw" : Str) [(sVar 1), (sVal (.int 25))])])) (setI 7) (sW (A := A))
def sLap6 : Ss := sIte (tst (sOr (sNot (sFnL (R A 40) ("_law_is_told" : Str) [(sVar 6)])) (sNot (sFnL (R A 40) ("_law_is_told" : Str) [(s2 (f2 (dBin .Add)) (sVar 6) (sFnL (R A 40) ("_law_pick" : Str) [(sVar 1), (sLst false [(sVal (.str ("#" : Str))), (sVal (.str ("# end" : Str))), (sVal (.str (" " : Str))), (sVal (.str ("\n" : Str))), (sVal (.str ("\n " : Str))), (sVal (.str ("# a\n#b" : Str)))])]))])))) (seqL [(sRet (sVal (.bl false)))]) (seqL [])
def sLap : Ss := seqL [sLap1 (A := A), sLap2 (A := A), sLap3, sLap4, sLap5 (A := A), sLap6 (A := A)]
theorem lap_ok {q : PenS} {c : Nat} (h : PenOk q (c + 200)) : ∃ q' y3 y4 y5 y6 y7 y8, sLap (A := A) [some (.dat (.scr ns)), some (.cell 0), x2, x3, x4, x5, x6, x7, x8, x9, x10] [q.cell] = .nx [some (.dat (.scr ns)), some (.cell 0), x2, y3, y4, y5, y6, y7, y8, x9, x10] [q'.cell] ∧ PenOk q' c := by
  obtain ⟨es, q1, e1, e2, e3, e4⟩ := names3 (A := A) (k := 37) (p := q) (c := c + 100) (h.less (by omega))
  have e1' : R A 40 ("_law_names" : Str) [.cell 0, .dat (.int 3)] [q.cell] = .ok (.dat (.lst es)) [q1.cell] := e1
  have ek : ∀ S, R A 40 ("_law_keys" : Str) [] S = .ok (.dat (.lst (keysL.map .str))) S := fun S => law_keys_ok (k := 39)
  have l1 : sLap1 (A := A) [some (.dat (.scr ns)), some (.cell 0), x2, x3, x4, x5, x6, x7, x8, x9, x10] [q.cell] = .nx [some (.dat (.scr ns)), some (.cell 0), x2, some (.dat (.lst es)), x4, x5, x6, x7, x8, x9, x10] [q1.cell] := by
    unfold sLap1
    simp only [ev, evE, sVal_ok, e1']
  have a1 : dBin .Add (.lst es) (.lst (keysL.map .str)) = some (.lst (es ++ keysL.map .str)) := addL (by rw [e2]; decide)
  have a2 : dBin .Add (.lst (es ++ keysL.map .str)) (.lst [.str ("0" : Str), .str ("7" : Str), .str ("10" : Str), .str ("305" : Str), .str ("999" : Str), .str ("{" : Str), .str ("}" : Str), .str (":" : Str), .str (";" : Str), .str ("," : Str), .str ("abcdefghijkl" : Str)]) = some (.lst (es ++ keysL.map .str ++ rights.map .str)) := addL (a := es ++ keysL.map .str) (b := rights.map .str) (by rw [List.length_append, e2]; decide)
  have l2 : sLap2 (A := A) [some (.dat (.scr ns)), some (.cell 0), x2, some (.dat (.lst es)), x4, x5, x6, x7, x8, x9, x10] [q1.cell] = .nx [some (.dat (.scr ns)), some (.cell 0), x2, some (.dat (.lst es)), some (.dat (.lst (es ++ keysL.map .str ++ rights.map .str))), x5, x6, x7, x8, x9, x10] [q1.cell] := by
    unfold sLap2
    simp only [ev, evE, evF, sVal_ok, ek, a1, a2]
  have l3 : sLap3 [some (.dat (.scr ns)), some (.cell 0), x2, some (.dat (.lst es)), some (.dat (.lst (es ++ keysL.map .str ++ rights.map .str))), x5, x6, x7, x8, x9, x10] [q1.cell] = .nx [some (.dat (.scr ns)), some (.cell 0), x2, some (.dat (.lst es)), some (.dat (.lst (es ++ keysL.map .str ++ rights.map .str))), some (.dat (.lst (wrongs.map .str))), x6, x7, x8, x9, x10] [q1.cell] := by
    unfold sLap3
    simp only [ev, evE, evF, sVal_ok]
    rfl
  have l4 : sLap4 [some (.dat (.scr ns)), some (.cell 0), x2, some (.dat (.lst es)), some (.dat (.lst (es ++ keysL.map .str ++ rights.map .str))), some (.dat (.lst (wrongs.map .str))), x6, x7, x8, x9, x10] [q1.cell] = .nx (envL ns x2 (some (.dat (.lst es))) (es ++ keysL.map .str ++ rights.map .str) (wrongs.map .str) [] x7 x8 x9 x10) [q1.cell] := by
    unfold sLap4
    rw [empty_str]
    simp only [ev, evE, evF, sVal_ok]
  obtain ⟨r, q2, f1, f2, f3, f4⟩ := draw0 (A := A) (k := 39) (p := q1) (c := c + 99) (m := 25) e4 (by decide) (by decide)
  obtain ⟨m, rfl⟩ : ∃ m : Nat, r = m := ⟨r.toNat, by omega⟩
  have f1' : R A 40 ("_law_draw" : Str) [.cell 0, .dat (.int 25)] [q1.cell] = .ok (.dat (.int m)) [q2.cell] := f1
  have hrs : ∀ d ∈ es ++ keysL.map .str ++ rights.map .str, Gd 14 d := fun d hd => by
    rcases List.mem_append.mp hd with z | z
    · rcases List.mem_append.mp z with z | z
      · exact e3 d z
      · exact keys_gd d z
    · exact rights_gd d z
  have l5 : ∃ w q3 y7 y8, sLap5 (A := A) (envL ns x2 (some (.dat (.lst es))) (es ++ keysL.map .str ++ rights.map .str) (wrongs.map .str) [] x7 x8 x9 x10) [q1.cell] = .nx (envL ns x2 (some (.dat (.lst es))) (es ++ keysL.map .str ++ rights.map .str) (wrongs.map .str) w y7 y8 x9 x10) [q3.cell] ∧ w.length ≤ 1000 ∧ (∀ c ∈ w, c < 1114112) ∧ PenOk q3 (c + 1) := by
    unfold sLap5
    refine for_ind (ds := rngD 0 m) (S1 := [q2.cell]) (I := fun j ρ S' => ∃ w q3 y7 y8, ρ = envL ns x2 (some (.dat (.lst es))) (es ++ keysL.map .str ++ rights.map .str) (wrongs.map .str) w y7 y8 x9 x10 ∧ S' = [PenS.cell q3] ∧ w.length ≤ 24 * j ∧ (∀ c ∈ w, c < 1114112) ∧ PenOk q3 (c + 1 + 3 * (m - j)))
      (P := fun r => ∃ w q3 y7 y8, r = .nx (envL ns x2 (some (.dat (.lst es))) (es ++ keysL.map .str ++ rights.map .str) (wrongs.map .str) w y7 y8 x9 x10) [PenS.cell q3] ∧ w.length ≤ 1000 ∧ (∀ c ∈ w, c < 1114112) ∧ PenOk q3 (c + 1)) (sRng1_ok (j := m) ?_ (by omega)) ⟨[], q2, x7, x8, rfl, rfl, Nat.zero_le _, by simp, f4.less (by omega)⟩ ?_ ?_
    · simp only [ev, sVal_ok, f1']
    · rintro ρ S' ⟨w, q3, y7, y8, rfl, rfl, g1, g2, g3⟩
      rw [rngD_length] at g1 g3
      exact ⟨w, q3, y7, y8, rfl, by omega, g2, g3.less (by omega)⟩
    · rintro j hj ρ S' ⟨w, q3, y7, y8, rfl, rfl, g1, g2, g3⟩
      rw [rngD_length] at hj
      refine ⟨_, rfl, ?_⟩
      obtain ⟨w', q', y8', k1, k2, k3, k4⟩ := word_ok (A := A) (ns := ns) (x2 := x2) (x3 := some (.dat (.lst es))) (rs := es ++ keysL.map .str ++ rights.map .str) (ws := wrongs.map .str) (w := w) (q := q3) (c := c + 1 + 3 * (m - (j + 1))) (x7 := some (.dat (rngD 0 m)[j])) (x8 := y8) (x9 := x9) (x10 := x10) hrs (by simp [rights]) (by rw [List.length_append, List.length_append, e2]; decide) wrongs_gd (by decide) (by decide) (g3.less (by omega)) g2 (by omega)
      have k1' : sW (A := A) ((envL ns x2 (some (.dat (.lst es))) (es ++ keysL.map .str ++ rights.map .str) (wrongs.map .str) w y7 y8 x9 x10).set 7 (some (.dat (rngD 0 m)[j]))) [q3.cell] = _ := k1
      rw [k1']
      exact ⟨w', q', _, y8', rfl, rfl, by omega, k3, k4⟩
  obtain ⟨w, q3, y7, y8, l5, g1, g2, g3⟩ := l5
  obtain ⟨d, q4, k1, k2, k3⟩ := pick0 (A := A) (k := 38) (ds := ends.map .str) g3 (by decide) (by decide)
  obtain ⟨s, rfl, s1, s2⟩ := ends_gd d k2
  have k1' : R A 40 ("_law_pick" : Str) [.cell 0, .dat (.lst [.str ("#" : Str), .str ("# end" : Str), .str (" " : Str), .str ("\n" : Str), .str ("\n " : Str), .str ("# a\n#b" : Str)])] [q3.cell] = .ok (.dat (.str (mkS s))) [q4.cell] := k1
  have t1 : R A 40 ("_law_is_told" : Str) [.dat (.str (mkS w))] [q3.cell] = .ok (.dat (.bl true)) [q3.cell] := told_ok (k := 33) g2 (by omega)
  have t2 : R A 40 ("_law_is_told" : Str) [.dat (.str (mkS (w ++ s)))] [q4.cell] = .ok (.dat (.bl true)) [q4.cell] := told_ok (k := 33) (fun x hx => by
    rcases List.mem_append.mp hx with z | z
    · exact g2 x z
    · exact s2 x z) (by rw [List.length_append]; omega)
  have a3 : kB (fits ((mkS w).length + (mkS s).length)) (D.str (mkS w ++ mkS s)) = some (.str (mkS (w ++ s))) := addS (a := w) (b := s) (by omega)
  refine ⟨q4, some (.dat (.lst es)), some (.dat (.lst (es ++ keysL.map .str ++ rights.map .str))), some (.dat (.lst (wrongs.map .str))), some (.dat (.str (mkS w))), y7, y8, ?_, k3⟩
  unfold sLap
  rw [sq_cons, l1, an_nx, sq_cons, l2, an_nx, sq_cons, l3, an_nx, sq_cons, l4, an_nx, sq_cons, l5, an_nx]
  unfold sLap6
  simp only [ev, evE, evF, sVal_ok, t1, Bool.not_true, k1', a3, t2]
def Okd (d : D) : Prop := Gd 14 d ∨ dBi .isi [d, .bty "str"] = some (.bl false)
theorem val_ok {d : D} (h : Okd d) : ∃ b, R A 40 ("is_name" : Str) [.dat d] S = .ok (.dat (.bl b)) S ∧ R A 40 ("_law_is_name" : Str) [.dat d] S = .ok (.dat (.bl b)) S := by
  rcases h with ⟨w, rfl, h1, h2⟩ | h
  · refine ⟨nm w, is_name_str (k := 37) h2 (by omega), ?_⟩
    rw [nm_lnm]
    exact law_is_name_str (k := 38) h2 (by omega)
  · exact ⟨false, is_name_odd (k := 39) h, law_is_name_odd (k := 39) h⟩
theorem tokens_odd {d : D} (h : dBi .isi [d, .bty "str"] = some (.bl false)) : R A (k + 1) ("tokens" : Str) [.dat d] S = .ex ("Misread" : Str) [.int 0, .int 0] S := by
  rw [run_tokens rfl]
  unfold b_tokens
  simp only [ev, sVal_ok, h, Bool.not_false, raise_mis, endF_ex, take_all]
theorem mulA (n : Nat) (hn : n = 12 ∨ n = 13) : dBin .Mult (.str ("a" : Str)) (.int n) = some (.str (mkS (List.replicate n 97))) := by
  rcases hn with rfl | rfl <;> kernel_rfl
def odds : List D := [.non, .int 5, .tup [], .lst [.str ("net" : Str)], .bl true, .dct [] []]
theorem odds_odd : ∀ d ∈ odds, dBi .isi [d, .bty "str"] = some (.bl false) := fun d hd => by
  simp only [odds, List.mem_cons, List.not_mem_nil, or_false] at hd
  rcases hd with rfl | rfl | rfl | rfl | rfl | rfl
  · exact isi_nonS
  · exact isi_intS
  · exact isi_tupS
  · exact isi_lstS
  · exact isi_blS
  · exact isi_dctS
def lastL : List D := [.str ("" : Str), .str (mkS (List.replicate 12 97)), .str (mkS (List.replicate 13 97)), .str ("1a" : Str), .str ("a1" : Str), .str ("A" : Str), .str ("a b" : Str), .str ("a\n" : Str), .non, .int 5, .bl true, .tup [], .lst [.str ("a" : Str)], .str ("7" : Str), .str ("-" : Str)]
theorem last_ok : ∀ d ∈ lastL, Okd d := fun d hd => by
  have g : ∀ x : Str, (decide (x.length ≤ 14) && PyData.strOk x) = true → Okd (.str x) := fun x h => by
    rw [Bool.and_eq_true, decide_eq_true_eq] at h
    exact .inl (gd_of h.1 h.2)
  simp only [lastL, List.mem_cons, List.not_mem_nil, or_false] at hd
  rcases hd with rfl | rfl | rfl | rfl | rfl | rfl | rfl | rfl | rfl | rfl | rfl | rfl | rfl | rfl | rfl
  · exact g _ (by decide +kernel)
  · exact g _ (by decide +kernel)
  · exact g _ (by decide +kernel)
  · exact g _ (by decide +kernel)
  · exact g _ (by decide +kernel)
  · exact g _ (by decide +kernel)
  · exact g _ (by decide +kernel)
  · exact g _ (by decide +kernel)
  · exact .inr isi_nonS
  · exact .inr isi_intS
  · exact .inr isi_blS
  · exact .inr isi_tupS
  · exact .inr isi_lstS
  · exact g _ (by decide +kernel)
  · exact g _ (by decide +kernel)
def sE1 : Ss := sAsg (sFnL (R A 40) ("_law_pen" : Str) [(sVar 0)]) (setI 1)
def sE2 : Ss := sFor (sRng1 (evl [(sVal (.int 6))])) (setI 2) (sLap (A := A))
def sE3 : Ss := sFor (sIter (sLst false [(sVal (.str ("" : Str))), (sVal (.str (" " : Str))), (sVal (.str ("\n" : Str))), (sVal (.str ("#" : Str))), (sVal (.str ("a#b\nc" : Str))), (sVal (.str ("{};,:" : Str))), (sVal (.str ("a:1" : Str))), (sVal (.str ("site2" : Str))), (sVal (.str ("2site" : Str))), (sVal (.str ("to" : Str))), (sVal (.str ("tox" : Str))), (sVal (.str ("by" : Str))), (sVal (.str ("bye" : Str)))])) (setI 9) (seqL [(sIte (tst (sNot (sFnL (R A 40) ("_law_is_told" : Str) [(sVar 9)]))) (seqL [(sRet (sVal (.bl false)))]) (seqL []))])
def sE4 : Ss := sAsg (sFnL (R A 40) ("_law_pick" : Str) [(sVar 1), (sLst false [(sVal (.non)), (sVal (.int 5)), (sTup []), (sLst false [(sVal (.str ("net" : Str)))]), (sVal (.bl true)), (sDict0 false)])]) (setI 10)
def sE5 : Ss := sIte (tst (s2 (f2 (dCmpD .NotEq)) (sLamN (R A 40) ("_law_why" : Str) (sFnL (loT (R A 40)) ("tokens" : Str) [(sVar 10)])) (sLst false [(sVal (.str ("read" : Str))), (sVal (.int 0)), (sVal (.int 0))]))) (seqL [(sRet (sVal (.bl false)))]) (seqL [])
def sE6 : Ss := sFor (sIter (s2 (f2 (dBin .Add)) (s2 (f2 (dBin .Add)) (sFnL (R A 40) ("_law_names" : Str) [(sVar 1), (sVal (.int 3))]) (sFnL (R A 40) ("_law_keys" : Str) [])) (sLst false [(sVal (.str ("" : Str))), (s2 (f2 (dBin .Mult)) (sVal (.str ("a" : Str))) (sVal (.int 12))), (s2 (f2 (dBin .Mult)) (sVal (.str ("a" : Str))) (sVal (.int 13))), (sVal (.str ("1a" : Str))), (sVal (.str ("a1" : Str))), (sVal (.str ("A" : Str))), (sVal (.str ("a b" : Str))), (sVal (.str ("a\n" : Str))), (sVal (.non)), (sVal (.int 5)), (sVal (.bl true)), (sTup []), (sLst false [(sVal (.str ("a" : Str)))]), (sVal (.str ("7" : Str))), (sVal (.str ("-" : Str)))]))) (setI 9) (seqL [(sIte (tst (sNot (sFnL (R A 40) ("_law_same" : Str) [(sFnL (R A 40) ("is_name" : Str) [(sVar 9)]), (sFnL (R A 40) ("_law_is_name" : Str) [(sVar 9)])]))) (seqL [(sRet (sVal (.bl false)))]) (seqL []))])
theorem law_ok (hns : ns.length ≤ 63) : ∃ S', R A 41 ("law" : Str) [.dat (.scr ns)] [] = .ok (.dat (.bl true)) S' := by
  have hr : R A 41 ("law" : Str) [.dat (.scr ns)] [] = endF (gm A) false 0 (seqL [sE1 (A := A), sE2 (A := A), sE3 (A := A), sE4 (A := A), sE5 (A := A), sE6 (A := A), sRet (sVal (.bl true))] [some (.dat (.scr ns)), none, none, none, none, none, none, none, none, none, none] []) := run_law (k := 40) rfl
  rw [hr]
  obtain ⟨p, e1, e2⟩ := pen_of (G := gm A) (R := R A) (fun k w0 S h => run__law_pen h) 39 ns (by omega) []
  have e1' : R A 40 ("_law_pen" : Str) [.dat (.scr ns)] [] = .ok (.cell 0) [p.cell] := e1
  have l1 : sE1 (A := A) [some (.dat (.scr ns)), none, none, none, none, none, none, none, none, none, none] [] = .nx [some (.dat (.scr ns)), some (.cell 0), none, none, none, none, none, none, none, none, none] [p.cell] := by
    unfold sE1
    simp only [ev, evE, e1']
  have l2 : ∃ q x2 x3 x4 x5 x6 x7 x8, sE2 (A := A) [some (.dat (.scr ns)), some (.cell 0), none, none, none, none, none, none, none, none, none] [p.cell] = .nx [some (.dat (.scr ns)), some (.cell 0), x2, x3, x4, x5, x6, x7, x8, none, none] [PenS.cell q] ∧ PenOk q 1000 := by
    unfold sE2
    refine for_ind (ds := rngD 0 6) (S1 := [p.cell]) (I := fun j ρ S' => ∃ q x2 x3 x4 x5 x6 x7 x8, ρ = [some (.dat (.scr ns)), some (.cell 0), x2, x3, x4, x5, x6, x7, x8, none, none] ∧ S' = [PenS.cell q] ∧ PenOk q (1000 + 200 * (6 - j)))
      (P := fun r => ∃ q x2 x3 x4 x5 x6 x7 x8, r = .nx [some (.dat (.scr ns)), some (.cell 0), x2, x3, x4, x5, x6, x7, x8, none, none] [PenS.cell q] ∧ PenOk q 1000) (sRng1_ok (j := 6) rfl (by decide)) ⟨p, none, none, none, none, none, none, none, rfl, rfl, e2.less (by decide)⟩ ?_ ?_
    · rintro ρ S' ⟨q, x2, x3, x4, x5, x6, x7, x8, rfl, rfl, g⟩
      exact ⟨q, x2, x3, x4, x5, x6, x7, x8, rfl, g.less (by omega)⟩
    · rintro j hj ρ S' ⟨q, x2, x3, x4, x5, x6, x7, x8, rfl, rfl, g⟩
      rw [rngD_length] at hj
      refine ⟨_, rfl, ?_⟩
      obtain ⟨q', y3, y4, y5, y6, y7, y8, k1, k2⟩ := lap_ok (A := A) (ns := ns) (q := q) (c := 1000 + 200 * (6 - (j + 1))) (x2 := some (.dat (rngD 0 6)[j])) (x3 := x3) (x4 := x4) (x5 := x5) (x6 := x6) (x7 := x7) (x8 := x8) (x9 := none) (x10 := none) (g.less (by omega))
      refine (show EC.Turn _ _ (sLap (A := A) [some (.dat (.scr ns)), some (.cell 0), some (.dat (rngD 0 6)[j]), x3, x4, x5, x6, x7, x8, none, none] [q.cell]) from ?_)
      rw [k1]
      exact ⟨q', _, y3, y4, y5, y6, y7, y8, rfl, rfl, k2⟩
  obtain ⟨q, x2, x3, x4, x5, x6, x7, x8, l2, hq⟩ := l2
  have l3 : ∃ x9, sE3 (A := A) [some (.dat (.scr ns)), some (.cell 0), x2, x3, x4, x5, x6, x7, x8, none, none] [q.cell] = .nx [some (.dat (.scr ns)), some (.cell 0), x2, x3, x4, x5, x6, x7, x8, x9, none] [q.cell] := by
    unfold sE3
    refine for_ind (ds := texts.map .str) (S1 := [q.cell]) (I := fun j ρ S' => ∃ x9, ρ = [some (.dat (.scr ns)), some (.cell 0), x2, x3, x4, x5, x6, x7, x8, x9, none] ∧ S' = [q.cell])
      (P := fun r => ∃ x9, r = .nx [some (.dat (.scr ns)), some (.cell 0), x2, x3, x4, x5, x6, x7, x8, x9, none] [q.cell]) ?_ ⟨none, rfl, rfl⟩ ?_ ?_
    · unfold sIter
      simp only [ev, evF, sVal_ok]
      rfl
    · rintro ρ S' ⟨x9, rfl, rfl⟩
      exact ⟨x9, rfl⟩
    · rintro j hj ρ S' ⟨x9, rfl, rfl⟩
      refine ⟨_, rfl, ?_⟩
      have t1 : R A 40 ("_law_is_told" : Str) [.dat (texts.map D.str)[j]] [q.cell] = .ok (.dat (.bl true)) [q.cell] := told_gd (texts_gd _ (List.getElem_mem hj)) (by decide) 33 _
      simp only [ev, evE, sVal_ok, t1, Bool.not_true, EC.Turn]
      exact ⟨_, rfl, trivial⟩
  obtain ⟨x9, l3⟩ := l3
  obtain ⟨d, q1, f1, f2, f3⟩ := pick0 (A := A) (k := 38) (p := q) (c := 999) (ds := odds) hq (by decide) (by decide)
  have ho := odds_odd d f2
  have f1' : R A 40 ("_law_pick" : Str) [.cell 0, .dat (.lst [.non, .int 5, .tup [], .lst [.str ("net" : Str)], .bl true, .dct [] []])] [q.cell] = .ok (.dat d) [q1.cell] := f1
  have ed0 : ∀ ρ S, sDict0 false ρ S = .ok (.dat (.dct [] [])) S := fun _ _ => rfl
  have l4 : sE4 (A := A) [some (.dat (.scr ns)), some (.cell 0), x2, x3, x4, x5, x6, x7, x8, x9, none] [q.cell] = .nx [some (.dat (.scr ns)), some (.cell 0), x2, x3, x4, x5, x6, x7, x8, x9, some (.dat d)] [q1.cell] := by
    unfold sE4
    simp only [ev, evE, evF, sVal_ok, ed0, f1']
  have l5 : sE5 (A := A) [some (.dat (.scr ns)), some (.cell 0), x2, x3, x4, x5, x6, x7, x8, x9, some (.dat d)] [q1.cell] = .nx [some (.dat (.scr ns)), some (.cell 0), x2, x3, x4, x5, x6, x7, x8, x9, some (.dat d)] [q1.cell] := by
    unfold sE5
    have ht : R A 39 ("tokens" : Str) [.dat d] [q1.cell] = .ex ("Misread" : Str) [.int 0, .int 0] [q1.cell] := tokens_odd (k := 38) ho
    have hlo : ∀ f ws S, loT (R A 40) f ws S = R A 39 f ws S := fun _ _ _ => rfl
    have hrun : (fun S' => (sFnL (loT (R A 40)) ("tokens" : Str) [(sVar 10)] [some (.dat (.scr ns)), some (.cell 0), x2, x3, x4, x5, x6, x7, x8, x9, some (.dat d)] S').bind toD) [q1.cell] = .ex ("Misread" : Str) [.int 0, .int 0] [q1.cell] := by
      simp only [ev, hlo, ht]
    have hw : R A 40 ("_law_why" : Str) [.lam (fun S' => (sFnL (loT (R A 40)) ("tokens" : Str) [(sVar 10)] [some (.dat (.scr ns)), some (.cell 0), x2, x3, x4, x5, x6, x7, x8, x9, some (.dat d)] S').bind toD)] [q1.cell] = .ok (.dat (.lst [.str ("read" : Str), .int 0, .int 0])) [q1.cell] := why_ex (k := 39) (run := (fun S' => (sFnL (loT (R A 40)) ("tokens" : Str) [(sVar 10)] [some (.dat (.scr ns)), some (.cell 0), x2, x3, x4, x5, x6, x7, x8, x9, some (.dat d)] S').bind toD)) hrun rfl
    have e5 : sLamN (R A 40) ("_law_why" : Str) (sFnL (loT (R A 40)) ("tokens" : Str) [(sVar 10)]) [some (.dat (.scr ns)), some (.cell 0), x2, x3, x4, x5, x6, x7, x8, x9, some (.dat d)] [q1.cell] = .ok (.dat (.lst [.str ("read" : Str), .int 0, .int 0])) [q1.cell] := by
      rw [e_lamN, hw, Res.bind_ok, noL_dat]
    have sh : Sh 64 (.lst [.str ("read" : Str), .int 0, .int 0]) := (sh_lst (n := 0) (shL_cons (sh_str (by decide +kernel)) (shL_cons sh_int (shL_cons sh_int shL_nil)))).mono (by omega)
    simp only [ev, evF, e5, sVal_ok, o_ne sh sh, eqD_refl sh, Bool.not_true]
  obtain ⟨es, q2, g1, g2, g3, g4⟩ := names3 (A := A) (k := 37) (p := q1) (c := 900) (f3.less (by decide))
  have g1' : R A 40 ("_law_names" : Str) [.cell 0, .dat (.int 3)] [q1.cell] = .ok (.dat (.lst es)) [q2.cell] := g1
  have ek : ∀ S, R A 40 ("_law_keys" : Str) [] S = .ok (.dat (.lst (keysL.map .str))) S := fun S => law_keys_ok (k := 39)
  have a1 : dBin .Add (.lst es) (.lst (keysL.map .str)) = some (.lst (es ++ keysL.map .str)) := addL (by rw [g2]; decide)
  have a2 : dBin .Add (.lst (es ++ keysL.map .str)) (.lst lastL) = some (.lst (es ++ keysL.map .str ++ lastL)) := addL (by rw [List.length_append, g2]; decide)
  have l6 : ∃ y9, sE6 (A := A) [some (.dat (.scr ns)), some (.cell 0), x2, x3, x4, x5, x6, x7, x8, x9, some (.dat d)] [q1.cell] = .nx [some (.dat (.scr ns)), some (.cell 0), x2, x3, x4, x5, x6, x7, x8, y9, some (.dat d)] [q2.cell] := by
    unfold sE6
    refine for_ind (ds := es ++ keysL.map .str ++ lastL) (S1 := [q2.cell]) (I := fun j ρ S' => ∃ x9, ρ = [some (.dat (.scr ns)), some (.cell 0), x2, x3, x4, x5, x6, x7, x8, x9, some (.dat d)] ∧ S' = [q2.cell])
      (P := fun r => ∃ x9, r = .nx [some (.dat (.scr ns)), some (.cell 0), x2, x3, x4, x5, x6, x7, x8, x9, some (.dat d)] [q2.cell]) ?_ ⟨x9, rfl, rfl⟩ ?_ ?_
    · unfold sIter
      have m1 : dBin .Mult (.str ("a" : Str)) (.int 12) = some (.str (mkS (List.replicate 12 97))) := mulA 12 (.inl rfl)
      have m2 : dBin .Mult (.str ("a" : Str)) (.int 13) = some (.str (mkS (List.replicate 13 97))) := mulA 13 (.inr rfl)
      have a2' : dBin .Add (.lst (es ++ keysL.map .str)) (.lst [.str ("" : Str), .str (mkS (List.replicate 12 97)), .str (mkS (List.replicate 13 97)), .str ("1a" : Str), .str ("a1" : Str), .str ("A" : Str), .str ("a b" : Str), .str ("a\n" : Str), .non, .int 5, .bl true, .tup [], .lst [.str ("a" : Str)], .str ("7" : Str), .str ("-" : Str)]) = some (.lst (es ++ keysL.map .str ++ lastL)) := a2
      simp only [ev, evF, sVal_ok, g1', ek, a1, m1, m2, a2']
      rfl
    · rintro ρ S' ⟨x9, rfl, rfl⟩
      exact ⟨x9, rfl⟩
    · rintro j hj ρ S' ⟨x9, rfl, rfl⟩
      refine ⟨_, rfl, ?_⟩
      have hok : Okd (es ++ keysL.map D.str ++ lastL)[j] := by
        have hm := List.getElem_mem hj
        rcases List.mem_append.mp hm with z | z
        · rcases List.mem_append.mp z with z | z
          · exact .inl (g3 _ z)
          · exact .inl (keys_gd _ z)
        · exact last_ok _ z
      obtain ⟨b, v1, v2⟩ := val_ok (A := A) (S := [q2.cell]) hok
      have v3 := same_ok (A := A) 0 40 (.bl b) [q2.cell] (.bl b) (by decide)
      simp only [ev, evE, sVal_ok, v1, v2, v3, Bool.not_true, EC.Turn]
      exact ⟨_, rfl, trivial⟩
  obtain ⟨y9, l6⟩ := l6
  refine ⟨[q2.cell].take 0, ?_⟩
  rw [sq_cons, l1, an_nx, sq_cons, l2, an_nx, sq_cons, l3, an_nx, sq_cons, l4, an_nx, sq_cons, l5, an_nx, sq_cons, l6, an_nx]
  simp only [ev, sVal_ok, endF_rt]
end
end K02
namespace K02
open PySem PySem.Spec PyProof.Rows L2 EC
theorem plain {a0 a1 a2 a3 a4 a5 a6 a7 a8 a9 a10 a11 a12 a13 a14 a15 a16 a17 a18 a19 a20 a21 a22 a23 a24 C0 E0 E1 E2 E3 E4 E5 E6 E7 E8 E9 cc0 cc1 pp0 pp1 : Addr} : ∀ ns : List Int, ns.length ≤ 63 → (∀ z ∈ ns, Builtin.Int.intBits z ≤ 1048576) → ∃ S', runF (gam a0 a1 a2 a3 a4 a5 a6 a7 a8 a9 a10 a11 a12 a13 a14 a15 a16 a17 a18 a19 a20 a21 a22 a23 a24 C0 E0 E1 E2 E3 E4 E5 E6 E7 E8 E9 cc0 cc1 pp0 pp1) prg 41 ("law" : Str) [.dat (.scr ns)] [] = .ok (.dat (.bl true)) S' :=
  fun ns h _ => law_ok (A := fun i => ([a0, a1, a2, a3, a4, a5, a6, a7, a8, a9, a10, a11, a12, a13, a14, a15, a16, a17, a18, a19, a20, a21, a22, a23, a24, C0, E0, E1, E2, E3, E4, E5, E6, E7, E8, E9, cc0, cc1, pp0, pp1] : List Addr).getD i 0) h
end K02
open PySem PySem.W PyProof.Rows in
set_option maxRecDepth 100000 in
set_option maxHeartbeats 0 in
theorem PySem.Challenge.cw_everycrew_k02_whole_tokens_holds : PySem.Challenge.rw_everycrew_k02_whole_tokens.Holds := by
  w_on; o_law; k_head; (case hw => w_witness2)
  k_fill
  refine EC.law_walk (l := PySem.Challenge.rw_everycrew_k02_whole_tokens) 40 (by decide) rfl rfl (fun w h Y => by first | exact PySem.W.kIn_of Y | exact PySem.W.km_in_of Y) ?F
  case F =>
    intro w mg fa h Y KX G hmg
    refine' K02.need (K02.facts ?n_a0 ?n_a1 ?n_a2 ?n_a3 ?n_a9 ?n_a10 ?n_a11 ?n_a12 ?n_a13 ?n_a14 ?n_a15 ?n_a16 ?n_a17 ?n_a18 ?n_a19 ?n_a20 ?n_a21 ?n_a22 ?n_a23 ?n_a24 ?n_C0 ?n_a4 ?i_a4 ?n_a5 ?i_a5 ?n_a6 ?i_a6 ?n_a7 ?i_a7 ?n_a8 ?i_a8 (EC.defAt ?ld_a0 ?ed_a0 ?kd_a0) (EC.defAt ?ld_a1 ?ed_a1 ?kd_a1) (EC.defAt ?ld_a2 ?ed_a2 ?kd_a2) (EC.defAt ?ld_a3 ?ed_a3 ?kd_a3) (EC.defAt ?ld_a4 ?ed_a4 ?kd_a4) (EC.defAt ?ld_a5 ?ed_a5 ?kd_a5) (EC.defAt ?ld_a6 ?ed_a6 ?kd_a6) (EC.defAt ?ld_a7 ?ed_a7 ?kd_a7) (EC.defAt ?ld_a8 ?ed_a8 ?kd_a8) (EC.defAt ?ld_a9 ?ed_a9 ?kd_a9) (EC.defAt ?ld_a10 ?ed_a10 ?kd_a10) (EC.defAt ?ld_a11 ?ed_a11 ?kd_a11) (EC.defAt ?ld_a12 ?ed_a12 ?kd_a12) (EC.defAt ?ld_a13 ?ed_a13 ?kd_a13) (EC.defAt ?ld_a14 ?ed_a14 ?kd_a14) (EC.defAt ?ld_a15 ?ed_a15 ?kd_a15) (EC.defAt ?ld_a16 ?ed_a16 ?kd_a16) (EC.defAt ?ld_a17 ?ed_a17 ?kd_a17) (EC.defAt ?ld_a18 ?ed_a18 ?kd_a18) (EC.defAt ?ld_a19 ?ed_a19 ?kd_a19) (EC.defAt ?ld_a20 ?ed_a20 ?kd_a20) (EC.defAt ?ld_a21 ?ed_a21 ?kd_a21) (EC.defAt ?ld_a22 ?ed_a22 ?kd_a22) (EC.defAtC ?ld_a23 ?ed_a23 ?kd_a23) (EC.codeHd_mk ?lkc_a23 ?ekc_a23 ?kkc_a23) ?kn_a23 (EC.defAtC ?ld_a24 ?ed_a24 ?kd_a24) (EC.codeHd_mk ?lkc_a24 ?ekc_a24 ?kkc_a24) ?kn_a24 ?nd_t ?z_len ?z_sorted ?z_sum ?z_min ?z_max ?z_all ?z_any ?z_abs ?z_isinstance ?z_repr ?z_range ?z_zip ?z_enumerate ?z_int ?z_str ?z_bool ?z_list ?z_tuple ?z_dict ?z_set ?z_ValueError ?o_get ?o_tk ?pg_C0 ?hd_C0 ?po_C0 ?sa_C0 ?cl_C0 ?mo_C0 ?mk_C0 ?kc_C0 ?ci_C0 ?ty_C0 ?f_C0_text ?f_C0_at ?f_C0_line ?f_C0_column ?s_C0_NoneType ?t_C0_NoneType ?s_C0_bool ?t_C0_bool ?s_C0_int ?t_C0_int ?s_C0_str ?t_C0_str ?s_C0_tuple ?t_C0_tuple ?s_C0_list ?t_C0_list ?s_C0_dict ?t_C0_dict ?n_E0 (EC.oexC ?lo_E0 ?ro_E0 ?so_E0 ?bo_E0 ?to_E0 ?ko_E0) ?ni_E0 ?ti_E0 (EC.defAt ?ld_E0 ?ed_E0 ?kd_E0) ?f_E0_line ?f_E0_word ?ga_E0 ?gg_E0 ?hd_E0 ?ci_E0 ?x_E0_E0 ?x_E0_E1 ?x_E0_E2 ?x_E0_E3 ?x_E0_E4 ?x_E0_E5 ?x_E0_E6 ?x_E0_E7 ?x_E0_E8 ?x_E0_E9 ?n_E1 (EC.oexC ?lo_E1 ?ro_E1 ?so_E1 ?bo_E1 ?to_E1 ?ko_E1) ?ni_E1 ?ti_E1 (EC.defAt ?ld_E1 ?ed_E1 ?kd_E1) ?f_E1_line ?f_E1_column ?ga_E1 ?gg_E1 ?hd_E1 ?ci_E1 ?x_E1_E0 ?x_E1_E1 ?x_E1_E2 ?x_E1_E3 ?x_E1_E4 ?x_E1_E5 ?x_E1_E6 ?x_E1_E7 ?x_E1_E8 ?x_E1_E9 ?n_E2 (EC.oexC ?lo_E2 ?ro_E2 ?so_E2 ?bo_E2 ?to_E2 ?ko_E2) ?ni_E2 ?ti_E2 (EC.defAt ?ld_E2 ?ed_E2 ?kd_E2) ?f_E2_line ?f_E2_column ?f_E2_why ?f_E2_name ?ga_E2 ?gg_E2 ?hd_E2 ?ci_E2 ?x_E2_E0 ?x_E2_E1 ?x_E2_E2 ?x_E2_E3 ?x_E2_E4 ?x_E2_E5 ?x_E2_E6 ?x_E2_E7 ?x_E2_E8 ?x_E2_E9 ?n_E3 (EC.oexC ?lo_E3 ?ro_E3 ?so_E3 ?bo_E3 ?to_E3 ?ko_E3) ?ni_E3 ?ti_E3 (EC.defAt ?ld_E3 ?ed_E3 ?kd_E3) ?f_E3_name ?ga_E3 ?gg_E3 ?hd_E3 ?ci_E3 ?x_E3_E0 ?x_E3_E1 ?x_E3_E2 ?x_E3_E3 ?x_E3_E4 ?x_E3_E5 ?x_E3_E6 ?x_E3_E7 ?x_E3_E8 ?x_E3_E9 ?n_E4 (EC.oexC ?lo_E4 ?ro_E4 ?so_E4 ?bo_E4 ?to_E4 ?ko_E4) ?ni_E4 ?ti_E4 (EC.defAt ?ld_E4 ?ed_E4 ?kd_E4) ?f_E4_what ?f_E4_number ?ga_E4 ?gg_E4 ?hd_E4 ?ci_E4 ?x_E4_E0 ?x_E4_E1 ?x_E4_E2 ?x_E4_E3 ?x_E4_E4 ?x_E4_E5 ?x_E4_E6 ?x_E4_E7 ?x_E4_E8 ?x_E4_E9 ?n_E5 (EC.oexC ?lo_E5 ?ro_E5 ?so_E5 ?bo_E5 ?to_E5 ?ko_E5) ?ni_E5 ?ti_E5 (EC.defAt ?ld_E5 ?ed_E5 ?kd_E5) ?f_E5_what ?f_E5_row ?ga_E5 ?gg_E5 ?hd_E5 ?ci_E5 ?x_E5_E0 ?x_E5_E1 ?x_E5_E2 ?x_E5_E3 ?x_E5_E4 ?x_E5_E5 ?x_E5_E6 ?x_E5_E7 ?x_E5_E8 ?x_E5_E9 ?n_E6 (EC.oexC ?lo_E6 ?ro_E6 ?so_E6 ?bo_E6 ?to_E6 ?ko_E6) ?ni_E6 ?ti_E6 (EC.defAt ?ld_E6 ?ed_E6 ?kd_E6) ?f_E6_name ?ga_E6 ?gg_E6 ?hd_E6 ?ci_E6 ?x_E6_E0 ?x_E6_E1 ?x_E6_E2 ?x_E6_E3 ?x_E6_E4 ?x_E6_E5 ?x_E6_E6 ?x_E6_E7 ?x_E6_E8 ?x_E6_E9 ?n_E7 (EC.oexC ?lo_E7 ?ro_E7 ?so_E7 ?bo_E7 ?to_E7 ?ko_E7) ?ni_E7 ?ti_E7 (EC.defAt ?ld_E7 ?ed_E7 ?kd_E7) ?f_E7_what ?ga_E7 ?gg_E7 ?hd_E7 ?ci_E7 ?x_E7_E0 ?x_E7_E1 ?x_E7_E2 ?x_E7_E3 ?x_E7_E4 ?x_E7_E5 ?x_E7_E6 ?x_E7_E7 ?x_E7_E8 ?x_E7_E9 ?n_E8 (EC.oexC ?lo_E8 ?ro_E8 ?so_E8 ?bo_E8 ?to_E8 ?ko_E8) ?ni_E8 ?ti_E8 (EC.defAt ?ld_E8 ?ed_E8 ?kd_E8) ?f_E8_what ?ga_E8 ?gg_E8 ?hd_E8 ?ci_E8 ?x_E8_E0 ?x_E8_E1 ?x_E8_E2 ?x_E8_E3 ?x_E8_E4 ?x_E8_E5 ?x_E8_E6 ?x_E8_E7 ?x_E8_E8 ?x_E8_E9 ?n_E9 (EC.oexC ?lo_E9 ?ro_E9 ?so_E9 ?bo_E9 ?to_E9 ?ko_E9) ?ni_E9 ?ti_E9 (EC.defAt ?ld_E9 ?ed_E9 ?kd_E9) ?f_E9_what ?f_E9_many ?f_E9_limit ?ga_E9 ?gg_E9 ?hd_E9 ?ci_E9 ?x_E9_E0 ?x_E9_E1 ?x_E9_E2 ?x_E9_E3 ?x_E9_E4 ?x_E9_E5 ?x_E9_E6 ?x_E9_E7 ?x_E9_E8 ?x_E9_E9 ?c_KEYS ?l_KEYS ?c_SIGNS ?l_SIGNS ?c_LETTERS ?c_FIGURES ?c_LONGEST_NAME ?c_LONGEST_NUMBER) (?hT) KX G hmg (K02.plain)
    (case n_a0 => k_is)
    (case n_a1 => k_is)
    (case n_a2 => k_is)
    (case n_a3 => k_is)
    (case n_a9 => k_is)
    (case n_a10 => k_is)
    (case n_a11 => k_is)
    (case n_a12 => k_is)
    (case n_a13 => k_is)
    (case n_a14 => k_is)
    (case n_a15 => k_is)
    (case n_a16 => k_is)
    (case n_a17 => k_is)
    (case n_a18 => k_is)
    (case n_a19 => k_is)
    (case n_a20 => k_is)
    (case n_a21 => k_is)
    (case n_a22 => k_is)
    (case n_a23 => k_is)
    (case n_a24 => k_is)
    (case n_C0 => k_is)
    (case n_a4 => k_is)
    (case i_a4 => k_is)
    (case n_a5 => k_is)
    (case i_a5 => k_is)
    (case n_a6 => k_is)
    (case i_a6 => k_is)
    (case n_a7 => k_is)
    (case i_a7 => k_is)
    (case n_a8 => k_is)
    (case i_a8 => k_is)
    (case ld_a0 => k_is)
    (case ed_a0 => k_is)
    (case kd_a0 => k_is)
    (case ld_a1 => k_is)
    (case ed_a1 => k_is)
    (case kd_a1 => k_is)
    (case ld_a2 => k_is)
    (case ed_a2 => k_is)
    (case kd_a2 => k_is)
    (case ld_a3 => k_is)
    (case ed_a3 => k_is)
    (case kd_a3 => k_is)
    (case ld_a4 => k_is)
    (case ed_a4 => k_is)
    (case kd_a4 => k_is)
    (case ld_a5 => k_is)
    (case ed_a5 => k_is)
    (case kd_a5 => k_is)
    (case ld_a6 => k_is)
    (case ed_a6 => k_is)
    (case kd_a6 => k_is)
    (case ld_a7 => k_is)
    (case ed_a7 => k_is)
    (case kd_a7 => k_is)
    (case ld_a8 => k_is)
    (case ed_a8 => k_is)
    (case kd_a8 => k_is)
    (case ld_a9 => k_is)
    (case ed_a9 => k_is)
    (case kd_a9 => k_is)
    (case ld_a10 => k_is)
    (case ed_a10 => k_is)
    (case kd_a10 => k_is)
    (case ld_a11 => k_is)
    (case ed_a11 => k_is)
    (case kd_a11 => k_is)
    (case ld_a12 => k_is)
    (case ed_a12 => k_is)
    (case kd_a12 => k_is)
    (case ld_a13 => k_is)
    (case ed_a13 => k_is)
    (case kd_a13 => k_is)
    (case ld_a14 => k_is)
    (case ed_a14 => k_is)
    (case kd_a14 => k_is)
    (case ld_a15 => k_is)
    (case ed_a15 => k_is)
    (case kd_a15 => k_is)
    (case ld_a16 => k_is)
    (case ed_a16 => k_is)
    (case kd_a16 => k_is)
    (case ld_a17 => k_is)
    (case ed_a17 => k_is)
    (case kd_a17 => k_is)
    (case ld_a18 => k_is)
    (case ed_a18 => k_is)
    (case kd_a18 => k_is)
    (case ld_a19 => k_is)
    (case ed_a19 => k_is)
    (case kd_a19 => k_is)
    (case ld_a20 => k_is)
    (case ed_a20 => k_is)
    (case kd_a20 => k_is)
    (case ld_a21 => k_is)
    (case ed_a21 => k_is)
    (case kd_a21 => k_is)
    (case ld_a22 => k_is)
    (case ed_a22 => k_is)
    (case kd_a22 => k_is)
    (case ld_a23 => k_is)
    (case ed_a23 => k_is)
    (case kd_a23 => k_is)
    (case lkc_a23 => k_is)
    (case ekc_a23 => rfl)
    (case kkc_a23 => decide +kernel)
    (case kn_a23 => kernel_rfl)
    (case ld_a24 => k_is)
    (case ed_a24 => k_is)
    (case kd_a24 => k_is)
    (case lkc_a24 => k_is)
    (case ekc_a24 => rfl)
    (case kkc_a24 => decide +kernel)
    (case kn_a24 => kernel_rfl)
    (case nd_t => decide)
    (case z_len => k_is)
    (case z_sorted => k_is)
    (case z_sum => k_is)
    (case z_min => k_is)
    (case z_max => k_is)
    (case z_all => k_is)
    (case z_any => k_is)
    (case z_abs => k_is)
    (case z_isinstance => k_is)
    (case z_repr => k_is)
    (case z_range => k_is)
    (case z_zip => k_is)
    (case z_enumerate => k_is)
    (case z_int => k_is)
    (case z_str => k_is)
    (case z_bool => k_is)
    (case z_list => k_is)
    (case z_tuple => k_is)
    (case z_dict => k_is)
    (case z_set => k_is)
    (case z_ValueError => k_is)
    (case o_get => k_is)
    (case o_tk => k_is)
    (case pg_C0 => k_is)
    (case hd_C0 => k_is)
    (case po_C0 => k_is)
    (case sa_C0 => k_is)
    (case cl_C0 => k_is)
    (case mo_C0 => k_is)
    (case mk_C0 => k_is)
    (case kc_C0 => k_is)
    (case ci_C0 => k_is)
    (case ty_C0 => k_is)
    (case f_C0_text => k_is)
    (case f_C0_at => k_is)
    (case f_C0_line => k_is)
    (case f_C0_column => k_is)
    (case s_C0_NoneType => k_is)
    (case t_C0_NoneType => k_is)
    (case s_C0_bool => k_is)
    (case t_C0_bool => k_is)
    (case s_C0_int => k_is)
    (case t_C0_int => k_is)
    (case s_C0_str => k_is)
    (case t_C0_str => k_is)
    (case s_C0_tuple => k_is)
    (case t_C0_tuple => k_is)
    (case s_C0_list => k_is)
    (case t_C0_list => k_is)
    (case s_C0_dict => k_is)
    (case t_C0_dict => k_is)
    (case n_E0 => k_is)
    (case lo_E0 => k_is)
    (case so_E0 => k_is)
    (case bo_E0 => k_is)
    (case to_E0 => k_is)
    (case ko_E0 => k_is)
    (case ro_E0 => first | rfl | decide +kernel)
    (case ni_E0 => k_is)
    (case ti_E0 => k_is)
    (case ld_E0 => k_is)
    (case ed_E0 => k_is)
    (case kd_E0 => k_is)
    (case f_E0_line => k_is)
    (case f_E0_word => k_is)
    (case ga_E0 => k_is)
    (case gg_E0 => k_is)
    (case hd_E0 => k_is)
    (case ci_E0 => k_is)
    (case n_E1 => k_is)
    (case lo_E1 => k_is)
    (case so_E1 => k_is)
    (case bo_E1 => k_is)
    (case to_E1 => k_is)
    (case ko_E1 => k_is)
    (case ro_E1 => first | rfl | decide +kernel)
    (case ni_E1 => k_is)
    (case ti_E1 => k_is)
    (case ld_E1 => k_is)
    (case ed_E1 => k_is)
    (case kd_E1 => k_is)
    (case f_E1_line => k_is)
    (case f_E1_column => k_is)
    (case ga_E1 => k_is)
    (case gg_E1 => k_is)
    (case hd_E1 => k_is)
    (case ci_E1 => k_is)
    (case n_E2 => k_is)
    (case lo_E2 => k_is)
    (case so_E2 => k_is)
    (case bo_E2 => k_is)
    (case to_E2 => k_is)
    (case ko_E2 => k_is)
    (case ro_E2 => first | rfl | decide +kernel)
    (case ni_E2 => k_is)
    (case ti_E2 => k_is)
    (case ld_E2 => k_is)
    (case ed_E2 => k_is)
    (case kd_E2 => k_is)
    (case f_E2_line => k_is)
    (case f_E2_column => k_is)
    (case f_E2_why => k_is)
    (case f_E2_name => k_is)
    (case ga_E2 => k_is)
    (case gg_E2 => k_is)
    (case hd_E2 => k_is)
    (case ci_E2 => k_is)
    (case n_E3 => k_is)
    (case lo_E3 => k_is)
    (case so_E3 => k_is)
    (case bo_E3 => k_is)
    (case to_E3 => k_is)
    (case ko_E3 => k_is)
    (case ro_E3 => first | rfl | decide +kernel)
    (case ni_E3 => k_is)
    (case ti_E3 => k_is)
    (case ld_E3 => k_is)
    (case ed_E3 => k_is)
    (case kd_E3 => k_is)
    (case f_E3_name => k_is)
    (case ga_E3 => k_is)
    (case gg_E3 => k_is)
    (case hd_E3 => k_is)
    (case ci_E3 => k_is)
    (case n_E4 => k_is)
    (case lo_E4 => k_is)
    (case so_E4 => k_is)
    (case bo_E4 => k_is)
    (case to_E4 => k_is)
    (case ko_E4 => k_is)
    (case ro_E4 => first | rfl | decide +kernel)
    (case ni_E4 => k_is)
    (case ti_E4 => k_is)
    (case ld_E4 => k_is)
    (case ed_E4 => k_is)
    (case kd_E4 => k_is)
    (case f_E4_what => k_is)
    (case f_E4_number => k_is)
    (case ga_E4 => k_is)
    (case gg_E4 => k_is)
    (case hd_E4 => k_is)
    (case ci_E4 => k_is)
    (case n_E5 => k_is)
    (case lo_E5 => k_is)
    (case so_E5 => k_is)
    (case bo_E5 => k_is)
    (case to_E5 => k_is)
    (case ko_E5 => k_is)
    (case ro_E5 => first | rfl | decide +kernel)
    (case ni_E5 => k_is)
    (case ti_E5 => k_is)
    (case ld_E5 => k_is)
    (case ed_E5 => k_is)
    (case kd_E5 => k_is)
    (case f_E5_what => k_is)
    (case f_E5_row => k_is)
    (case ga_E5 => k_is)
    (case gg_E5 => k_is)
    (case hd_E5 => k_is)
    (case ci_E5 => k_is)
    (case n_E6 => k_is)
    (case lo_E6 => k_is)
    (case so_E6 => k_is)
    (case bo_E6 => k_is)
    (case to_E6 => k_is)
    (case ko_E6 => k_is)
    (case ro_E6 => first | rfl | decide +kernel)
    (case ni_E6 => k_is)
    (case ti_E6 => k_is)
    (case ld_E6 => k_is)
    (case ed_E6 => k_is)
    (case kd_E6 => k_is)
    (case f_E6_name => k_is)
    (case ga_E6 => k_is)
    (case gg_E6 => k_is)
    (case hd_E6 => k_is)
    (case ci_E6 => k_is)
    (case n_E7 => k_is)
    (case lo_E7 => k_is)
    (case so_E7 => k_is)
    (case bo_E7 => k_is)
    (case to_E7 => k_is)
    (case ko_E7 => k_is)
    (case ro_E7 => first | rfl | decide +kernel)
    (case ni_E7 => k_is)
    (case ti_E7 => k_is)
    (case ld_E7 => k_is)
    (case ed_E7 => k_is)
    (case kd_E7 => k_is)
    (case f_E7_what => k_is)
    (case ga_E7 => k_is)
    (case gg_E7 => k_is)
    (case hd_E7 => k_is)
    (case ci_E7 => k_is)
    (case n_E8 => k_is)
    (case lo_E8 => k_is)
    (case so_E8 => k_is)
    (case bo_E8 => k_is)
    (case to_E8 => k_is)
    (case ko_E8 => k_is)
    (case ro_E8 => first | rfl | decide +kernel)
    (case ni_E8 => k_is)
    (case ti_E8 => k_is)
    (case ld_E8 => k_is)
    (case ed_E8 => k_is)
    (case kd_E8 => k_is)
    (case f_E8_what => k_is)
    (case ga_E8 => k_is)
    (case gg_E8 => k_is)
    (case hd_E8 => k_is)
    (case ci_E8 => k_is)
    (case n_E9 => k_is)
    (case lo_E9 => k_is)
    (case so_E9 => k_is)
    (case bo_E9 => k_is)
    (case to_E9 => k_is)
    (case ko_E9 => k_is)
    (case ro_E9 => first | rfl | decide +kernel)
    (case ni_E9 => k_is)
    (case ti_E9 => k_is)
    (case ld_E9 => k_is)
    (case ed_E9 => k_is)
    (case kd_E9 => k_is)
    (case f_E9_what => k_is)
    (case f_E9_many => k_is)
    (case f_E9_limit => k_is)
    (case ga_E9 => k_is)
    (case gg_E9 => k_is)
    (case hd_E9 => k_is)
    (case ci_E9 => k_is)
    (case c_KEYS => k_is)
    (case l_KEYS => k_is)
    (case c_SIGNS => k_is)
    (case l_SIGNS => k_is)
    (case c_LETTERS => k_is)
    (case c_FIGURES => k_is)
    (case c_LONGEST_NAME => k_is)
    (case c_LONGEST_NUMBER => k_is)
    (case x_E0_E0 => k_is)
    (case x_E0_E1 => k_is)
    (case x_E0_E2 => k_is)
    (case x_E0_E3 => k_is)
    (case x_E0_E4 => k_is)
    (case x_E0_E5 => k_is)
    (case x_E0_E6 => k_is)
    (case x_E0_E7 => k_is)
    (case x_E0_E8 => k_is)
    (case x_E0_E9 => k_is)
    (case x_E1_E0 => k_is)
    (case x_E1_E1 => k_is)
    (case x_E1_E2 => k_is)
    (case x_E1_E3 => k_is)
    (case x_E1_E4 => k_is)
    (case x_E1_E5 => k_is)
    (case x_E1_E6 => k_is)
    (case x_E1_E7 => k_is)
    (case x_E1_E8 => k_is)
    (case x_E1_E9 => k_is)
    (case x_E2_E0 => k_is)
    (case x_E2_E1 => k_is)
    (case x_E2_E2 => k_is)
    (case x_E2_E3 => k_is)
    (case x_E2_E4 => k_is)
    (case x_E2_E5 => k_is)
    (case x_E2_E6 => k_is)
    (case x_E2_E7 => k_is)
    (case x_E2_E8 => k_is)
    (case x_E2_E9 => k_is)
    (case x_E3_E0 => k_is)
    (case x_E3_E1 => k_is)
    (case x_E3_E2 => k_is)
    (case x_E3_E3 => k_is)
    (case x_E3_E4 => k_is)
    (case x_E3_E5 => k_is)
    (case x_E3_E6 => k_is)
    (case x_E3_E7 => k_is)
    (case x_E3_E8 => k_is)
    (case x_E3_E9 => k_is)
    (case x_E4_E0 => k_is)
    (case x_E4_E1 => k_is)
    (case x_E4_E2 => k_is)
    (case x_E4_E3 => k_is)
    (case x_E4_E4 => k_is)
    (case x_E4_E5 => k_is)
    (case x_E4_E6 => k_is)
    (case x_E4_E7 => k_is)
    (case x_E4_E8 => k_is)
    (case x_E4_E9 => k_is)
    (case x_E5_E0 => k_is)
    (case x_E5_E1 => k_is)
    (case x_E5_E2 => k_is)
    (case x_E5_E3 => k_is)
    (case x_E5_E4 => k_is)
    (case x_E5_E5 => k_is)
    (case x_E5_E6 => k_is)
    (case x_E5_E7 => k_is)
    (case x_E5_E8 => k_is)
    (case x_E5_E9 => k_is)
    (case x_E6_E0 => k_is)
    (case x_E6_E1 => k_is)
    (case x_E6_E2 => k_is)
    (case x_E6_E3 => k_is)
    (case x_E6_E4 => k_is)
    (case x_E6_E5 => k_is)
    (case x_E6_E6 => k_is)
    (case x_E6_E7 => k_is)
    (case x_E6_E8 => k_is)
    (case x_E6_E9 => k_is)
    (case x_E7_E0 => k_is)
    (case x_E7_E1 => k_is)
    (case x_E7_E2 => k_is)
    (case x_E7_E3 => k_is)
    (case x_E7_E4 => k_is)
    (case x_E7_E5 => k_is)
    (case x_E7_E6 => k_is)
    (case x_E7_E7 => k_is)
    (case x_E7_E8 => k_is)
    (case x_E7_E9 => k_is)
    (case x_E8_E0 => k_is)
    (case x_E8_E1 => k_is)
    (case x_E8_E2 => k_is)
    (case x_E8_E3 => k_is)
    (case x_E8_E4 => k_is)
    (case x_E8_E5 => k_is)
    (case x_E8_E6 => k_is)
    (case x_E8_E7 => k_is)
    (case x_E8_E8 => k_is)
    (case x_E8_E9 => k_is)
    (case x_E9_E0 => k_is)
    (case x_E9_E1 => k_is)
    (case x_E9_E2 => k_is)
    (case x_E9_E3 => k_is)
    (case x_E9_E4 => k_is)
    (case x_E9_E5 => k_is)
    (case x_E9_E6 => k_is)
    (case x_E9_E7 => k_is)
    (case x_E9_E8 => k_is)
    (case x_E9_E9 => k_is)
    (case hT => exact (EC.all_cons (PySem.W.km_tabs_of Y _ (by simp)) (EC.all_cons (PySem.W.km_tabs_of Y _ (by simp)) (EC.all_nil))))

import PyProof.Rows.All
import Wide.All
import OpenK.AllK
import Wide.FinOn
import HandS.ForMost
import HandS.Walk
import HandS.Deep
import HandS.IsInst
import HandS.Zip
import HandS.TupAny
import HandS.NoneIn
import KE.KDictKeyed
import HandS.Style
import KE.SortData
import KE.DataMinMax
import PyProof.ReprRoads
import HandS.Strs
import HandS.RaiseMore
import HandS.Conv
import HandS.Replace
import KE.GoesNew
import HandS.More
import HandS.TupMul
import KE.KStateDown
import HandS.Ends
import HandS.Words
import HandS.WordsExc
import HandS.Defaults
import HandS.Head0
import HandS.Head1
import HandS.Head2
import HandS.HeadEnd
import HandS.HeadHook1
import HandS.HeadHook2
import HandS.HeadHook3
import PySem.Challenge.RW_tumblemarks_k33_whole_turns_of_turns
set_option Elab.async false
set_option linter.all false
set_option maxRecDepth 100000
namespace Tm
open PySem L2

/-! ## plain side: data, store, results -/
/-- a value: data that never changes, or a mutable object of the store -/
inductive D where
  | p (d : PyData)
  | r (n : Nat)
/-- a mutable object -/
inductive Ob where
  | lst (xs : List PyData)
  | dct (kvs : List (PyData × PyData))
  | dtu (kvs : List (PyData × PyData))
abbrev Sto := List Ob
abbrev Ev := List (Option D)
abbrev Rs (α : Type) := Option (α × Sto)
abbrev M := Ev → Sto → Rs D
abbrev MB := Ev → Sto → Rs Bool
abbrev MA := Ev → Sto → Rs (List D)

/-! ## the relation between both sides -/
/-- what is written, and the world -/
structure KW where
  K : PySem.W.Frag
  w : World
abbrev Fg := KW
instance : CoeOut KW PySem.W.Frag := ⟨KW.K⟩
abbrev _root_.L2.Cx.kw (X : Cx) : KW := ⟨X.K, X.w⟩
/-- a list that is laid for good: locked, or written -/
def KLst (K : Fg) (a : Addr) (xs : List V) : Prop := ∃ (its : List Value) (n : Nat), K.K.lookup a = some { cls := .type "list", data := .seq its.toArray n } ∧ xs.length ≤ sizeLine ∧ Vals xs its
def LstS (K : Fg) (H : Hp) (a : Addr) (xs : List V) : Prop := (∃ o : Obj, H a = some (.frz o (.lst xs))) ∨ KLst K a xs
/-- a list that may be read -/
def LstR (K : Fg) (H : Hp) (a : Addr) (xs : List V) : Prop := Rd H a (.lst xs) ∨ KLst K a xs
theorem LstS.rd {K : Fg} {H : Hp} {a : Addr} {xs : List V} (h : LstS K H a xs) : LstR K H a xs := by
  rcases h with ⟨o, h⟩ | h
  · exact .inl (.inr ⟨o, h⟩)
  · exact .inr h
theorem LstR.sq {K : Fg} {H : Hp} {a : Addr} {xs : List V} (h : LstR K H a xs) : SqL K H a xs := by
  rcases h with h | ⟨its, n, h, z, r⟩
  · exact .inl h
  · have e := r.length
    exact .inr ⟨_, its.toArray, n, h, rfl, rfl, rfl, by rw [List.size_toArray]; omega, by simpa using r⟩
theorem LstR.obj {X : Cx} {pins : List (Addr × Obj)} {σ : L2.St} {H : Hp} {s : Shared} {a : Addr} {xs : List V} (I : Inv X pins σ H s) (h : LstR X.kw H a xs) : ∃ (its : List Value) (n : Nat), Vals xs its ∧ s.heap.get? a = some { cls := .type "list", data := .seq its.toArray n } ∧ xs.length ≤ sizeLine := by
  rcases h with h | ⟨its, n, h, z, r⟩
  · obtain ⟨z, its, n, r, e⟩ := h.ok I.hok
    exact ⟨its, n, r, e, z⟩
  · exact ⟨its, n, r, I.kIn a _ h, z⟩
/-- a tuple that is laid for good: locked, or written -/
def TupS (K : Fg) (H : Hp) (a : Addr) (xs : List V) : Prop :=
  (∃ o : Obj, H a = some (.frz o (.tup xs)) ∧ o.dict = none) ∨
    ∃ (o : Obj) (its : Array Value) (n : Nat), K.K.lookup a = some o ∧ o.cls = .type "tuple" ∧ o.dict = none ∧ o.data = .seq its n ∧ its.size ≤ sizeLine ∧ Vals xs its.toList
theorem TupS.sq {K : Fg} {H : Hp} {a : Addr} {xs : List V} (h : TupS K H a xs) : SqT K H a xs := by
  rcases h with ⟨o, h, _⟩ | ⟨o, its, n, h1, h2, _, h3, h4, h5⟩
  · exact .inl (.inr ⟨o, h⟩)
  · exact .inr ⟨o, its, n, h1, h2, h3, h4, h5⟩
mutual
inductive Rp (K : Fg) (H : Hp) : V → PyData → Prop
  | non : Rp K H .non .none
  | bl (b : Bool) : Rp K H (.bl b) (.bool b)
  | int (i : Int) : Rp K H (.int i) (.int i)
  | str (x : Str) : Rp K H (.str x) (.str x)
  | lst {a : Addr} {xs : List V} {ds : List PyData} : LstS K H a xs → RpA K H xs ds → Rp K H (.ref a) (.list ds)
  | tup {a : Addr} {xs : List V} {ds : List PyData} : TupS K H a xs → RpA K H xs ds → Rp K H (.ref a) (.tuple ds)
inductive RpA (K : Fg) (H : Hp) : List V → List PyData → Prop
  | nil : RpA K H [] []
  | cons {v : V} {vs : List V} {d : PyData} {ds : List PyData} : Rp K H v d → RpA K H vs ds → RpA K H (v :: vs) (d :: ds)
end
/-- what is laid for good -/
def Firm : HO → Prop
  | .tup _ => True
  | .frz _ _ => True
  | _ => False
def Keep (H H' : Hp) : Prop := ∀ a o, H a = some o → Firm o → H' a = some o
theorem Keep.refl (H : Hp) : Keep H H := fun _ _ h _ => h
theorem Keep.trans {H H1 H2 : Hp} (a : Keep H H1) (b : Keep H1 H2) : Keep H H2 := fun x o h f => b x o (a x o h f) f
theorem Keep.new {H : Hp} {p : Addr} {o : HO} (h : H p = none) : Keep H (upd H p o) := fun a u e _ => by
  rw [upd_ne (ne_of_none e h)]; exact e
theorem Keep.mut {H : Hp} {p : Addr} {o u : HO} (h : H p = some u) (f : ¬ Firm u) : Keep H (upd H p o) := fun a z e fz => by
  by_cases c : a = p
  · subst c; rw [h] at e; cases e; exact absurd fz f
  · rw [upd_ne c]; exact e
theorem Keep.lstS {K : Fg} {H H' : Hp} {a : Addr} {xs : List V} (k : Keep H H') (h : LstS K H a xs) : LstS K H' a xs := by
  rcases h with ⟨o, h⟩ | h
  · exact .inl ⟨o, k _ _ h trivial⟩
  · exact .inr h
theorem Keep.tupS {K : Fg} {H H' : Hp} {a : Addr} {xs : List V} (k : Keep H H') (h : TupS K H a xs) : TupS K H' a xs := by
  rcases h with ⟨o, h, z⟩ | h
  · exact .inl ⟨o, k _ _ h trivial, z⟩
  · exact .inr h
theorem Keep.sqT {K : Fg} {H H' : Hp} {a : Addr} {xs : List V} (k : Keep H H') (h : SqT K H a xs) : SqT K H' a xs := by
  rcases h with (h | ⟨o, h⟩) | h
  · exact .inl (.inl (k _ _ h trivial))
  · exact .inl (.inr ⟨o, k _ _ h trivial⟩)
  · exact .inr h
mutual
theorem Rp.mono {K : Fg} {H H' : Hp} (k : Keep H H') : ∀ (d : PyData) (v : V), Rp K H v d → Rp K H' v d
  | .none, _, h => by cases h; exact .non
  | .bool b, _, h => by cases h; exact .bl b
  | .int i, _, h => by cases h; exact .int i
  | .str x, _, h => by cases h; exact .str x
  | .list ds, _, h => by
    cases h with
    | lst h1 h2 => exact .lst (k.lstS h1) (RpA.mono k ds _ h2)
  | .tuple ds, _, h => by
    cases h with
    | tup h1 h2 => exact .tup (k.tupS h1) (RpA.mono k ds _ h2)
  | .dict _, _, h => by cases h
theorem RpA.mono {K : Fg} {H H' : Hp} (k : Keep H H') : ∀ (ds : List PyData) (vs : List V), RpA K H vs ds → RpA K H' vs ds
  | [], _, h => by cases h; exact .nil
  | d :: ds, _, h => by
    cases h with
    | cons h1 h2 => exact .cons (Rp.mono k d _ h1) (RpA.mono k ds _ h2)
end
mutual
theorem Rp.dp {K : Fg} {H : Hp} : ∀ (d : PyData) (v : V), Rp K H v d → Dp K H v d
  | .none, _, h => by cases h; exact .non
  | .bool b, _, h => by cases h; exact .bl b
  | .int i, _, h => by cases h; exact .int i
  | .str x, _, h => by cases h; exact .str x
  | .list ds, _, h => by
    cases h with
    | lst h1 h2 => exact .lst h1.rd.sq (RpA.dp ds _ h2)
  | .tuple ds, _, h => by
    cases h with
    | tup h1 h2 => exact .tup h1.sq (RpA.dp ds _ h2)
  | .dict _, _, h => by cases h
theorem RpA.dp {K : Fg} {H : Hp} : ∀ (ds : List PyData) (vs : List V), RpA K H vs ds → DpAll K H vs ds
  | [], _, h => by cases h; exact .nil
  | d :: ds, _, h => by
    cases h with
    | cons h1 h2 => exact .cons (Rp.dp d _ h1) (RpA.dp ds _ h2)
end
theorem RpA.length {K : Fg} {H : Hp} : ∀ {vs : List V} {ds : List PyData}, RpA K H vs ds → vs.length = ds.length
  | _, _, .nil => rfl
  | _, _, .cons _ t => congrArg Nat.succ (RpA.length t)
theorem RpA.get {K : Fg} {H : Hp} : ∀ {vs : List V} {ds : List PyData} {i : Nat} {d : PyData}, RpA K H vs ds → ds[i]? = some d → ∃ v, vs[i]? = some v ∧ Rp K H v d
  | _, _, _, _, .nil, e => by simp at e
  | _, _, 0, _, .cons r _, e => by simp at e; subst e; exact ⟨_, rfl, r⟩
  | _, _, i + 1, d, .cons _ t, e => by
    obtain ⟨v, h1, h2⟩ := RpA.get (i := i) (d := d) t (by simpa using e)
    exact ⟨v, by simpa using h1, h2⟩
theorem RpA.getV {K : Fg} {H : Hp} : ∀ {vs : List V} {ds : List PyData} {i : Nat} {v : V}, RpA K H vs ds → vs[i]? = some v → ∃ d, ds[i]? = some d ∧ Rp K H v d
  | _, _, _, _, .nil, e => by simp at e
  | _, _, 0, _, .cons r _, e => by simp at e; subst e; exact ⟨_, rfl, r⟩
  | _, _, i + 1, d, .cons _ t, e => by
    obtain ⟨v, h1, h2⟩ := RpA.getV (i := i) (v := d) t (by simpa using e)
    exact ⟨v, by simpa using h1, h2⟩
theorem RpA.append {K : Fg} {H : Hp} : ∀ {vs ws : List V} {ds es : List PyData}, RpA K H vs ds → RpA K H ws es → RpA K H (vs ++ ws) (ds ++ es)
  | _, _, _, _, .nil, h => h
  | _, _, _, _, .cons r t, h => .cons r (RpA.append t h)
theorem RpA.take {K : Fg} {H : Hp} : ∀ {vs : List V} {ds : List PyData} (n : Nat), RpA K H vs ds → RpA K H (vs.take n) (ds.take n)
  | _, _, 0, _ => .nil
  | _, _, _ + 1, .nil => .nil
  | _, _, n + 1, .cons r t => .cons r (RpA.take n t)
theorem RpA.drop {K : Fg} {H : Hp} : ∀ {vs : List V} {ds : List PyData} (n : Nat), RpA K H vs ds → RpA K H (vs.drop n) (ds.drop n)
  | _, _, 0, r => r
  | _, _, _ + 1, .nil => .nil
  | _, _, n + 1, .cons _ t => RpA.drop n t
theorem RpA.set {K : Fg} {H : Hp} {v : V} {d : PyData} (r : Rp K H v d) : ∀ {vs : List V} {ds : List PyData} (i : Nat), RpA K H vs ds → RpA K H (vs.set i v) (ds.set i d)
  | _, _, _, .nil => .nil
  | _, _, 0, .cons _ t => .cons r t
  | _, _, i + 1, .cons q t => .cons q (RpA.set r i t)
theorem RpA.reverse {K : Fg} {H : Hp} : ∀ {vs : List V} {ds : List PyData}, RpA K H vs ds → RpA K H vs.reverse ds.reverse
  | _, _, .nil => .nil
  | _, _, .cons r t => by simp only [List.reverse_cons]; exact (RpA.reverse t).append (.cons r .nil)
theorem RpA.dropLast {K : Fg} {H : Hp} : ∀ {vs : List V} {ds : List PyData}, RpA K H vs ds → RpA K H vs.dropLast ds.dropLast
  | _, _, .nil => .nil
  | _, _, .cons _ .nil => .nil
  | _, _, .cons r (.cons q t) => .cons r (RpA.dropLast (.cons q t))

/-- a value of the plain side stands for v -/
def RD (K : Fg) (H : Hp) (ι : List Addr) (v : V) : D → Prop
  | .p d => Rp K H v d
  | .r n => ∃ a, ι[n]? = some a ∧ v = .ref a
/-- a key that is a whole number or a text; one that is a tuple of such, however deep -/
def kD : Key → PyData
  | .inl i => .int i
  | .inr x => .str x
mutual
def nkD : PyData → Option NestedKey
  | .none => some .none
  | .int i => some (.num i)
  | .str x => some (.text x)
  | .tuple ds => (match nkDs ds with
    | some ks => some (.tup ks)
    | none => none)
  | .bool _ => none
  | .list _ => none
  | .dict _ => none
def nkDs : List PyData → Option (List NestedKey)
  | [] => some []
  | d :: ds => (match nkD d, nkDs ds with
    | some k, some ks => some (k :: ks)
    | _, _ => none)
end
/-- a dict by its one object -/
def dHO (a : Addr) (o : Obj) : HO := .ext fun h => h.get? a = some o
inductive EachP {α β : Type} (R : α → β → Prop) : List α → List β → Prop
  | nil : EachP R [] []
  | cons {a : α} {b : β} {as : List α} {bs : List β} : R a b → EachP R as bs → EachP R (a :: as) (b :: bs)
theorem EachP.imp {α β : Type} {R R' : α → β → Prop} (f : ∀ a b, R a b → R' a b) : ∀ {as : List α} {bs : List β}, EachP R as bs → EachP R' as bs
  | _, _, .nil => .nil
  | _, _, .cons h t => .cons (f _ _ h) (EachP.imp f t)
theorem EachP.length {α β : Type} {R : α → β → Prop} : ∀ {as : List α} {bs : List β}, EachP R as bs → as.length = bs.length
  | _, _, .nil => rfl
  | _, _, .cons _ t => congrArg Nat.succ (EachP.length t)
def KvR (K : Fg) (H : Hp) (p : Key × V) (q : PyData × PyData) : Prop := kD p.1 = q.1 ∧ Rp K H p.2 q.2
def EntR (K : Fg) (H : Hp) (x : NestedKey × Addr × Value) (q : PyData × PyData) : Prop := nkD q.1 = some x.1 ∧ x.1.depth ≤ 8 ∧ Rp K H (.ref x.2.1) q.1 ∧ ∃ v, RelV v x.2.2 ∧ Rp K H v q.2
def DtuR (K : Fg) (H : Hp) (a : Addr) (kvs : List (PyData × PyData)) : Prop := ∃ (o : Obj) (es : Array DictEntry) (ep : Nat) (xs : List (NestedKey × Addr × Value)), H a = some (dHO a o) ∧ o.ExactDict ∧ o.data = .dict es ep ∧
  es.toList = xs.map (fun x => (⟨x.1.hash K.w, .ref x.2.1, x.2.2⟩ : DictEntry)) ∧ (xs.map (·.1)).Nodup ∧ (a == sysModules) = false ∧ xs.length ≤ sizeLine ∧ EachP (EntR K H) xs kvs
def ObR (K : Fg) (H : Hp) (a : Addr) : Ob → Prop
  | .lst ds => ∃ xs, H a = some (.lst xs) ∧ RpA K H xs ds
  | .dct kvs => ∃ ks, H a = some (.dK ks) ∧ EachP (KvR K H) ks kvs
  | .dtu kvs => DtuR K H a kvs
theorem ObR.keep {K : Fg} {H H' : Hp} {a : Addr} (h : ∀ o, H a = some o → H' a = some o) (k : Keep H H') : ∀ {ob : Ob}, ObR K H a ob → ObR K H' a ob
  | .lst _, ⟨xs, h1, h2⟩ => ⟨xs, h _ h1, RpA.mono k _ _ h2⟩
  | .dct _, ⟨ks, h1, h2⟩ => ⟨ks, h _ h1, h2.imp fun _ _ ⟨x, y⟩ => ⟨x, Rp.mono k _ _ y⟩⟩
  | .dtu _, ⟨o, es, ep, xs, h1, h2, h3, h4, h5, h6, h7, h8⟩ => ⟨o, es, ep, xs, h _ h1, h2, h3, h4, h5, h6, h7, h8.imp fun _ _ ⟨x, y, z, v, r, t⟩ => ⟨x, y, Rp.mono k _ _ z, v, r, Rp.mono k _ _ t⟩⟩
structure HR (K : Fg) (H : Hp) (ι : List Addr) (S : Sto) : Prop where
  len : ι.length = S.length
  nd : ι.Nodup
  at_ : ∀ (n : Nat) (a : Addr) (ob : Ob), ι[n]? = some a → S[n]? = some ob → ObR K H a ob
def RDs (K : Fg) (H : Hp) (ι : List Addr) : List V → List D → Prop
  | [], [] => True
  | v :: vs, d :: ds => RD K H ι v d ∧ RDs K H ι vs ds
  | _, _ => False
/-- from (ι, H) on: ι grows by new addresses; what is firm, and all that is none of ι's, stays -/
structure Ext (ι : List Addr) (H : Hp) (ι' : List Addr) (H' : Hp) : Prop where
  pre : ι <+: ι'
  new : ∀ a ∈ ι', a ∈ ι ∨ H a = none
  stay : ∀ a o, H a = some o → (Firm o ∨ a ∉ ι) → H' a = some o
theorem Ext.keep {ι ι' : List Addr} {H H' : Hp} (x : Ext ι H ι' H') : Keep H H' := fun a o h f => x.stay a o h (.inl f)
theorem Ext.refl (ι : List Addr) (H : Hp) : Ext ι H ι H := ⟨List.prefix_refl _, fun _ h => .inl h, fun _ _ h _ => h⟩
theorem Ext.trans {ι ι1 ι2 : List Addr} {H H1 H2 : Hp} (a : Ext ι H ι1 H1) (b : Ext ι1 H1 ι2 H2) : Ext ι H ι2 H2 := by
  refine ⟨a.pre.trans b.pre, fun x hx => ?_, fun x o h f => ?_⟩
  · rcases b.new x hx with h | h
    · exact a.new x h
    · by_cases c : x ∈ ι
      · exact .inl c
      · cases q : H x with
        | none => exact .inr rfl
        | some o => rw [a.stay x o q (.inr c)] at h; cases h
  · refine b.stay x o (a.stay x o h f) ?_
    rcases f with f | f
    · exact .inl f
    · refine .inr fun hx => ?_
      rcases a.new x hx with z | z
      · exact f z
      · rw [z] at h; cases h
/-- something new beside -/
theorem Ext.put {ι : List Addr} {H : Hp} {p : Addr} {o : HO} (h : H p = none) : Ext ι H ι (upd H p o) := ⟨List.prefix_refl _, fun _ h => .inl h, fun a u e _ => by rw [upd_ne (ne_of_none e h)]; exact e⟩
theorem Ext.same {ι : List Addr} {H H' : Hp} (h : Same H H') : Ext ι H ι H' := ⟨List.prefix_refl _, fun _ h => .inl h, fun a u e _ => h a u e⟩
/-- a new object of the store -/
theorem Ext.grow {ι : List Addr} {H : Hp} {p : Addr} {o : HO} (h : H p = none) : Ext ι H (ι ++ [p]) (upd H p o) :=
  ⟨List.prefix_append _ _, fun a ha => by
    rcases List.mem_append.mp ha with z | z
    · exact .inl z
    · have : a = p := by simpa using z
      subst this; exact .inr h, fun a u e _ => by rw [upd_ne (ne_of_none e h)]; exact e⟩
/-- an object of the store turned -/
theorem Ext.turn {ι : List Addr} {H : Hp} {p : Addr} {o u : HO} (h : H p = some u) (f : ¬ Firm u) (hp : p ∈ ι) : Ext ι H ι (upd H p o) :=
  ⟨List.prefix_refl _, fun _ h => .inl h, fun a z e fz => by
    by_cases c : a = p
    · subst c; rw [h] at e; cases e
      rcases fz with fz | fz
      · exact absurd fz f
      · exact absurd hp fz
    · rw [upd_ne c]; exact e⟩
theorem RD.mono {K : Fg} {H H' : Hp} {ι ι' : List Addr} {v : V} (x : Ext ι H ι' H') : ∀ {d : D}, RD K H ι v d → RD K H' ι' v d
  | .p d, h => Rp.mono x.keep d v h
  | .r n, ⟨a, h, e⟩ => ⟨a, by obtain ⟨t, ht⟩ := x.pre; rw [← ht, List.getElem?_append_left (List.getElem?_eq_some_iff.mp h).1]; exact h, e⟩
theorem RDs.mono {K : Fg} {H H' : Hp} {ι ι' : List Addr} (x : Ext ι H ι' H') : ∀ {vs : List V} {ds : List D}, RDs K H ι vs ds → RDs K H' ι' vs ds
  | [], [], _ => trivial
  | _ :: _, _ :: _, ⟨a, b⟩ => ⟨a.mono x, RDs.mono x b⟩
theorem ObR.same {K : Fg} {H H' : Hp} {a : Addr} (x : Same H H') : ∀ {ob : Ob}, ObR K H a ob → ObR K H' a ob
  | _, h => ObR.keep (fun o e => x _ _ e) (fun a o h _ => x a o h) h
theorem HR.same {K : Fg} {H H' : Hp} {ι : List Addr} {S : Sto} (h : HR K H ι S) (x : Same H H') : HR K H' ι S := ⟨h.len, h.nd, fun n a ob e1 e2 => (h.at_ n a ob e1 e2).same x⟩
theorem Same.put {H : Hp} {p : Addr} {o : HO} (h : H p = none) : Same H (upd H p o) := fun a u e => by rw [upd_ne (ne_of_none e h)]; exact e
theorem ObR.some {K : Fg} {H : Hp} {a : Addr} : ∀ {ob : Ob}, ObR K H a ob → ∃ u, H a = some u ∧ ¬ Firm u
  | .lst _, ⟨xs, h1, _⟩ => ⟨_, h1, fun z => z⟩
  | .dct _, ⟨_, h1, _⟩ => ⟨_, h1, fun z => z⟩
  | .dtu _, ⟨_, _, _, _, h1, _⟩ => ⟨_, h1, fun z => z⟩
theorem HR.mem {K : Fg} {H : Hp} {ι : List Addr} {S : Sto} (h : HR K H ι S) {a : Addr} (ha : a ∈ ι) : ∃ u, H a = some u ∧ ¬ Firm u := by
  obtain ⟨n, hn, e⟩ := List.getElem_of_mem ha
  have hn' : n < S.length := by rw [← h.len]; exact hn
  exact (h.at_ n a S[n] (by rw [List.getElem?_eq_getElem hn, e]) (List.getElem?_eq_getElem hn')).some
/-- a new object of the store -/
theorem HR.grow {K : Fg} {H : Hp} {ι : List Addr} {S : Sto} (h : HR K H ι S) {p : Addr} {o : HO} (hp : H p = none) {ob : Ob} (q : ObR K (upd H p o) p ob) : HR K (upd H p o) (ι ++ [p]) (S ++ [ob]) := by
  have s := Same.put (o := o) hp
  have np : p ∉ ι := fun hm => by obtain ⟨u, e, _⟩ := h.mem hm; rw [hp] at e; cases e
  refine ⟨by simp [h.len], ?_, fun n a ob' e1 e2 => ?_⟩
  · rw [List.nodup_append]
    exact ⟨h.nd, by simp, fun a ha b hb => by
      have : b = p := by simpa using hb
      subst this
      intro e; subst e; exact np ha⟩
  · by_cases c : n < ι.length
    · rw [List.getElem?_append_left c] at e1
      rw [List.getElem?_append_left (by rw [← h.len]; exact c)] at e2
      exact (h.at_ n a ob' e1 e2).same s
    · have c' : n = ι.length := by
        have z := (List.getElem?_eq_some_iff.mp e1).1
        simp at z; omega
      subst c'
      rw [List.getElem?_append_right (Nat.le_refl _)] at e1
      rw [h.len, List.getElem?_append_right (Nat.le_refl _)] at e2
      simp at e1 e2
      subst e1; subst e2
      exact q
/-- an object of the store turned -/
theorem HR.turn {K : Fg} {H : Hp} {ι : List Addr} {S : Sto} (h : HR K H ι S) {n : Nat} {p : Addr} {o : HO} {ob ob' : Ob} (hp : ι[n]? = some p) (hn : S[n]? = some ob) (q : ObR K (upd H p o) p ob') : HR K (upd H p o) ι (S.set n ob') := by
  obtain ⟨u, hu, fu⟩ := (h.at_ n p ob hp hn).some
  have k : Keep H (upd H p o) := Keep.mut hu fu
  refine ⟨by simp [h.len], h.nd, fun m a z e1 e2 => ?_⟩
  by_cases c : n = m
  · subst c
    rw [hp] at e1; cases e1
    rw [List.getElem?_set_self (List.getElem?_eq_some_iff.mp hn).1] at e2
    cases e2
    exact q
  · rw [List.getElem?_set_ne c] at e2
    have na : a ≠ p := fun e => by
      subst e
      obtain ⟨h1, e1'⟩ := List.getElem?_eq_some_iff.mp e1
      obtain ⟨h2, e2'⟩ := List.getElem?_eq_some_iff.mp hp
      exact c ((List.getElem_inj h.nd).mp (e2'.trans e1'.symm))
    exact ObR.keep (fun o e => by rw [upd_ne na]; exact e) k (h.at_ m a z e1 e2)
theorem RDs.length {K : Fg} {H : Hp} {ι : List Addr} : ∀ {vs : List V} {ds : List D}, RDs K H ι vs ds → vs.length = ds.length
  | [], [], _ => rfl
  | _ :: _, _ :: _, ⟨_, b⟩ => congrArg Nat.succ (RDs.length b)
/-- slots -/
structure ER (K : Fg) (H : Hp) (ι : List Addr) (σ : St) (ρ : Ev) : Prop where
  len : σ.length = ρ.length
  at_ : ∀ (i : Nat) (d : D), ρ[i]? = some (some d) → ∃ v, σ[i]? = some (some v) ∧ RD K H ι v d
theorem ER.mono {K : Fg} {H H' : Hp} {ι ι' : List Addr} {σ : L2.St} {ρ : Ev} (x : Ext ι H ι' H') (h : ER K H ι σ ρ) : ER K H' ι' σ ρ :=
  ⟨h.len, fun i d e => let ⟨v, e1, e2⟩ := h.at_ i d e; ⟨v, e1, e2.mono x⟩⟩
theorem ER.set {K : Fg} {H : Hp} {ι : List Addr} {σ : St} {ρ : Ev} {v : V} {d : D} (h : ER K H ι σ ρ) (i : Nat) (r : RD K H ι v d) : ER K H ι (σ.set i (some v)) (ρ.set i (some d)) := by
  refine ⟨by simp [h.len], fun j e hj => ?_⟩
  by_cases c : i = j
  · subst c
    by_cases hi : i < ρ.length
    · rw [List.getElem?_set_self hi] at hj
      cases hj
      exact ⟨v, by rw [List.getElem?_set_self (by rw [h.len]; exact hi)], r⟩
    · rw [List.getElem?_eq_none (by simpa using hi)] at hj; cases hj
  · rw [List.getElem?_set_ne c] at hj
    obtain ⟨w, e1, e2⟩ := h.at_ j e hj
    exact ⟨w, by rw [List.getElem?_set_ne c]; exact e1, e2⟩
/-- what follows an end: all further heaps that stand for d and S -/
def Aft (K : Fg) (H : Hp) (ι : List Addr) (d : D) (S : Sto) (Q : VK) : Prop :=
  ∀ ι' v H', Ext ι H ι' H' → HR K H' ι' S → RD K H' ι' v d → Q v H'
theorem Aft.of {K : Fg} {H H1 : Hp} {ι ι1 : List Addr} {d : D} {S : Sto} {Q : VK} (h : Aft K H ι d S Q) (x : Ext ι H ι1 H1) : Aft K H1 ι1 d S Q :=
  fun ι' v H' x' => h ι' v H' (x.trans x')
/-! ## readings -/
def tE (K : Fg) (m : M) : TE := fun σ H Q => ∃ ι ρ S d S', HR K H ι S ∧ ER K H ι σ ρ ∧ m ρ S = some (d, S') ∧ Aft K H ι d S' Q
def tB' (K : Fg) (m : MB) : TT := fun σ H Q => ∃ ι ρ S b S', HR K H ι S ∧ ER K H ι σ ρ ∧ m ρ S = some (b, S') ∧ ∀ ι' H', Ext ι H ι' H' → HR K H' ι' S' → Q b H'
def tAs (K : Fg) (m : MA) : TA := fun σ H Q => ∃ ι ρ S ds S', HR K H ι S ∧ ER K H ι σ ρ ∧ m ρ S = some (ds, S') ∧ ∀ ι' vs H', Ext ι H ι' H' → HR K H' ι' S' → RDs K H' ι' vs ds → Q vs H'
theorem PE.imp {X : Cx} {e : Expr} {t u : TE} (h : PE X e t) (i : ∀ σ H Q, u σ H Q → t σ H Q) : PE X e u := ⟨fun pins s σ H Q I q => h.run pins s σ H Q I (i σ H Q q)⟩
theorem PT.imp {X : Cx} {e : Expr} {t u : TT} (h : PT X e t) (i : ∀ σ H Q, u σ H Q → t σ H Q) : PT X e u := ⟨fun pins s σ H Q I q => h.run pins s σ H Q I (i σ H Q q)⟩
theorem PW.imp {X : Cx} {e : Expr} {t u : TT} (h : PW X e t) (i : ∀ σ H Q, u σ H Q → t σ H Q) : PW X e u := ⟨fun wh pins s σ H Q I q => h.run wh pins s σ H Q I (i σ H Q q)⟩
theorem PA.imp {X : Cx} {es : List Expr} {t u : TA} (h : PA X es t) (i : ∀ σ H Q, u σ H Q → t σ H Q) : PA X es u := ⟨fun pos pins s σ H Q I q => h.run pos pins s σ H Q I (i σ H Q q)⟩
theorem PS.imp {X : Cx} {st : Stmt} {t u : TS} (h : PS X st t) (i : ∀ D σ H, u D σ H → t D σ H) : PS X st u := ⟨fun pins s σ H D I q => h.run pins s σ H D I (i D σ H q)⟩
theorem PSs.imp {X : Cx} {st : List Stmt} {t u : TS} (h : PSs X st t) (i : ∀ D σ H, u D σ H → t D σ H) : PSs X st u := ⟨fun pins s σ H D I q => h.run pins s σ H D I (i D σ H q)⟩
end Tm
namespace Tm
open PySem L2

/-! ## combinators of the plain side -/
def mVar (i : Nat) : M := fun ρ S => match ρ[i]? with
  | some (some d) => some (d, S)
  | _ => none
def mC (d : PyData) : M := fun _ S => some (.p d, S)
def m1 (f : D → Sto → Rs D) (a : M) : M := fun ρ S => match a ρ S with
  | some (x, S1) => f x S1
  | none => none
def m2 (f : D → D → Sto → Rs D) (a b : M) : M := fun ρ S => match a ρ S with
  | some (x, S1) => (match b ρ S1 with
    | some (y, S2) => f x y S2
    | none => none)
  | none => none
def maNil : MA := fun _ S => some ([], S)
def maCons (a : M) (r : MA) : MA := fun ρ S => match a ρ S with
  | some (x, S1) => (match r ρ S1 with
    | some (xs, S2) => some (x :: xs, S2)
    | none => none)
  | none => none
def mN (f : List D → Sto → Rs D) (as : MA) : M := fun ρ S => match as ρ S with
  | some (ds, S1) => f ds S1
  | none => none
/-- o.m(..) -/
def mM (f : D → List D → Sto → Rs D) (o : M) (as : MA) : M := fun ρ S => match o ρ S with
  | some (x, S1) => (match as ρ S1 with
    | some (ds, S2) => f x ds S2
    | none => none)
  | none => none
/-- a value as a test: bools alone -/
def bV (a : M) : MB := fun ρ S => match a ρ S with
  | some (.p (.bool b), S1) => some (b, S1)
  | _ => none
def bNot (a : MB) : MB := fun ρ S => match a ρ S with
  | some (b, S1) => some (!b, S1)
  | none => none
def bAnd (a b : MB) : MB := fun ρ S => match a ρ S with
  | some (true, S1) => b ρ S1
  | some (false, S1) => some (false, S1)
  | none => none
def bOr (a b : MB) : MB := fun ρ S => match a ρ S with
  | some (true, S1) => some (true, S1)
  | some (false, S1) => b ρ S1
  | none => none
def mB (a : MB) : M := fun ρ S => match a ρ S with
  | some (b, S1) => some (.p (.bool b), S1)
  | none => none
def mAnd (a b : M) : M := fun ρ S => match a ρ S with
  | some (.p (.bool true), S1) => b ρ S1
  | some (.p (.bool false), S1) => some (.p (.bool false), S1)
  | _ => none
def mOr (a b : M) : M := fun ρ S => match a ρ S with
  | some (.p (.bool true), S1) => some (.p (.bool true), S1)
  | some (.p (.bool false), S1) => b ρ S1
  | _ => none
def mIf (c : MB) (a b : M) : M := fun ρ S => match c ρ S with
  | some (true, S1) => a ρ S1
  | some (false, S1) => b ρ S1
  | none => none
/-- a < b < c -/
def mChain (f g : D → D → Sto → Rs D) (a b c : M) : M := fun ρ S => match a ρ S with
  | some (x, S1) => (match b ρ S1 with
    | some (y, S2) => (match f x y S2 with
      | some (.p (.bool true), S3) => (match c ρ S3 with
        | some (z, S4) => g y z S4
        | none => none)
      | some (.p (.bool false), S3) => some (.p (.bool false), S3)
      | _ => none)
    | none => none)
  | none => none

/-! ## rules by values -/
def r1 (K : Fg) (g : D → Sto → Rs D) : V → Hp → VK → Prop := fun x H Q => ∃ ι S d z S', HR K H ι S ∧ RD K H ι x d ∧ g d S = some (z, S') ∧ Aft K H ι z S' Q
def r2 (K : Fg) (g : D → D → Sto → Rs D) : R2 := fun x y H Q => ∃ ι S d e z S', HR K H ι S ∧ RD K H ι x d ∧ RD K H ι y e ∧ g d e S = some (z, S') ∧ Aft K H ι z S' Q
def rN (K : Fg) (g : List D → Sto → Rs D) : List V → Hp → VK → Prop := fun vs H Q => ∃ ι S ds z S', HR K H ι S ∧ RDs K H ι vs ds ∧ g ds S = some (z, S') ∧ Aft K H ι z S' Q
def rM (K : Fg) (g : D → List D → Sto → Rs D) : V → List V → Hp → VK → Prop := fun x vs H Q => ∃ ι S d ds z S', HR K H ι S ∧ RD K H ι x d ∧ RDs K H ι vs ds ∧ g d ds S = some (z, S') ∧ Aft K H ι z S' Q
/-- a def's promise: F of the arguments' data -/
def spF (K : Fg) (n : Nat) (F : List D → Sto → Rs D) : Sp := fun vs H Q _ => ∃ ι S ds z S', HR K H ι S ∧ RDs K H ι vs ds ∧ ds.length = n ∧ F ds S = some (z, S') ∧ Aft K H ι z S' Q

theorem mp1 {α β : Type} {o : Option α} {f : α → Option β} {z : β} (h : (match o with | some x => f x | none => none) = some z) : ∃ x, o = some x ∧ f x = some z := by
  cases o with
  | none => cases h
  | some x => exact ⟨x, rfl, h⟩

section
variable {X : Cx} {a b c e : Expr} {es : List Expr} {ma mb mc : M} {ba bb : MB} {mas : MA} {pos p : Pos}
theorem s_var {i : Nat} (h : PE X a (tVar i)) : PE X a (tE X.kw (mVar i)) := by
  refine PE.imp h fun σ H Q ⟨ι, ρ, S, d, S', hH, hE, e, q⟩ => ?_
  unfold mVar at e
  split at e
  · rename_i x hx
    cases e
    obtain ⟨v, hv, rv⟩ := hE.at_ i _ hx
    exact ⟨v, hv, q ι v H (Ext.refl _ _) hH rv⟩
  · cases e
theorem s_c {v : V} {d : PyData} (h : PE X a (tC v)) (r : ∀ H, Rp X.kw H v d) : PE X a (tE X.kw (mC d)) := by
  refine PE.imp h fun σ H Q ⟨ι, ρ, S, d', S', hH, hE, e, q⟩ => ?_
  cases e
  exact q ι v H (Ext.refl _ _) hH (r H)
theorem s_op1 {op : UnaryOp} {g : D → Sto → Rs D} (ho : UnR X (unaryOp op) (r1 X.kw g)) (ha : PE X a (tE X.kw ma)) : PE X (.UnaryOp op a pos) (tE X.kw (m1 g ma)) := by
  refine PE.imp (pe_un ho ha) fun σ H Q ⟨ι, ρ, S, z, S', hH, hE, e, q⟩ => ?_
  unfold m1 at e
  split at e
  · rename_i x S1 h1
    exact ⟨ι, ρ, S, x, S1, hH, hE, h1, fun ι1 vx H1 w1 hH1 rx => ⟨ι1, S1, x, z, S', hH1, rx, e, q.of w1⟩⟩
  · cases e
theorem imp2 {K : Fg} {ma mb : M} {g : D → D → Sto → Rs D} {σ : L2.St} {H : Hp} {Q : VK} (h : tE K (m2 g ma mb) σ H Q) : tOp (r2 K g) (tE K ma) (tE K mb) σ H Q := by
  obtain ⟨ι, ρ, S, z, S', hH, hE, e, q⟩ := h
  unfold m2 at e
  split at e
  · rename_i x S1 h1
    split at e
    · rename_i y S2 h2
      exact ⟨ι, ρ, S, x, S1, hH, hE, h1, fun ι1 vx H1 w1 hH1 rx => ⟨ι1, ρ, S1, y, S2, hH1, hE.mono w1, h2, fun ι2 vy H2 w2 hH2 ry => ⟨ι2, S2, x, y, z, S', hH2, rx.mono w2, ry, e, q.of (w1.trans w2)⟩⟩⟩
    · cases e
  · cases e
theorem s_op2 {op : Operator} {g : D → D → Sto → Rs D} (ho : OpR X (binaryOp op) (r2 X.kw g)) (ha : PE X a (tE X.kw ma)) (hb : PE X b (tE X.kw mb)) : PE X (.BinOp a op b pos) (tE X.kw (m2 g ma mb)) :=
  PE.imp (pe_op ho ha hb) fun _ _ _ h => imp2 h
theorem s_cmp {op : CmpOp} {g : D → D → Sto → Rs D} (ho : OpR X (compareOp op) (r2 X.kw g)) (ha : PE X a (tE X.kw ma)) (hb : PE X b (tE X.kw mb)) (hm : behindInMarks op b = false) : PE X (.Compare a [op] [b] pos) (tE X.kw (m2 g ma mb)) :=
  PE.imp (pe_cmpR ho ha hb hm) fun _ _ _ h => imp2 h
theorem bl_of {K : Fg} {H : Hp} {ι : List Addr} {v : V} {b : Bool} (h : RD K H ι v (.p (.bool b))) : v = .bl b := by cases h; rfl
theorem impT {K : Fg} {m : M} {t : TE} (i : ∀ σ H Q, tE K m σ H Q → t σ H Q) {σ : L2.St} {H : Hp} {Q : Bool → Hp → Prop} (h : tB' K (bV m) σ H Q) : t σ H fun x H' => ∃ k, x = .bl k ∧ Q k H' := by
  obtain ⟨ι, ρ, S, b, S', hH, hE, e, q⟩ := h
  unfold bV at e
  split at e
  · rename_i b' S1 h1
    cases e
    exact i _ _ _ ⟨ι, ρ, S, _, _, hH, hE, h1, fun ι1 v H1 w1 hH1 r => ⟨_, bl_of r, q ι1 H1 w1 hH1⟩⟩
  · cases e
theorem s_cmpT {op : CmpOp} {g : D → D → Sto → Rs D} (ho : OpR X (compareOp op) (r2 X.kw g)) (ha : PE X a (tE X.kw ma)) (hb : PE X b (tE X.kw mb)) (hm : behindInMarks op b = false) : PT X (.Compare a [op] [b] pos) (tB' X.kw (bV (m2 g ma mb))) :=
  PT.imp (pt_cmpR ho ha hb hm) fun _ _ _ h => impT (fun _ _ _ h => imp2 h) h
/-- any other expression as a test -/
theorem s_val (ha : PE X a (tE X.kw ma)) (he : ∀ whole, isTrue a X.env whole = (do let v ← whole; standAt a.pos; holding [v] (truthy v))) : PT X a (tB' X.kw (bV ma)) :=
  PT.imp (pt_val ha he) fun _ _ _ h => impT (fun _ _ _ h => h) h
theorem imp3 {K : Fg} {ma mb mc : M} {f g : D → D → Sto → Rs D} {σ : L2.St} {H : Hp} {Q : VK} (h : tE K (mChain f g ma mb mc) σ H Q) : tChain (r2 K f) (r2 K g) (tE K ma) (tE K mb) (tE K mc) σ H Q := by
  obtain ⟨ι, ρ, S, z, S', hH, hE, e, q⟩ := h
  unfold mChain at e
  split at e
  · rename_i x S1 h1
    split at e
    · rename_i y S2 h2
      refine ⟨ι, ρ, S, x, S1, hH, hE, h1, fun ι1 vx H1 w1 hH1 rx => ⟨ι1, ρ, S1, y, S2, hH1, hE.mono w1, h2, fun ι2 vy H2 w2 hH2 ry => ?_⟩⟩
      split at e
      · rename_i S3 h3
        split at e
        · rename_i w S4 h4
          refine ⟨ι2, S2, x, y, _, S3, hH2, rx.mono w2, ry, h3, fun ι3 v3 H3 w3 hH3 r3 => ⟨true, bl_of r3, ?_⟩⟩
          refine iteT ?_
          exact ⟨ι3, ρ, S3, w, S4, hH3, (hE.mono (w1.trans w2)).mono w3, h4, fun ι4 v4 H4 w4 hH4 r4 => ⟨ι4, S4, y, w, z, S', hH4, (ry.mono w3).mono w4, r4, e, q.of (((w1.trans w2).trans w3).trans w4)⟩⟩
        · cases e
      · rename_i S3 h3
        refine ⟨ι2, S2, x, y, _, S3, hH2, rx.mono w2, ry, h3, fun ι3 v3 H3 w3 hH3 r3 => ⟨false, bl_of r3, ?_⟩⟩
        refine iteF ?_
        cases e
        exact q ι3 _ H3 ((w1.trans w2).trans w3) hH3 (.bl false)
      · cases e
    · cases e
  · cases e
theorem s_chain {op op' : CmpOp} {f g : D → D → Sto → Rs D} (ho : OpR X (compareOp op) (r2 X.kw f)) (ho' : OpR X (compareOp op') (r2 X.kw g)) (ha : PE X a (tE X.kw ma)) (hb : PE X b (tE X.kw mb)) (hc : PE X c (tE X.kw mc))
    (h : PE X (.Compare a [op, op'] [b, c] pos) (tChain (r2 X.kw f) (r2 X.kw g) (tE X.kw ma) (tE X.kw mb) (tE X.kw mc))) : PE X (.Compare a [op, op'] [b, c] pos) (tE X.kw (mChain f g ma mb mc)) :=
  PE.imp h fun _ _ _ h => imp3 h
theorem s_chainT {op op' : CmpOp} {f g : D → D → Sto → Rs D} (h : PT X (.Compare a [op, op'] [b, c] pos) (tTest (tChain (r2 X.kw f) (r2 X.kw g) (tE X.kw ma) (tE X.kw mb) (tE X.kw mc)))) : PT X (.Compare a [op, op'] [b, c] pos) (tB' X.kw (bV (mChain f g ma mb mc))) :=
  PT.imp h fun _ _ _ h => impT (fun _ _ _ h => imp3 h) h
/-! tests -/
theorem s_notT (ha : PT X a (tB' X.kw ba)) : PT X (.UnaryOp .Not a pos) (tB' X.kw (bNot ba)) := by
  refine PT.imp (pt_not ha) fun σ H Q ⟨ι, ρ, S, z, S', hH, hE, e, q⟩ => ?_
  unfold bNot at e
  split at e
  · rename_i x S1 h1
    cases e
    exact ⟨ι, ρ, S, x, _, hH, hE, h1, q⟩
  · cases e
theorem impAnd {K : Fg} {ba bb : MB} {σ : L2.St} {H : Hp} {Q : Bool → Hp → Prop} (h : tB' K (bAnd ba bb) σ H Q) : tAnd (tB' K ba) (tB' K bb) σ H Q := by
  obtain ⟨ι, ρ, S, z, S', hH, hE, e, q⟩ := h
  unfold bAnd at e
  split at e
  · rename_i S1 h1
    refine ⟨ι, ρ, S, _, S1, hH, hE, h1, fun ι1 H1 w1 hH1 => ?_⟩
    refine iteT ?_
    exact ⟨ι1, ρ, S1, z, S', hH1, hE.mono w1, e, fun ι2 H2 w2 hH2 => q ι2 H2 (w1.trans w2) hH2⟩
  · rename_i S1 h1
    cases e
    refine ⟨ι, ρ, S, _, _, hH, hE, h1, fun ι1 H1 w1 hH1 => ?_⟩
    refine iteF ?_
    exact q ι1 H1 w1 hH1
  · cases e
theorem impOr {K : Fg} {ba bb : MB} {σ : L2.St} {H : Hp} {Q : Bool → Hp → Prop} (h : tB' K (bOr ba bb) σ H Q) : tOr (tB' K ba) (tB' K bb) σ H Q := by
  obtain ⟨ι, ρ, S, z, S', hH, hE, e, q⟩ := h
  unfold bOr at e
  split at e
  · rename_i S1 h1
    cases e
    refine ⟨ι, ρ, S, _, _, hH, hE, h1, fun ι1 H1 w1 hH1 => ?_⟩
    refine iteT ?_
    exact q ι1 H1 w1 hH1
  · rename_i S1 h1
    refine ⟨ι, ρ, S, _, S1, hH, hE, h1, fun ι1 H1 w1 hH1 => ?_⟩
    refine iteF ?_
    exact ⟨ι1, ρ, S1, z, S', hH1, hE.mono w1, e, fun ι2 H2 w2 hH2 => q ι2 H2 (w1.trans w2) hH2⟩
  · cases e
theorem s_andT {rest : List Expr} (ha : PT X a (tB' X.kw ba)) (hb : PW X (.BoolOp .And (b :: rest) pos) (tB' X.kw bb)) : PW X (.BoolOp .And (a :: b :: rest) pos) (tB' X.kw (bAnd ba bb)) :=
  PW.imp (pw_and ha hb) fun _ _ _ h => impAnd h
theorem s_orT {rest : List Expr} (ha : PT X a (tB' X.kw ba)) (hb : PW X (.BoolOp .Or (b :: rest) pos) (tB' X.kw bb)) : PW X (.BoolOp .Or (a :: b :: rest) pos) (tB' X.kw (bOr ba bb)) :=
  PW.imp (pw_or ha hb) fun _ _ _ h => impOr h
/-! the same as values -/
theorem s_and {rest : List Expr} (ha : PE X a (tE X.kw ma)) (hb : PE X (.BoolOp .And (b :: rest) pos) (tE X.kw mb)) : PE X (.BoolOp .And (a :: b :: rest) pos) (tE X.kw (mAnd ma mb)) := by
  refine PE.imp (pe_and ha hb) fun σ H Q ⟨ι, ρ, S, z, S', hH, hE, e, q⟩ => ?_
  unfold mAnd at e
  split at e
  · rename_i S1 h1
    refine ⟨ι, ρ, S, _, S1, hH, hE, h1, fun ι1 v1 H1 w1 hH1 rv => ⟨true, bl_of rv, ?_⟩⟩
    refine iteT ?_
    exact ⟨ι1, ρ, S1, z, S', hH1, hE.mono w1, e, q.of w1⟩
  · rename_i S1 h1
    cases e
    refine ⟨ι, ρ, S, _, _, hH, hE, h1, fun ι1 v1 H1 w1 hH1 rv => ⟨false, bl_of rv, ?_⟩⟩
    refine iteF ?_
    exact q ι1 _ H1 w1 hH1 (.bl false)
  · cases e
theorem s_or {rest : List Expr} (ha : PE X a (tE X.kw ma)) (hb : PE X (.BoolOp .Or (b :: rest) pos) (tE X.kw mb)) : PE X (.BoolOp .Or (a :: b :: rest) pos) (tE X.kw (mOr ma mb)) := by
  refine PE.imp (pe_or ha hb) fun σ H Q ⟨ι, ρ, S, z, S', hH, hE, e, q⟩ => ?_
  unfold mOr at e
  split at e
  · rename_i S1 h1
    cases e
    refine ⟨ι, ρ, S, _, _, hH, hE, h1, fun ι1 v1 H1 w1 hH1 rv => ⟨true, bl_of rv, ?_⟩⟩
    refine iteT ?_
    exact q ι1 _ H1 w1 hH1 (.bl true)
  · rename_i S1 h1
    refine ⟨ι, ρ, S, _, S1, hH, hE, h1, fun ι1 v1 H1 w1 hH1 rv => ⟨false, bl_of rv, ?_⟩⟩
    refine iteF ?_
    exact ⟨ι1, ρ, S1, z, S', hH1, hE.mono w1, e, q.of w1⟩
  · cases e
def gNot : D → Sto → Rs D := fun d S => match d with
  | .p (.bool b) => some (.p (.bool (!b)), S)
  | _ => none
theorem s_not (ha : PE X a (tE X.kw ma)) : PE X (.UnaryOp .Not a pos) (tE X.kw (m1 gNot ma)) := by
  refine PE.imp (pe_not ha) fun σ H Q ⟨ι, ρ, S, z, S', hH, hE, e, q⟩ => ?_
  unfold m1 at e
  split at e
  · rename_i x S1 h1
    unfold gNot at e
    split at e
    · rename_i b
      cases e
      exact ⟨ι, ρ, S, _, _, hH, hE, h1, fun ι1 v1 H1 w1 hH1 rv => ⟨b, bl_of rv, q ι1 _ H1 w1 hH1 (.bl _)⟩⟩
    · cases e
  · cases e
theorem s_if {mc' : MB} (hc : PT X c (tB' X.kw mc')) (ha : PE X a (tE X.kw ma)) (hb : PE X b (tE X.kw mb)) : PE X (.IfExp c a b pos) (tE X.kw (mIf mc' ma mb)) := by
  refine PE.imp (pe_ifExp hc ha hb) fun σ H Q ⟨ι, ρ, S, z, S', hH, hE, e, q⟩ => ?_
  unfold mIf at e
  split at e
  · rename_i S1 h1
    refine ⟨ι, ρ, S, _, S1, hH, hE, h1, fun ι1 H1 w1 hH1 => ?_⟩
    refine iteT ?_
    exact ⟨ι1, ρ, S1, z, S', hH1, hE.mono w1, e, q.of w1⟩
  · rename_i S1 h1
    refine ⟨ι, ρ, S, _, S1, hH, hE, h1, fun ι1 H1 w1 hH1 => ?_⟩
    refine iteF ?_
    exact ⟨ι1, ρ, S1, z, S', hH1, hE.mono w1, e, q.of w1⟩
  · cases e
/-! arguments and calls -/
theorem s_nil : PA X [] (tAs X.kw maNil) := PA.imp pa_nil fun σ H Q ⟨ι, ρ, S, ds, S', hH, hE, e, q⟩ => by
  cases e
  exact q ι [] H (Ext.refl _ _) hH trivial
theorem s_cons (ha : PE X e (tE X.kw ma)) (hr : PA X es (tAs X.kw mas)) (hs : starEach (e :: es) X.env = (false, eval e X.env) :: starEach es X.env) : PA X (e :: es) (tAs X.kw (maCons ma mas)) := by
  refine PA.imp (pa_cons ha hr hs) fun σ H Q ⟨ι, ρ, S, ds, S', hH, hE, e, q⟩ => ?_
  unfold maCons at e
  split at e
  · rename_i x S1 h1
    split at e
    · rename_i xs S2 h2
      cases e
      exact ⟨ι, ρ, S, x, S1, hH, hE, h1, fun ι1 vx H1 w1 hH1 rx => ⟨ι1, ρ, S1, xs, _, hH1, hE.mono w1, h2, fun ι2 vs H2 w2 hH2 rs => q ι2 (vx :: vs) H2 (w1.trans w2) hH2 ⟨rx.mono w2, rs⟩⟩⟩
    · cases e
  · cases e
theorem impN {K : Fg} {mas : MA} {g : List D → Sto → Rs D} {σ : L2.St} {H : Hp} {Q : VK} (h : tE K (mN g mas) σ H Q) : tCB (rN K g) (tAs K mas) σ H Q := by
  obtain ⟨ι, ρ, S, z, S', hH, hE, e, q⟩ := h
  unfold mN at e
  split at e
  · rename_i ds S1 h1
    exact ⟨ι, ρ, S, ds, S1, hH, hE, h1, fun ι1 vs H1 w1 hH1 rs => ⟨ι1, S1, ds, z, S', hH1, rs, e, q.of w1⟩⟩
  · cases e
theorem impM {K : Fg} {mo : M} {mas : MA} {g : D → List D → Sto → Rs D} {T : String} (ty : ∀ H ι S d ds z S' v, HR K H ι S → RD K H ι v d → ∀ S2, g d ds S2 = some (z, S') → tyV K T v H) {σ : L2.St} {H : Hp} {Q : VK} (h : tE K (mM g mo mas) σ H Q) : tBM K T (rM K g) (tE K mo) (tAs K mas) σ H Q := by
  obtain ⟨ι, ρ, S, z, S', hH, hE, e, q⟩ := h
  unfold mM at e
  split at e
  · rename_i x S1 h1
    split at e
    · rename_i ds S2 h2
      exact ⟨ι, ρ, S, x, S1, hH, hE, h1, fun ι1 vx H1 w1 hH1 rx => ⟨ty H1 ι1 S1 x ds z S' vx hH1 rx S2 e, ι1, ρ, S1, ds, S2, hH1, hE.mono w1, h2, fun ι2 vs H2 w2 hH2 rs => ⟨ι2, S2, x, ds, z, S', hH2, rx.mono w2, rs, e, q.of (w1.trans w2)⟩⟩⟩
    · cases e
  · cases e
theorem impF {K : Fg} {n : Nat} {mas : MA} {F : List D → Sto → Rs D} {σ : L2.St} {H : Hp} {Q : VK} (hn : ∀ ds S z, F ds S = some z → ds.length = n) (h : tE K (mN F mas) σ H Q) : tCall (spF K n F) [] E0 (tAs K mas) σ H Q := by
  obtain ⟨ι, ρ, S, z, S', hH, hE, e, q⟩ := h
  unfold mN at e
  split at e
  · rename_i ds S1 h1
    exact ⟨ι, ρ, S, ds, S1, hH, hE, h1, fun ι1 vs H1 w1 hH1 rs => ⟨ι1, S1, ds, z, S', hH1, by rw [List.append_nil]; exact rs, hn _ _ _ e, e, q.of w1⟩⟩
  · cases e
end
end Tm
namespace Tm
open PySem L2

theorem wipe_get {σ : L2.St} {i : Nat} : ∀ {vs : List Nat}, i ∉ vs → (wipe σ vs)[i]? = σ[i]?
  | [], _ => rfl
  | v :: vs, h => by
    unfold wipe
    rw [List.getElem?_set_ne (fun e => h (by simp [e]))]
    exact wipe_get (fun z => h (List.mem_cons_of_mem _ z))
theorem wipe_none {σ : L2.St} {i : Nat} : ∀ {vs : List Nat}, i ∈ vs → i < σ.length → (wipe σ vs)[i]? = some none
  | v :: vs, h, hl => by
    unfold wipe
    by_cases c : v = i
    · subst c; rw [List.getElem?_set_self (by rw [wipe_length]; exact hl)]
    · rw [List.getElem?_set_ne c]
      rcases List.mem_cons.mp h with z | z
      · exact absurd z.symm c
      · exact wipe_none z hl
theorem wipe_ext {σ σ' : L2.St} {vs : List Nat} (hl : σ'.length = σ.length) (h : ∀ i, i ∉ vs → σ'[i]? = σ[i]?) : wipe σ' vs = wipe σ vs := by
  refine List.ext_getElem? fun i => ?_
  by_cases c : i ∈ vs
  · by_cases c2 : i < σ.length
    · rw [wipe_none c c2, wipe_none c (by rw [hl]; exact c2)]
    · rw [List.getElem?_eq_none (by rw [wipe_length, hl]; omega), List.getElem?_eq_none (by rw [wipe_length]; omega)]
  · rw [wipe_get c, wipe_get c]; exact h i c
theorem wipe_set {σ : L2.St} {i : Nat} {x : Option V} {vs : List Nat} (h : i ∈ vs) : wipe (σ.set i x) vs = wipe σ vs :=
  wipe_ext (by simp) fun j hj => by
    have hne : i ≠ j := fun e => by subst e; exact hj h
    rw [List.getElem?_set_ne hne]

/-! ## statements of the plain side -/
inductive Out where
  | nx (ρ : Ev) | rt (d : D) | bk (ρ : Ev) | ct (ρ : Ev)
abbrev MS := Ev → Sto → Option (Out × Sto)
/-- what is stored: a value, or a pair that was made to be taken apart -/
inductive Itm where
  | one (d : D) | row (ds : List D)
def RI (K : Fg) (H : Hp) (ι : List Addr) (v : V) : Itm → Prop
  | .one d => RD K H ι v d
  | .row ds => ∃ a vs, v = .ref a ∧ SqT K H a vs ∧ RDs K H ι vs ds
theorem RI.mono {K : Fg} {H H' : Hp} {ι ι' : List Addr} {v : V} (x : Ext ι H ι' H') : ∀ {d : Itm}, RI K H ι v d → RI K H' ι' v d
  | .one _, h => RD.mono x h
  | .row _, ⟨a, vs, e, h1, h2⟩ => ⟨a, vs, e, x.keep.sqT h1, h2.mono x⟩
/-- a target's store; several values' -/
abbrev MG := Itm → Ev → Sto → Option (Ev × Sto)
abbrev MGs := List D → Ev → Sto → Option (Ev × Sto)
def OutR (K : Fg) (H : Hp) (ι : List Addr) (S' : Sto) (E : Ends) : Out → Prop
  | .nx ρ' => ∀ ι' σ' H', Ext ι H ι' H' → HR K H' ι' S' → ER K H' ι' σ' ρ' → E.nx σ' H'
  | .rt d => Aft K H ι d S' E.rt
  | .bk ρ' => ∀ ι' σ' H', Ext ι H ι' H' → HR K H' ι' S' → ER K H' ι' σ' ρ' → E.bk σ' H'
  | .ct ρ' => ∀ ι' σ' H', Ext ι H ι' H' → HR K H' ι' S' → ER K H' ι' σ' ρ' → E.ct σ' H'
theorem OutR.of {K : Fg} {H H1 : Hp} {ι ι1 : List Addr} {S' : Sto} {E : Ends} (x : Ext ι H ι1 H1) : ∀ {o : Out}, OutR K H ι S' E o → OutR K H1 ι1 S' E o
  | .nx _, h => fun ι' σ' H' x' => h ι' σ' H' (x.trans x')
  | .rt _, h => Aft.of h x
  | .bk _, h => fun ι' σ' H' x' => h ι' σ' H' (x.trans x')
  | .ct _, h => fun ι' σ' H' x' => h ι' σ' H' (x.trans x')
def tS (K : Fg) (m : MS) : TS := fun E σ H => ∃ ι ρ S o S', HR K H ι S ∧ ER K H ι σ ρ ∧ m ρ S = some (o, S') ∧ OutR K H ι S' E o
def tG (K : Fg) (vs : List Nat) (m : MG) : TG := fun v σ H Q => ∃ ι ρ S d ρ' S', HR K H ι S ∧ ER K H ι σ ρ ∧ RI K H ι v d ∧ m d ρ S = some (ρ', S') ∧ ∀ ι' σ' H', Ext ι H ι' H' → HR K H' ι' S' → ER K H' ι' σ' ρ' → wipe σ' vs = wipe σ vs → Q σ' H'
def tGs (K : Fg) (ws : List Nat) (m : MGs) : TGs := fun vs σ H Q => ∃ ι ρ S ds ρ' S', HR K H ι S ∧ ER K H ι σ ρ ∧ RDs K H ι vs ds ∧ m ds ρ S = some (ρ', S') ∧ ∀ ι' σ' H', Ext ι H ι' H' → HR K H' ι' S' → ER K H' ι' σ' ρ' → wipe σ' ws = wipe σ ws → Q σ' H'
theorem PG.imp {X : Cx} {e : Expr} {t u : TG} (h : PG X e t) (i : ∀ v σ H Q, u v σ H Q → t v σ H Q) : PG X e u := ⟨fun pins s σ H v u Q I r q => h.run pins s σ H v u Q I r (i v σ H Q q)⟩
theorem PGs.imp {X : Cx} {e : List Expr} {t u : TGs} (h : PGs X e t) (i : ∀ v σ H Q, u v σ H Q → t v σ H Q) : PGs X e u := ⟨fun pins s σ H v u Q I r q => h.run pins s σ H v u Q I r (i v σ H Q q)⟩

def msNil : MS := fun ρ S => some (.nx ρ, S)
def msSeq (a b : MS) : MS := fun ρ S => match a ρ S with
  | some (.nx ρ1, S1) => b ρ1 S1
  | r => r
def msIf (c : MB) (a b : MS) : MS := fun ρ S => match c ρ S with
  | some (true, S1) => a ρ S1
  | some (false, S1) => b ρ S1
  | none => none
def msRet (a : M) : MS := fun ρ S => match a ρ S with
  | some (d, S1) => some (.rt d, S1)
  | none => none
def msExpr (a : M) : MS := fun ρ S => match a ρ S with
  | some (_, S1) => some (.nx ρ, S1)
  | none => none
def msBreak : MS := fun ρ S => some (.bk ρ, S)
def msCont : MS := fun ρ S => some (.ct ρ, S)
def msNever : MS := fun _ _ => none
def msAsg (a : M) (g : MG) : MS := fun ρ S => match a ρ S with
  | some (d, S1) => (match g (.one d) ρ S1 with
    | some (ρ', S2) => some (.nx ρ', S2)
    | none => none)
  | none => none
/-- a, b = x, y -/
def msPar (as : MA) (g : MGs) : MS := fun ρ S => match as ρ S with
  | some (ds, S1) => (match g ds ρ S1 with
    | some (ρ', S2) => some (.nx ρ', S2)
    | none => none)
  | none => none
def gNm (i : Nat) : MG := fun d ρ S => match d with
  | .one d => some (ρ.set i (some d), S)
  | .row _ => none
def gNl : MGs := fun ds ρ S => match ds with
  | [] => some (ρ, S)
  | _ => none
def gCs (g : MG) (r : MGs) : MGs := fun ds ρ S => match ds with
  | d :: ds => (match g (.one d) ρ S with
    | some (ρ1, S1) => r ds ρ1 S1
    | none => none)
  | [] => none
/-- the items of a list or tuple -/
def itemsOf (d : D) (S : Sto) : Option (List PyData) := match d with
  | .p (.tuple xs) => some xs
  | .p (.list xs) => some xs
  | .r n => (match S[n]? with
    | some (.lst xs) => some xs
    | _ => none)
  | _ => none
def gTp (n : Nat) (r : MGs) : MG := fun d ρ S => match d with
  | .one d => (match itemsOf d S with
    | some xs => if xs.length = n then r (xs.map .p) ρ S else none
    | none => none)
  | .row ds => if ds.length = n then r ds ρ S else none
/-- o[i] = v -/
def gSb (f : D → D → D → Sto → Option Sto) (o i : M) : MG := fun d ρ S => match d with
  | .one d => (match o ρ S with
    | some (x, S1) => (match i ρ S1 with
      | some (y, S2) => (match f x y d S2 with
        | some S3 => some (ρ, S3)
        | none => none)
      | none => none)
    | none => none)
  | .row _ => none
/-- loops -/
def forL (g : MG) (b : MS) : List Itm → MS
  | [], ρ, S => some (.nx ρ, S)
  | d :: ds, ρ, S => match g d ρ S with
    | some (ρ1, S1) => (match b ρ1 S1 with
      | some (.nx ρ2, S2) => forL g b ds ρ2 S2
      | some (.ct ρ2, S2) => forL g b ds ρ2 S2
      | some (.bk ρ2, S2) => some (.nx ρ2, S2)
      | some (.rt x, S2) => some (.rt x, S2)
      | none => none)
    | none => none
/-- what a for or a comprehension walks: items that stand by themselves, or the list of the store as it stands at each turn -/
inductive Src where
  | its (xs : List Itm)
  | lst (n : Nat)
abbrev MI := Ev → Sto → Rs Src
def cap : Nat := 1000000
def forR (g : MG) (b : MS) (n : Nat) : Nat → Nat → MS
  | 0, _, _, _ => none
  | f + 1, i, ρ, S => match S[n]? with
    | some (.lst xs) => (match xs[i]? with
      | none => some (.nx ρ, S)
      | some d => (match g (.one (.p d)) ρ S with
        | some (ρ1, S1) => (match b ρ1 S1 with
          | some (.nx ρ2, S2) => forR g b n f (i + 1) ρ2 S2
          | some (.ct ρ2, S2) => forR g b n f (i + 1) ρ2 S2
          | some (.bk ρ2, S2) => some (.nx ρ2, S2)
          | some (.rt x, S2) => some (.rt x, S2)
          | none => none)
        | none => none))
    | _ => none
def msFor (it : MI) (g : MG) (b : MS) : MS := fun ρ S => match it ρ S with
  | some (.its xs, S1) => forL g b xs ρ S1
  | some (.lst n, S1) => forR g b n cap 0 ρ S1
  | none => none
def whileN (c : MB) (b : MS) : Nat → MS
  | 0, _, _ => none
  | f + 1, ρ, S => match c ρ S with
    | some (false, S1) => some (.nx ρ, S1)
    | some (true, S1) => (match b ρ S1 with
      | some (.nx ρ2, S2) => whileN c b f ρ2 S2
      | some (.ct ρ2, S2) => whileN c b f ρ2 S2
      | some (.bk ρ2, S2) => some (.nx ρ2, S2)
      | some (.rt x, S2) => some (.rt x, S2)
      | none => none)
    | none => none
def msWhile (c : MB) (b : MS) : MS := whileN c b cap

section
variable {X : Cx} {a b c e : Expr} {es : List Expr} {ma mb mc : M} {ba bb : MB} {mas : MA} {pos p : Pos} {st : Stmt} {sts ss : List Stmt} {m m' : MS} {g : MG} {gs : MGs}
theorem ss_nil : PSs X [] (tS X.kw msNil) := PSs.imp pss_nil fun E σ H ⟨ι, ρ, S, o, S', hH, hE, e, q⟩ => by
  cases e
  exact q ι σ H (Ext.refl _ _) hH hE
theorem ss_cons (h1 : PS X st (tS X.kw m)) (h2 : PSs X sts (tS X.kw m')) : PSs X (st :: sts) (tS X.kw (msSeq m m')) := by
  refine PSs.imp (pss_cons h1 h2) fun E σ H ⟨ι, ρ, S, o, S', hH, hE, e, q⟩ => ?_
  unfold msSeq at e
  split at e
  · rename_i ρ1 S1 h
    exact ⟨ι, ρ, S, _, S1, hH, hE, h, fun ι1 σ1 H1 w1 hH1 hE1 => ⟨ι1, ρ1, S1, o, S', hH1, hE1, e, q.of w1⟩⟩
  · rename_i hne
    refine ⟨ι, ρ, S, o, S', hH, hE, e, ?_⟩
    cases o with
    | nx ρ1 => exact absurd e (hne _ _)
    | rt d => exact q
    | bk _ => exact q
    | ct _ => exact q
theorem ss_pass : PS X (.Pass pos) (tS X.kw msNil) := PS.imp ps_pass fun E σ H ⟨ι, ρ, S, o, S', hH, hE, e, q⟩ => by
  cases e
  exact q ι σ H (Ext.refl _ _) hH hE
theorem ss_break : PS X (.Break pos) (tS X.kw msBreak) := PS.imp ps_break fun E σ H ⟨ι, ρ, S, o, S', hH, hE, e, q⟩ => by
  cases e
  exact q ι σ H (Ext.refl _ _) hH hE
theorem ss_cont : PS X (.Continue pos) (tS X.kw msCont) := PS.imp ps_continue fun E σ H ⟨ι, ρ, S, o, S', hH, hE, e, q⟩ => by
  cases e
  exact q ι σ H (Ext.refl _ _) hH hE
theorem ss_never : PS X st (tS X.kw msNever) := PS.imp ps_never fun E σ H ⟨ι, ρ, S, o, S', hH, hE, e, q⟩ => by cases e
theorem ss_if (hc : PT X c (tB' X.kw ba)) (ha : PSs X sts (tS X.kw m)) (hb : PSs X ss (tS X.kw m')) : PS X (.If c sts ss pos) (tS X.kw (msIf ba m m')) := by
  refine PS.imp (ps_if hc ha hb) fun E σ H ⟨ι, ρ, S, o, S', hH, hE, e, q⟩ => ?_
  unfold msIf at e
  split at e
  · rename_i S1 h1
    refine ⟨ι, ρ, S, _, S1, hH, hE, h1, fun ι1 H1 w1 hH1 => ?_⟩
    exact iteT ⟨ι1, ρ, S1, o, S', hH1, hE.mono w1, e, q.of w1⟩
  · rename_i S1 h1
    refine ⟨ι, ρ, S, _, S1, hH, hE, h1, fun ι1 H1 w1 hH1 => ?_⟩
    exact iteF ⟨ι1, ρ, S1, o, S', hH1, hE.mono w1, e, q.of w1⟩
  · cases e
theorem ss_ret (ha : PE X a (tE X.kw ma)) : PS X (.Return (some a) pos) (tS X.kw (msRet ma)) := by
  refine PS.imp (ps_ret ha) fun E σ H ⟨ι, ρ, S, o, S', hH, hE, e, q⟩ => ?_
  unfold msRet at e
  split at e
  · rename_i d S1 h1
    cases e
    exact ⟨ι, ρ, S, d, _, hH, hE, h1, q⟩
  · cases e
theorem ss_expr (ha : PE X a (tE X.kw ma)) (hs : swapsWith a none pos.line X.env = pure false) : PS X (.Expr a pos) (tS X.kw (msExpr ma)) := by
  refine PS.imp (ps_expr ha hs) fun E σ H ⟨ι, ρ, S, o, S', hH, hE, e, q⟩ => ?_
  unfold msExpr at e
  split at e
  · rename_i d S1 h1
    cases e
    exact ⟨ι, ρ, S, d, _, hH, hE, h1, fun ι1 v H1 w1 hH1 _ => q ι1 σ H1 w1 hH1 (hE.mono w1)⟩
  · cases e
theorem impAsg {K : Fg} {ws : List Nat} {ma : M} {g : MG} {E : Ends} {σ : L2.St} {H : Hp} (h : tS K (msAsg ma g) E σ H) : tAsg (tE K ma) (tG K ws g) E σ H := by
  obtain ⟨ι, ρ, S, o, S', hH, hE, e, q⟩ := h
  unfold msAsg at e
  split at e
  · rename_i d S1 h1
    split at e
    · rename_i ρ' S2 h2
      cases e
      exact ⟨ι, ρ, S, d, S1, hH, hE, h1, fun ι1 v H1 w1 hH1 rv => ⟨ι1, ρ, S1, .one d, ρ', _, hH1, hE.mono w1, rv, h2, fun ι2 σ2 H2 w2 hH2 hE2 _ => q ι2 σ2 H2 (w1.trans w2) hH2 hE2⟩⟩
    · cases e
  · cases e
theorem ss_asg {ws : List Nat} (ha : PE X a (tE X.kw ma)) (hg : PG X c (tG X.kw ws g)) (hs : swapsWithSole [c] a pos.line X.env = pure false) (hw : swappedStores [c] a X.env = pure none)
    (h1 : (assignEach [c] X.env).map (·.2) = [assign c X.env]) : PS X (.Assign [c] a pos) (tS X.kw (msAsg ma g)) :=
  PS.imp (ps_asg ha hg hs hw h1) fun _ _ _ h => impAsg h
theorem sg_name {ws : List Nat} {i : Nat} (hi : i ∈ ws) (h : PG X c (gName i)) : PG X c (tG X.kw ws (gNm i)) := by
  refine PG.imp h fun v σ H Q ⟨ι, ρ, S, d, ρ', S', hH, hE, rv, e, q⟩ => ?_
  cases d with
  | one d =>
    cases e
    exact q ι _ H (Ext.refl _ _) hH (hE.set i rv) (wipe_set hi)
  | row _ => cases e
theorem sg_nil {ws : List Nat} : PGs X [] (tGs X.kw ws gNl) := by
  refine PGs.imp pgs_nil fun v σ H Q ⟨ι, ρ, S, ds, ρ', S', hH, hE, rv, e, q⟩ => ?_
  unfold gNl at e
  split at e
  · cases e
    cases v with
    | nil => exact ⟨rfl, q ι σ H (Ext.refl _ _) hH hE rfl⟩
    | cons _ _ => exact rv.elim
  · cases e
theorem sg_cons {ws : List Nat} (h1 : PG X e (tG X.kw ws g)) (h2 : PGs X es (tGs X.kw ws gs)) (hs : (assignEach (e :: es) X.env).map (·.2) = assign e X.env :: (assignEach es X.env).map (·.2)) : PGs X (e :: es) (tGs X.kw ws (gCs g gs)) := by
  refine PGs.imp (pgs_cons h1 h2 hs) fun v σ H Q ⟨ι, ρ, S, ds, ρ', S', hH, hE, rv, e, q⟩ => ?_
  unfold gCs at e
  split at e
  · rename_i d ds'
    split at e
    · rename_i ρ1 S1 h1
      cases v with
      | nil => exact rv.elim
      | cons v vs =>
        exact ⟨v, vs, rfl, ι, ρ, S, .one d, ρ1, S1, hH, hE, rv.1, h1, fun ι1 σ1 H1 w1 hH1 hE1 z1 => ⟨ι1, ρ1, S1, ds', ρ', S', hH1, hE1, rv.2.mono w1, e, fun ι2 σ2 H2 w2 hH2 hE2 z2 => q ι2 σ2 H2 (w1.trans w2) hH2 hE2 (z2.trans z1)⟩⟩
    · cases e
  · cases e
theorem RDs.of {K : Fg} {H : Hp} {ι : List Addr} : ∀ {xs : List V} {ds : List PyData}, RpA K H xs ds → RDs K H ι xs (ds.map .p)
  | _, _, .nil => trivial
  | _, _, .cons r t => ⟨r, RDs.of t⟩
theorem items_of {K : Fg} {H : Hp} {ι : List Addr} {S : Sto} {v : V} {d : D} {ds : List PyData} (hH : HR K H ι S) (r : RD K H ι v d) (h : itemsOf d S = some ds) : ∃ a xs, v = .ref a ∧ (SqT K H a xs ∨ SqL K H a xs) ∧ RpA K H xs ds := by
  unfold itemsOf at h
  split at h
  · cases h
    cases r with
    | tup h1 h2 => exact ⟨_, _, rfl, .inl h1.sq, h2⟩
  · cases h
    cases r with
    | lst h1 h2 => exact ⟨_, _, rfl, .inr h1.rd.sq, h2⟩
  · rename_i n
    split at h
    · rename_i xs e
      cases h
      obtain ⟨a, ha, rfl⟩ := r
      obtain ⟨xs, h1, h2⟩ := hH.at_ n a _ ha e
      exact ⟨a, xs, rfl, .inr (.inl (.inl h1)), h2⟩
    · cases h
  · cases h
/-- (a, b, ..) = a tuple or a list -/
theorem sg_tup {ws : List Nat} {k n : Nat} (hc : X.calm = true) (h : PGs X es (tGs X.kw ws gs)) (hn : (assignEach es X.env).length = n) (hst : (assignEach es X.env).findIdx? (·.1) = none) : PG X (.Tuple es k pos) (tG X.kw ws (gTp n gs)) := by
  have t1 := pg_tup (k := k) (pos := pos) hc h hn hst
  have t2 := pg_unl (k := k) (pos := pos) hc h hn hst
  refine ⟨fun pins s σ H v u Q I r ⟨ι, ρ, S, d, ρ', S', hH, hE, rv, e, q⟩ => ?_⟩
  unfold gTp at e
  split at e
  · split at e
    · rename_i ds hi
      split at e
      · rename_i hl
        obtain ⟨a, xs, rfl, hq, hr⟩ := items_of hH rv hi
        have hx : xs.length = n := hr.length.trans hl
        rcases hq with hq | hq
        · exact t1.run pins s σ H _ u Q I r ⟨a, xs, rfl, hq, hx, ι, ρ, S, _, ρ', S', hH, hE, RDs.of hr, e, q⟩
        · exact t2.run pins s σ H _ u Q I r ⟨a, xs, rfl, hq, hx, ι, ρ, S, _, ρ', S', hH, hE, RDs.of hr, e, q⟩
      · cases e
    · cases e
  · rename_i ds
    split at e
    · rename_i hl
      obtain ⟨a, xs, rfl, hq, hr⟩ := rv
      exact t1.run pins s σ H _ u Q I r ⟨a, xs, rfl, hq, hr.length.trans hl, ι, ρ, S, _, ρ', S', hH, hE, hr, e, q⟩
    · cases e
/-- o[i] = v -/
def rSet (K : Fg) (f : D → D → D → Sto → Option Sto) : TSet := fun o i v H Q => ∃ ι S x y d S', HR K H ι S ∧ RD K H ι o x ∧ RD K H ι i y ∧ RD K H ι v d ∧ f x y d S = some S' ∧ ∀ ι' H', Ext ι H ι' H' → HR K H' ι' S' → Q H'
theorem sg_sub {ws : List Nat} {f : D → D → D → Sto → Option Sto} {o i : Expr} {mo mi : M} (ho : PE X o (tE X.kw mo)) (hi : PE X i (tE X.kw mi)) (hs : PSet X (rSet X.kw f))
    (ha : ∀ v, assign (.Subscript o i pos) X.env v = (do
      let ov ← holding [v] (eval o X.env)
      let iv ← holding [v, ov] (eval i X.env)
      standAt pos
      holding [v, ov, iv] (setItem ov iv v)
      release [v, ov, iv] [])) : PG X (.Subscript o i pos) (tG X.kw ws (gSb f mo mi)) := by
  refine PG.imp (pg_sub ho hi hs ha) fun v σ H Q ⟨ι, ρ, S, d, ρ', S', hH, hE, rv, e, q⟩ => ?_
  unfold gSb at e
  split at e
  · rename_i d
    have rv : RD X.kw H ι v d := rv
    split at e
    · rename_i x S1 h1
      split at e
      · rename_i y S2 h2
        split at e
        · rename_i S3 h3
          cases e
          exact ⟨ι, ρ, S, x, S1, hH, hE, h1, fun ι1 vx H1 w1 hH1 rx => ⟨ι1, ρ, S1, y, S2, hH1, hE.mono w1, h2, fun ι2 vy H2 w2 hH2 ry =>
            ⟨ι2, S2, x, y, d, _, hH2, rx.mono w2, ry, (rv.mono w1).mono w2, h3, fun ι3 H3 w3 hH3 => q ι3 σ H3 ((w1.trans w2).trans w3) hH3 (((hE.mono w1).mono w2).mono w3) rfl⟩⟩⟩
        · cases e
      · cases e
    · cases e
  · cases e
/-- a, b = x, y: the pair is made and taken apart -/
theorem ss_par {ws : List Nat} {ss' : List Expr} {k k2 n : Nat} {pt pt2 : Pos} (hc : X.calm = true) (ha : PA X ss' (tAs X.kw mas)) (h : PGs X es (tGs X.kw ws gs)) (hn : (assignEach es X.env).length = n) (hst : (assignEach es X.env).findIdx? (·.1) = none) (hz : n ≤ sizeLine)
    (hs : swapsWithSole [.Tuple es k pt] (.Tuple ss' k2 pt2) pos.line X.env = pure false) (hw : swappedStores [.Tuple es k pt] (.Tuple ss' k2 pt2) X.env = pure none)
    (h1 : (assignEach [.Tuple es k pt] X.env).map (·.2) = [assign (.Tuple es k pt) X.env]) (hl : ∀ ρ S ds S', mas ρ S = some (ds, S') → ds.length = n) :
    PS X (.Assign [.Tuple es k pt] (.Tuple ss' k2 pt2) pos) (tS X.kw (msPar mas gs)) := by
  refine PS.imp (ps_asg (pe_tup ha) (pg_tup (k := k) (pos := pt) hc h hn hst) hs hw h1) fun E σ H ⟨ι, ρ, S, o, S', hH, hE, e, q⟩ => ?_
  unfold msPar at e
  split at e
  · rename_i ds S1 h1
    split at e
    · rename_i ρ' S2 h2
      cases e
      have hd := hl _ _ _ _ h1
      refine ⟨ι, ρ, S, ds, S1, hH, hE, h1, fun ι1 vs H1 w1 hH1 rv => ⟨?_, fun t nt => ?_⟩⟩
      · rw [rv.length, hd]; exact hz
      · have xt : Ext ι1 H1 ι1 (upd H1 t (.tup vs)) := Ext.put nt
        exact ⟨t, vs, rfl, SqT.of upd_same, rv.length.trans hd, ι1, ρ, S1, ds, ρ', _, hH1.same (Same.put nt), (hE.mono w1).mono xt, rv.mono xt, h2, fun ι2 σ2 H2 w2 hH2 hE2 _ => q ι2 σ2 H2 ((w1.trans xt).trans w2) hH2 hE2⟩
    · cases e
  · cases e

/-! ## what is walked -/
/-- J gives out the items xs, whatever stands beside -/
structure ItS (K : Fg) (ι0 : List Addr) (H0 : Hp) (J : It) (xs : List Itm) : Prop where
  len : xs.length ≤ sizeLine
  go : ∀ i H, i < xs.length → Keep H0 H → J.go i H
  stop : ∀ H, Keep H0 H → J.stop xs.length H
  yld : ∀ (i : Nat) (H : Hp) (x : V) (H' : Hp), i < xs.length → Keep H0 H → J.yld i H x H' → Same H H' ∧ ∀ d, xs[i]? = some d → ∀ ι, ι0 <+: ι → RI K H' ι x d
def ItR (K : Fg) (ι : List Addr) (H : Hp) (J : It) : Src → Prop
  | .its xs => ItS K ι H J xs
  | .lst n => ∃ a, ι[n]? = some a ∧ J = Itl K a
def tI (K : Fg) (mi : MI) : TI := fun σ H R => ∃ ι ρ S src S', HR K H ι S ∧ ER K H ι σ ρ ∧ mi ρ S = some (src, S') ∧ ∀ ι' J H', Ext ι H ι' H' → HR K H' ι' S' → ItR K ι' H' J src → R J H'
theorem drop_eq {α : Type} {xs : List α} {i : Nat} (h : i < xs.length) : ∃ d, xs[i]? = some d ∧ xs.drop i = d :: xs.drop (i + 1) := ⟨xs[i], List.getElem?_eq_getElem h, List.drop_eq_getElem_cons h⟩
/-- one turn of a for, at the plain side's state -/
theorem for_turn {K : Fg} {ws : List Nat} {g : MG} {b : MS} {E : Ends} {N : L2.St → Hp → Prop} {ι : List Addr} {H : Hp} {σ : L2.St} {ρ ρ1 : Ev} {S S1 S2 : Sto} {d : Itm} {o : Out} {x : V}
    (hH : HR K H ι S) (hE : ER K H ι σ ρ) (rx : RI K H ι x d) (h1 : g d ρ S = some (ρ1, S1)) (h2 : b ρ1 S1 = some (o, S2))
    (hN : ∀ ρ2, (o = .nx ρ2 ∨ o = .ct ρ2) → ∀ ι' σ' H', Ext ι H ι' H' → HR K H' ι' S2 → ER K H' ι' σ' ρ2 → N σ' H')
    (hB : ∀ ρ2, o = .bk ρ2 → ∀ ι' σ' H', Ext ι H ι' H' → HR K H' ι' S2 → ER K H' ι' σ' ρ2 → E.nx σ' H')
    (hR : ∀ z, o = .rt z → Aft K H ι z S2 E.rt) : tG K ws g x σ H fun σ2 H2 => tS K b { E with nx := N, ct := N, bk := E.nx } σ2 H2 := by
  refine ⟨ι, ρ, S, d, ρ1, S1, hH, hE, rx, h1, fun ι2 σ2 H2 w2 hH2 hE2 _ => ⟨ι2, ρ1, S1, o, S2, hH2, hE2, h2, ?_⟩⟩
  cases o with
  | nx ρ2 => exact fun ι' σ' H' w hh he => hN ρ2 (.inl rfl) ι' σ' H' (w2.trans w) hh he
  | ct ρ2 => exact fun ι' σ' H' w hh he => hN ρ2 (.inr rfl) ι' σ' H' (w2.trans w) hh he
  | bk ρ2 => exact fun ι' σ' H' w hh he => hB ρ2 rfl ι' σ' H' (w2.trans w) hh he
  | rt z => exact (hR z rfl).of w2
theorem ss_for {ws : List Nat} {tg iter : Expr} {mi : MI} (hp : PassesOwn (model X.prog X.w) X.A X.env X.xe) (hc : X.calm = true) (hi : PI X tg iter (tI X.kw mi)) (hg : PG X tg (tG X.kw ws g)) (hb : PSs X sts (tS X.kw m))
    (hs : ∀ x, foldedSetIterable iter X.env x = pure x) : PS X (.For tg iter sts [] pos) (tS X.kw (msFor mi g m)) := by
  refine PS.imp (ps_for hp hc hi hg hb hs) fun E σ H ⟨ι, ρ, S, o, S', hH, hE, e, q⟩ => ?_
  unfold msFor at e
  split at e
  · rename_i xs S1 h1
    refine ⟨ι, ρ, S, _, S1, hH, hE, h1, fun ι1 J H1 w1 hH1 hJ => ?_⟩
    have hJ : ItS X.kw ι1 H1 J xs := hJ
    refine ⟨fun i n σ' H' => n = xs.length - i ∧ i ≤ xs.length ∧ ∃ ι' ρ' S', Ext ι1 H1 ι' H' ∧ HR X.kw H' ι' S' ∧ ER X.kw H' ι' σ' ρ' ∧ ∃ o Sf, forL g m (xs.drop i) ρ' S' = some (o, Sf) ∧ OutR X.kw H' ι' Sf E o,
      ⟨_, rfl, Nat.zero_le _, ι1, ρ, S1, Ext.refl _ _, hH1, hE.mono w1, o, S', by rw [List.drop_zero]; exact e, q.of w1⟩, ?_⟩
    rintro i n σ' H' ⟨rfl, hil, ι', ρ', S3, w', hH', hE', o', Sf, hf, q'⟩
    by_cases hlt : i < xs.length
    · obtain ⟨d, hd, hdr⟩ := drop_eq hlt
      rw [hdr] at hf
      unfold forL at hf
      split at hf
      · rename_i ρ1 S4 hg1
        refine .inr ⟨hJ.go i H' hlt w'.keep, fun σ2 H2 => ∃ ι2 ρ2 S2, Ext ι1 H1 ι2 H2 ∧ HR X.kw H2 ι2 S2 ∧ ER X.kw H2 ι2 σ2 ρ2 ∧ ∃ o Sf, forL g m (xs.drop (i + 1)) ρ2 S2 = some (o, Sf) ∧ OutR X.kw H2 ι2 Sf E o,
          fun σ2 H2 z => ⟨xs.length - (i + 1), by omega, rfl, hlt, z⟩, fun x H3 hy => ?_⟩
        obtain ⟨sm, hrd⟩ := hJ.yld i H' x H3 hlt w'.keep hy
        have w3 : Ext ι' H' ι' H3 := Ext.same sm
        have rx := hrd d hd ι' w'.pre
        split at hf
        · rename_i ρ2 S5 hb2
          refine for_turn (hH'.same sm) (hE'.mono w3) rx hg1 hb2 (fun ρ2' e2 ι4 σ4 H4 w4 hH4 hE4 => ?_) (fun _ z => by cases z) (fun _ z => by cases z)
          have e2 : ρ2' = ρ2 := by rcases e2 with z | z <;> cases z; rfl
          subst e2
          exact ⟨ι4, _, S5, (w'.trans w3).trans w4, hH4, hE4, o', Sf, hf, q'.of (w3.trans w4)⟩
        · rename_i ρ2 S5 hb2
          refine for_turn (hH'.same sm) (hE'.mono w3) rx hg1 hb2 (fun ρ2' e2 ι4 σ4 H4 w4 hH4 hE4 => ?_) (fun _ z => by cases z) (fun _ z => by cases z)
          have e2 : ρ2' = ρ2 := by rcases e2 with z | z <;> cases z; rfl
          subst e2
          exact ⟨ι4, _, S5, (w'.trans w3).trans w4, hH4, hE4, o', Sf, hf, q'.of (w3.trans w4)⟩
        · rename_i ρ2 S5 hb2
          cases hf
          exact for_turn (hH'.same sm) (hE'.mono w3) rx hg1 hb2 (fun ρ2' e2 => by rcases e2 with z | z <;> cases z) (fun ρ2' z ι4 σ4 H4 w4 hH4 hE4 => by cases z; exact q' ι4 σ4 H4 (w3.trans w4) hH4 hE4) (fun _ z => by cases z)
        · rename_i z2 S5 hb2
          cases hf
          exact for_turn (hH'.same sm) (hE'.mono w3) rx hg1 hb2 (fun ρ2' e2 => by rcases e2 with z | z <;> cases z) (fun _ z => by cases z) (fun z ez => by cases ez; exact Aft.of q' w3)
        · cases hf
      · cases hf
    · have ei : i = xs.length := by omega
      subst ei
      rw [List.drop_length] at hf
      cases hf
      exact .inl ⟨hJ.stop H' w'.keep, q' ι' σ' H' (Ext.refl _ _) hH' hE'⟩
  · rename_i n S1 h1
    refine ⟨ι, ρ, S, _, S1, hH, hE, h1, fun ι1 J H1 w1 hH1 hJ => ?_⟩
    obtain ⟨a, ha, rfl⟩ : ∃ a, ι1[n]? = some a ∧ J = Itl X.kw a := hJ
    refine ⟨fun i f σ' H' => ∃ ι' ρ' S', Ext ι1 H1 ι' H' ∧ HR X.kw H' ι' S' ∧ ER X.kw H' ι' σ' ρ' ∧ ∃ o Sf, forR g m n f i ρ' S' = some (o, Sf) ∧ OutR X.kw H' ι' Sf E o,
      ⟨cap, ι1, ρ, S1, Ext.refl _ _, hH1, hE.mono w1, o, S', e, q.of w1⟩, ?_⟩
    rintro i f σ' H' ⟨ι', ρ', S3, w', hH', hE', o', Sf, hf, q'⟩
    have ha' : ι'[n]? = some a := by obtain ⟨t, ht⟩ := w'.pre; rw [← ht, List.getElem?_append_left (List.getElem?_eq_some_iff.mp ha).1]; exact ha
    cases f with
    | zero => cases hf
    | succ f =>
      unfold forR at hf
      split at hf
      · rename_i xs hn
        obtain ⟨vs, hv, rv⟩ := hH'.at_ n a _ ha' hn
        split at hf
        · rename_i hx
          cases hf
          refine .inl ⟨⟨vs, SqL.of hv, ?_⟩, q' ι' σ' H' (Ext.refl _ _) hH' hE'⟩
          rw [rv.length]
          exact List.getElem?_eq_none_iff.mp hx
        · rename_i d hx
          obtain ⟨v, hvi, rd⟩ := rv.get hx
          split at hf
          · rename_i ρ1 S4 hg1
            refine .inr ⟨⟨vs, v, SqL.of hv, hvi⟩, fun σ2 H2 => ∃ ι2 ρ2 S2, Ext ι1 H1 ι2 H2 ∧ HR X.kw H2 ι2 S2 ∧ ER X.kw H2 ι2 σ2 ρ2 ∧ ∃ o Sf, forR g m n f (i + 1) ρ2 S2 = some (o, Sf) ∧ OutR X.kw H2 ι2 Sf E o,
              fun σ2 H2 z => ⟨f, Nat.lt_succ_self _, z⟩, fun x H3 hy => ?_⟩
            obtain ⟨rfl, hy⟩ := hy
            have ex : x = v := Option.some.inj ((hy vs (SqL.of hv)).symm.trans hvi)
            subst ex
            have rx : RI X.kw H3 ι' x (.one (.p d)) := rd
            split at hf
            · rename_i ρ2 S5 hb2
              refine for_turn hH' hE' rx hg1 hb2 (fun ρ2' e2 ι4 σ4 H4 w4 hH4 hE4 => ?_) (fun _ z => by cases z) (fun _ z => by cases z)
              have e2 : ρ2' = ρ2 := by rcases e2 with z | z <;> cases z; rfl
              subst e2
              exact ⟨ι4, _, S5, w'.trans w4, hH4, hE4, o', Sf, hf, q'.of w4⟩
            · rename_i ρ2 S5 hb2
              refine for_turn hH' hE' rx hg1 hb2 (fun ρ2' e2 ι4 σ4 H4 w4 hH4 hE4 => ?_) (fun _ z => by cases z) (fun _ z => by cases z)
              have e2 : ρ2' = ρ2 := by rcases e2 with z | z <;> cases z; rfl
              subst e2
              exact ⟨ι4, _, S5, w'.trans w4, hH4, hE4, o', Sf, hf, q'.of w4⟩
            · rename_i ρ2 S5 hb2
              cases hf
              exact for_turn hH' hE' rx hg1 hb2 (fun ρ2' e2 => by rcases e2 with z | z <;> cases z) (fun ρ2' z ι4 σ4 H4 w4 hH4 hE4 => by cases z; exact q' ι4 σ4 H4 w4 hH4 hE4) (fun _ z => by cases z)
            · rename_i z2 S5 hb2
              cases hf
              exact for_turn hH' hE' rx hg1 hb2 (fun ρ2' e2 => by rcases e2 with z | z <;> cases z) (fun _ z => by cases z) (fun z ez => by cases ez; exact q')
            · cases hf
          · cases hf
      · cases hf
  · cases e
theorem ss_while (hp : PassesOwn (model X.prog X.w) X.A X.env X.xe) (hc : PT X c (tB' X.kw ba)) (hb : PSs X sts (tS X.kw m)) : PS X (.While c sts [] pos) (tS X.kw (msWhile ba m)) := by
  refine PS.imp (ps_while hp hc hb) fun E σ H ⟨ι, ρ, S, o, S', hH, hE, e, q⟩ => ?_
  unfold msWhile at e
  refine ⟨fun f σ' H' => ∃ ι' ρ' S', HR X.kw H' ι' S' ∧ ER X.kw H' ι' σ' ρ' ∧ ∃ o Sf, whileN ba m f ρ' S' = some (o, Sf) ∧ OutR X.kw H' ι' Sf E o, ⟨cap, ι, ρ, S, hH, hE, o, S', e, q⟩, ?_⟩
  rintro f σ' H' ⟨ι', ρ', S3, hH', hE', o', Sf, hf, q'⟩
  cases f with
  | zero => cases hf
  | succ f =>
    unfold whileN at hf
    split at hf
    · rename_i S1 h1
      cases hf
      exact ⟨ι', ρ', S3, false, Sf, hH', hE', h1, fun ι1 H1 w1 hH1 => iteF (q' ι1 σ' H1 w1 hH1 (hE'.mono w1))⟩
    · rename_i S1 h1
      refine ⟨ι', ρ', S3, true, S1, hH', hE', h1, fun ι1 H1 w1 hH1 => iteT ?_⟩
      refine ⟨fun σ2 H2 => ∃ ι2 ρ2 S2, HR X.kw H2 ι2 S2 ∧ ER X.kw H2 ι2 σ2 ρ2 ∧ ∃ o Sf, whileN ba m f ρ2 S2 = some (o, Sf) ∧ OutR X.kw H2 ι2 Sf E o, fun σ2 H2 z => ⟨f, Nat.lt_succ_self _, z⟩, ?_⟩
      split at hf
      · rename_i ρ2 S5 hb2
        exact ⟨ι1, ρ', S1, .nx ρ2, S5, hH1, hE'.mono w1, hb2, fun ι4 σ4 H4 w4 hH4 hE4 => ⟨ι4, ρ2, S5, hH4, hE4, o', Sf, hf, q'.of (w1.trans w4)⟩⟩
      · rename_i ρ2 S5 hb2
        exact ⟨ι1, ρ', S1, .ct ρ2, S5, hH1, hE'.mono w1, hb2, fun ι4 σ4 H4 w4 hH4 hE4 => ⟨ι4, ρ2, S5, hH4, hE4, o', Sf, hf, q'.of (w1.trans w4)⟩⟩
      · rename_i ρ2 S5 hb2
        cases hf
        exact ⟨ι1, ρ', S1, .bk ρ2, Sf, hH1, hE'.mono w1, hb2, fun ι4 σ4 H4 w4 hH4 hE4 => q' ι4 σ4 H4 (w1.trans w4) hH4 hE4⟩
      · rename_i z2 S5 hb2
        cases hf
        exact ⟨ι1, ρ', S1, .rt z2, Sf, hH1, hE'.mono w1, hb2, Aft.of q' w1⟩
      · cases hf
    · cases hf
end
end Tm
namespace Tm
open PySem L2

/-! ## a list is laid for good -/
theorem freeze {X : Cx} {pins : List (Addr × Obj)} {σ : L2.St} {H : Hp} {s : Shared} {a : Addr} {xs : List V} (I : Inv X pins σ H s) (h : H a = some (.lst xs)) : ∃ o, Inv X pins σ (upd H a (.frz o (.lst xs))) s := by
  have ok := I.hok a _ h
  obtain ⟨hz, its, n, ri, e⟩ := id ok
  refine ⟨{ cls := .type "list", data := .seq its.toArray n }, ?_⟩
  have ne : ∀ b u, H b = some u → (∀ ys, u ≠ .lst ys) → b ≠ a := fun b u hb hu z => by subst z; rw [h] at hb; cases hb; exact hu xs rfl
  have hn : ∀ b, H b = none → b ≠ a := fun b hb z => by subst z; rw [h] at hb; cases hb
  have u : Un X.fs [] H (upd H a (.frz { cls := .type "list", data := .seq its.toArray n } (.lst xs))) s.heap s.heap :=
    ⟨fun b o q _ _ _ => q, fun b o q _ _ _ => ⟨o.slots, q⟩, fun b o q z _ => by rw [upd_ne (hn b z)]; exact z, fun b o q _ => ⟨o, q⟩,
      fun b ys q => by rw [upd_ne (ne b _ q (fun _ z => by cases z))]; exact q, fun b o y q => by rw [upd_ne (ne b _ q (fun _ z => by cases z))]; exact q, fun b ps q => ⟨#[], by rw [upd_ne (ne b _ q (fun _ z => by cases z)), q]; simp⟩⟩
  have hok : HOk X.prog X.w (upd H a (.frz { cls := .type "list", data := .seq its.toArray n } (.lst xs))) s.heap := fun b y q => by
    by_cases c : b = a
    · subst c
      rw [upd_same] at q
      cases q
      exact ⟨e, hz, its, n, ri, e⟩
    · rw [upd_ne c] at q
      exact (I.hok b y q).stay (fun _ _ _ z => z) (fun b' z => by rw [upd_ne (ne b' _ z (fun _ z => by cases z))]; exact z) fun b' ys z => by rw [upd_ne (ne b' _ z (fun _ z => by cases z))]; exact z
  exact I.un (t' := s.toks) u hok
/-- what follows where the new list is laid for good -/
def fzQ (Q : VK) : VK := fun v H => ∃ a xs, v = .ref a ∧ H a = some (.lst xs) ∧ ∀ o, Q v (upd H a (.frz o (.lst xs)))
theorem EP.freeze {X : Cx} {pins : List (Addr × Obj)} {σ : L2.St} {Q : VK} {u : Value} {s : Shared} (h : EP X pins σ (fzQ Q) u s) : EP X pins σ Q u s := by
  obtain ⟨v, H, I, r, a, xs, rfl, e, q⟩ := h
  obtain ⟨o, I'⟩ := Tm.freeze I e
  exact ⟨_, _, I', r, q o⟩
theorem PE.freeze {X : Cx} {e : Expr} {t : TE} (h : PE X e t) : PE X e (fun σ H Q => t σ H (fzQ Q)) :=
  ⟨fun pins s σ H Q I q => thn (h.run pins s σ H _ I q) fun _ _ z => EP.freeze z⟩
/-- the new list at p, laid for good, stands for ds -/
theorem fz_aft {K : Fg} {H H1 : Hp} {ι ι1 : List Addr} {S : Sto} {Q : VK} {p : Addr} {xs : List V} {ds : List PyData} (q : Aft K H ι (.p (.list ds)) S Q) (w : Ext ι H ι1 H1) (hp : H1 p = none) (hH : HR K H1 ι1 S) (hr : RpA K H1 xs ds) : fzQ Q (.ref p) (upd H1 p (.lst xs)) := by
  refine ⟨p, xs, rfl, upd_same, fun o => ?_⟩
  rw [upd_upd]
  have w1 : Ext ι1 H1 ι1 (upd H1 p (.frz o (.lst xs))) := Ext.put hp
  exact q ι1 _ _ (w.trans w1) (hH.same (Same.put hp)) (.lst (.inl ⟨o, upd_same⟩) (RpA.mono w1.keep _ _ hr))
/-- .. or it is a new object of the store -/
theorem mk_aft {K : Fg} {H H1 : Hp} {ι ι1 : List Addr} {S : Sto} {Q : VK} {p : Addr} {xs : List V} {ds : List PyData} (q : Aft K H ι (.r S.length) (S ++ [.lst ds]) Q) (w : Ext ι H ι1 H1) (hp : H1 p = none) (hH : HR K H1 ι1 S) (hr : RpA K H1 xs ds) : Q (.ref p) (upd H1 p (.lst xs)) := by
  have w1 : Ext ι1 H1 (ι1 ++ [p]) (upd H1 p (.lst xs)) := Ext.grow hp
  refine q _ _ _ (w.trans w1) (hH.grow hp ⟨xs, upd_same, RpA.mono w1.keep _ _ hr⟩) ⟨p, ?_, rfl⟩
  rw [← hH.len, List.getElem?_append_right (Nat.le_refl _)]
  simp

/-! ## displays -/
/-- all of them data -/
def datas : List D → Option (List PyData)
  | [] => some []
  | .p d :: r => (match datas r with
    | some ds => some (d :: ds)
    | none => none)
  | .r _ :: _ => none
theorem datas_of {K : Fg} {H : Hp} {ι : List Addr} : ∀ {vs : List V} {es : List D} {ds : List PyData}, RDs K H ι vs es → datas es = some ds → RpA K H vs ds
  | [], [], _, _, h => by cases h; exact .nil
  | v :: vs, .p d :: r, ds, ⟨h1, h2⟩, h => by
    unfold datas at h
    split at h
    · rename_i ds' e
      cases h
      exact .cons h1 (datas_of h2 e)
    · cases h
  | _ :: _, .r _ :: _, _, _, h => by cases h
  | [], _ :: _, _, h, _ => h.elim
  | _ :: _, [], _, h, _ => h.elim
theorem datas_len : ∀ {es : List D} {ds : List PyData}, datas es = some ds → ds.length = es.length
  | [], _, h => by cases h; rfl
  | .p d :: r, ds, h => by
    unfold datas at h
    split at h
    · rename_i ds' e
      cases h
      exact congrArg Nat.succ (datas_len e)
    · cases h
  | .r _ :: _, _, h => by cases h
def gTuple : List D → Sto → Rs D := fun es S => match datas es with
  | some ds => if ds.length ≤ 1000 then some (.p (.tuple ds), S) else none
  | none => none
def gList : List D → Sto → Rs D := fun es S => match datas es with
  | some ds => if ds.length ≤ 1000 then some (.p (.list ds), S) else none
  | none => none
def gListM : List D → Sto → Rs D := fun es S => match datas es with
  | some ds => if ds.length ≤ 1000 then some (.r S.length, S ++ [.lst ds]) else none
  | none => none
section
variable {X : Cx} {es : List Expr} {mas : MA} {pos : Pos}
/-- a new tuple, locked -/
theorem new_tup {pins : List (Addr × Obj)} {σ : L2.St} {H : Hp} {s : Shared} {us : List Value} {xs : List V} {Q : VK} {tk : Nat} (I : Inv X pins σ H s) (r : Vals xs us) (z : xs.length ≤ sizeLine)
    (q : ∀ p o, H p = none → o.dict = none → Q (.ref p) (upd H p (.frz o (.tup xs)))) : EP X pins σ Q (.ref s.heap.objs.size) { s with heap := s.heap.push { cls := .type "tuple", data := .seq us.toArray }, toks := tk } := by
  have hf : H s.heap.objs.size = none := I.hok.fresh (Nat.le_refl _)
  refine ⟨.ref s.heap.objs.size, upd H s.heap.objs.size (.frz { cls := .type "tuple", data := .seq us.toArray } (.tup xs)), I.laid (t' := tk) (fun b u e => Heap.get?_push_of_some _ e) (Nat.le_refl _) ?_, rfl, q _ _ hf rfl⟩
  exact ⟨Heap.get?_push_size _ rfl, z, us, r, ⟨_, Heap.get?_push_size _ rfl, rfl, _, rfl⟩⟩
theorem tup_aft {K : Fg} {H H1 : Hp} {ι ι1 : List Addr} {S : Sto} {Q : VK} {p : Addr} {o : Obj} {xs : List V} {ds : List PyData} (q : Aft K H ι (.p (.tuple ds)) S Q) (w : Ext ι H ι1 H1) (hp : H1 p = none) (ho : o.dict = none) (hH : HR K H1 ι1 S) (hr : RpA K H1 xs ds) : Q (.ref p) (upd H1 p (.frz o (.tup xs))) := by
  have w1 : Ext ι1 H1 ι1 (upd H1 p (.frz o (.tup xs))) := Ext.put hp
  exact q ι1 _ _ (w.trans w1) (hH.same (Same.put hp)) (.tup (.inl ⟨o, upd_same, ho⟩) (RpA.mono w1.keep _ _ hr))
theorem pe_tupF {t : TA} {x1} (h : PA X es t) : PE X (.Tuple es x1 pos) (fun σ H Q => t σ H fun xs H1 => xs.length ≤ sizeLine ∧ ∀ p o, H1 p = none → o.dict = none → Q (.ref p) (upd H1 p (.frz o (.tup xs)))) := by
  refine ⟨fun pins s σ H Q I hq => ?_⟩
  exact wpAny_Tuple_spliced (thn (h.run pos pins s σ H _ I hq) fun us s1 ⟨xs, H1, I1, r, z, q⟩ => ⟨by rw [← r.length]; exact z, new_tup (tk := s1.toks) I1 r z q⟩)
theorem s_tuple {k : Nat} (h : PA X es (tAs X.kw mas)) : PE X (.Tuple es k pos) (tE X.kw (mN gTuple mas)) := by
  refine PE.imp (pe_tupF h) fun σ H Q ⟨ι, ρ, S, z, S', hH, hE, e, q⟩ => ?_
  unfold mN at e
  split at e
  · rename_i ds S1 h1
    unfold gTuple at e
    split at e
    · rename_i xs hx
      split at e
      · rename_i hl
        cases e
        refine ⟨ι, ρ, S, ds, _, hH, hE, h1, fun ι1 vs H1 w1 hH1 rv => ?_⟩
        have hr := datas_of rv hx
        refine ⟨?_, fun p o hp ho => tup_aft q w1 hp ho hH1 hr⟩
        rw [hr.length]; exact Nat.le_of_lt (small1000 hl)
      · cases e
    · cases e
  · cases e
theorem s_list (h : PA X es (tAs X.kw mas)) : PE X (.List es pos) (tE X.kw (mN gList mas)) := by
  refine PE.imp (PE.freeze (pe_lst h)) fun σ H Q ⟨ι, ρ, S, z, S', hH, hE, e, q⟩ => ?_
  unfold mN at e
  split at e
  · rename_i ds S1 h1
    unfold gList at e
    split at e
    · rename_i xs hx
      split at e
      · rename_i hl
        cases e
        refine ⟨ι, ρ, S, ds, _, hH, hE, h1, fun ι1 vs H1 w1 hH1 rv => ?_⟩
        have hr := datas_of rv hx
        refine ⟨?_, fun p hp => fz_aft q w1 hp hH1 hr⟩
        rw [hr.length]; exact Nat.le_of_lt (small1000 hl)
      · cases e
    · cases e
  · cases e
theorem s_listM (h : PA X es (tAs X.kw mas)) : PE X (.List es pos) (tE X.kw (mN gListM mas)) := by
  refine PE.imp (pe_lst h) fun σ H Q ⟨ι, ρ, S, z, S', hH, hE, e, q⟩ => ?_
  unfold mN at e
  split at e
  · rename_i ds S1 h1
    unfold gListM at e
    split at e
    · rename_i xs hx
      split at e
      · rename_i hl
        cases e
        refine ⟨ι, ρ, S, ds, _, hH, hE, h1, fun ι1 vs H1 w1 hH1 rv => ?_⟩
        have hr := datas_of rv hx
        refine ⟨?_, fun p hp => mk_aft q w1 hp hH1 hr⟩
        rw [hr.length]; exact Nat.le_of_lt (small1000 hl)
      · cases e
    · cases e
  · cases e
end

/-! ## comprehensions -/
def wipeE (ρ : Ev) : List Nat → Ev
  | [] => ρ
  | v :: vs => (wipeE ρ vs).set v none
theorem wipeE_len (ρ : Ev) : ∀ vs : List Nat, (wipeE ρ vs).length = ρ.length
  | [] => rfl
  | v :: vs => by unfold wipeE; rw [List.length_set, wipeE_len ρ vs]
theorem ER.wipe {K : Fg} {H : Hp} {ι : List Addr} {σ : L2.St} {ρ : Ev} (h : ER K H ι σ ρ) : ∀ vs : List Nat, ER K H ι (L2.wipe σ vs) (wipeE ρ vs)
  | [] => h
  | v :: vs => by
    have ih := ER.wipe h vs
    unfold L2.wipe wipeE
    refine ⟨by simp [ih.len], fun i d e => ?_⟩
    by_cases c : v = i
    · subst c
      by_cases hv : v < (wipeE ρ vs).length
      · rw [List.getElem?_set_self hv] at e; cases e
      · rw [List.getElem?_eq_none (by simpa using hv)] at e; cases e
    · rw [List.getElem?_set_ne c] at e
      obtain ⟨w, h1, h2⟩ := ih.at_ i d e
      exact ⟨w, by rw [List.getElem?_set_ne c]; exact h1, h2⟩
def compL (g : MG) (t : MB) (e : M) (ρ : Ev) : List Itm → List PyData → Sto → Rs (List PyData)
  | [], acc, S => some (acc, S)
  | d :: ds, acc, S => match g d ρ S with
    | some (ρ1, S1) => (match t ρ1 S1 with
      | some (true, S2) => (match e ρ1 S2 with
        | some (.p x, S3) => compL g t e ρ ds (acc ++ [x]) S3
        | _ => none)
      | some (false, S2) => compL g t e ρ ds acc S2
      | none => none)
    | none => none
def compR (g : MG) (t : MB) (e : M) (ρ : Ev) (n : Nat) : Nat → Nat → List PyData → Sto → Rs (List PyData)
  | 0, _, _, _ => none
  | f + 1, i, acc, S => match S[n]? with
    | some (.lst xs) => (match xs[i]? with
      | none => some (acc, S)
      | some d => (match g (.one (.p d)) ρ S with
        | some (ρ1, S1) => (match t ρ1 S1 with
          | some (true, S2) => (match e ρ1 S2 with
            | some (.p x, S3) => compR g t e ρ n f (i + 1) (acc ++ [x]) S3
            | _ => none)
          | some (false, S2) => compR g t e ρ n f (i + 1) acc S2
          | none => none)
        | none => none))
    | _ => none
def compA (it : MI) (g : MG) (t : MB) (e : M) (vs : List Nat) : Ev → Sto → Rs (List PyData) := fun ρ S => match it ρ S with
  | some (.its xs, S1) => compL g t e (wipeE ρ vs) xs [] S1
  | some (.lst n, S1) => compR g t e (wipeE ρ vs) n cap 0 [] S1
  | none => none
def mComp (it : MI) (g : MG) (t : MB) (e : M) (vs : List Nat) : M := fun ρ S => match compA it g t e vs ρ S with
  | some (acc, S1) => some (.p (.list acc), S1)
  | none => none
def mCompM (it : MI) (g : MG) (t : MB) (e : M) (vs : List Nat) : M := fun ρ S => match compA it g t e vs ρ S with
  | some (acc, S1) => some (.r S1.length, S1 ++ [.lst acc])
  | none => none
def bYes : MB := fun _ S => some (true, S)
theorem PTs.imp {X : Cx} {e : List Expr} {t u : TT} (h : PTs X e t) (i : ∀ σ H Q, u σ H Q → t σ H Q) : PTs X e u := ⟨fun pins s σ H Q I q => h.run pins s σ H Q I (i σ H Q q)⟩
theorem st_nil {X : Cx} : PTs X [] (tB' X.kw bYes) := PTs.imp pts_nil fun σ H Q ⟨ι, ρ, S, b, S', hH, hE, e, q⟩ => by
  cases e
  exact q ι H (Ext.refl _ _) hH
theorem st_one {X : Cx} {c : Expr} {b : MB} (h : PT X c (tB' X.kw b)) : PTs X [c] (tB' X.kw b) := pts_one h
/-- one turn -/
theorem comp_turn {K : Fg} {ws : List Nat} {g : MG} {t : MB} {e : M} {σ : L2.St} {ρ ρ1 : Ev} {ι : List Addr} {H : Hp} {S S1 : Sto} {x : V} {d : Itm} {D0 : Addr} {acc : List V} {Nx : Hp → Prop}
    (hH : HR K H ι S) (hE : ER K H ι (wipe σ ws) (wipeE ρ ws)) (rx : RI K H ι x d) (hD : H D0 = some (.lst acc)) (nD : D0 ∉ ι) (hz : acc.length < sizeLine)
    (h1 : g d (wipeE ρ ws) S = some (ρ1, S1))
    (h : (∃ S2, t ρ1 S1 = some (false, S2) ∧ ∀ ι' H', Ext ι H ι' H' → HR K H' ι' S2 → H' D0 = some (.lst acc) → Nx H') ∨
      ∃ S2 y S3, t ρ1 S1 = some (true, S2) ∧ e ρ1 S2 = some (.p y, S3) ∧ ∀ ι' H' v, Ext ι H ι' H' → HR K H' ι' S3 → H' D0 = some (.lst acc) → Rp K H' v y → D0 ∉ ι' → Nx (upd H' D0 (.lst (acc ++ [v])))) :
    tG K ws g x (wipe σ ws) H fun σ2 H2 => wipe σ2 ws = wipe σ ws ∧ tB' K t σ2 H2 fun b H3 =>
      if b = true then tE K e σ2 H3 fun y H4 => ∃ acc, H4 D0 = some (.lst acc) ∧ acc.length < sizeLine ∧ Nx (upd H4 D0 (.lst (acc ++ [y]))) else Nx H3 := by
  have ww : wipe (wipe σ ws) ws = wipe σ ws := by
    refine wipe_ext (wipe_length _ _) fun i hi => wipe_get hi
  refine ⟨ι, wipeE ρ ws, S, d, ρ1, S1, hH, hE, rx, h1, fun ι2 σ2 H2 w2 hH2 hE2 z2 => ⟨z2.trans ww, ?_⟩⟩
  have hD2 : H2 D0 = some (.lst acc) := w2.stay _ _ hD (.inr nD)
  have nD2 : D0 ∉ ι2 := fun z => by rcases w2.new _ z with z | z; exact nD z; rw [hD] at z; cases z
  rcases h with ⟨S2, ht, k⟩ | ⟨S2, y, S3, ht, he, k⟩
  · exact ⟨ι2, ρ1, S1, false, S2, hH2, hE2, ht, fun ι3 H3 w3 hH3 => iteF (k ι3 H3 (w2.trans w3) hH3 (w3.stay _ _ hD2 (.inr nD2)))⟩
  · refine ⟨ι2, ρ1, S1, true, S2, hH2, hE2, ht, fun ι3 H3 w3 hH3 => iteT ⟨ι3, ρ1, S2, _, S3, hH3, hE2.mono w3, he, fun ι4 v H4 w4 hH4 rv => ?_⟩⟩
    have w := (w2.trans w3).trans w4
    have hD4 := w.stay _ _ hD (.inr nD)
    refine ⟨acc, hD4, hz, k ι4 H4 v w hH4 hD4 rv fun z => ?_⟩
    rcases w.new _ z with z | z
    · exact nD z
    · rw [hD] at z; cases z
/-- the list at D0 grown -/
theorem HR.side {K : Fg} {H : Hp} {ι : List Addr} {S : Sto} {p : Addr} {o u : HO} (h : HR K H ι S) (hp : H p = some u) (fu : ¬ Firm u) (np : p ∉ ι) : HR K (upd H p o) ι S := by
  have k : Keep H (upd H p o) := Keep.mut hp fu
  refine ⟨h.len, h.nd, fun n a ob e1 e2 => ?_⟩
  have na : a ≠ p := fun z => by subst z; exact np (List.mem_of_getElem? e1)
  exact ObR.keep (fun o e => by rw [upd_ne na]; exact e) k (h.at_ n a ob e1 e2)
structure CompR (K : Fg) (ι : List Addr) (H : Hp) (ι' : List Addr) (H' : Hp) (D0 : Addr) : Prop where
  pre : ι <+: ι'
  new : ∀ a ∈ ι', a ∈ ι ∨ H a = none
  stay : ∀ a o, a ≠ D0 → H a = some o → (Firm o ∨ a ∉ ι) → H' a = some o
theorem comp_loop {K : Fg} {ws : List Nat} {mi : MI} {g : MG} {t : MB} {e : M} {σ : L2.St} {H : Hp} {ρ : Ev} {S S' : Sto} {ι : List Addr} {ds : List PyData} {Q : VK} (hH : HR K H ι S) (hE : ER K H ι σ ρ) (he : compA mi g t e ws ρ S = some (ds, S'))
    (q : ∀ ι' H' p xs, Ext ι H ι' H' → HR K H' ι' S' → H' p = none → RpA K H' xs ds → Q (.ref p) (upd H' p (.lst xs))) : tLc (tI K mi) (tG K ws g) (tB' K t) (tE K e) ws σ H Q := by
  unfold compA at he
  -- the heap without the list at D0
  have back : ∀ {ι1 ι' : List Addr} {H1 H' : Hp} {D0 : Addr} {acc : List V} {Sx : Sto}, H1 D0 = none → Ext ι1 (upd H1 D0 (.lst [])) ι' H' ∨ True → CompR K ι1 H1 ι' H' D0 → H' D0 = some (.lst acc) → D0 ∉ ι' → HR K H' ι' Sx → RpA K H' acc ds → Sx = S' → Ext ι H ι1 H1 → Q (.ref D0) H' := by
    intro ι1 ι' H1 H' D0 acc Sx hD _ c hD' nD' hH' hr eS w1
    subst eS
    have e1 : H' = upd (fun b => if b = D0 then none else H' b) D0 (.lst acc) := by
      funext b
      unfold upd
      by_cases z : b = D0
      · subst z; rw [if_pos rfl]; exact hD'
      · rw [if_neg z]; show H' b = if b = D0 then none else H' b; rw [if_neg z]
    have k : Keep H' (fun b => if b = D0 then none else H' b) := fun a o h f => by
      have na : a ≠ D0 := fun z => by subst z; rw [hD'] at h; cases h; exact f
      show (if a = D0 then none else H' a) = some o
      rw [if_neg na]; exact h
    rw [e1]
    refine q ι' _ D0 acc (w1.trans ⟨c.pre, c.new, fun a o h f => ?_⟩) ⟨hH'.len, hH'.nd, fun n a ob f1 f2 => ?_⟩ (if_pos rfl) (RpA.mono k _ _ hr)
    · have na : a ≠ D0 := fun z => by subst z; rw [hD] at h; cases h
      show (if a = D0 then none else H' a) = some o
      rw [if_neg na]
      exact c.stay a o na h f
    · have na : a ≠ D0 := fun z => by subst z; exact nD' (List.mem_of_getElem? f1)
      exact ObR.keep (fun o e => by show (if a = D0 then none else H' a) = _; rw [if_neg na]; exact e) k (hH'.at_ n a ob f1 f2)
  -- a turn's step, in CompR
  have stepR : ∀ {ι1 ι2 ι3 : List Addr} {H1 H2 H3 : Hp} {D0 : Addr}, H1 D0 = none → CompR K ι1 H1 ι2 H2 D0 → Ext ι2 H2 ι3 H3 → H2 D0 ≠ none → CompR K ι1 H1 ι3 H3 D0 := by
    intro ι1 ι2 ι3 H1 H2 H3 D0 hD c w hn
    refine ⟨c.pre.trans w.pre, fun a ha => ?_, fun a o na h f => ?_⟩
    · rcases w.new a ha with z | z
      · exact c.new a z
      · by_cases m : a ∈ ι1
        · exact .inl m
        · cases r : H1 a with
          | none => exact .inr rfl
          | some o =>
            have na : a ≠ D0 := fun z => by subst z; rw [hD] at r; cases r
            rw [c.stay a o na r (.inr m)] at z; cases z
    · refine w.stay a o (c.stay a o na h f) ?_
      rcases f with f | f
      · exact .inl f
      · refine .inr fun m => ?_
        rcases c.new a m with z | z
        · exact f z
        · rw [z] at h; cases h
  have putR : ∀ {ι1 ι2 : List Addr} {H1 H2 : Hp} {D0 : Addr} {o : HO}, CompR K ι1 H1 ι2 H2 D0 → CompR K ι1 H1 ι2 (upd H2 D0 o) D0 := by
    intro ι1 ι2 H1 H2 D0 o c
    exact ⟨c.pre, c.new, fun a u na h f => by rw [upd_ne na]; exact c.stay a u na h f⟩
  have keepR : ∀ {ι1 ι2 : List Addr} {H1 H2 : Hp} {D0 : Addr}, H1 D0 = none → CompR K ι1 H1 ι2 H2 D0 → Keep H1 H2 := by
    intro ι1 ι2 H1 H2 D0 hD c a o h f
    exact c.stay a o (fun z => by subst z; rw [hD] at h; cases h) h (.inl f)
  have erR : ∀ {ι1 ι2 : List Addr} {H1 H2 : Hp} {D0 : Addr} {σ : L2.St} {ρ : Ev}, H1 D0 = none → CompR K ι1 H1 ι2 H2 D0 → ER K H1 ι1 σ ρ → ER K H2 ι2 σ ρ := by
    intro ι1 ι2 H1 H2 D0 σ ρ hD c h
    refine ⟨h.len, fun i d e => ?_⟩
    obtain ⟨v, e1, e2⟩ := h.at_ i d e
    refine ⟨v, e1, ?_⟩
    cases d with
    | p d => exact Rp.mono (keepR hD c) d v e2
    | r n =>
      obtain ⟨a, h1, h2⟩ := e2
      exact ⟨a, by obtain ⟨t, ht⟩ := c.pre; rw [← ht, List.getElem?_append_left (List.getElem?_eq_some_iff.mp h1).1]; exact h1, h2⟩
  split at he
  · rename_i xs S1 h1
    refine ⟨ι, ρ, S, _, S1, hH, hE, h1, fun ι1 J H1 w1 hH1 hJ => fun D0 hD => ?_⟩
    have hJ : ItS K ι1 H1 J xs := hJ
    have nD1 : D0 ∉ ι1 := fun z => by obtain ⟨u, z1, _⟩ := hH1.mem z; rw [hD] at z1; cases z1
    have hEw : ER K H1 ι1 (wipe σ ws) (wipeE ρ ws) := (hE.mono w1).wipe ws
    refine ⟨fun i n H' => n = xs.length - i ∧ i ≤ xs.length ∧ ∃ ι' S2 acc va, CompR K ι1 H1 ι' H' D0 ∧ D0 ∉ ι' ∧ HR K H' ι' S2 ∧ H' D0 = some (.lst va) ∧ va.length ≤ i ∧ RpA K H' va acc ∧ compL g t e (wipeE ρ ws) (xs.drop i) acc S2 = some (ds, S'),
      ⟨_, rfl, Nat.zero_le _, ι1, S1, [], [], ⟨List.prefix_refl _, fun _ z => .inl z, fun a o na h _ => by rw [upd_ne na]; exact h⟩, nD1, hH1.same (Same.put hD), upd_same, Nat.le_refl _, .nil, by rw [List.drop_zero]; exact he⟩, ?_⟩
    rintro i n H' ⟨rfl, hil, ι', S2, acc, va, c, nD', hH', hD', hva, hra, hf⟩
    have kk : Keep H1 H' := keepR hD c
    by_cases hlt : i < xs.length
    · obtain ⟨d, hd, hdr⟩ := drop_eq hlt
      rw [hdr] at hf
      refine .inr ⟨hJ.go i H' hlt kk, fun H2 => ∃ ι2 S3 acc va, CompR K ι1 H1 ι2 H2 D0 ∧ D0 ∉ ι2 ∧ HR K H2 ι2 S3 ∧ H2 D0 = some (.lst va) ∧ va.length ≤ i + 1 ∧ RpA K H2 va acc ∧ compL g t e (wipeE ρ ws) (xs.drop (i + 1)) acc S3 = some (ds, S'),
        fun H2 z => ⟨xs.length - (i + 1), by omega, rfl, hlt, z⟩, fun x H3 hy => ?_⟩
      obtain ⟨sm, hrd⟩ := hJ.yld i H' x H3 hlt kk hy
      have w3 : Ext ι' H' ι' H3 := Ext.same sm
      have c3 : CompR K ι1 H1 ι' H3 D0 := stepR hD c w3 (by rw [hD']; exact fun z => by cases z)
      have hD3 : H3 D0 = some (.lst va) := sm _ _ hD'
      have rx := hrd d hd ι' c.pre
      unfold compL at hf
      split at hf
      · rename_i ρ1 S4 hg1
        refine comp_turn (hH'.same sm) (erR hD c3 hEw) rx hD3 nD' (by have := hJ.len; omega) hg1 ?_
        split at hf
        · rename_i S5 ht1
          split at hf
          · rename_i y S6 he1
            refine .inr ⟨S5, y, S6, ht1, he1, fun ι4 H4 v w4 hH4 hD4 rv nD4 => ?_⟩
            have c4 := stepR hD c3 w4 (by rw [hD3]; exact fun z => by cases z)
            have ku : Keep H4 (upd H4 D0 (.lst (va ++ [v]))) := Keep.mut hD4 (fun z => z)
            exact ⟨ι4, S6, acc ++ [y], va ++ [v], putR c4, nD4, hH4.side hD4 (fun z => z) nD4, upd_same, by simp; omega, (RpA.mono ku _ _ (RpA.mono w4.keep _ _ (RpA.mono w3.keep _ _ hra))).append (.cons (Rp.mono ku _ _ rv) .nil), hf⟩
          · cases hf
        · rename_i S5 ht1
          refine .inl ⟨S5, ht1, fun ι4 H4 w4 hH4 hD4 => ?_⟩
          have c4 := stepR hD c3 w4 (by rw [hD3]; exact fun z => by cases z)
          refine ⟨ι4, S5, acc, va, c4, fun z => ?_, hH4, hD4, by omega, RpA.mono w4.keep _ _ (RpA.mono w3.keep _ _ hra), hf⟩
          rcases w4.new _ z with z | z
          · exact nD' z
          · rw [hD3] at z; cases z
        · cases hf
      · cases hf
    · have ei : i = xs.length := by omega
      subst ei
      rw [List.drop_length] at hf
      unfold compL at hf
      cases hf
      exact .inl ⟨hJ.stop H' kk, back hD (.inr trivial) c hD' nD' hH' hra rfl w1⟩
  · rename_i n S1 h1
    refine ⟨ι, ρ, S, _, S1, hH, hE, h1, fun ι1 J H1 w1 hH1 hJ => fun D0 hD => ?_⟩
    obtain ⟨a, ha, rfl⟩ : ∃ a, ι1[n]? = some a ∧ J = Itl K a := hJ
    have nD1 : D0 ∉ ι1 := fun z => by obtain ⟨u, z1, _⟩ := hH1.mem z; rw [hD] at z1; cases z1
    have hEw : ER K H1 ι1 (wipe σ ws) (wipeE ρ ws) := (hE.mono w1).wipe ws
    refine ⟨fun i f H' => i + f = cap ∧ ∃ ι' S2 acc va, CompR K ι1 H1 ι' H' D0 ∧ D0 ∉ ι' ∧ HR K H' ι' S2 ∧ H' D0 = some (.lst va) ∧ va.length ≤ i ∧ RpA K H' va acc ∧ compR g t e (wipeE ρ ws) n f i acc S2 = some (ds, S'),
      ⟨cap, by omega, ι1, S1, [], [], ⟨List.prefix_refl _, fun _ z => .inl z, fun a o na h _ => by rw [upd_ne na]; exact h⟩, nD1, hH1.same (Same.put hD), upd_same, Nat.le_refl _, .nil, he⟩, ?_⟩
    rintro i f H' ⟨hif, ι', S2, acc, va, c, nD', hH', hD', hva, hra, hf⟩
    have ha' : ι'[n]? = some a := by obtain ⟨t, ht⟩ := c.pre; rw [← ht, List.getElem?_append_left (List.getElem?_eq_some_iff.mp ha).1]; exact ha
    cases f with
    | zero => cases hf
    | succ f =>
      unfold compR at hf
      split at hf
      · rename_i xs hn
        obtain ⟨vs, hv, rv⟩ := hH'.at_ n a _ ha' hn
        split at hf
        · rename_i hx
          cases hf
          refine .inl ⟨⟨vs, SqL.of hv, ?_⟩, back hD (.inr trivial) c hD' nD' hH' hra rfl w1⟩
          rw [rv.length]
          exact List.getElem?_eq_none_iff.mp hx
        · rename_i d hx
          obtain ⟨v, hvi, rd⟩ := rv.get hx
          refine .inr ⟨⟨vs, v, SqL.of hv, hvi⟩, fun H2 => ∃ ι2 S3 acc va, CompR K ι1 H1 ι2 H2 D0 ∧ D0 ∉ ι2 ∧ HR K H2 ι2 S3 ∧ H2 D0 = some (.lst va) ∧ va.length ≤ i + 1 ∧ RpA K H2 va acc ∧ compR g t e (wipeE ρ ws) n f (i + 1) acc S3 = some (ds, S'),
            fun H2 z => ⟨f, Nat.lt_succ_self _, by omega, z⟩, fun x H3 hy => ?_⟩
          obtain ⟨rfl, hy⟩ := hy
          have ex : x = v := Option.some.inj ((hy vs (SqL.of hv)).symm.trans hvi)
          subst ex
          split at hf
          · rename_i ρ1 S4 hg1
            have hcap : cap < sizeLine := by decide
            refine comp_turn hH' (erR hD c hEw) (show RI K H3 ι' x (.one (.p d)) from rd) hD' nD' (by omega) hg1 ?_
            split at hf
            · rename_i S5 ht1
              split at hf
              · rename_i y S6 he1
                refine .inr ⟨S5, y, S6, ht1, he1, fun ι4 H4 v w4 hH4 hD4 rv nD4 => ?_⟩
                have c4 := stepR hD c w4 (by rw [hD']; exact fun z => by cases z)
                have ku : Keep H4 (upd H4 D0 (.lst (va ++ [v]))) := Keep.mut hD4 (fun z => z)
                exact ⟨ι4, S6, acc ++ [y], va ++ [v], putR c4, nD4, hH4.side hD4 (fun z => z) nD4, upd_same, by simp; omega, (RpA.mono ku _ _ (RpA.mono w4.keep _ _ hra)).append (.cons (Rp.mono ku _ _ rv) .nil), hf⟩
              · cases hf
            · rename_i S5 ht1
              refine .inl ⟨S5, ht1, fun ι4 H4 w4 hH4 hD4 => ?_⟩
              have c4 := stepR hD c w4 (by rw [hD']; exact fun z => by cases z)
              refine ⟨ι4, S5, acc, va, c4, fun z => ?_, hH4, hD4, by omega, RpA.mono w4.keep _ _ hra, hf⟩
              rcases w4.new _ z with z | z
              · exact nD' z
              · rw [hD'] at z; cases z
            · cases hf
          · cases hf
      · cases hf
  · cases he
theorem imp_comp {K : Fg} {ws : List Nat} {mi : MI} {g : MG} {t : MB} {e : M} {σ : L2.St} {H : Hp} {Q : VK} (h : tE K (mComp mi g t e ws) σ H Q) : tLc (tI K mi) (tG K ws g) (tB' K t) (tE K e) ws σ H (fzQ Q) := by
  obtain ⟨ι, ρ, S, z, S', hH, hE, e, q⟩ := h
  unfold mComp at e
  split at e
  · rename_i acc S1 h1
    cases e
    exact comp_loop hH hE h1 fun ι' H' p xs w hH' hp hr => fz_aft q w hp hH' hr
  · cases e
theorem imp_compM {K : Fg} {ws : List Nat} {mi : MI} {g : MG} {t : MB} {e : M} {σ : L2.St} {H : Hp} {Q : VK} (h : tE K (mCompM mi g t e ws) σ H Q) : tLc (tI K mi) (tG K ws g) (tB' K t) (tE K e) ws σ H Q := by
  obtain ⟨ι, ρ, S, z, S', hH, hE, e, q⟩ := h
  unfold mCompM at e
  split at e
  · rename_i acc S1 h1
    cases e
    exact comp_loop hH hE h1 fun ι' H' p xs w hH' hp hr => mk_aft q w hp hH' hr
  · cases e
end Tm
namespace Tm
open PySem L2

/-! ## primitives: numbers, comparisons -/
abbrev I64 (i : Int) : Prop := -(2 ^ 64) < i ∧ i < 2 ^ 64
def ok (d : PyData) (S : Sto) : Rs D := some (.p d, S)
theorem fin {K : Fg} {H : Hp} {ι : List Addr} {v : V} {z : D} {S : Sto} {Q : VK} (q : Aft K H ι z S Q) (hH : HR K H ι S) (r : RD K H ι v z) : Q v H := q ι v H (Ext.refl _ _) hH r
theorem int_of {K : Fg} {H : Hp} {ι : List Addr} {v : V} {i : Int} (h : RD K H ι v (.p (.int i))) : v = .int i := by cases h; rfl
theorem str_of {K : Fg} {H : Hp} {ι : List Addr} {v : V} {i : Str} (h : RD K H ι v (.p (.str i))) : v = .str i := by cases h; rfl
/-- the items of a list (not of a tuple) -/
def listOf (d : D) (S : Sto) : Option (List PyData) := match d with
  | .p (.list xs) => some xs
  | .r n => (match S[n]? with
    | some (.lst xs) => some xs
    | _ => none)
  | _ => none
theorem list_of {K : Fg} {H : Hp} {ι : List Addr} {S : Sto} {v : V} {d : D} {ds : List PyData} (hH : HR K H ι S) (r : RD K H ι v d) (h : listOf d S = some ds) : ∃ a xs, v = .ref a ∧ LstR K H a xs ∧ RpA K H xs ds := by
  unfold listOf at h
  split at h
  · cases h
    cases r with
    | lst h1 h2 => exact ⟨_, _, rfl, h1.rd, h2⟩
  · rename_i n
    split at h
    · rename_i xs e
      cases h
      obtain ⟨a, ha, rfl⟩ := r
      obtain ⟨xs, h1, h2⟩ := hH.at_ n a _ ha e
      exact ⟨a, xs, rfl, .inl (.inl h1), h2⟩
    · cases h
  · cases h
theorem tup_of {K : Fg} {H : Hp} {ι : List Addr} {v : V} {ds : List PyData} (r : RD K H ι v (.p (.tuple ds))) : ∃ a xs, v = .ref a ∧ TupS K H a xs ∧ RpA K H xs ds := by
  cases r with
  | tup h1 h2 => exact ⟨_, _, rfl, h1, h2⟩
/-- the data of a value, a list of the store read -/
def dataOf (d : D) (S : Sto) : Option PyData := match d with
  | .p d => some d
  | .r n => (match S[n]? with
    | some (.lst xs) => some (.list xs)
    | _ => none)
theorem data_of {K : Fg} {H : Hp} {ι : List Addr} {S : Sto} {v : V} {d : D} {e : PyData} (hH : HR K H ι S) (r : RD K H ι v d) (h : dataOf d S = some e) : Dp K H v e := by
  unfold dataOf at h
  split at h
  · cases h
    exact Rp.dp _ _ r
  · rename_i n
    split at h
    · rename_i xs e
      cases h
      obtain ⟨a, ha, rfl⟩ := r
      obtain ⟨ys, h1, h2⟩ := hH.at_ n a _ ha e
      exact .lst (SqL.of h1) (RpA.dp _ _ h2)
    · cases h

def Lim : Nat := 16777216
def gAdd : D → D → Sto → Rs D := fun a b S => match a, b with
  | .p (.int i), .p (.int j) => ok (.int (i + j)) S
  | .p (.str x), .p (.str y) => if x.length + y.length ≤ Lim then ok (.str (x ++ y)) S else none
  | .p (.tuple xs), .p (.tuple ys) => if xs.length + ys.length ≤ Lim then ok (.tuple (xs ++ ys)) S else none
  | a, b => (match listOf a S, listOf b S with
    | some xs, some ys => if xs.length + ys.length ≤ Lim then ok (.list (xs ++ ys)) S else none
    | _, _ => none)
def gSub : D → D → Sto → Rs D := fun a b S => match a, b with
  | .p (.int i), .p (.int j) => ok (.int (i - j)) S
  | _, _ => none
def small (i : Int) : Bool := decide (-(2 ^ 64) < i) && decide (i < 2 ^ 64)
def gMul : D → D → Sto → Rs D := fun a b S => match a, b with
  | .p (.int i), .p (.int j) => if small i || small j then ok (.int (i * j)) S else none
  | _, _ => none
def gDiv : D → D → Sto → Rs D := fun a b S => match a, b with
  | .p (.int i), .p (.int j) => if 0 < j ∧ j < 1073741824 then ok (.int (i / j)) S else none
  | _, _ => none
def gMod : D → D → Sto → Rs D := fun a b S => match a, b with
  | .p (.int i), .p (.int j) => if 0 < j then ok (.int (i % j)) S else none
  | _, _ => none
def gPow : D → D → Sto → Rs D := fun a b S => match a, b with
  | .p (.int i), .p (.int j) => if 0 ≤ j ∧ j ≤ 1000 ∧ i.natAbs < 1000 then ok (.int (i ^ j.toNat)) S else none
  | _, _ => none
def gNeg : D → Sto → Rs D := fun a S => match a with
  | .p (.int i) => ok (.int (-i)) S
  | _ => none
section
variable {X : Cx}
theorem OpR.imp {f : Value → Value → Sem Value} {r u : R2} (h : OpR X f r) (i : ∀ x y H Q, u x y H Q → r x y H Q) : OpR X f u := fun pins s σ H x y v w Q I rx ry q => h pins s σ H x y v w Q I rx ry (i x y H Q q)
theorem o_sub : OpR X (binaryOp .Sub) (r2 X.kw gSub) := OpR.imp op_sub fun x y H Q ⟨ι, S, d, e, z, S', hH, rd, re, h, q⟩ => by
  unfold gSub ok at h
  split at h
  · cases h; exact ⟨_, _, int_of rd, int_of re, fin q hH (.int _)⟩
  · cases h
theorem o_mul : OpR X (binaryOp .Mult) (r2 X.kw gMul) := OpR.imp op_mul fun x y H Q ⟨ι, S, d, e, z, S', hH, rd, re, h, q⟩ => by
  unfold gMul ok small at h
  split at h
  · split at h
    · rename_i hs
      cases h
      refine ⟨_, _, int_of rd, int_of re, ?_, fin q hH (.int _)⟩
      simpa [CMul] using hs
    · cases h
  · cases h
theorem o_div : OpR X (binaryOp .FloorDiv) (r2 X.kw gDiv) := OpR.imp op_fdiv fun x y H Q ⟨ι, S, d, e, z, S', hH, rd, re, h, q⟩ => by
  unfold gDiv ok at h
  split at h
  · split at h
    · rename_i hs
      cases h
      exact ⟨_, _, int_of rd, int_of re, hs, fin q hH (.int _)⟩
    · cases h
  · cases h
theorem o_mod : OpR X (binaryOp .Mod) (r2 X.kw gMod) := OpR.imp op_mod fun x y H Q ⟨ι, S, d, e, z, S', hH, rd, re, h, q⟩ => by
  unfold gMod ok at h
  split at h
  · split at h
    · rename_i hs
      cases h
      exact ⟨_, _, int_of rd, int_of re, hs, fin q hH (.int _)⟩
    · cases h
  · cases h
theorem o_pow : OpR X (binaryOp .Pow) (r2 X.kw gPow) := OpR.imp op_pow fun x y H Q ⟨ι, S, d, e, z, S', hH, rd, re, h, q⟩ => by
  unfold gPow ok at h
  split at h
  · split at h
    · rename_i hs
      cases h
      exact ⟨_, _, int_of rd, int_of re, ⟨hs.1, by omega, Nat.lt_trans hs.2.2 (by decide)⟩, fin q hH (.int _)⟩
    · cases h
  · cases h
theorem o_neg : UnR X (unaryOp .USub) (r1 X.kw gNeg) := fun pins s σ H x v Q I rx ⟨ι, S, d, z, S', hH, rd, h, q⟩ => by
  refine un_neg pins s σ H x v Q I rx ?_
  unfold gNeg ok at h
  split at h
  · cases h; exact ⟨_, int_of rd, fin q hH (.int _)⟩
  · cases h
/-- two lists put together, wherever they stand -/
theorem op_catL : OpR X (binaryOp .Add) (fun x y H Q => ∃ l b xs zs, x = .ref l ∧ y = .ref b ∧ LstR X.kw H l xs ∧ LstR X.kw H b zs ∧ xs.length + zs.length ≤ sizeLine ∧ ∀ p, H p = none → fzQ Q (.ref p) (upd H p (.lst (xs ++ zs)))) := by
  intro pins s σ H x y v u Q I rx ry h
  obtain ⟨l, b, xs, zs, rfl, rfl, hH, hB, hz, q⟩ := h
  cases rx
  cases ry
  obtain ⟨its, n, r, e, hl⟩ := hH.obj I
  obtain ⟨its2, n2, r2, e2, hl2⟩ := hB.obj I
  have h1 := r.length
  have h2 := r2.length
  refine PySem.P.add_list e e2 ?_ (by rw [List.size_toArray, List.size_toArray]; omega)
  have ea : its.toArray ++ its2.toArray = (its ++ its2).toArray := by simp
  rw [ea]
  exact EP.freeze ⟨.ref _, _, I.lnew (t' := s.toks) (r.append r2) (by rw [List.length_append]; omega), rfl, q _ I.fresh⟩
/-- two tuples put together -/
theorem op_catF : OpR X (binaryOp .Add) (fun x y H Q => ∃ a b xs ys, x = .ref a ∧ y = .ref b ∧ SqT X.kw H a xs ∧ SqT X.kw H b ys ∧ xs.length + ys.length ≤ sizeLine ∧
    (xs = [] → Q (.ref b) H) ∧ (xs ≠ [] → ys = [] → Q (.ref a) H) ∧ (xs ≠ [] → ys ≠ [] → ∀ p o, H p = none → o.dict = none → Q (.ref p) (upd H p (.frz o (.tup (xs ++ ys)))))) := by
  intro pins s σ H x y v u Q I rx ry h
  obtain ⟨a, b, xs, ys, rfl, rfl, ha, hb, hz, q0, q1, q2⟩ := h
  by_cases hx : xs = []
  · subst hx
    exact op_catA pins s σ H _ _ v u Q I rx ry ⟨a, b, [], ys, rfl, rfl, ha, hb, hz, q0, fun z => absurd rfl z, fun z => absurd rfl z⟩
  · cases rx
    cases ry
    obtain ⟨its, r1, p1, _⟩ := I.tuple ha
    obtain ⟨its2, r2, p2, _⟩ := I.tuple hb
    refine HT.cat_tup p1 p2 (fun z => hx (r1.nil_iff.mp z)) (fun z => ⟨.ref a, H, I, rfl, q1 hx (r2.nil_iff.mp z)⟩) (fun z => ?_) (by rw [← r1.length, ← r2.length]; exact hz)
    exact new_tup (tk := s.toks) I (r1.append r2) (by rw [List.length_append]; exact hz) (q2 hx fun w => z (r2.nil_iff.mpr w))
theorem Lim_le : Lim ≤ sizeLine := by decide
theorem o_add : OpR X (binaryOp .Add) (r2 X.kw gAdd) := fun pins s σ H x y v u Q I rx ry ⟨ι, S, d, e, z, S', hH, rd, re, h, q⟩ => by
  have L := Lim_le
  unfold gAdd ok at h
  split at h
  · cases h
    exact op_add pins s σ H x y v u Q I rx ry ⟨_, _, int_of rd, int_of re, fin q hH (.int _)⟩
  · split at h
    · cases h
      exact op_add_str pins s σ H x y v u Q I rx ry ⟨_, _, str_of rd, str_of re, by omega, fin q hH (.str _)⟩
    · cases h
  · split at h
    · rename_i hl
      cases h
      obtain ⟨a, xs, rfl, h1, h2⟩ := tup_of rd
      obtain ⟨b, ys, rfl, h3, h4⟩ := tup_of re
      have l1 := h2.length
      have l2 := h4.length
      refine op_catF pins s σ H _ _ v u Q I rx ry ⟨a, b, xs, ys, rfl, rfl, h1.sq, h3.sq, by omega, fun hx => ?_, fun hx hy => ?_, fun hx hy p o hp ho => tup_aft q (Ext.refl _ _) hp ho hH (h2.append h4)⟩
      · subst hx
        cases h2
        exact fin q hH (.tup h3 h4)
      · subst hy
        cases h4
        rw [List.append_nil] at q
        exact fin q hH (.tup h1 h2)
    · cases h
  · split at h
    · rename_i xs ys e1 e2
      split at h
      · cases h
        obtain ⟨a, xs, rfl, h1, h2⟩ := list_of hH rd e1
        obtain ⟨b, ys, rfl, h3, h4⟩ := list_of hH re e2
        have l1 := h2.length
        have l2 := h4.length
        exact op_catL pins s σ H _ _ v u Q I rx ry ⟨a, b, xs, ys, rfl, rfl, h1, h3, by omega, fun p hp => fz_aft q (Ext.refl _ _) hp hH (h2.append h4)⟩
      · cases h
    · cases h
end
/-! ## comparisons -/
def scalD : PyData → PyData → Bool
  | .none, .none => true | .none, .int _ => true | .int _, .none => true | .none, .bool _ => true | .bool _, .none => true | .none, .str _ => true | .str _, .none => true
  | .int _, .int _ => true | .bool _, .bool _ => true | .str _, .str _ => true
  | .int _, .str _ => true | .str _, .int _ => true | .bool _, .str _ => true | .str _, .bool _ => true
  | _, _ => false
def eqD (a b : D) (S : Sto) : Option Bool := match dataOf a S, dataOf b S with
  | some x, some y => if scalD x y || (SeqAt.shaped x && SeqAt.shaped y) then some (PyData.eqv x y) else none
  | _, _ => none
def gEq : D → D → Sto → Rs D := fun a b S => match eqD a b S with
  | some k => ok (.bool k) S
  | none => none
def gNe : D → D → Sto → Rs D := fun a b S => match eqD a b S with
  | some k => ok (.bool (!k)) S
  | none => none
def gLt : D → D → Sto → Rs D := fun a b S => match a, b with
  | .p (.int i), .p (.int j) => ok (.bool (decide (i < j))) S
  | .p (.str i), .p (.str j) => ok (.bool (decide (i.cps.toList < j.cps.toList))) S
  | _, _ => none
def gLe : D → D → Sto → Rs D := fun a b S => match a, b with
  | .p (.int i), .p (.int j) => ok (.bool (decide (i ≤ j))) S
  | _, _ => none
def gGt : D → D → Sto → Rs D := fun a b S => match a, b with
  | .p (.int i), .p (.int j) => ok (.bool (decide (j < i))) S
  | _, _ => none
def gGe : D → D → Sto → Rs D := fun a b S => match a, b with
  | .p (.int i), .p (.int j) => ok (.bool (decide (j ≤ i))) S
  | _, _ => none
def inD (a b : D) (S : Sto) : Option Bool := match dataOf a S, dataOf b S with
  | some (.str x), some (.str z) => (match x.cps.toList with
    | [c] => some (decide (c ∈ z.cps.toList))
    | _ => none)
  | some x, some (.list ys) => if SeqAt.shaped x && SeqAt.shaped (.list ys) then some (ys.any fun z => PyData.eqv z x) else none
  | some x, some (.tuple ys) => if SeqAt.shaped x && SeqAt.shaped (.tuple ys) then some (ys.any fun z => PyData.eqv z x) else none
  | _, _ => none
def gIn : D → D → Sto → Rs D := fun a b S => match inD a b S with
  | some k => ok (.bool k) S
  | none => none
def gNotIn : D → D → Sto → Rs D := fun a b S => match inD a b S with
  | some k => ok (.bool (!k)) S
  | none => none
def isD (a b : D) : Option Bool := match a, b with
  | .p (.bool x), .p (.bool y) => some (decide (x = y))
  | .p x, .p .none => (match x with
    | .none => some true
    | _ => some false)
  | .r _, .p .none => some false
  | _, _ => none
def gIs : D → D → Sto → Rs D := fun a b S => match isD a b with
  | some k => ok (.bool k) S
  | none => none
def gIsNot : D → D → Sto → Rs D := fun a b S => match isD a b with
  | some k => ok (.bool (!k)) S
  | none => none
section
variable {X : Cx}
theorem eqv_scal {K : Fg} {H : Hp} {x y : V} {d e : PyData} (h : scalD d e = true) (hx : Dp K H x d) (hy : Dp K H y e) : scal x y = true ∧ decide (x = y) = PyData.eqv d e := by
  unfold scalD at h
  split at h <;> first | (cases h; done) | (cases hx; cases hy; refine ⟨rfl, ?_⟩; simp [PyData.eqv]; done) | (cases hx; cases hy; refine ⟨rfl, ?_⟩; simp only [PyData.eqv]; first | exact dec_int | exact dec_bl | exact dec_str)
theorem eq_road (hu : X.A.units + 64 < cLine) {a b : D} {S : Sto} {k : Bool} {pins : List (Addr × Obj)} {s : Shared} {σ : L2.St} {H : Hp} {ι : List Addr} {x y : V} {v u : Value} {Q : VK} (I : Inv X pins σ H s) (rx : RelV x v) (ry : RelV y u) (hH : HR X.kw H ι S) (rd : RD X.kw H ι x a) (re : RD X.kw H ι y b)
    (h : eqD a b S = some k) : (Q (.bl k) H → wpAny (model X.prog X.w) X.A (compareOp .Eq v u) (EP X pins σ Q) X.xe s) ∧ (Q (.bl (!k)) H → wpAny (model X.prog X.w) X.A (compareOp .NotEq v u) (EP X pins σ Q) X.xe s) := by
  unfold eqD at h
  split at h
  · rename_i d e e1 e2
    have hd := data_of hH rd e1
    have he := data_of hH re e2
    split at h
    · rename_i hs
      cases h
      rcases Bool.or_eq_true_iff.mp hs with hs | hs
      · obtain ⟨h1, h2⟩ := eqv_scal hs hd he
        rw [← h2]
        exact ⟨fun q => op_eq pins s σ H x y v u Q I rx ry ⟨h1, q⟩, fun q => op_ne pins s σ H x y v u Q I rx ry ⟨h1, q⟩⟩
      · obtain ⟨h1, h2⟩ := Bool.and_eq_true_iff.mp hs
        exact ⟨fun q => op_eqD hu pins s σ H x y v u Q I rx ry ⟨_, _, hd, he, h1, h2, q⟩, fun q => op_neD hu pins s σ H x y v u Q I rx ry ⟨_, _, hd, he, h1, h2, q⟩⟩
    · cases h
  · cases h
theorem o_eq (hu : X.A.units + 64 < cLine) : OpR X (compareOp .Eq) (r2 X.kw gEq) := fun pins s σ H x y v u Q I rx ry ⟨ι, S, d, e, z, S', hH, rd, re, h, q⟩ => by
  unfold gEq ok at h
  split at h
  · rename_i k hk
    cases h
    exact (eq_road hu I rx ry hH rd re hk).1 (fin q hH (.bl _))
  · cases h
theorem o_ne (hu : X.A.units + 64 < cLine) : OpR X (compareOp .NotEq) (r2 X.kw gNe) := fun pins s σ H x y v u Q I rx ry ⟨ι, S, d, e, z, S', hH, rd, re, h, q⟩ => by
  unfold gNe ok at h
  split at h
  · rename_i k hk
    cases h
    exact (eq_road hu I rx ry hH rd re hk).2 (fin q hH (.bl _))
  · cases h
theorem o_lt : OpR X (compareOp .Lt) (r2 X.kw gLt) := fun pins s σ H x y v u Q I rx ry ⟨ι, S, d, e, z, S', hH, rd, re, h, q⟩ => by
  unfold gLt ok at h
  split at h
  · cases h; exact op_lt pins s σ H x y v u Q I rx ry ⟨_, _, int_of rd, int_of re, fin q hH (.bl _)⟩
  · cases h; exact op_lt_str pins s σ H x y v u Q I rx ry ⟨_, _, str_of rd, str_of re, fin q hH (.bl _)⟩
  · cases h
theorem o_le : OpR X (compareOp .LtE) (r2 X.kw gLe) := OpR.imp op_le fun x y H Q ⟨ι, S, d, e, z, S', hH, rd, re, h, q⟩ => by
  unfold gLe ok at h
  split at h
  · cases h; exact ⟨_, _, int_of rd, int_of re, fin q hH (.bl _)⟩
  · cases h
theorem o_gt : OpR X (compareOp .Gt) (r2 X.kw gGt) := OpR.imp op_gt fun x y H Q ⟨ι, S, d, e, z, S', hH, rd, re, h, q⟩ => by
  unfold gGt ok at h
  split at h
  · cases h; exact ⟨_, _, int_of rd, int_of re, fin q hH (.bl _)⟩
  · cases h
theorem o_ge : OpR X (compareOp .GtE) (r2 X.kw gGe) := OpR.imp op_ge fun x y H Q ⟨ι, S, d, e, z, S', hH, rd, re, h, q⟩ => by
  unfold gGe ok at h
  split at h
  · cases h; exact ⟨_, _, int_of rd, int_of re, fin q hH (.bl _)⟩
  · cases h
theorem in_road (hu : X.A.units + 65 < cLine) {a b : D} {S : Sto} {k : Bool} {pins : List (Addr × Obj)} {s : Shared} {σ : L2.St} {H : Hp} {ι : List Addr} {x y : V} {v u : Value} {Q : VK} (I : Inv X pins σ H s) (rx : RelV x v) (ry : RelV y u) (hH : HR X.kw H ι S) (rd : RD X.kw H ι x a) (re : RD X.kw H ι y b)
    (h : inD a b S = some k) : (Q (.bl k) H → wpAny (model X.prog X.w) X.A (compareOp .In v u) (EP X pins σ Q) X.xe s) ∧ (Q (.bl (!k)) H → wpAny (model X.prog X.w) X.A (compareOp .NotIn v u) (EP X pins σ Q) X.xe s) := by
  unfold inD at h
  split at h
  · rename_i c z e1 e2
    have hd := data_of hH rd e1
    have he := data_of hH re e2
    cases hd
    cases he
    split at h
    · rename_i c' hc
      cases h
      have ec : c = ⟨#[c']⟩ := by
        cases c with
        | mk cs =>
          have : cs = #[c'] := by rw [← Array.toArray_toList (xs := cs), hc]
          rw [this]
      subst ec
      exact ⟨fun q => op_in_sign pins s σ H _ _ v u Q I rx ry ⟨c', _, rfl, rfl, q⟩, fun q => op_notIn_sign pins s σ H _ _ v u Q I rx ry ⟨c', _, rfl, rfl, q⟩⟩
    · cases h
  · rename_i d ys _ e1 e2
    have hd := data_of hH rd e1
    have he := data_of hH re e2
    split at h
    · rename_i hs
      cases h
      obtain ⟨h1, h2⟩ := Bool.and_eq_true_iff.mp hs
      exact ⟨fun q => op_inD hu pins s σ H x y v u Q I rx ry ⟨_, _, hd, he, h1, h2, q⟩, fun q => op_notInD hu pins s σ H x y v u Q I rx ry ⟨_, _, hd, he, h1, h2, q⟩⟩
    · cases h
  · rename_i d ys e1 e2
    have hd := data_of hH rd e1
    have he := data_of hH re e2
    split at h
    · rename_i hs
      cases h
      obtain ⟨h1, h2⟩ := Bool.and_eq_true_iff.mp hs
      obtain ⟨as, r1⟩ := Dp.reads I _ x v hd rx
      obtain ⟨bs, r2⟩ := Dp.reads I _ y u he ry
      have h2' : PyData.canLayAll0 ys = true := SeqAt.canLay_of_shaped h2
      exact ⟨fun q => SeqAt.in_tuple_reads r2 r1 h2' (SeqAt.canLay_of_shaped h1) (PyProof.Rows.room_in_shaped h1 hu) ⟨.bl _, H, I, rfl, q⟩, fun q => SeqAt.notIn_tuple_reads r2 r1 h2' (SeqAt.canLay_of_shaped h1) (PyProof.Rows.room_in_shaped h1 hu) ⟨.bl _, H, I, rfl, q⟩⟩
    · cases h
  · cases h
theorem o_in (hu : X.A.units + 65 < cLine) : OpR X (compareOp .In) (r2 X.kw gIn) := fun pins s σ H x y v u Q I rx ry ⟨ι, S, d, e, z, S', hH, rd, re, h, q⟩ => by
  unfold gIn ok at h
  split at h
  · rename_i k hk
    cases h
    exact (in_road hu I rx ry hH rd re hk).1 (fin q hH (.bl _))
  · cases h
theorem o_notIn (hu : X.A.units + 65 < cLine) : OpR X (compareOp .NotIn) (r2 X.kw gNotIn) := fun pins s σ H x y v u Q I rx ry ⟨ι, S, d, e, z, S', hH, rd, re, h, q⟩ => by
  unfold gNotIn ok at h
  split at h
  · rename_i k hk
    cases h
    exact (in_road hu I rx ry hH rd re hk).2 (fin q hH (.bl _))
  · cases h
theorem is_road {a b : D} {S : Sto} {k : Bool} {pins : List (Addr × Obj)} {s : Shared} {σ : L2.St} {H : Hp} {ι : List Addr} {x y : V} {v u : Value} {Q : VK} (I : Inv X pins σ H s) (rx : RelV x v) (ry : RelV y u) (hH : HR X.kw H ι S) (rd : RD X.kw H ι x a) (re : RD X.kw H ι y b)
    (h : isD a b = some k) : (Q (.bl k) H → wpAny (model X.prog X.w) X.A (compareOp .Is v u) (EP X pins σ Q) X.xe s) ∧ (Q (.bl (!k)) H → wpAny (model X.prog X.w) X.A (compareOp .IsNot v u) (EP X pins σ Q) X.xe s) := by
  unfold isD at h
  split at h
  · cases h
    exact ⟨fun q => op_isBl pins s σ H x y v u Q I rx ry ⟨_, _, bl_of rd, bl_of re, q⟩, fun q => op_notBl pins s σ H x y v u Q I rx ry ⟨_, _, bl_of rd, bl_of re, q⟩⟩
  · rename_i d
    have hy : y = .non := by cases re; rfl
    have hk : k = decide (x = .non) := by
      split at h
      · cases h
        have : x = .non := by cases rd; rfl
        subst this; rfl
      · rename_i hn
        cases h
        refine (decide_eq_false fun hx => ?_).symm
        subst hx
        cases rd
        exact hn rfl
    subst hk
    exact ⟨fun q => op_isN pins s σ H x y v u Q I rx ry ⟨hy, q⟩, fun q => op_notN pins s σ H x y v u Q I rx ry ⟨hy, q⟩⟩
  · rename_i n
    have hy : y = .non := by cases re; rfl
    cases h
    obtain ⟨a, _, rfl⟩ := rd
    exact ⟨fun q => op_isN pins s σ H _ y v u Q I rx ry ⟨hy, q⟩, fun q => op_notN pins s σ H _ y v u Q I rx ry ⟨hy, q⟩⟩
  · cases h
theorem o_is : OpR X (compareOp .Is) (r2 X.kw gIs) := fun pins s σ H x y v u Q I rx ry ⟨ι, S, d, e, z, S', hH, rd, re, h, q⟩ => by
  unfold gIs ok at h
  split at h
  · rename_i k hk
    cases h
    exact (is_road I rx ry hH rd re hk).1 (fin q hH (.bl _))
  · cases h
theorem o_isNot : OpR X (compareOp .IsNot) (r2 X.kw gIsNot) := fun pins s σ H x y v u Q I rx ry ⟨ι, S, d, e, z, S', hH, rd, re, h, q⟩ => by
  unfold gIsNot ok at h
  split at h
  · rename_i k hk
    cases h
    exact (is_road I rx ry hH rd re hk).2 (fin q hH (.bl _))
  · cases h
end
end Tm
namespace Tm
open PySem L2

/-! ## built-in calls -/
def gLen : List D → Sto → Rs D := fun ds S => match ds with
  | [d] => (match dataOf d S with
    | some (.list xs) => ok (.int xs.length) S
    | some (.tuple xs) => ok (.int xs.length) S
    | some (.str x) => if x.length ≤ Lim then ok (.int x.length) S else none
    | _ => none)
  | _ => none
def gMax : List D → Sto → Rs D := fun ds S => match ds with
  | [.p (.int i), .p (.int j)] => ok (.int (if j > i then j else i)) S
  | _ => none
def gMin : List D → Sto → Rs D := fun ds S => match ds with
  | [.p (.int i), .p (.int j)] => ok (.int (if j < i then j else i)) S
  | _ => none
def gInt : List D → Sto → Rs D := fun ds S => match ds with
  | [.p (.int i)] => ok (.int i) S
  | [.p (.bool b)] => ok (.int (if b then 1 else 0)) S
  | _ => none
def boolsD : List PyData → Option (List Bool)
  | [] => some []
  | .bool b :: r => (match boolsD r with
    | some bs => some (b :: bs)
    | none => none)
  | _ :: _ => none
def intsD : List PyData → Option (List Int)
  | [] => some []
  | .int b :: r => (match intsD r with
    | some bs => some (b :: bs)
    | none => none)
  | _ :: _ => none
def strsD : List PyData → Option (List Str)
  | [] => some []
  | .str b :: r => (match strsD r with
    | some bs => some (b :: bs)
    | none => none)
  | _ :: _ => none
theorem bools_eq : ∀ {xs : List PyData} {bs : List Bool}, boolsD xs = some bs → xs = bs.map .bool
  | [], _, h => by cases h; rfl
  | .bool b :: r, bs, h => by
    unfold boolsD at h
    split at h
    · rename_i e; cases h; rw [bools_eq e]; rfl
    · cases h
  | .none :: _, _, h | .int _ :: _, _, h | .str _ :: _, _, h | .list _ :: _, _, h | .tuple _ :: _, _, h | .dict _ :: _, _, h => by cases h
theorem ints_eq : ∀ {xs : List PyData} {bs : List Int}, intsD xs = some bs → xs = bs.map .int
  | [], _, h => by cases h; rfl
  | .int b :: r, bs, h => by
    unfold intsD at h
    split at h
    · rename_i e; cases h; rw [ints_eq e]; rfl
    · cases h
  | .none :: _, _, h | .bool _ :: _, _, h | .str _ :: _, _, h | .list _ :: _, _, h | .tuple _ :: _, _, h | .dict _ :: _, _, h => by cases h
theorem strs_eq : ∀ {xs : List PyData} {bs : List Str}, strsD xs = some bs → xs = bs.map .str
  | [], _, h => by cases h; rfl
  | .str b :: r, bs, h => by
    unfold strsD at h
    split at h
    · rename_i e; cases h; rw [strs_eq e]; rfl
    · cases h
  | .none :: _, _, h | .bool _ :: _, _, h | .int _ :: _, _, h | .list _ :: _, _, h | .tuple _ :: _, _, h | .dict _ :: _, _, h => by cases h
theorem rpA_bools {K : Fg} {H : Hp} : ∀ {vs : List V} {bs : List Bool}, RpA K H vs (bs.map .bool) → vs = bs.map V.bl
  | _, [], h => by cases h; rfl
  | _, b :: bs, h => by
    cases h with
    | cons h1 h2 => cases h1; rw [rpA_bools h2]; rfl
theorem rpA_ints {K : Fg} {H : Hp} : ∀ {vs : List V} {bs : List Int}, RpA K H vs (bs.map .int) → vs = bs.map V.int
  | _, [], h => by cases h; rfl
  | _, b :: bs, h => by
    cases h with
    | cons h1 h2 => cases h1; rw [rpA_ints h2]; rfl
theorem rpA_strs {K : Fg} {H : Hp} : ∀ {vs : List V} {bs : List Str}, RpA K H vs (bs.map .str) → vs = bs.map V.str
  | _, [], h => by cases h; rfl
  | _, b :: bs, h => by
    cases h with
    | cons h1 h2 => cases h1; rw [rpA_strs h2]; rfl
def gAll : List D → Sto → Rs D := fun ds S => match ds with
  | [d] => (match listOf d S with
    | some xs => (match boolsD xs with
      | some bs => ok (.bool (bs.all id)) S
      | none => none)
    | none => none)
  | _ => none
def gAny : List D → Sto → Rs D := fun ds S => match ds with
  | [d] => (match listOf d S with
    | some xs => (match boolsD xs with
      | some bs => ok (.bool (bs.any id)) S
      | none => none)
    | none => none)
  | _ => none
def gSum : List D → Sto → Rs D := fun ds S => match ds with
  | [d] => (match listOf d S with
    | some xs => (match intsD xs with
      | some bs => ok (.int bs.sum) S
      | none => none)
    | none => none)
  | _ => none
/-- tuple(x) -/
def gTupleOf : List D → Sto → Rs D := fun ds S => match ds with
  | [.p (.tuple xs)] => ok (.tuple xs) S
  | [d] => (match listOf d S with
    | some xs => ok (.tuple xs) S
    | none => none)
  | _ => none
/-- list(x), laid for good -/
def gListOf : List D → Sto → Rs D := fun ds S => match ds with
  | [d] => (match itemsOf d S with
    | some xs => ok (.list xs) S
    | none => none)
  | _ => none
/-- list(x), of the store -/
def gListOfM : List D → Sto → Rs D := fun ds S => match ds with
  | [d] => (match itemsOf d S with
    | some xs => some (.r S.length, S ++ [.lst xs])
    | none => none)
  | _ => none
/-- sorted -/
def allAlike (xs : List PyData) : Bool := xs.all fun x => xs.all fun y => PySem.W.alike x y
def isTup1 : PyData → Bool
  | .tuple (_ :: _) => true
  | _ => false
def noTup : PyData → Bool
  | .tuple _ => false
  | .none => false
  | _ => true
def sortable (xs : List PyData) : Bool := allAlike xs && (xs.all isTup1 || xs.all noTup) && xs.all fun x => decide (x.depth ≤ 64)
def sortD (xs : List PyData) : List PyData := xs.mergeSort (PySem.W.dataLe false id)
def gSorted : List D → Sto → Rs D := fun ds S => match ds with
  | [d] => (match listOf d S with
    | some xs => if sortable xs then ok (.list (sortD xs)) S else none
    | none => none)
  | _ => none
def gSortedM : List D → Sto → Rs D := fun ds S => match ds with
  | [d] => (match listOf d S with
    | some xs => if sortable xs then some (.r S.length, S ++ [.lst (sortD xs)]) else none
    | none => none)
  | _ => none
def gRepr : List D → Sto → Rs D := fun ds S => match ds with
  | [d] => (match dataOf d S with
    | some x => if x.showable && decide (x.shown.length ≤ Lim) && decide (x.depth ≤ 64) then ok (.str x.shown) S else none
    | none => none)
  | _ => none
/-- min(t), max(t) of a tuple of whole numbers -/
def gMin1 : List D → Sto → Rs D := fun ds S => match ds with
  | [.p (.tuple xs)] => (match intsD xs with
    | some (n :: ns) => ok (.int (ns.foldl min n)) S
    | _ => none)
  | _ => none
def gMax1 : List D → Sto → Rs D := fun ds S => match ds with
  | [.p (.tuple xs)] => (match intsD xs with
    | some (n :: ns) => ok (.int (ns.foldl max n)) S
    | _ => none)
  | _ => none
theorem RDs.one {K : Fg} {H : Hp} {ι : List Addr} {vs : List V} {d : D} (h : RDs K H ι vs [d]) : ∃ v, vs = [v] ∧ RD K H ι v d := by
  match vs, h with
  | [v], ⟨h, _⟩ => exact ⟨v, rfl, h⟩
  | [], h => exact h.elim
  | _ :: _ :: _, ⟨_, h⟩ => exact h.elim
theorem RDs.two {K : Fg} {H : Hp} {ι : List Addr} {vs : List V} {d e : D} (h : RDs K H ι vs [d, e]) : ∃ v w, vs = [v, w] ∧ RD K H ι v d ∧ RD K H ι w e := by
  match vs, h with
  | [v, w], ⟨h, h', _⟩ => exact ⟨v, w, rfl, h, h'⟩
  | [], h => exact h.elim
  | [_], ⟨_, h⟩ => exact h.elim
  | _ :: _ :: _ :: _, ⟨_, _, h⟩ => exact h.elim
theorem CallR.imp {X : Cx} {f : Value} {r u : List V → Hp → VK → Prop} (h : CallR X f r) (i : ∀ vs H Q, u vs H Q → r vs H Q) : CallR X f u := fun pins s σ H vs us Q I rv q => h pins s σ H vs us Q I rv (i vs H Q q)
theorem dpAll_len {K : Fg} {H : Hp} : ∀ {vs : List V} {ds : List PyData}, DpAll K H vs ds → vs.length = ds.length
  | _, _, .nil => rfl
  | _, _, .cons _ t => congrArg Nat.succ (dpAll_len t)
section
variable {X : Cx}
theorem c_len : CallR X (.builtin "len") (rN X.kw gLen) := CallR.imp call_len fun vs H Q ⟨ι, S, ds, z, S', hH, rv, h, q⟩ => by
  have L := Lim_le
  unfold gLen ok at h
  split at h
  · rename_i d
    obtain ⟨v, rfl, rd⟩ := rv.one
    split at h
    · rename_i xs e
      cases h
      cases data_of hH rd e with
      | lst h1 h2 => exact ⟨_, xs.length, rfl, .inl ⟨_, h1, (dpAll_len h2).symm⟩, fin q hH (.int _)⟩
    · rename_i xs e
      cases h
      cases data_of hH rd e with
      | tup h1 h2 => exact ⟨_, xs.length, rfl, .inr ⟨_, h1, (dpAll_len h2).symm⟩, fin q hH (.int _)⟩
    · rename_i x e
      split at h
      · cases h
        cases data_of hH rd e
        exact ⟨_, x.length, rfl, ⟨by omega, rfl⟩, fin q hH (.int _)⟩
      · cases h
    · cases h
  · cases h
theorem c_max (hc : X.calm = true) : CallR X (.builtin "max") (rN X.kw gMax) := CallR.imp (call_max2 hc) fun vs H Q ⟨ι, S, ds, z, S', hH, rv, h, q⟩ => by
  unfold gMax ok at h
  split at h
  · cases h
    obtain ⟨v, w, rfl, r1, r2⟩ := rv.two
    exact ⟨_, _, by rw [int_of r1, int_of r2], fin q hH (.int _)⟩
  · cases h
theorem c_min (hc : X.calm = true) : CallR X (.builtin "min") (rN X.kw gMin) := CallR.imp (call_min2 hc) fun vs H Q ⟨ι, S, ds, z, S', hH, rv, h, q⟩ => by
  unfold gMin ok at h
  split at h
  · cases h
    obtain ⟨v, w, rfl, r1, r2⟩ := rv.two
    exact ⟨_, _, by rw [int_of r1, int_of r2], fin q hH (.int _)⟩
  · cases h
theorem c_int : CallR X (.type "int") (rN X.kw gInt) := CallR.imp call_int1 fun vs H Q ⟨ι, S, ds, z, S', hH, rv, h, q⟩ => by
  unfold gInt ok at h
  split at h
  · cases h
    obtain ⟨v, rfl, r1⟩ := rv.one
    exact .inl ⟨_, by rw [int_of r1], fin q hH (.int _)⟩
  · cases h
    obtain ⟨v, rfl, r1⟩ := rv.one
    exact .inr ⟨_, by rw [bl_of r1], fin q hH (.int _)⟩
  · cases h
theorem c_all (hc : X.calm = true) : CallR X (.builtin "all") (rN X.kw gAll) := CallR.imp (cr_all hc) fun vs H Q ⟨ι, S, ds, z, S', hH, rv, h, q⟩ => by
  unfold gAll ok at h
  split at h
  · obtain ⟨v, rfl, rd⟩ := rv.one
    split at h
    · rename_i xs e
      split at h
      · rename_i bs eb
        cases h
        obtain ⟨a, ys, rfl, h1, h2⟩ := list_of hH rd e
        rw [bools_eq eb] at h2
        have := rpA_bools h2
        subst this
        exact ⟨a, bs, rfl, h1.sq, fin q hH (.bl _)⟩
      · cases h
    · cases h
  · cases h
theorem c_any (hc : X.calm = true) : CallR X (.builtin "any") (rN X.kw gAny) := CallR.imp (cr_any hc) fun vs H Q ⟨ι, S, ds, z, S', hH, rv, h, q⟩ => by
  unfold gAny ok at h
  split at h
  · obtain ⟨v, rfl, rd⟩ := rv.one
    split at h
    · rename_i xs e
      split at h
      · rename_i bs eb
        cases h
        obtain ⟨a, ys, rfl, h1, h2⟩ := list_of hH rd e
        rw [bools_eq eb] at h2
        have := rpA_bools h2
        subst this
        exact ⟨a, bs, rfl, h1.sq, fin q hH (.bl _)⟩
      · cases h
    · cases h
  · cases h
theorem c_tuple : CallR X (.type "tuple") (rN X.kw gTupleOf) := fun pins s σ H vs us Q I rv ⟨ι, S, ds, z, S', hH, rd, h, q⟩ => by
  unfold gTupleOf ok at h
  split at h
  · cases h
    obtain ⟨v, rfl, r1⟩ := rd.one
    obtain ⟨a, xs, rfl, h1, h2⟩ := tup_of r1
    exact call_tupleT pins s σ H _ us Q I rv ⟨a, xs, rfl, h1.sq, fin q hH r1⟩
  · split at h
    · rename_i xs e
      cases h
      obtain ⟨v, rfl, r1⟩ := rd.one
      obtain ⟨a, ys, rfl, h1, h2⟩ := list_of hH r1 e
      obtain ⟨u, rfl, rx⟩ := vals1 rv
      cases rx
      obtain ⟨its, r', pl, hz⟩ := I.list h1.sq
      have hlen := r'.length
      refine call_tuple_list pl.isList (fun h' kp => ?_) (by simp only [List.size_toArray] <;> omega)
      have I1 : Inv X pins σ H { s with heap := h' } := I.kept (t' := s.toks) kp
      exact new_tup (tk := s.toks) I1 r' hz fun p o hp ho => tup_aft q (Ext.refl _ _) hp ho hH h2
    · cases h
  · cases h
theorem c_list : CallR X (.type "list") (rN X.kw gListOf) := fun pins s σ H vs us Q I rv ⟨ι, S, ds, z, S', hH, rd, h, q⟩ => by
  unfold gListOf ok at h
  split at h
  · split at h
    · rename_i xs e
      cases h
      obtain ⟨v, rfl, r1⟩ := rd.one
      obtain ⟨a, ys, rfl, h1, h2⟩ := items_of hH r1 e
      exact thn (call_list_of pins s σ H _ us (fzQ Q) I rv ⟨a, ys, rfl, h1.symm, fun p hp => fz_aft q (Ext.refl _ _) hp hH h2⟩) fun _ _ z => EP.freeze z
    · cases h
  · cases h
theorem c_listM : CallR X (.type "list") (rN X.kw gListOfM) := fun pins s σ H vs us Q I rv ⟨ι, S, ds, z, S', hH, rd, h, q⟩ => by
  unfold gListOfM at h
  split at h
  · split at h
    · rename_i xs e
      cases h
      obtain ⟨v, rfl, r1⟩ := rd.one
      obtain ⟨a, ys, rfl, h1, h2⟩ := items_of hH r1 e
      exact call_list_of pins s σ H _ us Q I rv ⟨a, ys, rfl, h1.symm, fun p hp => mk_aft q (Ext.refl _ _) hp hH h2⟩
    · cases h
  · cases h
theorem c_sum (hc : X.calm = true) : CallR X (.builtin "sum") (rN X.kw gSum) := CallR.imp (cr_sum hc) fun vs H Q ⟨ι, S, ds, z, S', hH, rv, h, q⟩ => by
  unfold gSum ok at h
  split at h
  · obtain ⟨v, rfl, rd⟩ := rv.one
    split at h
    · rename_i xs e
      split at h
      · rename_i bs eb
        cases h
        obtain ⟨a, ys, rfl, h1, h2⟩ := list_of hH rd e
        rw [ints_eq eb] at h2
        have := rpA_ints h2
        subst this
        exact ⟨a, bs, rfl, h1.sq, fin q hH (.int _)⟩
      · cases h
    · cases h
  · cases h
theorem c_repr (hg : X.A.guards = some []) (hu : X.A.units + 65 < cLine) : CallR X (.builtin "repr") (rN X.kw gRepr) := fun pins s σ H vs us Q I rv ⟨ι, S, ds, z, S', hH, rd, h, q⟩ => by
  have L := Lim_le
  unfold gRepr ok at h
  split at h
  · split at h
    · rename_i x e
      split at h
      · rename_i hs
        cases h
        simp only [Bool.and_eq_true, decide_eq_true_eq] at hs
        obtain ⟨⟨s1, s2⟩, s3⟩ := hs
        obtain ⟨v, rfl, r1⟩ := rd.one
        obtain ⟨u, rfl, ru⟩ := vals1 rv
        have hd := data_of hH r1 e
        obtain ⟨as, hr⟩ := Dp.reads I x v u hd ru
        have qq : ∀ t s', Inv X pins σ H s' → EP X pins σ Q (.str x.shown t) s' := fun t s' I' => ⟨.str x.shown, H, I', ⟨t, rfl⟩, fin q hH (.str _)⟩
        have nd : x.hasDict = false := by
          clear q qq e hr s1 s2 s3 r1
          have key : (∀ (d : PyData) (v : V), Dp X.kw H v d → d.hasDict = false) := by
            intro d
            refine PyData.rec (motive_1 := fun d => ∀ v, Dp X.kw H v d → d.hasDict = false) (motive_2 := fun ds => ∀ vs, DpAll X.kw H vs ds → PyData.hasDictAll ds = false) (motive_3 := fun _ => True) (motive_4 := fun _ => True)
              ?_ ?_ ?_ ?_ ?_ ?_ ?_ ?_ ?_ ?_ ?_ ?_ d
            · intro v h; simp [PyData.hasDict]
            · intro b v h; simp [PyData.hasDict]
            · intro i v h; simp [PyData.hasDict]
            · intro i v h; simp [PyData.hasDict]
            · intro xs ih v h
              cases h with
              | lst h1 h2 => simpa [PyData.hasDict] using ih _ h2
            · intro xs ih v h
              cases h with
              | tup h1 h2 => simpa [PyData.hasDict] using ih _ h2
            · intro kvs _ v h; cases h
            · intro vs h; simp [PyData.hasDictAll]
            · intro d ds ih1 ih2 vs h
              cases h with
              | cons h1 h2 => simp [PyData.hasDictAll, ih1 _ h1, ih2 _ h2]
            · trivial
            · intros; trivial
            · intros; trivial
          exact key x v hd
        cases hd with
        | non => cases ru; exact P.repr_of_none (qq _ _ (I.tok _))
        | bl b =>
          cases ru
          have : (PyData.bool b).shown = (if b then "True" else "False" : Str) := by simp [PyData.shown]
          rw [this] at qq
          exact P.repr_of_bool (qq _ _ (I.tok _))
        | int i =>
          obtain ⟨t, rfl⟩ := ru
          have : (PyData.int i).shown = (toString i : Str) := by simp [PyData.shown]
          rw [this] at qq
          exact P.repr_of_int (by simpa [PyData.showable] using s1) (qq _ _ (I.tok _))
        | str y =>
          obtain ⟨t, rfl⟩ := ru
          have e2 : (PyData.str y).shown = reprText y := by simp [PyData.shown]
          rw [e2] at qq s2
          exact P.repr_of_str (qq _ _ (I.tok _)) (by omega)
        | lst h1 h2 =>
          cases ru
          exact repr_of_reads' hr s1 (PyData.noDict_hsm nd) hg (by omega) (fun _ _ e => e) (fun h' u tk hk => qq u _ (I.kept hk)) (by omega)
        | tup h1 h2 =>
          cases ru
          exact repr_of_reads' hr s1 (PyData.noDict_hsm nd) hg (by omega) (fun _ _ e => e) (fun h' u tk hk => qq u _ (I.kept hk)) (by omega)
      · cases h
    · cases h
  · cases h
end
end Tm
namespace Tm
open PySem L2

/-! ## sorted, min, max, isinstance -/
theorem alike_of {xs : List PyData} (h : allAlike xs = true) : PySem.W.AllAlike xs := fun d hd d' hd' => by
  unfold allAlike at h
  exact List.all_eq_true.mp (List.all_eq_true.mp h d hd) d' hd'
theorem sortable_of {xs : List PyData} (h : sortable xs = true) : PySem.W.AllAlike xs ∧ PySem.W.Sortable xs ∧ ∀ x ∈ xs, x.depth ≤ 64 := by
  unfold sortable at h
  simp only [Bool.and_eq_true, Bool.or_eq_true, List.all_eq_true, decide_eq_true_eq] at h
  obtain ⟨⟨h1, h2⟩, h3⟩ := h
  refine ⟨alike_of h1, ?_, h3⟩
  rcases h2 with h2 | h2
  · refine .inl fun d hd => ?_
    have := h2 d hd
    unfold isTup1 at this
    split at this
    · exact ⟨_, _, rfl⟩
    · cases this
  · refine .inr fun d hd => ?_
    have := h2 d hd
    unfold noTup at this
    refine ⟨fun e => ?_, fun ys e => ?_⟩
    · subst e; cases this
    · subst e; cases this
/-- values beside their data -/
def RelD (K : Fg) (H : Hp) (u : Value) (d : PyData) : Prop := ∃ v, RelV v u ∧ Rp K H v d
theorem each_of {K : Fg} {H : Hp} : ∀ {vs : List V} {us : List Value} {ds : List PyData}, Vals vs us → RpA K H vs ds → PySem.W.EachIs (RelD K H) us ds
  | _, _, _, .nil, .nil => .nil
  | _, _, _, .cons r t, .cons q s => .cons ⟨_, r, q⟩ (each_of t s)
theorem of_each {K : Fg} {H : Hp} : ∀ {us : List Value} {ds : List PyData}, PySem.W.EachIs (RelD K H) us ds → ∃ vs, Vals vs us ∧ RpA K H vs ds
  | _, _, .nil => ⟨[], .nil, .nil⟩
  | _, _, .cons ⟨v, r, q⟩ t => let ⟨vs, a, b⟩ := of_each t; ⟨v :: vs, .cons r a, .cons q b⟩
theorem each_mono {α β : Type} {R R' : α → β → Prop} (f : ∀ a b, R a b → R' a b) : ∀ {as : List α} {bs : List β}, PySem.W.EachIs R as bs → PySem.W.EachIs R' as bs
  | _, _, .nil => .nil
  | _, _, .cons r t => .cons (f _ _ r) (each_mono f t)
section
variable {X : Cx}
theorem sorted_road (hu : X.A.units + 70 < cLine) {pins : List (Addr × Obj)} {s : Shared} {σ : L2.St} {H : Hp} {Q : VK} {a : Addr} {ys : List V} {xs : List PyData} (I : Inv X pins σ H s) (h1 : LstR X.kw H a ys) (h2 : RpA X.kw H ys xs) (hs : sortable xs = true)
    (q : ∀ p zs, H p = none → RpA X.kw H zs (sortD xs) → Q (.ref p) (upd H p (.lst zs))) : wpAny (model X.prog X.w) X.A (call (.builtin "sorted") [.ref a]) (EP X pins σ Q) X.xe s := by
  obtain ⟨al, so, dp⟩ := sortable_of hs
  obtain ⟨its, n, r, e, hz⟩ := h1.obj I
  have ev := each_of r h2
  have hm : xs.map id = xs := List.map_id xs
  have hlx : xs.length = its.length := by rw [← h2.length, r.length]
  have hn0 : H (s.heap.objs.size + 1) = none := I.hok.fresh (Nat.le_succ _)
  have er : PySem.W.EachIs (fun v b => ∃ as, Reads s.heap v (id b) as) its xs := each_mono (fun u d ⟨v, rv, rd⟩ => Dp.reads I d v u (Rp.dp _ _ rd) rv) ev
  refine PySem.W.sorted_data (enc := id) (bs := xs) (R := RelD X.kw H) ⟨_, e, rfl, n, rfl⟩ ev er (by rw [hm]; exact al) (by rw [hm]; exact so) (by rw [← h2.length]; exact hz) (fun b hb => by have := dp b hb; show X.A.units + 2 + b.depth < cLine; omega) ?_
  intro out hl ho
  obtain ⟨zs, z1, z2⟩ := of_each ho
  have hlz : zs.length ≤ sizeLine := by rw [z1.length, hl, ← h2.length]; exact hz
  refine ⟨.ref (s.heap.objs.size + 1), upd H (s.heap.objs.size + 1) (.lst zs), ?_, rfl, q _ zs hn0 z2⟩
  obtain ⟨c, hc⟩ := PyProof.Rows.sortedAll_at s.heap its out.toArray
  exact I.laid (t' := s.toks) (fun b u eb => PyProof.Rows.sortedAll_old eb) (Nat.le_succ _) ⟨hlz, out, c, z1, hc⟩
theorem c_sorted (hu : X.A.units + 70 < cLine) : CallR X (.builtin "sorted") (rN X.kw gSorted) := fun pins s σ H vs us Q I rv ⟨ι, S, ds, z, S', hH, rd, h, q⟩ => by
  unfold gSorted ok at h
  split at h
  · split at h
    · rename_i xs e
      split at h
      · rename_i hs
        cases h
        obtain ⟨v, rfl, r1⟩ := rd.one
        obtain ⟨a, ys, rfl, h1, h2⟩ := list_of hH r1 e
        obtain ⟨u, rfl, ru⟩ := vals1 rv
        cases ru
        exact thn (sorted_road (Q := fzQ Q) hu I h1 h2 hs fun p zs hp hr => fz_aft q (Ext.refl _ _) hp hH hr) fun _ _ z => EP.freeze z
      · cases h
    · cases h
  · cases h
theorem c_sortedM (hu : X.A.units + 70 < cLine) : CallR X (.builtin "sorted") (rN X.kw gSortedM) := fun pins s σ H vs us Q I rv ⟨ι, S, ds, z, S', hH, rd, h, q⟩ => by
  unfold gSortedM at h
  split at h
  · split at h
    · rename_i xs e
      split at h
      · rename_i hs
        cases h
        obtain ⟨v, rfl, r1⟩ := rd.one
        obtain ⟨a, ys, rfl, h1, h2⟩ := list_of hH r1 e
        obtain ⟨u, rfl, ru⟩ := vals1 rv
        cases ru
        exact sorted_road hu I h1 h2 hs fun p zs hp hr => mk_aft q (Ext.refl _ _) hp hH hr
      · cases h
    · cases h
  · cases h
theorem alike_ints2 (ns : List Int) : (∀ x ∈ ns.map PyData.int, ∀ y ∈ ns.map PyData.int, PySem.W.alike x y = true) ∧ ∀ x ∈ ns.map PyData.int, x ≠ .none := by
  refine ⟨fun x hx y hy => ?_, fun x hx => ?_⟩
  · obtain ⟨a, _, rfl⟩ := List.mem_map.mp hx
    obtain ⟨b, _, rfl⟩ := List.mem_map.mp hy
    simp [PySem.W.alike]
  · obtain ⟨a, _, rfl⟩ := List.mem_map.mp hx
    exact fun z => by cases z
theorem c_min1 (hc : X.calm = true) (hu : X.A.units + 65 < cLine) : CallR X (.builtin "min") (rN X.kw gMin1) := fun pins s σ H vs us Q I rv ⟨ι, S, ds, z, S', hH, rd, h, q⟩ => by
  unfold gMin1 ok at h
  split at h
  · split at h
    · rename_i n ns e
      cases h
      obtain ⟨v, rfl, r1⟩ := rd.one
      obtain ⟨a, ys, rfl, h1, h2⟩ := tup_of r1
      obtain ⟨u, rfl, ru⟩ := vals1 rv
      cases ru
      rw [ints_eq e] at h2
      obtain ⟨its, r', pl, hz⟩ := I.tuple h1.sq
      obtain ⟨as, hr⟩ := Dp.readsAll I _ ys its (RpA.dp _ _ h2) r'
      have hd : PyData.depthAll ((n :: ns).map .int) = 0 := PySem.W.depth_ints _
      refine PySem.W.min_tuple_data (x := .int n) (xs := ns.map .int) (as := as) (I.ok.hd hc) (show s.heap.IsTuple a its.toArray from pl) (by simpa using hr) (alike_ints2 (n :: ns)) (by rw [show PyData.int n :: ns.map .int = (n :: ns).map .int from rfl, hd]; omega) ?_
      intro i v h' tk bs hi hrd hk
      rw [PySem.W.minD_ints] at hrd
      cases hrd with
      | int _ t => exact ⟨.int _, H, I.kept hk, ⟨t, rfl⟩, fin q hH (.int _)⟩
    · cases h
  · cases h
theorem c_max1 (hc : X.calm = true) (hu : X.A.units + 65 < cLine) : CallR X (.builtin "max") (rN X.kw gMax1) := fun pins s σ H vs us Q I rv ⟨ι, S, ds, z, S', hH, rd, h, q⟩ => by
  unfold gMax1 ok at h
  split at h
  · split at h
    · rename_i n ns e
      cases h
      obtain ⟨v, rfl, r1⟩ := rd.one
      obtain ⟨a, ys, rfl, h1, h2⟩ := tup_of r1
      obtain ⟨u, rfl, ru⟩ := vals1 rv
      cases ru
      rw [ints_eq e] at h2
      obtain ⟨its, r', pl, hz⟩ := I.tuple h1.sq
      obtain ⟨as, hr⟩ := Dp.readsAll I _ ys its (RpA.dp _ _ h2) r'
      have hd : PyData.depthAll ((n :: ns).map .int) = 0 := PySem.W.depth_ints _
      refine PySem.W.max_tuple_data (x := .int n) (xs := ns.map .int) (as := as) (I.ok.hd hc) (show s.heap.IsTuple a its.toArray from pl) (by simpa using hr) (alike_ints2 (n :: ns)) (by rw [show PyData.int n :: ns.map .int = (n :: ns).map .int from rfl, hd]; omega) ?_
      intro i v h' tk bs hi hrd hk
      rw [PySem.W.maxD_ints] at hrd
      cases hrd with
      | int _ t => exact ⟨.int _, H, I.kept hk, ⟨t, rfl⟩, fin q hH (.int _)⟩
    · cases h
  · cases h
/-! isinstance -/
def tyName : PyData → String
  | .none => "NoneType"
  | .bool _ => "bool"
  | .int _ => "int"
  | .str _ => "str"
  | .list _ => "list"
  | .tuple _ => "tuple"
  | .dict _ => "dict"
/-- what is asked, by the classes' names -/
def isaB (a T : String) : Bool := a == T || (a == "bool" && T == "int")
def isTys : List String := ["bool", "int", "str", "list", "tuple", "dict"]
theorem isa_ok : (["NoneType", "bool", "int", "str", "list", "tuple"].all fun a => isTys.all fun T => decide (kitB a T = some (isaB a T))) = true := by decide +kernel
def gIsa (T : String) : D → Sto → Rs D := fun d S => match dataOf d S with
  | some x => ok (.bool (isaB (tyName x) T)) S
  | none => none
theorem isa_kit {x : PyData} {T : String} (hT : T ∈ isTys) (hx : ∀ kvs, x ≠ .dict kvs) : kitB (tyName x) T = some (isaB (tyName x) T) := by
  have h := isa_ok
  simp only [List.all_eq_true, decide_eq_true_eq] at h
  refine h _ ?_ T hT
  cases x <;> first | simp [tyName]; done | exact absurd rfl (hx _)
theorem dp_ty {K : Fg} {H : Hp} {v : V} {x : PyData} (h : Dp K H v x) : TyX K H v (.type (tyName x)) ∧ ∀ kvs, x ≠ .dict kvs := by
  cases h with
  | non => exact ⟨.base .non, fun _ z => by cases z⟩
  | bl b => exact ⟨.base (.bl b), fun _ z => by cases z⟩
  | int b => exact ⟨.base (.int b), fun _ z => by cases z⟩
  | str b => exact ⟨.base (.str b), fun _ z => by cases z⟩
  | lst h1 h2 =>
    refine ⟨?_, fun _ z => by cases z⟩
    rcases h1 with (h1 | ⟨o, h1⟩) | ⟨o, its, n, h1, h2, _⟩
    · exact .base (.lst h1)
    · exact .base (.frz h1)
    · exact .kList h1 h2
  | tup h1 h2 =>
    refine ⟨?_, fun _ z => by cases z⟩
    rcases h1 with (h1 | ⟨o, h1⟩) | ⟨o, its, n, h1, h2, _⟩
    · exact .base (.tup h1)
    · exact .fTuple h1
    · exact .kTuple h1 h2
end
/-! a < b, tuples of ints too -/
def gLess : D → D → Sto → Rs D := fun a b S => match a, b with
  | .p (.tuple xs), .p (.tuple ys) => (match intsD xs, intsD ys with
    | some ns, some ms => ok (.bool (HT.lexLt ns ms)) S
    | _, _ => none)
  | a, b => gLt a b S
theorem o_less {X : Cx} (hu : X.A.units < cLine) : OpR X (compareOp .Lt) (r2 X.kw gLess) := fun pins s σ H x y v u Q I rx ry ⟨ι, S, d, e, z, S', hH, rd, re, h, q⟩ => by
  unfold gLess ok at h
  split at h
  · split at h
    · rename_i ns ms hn hm
      cases h
      obtain ⟨a, vs, rfl, t1, t2⟩ := tup_of rd
      obtain ⟨b, ws, rfl, t3, t4⟩ := tup_of re
      rw [ints_eq hn] at t2
      rw [ints_eq hm] at t4
      have e1 := rpA_ints t2
      have e2 := rpA_ints t4
      subst e1; subst e2
      exact op_ltT hu pins s σ H _ _ v u Q I rx ry ⟨a, b, ns, ms, rfl, rfl, t1.sq, t3.sq, fin q hH (.bl _)⟩
    · cases h
  · exact o_lt pins s σ H x y v u Q I rx ry ⟨ι, S, d, e, z, S', hH, rd, re, h, q⟩
end Tm
namespace Tm
section
open PySem PySem.W PyProof.Rows PySem.Builtin
variable {prog : Program} {w : World} {A : Around} {E : Value → Shared → Prop} {s : Shared} {β : Type} {vs : List Value} {bs : List β} {enc : β → PyData} {R : Value → β → Prop}
/-- sorted of whatever gives its items one by one -/
theorem sorted_col {v : Value} {Q : Value → Shared → Prop} (hL : bs.length ≤ sizeLine) (col : ∀ (E' : Value → Shared → Prop) (Q' : List Value → Shared → Prop), (∀ h', (∀ b o', s.heap.get? b = some o' → h'.get? b = some o') → s.heap.objs.size ≤ h'.objs.size → Q' vs { s with heap := h' }) → wpAny (model prog w) A.in1 (collect v) Q' E' s)
    (e : EachIs R vs bs) (er : EachIs (fun v b => ∃ as, Reads s.heap v (enc b) as) vs bs) (hal : AllAlike (bs.map enc)) (hk : Sortable (bs.map enc)) (hu : ∀ b, b ∈ bs → A.units + 2 + (enc b).depth < cLine)
    (h : ∀ (h' : Heap) (out : List Value) (c p : Nat), (∀ b o', s.heap.get? b = some o' → h'.get? b = some o') → s.heap.objs.size ≤ p → h'.get? p = some (seqObj "list" out.toArray c) → out.length = bs.length → EachIs R out (bs.mergeSort (dataLe false enc)) → Q (.ref p) { s with heap := h' }) :
    wpAny (model prog w) A (call (.builtin "sorted") [v]) Q E s := by
  have hlv : vs.length ≤ sizeLine := by rw [e.length]; exact hL
  refine call_function_entry_kw kind_sorted plain_sorted entry_sorted (args_sorted1 _) ?_
  unfold Builtin.«sorted»
  refine wpAny_bind (m := checkCount "sorted" 1 1 _) (wpAny_pure ?_)
  refine wpAny_bind (col _ _ fun h' hk' hsz' => ?_)
  refine wpAny_bind (wpAny_newList ?_ hlv)
  have at_ : (h'.push (seqObj "list" vs.toArray 0)).get? h'.objs.size = some (seqObj "list" vs.toArray 0) := Heap.get?_push_size _ rfl
  have old : ∀ b o', s.heap.get? b = some o' → (h'.push (seqObj "list" vs.toArray 0)).get? b = some o' := fun b o' q => Heap.get?_push_of_some _ (hk' b o' q)
  have ne : ∀ b o', s.heap.get? b = some o' → b ≠ h'.objs.size := fun b o' q z => by
    exact absurd z (Nat.ne_of_lt (Heap.lt_size (hk' b o' q)))
  have er' : EachIs (fun v b => ∃ as, Reads (sortingHeap (h'.push (seqObj "list" vs.toArray 0)) h'.objs.size vs) v (enc b) as) vs bs := er.mono fun _ _ ⟨as, r⟩ => ⟨as, PyProof.Rows.Reads.keeps (fun b o q => sortingHeap_old (ne b o q) (old b o q)) r⟩
  refine wpAny_bind (wpAny_holding (wpAny_call_entry_kw slot_list_sort ⟨_, at_, rfl⟩ entry_list_sort ?body (args_list_sort _)))
  case body =>
    refine wpAny_mono (list_sort_vals (s := { s with heap := h'.push (seqObj "list" vs.toArray 0) }) (κ := dataKind (sortingHeap (h'.push (seqObj "list" vs.toArray 0)) h'.objs.size vs) (bs.map enc)) at_ (SortsAt.data (s := { s with heap := sortingHeap (h'.push (seqObj "list" vs.toArray 0)) h'.objs.size vs }) (each_map (R := fun v d => ∃ as, Reads (sortingHeap (h'.push (seqObj "list" vs.toArray 0)) h'.objs.size vs) v d as) enc er') hal hk (bound_map hu)) hlv (P := fun f s' => f = .done (.ret .none) ∧ _ = s') ⟨rfl, rfl⟩) (fun f s' hf => ?_) fun _ _ e => e
    obtain ⟨rfl, rfl⟩ := hf
    refine ⟨_, rfl, wpAny_pure ⟨_, rfl, ?_⟩⟩
    obtain ⟨c, hc⟩ := sortedHeap_at (out := (sortVals (dataKind (sortingHeap (h'.push (seqObj "list" vs.toArray 0)) h'.objs.size vs) (bs.map enc)) false vs vs).toArray) at_
    refine h _ _ c _ (fun b o' q => ?_) ?_ hc (by rw [sortVals_length false rfl]; exact e.length) (sortVals_data false e er' hal)
    · rw [sortedHeap_old (ne b o' q) (Heap.lt_size (old b o' q))]
      exact old b o' q
    · exact hsz'
/-- the items of a list or a tuple, in a new list; the heap grows -/
theorem collect_seq {Q : List Value → Shared → Prop} (it : Addr) {T : String} {o : Obj} {items : Array Value} {n : Nat} (hT : T = "list" ∨ T = "tuple") (ho : s.heap.get? it = some o) (hc : o.cls = .type T) (hd : o.data = .seq items n)
    (hQ : ∀ h', (∀ b o', s.heap.get? b = some o' → h'.get? b = some o') → s.heap.objs.size ≤ h'.objs.size → Q items.toList { s with heap := h' }) (hsz : items.size ≤ sizeLine) : wpAny (model prog w) A (collect (.ref it)) Q E s := by
  let h1 : Heap := s.heap.push { cls := .type "list", data := .seq ([] : List Value).toArray }
  let h2 : Heap := h1.update s.heap.objs.size (Obj.mapSeq (· ++ items))
  have hS : h1.get? s.heap.objs.size = some { cls := .type "list", data := .seq #[] 0 } := Heap.get?_push_size _ rfl
  have hS2 := Heap.get?_update_self (Obj.mapSeq (· ++ items)) hS rfl
  have last : wpAny (model prog w) A (match Value.ref s.heap.objs.size with
      | Value.ref a => do
        match (← load a).data with
          | Data.seq xs _ => pure xs.toList
          | _ => unsupported "internal:collect"
      | _ => unsupported "internal:collect") Q E { s with heap := h2 } := by
    refine wpAny_bind (wpAny_load hS2 (wpAny_pure ?_))
    have e : ((#[] : Array Value) ++ items).toList = items.toList := by simp
    show Q ((#[] : Array Value) ++ items).toList _
    rw [e]
    refine hQ _ (fun b o' hb => (Heap.get?_update_other _ _ (Nat.ne_of_gt (Heap.lt_size hb))).trans (Heap.get?_push_of_some _ hb)) ?_
    show s.heap.objs.size ≤ h2.objs.size
    have e2 : h2.objs.size = s.heap.objs.size + 1 := by show (h1.update _ _).objs.size = _; rw [Heap.size_update]; exact Heap.size_push ..
    rw [e2]; exact Nat.le_succ _
  unfold collect
  refine wpAny_bind (wpAny_runValue (codeAny_builtin F.entry_proto_collect ?_))
  rw [Around.under_plainId F.plain_proto_collect _]
  show wpAny _ A.in1 (newList [] >>= fun l => again (.builtin "list.__iadd__" ⟨[l, .ref it], []⟩)) _ _ s
  refine wpAny_bind (wpAny_newObj_type ?_)
  refine wpAny_pure ⟨plainId_quiet F.plain_list_iadd _, codeAny_builtin F.entry_list_iadd ?_⟩
  rw [Around.under_plainId F.plain_list_iadd _]
  refine wpAny_mono (wpAny_extend_seq (hsz := hsz) (A := A) (R := fun r s' => r = .ok (.ret (.ref s.heap.objs.size)) ∧ s' = { s with heap := h2 }) (s := { s with heap := h1 }) _ it _ 0 hT hS (Heap.get?_push_of_some _ ho) hc hd ⟨rfl, rfl⟩) (fun fin s' h => ?_) (fun e s' h => ?_)
  · cases fin with
    | done f =>
      obtain ⟨e, rfl⟩ := h
      cases e
      exact last
    | again c' => exact ⟨h.1, codeAny_mono h.2 fun r s'' hr => by obtain ⟨rfl, rfl⟩ := hr; exact last⟩
  · exact absurd h.1 (by simp)
end
open PySem L2
/-! ## sorted of a tuple -/
def seqOf (d : D) (S : Sto) : Option (List PyData) := match d with
  | .p (.tuple xs) => some xs
  | _ => listOf d S
def gSortedX : List D → Sto → Rs D := fun ds S => match ds with
  | [d] => (match seqOf d S with
    | some xs => if sortable xs then ok (.list (sortD xs)) S else none
    | none => none)
  | _ => none
section
variable {X : Cx}
theorem sorted_roadT (hu : X.A.units + 70 < cLine) {pins : List (Addr × Obj)} {s : Shared} {σ : L2.St} {H : Hp} {Q : VK} {a : Addr} {ys : List V} {xs : List PyData} (I : Inv X pins σ H s) (h1 : TupS X.kw H a ys) (h2 : RpA X.kw H ys xs) (hs : sortable xs = true)
    (q : ∀ p zs, H p = none → RpA X.kw H zs (sortD xs) → Q (.ref p) (upd H p (.lst zs))) : wpAny (model X.prog X.w) X.A (call (.builtin "sorted") [.ref a]) (EP X pins σ Q) X.xe s := by
  obtain ⟨al, so, dp⟩ := sortable_of hs
  obtain ⟨its, r, ⟨o, ho, hc, n, hd⟩, hz⟩ := I.tuple h1.sq
  have ev := each_of r h2
  have hm : xs.map id = xs := List.map_id xs
  have hly := h2.length
  have hli := r.length
  have er : PySem.W.EachIs (fun v b => ∃ as, Reads s.heap v (id b) as) its xs := each_mono (fun u d ⟨v, rv, rd⟩ => Dp.reads I d v u (Rp.dp _ _ rd) rv) ev
  refine sorted_col (enc := id) (bs := xs) (vs := its) (R := RelD X.kw H) (by omega) (fun E' Q' hq => ?_) ev er (by rw [hm]; exact al) (by rw [hm]; exact so) (fun b hb => by have := dp b hb; show X.A.units + 2 + b.depth < cLine; omega) fun h' out c p hk hp hat hl eo => ?_
  · exact collect_seq a (.inr rfl) ho hc hd (fun h' k1 k2 => hq h' k1 k2) (by simp; omega)
  · obtain ⟨zs, z1, z2⟩ := of_each eo
    have hlz := z1.length
    exact ⟨.ref p, upd H p (.lst zs), I.laid (t' := s.toks) hk hp ⟨by omega, out, c, z1, hat⟩, rfl, q p zs (I.hok.fresh hp) z2⟩
theorem c_sortedX (hu : X.A.units + 70 < cLine) : CallR X (.builtin "sorted") (rN X.kw gSortedX) := fun pins s σ H vs us Q I rv ⟨ι, S, ds, z, S', hH, rd, h, q⟩ => by
  unfold gSortedX at h
  split at h
  · rename_i d
    cases d with
    | r n => exact c_sorted hu pins s σ H vs us Q I rv ⟨ι, S, _, z, S', hH, rd, h, q⟩
    | p x =>
      cases x with
      | tuple xs =>
        have h : (if sortable xs then ok (.list (sortD xs)) S else none) = some (z, S') := h
        unfold ok at h
        split at h
        · rename_i hs
          cases h
          obtain ⟨v, rfl, r1⟩ := rd.one
          obtain ⟨a, ys, rfl, h1, h2⟩ := tup_of r1
          obtain ⟨u, rfl, ru⟩ := vals1 rv
          cases ru
          exact thn (sorted_roadT (Q := fzQ Q) hu I h1 h2 hs fun p zs hp hr => fz_aft q (Ext.refl _ _) hp hH hr) fun _ _ z => EP.freeze z
        · cases h
      | _ => exact c_sorted hu pins s σ H vs us Q I rv ⟨ι, S, _, z, S', hH, rd, h, q⟩
  · cases h
end
end Tm
namespace Tm
open PySem L2

/-! ## subscripts -/
def gIx : D → D → Sto → Rs D := fun a b S => match dataOf a S, b with
  | some (.list xs), .p (.int i) => (match atI xs i with
    | some d => ok d S
    | none => none)
  | some (.tuple xs), .p (.int i) => (match atI xs i with
    | some d => ok d S
    | none => none)
  | some (.str z), .p (.int i) => if z.length ≤ Lim then (match atI z.cps.toList i with
    | some c => ok (.str ⟨#[c]⟩) S
    | none => none) else none
  | _, _ => none
theorem atI_rp {K : Fg} {H : Hp} {vs : List V} {ds : List PyData} {i : Int} {d : PyData} (r : RpA K H vs ds) (h : atI ds i = some d) : ∃ v, atI vs i = some v ∧ Rp K H v d := by
  unfold atI at h ⊢
  rw [r.length]
  cases e : ixN ds.length i with
  | none => rw [e] at h; cases h
  | some j =>
    rw [e] at h
    obtain ⟨v, h1, h2⟩ := r.get (i := j) (d := d) h
    exact ⟨v, h1, h2⟩
section
variable {X : Cx}
theorem items2 {ι : List Addr} {S : Sto} {H : Hp} {v : V} {d : D} {xs : List PyData} (hH : HR X.kw H ι S) (r : RD X.kw H ι v d) (h : dataOf d S = some (.list xs)) : ∃ a ys, v = .ref a ∧ LstR X.kw H a ys ∧ RpA X.kw H ys xs := by
  refine list_of hH r ?_
  unfold dataOf at h
  unfold listOf
  split at h
  · cases h; rfl
  · split at h
    · rename_i e; cases h; simp only [e]
    · cases h
theorem tup2 {ι : List Addr} {S : Sto} {H : Hp} {v : V} {d : D} {xs : List PyData} (r : RD X.kw H ι v d) (h : dataOf d S = some (.tuple xs)) : ∃ a ys, v = .ref a ∧ TupS X.kw H a ys ∧ RpA X.kw H ys xs := by
  unfold dataOf at h
  split at h
  · cases h; exact tup_of r
  · split at h <;> cases h
theorem str2 {ι : List Addr} {S : Sto} {H : Hp} {v : V} {d : D} {x : Str} (r : RD X.kw H ι v d) (h : dataOf d S = some (.str x)) : v = .str x := by
  unfold dataOf at h
  split at h
  · cases h; exact str_of r
  · split at h <;> cases h
theorem i_ix : IxR X (r2 X.kw gIx) := fun value slice pins s σ H x y v u Q I rx ry ⟨ι, S, d, e, z, S', hH, rd, re, h, q⟩ hs => by
  have L := Lim_le
  unfold gIx ok at h
  split at h
  · rename_i xs i e1
    split at h
    · rename_i dd ha
      cases h
      obtain ⟨a, ys, rfl, h1, h2⟩ := items2 hH rd e1
      obtain ⟨w, hw, rw'⟩ := atI_rp h2 ha
      exact ix_list value slice pins s σ H _ _ v u Q I rx ry ⟨a, ys, i, w, rfl, int_of re, h1.sq, hw, fin q hH rw'⟩ hs
    · cases h
  · rename_i xs i e1
    split at h
    · rename_i dd ha
      cases h
      obtain ⟨a, ys, rfl, h1, h2⟩ := tup2 rd e1
      obtain ⟨w, hw, rw'⟩ := atI_rp h2 ha
      exact ix_tup value slice pins s σ H _ _ v u Q I rx ry ⟨a, ys, i, w, rfl, int_of re, h1.sq, hw, fin q hH rw'⟩ hs
    · cases h
  · rename_i zz i e1
    split at h
    · split at h
      · rename_i c hc
        cases h
        exact ix_str value slice pins s σ H _ _ v u Q I rx ry ⟨zz, i, c, str2 rd e1, int_of re, by omega, hc, fin q hH (.str _)⟩ hs
      · cases h
    · cases h
  · cases h
theorem s_ix {a b : Expr} {ma mb : M} {pos : Pos} (ha : PE X a (tE X.kw ma)) (hb : PE X b (tE X.kw mb)) (hs : PlainIx b) : PE X (.Subscript a b pos) (tE X.kw (m2 gIx ma mb)) :=
  PE.imp (pe_ix i_ix ha hb hs) fun _ _ _ h => imp2 h
end
/-! ## slices -/
def cutD {α : Type} (xs : List α) (lo hi : Option Int) : List α := (xs.drop (HT.sIx xs.length 0 lo)).take (HT.sIx xs.length xs.length hi - HT.sIx xs.length 0 lo)
def gSl (d : D) (lo hi : Option Int) (S : Sto) : Rs D := match dataOf d S with
  | some (.list xs) => ok (.list (cutD xs lo hi)) S
  | some (.tuple xs) => ok (.tuple (cutD xs lo hi)) S
  | some (.str z) => if z.length ≤ Lim then ok (.str (cutS z lo hi)) S else none
  | _ => none
/-- a part of a slice: left out, or an int -/
abbrev MO := Ev → Sto → Rs (Option Int)
def moNone : MO := fun _ S => some (none, S)
def moSome (a : M) : MO := fun ρ S => match a ρ S with
  | some (.p (.int i), S1) => some (some i, S1)
  | _ => none
def mSl (a : M) (lo hi : MO) : M := fun ρ S => match a ρ S with
  | some (d, S1) => (match lo ρ S1 with
    | some (l, S2) => (match hi ρ S2 with
      | some (h, S3) => gSl d l h S3
      | none => none)
    | none => none)
  | none => none
def tO (K : Fg) (m : MO) : TO := fun σ H Q => ∃ ι ρ S o S', HR K H ι S ∧ ER K H ι σ ρ ∧ m ρ S = some (o, S') ∧ ∀ ι' H', Ext ι H ι' H' → HR K H' ι' S' → Q o H'
theorem PO.imp {X : Cx} {e : Option Expr} {t u : TO} (h : PO X e t) (i : ∀ σ H Q, u σ H Q → t σ H Q) : PO X e u := ⟨fun pins s σ H Q I q => h.run pins s σ H Q I (i σ H Q q)⟩
theorem RpA.cut {K : Fg} {H : Hp} {vs : List V} {ds : List PyData} (r : RpA K H vs ds) (lo hi : Option Int) : RpA K H (cutV vs lo hi) (cutD ds lo hi) := by
  unfold cutV cutD
  rw [r.length]
  exact (r.drop _).take _
section
variable {X : Cx}
theorem so_none : PO X none (tO X.kw moNone) := PO.imp po_none fun σ H Q ⟨ι, ρ, S, o, S', hH, hE, e, q⟩ => by
  cases e
  exact q ι H (Ext.refl _ _) hH
theorem so_some {e : Expr} {m : M} (h : PE X e (tE X.kw m)) : PO X (some e) (tO X.kw (moSome m)) := PO.imp (po_some h) fun σ H Q ⟨ι, ρ, S, o, S', hH, hE, e, q⟩ => by
  unfold moSome at e
  split at e
  · rename_i i S1 h1
    cases e
    exact ⟨ι, ρ, S, _, _, hH, hE, h1, fun ι1 v H1 w1 hH1 r => ⟨i, int_of r, q ι1 H1 w1 hH1⟩⟩
  · cases e
/-- t[lo:hi] -/
theorem sl_tupF : SlR X (fun x lo hi H Q => ∃ a xs, x = .ref a ∧ SqT X.kw H a xs ∧
    (HT.sIx xs.length 0 lo = 0 ∧ HT.sIx xs.length xs.length hi = xs.length → Q (.ref a) H) ∧
    (¬ (HT.sIx xs.length 0 lo = 0 ∧ HT.sIx xs.length xs.length hi = xs.length) → ∀ p o, H p = none → o.dict = none → Q (.ref p) (upd H p (.frz o (.tup (cutV xs lo hi)))))) := by
  intro pins s σ H x v vl vu lo hi sl Q I rx hs pl pu h
  obtain ⟨a, xs, rfl, hx, q1, q2⟩ := h
  by_cases hw : HT.sIx xs.length 0 lo = 0 ∧ HT.sIx xs.length xs.length hi = xs.length
  · exact sl_tupA pins s σ H _ v vl vu lo hi sl Q I rx hs pl pu ⟨a, xs, rfl, hx, q1, fun z => absurd hw z⟩
  · cases rx
    obtain ⟨its, r, ht, hz⟩ := I.tuple hx
    have hlen : its.toArray.size = xs.length := by rw [List.size_toArray]; exact r.length.symm
    refine ⟨"tuple", _, PyProof.Rows.slot_tuple_getitem.lookup, ht.typeIs, ?_⟩
    refine HT.getItem_tuple_cut ht hs pl pu (by rw [hlen]; exact hw) ?_ (by rw [hlen]; exact hz)
    rw [hlen]
    exact new_tup (tk := s.toks) I ((r.drop (HT.sIx xs.length 0 lo)).take (HT.sIx xs.length xs.length hi - HT.sIx xs.length 0 lo)) (Nat.le_trans (cutV_length xs lo hi) hz) (q2 hw)
def rSl (K : Fg) : V → Option Int → Option Int → Hp → VK → Prop := fun x lo hi H Q => ∃ ι S d z S', HR K H ι S ∧ RD K H ι x d ∧ gSl d lo hi S = some (z, S') ∧ Aft K H ι z S' Q
theorem sl_all : SlR X (rSl X.kw) := by
  intro pins s σ H x v vl vu lo hi sl Q I rx hs pl pu ⟨ι, S, d, z, S', hH, rd, h, q⟩
  have L := Lim_le
  unfold gSl ok at h
  split at h
  · rename_i xs e
    cases h
    obtain ⟨a, ys, rfl, h1, h2⟩ := items2 hH rd e
    obtain ⟨T, id, e1, e2, e3⟩ := sl_list pins s σ H _ v vl vu lo hi sl (fzQ Q) I rx hs pl pu ⟨a, ys, rfl, h1.sq, fun p hp => fz_aft q (Ext.refl _ _) hp hH (h2.cut lo hi)⟩
    exact ⟨T, id, e1, e2, thn e3 fun _ _ z => EP.freeze z⟩
  · rename_i xs e
    cases h
    obtain ⟨a, ys, rfl, h1, h2⟩ := tup2 rd e
    refine sl_tupF pins s σ H _ v vl vu lo hi sl Q I rx hs pl pu ⟨a, ys, rfl, h1.sq, fun w => ?_, fun w p o hp ho => tup_aft q (Ext.refl _ _) hp ho hH (h2.cut lo hi)⟩
    have ec : cutD xs lo hi = xs := by
      unfold cutD
      rw [← h2.length, w.1, w.2, List.drop_zero, h2.length, Nat.sub_zero, List.take_length]
    rw [ec] at q
    exact fin q hH (.tup h1 h2)
  · rename_i zz e
    split at h
    · cases h
      exact sl_str pins s σ H _ v vl vu lo hi sl Q I rx hs pl pu ⟨zz, str2 rd e, by omega, fin q hH (.str _)⟩
    · cases h
  · cases h
theorem s_sl {a : Expr} {ma : M} {lo hi : Option Expr} {ml mh : MO} {pos p2 : Pos} (ha : PE X a (tE X.kw ma)) (hl : PO X lo (tO X.kw ml)) (hh : PO X hi (tO X.kw mh)) : PE X (.Subscript a (.Slice lo hi none p2) pos) (tE X.kw (mSl ma ml mh)) := by
  refine PE.imp (pe_slice sl_all ha hl hh) fun σ H Q ⟨ι, ρ, S, z, S', hH, hE, e, q⟩ => ?_
  unfold mSl at e
  split at e
  · rename_i d S1 h1
    split at e
    · rename_i l S2 h2
      split at e
      · rename_i h S3 h3
        exact ⟨ι, ρ, S, d, S1, hH, hE, h1, fun ι1 v H1 w1 hH1 rd => ⟨ι1, ρ, S1, l, S2, hH1, hE.mono w1, h2, fun ι2 H2 w2 hH2 => ⟨ι2, ρ, S2, h, S3, hH2, (hE.mono w1).mono w2, h3, fun ι3 H3 w3 hH3 =>
          ⟨ι3, S3, d, z, S', hH3, (rd.mono w2).mono w3, e, q.of ((w1.trans w2).trans w3)⟩⟩⟩⟩
      · cases e
    · cases e
  · cases e
end
/-! ## stores: xs[i] = v -/
def fSet : D → D → D → Sto → Option Sto := fun o i v S => match o, i, v with
  | .r n, .p (.int k), .p d => (match S[n]? with
    | some (.lst xs) => (match ixN xs.length k with
      | some j => some (S.set n (.lst (xs.set j d)))
      | none => none)
    | _ => none)
  | _, _, _ => none
section
variable {X : Cx}
theorem p_set : PSet X (rSet X.kw fSet) := fun pins s σ H o i v ov iv u Q I ro ri rv ⟨ι, S, x, y, d, S', hH, rx, ry, rd, h, q⟩ => by
  unfold fSet at h
  split at h
  · rename_i n k d
    split at h
    · rename_i xs hn
      split at h
      · rename_i j hj
        cases h
        obtain ⟨a, ha, rfl⟩ := rx
        obtain ⟨ys, h1, h2⟩ := hH.at_ n a _ ha hn
        have hk := int_of ry
        subst hk
        refine set_list pins s σ H _ _ v ov iv u Q I ro ri rv ⟨a, ys, k, j, rfl, rfl, h1, by rw [h2.length]; exact hj, ?_⟩
        have w : Ext ι H ι (upd H a (.lst (ys.set j v))) := Ext.turn h1 (fun z => z) (List.mem_of_getElem? ha)
        exact q ι _ w (hH.turn ha hn ⟨_, upd_same, (RpA.mono w.keep _ _ h2).set (Rp.mono w.keep _ _ rd) j⟩)
      · cases h
    · cases h
  · cases h
end
/-! ## methods of lists -/
def gAppend : D → List D → Sto → Rs D := fun o ds S => match o, ds with
  | .r n, [.p d] => (match S[n]? with
    | some (.lst xs) => if xs.length < Lim then some (.p .none, S.set n (.lst (xs ++ [d]))) else none
    | _ => none)
  | _, _ => none
def gExtend : D → List D → Sto → Rs D := fun o ds S => match o, ds with
  | .r n, [.p (.list ys)] => (match S[n]? with
    | some (.lst xs) => if xs.length + ys.length ≤ Lim then some (.p .none, S.set n (.lst (xs ++ ys))) else none
    | _ => none)
  | _, _ => none
def gPop : D → List D → Sto → Rs D := fun o ds S => match o, ds with
  | .r n, [] => (match S[n]? with
    | some (.lst xs) => (match xs[xs.length - 1]? with
      | some d => some (.p d, S.set n (.lst xs.dropLast))
      | none => none)
    | _ => none)
  | _, _ => none
section
variable {X : Cx}
theorem t_append : MtR X "list.append" (rM X.kw gAppend) := fun pins s σ H x xs v us Q I rx rs ⟨ι, S, d, ds, z, S', hH, rd, rds, h, q⟩ => by
  have L := Lim_le
  unfold gAppend at h
  split at h
  · rename_i n d
    split at h
    · rename_i xs hn
      split at h
      · cases h
        obtain ⟨y, rfl, ry⟩ := rds.one
        obtain ⟨a, ha, rfl⟩ := rd
        obtain ⟨ys, h1, h2⟩ := hH.at_ n a _ ha hn
        have hl := h2.length
        refine mt_append pins s σ H _ _ v us Q I rx rs ⟨a, ys, y, rfl, rfl, h1, by omega, ?_⟩
        have w : Ext ι H ι (upd H a (.lst (ys ++ [y]))) := Ext.turn h1 (fun z => z) (List.mem_of_getElem? ha)
        exact q ι _ _ w (hH.turn ha hn ⟨_, upd_same, (RpA.mono w.keep _ _ h2).append (.cons (Rp.mono w.keep _ _ ry) .nil)⟩) .non
      · cases h
    · cases h
  · cases h
theorem t_pop : MtR X "list.pop" (rM X.kw gPop) := fun pins s σ H x xs v us Q I rx rs ⟨ι, S, d, ds, z, S', hH, rd, rds, h, q⟩ => by
  unfold gPop at h
  split at h
  · rename_i n
    split at h
    · rename_i xs hn
      split at h
      · rename_i d hd
        cases h
        cases xs' : (show List V from ‹List V›) with
        | cons _ _ => subst xs'; exact rds.elim
        | nil =>
          subst xs'
          obtain ⟨a, ha, rfl⟩ := rd
          obtain ⟨ys, h1, h2⟩ := hH.at_ n a _ ha hn
          have hl := h2.length
          obtain ⟨y, hy, ry⟩ := h2.get hd
          refine mt_pop pins s σ H _ _ v us Q I rx rs ⟨a, ys, y, rfl, rfl, h1, by rw [hl]; exact hy, ?_⟩
          have w : Ext ι H ι (upd H a (.lst ys.dropLast)) := Ext.turn h1 (fun z => z) (List.mem_of_getElem? ha)
          exact q ι _ _ w (hH.turn ha hn ⟨_, upd_same, RpA.mono w.keep _ _ h2.dropLast⟩) (Rp.mono w.keep _ _ ry)
      · cases h
    · cases h
  · cases h
theorem t_extend : MtR X "list.extend" (rM X.kw gExtend) := fun pins s σ H x xs v us Q I rx rs ⟨ι, S, d, ds, z, S', hH, rd, rds, h, q⟩ => by
  have L := Lim_le
  unfold gExtend at h
  split at h
  · rename_i n ys
    split at h
    · rename_i xs hn
      split at h
      · rename_i hlen
        cases h
        obtain ⟨y, rfl, ry⟩ := rds.one
        obtain ⟨a, ha, rfl⟩ := rd
        obtain ⟨ws, h1, h2⟩ := hH.at_ n a _ ha hn
        obtain ⟨b, zs, rfl, h3, h4⟩ := list_of (S := S) hH ry rfl
        have hl := h2.length
        have hl4 := h4.length
        cases rx
        obtain ⟨u, rfl, ru⟩ := rs.one
        cases ru
        obtain ⟨z1, its, m, r, hlt, e⟩ := I.lstM h1
        obtain ⟨its2, m2, r2, e2, z2⟩ := h3.obj I
        have k1 := r.length
        have k2 := r2.length
        have hsz : its.toArray.size + its2.toArray.size ≤ sizeLine := by rw [List.size_toArray, List.size_toArray]; omega
        have hlong : ¬ (!its.toArray.isEmpty && Builtin.List.listTooLong (its.toArray.size + its2.toArray.size)) = true := by
          rw [notLongL hsz, Bool.and_false]; exact fun z => by cases z
        refine call_meets PySem.F.slot_list_extend ⟨_, e, rfl⟩ PySem.F.entry_list_extend (PySem.F.args_list_extend_2 _ _) (AutoSeq1.list_extend_list_list_0 a its.toArray m b its2.toArray m2 hlong (by rw [List.size_toArray]; omega) (by rw [List.size_toArray] at *; omega)) ⟨e, e2, ?_⟩
        have w : Ext ι H ι (upd H a (.lst (ws ++ zs))) := Ext.turn h1 (fun z => z) (List.mem_of_getElem? ha)
        refine ⟨.non, _, I.lset (its' := its ++ its2) h1 e (by simp) (r.append r2) (by rw [List.length_append]; omega), rfl, ?_⟩
        exact q ι _ _ w (hH.turn ha hn ⟨_, upd_same, (RpA.mono w.keep _ _ h2).append (RpA.mono w.keep _ _ h4)⟩) .non
      · cases h
    · cases h
  · cases h
end
end Tm
namespace Tm
open PySem L2

/-! ## o.m(..) of built-in types -/
def recvB (T : String) (d : D) (S : Sto) : Bool := match dataOf d S with
  | some (.list _) => T == "list"
  | some (.tuple _) => T == "tuple"
  | some (.str _) => T == "str"
  | _ => false
def mMt (T : String) (f : D → List D → Sto → Rs D) (o : M) (as : MA) : M := fun ρ S => match o ρ S with
  | some (x, S1) => if recvB T x S1 then (match as ρ S1 with
    | some (ds, S2) => f x ds S2
    | none => none) else none
  | none => none
def RecvR (X : Cx) (T : String) (x : V) (H : Hp) : Prop := ∀ (pins : List (Addr × Obj)) (s : Shared) (σ : L2.St) (v : Value), Inv X pins σ H s → RelV x v → s.TypeIs v T ∧ ∀ a, v = .ref a → ∃ ob, s.heap.get? a = some ob ∧ ob.dict = none
section
variable {X : Cx}
theorem recv_of {T : String} {d : D} {S : Sto} {H : Hp} {ι : List Addr} {x : V} (hH : HR X.kw H ι S) (rd : RD X.kw H ι x d) (h : recvB T d S = true) : RecvR X T x H := by
  unfold recvB at h
  intro pins s σ v I rx
  split at h
  · rename_i xs e
    have hT : T = "list" := by simpa using h
    subst hT
    obtain ⟨a, ys, rfl, h1, h2⟩ := items2 hH rd e
    cases rx
    obtain ⟨its, n, r, eo, hz⟩ := h1.obj I
    exact ⟨⟨_, eo, rfl⟩, fun b hb => by cases hb; exact ⟨_, eo, rfl⟩⟩
  · rename_i xs e
    have hT : T = "tuple" := by simpa using h
    subst hT
    obtain ⟨a, ys, rfl, h1, h2⟩ := tup2 rd e
    cases rx
    rcases h1 with ⟨o, h1, ho⟩ | ⟨o, its, n, h1, hc, ho, _⟩
    · obtain ⟨e1, _, its, r, o', e2, hc, _⟩ := I.hok a _ h1
      rw [e1] at e2; cases e2
      exact ⟨⟨o, e1, hc⟩, fun b hb => by cases hb; exact ⟨o, e1, ho⟩⟩
    · exact ⟨⟨o, I.kIn a o h1, hc⟩, fun b hb => by cases hb; exact ⟨o, I.kIn _ o h1, ho⟩⟩
  · rename_i z e
    have hT : T = "str" := by simpa using h
    subst hT
    have := str2 rd e
    subst this
    obtain ⟨t, rfl⟩ := rx
    exact ⟨typeIs_str s _ t, fun _ z => by cases z⟩
  · cases h
variable {o e : Expr} {es : List Expr} {name : Str} {apos cpos : Pos} {T id : String} {mo : M} {mas : MA} {g : D → List D → Sto → Rs D}
theorem s_meth0 (pa : PlainAttrs T) (slot : Slot T name id) (hty : typeOf (.builtin id) = pure (.type "method_descriptor")) (hm : MtR X id (rM X.kw g)) (ho : PE X o (tE X.kw mo))
    (hbase : attributeBase o name X.env (eval o X.env) = eval o X.env) (hline : (apos.endLine == cpos.line) = true) : PE X (.Call (.Attribute o name apos) [] [] cpos) (tE X.kw (mMt T g mo maNil)) := by
  refine ⟨fun pins s σ H Q I ⟨ι, ρ, S, z, S', hH, hE, e, q⟩ => ?_⟩
  unfold mMt at e
  split at e
  · rename_i x S1 h1
    split at e
    · rename_i hr
      have e : g x [] S1 = some (z, S') := e
      refine wpAny_Call_method0_late hbase hline (thn (ho.run pins s σ H (fun v H1 => RecvR X T v H1 ∧ rM X.kw g v [] H1 Q) I ⟨ι, ρ, S, x, S1, hH, hE, h1, fun ι1 v H1 w1 hH1 rd => ⟨recv_of hH1 rd hr, ι1, S1, x, [], z, S', hH1, rd, trivial, e, q.of w1⟩⟩) fun v s1 ⟨y, H1, I1, r1, ty, q1⟩ => ?_)
      obtain ⟨t1, t2⟩ := ty pins s1 σ v I1 r1
      exact ⟨T, id, pa, slot, hty, t1, t2, Calls.callWith_builtin rfl (PySem.evalArgs_none (hm pins s1 σ H1 y [] v [] Q I1 r1 .nil q1))⟩
    · cases e
  · cases e
theorem s_meth (pa : PlainAttrs T) (slot : Slot T name id) (hty : typeOf (.builtin id) = pure (.type "method_descriptor")) (hm : MtR X id (rM X.kw g)) (ho : PE X o (tE X.kw mo)) (ha : PA X (e :: es) (tAs X.kw mas))
    (hbase : attributeBase o name X.env (eval o X.env) = eval o X.env)
    (hfew : ((backTo cpos (starEach (e :: es) X.env)).all (fun x => !x.1) && (backToKw cpos (keywordEach [] X.env)).all (fun x => x.1.isSome)
      && decide ((e :: es).length + ([] : List Keyword).length + (if ([] : List Keyword).isEmpty then 0 else 1) < 30)) = true)
    (hline : (apos.endLine == cpos.line) = true) (hs : starEach (e :: es) X.env = (false, eval e X.env) :: starEach es X.env) (hplain : (backTo cpos (starEach es X.env)).any (·.1) = false) :
    PE X (.Call (.Attribute o name apos) (e :: es) [] cpos) (tE X.kw (mMt T g mo mas)) := by
  refine ⟨fun pins s σ H Q I ⟨ι, ρ, S, z, S', hH, hE, e', q⟩ => ?_⟩
  unfold mMt at e'
  split at e'
  · rename_i x S1 h1
    split at e'
    · rename_i hr
      split at e'
      · rename_i ds S2 h2
        refine wpAny_Call_method_late hbase hfew hline rfl (thn (ho.run pins s σ H (fun v H1 => RecvR X T v H1 ∧ tAs X.kw mas σ H1 fun vs H2 => rM X.kw g v vs H2 Q) I
          ⟨ι, ρ, S, x, S1, hH, hE, h1, fun ι1 v H1 w1 hH1 rd => ⟨recv_of hH1 rd hr, ι1, ρ, S1, ds, S2, hH1, hE.mono w1, h2, fun ι2 vs H2 w2 hH2 rs => ⟨ι2, S2, x, ds, z, S', hH2, rd.mono w2, rs, e', q.of (w1.trans w2)⟩⟩⟩) fun v s1 ⟨y, H1, I1, r1, ty, q1⟩ => ?_)
        obtain ⟨t1, t2⟩ := ty pins s1 σ v I1 r1
        refine ⟨T, id, pa, slot, hty, t1, t2, ?_⟩
        have hA := ha.run cpos pins s1 σ H1 _ I1 q1
        rw [hs] at hA ⊢
        refine Calls.callWith_builtin ?_ (Calls.evalArgs_plain (thn hA fun us s2 ⟨vs, H2, I2, r2, q2⟩ => hm pins s2 σ H2 y vs v us Q I2 r1 r2 q2))
        show (false || (backTo cpos (starEach es X.env)).any (·.1)) = false
        rw [hplain]
        rfl
      · cases e'
    · cases e'
  · cases e'
end
/-! ## index, join -/
/-- the first place of an equal one -/
def firstAt (d : PyData) : List PyData → Nat → Option Nat
  | [], _ => none
  | x :: xs, i => if PyData.eqv x d then some i else firstAt d xs (i + 1)
theorem firstAt_get {d : PyData} : ∀ {xs : List PyData} {i j : Nat}, firstAt d xs i = some j → i ≤ j ∧ (∃ z, xs[j - i]? = some z ∧ PyData.eqv z d = true) ∧ ∀ m z, m < j - i → xs[m]? = some z → PyData.eqv z d = false
  | [], _, _, h => by cases h
  | x :: xs, i, j, h => by
    unfold firstAt at h
    split at h
    · rename_i hx
      cases h
      exact ⟨Nat.le_refl _, ⟨x, by simp, hx⟩, fun m z hm => by omega⟩
    · rename_i hx
      obtain ⟨h1, ⟨z, h2, h3⟩, h4⟩ := firstAt_get h
      refine ⟨by omega, ⟨z, ?_, h3⟩, fun m w hm hw => ?_⟩
      · have : j - i = (j - (i + 1)) + 1 := by omega
        rw [this]; simpa using h2
      · cases m with
        | zero => simp at hw; subst hw; simpa using hx
        | succ m => exact h4 m w (by omega) (by simpa using hw)
def gIndex : D → List D → Sto → Rs D := fun o ds S => match dataOf o S, ds with
  | some (.list xs), [.p d] => if SeqAt.shaped (.list xs) && SeqAt.shaped d then (match firstAt d xs 0 with
    | some j => ok (.int j) S
    | none => none) else none
  | _, _ => none
def gIndexT : D → List D → Sto → Rs D := fun o ds S => match dataOf o S, ds with
  | some (.tuple xs), [.p d] => if SeqAt.shaped (.tuple xs) && SeqAt.shaped d then (match firstAt d xs 0 with
    | some j => ok (.int j) S
    | none => none) else none
  | _, _ => none
def gJoin : D → List D → Sto → Rs D := fun o ds S => match o, ds with
  | .p (.str a), [d] => (match itemsOf d S with
    | some xs => (match strsD xs with
      | some ys => if (ys.map (·.length)).sum + ys.length * a.length ≤ Lim then ok (.str (Txt.join a ys)) S else none
      | none => none)
    | none => none)
  | _, _ => none
section
variable {X : Cx}
theorem t_index (hu : X.A.units + 65 < cLine) : MtR X "list.index" (rM X.kw gIndex) := fun pins s σ H x xs v us Q I rx rs ⟨ι, S, d, ds, z, S', hH, rd, rds, h, q⟩ => by
  unfold gIndex ok at h
  split at h
  · rename_i ys d e
    split at h
    · rename_i hs
      split at h
      · rename_i j hj
        cases h
        obtain ⟨s1, s2⟩ := Bool.and_eq_true_iff.mp hs
        obtain ⟨y, rfl, ry⟩ := rds.one
        obtain ⟨_, ⟨w, h2, h3⟩, h4⟩ := firstAt_get hj
        have hd := data_of hH rd e
        obtain ⟨a, zs, rfl, _, _⟩ := items2 hH rd e
        exact mt_indexD hu pins s σ H _ _ v us Q I rx rs ⟨a, y, d, ys, j, w, rfl, rfl, hd, Rp.dp _ _ ry, s1, s2, by simpa using h2, h3, fun m z' hm hz => h4 m z' (by omega) hz, fin q hH (.int _)⟩
      · cases h
    · cases h
  · cases h
theorem t_indexT (hu : X.A.units + 65 < cLine) : MtR X "tuple.index" (rM X.kw gIndexT) := fun pins s σ H x xs v us Q I rx rs ⟨ι, S, d, ds, z, S', hH, rd, rds, h, q⟩ => by
  unfold gIndexT ok at h
  split at h
  · rename_i ys d e
    split at h
    · rename_i hs
      split at h
      · rename_i j hj
        cases h
        obtain ⟨sl, sd⟩ := Bool.and_eq_true_iff.mp hs
        obtain ⟨y, rfl, ry⟩ := rds.one
        obtain ⟨_, ⟨w, hz, hzj⟩, hno⟩ := firstAt_get hj
        obtain ⟨a, zs, rfl, h1, h2⟩ := tup2 rd e
        cases rx
        obtain ⟨u, rfl, ru⟩ := vals1 rs
        obtain ⟨bs, r1⟩ := Dp.reads I d y u (Rp.dp _ _ ry) ru
        have hxs : PyData.canLayAll0 ys = true := SeqAt.canLay_of_shaped sl
        have hroom : X.A.units + 1 + min (PyData.depthAll ys) d.depth < cLine := PyProof.Rows.room_in_shaped sd hu
        obtain ⟨its, rv, ⟨⟨cls, dd, data, sls⟩, ho, hc, n, hdt⟩, hlen⟩ := I.tuple h1.sq
        simp only at hc hdt
        subst hc hdt
        obtain ⟨as, h4⟩ := Dp.readsAll I ys _ its (RpA.dp _ _ h2) rv
        have hn : its.length = ys.length := SeqAt.ReadsAll.length ys its as h4
        have hmap : its.map (SeqAt.readOf s.heap) = ys := SeqAt.readsAll_map ys its as hxs h4
        have hjd : j < ys.length := by
          obtain ⟨hjd, _⟩ := List.getElem?_eq_some_iff.mp hz
          omega
        have hjA : j < its.toArray.size := by rw [List.size_toArray]; omega
        have at_ : ∀ (m : Nat) (hm : m < its.toArray.size) (z' : PyData), ys[m]? = some z' → SeqAt.readOf s.heap its.toArray[m] = z' := by
          intro m hm z' hz'
          have hml : m < its.length := by simpa using hm
          rw [← hmap, List.getElem?_map, List.getElem?_eq_getElem hml] at hz'
          have e1 : SeqAt.readOf s.heap its[m] = z' := Option.some.inj (show some (SeqAt.readOf s.heap its[m]) = some z' from hz')
          simpa using e1
        refine call_meets PySem.F.slot_tuple_index ⟨_, ho, rfl⟩ PySem.F.entry_tuple_index (PySem.F.args_tuple_index_2 _ _)
          (TI.tuple_indexAt a its.toArray n dd sls u (fun w => PyData.eqv (SeqAt.readOf s.heap w) d) j hjA ?_ ?_) ⟨ho, SeqAt.items_eqAt (vs := its.toArray) (show ReadsAll s.heap its.toArray.toList ys as from h4) r1 hxs (SeqAt.canLay_of_shaped sd) hroom, ?_⟩
        · show PyData.eqv (SeqAt.readOf s.heap its.toArray[j]) d = true
          rw [at_ j hjA w (by simpa using hz)]
          exact hzj
        · intro m hm hmj
          have hmd : m < ys.length := by omega
          show PyData.eqv (SeqAt.readOf s.heap its.toArray[m]) d = false
          rw [at_ m hm _ (List.getElem?_eq_getElem hmd)]
          exact hno m _ (by omega) (List.getElem?_eq_getElem hmd)
        · exact ⟨.int (j : Nat), H, I.tok _, ⟨_, rfl⟩, fin q hH (.int _)⟩
      · cases h
    · cases h
  · cases h
theorem t_join : MtR X "str.join" (rM X.kw gJoin) := fun pins s σ H x xs v us Q I rx rs ⟨ι, S, d, ds, z, S', hH, rd, rds, h, q⟩ => by
  unfold gJoin ok at h
  split at h
  · rename_i a d
    split at h
    · rename_i ys e
      split at h
      · rename_i zs ez
        split at h
        · rename_i hl
          cases h
          obtain ⟨y, rfl, ry⟩ := rds.one
          obtain ⟨p, ws, rfl, h1, h2⟩ := items_of hH ry e
          rw [strs_eq ez] at h2
          have := rpA_strs h2
          subst this
          exact mt_join pins s σ H _ _ v us Q I rx rs ⟨a, p, zs, str_of rd, rfl, h1.symm, hl, fin q hH (.str _)⟩
        · cases h
      · cases h
    · cases h
  · cases h
/-! text.index -/
def gIndexS : D → List D → Sto → Rs D := fun o ds S => match o, ds with
  | .p (.str a), [.p (.str b)] => (match Builtin.Str.occurrences a b 0 a.length 1 with
    | i :: _ => ok (.int (i : Nat)) S
    | [] => none)
  | _, _ => none
theorem t_indexS : MtR X "str.index" (rM X.kw gIndexS) := fun pins s σ H x xs v us Q I rx rs ⟨ι, S, d, ds, z, S', hH, rd, rds, h, q⟩ => by
  unfold gIndexS ok at h
  split at h
  · split at h
    · rename_i i rest ho
      cases h
      obtain ⟨y, rfl, ry⟩ := rds.one
      exact mt_sindex pins s σ H _ _ v us Q I rx rs ⟨_, _, i, rest, str_of rd, by rw [str_of ry], ho, fin q hH (.int _)⟩
    · cases h
  · cases h
end
end Tm
namespace Tm
open PySem L2

/-! ## what is walked -/
def rowOf (xs : List PyData) : List Itm := xs.map fun d => .one (.p d)
def signs (z : Str) : List PyData := z.cps.toList.map fun c => .str ⟨#[c]⟩
def iVal (m : M) : MI := fun ρ S => match m ρ S with
  | some (.p (.list xs), S1) => some (.its (rowOf xs), S1)
  | some (.p (.tuple xs), S1) => some (.its (rowOf xs), S1)
  | some (.p (.str z), S1) => if z.length ≤ Lim then some (.its (rowOf (signs z)), S1) else none
  | some (.r n, S1) => (match S1[n]? with
    | some (.lst _) => some (.lst n, S1)
    | _ => none)
  | _ => none
def rangeD (lo : Int) (n : Nat) : List PyData := (List.range n).map fun i => .int (lo + (i : Nat))
def iRange1 (as : MA) : MI := fun ρ S => match as ρ S with
  | some ([.p (.int j)], S1) => if -Lim ≤ j ∧ j ≤ Lim then some (.its (rowOf (rangeD 0 j.toNat)), S1) else none
  | _ => none
def iRange2 (as : MA) : MI := fun ρ S => match as ρ S with
  | some ([.p (.int i), .p (.int j)], S1) => if -Lim ≤ i ∧ i ≤ Lim ∧ -Lim ≤ j ∧ j ≤ Lim ∧ j - i ≤ Lim then some (.its (rowOf (rangeD i (j - i).toNat)), S1) else none
  | _ => none
/-- enumerate -/
def numbered (xs : List PyData) : List Itm := (xs.zipIdx).map fun (d, i) => .row [.p (.int (i : Nat)), .p d]
def iEnumS (m : M) : MI := fun ρ S => match m ρ S with
  | some (.p (.str z), S1) => if z.length ≤ Lim then some (.its (numbered (signs z)), S1) else none
  | some (.p (.list xs), S1) => some (.its (numbered xs), S1)
  | _ => none
/-- zip of two tuples -/
def paired (xs ys : List PyData) : List Itm := (xs.zip ys).map fun (a, b) => .row [.p a, .p b]
def iZipT (as : MA) : MI := fun ρ S => match as ρ S with
  | some ([.p (.tuple xs), .p (.tuple ys)], S1) => some (.its (paired xs ys), S1)
  | _ => none
theorem rowOf_len (xs : List PyData) : (rowOf xs).length = xs.length := List.length_map _
theorem rowOf_get {xs : List PyData} {i : Nat} {d : Itm} (h : (rowOf xs)[i]? = some d) : ∃ x, xs[i]? = some x ∧ d = .one (.p x) := by
  unfold rowOf at h
  rw [List.getElem?_map] at h
  cases e : xs[i]? with
  | none => rw [e] at h; cases h
  | some x => rw [e] at h; cases h; exact ⟨x, rfl, rfl⟩
section
variable {X : Cx} {tg e : Expr} {m : M}
theorem PI.imp {X : Cx} {tg e : Expr} {t u : TI} (h : PI X tg e t) (i : ∀ σ H R, u σ H R → t σ H R) : PI X tg e u := ⟨fun pins s σ H R I q => h.run pins s σ H R I (i σ H R q)⟩
theorem its_list {K : Fg} {H : Hp} {ι : List Addr} {a : Addr} {ys : List V} {xs : List PyData} (h1 : LstS K H a ys) (h2 : RpA K H ys xs) (hz : xs.length ≤ sizeLine) : ItS K ι H (Itl K a) (rowOf xs) := by
  have hl := h2.length
  refine ⟨by rw [rowOf_len]; exact hz, fun i H' hi k => ?_, fun H' k => ?_, fun i H' x H2 hi k hy => ?_⟩
  · rw [rowOf_len] at hi
    exact ⟨ys, ys[i], (k.lstS h1).rd.sq, List.getElem?_eq_getElem (by omega)⟩
  · rw [rowOf_len]; exact ⟨ys, (k.lstS h1).rd.sq, by omega⟩
  · obtain ⟨rfl, hy⟩ := hy
    refine ⟨fun _ _ z => z, fun d hd ι' _ => ?_⟩
    obtain ⟨x', hx', rfl⟩ := rowOf_get hd
    obtain ⟨v, hv, rv⟩ := h2.get hx'
    have : x = v := Option.some.inj ((hy ys (k.lstS h1).rd.sq).symm.trans hv)
    subst this
    exact Rp.mono k _ _ rv
theorem its_tup {K : Fg} {H : Hp} {ι : List Addr} {a : Addr} {ys : List V} {xs : List PyData} (h1 : TupS K H a ys) (h2 : RpA K H ys xs) (hz : xs.length ≤ sizeLine) : ItS K ι H (Itt K a) (rowOf xs) := by
  have hl := h2.length
  refine ⟨by rw [rowOf_len]; exact hz, fun i H' hi k => ?_, fun H' k => ?_, fun i H' x H2 hi k hy => ?_⟩
  · rw [rowOf_len] at hi
    exact ⟨ys, ys[i], (k.tupS h1).sq, List.getElem?_eq_getElem (by omega)⟩
  · rw [rowOf_len]; exact ⟨ys, (k.tupS h1).sq, by omega⟩
  · obtain ⟨rfl, hy⟩ := hy
    refine ⟨fun _ _ z => z, fun d hd ι' _ => ?_⟩
    obtain ⟨x', hx', rfl⟩ := rowOf_get hd
    obtain ⟨v, hv, rv⟩ := h2.get hx'
    have : x = v := Option.some.inj ((hy ys (k.tupS h1).sq).symm.trans hv)
    subst this
    exact Rp.mono k _ _ rv
theorem signs_len (z : Str) : (signs z).length = z.cps.size := by unfold signs; simp
theorem its_str {K : Fg} {H : Hp} {ι : List Addr} {z : Str} (hz : z.length ≤ Lim) : ItS K ι H (Its z) (rowOf (signs z)) := by
  have L := Lim_le
  have hz' : z.cps.size ≤ Lim := hz
  refine ⟨by rw [rowOf_len, signs_len]; omega, fun i H' hi k => ?_, fun H' k => ?_, fun i H' x H2 hi k hy => ?_⟩
  · rw [rowOf_len, signs_len] at hi; exact hi
  · rw [rowOf_len, signs_len]; exact Nat.le_refl _
  · obtain ⟨rfl, c, hc, rfl⟩ := hy
    refine ⟨fun _ _ z => z, fun d hd ι' _ => ?_⟩
    obtain ⟨x', hx', rfl⟩ := rowOf_get hd
    unfold signs at hx'
    rw [List.getElem?_map, Array.getElem?_toList, hc] at hx'
    cases hx'
    exact .str _
theorem its_range {K : Fg} {H : Hp} {ι : List Addr} {lo : Int} {n : Nat} (hn : n ≤ Lim) : ItS K ι H (Itr lo n) (rowOf (rangeD lo n)) := by
  have L := Lim_le
  have hl : (rangeD lo n).length = n := by unfold rangeD; simp
  refine ⟨by rw [rowOf_len, hl]; omega, fun i H' hi k => ?_, fun H' k => ?_, fun i H' x H2 hi k hy => ?_⟩
  · rw [rowOf_len, hl] at hi; exact hi
  · rw [rowOf_len, hl]; exact Nat.le_refl _
  · rw [rowOf_len, hl] at hi
    obtain ⟨rfl, rfl⟩ := hy
    refine ⟨fun _ _ z => z, fun d hd ι' _ => ?_⟩
    obtain ⟨x', hx', rfl⟩ := rowOf_get hd
    unfold rangeD at hx'
    rw [List.getElem?_map, List.getElem?_range hi] at hx'
    cases hx'
    exact .int _
/-- how long a list or tuple may be at the most -/
def LenOk (K : Fg) (v : V) (H : Hp) : Prop := ∀ a xs, v = .ref a → (SqL K H a xs ∨ SqT K H a xs) → xs.length ≤ sizeLine
theorem PE.len {t : TE} (h : PE X e t) : PE X e (fun σ H Q => t σ H fun v H1 => LenOk X.kw v H1 → Q v H1) :=
  ⟨fun pins s σ H Q I q => thn (h.run pins s σ H _ I q) fun u s1 ⟨v, H1, I1, r, q1⟩ => ⟨v, H1, I1, r, q1 fun a xs _ hq => by
    rcases hq with hq | hq
    · obtain ⟨_, _, _, z⟩ := I1.list hq; exact z
    · obtain ⟨_, _, _, z⟩ := I1.tuple hq; exact z⟩⟩
theorem si_val (he : PE X e (tE X.kw m)) : PI X tg e (tI X.kw (iVal m)) := by
  refine ⟨fun pins s σ H R I ⟨ι, ρ, S, src, S', hH, hE, h, q⟩ => ?_⟩
  unfold iVal at h
  split at h
  · rename_i xs S1 h1
    cases h
    refine (pi_list (PE.len he)).run pins s σ H R I ⟨ι, ρ, S, _, _, hH, hE, h1, fun ι1 v H1 w1 hH1 rd lk => ?_⟩
    cases rd with
    | lst a1 a2 => exact ⟨_, rfl, ⟨_, a1.rd.sq⟩, q ι1 _ H1 w1 hH1 (its_list a1 a2 (by rw [← a2.length]; exact lk _ _ rfl (.inl a1.rd.sq)))⟩
  · rename_i xs S1 h1
    cases h
    refine (pi_tup (PE.len he)).run pins s σ H R I ⟨ι, ρ, S, _, _, hH, hE, h1, fun ι1 v H1 w1 hH1 rd lk => ?_⟩
    cases rd with
    | tup a1 a2 => exact ⟨_, rfl, ⟨_, a1.sq⟩, q ι1 _ H1 w1 hH1 (its_tup a1 a2 (by rw [← a2.length]; exact lk _ _ rfl (.inr a1.sq)))⟩
  · rename_i z S1 h1
    split at h
    · rename_i hz
      cases h
      exact (pi_str he).run pins s σ H R I ⟨ι, ρ, S, _, _, hH, hE, h1, fun ι1 v H1 w1 hH1 rd => ⟨z, str_of rd, q ι1 _ H1 w1 hH1 (its_str hz)⟩⟩
    · cases h
  · rename_i n S1 h1
    split at h
    · rename_i xs hx
      cases h
      refine (pi_list he).run pins s σ H R I ⟨ι, ρ, S, _, _, hH, hE, h1, fun ι1 v H1 w1 hH1 rd => ?_⟩
      obtain ⟨a, ha, rfl⟩ := rd
      obtain ⟨ys, h2, _⟩ := hH1.at_ n a _ ha hx
      exact ⟨a, rfl, ⟨ys, SqL.of h2⟩, q ι1 _ H1 w1 hH1 ⟨a, ha, rfl⟩⟩
    · cases h
  · cases h
variable {a b : Expr} {as : MA} {p pos : Pos}
theorem si_range1 (hg : Gl X "range") (hm : X.mg "range" = none) (ha : PA X [a] (tAs X.kw as)) (hs : starEach [a] X.env = [(false, eval a X.env)]) : PI X tg (.Call (.Name "range" p) [a] [] pos) (tI X.kw (iRange1 as)) := by
  refine PI.imp (pi_range1 hg hm ha hs) fun σ H R ⟨ι, ρ, S, src, S', hH, hE, h, q⟩ => ?_
  unfold iRange1 at h
  split at h
  · rename_i j S1 h1
    split at h
    · rename_i hj
      cases h
      refine ⟨ι, ρ, S, _, _, hH, hE, h1, fun ι1 vs H1 w1 hH1 rv => ?_⟩
      obtain ⟨v, rfl, rd⟩ := rv.one
      have hL : (Lim : Int) = 16777216 := rfl
      exact ⟨j, by rw [int_of rd], by omega, by omega, q ι1 _ H1 w1 hH1 (its_range (by omega))⟩
    · cases h
  · cases h
theorem si_range2 (hg : Gl X "range") (hm : X.mg "range" = none) (ha : PA X [a, b] (tAs X.kw as)) (hs : starEach [a, b] X.env = [(false, eval a X.env), (false, eval b X.env)]) (hs2 : starEach [b] X.env = [(false, eval b X.env)]) : PI X tg (.Call (.Name "range" p) [a, b] [] pos) (tI X.kw (iRange2 as)) := by
  refine PI.imp (pi_range2 hg hm ha hs hs2) fun σ H R ⟨ι, ρ, S, src, S', hH, hE, h, q⟩ => ?_
  unfold iRange2 at h
  split at h
  · rename_i i j S1 h1
    split at h
    · rename_i hj
      cases h
      refine ⟨ι, ρ, S, _, _, hH, hE, h1, fun ι1 vs H1 w1 hH1 rv => ?_⟩
      obtain ⟨v, w, rfl, rd, re⟩ := rv.two
      have hL : (Lim : Int) = 16777216 := rfl
      exact ⟨i, j, by rw [int_of rd, int_of re], ⟨by omega, by omega, by omega, by omega⟩, q ι1 _ H1 w1 hH1 (its_range (by omega))⟩
    · cases h
  · cases h
/-- pairs taken from what stands still -/
theorem row2 {K : Fg} {H : Hp} {ι : List Addr} {T : Addr} {x y : V} {dx dy : PyData} (hx : Rp K H x dx) (hy : Rp K H y dy) (hT : H T = none) : RI K (upd H T (.tup [x, y])) ι (.ref T) (.row [.p dx, .p dy]) := by
  have k : Keep H (upd H T (.tup [x, y])) := Keep.new hT
  exact ⟨T, [x, y], rfl, SqT.of upd_same, Rp.mono k _ _ hx, Rp.mono k _ _ hy, trivial⟩
theorem paired_get {xs ys : List PyData} {i : Nat} {d : Itm} (h : (paired xs ys)[i]? = some d) : ∃ x y, xs[i]? = some x ∧ ys[i]? = some y ∧ d = .row [.p x, .p y] := by
  unfold paired at h
  rw [List.getElem?_map] at h
  cases e : (xs.zip ys)[i]? with
  | none => rw [e] at h; cases h
  | some z =>
    rw [e] at h
    cases h
    obtain ⟨h1, h2⟩ := List.getElem?_zip_eq_some.mp e
    exact ⟨z.1, z.2, h1, h2, rfl⟩
theorem numbered_get {xs : List PyData} {i : Nat} {d : Itm} (h : (numbered xs)[i]? = some d) : ∃ x, xs[i]? = some x ∧ d = .row [.p (.int (i : Nat)), .p x] := by
  unfold numbered at h
  rw [List.getElem?_map, List.getElem?_zipIdx] at h
  cases e : xs[i]? with
  | none => rw [e] at h; cases h
  | some z =>
    rw [e] at h
    simp only [Option.map_some, Nat.zero_add, Option.some.injEq] at h
    exact ⟨z, rfl, h.symm⟩
theorem paired_len (xs ys : List PyData) : (paired xs ys).length = min xs.length ys.length := by unfold paired; rw [List.length_map, List.length_zip]
theorem numbered_len (xs : List PyData) : (numbered xs).length = xs.length := by unfold numbered; rw [List.length_map, List.length_zipIdx]
theorem its_zipT {K : Fg} {H : Hp} {ι : List Addr} {a b : Addr} {vs ws : List V} {xs ys : List PyData} (h1 : TupS K H a vs) (h2 : RpA K H vs xs) (h3 : TupS K H b ws) (h4 : RpA K H ws ys) (hz : xs.length ≤ sizeLine) : ItS K ι H (RZ.ItzT K a b) (paired xs ys) := by
  have l1 := h2.length
  have l2 := h4.length
  have ln := paired_len xs ys
  refine ⟨by omega, fun i H' hi k => ?_, fun H' k => ?_, fun i H' x H2 hi k hy => ?_⟩
  · exact ⟨vs, ws, vs[i], ws[i], (k.tupS h1).sq, (k.tupS h3).sq, List.getElem?_eq_getElem (by omega), List.getElem?_eq_getElem (by omega)⟩
  · exact ⟨vs, ws, (k.tupS h1).sq, (k.tupS h3).sq, by omega⟩
  · obtain ⟨T, x1, x2, rfl, hT, rfl, f1, f2⟩ := hy
    refine ⟨Same.put hT, fun d hd ι' _ => ?_⟩
    obtain ⟨dx, dy, ex, ey, rfl⟩ := paired_get hd
    obtain ⟨v, hv, rv⟩ := h2.get ex
    obtain ⟨w, hw, rw'⟩ := h4.get ey
    have e1 : x1 = v := Option.some.inj ((f1 vs (k.tupS h1).sq).symm.trans hv)
    have e2 : x2 = w := Option.some.inj ((f2 ws (k.tupS h3).sq).symm.trans hw)
    subst e1 e2
    exact row2 (Rp.mono k _ _ rv) (Rp.mono k _ _ rw') hT
theorem its_enumL {K : Fg} {H : Hp} {ι : List Addr} {a : Addr} {vs : List V} {xs : List PyData} (h1 : LstS K H a vs) (h2 : RpA K H vs xs) (hz : xs.length ≤ sizeLine) : ItS K ι H (Ite K a) (numbered xs) := by
  have l1 := h2.length
  have ln := numbered_len xs
  refine ⟨by omega, fun i H' hi k => ?_, fun H' k => ?_, fun i H' x H2 hi k hy => ?_⟩
  · exact ⟨vs, vs[i], (k.lstS h1).rd.sq, List.getElem?_eq_getElem (by omega)⟩
  · exact ⟨vs, (k.lstS h1).rd.sq, by omega⟩
  · obtain ⟨T, x1, rfl, hT, rfl, f1⟩ := hy
    refine ⟨Same.put hT, fun d hd ι' _ => ?_⟩
    obtain ⟨dx, ex, rfl⟩ := numbered_get hd
    obtain ⟨v, hv, rv⟩ := h2.get ex
    have e1 : x1 = v := Option.some.inj ((f1 vs (k.lstS h1).rd.sq).symm.trans hv)
    subst e1
    exact row2 (.int _) (Rp.mono k _ _ rv) hT
/-- all lengths of the arguments -/
theorem PA.len {es : List Expr} {t : TA} (h : PA X es t) : PA X es (fun σ H Q => t σ H fun vs H1 => (∀ v ∈ vs, LenOk X.kw v H1) → Q vs H1) :=
  ⟨fun pos pins s σ H Q I q => thn (h.run pos pins s σ H _ I q) fun u s1 ⟨v, H1, I1, r, q1⟩ => ⟨v, H1, I1, r, q1 fun _ _ a xs _ hq => by
    rcases hq with hq | hq
    · obtain ⟨_, _, _, z⟩ := I1.list hq; exact z
    · obtain ⟨_, _, _, z⟩ := I1.tuple hq; exact z⟩⟩
variable {elts : List Expr} {kk : Nat} {tpos : Pos}
theorem si_zipT (hg : Gl X "zip") (hm : X.mg "zip" = none) (ha : PA X [a, b] (tAs X.kw as)) (hs : starEach [a, b] X.env = (false, eval a X.env) :: starEach [b] X.env) (hpl : (backTo pos (starEach [b] X.env)).any (·.1) = false) :
    PI X (.Tuple elts kk tpos) (.Call (.Name "zip" p) [a, b] [] pos) (tI X.kw (iZipT as)) := by
  refine PI.imp (RZ.pi_zipA hg hm (PA.len ha) hs hpl) fun σ H R ⟨ι, ρ, S, src, S', hH, hE, h, q⟩ => ?_
  unfold iZipT at h
  split at h
  · rename_i xs ys S1 h1
    cases h
    refine ⟨ι, ρ, S, _, _, hH, hE, h1, fun ι1 vs H1 w1 hH1 rv lk => ?_⟩
    obtain ⟨v, w, rfl, rd, re⟩ := rv.two
    obtain ⟨a1, vs, rfl, t1, t2⟩ := tup_of rd
    obtain ⟨a2, ws, rfl, t3, t4⟩ := tup_of re
    exact ⟨a1, a2, vs, ws, rfl, .inr ⟨t1.sq, t3.sq, q ι1 _ H1 w1 hH1 (its_zipT t1 t2 t3 t4 (by rw [← t2.length]; exact lk _ (by simp) _ _ rfl (.inr t1.sq)))⟩⟩
  · cases h
/-! enumerate of a text -/
def ItS' (x : Str) : It := ⟨fun i _ => i < x.cps.size, fun i H v H' => ∃ T c, v = .ref T ∧ H T = none ∧ H' = upd H T (.tup [.int (i : Nat), .str ⟨#[c]⟩]) ∧ x.cps[i]? = some c, fun i _ => i = x.cps.size⟩
theorem turn_enumS {P : Program} {w : World} {K : PySem.W.Frag} {x : Str} {t : Tok} (e it : Addr) :
    Turn P w K (.Tuple elts kk tpos) (ItS' x) [e, it] e (fun i h => (∃ old, IsEnum h e it ((i : Nat) : Int) old) ∧ h.IsStrIter it (strIterType x) x t i ∧ e ≠ it) where
  mem := by simp
  obj := fun i h st b hb => by
    obtain ⟨⟨old, he⟩, ⟨o, ho, hc, hd⟩, _⟩ := st
    have e' : b = e ∨ b = it := by simpa using hb
    rcases e' with z | z
    · rw [z]; exact ⟨_, he, fun v q => nomatch q⟩
    · rw [z]; exact ⟨o, ho, fun v q => by rw [hd] at q; cases q⟩
  keep := fun i h h' st k => let ⟨⟨old, he⟩, ⟨o, ho, r⟩, hne⟩ := st; ⟨⟨old, k e (by simp) _ he⟩, ⟨o, k it (by simp) o ho, r⟩, hne⟩
  item := by
    intro X hP hw hK hc i pins s σ H E I hf st hg
    subst hP hw hK
    obtain ⟨he, hit, hne⟩ := st
    have hlt : i < x.cps.size := hg
    have G := GoesN.enumFrom (A := X.A) (elts := elts) (x1 := kk) (pos := tpos) 0 (Draws.text (prog := X.prog) (w := X.w) (A := X.A.in1) (I.ok.hd hc) it x t) e hne (by simpa using hne) (by simp)
    have st0 : (∃ old, IsEnum s.heap e it (0 + (i : Int)) old) ∧ s.heap.IsStrIter it (strIterType x) x t i := ⟨by rw [Int.zero_add]; exact he, hit⟩
    refine G.goes i s _ E hlt st0 fun v h' tk hY st' hk htk => ?_
    obtain ⟨T, tt, y, rfl, hT, ⟨c, u, hc', rfl⟩, hTup⟩ := hY
    have hTn : H T = none := I.hok.fresh hT
    have new : ObjOk X.prog X.w (upd H T (.tup [.int (i : Nat), .str ⟨#[c]⟩])) h' T (.tup [.int (i : Nat), .str ⟨#[c]⟩]) :=
      ⟨by show 2 ≤ sizeLine; decide, [.int (0 + (i : Int)) tt, .str ⟨#[c]⟩ u], .cons ⟨_, by rw [Int.zero_add]⟩ (.cons ⟨_, rfl⟩ .nil), hTup⟩
    have I1 : Inv X pins σ (upd H T (.tup [.int (i : Nat), .str ⟨#[c]⟩])) { s with heap := h', toks := tk } := I.turnedNew (ch := [e, it]) hk hf hT new
    refine ⟨.ref T, _, I1, rfl, ⟨T, c, rfl, hTn, rfl, hc'⟩, ⟨?_, st'.2, hne⟩, fun b hb => ?_⟩
    · have := st'.1
      rw [Int.zero_add] at this
      exact this
    · have hb' : b < s.heap.objs.size := by
        have e' : b = e ∨ b = it := by simpa using hb
        rcases e' with z | z
        · rw [z]; obtain ⟨old, q⟩ := he; exact Heap.lt_size q
        · rw [z]; obtain ⟨o, q, _⟩ := hit; exact Heap.lt_size q
      rw [upd_ne (Nat.ne_of_lt (Nat.lt_of_lt_of_le hb' hT))]
      exact (hf b hb).1
  done := by
    intro X hP hw hK hc i pins s σ H E I hf st hg
    subst hP hw hK
    obtain ⟨he, hit, hne⟩ := st
    have hi : i = x.cps.size := hg
    subst hi
    have G := GoesN.enumFrom (A := X.A) (elts := elts) (x1 := kk) (pos := tpos) 0 (Draws.text (prog := X.prog) (w := X.w) (A := X.A.in1) (I.ok.hd hc) it x t) e hne (by simpa using hne) (by simp)
    refine G.stops s _ E ⟨by rw [Int.zero_add]; exact he, hit⟩ fun h' tk hk htk => ?_
    have nT : ∀ b u, H b = some u → b ∉ [e, it] := fun b u hb hm => by rw [(hf b hm).1] at hb; cases hb
    refine I.step (g' := s.gens) (d' := s.drawn) (ch := [e, it]) (fun b hb => ⟨(hf b hb).2.2.2.1, (hf b hb).2.1, (hf b hb).2.2.2.2.1, (hf b hb).2.2.2.2.2⟩) (fun b o _ _ hc e _ => hk b o hc e) (fun b o _ _ hc e _ => ⟨o.slots, hk b o hc e⟩)
      (fun b o _ _ n => n) (fun b o hc e => ⟨o, hk b o hc e⟩) (fun b xs e => e) (fun b o u e => e) (fun b ps e => ⟨#[], by rw [e]; simp⟩) (fun m hm => ?_) (fun b u hb => ?_) I.bare
    · obtain ⟨o, es, ep, ho, r⟩ := hm
      refine ⟨o, es, ep, hk _ o (fun z => ?_) ho, r⟩
      exact (hf _ z).2.1 rfl
    · refine (I.hok b u hb).stay (fun c v hc q => hk c v (fun z => ?_) q) (fun _ q => q) fun _ _ q => q
      rcases hc with rfl | hc
      · exact nT _ _ hb z
      · exact nT _ _ hc z
  self := fun A i s Q E st h => let ⟨⟨_, he⟩, _⟩ := st; wpAny_pyIter_enum he h
theorem its_enumS {K : Fg} {H : Hp} {ι : List Addr} {z : Str} (hz : z.length ≤ Lim) : ItS K ι H (ItS' z) (numbered (signs z)) := by
  have L := Lim_le
  have hz' : z.cps.size ≤ Lim := hz
  have ln := numbered_len (signs z)
  have l2 := signs_len z
  refine ⟨by omega, fun i H' hi k => ?_, fun H' k => ?_, fun i H' x H2 hi k hy => ?_⟩
  · show i < z.cps.size; omega
  · show _ = z.cps.size; omega
  · obtain ⟨T, c, rfl, hT, rfl, hc⟩ := hy
    refine ⟨Same.put hT, fun d hd ι' _ => ?_⟩
    obtain ⟨dx, ex, rfl⟩ := numbered_get hd
    unfold signs at ex
    rw [List.getElem?_map, Array.getElem?_toList, hc] at ex
    cases ex
    exact row2 (.int _) (.str _) hT
theorem si_enum (hg : Gl X "enumerate") (hm : X.mg "enumerate" = none) (ha : PE X a (tE X.kw m)) (hs : starEach [a] X.env = [(false, eval a X.env)]) :
    PI X (.Tuple elts kk tpos) (.Call (.Name "enumerate" p) [a] [] pos) (tI X.kw (iEnumS m)) := by
  have hs' : starEach (a :: []) X.env = (false, eval a X.env) :: starEach [] X.env := hs
  refine ⟨fun pins s σ H R I ⟨ι, ρ, S, src, S', hH, hE, h, q⟩ => ?_⟩
  unfold iEnumS at h
  split at h
  · rename_i z S1 h1
    split at h
    · rename_i hz
      cases h
      refine PyProof.Rows.Call_ (ld_blt I hg hm PyProof.Rows.boot_enumerate (PyProof.Rows.callWith_type1 (thn ((pa_cons ha pa_nil hs').run pos pins s σ H (fun vs H1 => ∃ ι1, vs = [.str z] ∧ Ext ι H ι1 H1 ∧ HR X.kw H1 ι1 S') I ?_) fun us s1 ⟨vs, H1, I1, r1, ι1, ev, w1, hH1⟩ => ?_) hs rfl))
      · exact ⟨ι, ρ, S, _, _, hH, hE, h1, fun ι1 v H1 w1 hH1 rd => ⟨ι1, by rw [str_of rd], w1, hH1⟩⟩
      · subst ev
        obtain ⟨u, rfl, t, rfl⟩ := vals1 r1
        refine call_enumerate_str fun h' he hit hsz hk => wpAny_pyIter_enum he ?_
        have I2 : Inv X pins σ H1 { s1 with heap := h' } := I1.kept (t' := s1.toks) hk
        refine ⟨s1.heap.objs.size + 1, [s1.heap.objs.size + 1, s1.heap.objs.size], _, ItS' z, H1, rfl, I2, turn_enumS (t := t) (s1.heap.objs.size + 1) s1.heap.objs.size, ⟨⟨.none, he⟩, hit, Nat.succ_ne_self _⟩, fun b hb => ?_, q ι1 _ H1 w1 hH1 (its_enumS hz)⟩
        have e' : b = s1.heap.objs.size + 1 ∨ b = s1.heap.objs.size := by simpa using hb
        have hle : s1.heap.objs.size ≤ b := by
          rcases e' with z | z
          · rw [z]; exact Nat.le_add_right _ _
          · rw [z]; exact Nat.le_refl _
        exact I1.fpOk hle (I1.hok.fresh hle)
    · cases h
  · rename_i xs S1 h1
    cases h
    refine (pi_enum hg hm (PA.len (pa_cons ha pa_nil hs')) hs).run pins s σ H R I ⟨ι, ρ, S, _, _, hH, hE, h1, fun ι1 v H1 w1 hH1 rd lk => ?_⟩
    cases rd with
    | lst a1 a2 => exact ⟨_, _, rfl, a1.rd.sq, q ι1 _ H1 w1 hH1 (its_enumL a1 a2 (by rw [← a2.length]; exact lk _ (by simp) _ _ rfl (.inl a1.rd.sq)))⟩
  · cases h
end
end Tm
namespace PySem
open Sem (wp)
open AutoSeq1 (wpAny_loadPart')
theorem Tm_meets_enumerate_newT (l : Addr) (items : Array Value) (n : Nat) (dct : Option Addr) (sl : Array (Option Value)) :
    Meets (Builtin.«enumerate.__new__» ⟨[.type "enumerate", .ref l], []⟩) (fun _ R s => s.heap.get? l = some { cls := .type "tuple", dict := dct, data := .seq items n, slots := sl } ∧
      R (.ok (.ret (.ref (s.heap.push { cls := .type "tuple_iterator", data := .fields #[.ref l, .int 0 0] }).objs.size)))
        { s with heap := (s.heap.push { cls := .type "tuple_iterator", data := .fields #[.ref l, .int 0 0] }).push { cls := .type "enumerate", data := .fields #[.none, .bool false, .ref s.heap.objs.size, rawInt 0, .none, .none] } }) :=
  .of_wp fun prog w A R s h => by
    obtain ⟨hp, g, d, tk, os⟩ := s; obtain ⟨hl, h⟩ := h
    have hsub := sub_enumerate
    have hL : Heap.IsTuple (Shared.heap ⟨hp, g, d, tk, os⟩) l items := ⟨_, hl, rfl, n, rfl⟩
    wp_walk using wpAny_loadPart' hl
    refine wpAny_stack_any fun st => wpAny_pure ?_
    split
    · rename_i c _ _ _ _ _
      cases (c == Value.type "enumerate")
      · wp_walk using wpAny_loadPart' hl, wpAny_pyIter_tuple hL
        exact ⟨_, rfl, h⟩
      · wp_walk using wpAny_loadPart' hl, wpAny_pyIter_tuple hL
        exact ⟨_, rfl, h⟩
    · wp_walk using wpAny_loadPart' hl, wpAny_pyIter_tuple hL
      exact ⟨_, rfl, h⟩
section
variable {prog : Program} {w : World} {A : Around} {E : Value → Shared → Prop} {s : Shared}
theorem Tm_call_enumerate_tuple {l : Addr} {items : Array Value} {Q : Value → Shared → Prop} (hL : s.heap.IsTuple l items)
    (h : ∀ h', IsEnum h' (s.heap.objs.size + 1) s.heap.objs.size 0 .none → h'.IsTupleIter s.heap.objs.size l 0 → h'.objs.size = s.heap.objs.size + 2 →
      (∀ b o, s.heap.get? b = some o → h'.get? b = some o) → Q (.ref (s.heap.objs.size + 1)) { s with heap := h' }) :
    wpAny (model prog w) A (call (.type "enumerate") [.ref l]) Q E s := by
  obtain ⟨⟨c, dct, dt, sl⟩, hl, hc, n, hd⟩ := hL
  replace hc : c = .type "tuple" := hc
  replace hd : dt = .seq items n := hd
  subst hc hd
  refine callType_new F.called_enumerate (by decide) (F.typeCall_enumerate_1 _) (F.newCall_enumerate_1 _) (fun obj => F.args_object_init_2 obj _) F.entry_enumerate_new
    (Tm_meets_enumerate_newT l items n dct sl) ⟨hl, ?_⟩
  have hz : (s.heap.push { cls := .type "tuple_iterator", data := .fields #[.ref l, .int 0 0] }).objs.size = s.heap.objs.size + 1 := Heap.size_push ..
  show _ ∧ _
  rw [hz]
  have he : IsEnum ((s.heap.push { cls := .type "tuple_iterator", data := .fields #[.ref l, .int 0 0] }).push
      { cls := .type "enumerate", data := .fields #[.none, .bool false, .ref s.heap.objs.size, rawInt 0, .none, .none] }) (s.heap.objs.size + 1) s.heap.objs.size 0 .none := by
    have := Heap.get?_push_size (s.heap.push { cls := .type "tuple_iterator", data := .fields #[.ref l, .int 0 0] })
      (o := { cls := .type "enumerate", data := .fields #[.none, .bool false, .ref s.heap.objs.size, rawInt 0, .none, .none] }) rfl
    rw [hz] at this; exact this
  refine ⟨⟨_, he, rfl⟩, h _ he ⟨_, Heap.get?_push_of_some _ (Heap.get?_push_size _ rfl), rfl, rfl⟩ (by rw [Heap.size_push, hz]) fun b o x => Heap.get?_push_of_some _ (Heap.get?_push_of_some _ x)⟩
end
end PySem
namespace Tm
open PySem L2
/-! ## enumerate of a tuple -/
def IteT (K : PySem.W.Frag) (a : Addr) : It :=
  ⟨fun i H => ∃ (xs : List V) (x : V), SqT K H a xs ∧ xs[i]? = some x, fun i H v H' => ∃ T x, v = .ref T ∧ H T = none ∧ H' = upd H T (.tup [.int (i : Nat), x]) ∧ ∀ xs, SqT K H a xs → xs[i]? = some x, fun i H => ∃ xs : List V, SqT K H a xs ∧ xs.length = i⟩
theorem turn_enumT {P : Program} {w : World} {K : PySem.W.Frag} {elts : List Expr} {kk : Nat} {tpos : Pos} (a e it : Addr) :
    Turn P w K (.Tuple elts kk tpos) (IteT K a) [e, it] e (fun i h => (∃ old, IsEnum h e it ((i : Nat) : Int) old) ∧ h.IsTupleIter it a i ∧ e ≠ it) where
  mem := by simp
  obj := fun i h st b hb => by
    obtain ⟨⟨old, he⟩, ⟨o, ho, hc, hd⟩, _⟩ := st
    have e' : b = e ∨ b = it := by simpa using hb
    rcases e' with z | z
    · rw [z]; exact ⟨_, he, fun v q => nomatch q⟩
    · rw [z]; exact ⟨o, ho, fun v q => by rw [hd] at q; cases q⟩
  keep := fun i h h' st k => let ⟨⟨old, he⟩, hi, hne⟩ := st; ⟨⟨old, k e (by simp) _ he⟩, hi.at fun o q => k it (by simp) o q, hne⟩
  item := by
    intro X hP hw hK hc i pins s σ H E I hf st hg
    subst hP hw hK
    obtain ⟨he, hit, hne⟩ := st
    obtain ⟨xs, x, hq, hx⟩ := hg
    obtain ⟨its, rv, p, hz⟩ := I.tuple hq
    obtain ⟨u, hu, ru⟩ := rv.get hx
    have pT : s.heap.IsTuple a its.toArray := p
    have hai : a ≠ it := fun z => by
      obtain ⟨o1, e1, c1, _⟩ := pT
      obtain ⟨o2, e2, c2, _⟩ := hit
      rw [z, e2] at e1; cases e1
      rw [c2] at c1; simp at c1
    have hae : a ≠ e := fun z => by
      obtain ⟨o1, e1, c1, _⟩ := pT
      obtain ⟨old, e2⟩ := he
      rw [z] at e1
      have e2' : s.heap.get? e = some _ := e2
      rw [e2'] at e1; cases e1
      simp at c1
    have hlt : i < its.toArray.size := by simp; exact (List.getElem?_eq_some_iff.mp hu).1
    have G := GoesN.enumFrom (A := X.A) (elts := elts) (x1 := kk) (pos := tpos) 0 (Draws.tuple (prog := X.prog) (w := X.w) (A := X.A.in1) (I.ok.hd hc) it a hai its.toArray) e hne (by simp; exact ⟨hne, fun z => hae z.symm⟩) (by simp)
    have st0 : (∃ old, IsEnum s.heap e it (0 + (i : Int)) old) ∧ s.heap.IsTupleIter it a i ∧ s.heap.IsTuple a its.toArray := ⟨by rw [Int.zero_add]; exact he, hit, pT⟩
    refine G.goes i s _ E hlt st0 fun v h' tk hY st' hk htk => ?_
    obtain ⟨T, tt, y, rfl, hT, hy, hTup⟩ := hY
    have ey : y = u := by
      rw [List.getElem?_toArray, hu] at hy; cases hy; rfl
    subst ey
    have hTn : H T = none := I.hok.fresh hT
    have new : ObjOk X.prog X.w (upd H T (.tup [.int (i : Nat), x])) h' T (.tup [.int (i : Nat), x]) :=
      ⟨by show 2 ≤ sizeLine; decide, [.int (0 + (i : Int)) tt, y], .cons ⟨_, by rw [Int.zero_add]⟩ (.cons ru .nil), hTup⟩
    have I1 : Inv X pins σ (upd H T (.tup [.int (i : Nat), x])) { s with heap := h', toks := tk } := I.turnedNew (ch := [e, it]) hk hf hT new
    refine ⟨.ref T, _, I1, rfl, ⟨T, x, rfl, hTn, rfl, fun ys hy => by rw [I.tuple_inj hy hq]; exact hx⟩, ⟨?_, st'.2.1, hne⟩, fun b hb => ?_⟩
    · have := st'.1
      rw [Int.zero_add] at this
      exact this
    · have hb' : b < s.heap.objs.size := by
        have e' : b = e ∨ b = it := by simpa using hb
        rcases e' with z | z
        · rw [z]; obtain ⟨old, q⟩ := he; exact Heap.lt_size q
        · rw [z]; obtain ⟨o, q, _⟩ := hit; exact Heap.lt_size q
      rw [upd_ne (Nat.ne_of_lt (Nat.lt_of_lt_of_le hb' hT))]
      exact (hf b hb).1
  done := by
    intro X hP hw hK hc i pins s σ H E I hf st hg
    subst hP hw hK
    obtain ⟨he, hit, hne⟩ := st
    obtain ⟨xs, hq, hi⟩ := hg
    obtain ⟨its, rv, p, hz⟩ := I.tuple hq
    have pT : s.heap.IsTuple a its.toArray := p
    have hl := rv.length
    have hi : i = its.toArray.size := by simp; omega
    subst hi
    have hai : a ≠ it := fun z => by
      obtain ⟨o1, e1, c1, _⟩ := pT
      obtain ⟨o2, e2, c2, _⟩ := hit
      rw [z, e2] at e1; cases e1
      rw [c2] at c1; simp at c1
    have hae : a ≠ e := fun z => by
      obtain ⟨o1, e1, c1, _⟩ := pT
      obtain ⟨old, e2⟩ := he
      rw [z] at e1
      have e2' : s.heap.get? e = some _ := e2
      rw [e2'] at e1; cases e1
      simp at c1
    have G := GoesN.enumFrom (A := X.A) (elts := elts) (x1 := kk) (pos := tpos) 0 (Draws.tuple (prog := X.prog) (w := X.w) (A := X.A.in1) (I.ok.hd hc) it a hai its.toArray) e hne (by simp; exact ⟨hne, fun z => hae z.symm⟩) (by simp)
    refine G.stops s _ E ⟨by rw [Int.zero_add]; exact he, hit, pT⟩ fun h' tk hk htk => ?_
    have nT : ∀ b u, H b = some u → b ∉ [e, it] := fun b u hb hm => by rw [(hf b hm).1] at hb; cases hb
    refine I.step (g' := s.gens) (d' := s.drawn) (ch := [e, it]) (fun b hb => ⟨(hf b hb).2.2.2.1, (hf b hb).2.1, (hf b hb).2.2.2.2.1, (hf b hb).2.2.2.2.2⟩) (fun b o _ _ hc e _ => hk b o hc e) (fun b o _ _ hc e _ => ⟨o.slots, hk b o hc e⟩)
      (fun b o _ _ n => n) (fun b o hc e => ⟨o, hk b o hc e⟩) (fun b xs e => e) (fun b o u e => e) (fun b ps e => ⟨#[], by rw [e]; simp⟩) (fun m hm => ?_) (fun b u hb => ?_) I.bare
    · obtain ⟨o, es, ep, ho, r⟩ := hm
      refine ⟨o, es, ep, hk _ o (fun z => ?_) ho, r⟩
      exact (hf _ z).2.1 rfl
    · refine (I.hok b u hb).stay (fun c v hc q => hk c v (fun z => ?_) q) (fun _ q => q) fun _ _ q => q
      rcases hc with rfl | hc
      · exact nT _ _ hb z
      · exact nT _ _ hc z
  self := fun A i s Q E st h => let ⟨⟨_, he⟩, _⟩ := st; wpAny_pyIter_enum he h
theorem its_enumT {K : Fg} {H : Hp} {ι : List Addr} {a : Addr} {vs : List V} {xs : List PyData} (h1 : TupS K H a vs) (h2 : RpA K H vs xs) (hz : xs.length ≤ sizeLine) : ItS K ι H (IteT K a) (numbered xs) := by
  have l1 := h2.length
  have ln := numbered_len xs
  refine ⟨by omega, fun i H' hi k => ?_, fun H' k => ?_, fun i H' x H2 hi k hy => ?_⟩
  · exact ⟨vs, vs[i], (k.tupS h1).sq, List.getElem?_eq_getElem (by omega)⟩
  · exact ⟨vs, (k.tupS h1).sq, by omega⟩
  · obtain ⟨T, x1, rfl, hT, rfl, f1⟩ := hy
    refine ⟨Same.put hT, fun d hd ι' _ => ?_⟩
    obtain ⟨dx, ex, rfl⟩ := numbered_get hd
    obtain ⟨v, hv, rv⟩ := h2.get ex
    have e1 : x1 = v := Option.some.inj ((f1 vs (k.tupS h1).sq).symm.trans hv)
    subst e1
    exact row2 (.int _) (Rp.mono k _ _ rv) hT
/-- enumerate: of texts, lists, tuples -/
def iEnum (m : M) : MI := fun ρ S => match m ρ S with
  | some (.p (.str z), S1) => if z.length ≤ Lim then some (.its (numbered (signs z)), S1) else none
  | some (.p (.list xs), S1) => some (.its (numbered xs), S1)
  | some (.p (.tuple xs), S1) => some (.its (numbered xs), S1)
  | _ => none
section
variable {X : Cx} {a : Expr} {m : M} {p pos tpos : Pos} {elts : List Expr} {kk : Nat}
theorem si_enumA (hg : Gl X "enumerate") (hm : X.mg "enumerate" = none) (ha : PE X a (tE X.kw m)) (hs : starEach [a] X.env = [(false, eval a X.env)]) :
    PI X (.Tuple elts kk tpos) (.Call (.Name "enumerate" p) [a] [] pos) (tI X.kw (iEnum m)) := by
  have hs' : starEach (a :: []) X.env = (false, eval a X.env) :: starEach [] X.env := hs
  refine ⟨fun pins s σ H R I ⟨ι, ρ, S, src, S', hH, hE, h, q⟩ => ?_⟩
  cases hm1 : m ρ S with
  | none => unfold iEnum at h; rw [hm1] at h; cases h
  | some y =>
    obtain ⟨d, S1⟩ := y
    cases d with
    | r n => unfold iEnum at h; rw [hm1] at h; cases h
    | p x =>
      cases x with
      | tuple xs =>
        unfold iEnum at h; rw [hm1] at h; cases h
        refine PyProof.Rows.Call_ (ld_blt I hg hm PyProof.Rows.boot_enumerate (PyProof.Rows.callWith_type1 (thn ((PA.len (pa_cons ha pa_nil hs')).run pos pins s σ H (fun vs H1 => ∃ ι1 b ys, vs = [.ref b] ∧ Ext ι H ι1 H1 ∧ HR X.kw H1 ι1 S' ∧ TupS X.kw H1 b ys ∧ RpA X.kw H1 ys xs ∧ xs.length ≤ sizeLine) I ?_) fun us s1 ⟨vs, H1, I1, r1, ι1, b, ys, ev, w1, hH1, hT, hR, hz⟩ => ?_) hs rfl))
        · refine ⟨ι, ρ, S, _, _, hH, hE, hm1, fun ι1 v H1 w1 hH1 rd lk => ?_⟩
          obtain ⟨b, ys, rfl, hT, hR⟩ := tup_of rd
          exact ⟨ι1, b, ys, rfl, w1, hH1, hT, hR, by rw [← hR.length]; exact lk _ (by simp) _ _ rfl (.inr hT.sq)⟩
        · subst ev
          obtain ⟨u, rfl, ru⟩ := vals1 r1
          have ru : u = Value.ref b := ru
          subst ru
          obtain ⟨its, rv, p', hz'⟩ := I1.tuple hT.sq
          have pT : s1.heap.IsTuple b its.toArray := p'
          refine Tm_call_enumerate_tuple pT fun h' he hit hsz hk => wpAny_pyIter_enum he ?_
          have I2 : Inv X pins σ H1 { s1 with heap := h' } := I1.kept (t' := s1.toks) hk
          refine ⟨s1.heap.objs.size + 1, [s1.heap.objs.size + 1, s1.heap.objs.size], _, IteT X.K b, H1, rfl, I2, turn_enumT b (s1.heap.objs.size + 1) s1.heap.objs.size, ⟨⟨.none, he⟩, hit, Nat.succ_ne_self _⟩, fun b hb => ?_, q ι1 _ H1 w1 hH1 (its_enumT hT hR hz)⟩
          have e' : b = s1.heap.objs.size + 1 ∨ b = s1.heap.objs.size := by simpa using hb
          have hle : s1.heap.objs.size ≤ b := by
            rcases e' with z | z
            · rw [z]; exact Nat.le_add_right _ _
            · rw [z]; exact Nat.le_refl _
          exact I1.fpOk hle (I1.hok.fresh hle)
      | _ =>
        have e2 : iEnum m ρ S = iEnumS m ρ S := by unfold iEnum iEnumS; rw [hm1]
        rw [e2] at h
        exact (si_enum hg hm ha hs).run pins s σ H R I ⟨ι, ρ, S, src, S', hH, hE, h, q⟩
end
end Tm
namespace Tm
open PySem L2

/-! ## defs: as FnOk, where nothing is being shown (guards) -/
structure FnG (P : Program) (w : World) (K : PySem.W.Frag) (mg : Str → Option Value) (base : Heap) (k : Nat) (f : Addr) (fd : FuncData) (ps : List Str) (sp : Sp) : Prop where
  len : ∀ vs H Q E, sp vs H Q E → vs.length = ps.length
  run : ∀ (A : Around) (outer : List Env) (s : Shared) (H : Hp) (args : Args) (us : List Value) (vs : List V) (Q : VK) (E : XK),
    A.guards = some [] → Room k A → Env0 P w K mg base A outer s H → BindsTo s fd args (ps.zip us) → Vals vs us → sp vs H Q E →
      codeAny (model P w) A (.call (.ref f) args) (CR CX0 outer P w H s Q E) s
section
variable {P : Program} {w : World} {K : PySem.W.Frag} {mg : Str → Option Value} {base : Heap} {k : Nat} {f : Addr} {fd : FuncData} {ps : List Str} {sp : Sp}
theorem FnG.up {j : Nat} (F : FnG P w K mg base j f fd ps sp) (h : j ≤ k) : FnG P w K mg base k f fd ps sp :=
  ⟨F.len, fun A outer s H args us vs Q E hg hr => F.run A outer s H args us vs Q E hg (hr.mono h)⟩
theorem fnG_of {x qual : Str} {st : Stmt} {N : List Str} (F : Fun K x qual st f fd) (S : FnScope N ps (defScope st)) (len : ∀ vs H Q E, sp vs H Q E → vs.length = ps.length)
    (hbody : ∀ (cdv : Value) (A : Around) (outer : List Env) (s : Shared) (H : Hp) (vs : List V) (Q : VK) (E : XK), A.guards = some [] → Room k (A.deeper (PyProof.Rows.envOfC qual (defScope st) s.heap.objs.size f cdv)) → sp vs H Q E →
      ∃ t, PSs (cxOf CX0 P w K mg base N qual (defScope st) f cdv A outer s H E).nox (defBody st) t ∧ t { nx := fun _ H' => Q .non H', rt := Q } (L2.start N vs) H) : FnG P w K mg base (k + 1) f fd ps sp := by
  obtain ⟨oc, od, kV, doc, pm, an, cd, ct, osl, rfl, lk, hcd⟩ := F.ex
  refine ⟨len, fun A outer s H args us vs Q E hg hr e0 hb r hsp => ?_⟩
  have hl := len _ _ _ _ hsp
  have inK : K.In s.heap := e0.mod.kin.keeps fun b o e => (e0.bs b o e).1
  have lim : s.heap.NoLimit := e0.mod.nolimit.keeps fun b o e => (e0.bs b o e).1
  refine codeAny_call_function hr.depth (inK _ _ lk) rfl S.co S.gen rfl (PySem.W.codeRec_of inK hcd) (hb _ _ _ _ ?_)
  refine wpAny_newFunctionEnv_cells S.kind ?_ fun env he s1 y => ?_
  · rintro ⟨n, v⟩ hy
    rcases S.par n (List.of_mem_zip hy).1 with q | q
    · exact .inl q
    · exact .inr ⟨q, PySem.W.cellsFrom_some _ _ _ (.inl q)⟩
  · subst he
    refine ⟨lim.keeps y.toInCall.keep, codeAny_func ?_⟩
    obtain ⟨t, ht, hq⟩ := hbody cd A outer s H vs Q E hg (hr.deeper _) hsp
    have J := inv_start (CX := CX0) (E := E) (mg := mg) (base := base) S hr.hd e0 hl r y
    have ends : ∀ {σ' : L2.St} {H' : Hp} {v : V} {u : Value} {s' : Shared}, Inv (cxOf CX0 P w K mg base N qual (defScope st) f cd A outer s H E) [] σ' H' s' → RelV v u → Q v H' → CE outer P w H s Q u s' :=
      fun {_ H' v _ _} I rv q => ⟨v, H', I.os, I.bare, I.base, I.hok, rv, q⟩
    refine wpAny_mono (ht.nox.run [] s1 (L2.start N vs) H _ J hq) (fun fl s' hs => ?_) fun e s' hs => hs
    cases fl with
    | ret u => obtain ⟨v, σ', H', I, rv, q⟩ := hs; exact ends I rv q
    | next => obtain ⟨σ', H', I, q⟩ := hs; exact ends (v := V.non) (u := Value.none) I rfl q
    | brk => obtain ⟨_, _, _, q⟩ := hs; exact q.elim
    | cont => obtain ⟨_, _, _, q⟩ := hs; exact q.elim
end
section
variable {X : Cx} {k : Nat} {f : Addr} {fd : FuncData} {ps : List Str} {n : Nat} {F : List D → Sto → Rs D} {x : Str} {p pos : Pos} {e : Expr} {es : List Expr} {mas : MA}
theorem run_G (G : FnG X.prog X.w X.kw X.mg X.base k f fd ps (spF X.kw n F)) (hg : X.A.guards = some []) (hr : Room k X.A) (hb : Binds X.kw fd ps []) {pins : List (Addr × Obj)} {σ : L2.St} {H : Hp} {s : Shared} {Q : VK} {us : List Value} {vs : List V}
    (I : Inv X pins σ H s) (r : Vals vs us) (h : spF X.kw n F vs H Q E0) : wpAny (model X.prog X.w) X.A (call (.ref f) us) (EP X pins σ Q) X.xe s := by
  have hl : (us ++ []).length = ps.length := by rw [List.append_nil, ← r.length]; exact G.len _ _ _ _ h
  have hb' := hb s us I.kIn hl
  rw [List.append_nil] at hb'
  refine wpAny_call (codeAny_mono (G.run X.A X.stack s H ⟨us, []⟩ us vs Q E0 hg hr I.env0 hb' r h) fun z s' hq => ?_)
  cases z with
  | error e => exact hq.elim
  | ok fl =>
    cases fl with
    | ret u => exact I.after hq
    | next => exact hq.elim
    | brk => exact hq.elim
    | cont => exact hq.elim
theorem s_call (G : FnG X.prog X.w X.kw X.mg X.base k f fd ps (spF X.kw n F)) (hg' : X.A.guards = some []) (hr : Room k X.A) (hg : Gl X x) (hm : X.mg x = some (.ref f)) (hk : PySem.W.keepIn X.kw (.ref f) = true) (hb : Binds X.kw fd ps []) (hn : ∀ ds S z, F ds S = some z → ds.length = n)
    (ha : PA X (e :: es) (tAs X.kw mas)) (hdb : (x == ("__debug__" : Str)) = false) (he : starEach (e :: es) X.env = (false, eval e X.env) :: starEach es X.env) (hpl : (backTo pos (starEach es X.env)).any (·.1) = false) :
    PE X (.Call (.Name x p) (e :: es) [] pos) (tE X.kw (mN F mas)) := by
  refine ⟨fun pins s σ H Q I ⟨ι, ρ, S, z, S', hH, hE, e', q⟩ => ?_⟩
  unfold mN at e'
  split at e'
  · rename_i ds S1 h1
    refine wpAny_Call_Name_kw (ld_glob I hg hm ?_ hdb)
    refine PySem.W.callWith_K (h₀ := X.base) I.ok.mod.kin hk (thn (ha.run pos pins s σ H (fun vs H1 => spF X.kw n F vs H1 Q E0) I ⟨ι, ρ, S, ds, S1, hH, hE, h1, fun ι1 vs H1 w1 hH1 rv => ⟨ι1, S1, ds, z, S', hH1, rv, hn _ _ _ e', e', q.of w1⟩⟩) fun us s1 ⟨vs, H1, I1, r, qq⟩ => ⟨I1.kIn, ?_⟩) he hpl
    exact run_G G hg' hr hb I1 r qq
  · cases e'
theorem s_call0 (G : FnG X.prog X.w X.kw X.mg X.base k f fd ps (spF X.kw n F)) (hg' : X.A.guards = some []) (hr : Room k X.A) (hg : Gl X x) (hm : X.mg x = some (.ref f)) (hk : PySem.W.keepIn X.kw (.ref f) = true) (hb : Binds X.kw fd ps []) (hn : ∀ ds S z, F ds S = some z → ds.length = n)
    (hdb : (x == ("__debug__" : Str)) = false) : PE X (.Call (.Name x p) [] [] pos) (tE X.kw (mN F maNil)) := by
  refine ⟨fun pins s σ H Q I ⟨ι, ρ, S, z, S', hH, hE, e', q⟩ => ?_⟩
  have e' : F [] S = some (z, S') := e'
  refine wpAny_Call_Name_kw (ld_glob I hg hm ?_ hdb)
  exact PySem.W.callWith_K0 I.kIn hk (run_G (us := []) G hg' hr hb I .nil ⟨ι, S, [], z, S', hH, trivial, hn _ _ _ e', e', q⟩)
end
/-! ## a def of the plain side -/
/-- its body, run with the arguments in the first slots -/
def runF (n N : Nat) (b : MS) : List D → Sto → Rs D := fun ds S => if ds.length = n then (match b (ds.map some ++ List.replicate (N - n) none) S with
  | some (.rt d, S1) => some (d, S1)
  | some (.nx _, S1) => some (.p .none, S1)
  | _ => none) else none
theorem runF_len {n N : Nat} {b : MS} {ds : List D} {S : Sto} {z : D × Sto} (h : runF n N b ds S = some z) : ds.length = n := by
  unfold runF at h
  split at h
  · assumption
  · cases h
theorem er_start {K : Fg} {H : Hp} {ι : List Addr} : ∀ {vs : List V} {ds : List D} (m : Nat), RDs K H ι vs ds → ER K H ι (vs.map some ++ List.replicate m none) (ds.map some ++ List.replicate m none)
  | [], [], m, _ => ⟨by simp, fun i d e => by
    rw [List.map_nil, List.nil_append, List.getElem?_replicate] at e
    split at e <;> cases e⟩
  | v :: vs, d :: ds, m, ⟨h1, h2⟩ => by
    have ih := er_start m h2
    refine ⟨by have := ih.len; simp at this ⊢; omega, fun i d' e => ?_⟩
    cases i with
    | zero => simp at e; subst e; exact ⟨v, rfl, h1⟩
    | succ i => exact ih.at_ i d' (by simpa using e)
theorem fn_plain {P : Program} {w : World} {K : PySem.W.Frag} {mg : Str → Option Value} {base : Heap} {k : Nat} {f : Addr} {fd : FuncData} {x qual : Str} {st : Stmt} {N ps : List Str} {b : MS} (F : Fun K x qual st f fd) (S : FnScope N ps (defScope st)) (hN : ps.length ≤ N.length)
    (hb : ∀ (cdv : Value) (A : Around) (outer : List Env) (s : Shared) (H : Hp) (E : XK), A.guards = some [] → Room k (A.deeper (PyProof.Rows.envOfC qual (defScope st) s.heap.objs.size f cdv)) →
      PSs (cxOf CX0 P w K mg base N qual (defScope st) f cdv A outer s H E).nox (defBody st) (tS ⟨K, w⟩ b)) : FnG P w K mg base (k + 1) f fd ps (spF ⟨K, w⟩ ps.length (runF ps.length N.length b)) := by
  refine fnG_of F S (fun vs H Q E ⟨ι, S, ds, z, S', _, rv, hl, _⟩ => by rw [rv.length, hl]) fun cdv A outer s H vs Q E hg hr ⟨ι, S0, ds, z, S', hH, rv, hl, e, q⟩ => ⟨_, hb cdv A outer s H E hg hr, ?_⟩
  unfold runF at e
  rw [if_pos hl] at e
  have hv : vs.length = ps.length := by rw [rv.length, hl]
  have er : ER ⟨K, w⟩ H ι (L2.start N vs) (ds.map some ++ List.replicate (N.length - ps.length) none) := by
    unfold L2.start
    rw [hv]
    exact er_start _ rv
  split at e
  · rename_i d S1 h1
    cases e
    exact ⟨ι, _, S0, _, _, hH, er, h1, q⟩
  · rename_i ρ S1 h1
    cases e
    exact ⟨ι, _, S0, _, _, hH, er, h1, fun ι' σ' H' w hH' _ => q ι' .non H' w hH' .non⟩
  · cases e
/-! ## further expressions: a module's constant, isinstance, a written dict -/
def GlobOk (K : Fg) (mg : Str → Option Value) (x : Str) (d : PyData) : Prop := ∃ v u, mg x = some u ∧ RelV v u ∧ ∀ H, Rp K H v d
def DictOk (K : Fg) (w : World) (mg : Str → Option Value) (x : Str) (tbl : List (Str × PyData)) : Prop := ∃ a, mg x = some (.ref a) ∧ ∀ y d, tbl.lookup y = some d → ∃ v, KDct K w a y v ∧ ∀ H, Rp K H v d
def gDix (tbl : List (Str × PyData)) : D → Sto → Rs D := fun b S => match b with
  | .p (.str z) => (match tbl.lookup z with
    | some d => ok d S
    | none => none)
  | _ => none
section
variable {X : Cx} {x : Str} {p pos : Pos} {a b : Expr} {m : M}
theorem s_glob {d : PyData} (hg : Gl X x) (h : GlobOk X.kw X.mg x d) (hd : (x == ("__debug__" : Str)) = false) : PE X (.Name x pos) (tE X.kw (mC d)) := by
  obtain ⟨v, u, hm, r, hr⟩ := h
  exact s_c (pe_glob hg hm r hd) hr
theorem s_dix {tbl : List (Str × PyData)} (hg : Gl X x) (h : DictOk X.kw X.w X.mg x tbl) (hd : (x == ("__debug__" : Str)) = false) (hb : PE X b (tE X.kw m)) (hs : PlainIx b) : PE X (.Subscript (.Name x p) b pos) (tE X.kw (m1 (gDix tbl) m)) := by
  obtain ⟨ad, hm, ht⟩ := h
  refine PE.imp (pe_ix ix_kdict (pe_glob (v := .ref ad) hg hm rfl hd) hb hs) fun σ H Q ⟨ι, ρ, S, z, S', hH, hE, e, q⟩ => ?_
  unfold m1 at e
  split at e
  · rename_i y S1 h1
    unfold gDix ok at e
    split at e
    · rename_i s
      split at e
      · rename_i d hl
        cases e
        obtain ⟨v, kd, hr⟩ := ht _ _ hl
        exact ⟨ι, ρ, S, _, _, hH, hE, h1, fun ι1 w H1 w1 hH1 rw' => ⟨ad, _, v, rfl, str_of rw', kd, q ι1 v H1 w1 hH1 (hr H1)⟩⟩
      · cases e
    · cases e
  · cases e
theorem s_isa {T : String} {y : Str} {py : Pos} (hT : T ∈ isTys) (hg : Gl X "isinstance") (hm : X.mg "isinstance" = none) (hgT : Gl X y) (hmT : X.mg y = none) (hvT : bootBuiltins y = some (.type T)) (hnT : y ≠ "__name__") (hdT : (y == ("__debug__" : Str)) = false)
    (ha : PE X a (tE X.kw m)) (he : starEach [a, .Name y py] X.env = (false, eval a X.env) :: starEach [.Name y py] X.env) (hpl : (backTo pos (starEach [.Name y py] X.env)).any (·.1) = false) :
    PE X (.Call (.Name "isinstance" p) [a, .Name y py] [] pos) (tE X.kw (m1 (gIsa T) m)) := by
  have hty : PE X (.Name y py) (tC (.ty T)) := pe_bltn hgT hmT hvT rfl hnT hdT
  refine PE.imp (pe_callB call_isi hg hm (by decide +kernel) (pa_cons ha (pa_cons hty pa_nil) he) (by decide) (by decide) he hpl) fun σ H Q ⟨ι, ρ, S, z, S', hH, hE, e, q⟩ => ?_
  unfold m1 at e
  split at e
  · rename_i y S1 h1
    unfold gIsa ok at e
    split at e
    · rename_i d hd
      cases e
      refine ⟨ι, ρ, S, _, _, hH, hE, h1, fun ι1 w H1 w1 hH1 rw' => ?_⟩
      obtain ⟨t1, t2⟩ := dp_ty (data_of hH1 rw' hd)
      exact ⟨w, .ty T, _, _, isaB (tyName d) T, rfl, .ty T, t1, kit_ty (isa_kit hT t2), q ι1 _ H1 w1 hH1 (.bl _)⟩
    · cases e
  · cases e
end
/-! ## x[::-1] -/
def strRev (x : Str) : Str := ⟨x.cps.toList.reverse.toArray⟩
theorem strRev_eq (x : Str) (u : Tok) : Txt.sliceBy x none none (-1, u) = strRev x := by
  have h := PyProof.Rows.step_rev_list x u
  refine PySem.W.str_of_cps ?_
  rw [h]
  unfold strRev
  refine List.ext_getElem? fun i => ?_
  simp only [List.getElem?_map, List.getElem?_range', Str.length]
  by_cases c : i < x.cps.size
  · rw [List.getElem?_range c]
    have c2 : x.cps.size - 1 - i < x.cps.size := by omega
    simp [Array.getD, c2, List.getElem?_reverse, c, Array.getElem?_eq_getElem]
  · rw [List.getElem?_eq_none (by simp; omega), List.getElem?_eq_none (by simp; omega)]; rfl
def gRev : D → Sto → Rs D := fun d S => match dataOf d S with
  | some (.list xs) => ok (.list xs.reverse) S
  | some (.str x) => if x.length ≤ Lim then ok (.str (strRev x)) S else none
  | _ => none
section
variable {X : Cx} {a : Expr} {m : M} {k : Nat} {p1 p2 p3 pos : Pos}
def tRevS (te : TE) : TE := fun σ H Q => te σ H fun x H1 => ∃ z : Str, x = .str z ∧ z.length ≤ sizeLine ∧ Q (.str (strRev z)) H1
theorem pe_revS {e : Expr} {te : TE} (he : PE X e te) : PE X (.Subscript e (.Slice none none (some (.UnaryOp .USub (.Constant (.int 1) k p1) p2)) p3) pos) (tRevS te) := by
  refine ⟨fun pins s σ H Q I h => ?_⟩
  refine PyProof.Rows.Subscript_ (thn (he.run pins s σ H _ I h) fun v s1 ⟨x, H1, I1, r1, z, ex, hz, q⟩ => ?_)
  subst ex
  obtain ⟨t, rfl⟩ := r1
  have step : PO X (some (.UnaryOp .USub (.Constant (.int 1) k p1) p2)) (tPart (tUn (rU fun i => .int (-i)) (tC (.int 1)))) := po_some (pe_un un_neg pe_int)
  refine wpAny_Slice (thn (po_none.run pins s1 σ H1 (fun o H2 => o = none ∧ H2 = H1) I1 ⟨rfl, rfl⟩) fun vl s2 ⟨l, H2, I2, pl, el, e2⟩ => ?_)
  subst el e2
  refine thn (po_none.run pins s2 σ H2 (fun o H3 => o = none ∧ H3 = H2) I2 ⟨rfl, rfl⟩) fun vu s3 ⟨u, H3, I3, pu, eu, e3⟩ => ?_
  subst eu e3
  refine thn (step.run pins s3 σ H3 (fun o H4 => o = some (-1) ∧ H4 = H3) I3 ⟨1, rfl, -1, rfl, rfl, rfl⟩) fun vs s4 ⟨o, H4, I4, ps, eo, e4⟩ => ?_
  subst eo e4
  cases pl
  cases pu
  obtain ⟨uk, rfl⟩ : ∃ uk, vs = .int (-1) uk := by cases ps; exact ⟨_, rfl⟩
  have I5 : Inv X pins σ H4 { s4 with heap := s4.heap.push { cls := .type "slice", data := .fields #[.none, .none, .int (-1) uk] } } := I4.kept (t' := s4.toks) fun b ob q => Heap.get?_push_of_some _ q
  refine PyProof.Rows.tail_any (ops := [.ref s4.heap.objs.size, .str z t]) (PySem.typeIs_str _ _ _) PySem.F.slot_str_getitem.lookup ?_ (by with_unfolding_all rfl)
  refine PySem.wpAny_getItem_str_slice (l := none) (u := none) (st := some (-1, uk)) ⟨_, Heap.get?_push_size _ rfl, rfl, rfl⟩ rfl ?_
  refine PySem.post_val_or_str ⟨Nat.le_trans (Txt.sliceBy_le z none none (-1, uk) (show (-1 : Int) ≠ 0 by decide)) hz, fun t' c => ?_⟩
  refine ⟨.str (strRev z), H4, I5.tok c, ⟨t', ?_⟩, q⟩
  rw [← strRev_eq z uk]; rfl
theorem s_revL (ha : PE X a (tE X.kw m)) : PE X (.Subscript a (.Slice none none (some (.UnaryOp .USub (.Constant (.int 1) k p1) p2)) p3) pos) (tE X.kw (m1 gRev m)) := by
  have L := Lim_le
  refine ⟨fun pins s σ H Q I ⟨ι, ρ, S, z, S', hH, hE, e, q⟩ => ?_⟩
  unfold m1 at e
  split at e
  · rename_i y S1 h1
    unfold gRev ok at e
    split at e
    · rename_i xs hd
      cases e
      refine (PE.freeze (pe_revL ha)).run pins s σ H Q I ⟨ι, ρ, S, _, _, hH, hE, h1, fun ι1 w H1 w1 hH1 rw' => ?_⟩
      obtain ⟨b, ys, rfl, t1, t2⟩ := items2 hH1 rw' hd
      exact ⟨b, ys, rfl, t1.sq, fun p hp => fz_aft q w1 hp hH1 t2.reverse⟩
    · rename_i x hd
      split at e
      · rename_i hl
        cases e
        refine (pe_revS ha).run pins s σ H Q I ⟨ι, ρ, S, _, _, hH, hE, h1, fun ι1 w H1 w1 hH1 rw' => ?_⟩
        exact ⟨x, str2 rw' hd, Nat.le_trans hl L, q ι1 _ H1 w1 hH1 (.str _)⟩
      · cases e
    · cases e
  · cases e
end
end Tm
namespace Tm
open PySem L2

/-! ## dicts -/
def dLook (kvs : List (PyData × PyData)) (k : PyData) : Option PyData := match kvs with
  | [] => none
  | (a, v) :: r => if nkD a = nkD k then some v else dLook r k
def dHas (kvs : List (PyData × PyData)) (k : PyData) : Bool := kvs.any fun kv => decide (nkD kv.1 = nkD k)
def dPut (kvs : List (PyData × PyData)) (k v : PyData) : List (PyData × PyData) :=
  if dHas kvs k then kvs.map (fun kv => if nkD kv.1 = nkD k then (kv.1, v) else kv) else kvs ++ [(k, v)]
def isTupK : PyData → Bool
  | .tuple ds => (match nkDs ds with
    | some ks => decide ((NestedKey.tup ks).depth ≤ 8)
    | none => false)
  | _ => false
mutual
theorem nk_is {X : Cx} {pins : List (Addr × Obj)} {σ : L2.St} {H : Hp} {s : Shared} (I : Inv X pins σ H s) : ∀ (d : PyData) (k : NestedKey) (v : V) (u : Value), nkD d = some k → Rp X.kw H v d → RelV v u → NestedIs s.heap k u
  | .none, k, v, u, hk, r, ru => by
    simp only [nkD] at hk
    cases hk; cases r; cases ru; exact .none
  | .int i, k, v, u, hk, r, ru => by
    simp only [nkD] at hk
    cases hk; cases r; obtain ⟨t, rfl⟩ := ru; exact .int _ _
  | .str x, k, v, u, hk, r, ru => by
    simp only [nkD] at hk
    cases hk; cases r; obtain ⟨t, rfl⟩ := ru; exact .text _ _
  | .tuple ds, k, v, u, hk, r, ru => by
    simp only [nkD] at hk
    split at hk
    · rename_i ks hks
      cases hk
      cases r with
      | tup h1 h2 =>
        cases ru
        obtain ⟨its, rv, ⟨o, g1, g2, n, g3⟩, _⟩ := I.tuple h1.sq
        exact .tup g1 g2 g3 (by simpa using nk_all I ds ks _ its hks h2 rv)
    · cases hk
  | .bool _, k, v, u, hk, r, ru => by simp only [nkD] at hk; cases hk
  | .list _, k, v, u, hk, r, ru => by simp only [nkD] at hk; cases hk
  | .dict _, k, v, u, hk, r, ru => by simp only [nkD] at hk; cases hk
theorem nk_all {X : Cx} {pins : List (Addr × Obj)} {σ : L2.St} {H : Hp} {s : Shared} (I : Inv X pins σ H s) : ∀ (ds : List PyData) (ks : List NestedKey) (vs : List V) (us : List Value), nkDs ds = some ks → RpA X.kw H vs ds → Vals vs us → NestedAll s.heap ks us
  | [], ks, vs, us, hk, r, ru => by
    simp only [nkDs] at hk
    cases hk; cases r; cases ru; exact .nil
  | d :: ds, ks, vs, us, hk, r, ru => by
    simp only [nkDs] at hk
    split at hk
    · rename_i k ks' h1 h2
      cases hk
      cases r with
      | cons r1 r2 =>
        cases ru with
        | cons u1 u2 => exact .cons (nk_is I d k _ _ h1 r1 u1) (nk_all I ds ks' _ _ h2 r2 u2)
    · cases hk
end
section
variable {X : Cx} {pins : List (Addr × Obj)} {σ : L2.St} {H : Hp} {s : Shared} {a : Addr} {kvs : List (PyData × PyData)}
theorem dtu_heap (I : Inv X pins σ H s) (h : DtuR X.kw H a kvs) : ∃ xs, s.heap.DictOfH (nestedKind X.prog X.w) a xs ∧ (a == sysModules) = false ∧ xs.length ≤ sizeLine ∧ EachP (EntR X.kw H) xs kvs ∧ Mut (H a) := by
  obtain ⟨o, es, ep, xs, h1, h2, h3, h4, h5, h6, h7, h8⟩ := h
  have g := I.hok a _ h1
  obtain ⟨g1, _, _⟩ := g
  refine ⟨xs, ⟨o, es, ep, g1, h2, h3, h4, ?_, h5⟩, h6, h7, h8, by rw [h1]; trivial⟩
  clear h4 h5 h7
  induction h8 with
  | nil => intro x hx; cases hx
  | @cons x q xs qs e t ih =>
    intro y hy
    rcases List.mem_cons.mp hy with z | z
    · subst z
      obtain ⟨e1, e2, e3, _⟩ := e
      exact ⟨nk_is I q.1 y.1 _ _ e1 e3 rfl, e2⟩
    · exact ih y z
theorem look_at {k : NestedKey} {kd : PyData} (hk : nkD kd = some k) : ∀ {xs : List (NestedKey × Addr × Value)} {kvs : List (PyData × PyData)}, EachP (EntR X.kw H) xs kvs → (∀ vd, dLook kvs kd = some vd → ∃ b u v, atKey xs k = some (b, u) ∧ RelV v u ∧ Rp X.kw H v vd) ∧ (dLook kvs kd = none → atKey xs k = none) ∧ (dHas kvs kd = (dLook kvs kd).isSome)
  | [], [], .nil => ⟨fun vd h => (by cases h), fun _ => rfl, rfl⟩
  | x :: xs, q :: qs, .cons e t => by
    obtain ⟨e1, e2, e3, v, r1, r2⟩ := e
    obtain ⟨i1, i2, i3⟩ := look_at hk t
    obtain ⟨qk, qv⟩ := q
    obtain ⟨xk, xb, xu⟩ := x
    simp only at e1 e3 r1 r2
    have hc : (nkD qk = nkD kd) ↔ xk = k := by rw [e1, hk]; simp
    unfold dLook
    have hat : atKey ((xk, xb, xu) :: xs) k = if xk = k then some (xb, xu) else atKey xs k := by
      unfold atKey
      by_cases z : xk = k <;> simp [z]
    have hhas : dHas ((qk, qv) :: qs) kd = (decide (nkD qk = nkD kd) || dHas qs kd) := rfl
    by_cases z : xk = k
    · rw [if_pos (hc.mpr z), hat, if_pos z, hhas, decide_eq_true (hc.mpr z)]
      exact ⟨fun vd h => (by cases h; exact ⟨xb, xu, v, rfl, r1, r2⟩), fun h => (by cases h), rfl⟩
    · have z' : ¬ nkD qk = nkD kd := fun h => z (hc.mp h)
      rw [if_neg z', hat, if_neg z, hhas, decide_eq_false z']
      exact ⟨i1, i2, by rw [Bool.false_or]; exact i3⟩
/-- the pairs behind a store -/
theorem put_at {k : NestedKey} {kd vd : PyData} {b : Addr} {u : Value} {v : V} (hk : nkD kd = some k) (hd : k.depth ≤ 8) (hb : Rp X.kw H (.ref b) kd) (r1 : RelV v u) (r2 : Rp X.kw H v vd) {xs : List (NestedKey × Addr × Value)} (h : EachP (EntR X.kw H) xs kvs) : EachP (EntR X.kw H) (storedH xs k b u) (dPut kvs kd vd) := by
  obtain ⟨l1, l2, l3⟩ := look_at hk h
  unfold dPut
  cases hl : dLook kvs kd with
  | none =>
    rw [hl] at l3
    rw [l3, storedH_new (l2 hl)]
    show EachP _ _ (kvs ++ [(kd, vd)])
    clear l1 l2 l3 hl
    induction h with
    | nil => exact .cons ⟨hk, hd, hb, v, r1, r2⟩ .nil
    | cons e t ih => exact .cons e ih
  | some x =>
    rw [hl] at l3
    obtain ⟨b', u', v', h1, _, _⟩ := l1 x hl
    rw [l3, storedH_old h1]
    show EachP _ _ (kvs.map fun kv => if nkD kv.1 = nkD kd then (kv.1, vd) else kv)
    clear l1 l2 l3 hl h1
    induction h with
    | nil => exact .nil
    | @cons x q xs qs e t ih =>
      obtain ⟨e1, e2, e3, w, e4, e5⟩ := e
      refine .cons ?_ ih
      have hc : (nkD q.1 = nkD kd) ↔ x.1 = k := by rw [e1, hk]; simp
      show EntR X.kw H (if x.1 = k then (x.1, x.2.1, u) else x) (if nkD q.1 = nkD kd then (q.1, vd) else q)
      by_cases z : x.1 = k
      · rw [if_pos z, if_pos (hc.mpr z)]; exact ⟨e1, e2, e3, v, r1, r2⟩
      · rw [if_neg z, if_neg (fun y => z (hc.mp y))]; exact ⟨e1, e2, e3, w, e4, e5⟩
theorem room8 (hu : X.A.units + 70 < cLine) : (nestedKind X.prog X.w).room X.A.in1 := by
  show X.A.units + 1 + 8 < cLine
  omega
/-- a dict's new object -/
theorem dtu_new {h' : Heap} {xs : List (NestedKey × Addr × Value)} {kv' : List (PyData × PyData)} {tk : Nat} (I : Inv X pins σ H s) (mu : Mut (H a)) (lo : (a == sysModules) = false) (hm : h'.DictOfH (nestedKind X.prog X.w) a xs) (hs : Heap.SameBut a s.heap h') (hl : xs.length ≤ sizeLine)
    (hp : ∀ o, EachP (EntR X.kw (upd H a (dHO a o))) xs kv') : ∃ o, Inv X pins σ (upd H a (dHO a o)) { s with heap := h', toks := tk } ∧ DtuR X.kw (upd H a (dHO a o)) a kv' := by
  obtain ⟨o, es, ep, g1, g2, g3, g4, g5, g6⟩ := hm
  refine ⟨o, I.write (x := a) mu (.inl rfl) (fun b u nb e => (hs.2 b nb).trans e) ⟨o, g1⟩ ⟨g1, ⟨o, g1⟩, fun h1 h2 p q => q _ p⟩, ?_⟩
  exact ⟨o, es, ep, xs, upd_same, g2, g3, g4, g6, lo, hl, hp o⟩
end
/-! d[k], k in d, d[k] = v -/
def keyB : PyData → Bool
  | .int _ => true
  | .str _ => true
  | _ => false
def gIxA : D → D → Sto → Rs D := fun a b S => match a, b with
  | .r n, .p k => (match S[n]? with
    | some (.dtu kvs) => if isTupK k then (match dLook kvs k with
      | some v => ok v S
      | none => none) else none
    | some (.dct kvs) => if keyB k then (match dLook kvs k with
      | some v => ok v S
      | none => none) else none
    | _ => gIx a b S)
  | _, _ => gIx a b S
theorem tupK_of {k : PyData} (h : isTupK k = true) : ∃ nk, nkD k = some nk ∧ nk.depth ≤ 8 := by
  unfold isTupK at h
  split at h
  · rename_i ds
    split at h
    · rename_i ks hks
      exact ⟨.tup ks, by simp only [nkD, hks], of_decide_eq_true h⟩
    · cases h
  · cases h
theorem tupK_ref {K : Fg} {H : Hp} {v : V} {k : PyData} (h : isTupK k = true) (r : Rp K H v k) : ∃ b, v = .ref b := by
  unfold isTupK at h
  split at h
  · cases r with
    | tup _ _ => exact ⟨_, rfl⟩
  · cases h
section
variable {X : Cx}
theorem key_of' {K : Fg} {H : Hp} {v : V} {k : PyData} (h : keyB k = true) (r : Rp K H v k) : ∃ kk : Key, kD kk = k ∧ v = kV kk := by
  unfold keyB at h
  split at h
  · cases r; exact ⟨.inl _, rfl, rfl⟩
  · cases r; exact ⟨.inr _, rfl, rfl⟩
  · cases h
theorem kD_inj {a b : Key} : (nkD (kD a) = nkD (kD b)) ↔ a = b := by
  cases a <;> cases b <;> simp [kD, nkD]
theorem look_k {H : Hp} (k : Key) : ∀ {ks : List (Key × V)} {kvs : List (PyData × PyData)}, EachP (KvR X.kw H) ks kvs → (∀ vd, dLook kvs (kD k) = some vd → ∃ v, valV ks k = some v ∧ Rp X.kw H v vd) ∧ (dLook kvs (kD k) = none → valV ks k = none)
  | [], [], .nil => ⟨fun vd h => (by cases h), fun _ => rfl⟩
  | x :: ks, q :: qs, .cons e t => by
    obtain ⟨e1, e2⟩ := e
    obtain ⟨i1, i2⟩ := look_k k t
    unfold dLook
    have hc : (nkD q.1 = nkD (kD k)) ↔ x.1 = k := by rw [← e1]; exact kD_inj
    by_cases z : x.1 = k
    · rw [if_pos (hc.mpr z), valV_pos z]
      exact ⟨fun vd h => (by cases h; exact ⟨_, rfl, e2⟩), fun h => (by cases h)⟩
    · rw [if_neg (fun y => z (hc.mp y)), valV_neg z]
      exact ⟨i1, i2⟩
theorem i_ixA (hu : X.A.units + 70 < cLine) : IxR X (r2 X.kw gIxA) := fun value slice pins s σ H x y v u Q I rx ry ⟨ι, S, d, e, z, S', hH, rd, re, h, q⟩ hs => by
  unfold gIxA ok at h
  split at h
  · rename_i n k
    split at h
    · rename_i kvs hn
      split at h
      · rename_i hk
        split at h
        · rename_i vd hl
          cases h
          obtain ⟨a, ha, rfl⟩ := rd
          obtain ⟨xs, hm, lo, hz, he, mu⟩ := dtu_heap I (hH.at_ n a _ ha hn)
          obtain ⟨nk, h1, h2⟩ := tupK_of hk
          obtain ⟨b, rfl⟩ := tupK_ref hk re
          obtain ⟨b', u', v', g1, g2, g3⟩ := (look_at h1 he).1 vd hl
          cases rx
          cases ry
          refine PyProof.Rows.tail_any hm.typeIs PySem.F.slot_dict_getitem.lookup (wpAny_getItem_heap (room8 hu) ⟨nk_is I k nk _ _ h1 re rfl, h2⟩ hm g1 ?_) hs
          exact ⟨v', H, I.tok _, g2, fin q hH g3⟩
        · cases h
      · cases h
    · rename_i kvs hn
      split at h
      · rename_i hk
        split at h
        · rename_i vd hl
          cases h
          obtain ⟨a, ha, rfl⟩ := rd
          obtain ⟨ks, h1, h2⟩ := hH.at_ n a _ ha hn
          obtain ⟨kk, rfl, rfl⟩ := key_of' hk re
          obtain ⟨v', g1, g2⟩ := (look_k kk h2).1 vd hl
          cases rx
          have g : DGet H a (kV kk) (some v') := .inl ⟨ks, kk, .inl h1, rfl, g1.symm⟩
          exact PyProof.Rows.tail_any (dict_typeIs I g) PySem.F.slot_dict_getitem.lookup (d_getItem (by omega) I g ry fun w' s3 I3 rw' => ⟨v', H, I3, rw', fin q hH g2⟩) hs
        · cases h
      · cases h
    · exact i_ix value slice pins s σ H x y v u Q I rx ry ⟨ι, S, _, _, z, S', hH, rd, re, h, q⟩ hs
  · exact i_ix value slice pins s σ H x y v u Q I rx ry ⟨ι, S, _, _, z, S', hH, rd, re, h, q⟩ hs
/-! k in d -/
def gInA : D → D → Sto → Rs D := fun a b S => match a, b with
  | .p k, .r n => (match S[n]? with
    | some (.dtu kvs) => if isTupK k then ok (.bool (dLook kvs k).isSome) S else none
    | some (.dct kvs) => if keyB k then ok (.bool (dLook kvs k).isSome) S else none
    | _ => gIn a b S)
  | _, _ => gIn a b S
def gNotInA : D → D → Sto → Rs D := fun a b S => match a, b with
  | .p k, .r n => (match S[n]? with
    | some (.dtu kvs) => if isTupK k then ok (.bool (!(dLook kvs k).isSome)) S else none
    | some (.dct kvs) => if keyB k then ok (.bool (!(dLook kvs k).isSome)) S else none
    | _ => gNotIn a b S)
  | _, _ => gNotIn a b S
theorem look_some {H : Hp} {k : NestedKey} {kd : PyData} {xs : List (NestedKey × Addr × Value)} {kvs : List (PyData × PyData)} (hk : nkD kd = some k) (h : EachP (EntR X.kw H) xs kvs) : (atKey xs k).isSome = (dLook kvs kd).isSome := by
  obtain ⟨l1, l2, _⟩ := look_at hk h
  cases hl : dLook kvs kd with
  | none => rw [l2 hl]; rfl
  | some v => obtain ⟨_, _, _, e, _⟩ := l1 v hl; rw [e]; rfl
theorem look_someK {H : Hp} {k : Key} {ks : List (Key × V)} {kvs : List (PyData × PyData)} (h : EachP (KvR X.kw H) ks kvs) : (valV ks k).isSome = (dLook kvs (kD k)).isSome := by
  obtain ⟨l1, l2⟩ := look_k k h
  cases hl : dLook kvs (kD k) with
  | none => rw [l2 hl]; rfl
  | some v => obtain ⟨_, e, _⟩ := l1 v hl; rw [e]; rfl
theorem o_inA (hu : X.A.units + 70 < cLine) : OpR X (compareOp .In) (r2 X.kw gInA) := fun pins s σ H x y v u Q I rx ry ⟨ι, S, d, e, z, S', hH, rd, re, h, q⟩ => by
  unfold gInA ok at h
  split at h
  · rename_i k n
    split at h
    · rename_i kvs hn
      split at h
      · rename_i hk
        cases h
        obtain ⟨a, ha, rfl⟩ := re
        obtain ⟨xs, hm, lo, hz, he, mu⟩ := dtu_heap I (hH.at_ n a _ ha hn)
        obtain ⟨nk, h1, h2⟩ := tupK_of hk
        obtain ⟨b, rfl⟩ := tupK_ref hk rd
        cases rx
        cases ry
        refine wpAny_in_heap (room8 hu) ⟨nk_is I k nk _ _ h1 rd rfl, h2⟩ lo hm ?_
        rw [look_some h1 he]
        exact ⟨.bl _, H, I.tok _, rfl, fin q hH (.bl _)⟩
      · cases h
    · rename_i kvs hn
      split at h
      · rename_i hk
        cases h
        obtain ⟨a, ha, rfl⟩ := re
        obtain ⟨ks, h1, h2⟩ := hH.at_ n a _ ha hn
        obtain ⟨kk, rfl, rfl⟩ := key_of' hk rd
        cases ry
        have g : DGet H a (kV kk) (valV ks kk) := .inl ⟨ks, kk, .inl h1, rfl, rfl⟩
        refine d_in (by omega) I g rx fun s3 I3 => ?_
        rw [look_someK h2]
        exact ⟨.bl _, H, I3, rfl, fin q hH (.bl _)⟩
      · cases h
    · exact o_in (by omega) pins s σ H x y v u Q I rx ry ⟨ι, S, _, _, z, S', hH, rd, re, h, q⟩
  · exact o_in (by omega) pins s σ H x y v u Q I rx ry ⟨ι, S, _, _, z, S', hH, rd, re, h, q⟩
theorem o_notInA (hu : X.A.units + 70 < cLine) : OpR X (compareOp .NotIn) (r2 X.kw gNotInA) := fun pins s σ H x y v u Q I rx ry ⟨ι, S, d, e, z, S', hH, rd, re, h, q⟩ => by
  unfold gNotInA ok at h
  split at h
  · rename_i k n
    split at h
    · rename_i kvs hn
      split at h
      · rename_i hk
        cases h
        obtain ⟨a, ha, rfl⟩ := re
        obtain ⟨xs, hm, lo, hz, he, mu⟩ := dtu_heap I (hH.at_ n a _ ha hn)
        obtain ⟨nk, h1, h2⟩ := tupK_of hk
        obtain ⟨b, rfl⟩ := tupK_ref hk rd
        cases rx
        cases ry
        refine notIn_keyed (room8 hu) ⟨nk_is I k nk _ _ h1 rd rfl, h2⟩ lo ⟨xs, hm, rfl⟩ ?_
        rw [valueAt_pairsH, Option.isSome_map, look_some h1 he]
        exact ⟨.bl _, H, I.tok _, rfl, fin q hH (.bl _)⟩
      · cases h
    · rename_i kvs hn
      split at h
      · rename_i hk
        cases h
        obtain ⟨a, ha, rfl⟩ := re
        obtain ⟨ks, h1, h2⟩ := hH.at_ n a _ ha hn
        obtain ⟨kk, rfl, rfl⟩ := key_of' hk rd
        cases ry
        have g : DGet H a (kV kk) (valV ks kk) := .inl ⟨ks, kk, .inl h1, rfl, rfl⟩
        refine d_notIn (by omega) I g rx fun s3 I3 => ?_
        rw [look_someK h2]
        exact ⟨.bl _, H, I3, rfl, fin q hH (.bl _)⟩
      · cases h
    · exact o_notIn (by omega) pins s σ H x y v u Q I rx ry ⟨ι, S, _, _, z, S', hH, rd, re, h, q⟩
  · exact o_notIn (by omega) pins s σ H x y v u Q I rx ry ⟨ι, S, _, _, z, S', hH, rd, re, h, q⟩
/-! d[k] = v -/
def fSetA : D → D → D → Sto → Option Sto := fun o i v S => match o, i, v with
  | .r n, .p k, .p d => (match S[n]? with
    | some (.dtu kvs) => if isTupK k && decide (kvs.length < 1000000) then some (S.set n (.dtu (dPut kvs k d))) else none
    | some (.dct kvs) => if keyB k && decide (kvs.length < 1000000) then some (S.set n (.dct (dPut kvs k d))) else none
    | _ => fSet o i v S)
  | _, _, _ => fSet o i v S
theorem put_k {H : Hp} {k : Key} {v : V} {vd : PyData} (r : Rp X.kw H v vd) {ks : List (Key × V)} {kvs : List (PyData × PyData)} (h : EachP (KvR X.kw H) ks kvs) : EachP (KvR X.kw H) (putK ks k v) (dPut kvs (kD k) vd) := by
  have hany : (ks.any fun kv => decide (kv.1 = k)) = dHas kvs (kD k) := by
    induction h with
    | nil => rfl
    | @cons x q xs qs e t ih =>
      have hc : (nkD q.1 = nkD (kD k)) ↔ x.1 = k := by rw [← e.1]; exact kD_inj
      show (decide (x.1 = k) || _) = (decide (nkD q.1 = nkD (kD k)) || dHas qs (kD k))
      rw [ih]
      congr 1
      exact decide_eq_decide.mpr hc.symm
  unfold putK dPut
  rw [hany]
  cases dHas kvs (kD k) with
  | true =>
    rw [if_pos rfl, if_pos rfl]
    clear hany
    induction h with
    | nil => exact .nil
    | @cons x q xs qs e t ih =>
      have hc : (nkD q.1 = nkD (kD k)) ↔ x.1 = k := by rw [← e.1]; exact kD_inj
      refine .cons ?_ ih
      show KvR X.kw H (if x.1 = k then (x.1, v) else x) (if nkD q.1 = nkD (kD k) then (q.1, vd) else q)
      by_cases z : x.1 = k
      · rw [if_pos z, if_pos (hc.mpr z)]; exact ⟨e.1, r⟩
      · rw [if_neg z, if_neg (fun y => z (hc.mp y))]; exact e
  | false =>
    rw [if_neg (by decide), if_neg (by decide)]
    clear hany
    induction h with
    | nil => exact .cons ⟨rfl, r⟩ .nil
    | cons e t ih => exact .cons e ih
theorem entR_keep {H H' : Hp} (kp : Keep H H') {xs : List (NestedKey × Addr × Value)} {kvs : List (PyData × PyData)} (h : EachP (EntR X.kw H) xs kvs) : EachP (EntR X.kw H') xs kvs :=
  h.imp fun _ _ ⟨x, y, z, v, r, t⟩ => ⟨x, y, Rp.mono kp _ _ z, v, r, Rp.mono kp _ _ t⟩
theorem p_setA (hu : X.A.units + 70 < cLine) : PSet X (rSet X.kw fSetA) := fun pins s σ H o i v ov iv u Q I ro ri rv ⟨ι, S, x, y, d, S', hH, rx, ry, rd, h, q⟩ => by
  unfold fSetA at h
  split at h
  · rename_i n k dd
    split at h
    · rename_i kvs hn
      split at h
      · rename_i hk
        cases h
        simp only [Bool.and_eq_true, decide_eq_true_eq] at hk
        obtain ⟨a, ha, rfl⟩ := rx
        have hob := hH.at_ n a _ ha hn
        obtain ⟨xs, hm, lo, hz, he, mu⟩ := dtu_heap I hob
        obtain ⟨u0, hu0, nf⟩ := ObR.some (ob := .dtu kvs) hob
        obtain ⟨nk, h1, h2⟩ := tupK_of hk.1
        obtain ⟨b, rfl⟩ := tupK_ref hk.1 ry
        cases ro
        cases ri
        have hxl := he.length
        refine wpAny_setItem_heap (hsz := hz) (room8 hu) ⟨nk_is I k nk _ _ h1 ry rfl, h2⟩ hm fun h' hm' hs => ?_
        have kp : ∀ o', Keep H (upd H a (dHO a o')) := fun o' => Keep.mut hu0 nf
        have hl' : (storedH xs nk b u).length ≤ sizeLine := by
          have hsz : 1000001 ≤ sizeLine := by decide
          unfold storedH
          split
          · rw [List.length_map]; exact hz
          · rw [List.length_append]; simp only [List.length_singleton]; omega
        obtain ⟨o', I', dr⟩ := dtu_new (tk := s.toks + (nestedKind X.prog X.w).draws nk) (kv' := dPut kvs k dd) I mu lo hm' hs hl' fun o' => put_at h1 h2 (Rp.mono (kp o') _ _ ry) rv (Rp.mono (kp o') _ _ rd) (entR_keep (kp o') he)
        refine ⟨_, I', q ι _ (Ext.turn hu0 nf (List.mem_of_getElem? ha)) (hH.turn ha hn dr)⟩
      · cases h
    · rename_i kvs hn
      split at h
      · rename_i hk
        cases h
        simp only [Bool.and_eq_true, decide_eq_true_eq] at hk
        obtain ⟨a, ha, rfl⟩ := rx
        obtain ⟨ks, h1, h2⟩ := hH.at_ n a _ ha hn
        obtain ⟨kk, rfl, rfl⟩ := key_of' hk.1 ry
        cases ro
        have hxl := h2.length
        have hsz : 1000001 ≤ sizeLine := by decide
        have w : Ext ι H ι (upd H a (.dK (putK ks kk v))) := Ext.turn h1 (fun z => z) (List.mem_of_getElem? ha)
        refine d_setItem (by omega) I (DPut.k h1 (by omega)) ri rv fun s4 I4 => ⟨_, I4, q ι _ w (hH.turn ha hn ⟨_, upd_same, ?_⟩)⟩
        exact put_k (Rp.mono w.keep _ _ rd) (h2.imp fun _ _ ⟨x, y⟩ => ⟨x, Rp.mono w.keep _ _ y⟩)
      · cases h
    · exact p_set pins s σ H o i v ov iv u Q I ro ri rv ⟨ι, S, _, _, _, S', hH, rx, ry, rd, h, q⟩
  · exact p_set pins s σ H o i v ov iv u Q I ro ri rv ⟨ι, S, _, _, _, S', hH, rx, ry, rd, h, q⟩
/-! {} -/
def mNew (t : Bool) : M := fun _ S => some (.r S.length, S ++ [if t then .dtu [] else .dct []])
theorem grow_r {K : Fg} {H H1 : Hp} {ι ι1 : List Addr} {S : Sto} {Q : VK} {p : Addr} {o : HO} {ob : Ob} (q : Aft K H ι (.r S.length) (S ++ [ob]) Q) (w : Ext ι H ι1 H1) (hp : H1 p = none) (hH : HR K H1 ι1 S) (hr : ObR K (upd H1 p o) p ob) : Q (.ref p) (upd H1 p o) := by
  have w1 : Ext ι1 H1 (ι1 ++ [p]) (upd H1 p o) := Ext.grow hp
  refine q _ _ _ (w.trans w1) (hH.grow hp hr) ⟨p, ?_, rfl⟩
  rw [← hH.len, List.getElem?_append_right (Nat.le_refl _)]
  simp
theorem pe_dnewX {pos : Pos} : PE X (.Dict [] [] pos) (fun _ H Q => ∀ p o, H p = none → o.ExactDict → o.data = .dict #[] 0 → (p == sysModules) = false → Q (.ref p) (upd H p (dHO p o))) := ⟨fun pins s σ H Q I h =>
  wpAny_Dict_empty ⟨.ref s.heap.objs.size, _, I.laid (a := s.heap.objs.size) (o := dHO s.heap.objs.size { cls := .type "dict", data := .dict #[] }) (t' := s.toks) (fun _ _ q => Heap.get?_push_of_some _ q) (Nat.le_refl _) ⟨Heap.get?_push_size _ rfl, ⟨_, Heap.get?_push_size _ rfl⟩, fun h1 h2 p q => q _ p⟩, rfl,
    h _ _ (I.hok.fresh (Nat.le_refl _)) ⟨rfl, rfl, rfl⟩ rfl (beq_eq_false_iff_ne.mpr (Ne.symm (Nat.ne_of_lt I.big)))⟩⟩
theorem s_dnew {t : Bool} {pos : Pos} : PE X (.Dict [] [] pos) (tE X.kw (mNew t)) := by
  cases t with
  | false =>
    refine PE.imp pe_dnewK fun σ H Q ⟨ι, ρ, S, z, S', hH, hE, e, q⟩ => ?_
    cases e
    exact fun p hp => grow_r q (Ext.refl _ _) hp hH ⟨[], upd_same, .nil⟩
  | true =>
    refine PE.imp pe_dnewX fun σ H Q ⟨ι, ρ, S, z, S', hH, hE, e, q⟩ => ?_
    cases e
    exact fun p o hp h1 h2 h3 => grow_r q (Ext.refl _ _) hp hH ⟨o, #[], 0, [], upd_same, h1, h2, rfl, List.nodup_nil, h3, Nat.zero_le _, .nil⟩
/-! {'a': x, ..} -/
def dFold (acc : List (PyData × PyData)) : List (Str × PyData) → List (PyData × PyData)
  | [] => acc
  | (k, x) :: r => dFold (dPut acc (.str k) x) r
def gDisp (ks : List Str) : List D → Sto → Rs D := fun ds S => match datas ds with
  | some xs => if xs.length = ks.length ∧ xs.length ≤ 15 then some (.r S.length, S ++ [.dct (dFold [] (ks.zip xs))]) else none
  | none => none
theorem fold_k {H : Hp} : ∀ (ks : List Str) (vs : List V) (xs : List PyData) (a : List (Key × V)) (b : List (PyData × PyData)), RpA X.kw H vs xs → vs.length = ks.length → EachP (KvR X.kw H) a b → EachP (KvR X.kw H) (mergeK a ((ks.map Sum.inr).zip vs)) (dFold b (ks.zip xs))
  | [], vs, xs, a, b, r, hl, h => by
    cases r with
    | nil => exact h
    | cons _ _ => cases hl
  | k :: ks, vs, xs, a, b, r, hl, h => by
    cases r with
    | nil => cases hl
    | cons r1 r2 => exact fold_k ks _ _ (putK a (.inr k) _) (dPut b (.str k) _) r2 (by simpa using hl) (put_k (k := .inr k) r1 h)
theorem s_ixA (hu : X.A.units + 70 < cLine) {a b : Expr} {ma mb : M} {pos : Pos} (ha : PE X a (tE X.kw ma)) (hb : PE X b (tE X.kw mb)) (hs : PlainIx b) : PE X (.Subscript a b pos) (tE X.kw (m2 gIxA ma mb)) :=
  PE.imp (pe_ix (i_ixA hu) ha hb hs) fun _ _ _ h => imp2 h
end
end Tm
namespace Tm
open PySem L2

/-! ## tuple(range(..)), list(range(..)) -/
section
variable {X : Cx} {e : Expr} {te : L2.St → Hp → (Int → Int → Hp → Prop) → Prop}
theorem pe_tupRgF {p pos : Pos} (hc : X.calm = true) (hg : Gl X "tuple") (hm : X.mg "tuple" = none) (he : PRg X e te) (na : starEach [e] X.env = (false, eval e X.env) :: starEach [] X.env) :
    PE X (.Call (.Name "tuple" p) [e] [] pos) (fun σ H Q => te σ H fun a b H1 => RgOk a b ∧ ∀ q o, H1 q = none → o.dict = none → Q (.ref q) (upd H1 q (.frz o (.tup (rgV a b))))) := by
  refine ⟨fun pins s σ H Q I h => ?_⟩
  refine PyProof.Rows.Call_ (ld_blt I hg hm PyProof.Rows.boot_tuple (PyProof.Rows.callWith_type1 (PyProof.Rows.args_cons (thn (he pins s σ H _ I h) fun x s1 ⟨r, a, b, t, u, v, H1, ex, hr, I1, okr, q⟩ => PyProof.Rows.args_nil ?_) na) na))
  subst ex
  obtain ⟨b1, b2, b3, b4, b5⟩ := okr
  refine call_tuple_range (n := (b - a).toNat) (I1.ok.hd hc) hr (small_one b1 b2 b3 b4) (PyProof.Rows.rangeSize_nat a b) b5 fun h' tk acc hk hi => ?_
  have I2 : Inv X pins σ H1 { s1 with heap := h', toks := tk } := I1.kept hk
  have z := new_tup (tk := tk) I2 (vals_rg hi) (by rw [rgV_length, sizeLine_eq]; omega) (Q := Q) fun p o hp ho => q p o hp ho
  rw [Array.toArray_toList] at z
  exact z
end
theorem rg_rp {K : Fg} {H : Hp} (a b : Int) : RpA K H (rgV a b) (rangeD a (b - a).toNat) := by
  unfold rgV rangeD
  generalize List.range (b - a).toNat = l
  induction l with
  | nil => exact .nil
  | cons x l ih => exact .cons (.int _) ih
theorem rg_ok {i j : Int} (h : -1000000 ≤ i ∧ i ≤ 1000000 ∧ -1000000 ≤ j ∧ j ≤ 1000000) : RgOk i j := by
  refine ⟨by omega, by omega, by omega, by omega, ?_⟩
  have : (2 : Nat) ^ 24 = 16777216 := by decide
  omega
/-- the bounds of a range -/
abbrev MR := Ev → Sto → Option ((Int × Int) × Sto)
def mRg (as : MA) : MR := fun ρ S => match as ρ S with
  | some ([.p (.int j)], S1) => some ((0, j), S1)
  | some ([.p (.int i), .p (.int j)], S1) => some ((i, j), S1)
  | _ => none
def tRgP (K : Fg) (m : MR) : L2.St → Hp → (Int → Int → Hp → Prop) → Prop := fun σ H R => ∃ ι ρ S i j S', HR K H ι S ∧ ER K H ι σ ρ ∧ m ρ S = some ((i, j), S') ∧ ∀ ι' H', Ext ι H ι' H' → HR K H' ι' S' → R i j H'
def mMade (kd : Nat) (m : MR) : M := fun ρ S => match m ρ S with
  | some ((i, j), S1) => if -1000000 ≤ i ∧ i ≤ 1000000 ∧ -1000000 ≤ j ∧ j ≤ 1000000 then (match kd with
    | 0 => ok (.tuple (rangeD i (j - i).toNat)) S1
    | 1 => ok (.list (rangeD i (j - i).toNat)) S1
    | _ => some (.r S1.length, S1 ++ [.lst (rangeD i (j - i).toNat)])) else none
  | none => none
section
variable {X : Cx} {a b e : Expr} {ma mb : M} {m : MR} {p pos : Pos}
theorem rg_1 (hg : Gl X "range") (hm : X.mg "range" = none) (ha : PE X a (tE X.kw ma)) (na : starEach [a] X.env = (false, eval a X.env) :: starEach [] X.env) : PRg X (.Call (.Name "range" p) [a] [] pos) (tRgP X.kw (mRg (maCons ma maNil))) := fun pins s σ H R I ⟨ι, ρ, S, i, j, S', hH, hE, h, q⟩ => by
  refine prg_1 hg hm ha na pins s σ H R I ?_
  unfold mRg maCons maNil at h
  split at h
  · rename_i j' S1 h1
    cases h
    split at h1
    · rename_i x S2 h2
      cases h1
      exact ⟨ι, ρ, S, _, _, hH, hE, h2, fun ι1 v H1 w1 hH1 rv => ⟨_, int_of rv, q ι1 H1 w1 hH1⟩⟩
    · cases h1
  · rename_i i' j' S1 h1
    split at h1
    · cases h1
    · cases h1
  · cases h
theorem rg_2 (hg : Gl X "range") (hm : X.mg "range" = none) (ha : PE X a (tE X.kw ma)) (hb : PE X b (tE X.kw mb)) (na : starEach [a, b] X.env = (false, eval a X.env) :: starEach [b] X.env) (nb : starEach [b] X.env = (false, eval b X.env) :: starEach [] X.env) (hp : (backTo pos (starEach [b] X.env)).any (·.1) = false) :
    PRg X (.Call (.Name "range" p) [a, b] [] pos) (tRgP X.kw (mRg (maCons ma (maCons mb maNil)))) := fun pins s σ H R I ⟨ι, ρ, S, i, j, S', hH, hE, h, q⟩ => by
  refine prg_2 hg hm ha hb na nb hp pins s σ H R I ?_
  unfold mRg maCons maNil at h
  split at h
  · rename_i j' S1 h1
    split at h1
    · split at h1
      · rename_i h3
        cases h1
        split at h3
        · cases h3
        · cases h3
      · cases h1
    · cases h1
  · rename_i i' j' S1 h1
    cases h
    split at h1
    · rename_i x S2 h2
      split at h1
      · rename_i xs S3 h3
        cases h1
        split at h3
        · rename_i y S4 h4
          cases h3
          exact ⟨ι, ρ, S, _, _, hH, hE, h2, fun ι1 v H1 w1 hH1 rv => ⟨ι1, ρ, S2, _, _, hH1, hE.mono w1, h4, fun ι2 u H2 w2 hH2 ru => ⟨_, _, int_of rv, int_of ru, q ι2 H2 (w1.trans w2) hH2⟩⟩⟩
        · cases h3
      · cases h1
    · cases h1
  · cases h
theorem made_tup (hc : X.calm = true) (hg : Gl X "tuple") (hm : X.mg "tuple" = none) (he : PRg X e (tRgP X.kw m)) (na : starEach [e] X.env = (false, eval e X.env) :: starEach [] X.env) : PE X (.Call (.Name "tuple" p) [e] [] pos) (tE X.kw (mMade 0 m)) := by
  refine PE.imp (pe_tupRgF hc hg hm he na) fun σ H Q ⟨ι, ρ, S, z, S', hH, hE, h, q⟩ => ?_
  unfold mMade at h
  split at h
  · rename_i i j S1 h1
    split at h
    · rename_i hb
      cases h
      exact ⟨ι, ρ, S, i, j, _, hH, hE, h1, fun ι1 H1 w1 hH1 => ⟨rg_ok hb, fun p o hp ho => tup_aft q w1 hp ho hH1 (rg_rp i j)⟩⟩
    · cases h
  · cases h
theorem made_lst (hc : X.calm = true) (hg : Gl X "list") (hm : X.mg "list" = none) (he : PRg X e (tRgP X.kw m)) (na : starEach [e] X.env = (false, eval e X.env) :: starEach [] X.env) : PE X (.Call (.Name "list" p) [e] [] pos) (tE X.kw (mMade 1 m)) := by
  refine PE.imp (PE.freeze (pe_listRg hc hg hm he na)) fun σ H Q ⟨ι, ρ, S, z, S', hH, hE, h, q⟩ => ?_
  unfold mMade at h
  split at h
  · rename_i i j S1 h1
    split at h
    · rename_i hb
      cases h
      exact ⟨ι, ρ, S, i, j, _, hH, hE, h1, fun ι1 H1 w1 hH1 => ⟨rg_ok hb, fun p hp => fz_aft q w1 hp hH1 (rg_rp i j)⟩⟩
    · cases h
  · cases h
theorem made_lstM (hc : X.calm = true) (hg : Gl X "list") (hm : X.mg "list" = none) (he : PRg X e (tRgP X.kw m)) (na : starEach [e] X.env = (false, eval e X.env) :: starEach [] X.env) : PE X (.Call (.Name "list" p) [e] [] pos) (tE X.kw (mMade 2 m)) := by
  refine PE.imp (pe_listRg hc hg hm he na) fun σ H Q ⟨ι, ρ, S, z, S', hH, hE, h, q⟩ => ?_
  unfold mMade at h
  split at h
  · rename_i i j S1 h1
    split at h
    · rename_i hb
      cases h
      exact ⟨ι, ρ, S, i, j, _, hH, hE, h1, fun ι1 H1 w1 hH1 => ⟨rg_ok hb, fun p hp => mk_aft q w1 hp hH1 (rg_rp i j)⟩⟩
    · cases h
  · cases h
end
/-! ## a list times an int -/
def gMulA : D → D → Sto → Rs D := fun a b S => match a, b with
  | .r n, .p (.int k) => (match S[n]? with
    | some (.lst xs) => if 0 ≤ k ∧ k ≤ 1000 ∧ xs.length ≤ 1000 then ok (.list (List.replicate k.toNat xs).flatten) S else none
    | _ => none)
  | a, b => gMul a b S
theorem rep_rp {K : Fg} {H : Hp} {vs : List V} {ds : List PyData} (r : RpA K H vs ds) : ∀ n : Nat, RpA K H (List.replicate n vs).flatten (List.replicate n ds).flatten
  | 0 => .nil
  | n + 1 => by
    simp only [List.replicate_succ, List.flatten_cons]
    exact r.append (rep_rp r n)
theorem OpR.freeze {X : Cx} {f : Value → Value → Sem Value} {r : R2} (h : OpR X f r) : OpR X f (fun x y H Q => r x y H (fzQ Q)) := fun pins s σ H x y v u Q I rx ry q => thn (h pins s σ H x y v u _ I rx ry q) fun _ _ z => EP.freeze z
theorem o_mulA {X : Cx} : OpR X (binaryOp .Mult) (r2 X.kw gMulA) := fun pins s σ H x y v u Q I rx ry ⟨ι, S, d, e, z, S', hH, rd, re, h, q⟩ => by
  unfold gMulA ok at h
  split at h
  · rename_i n k
    split at h
    · rename_i xs hn
      split at h
      · rename_i hc
        cases h
        obtain ⟨a, ha, rfl⟩ := rd
        obtain ⟨ys, h1, h2⟩ := hH.at_ n a _ ha hn
        have hk := int_of re
        subst hk
        have hl := h2.length
        have hz : ys.length * k.toNat ≤ sizeLine := by
          have h3 : ys.length * k.toNat ≤ 1000 * 1000 := Nat.mul_le_mul (by omega) (by omega)
          have h4 : 1000 * 1000 ≤ sizeLine := by decide
          omega
        refine OpR.freeze op_rep pins s σ H _ _ v u Q I rx ry ⟨a, k, ys, rfl, rfl, h1, by omega, by omega, hz, fun p hp => fz_aft q (Ext.refl _ _) hp hH (rep_rp h2 _)⟩
      · cases h
    · cases h
  · exact o_mul pins s σ H x y v u Q I rx ry ⟨ι, S, _, _, z, S', hH, rd, re, h, q⟩
end Tm
namespace Tm
open PySem L2

/-! ## a call sees its own objects alone -/
def refsOf : List D → List Nat
  | [] => []
  | .p _ :: r => refsOf r
  | .r n :: r => n :: (refsOf r).filter fun m => !(m == n)
def locD (rs : List Nat) : D → D
  | .p d => .p d
  | .r n => .r (rs.idxOf n)
def getAll (S : Sto) : List Nat → Option Sto
  | [] => some []
  | n :: ns => (match S[n]?, getAll S ns with
    | some o, some os => some (o :: os)
    | _, _ => none)
def putAll (S : Sto) : List Nat → Sto → Sto
  | n :: ns, o :: os => (putAll S ns os).set n o
  | _, _ => S
/-- what comes of a call -/
def backD (S : Sto) (rs : List Nat) : Rs D → Rs D
  | some (.p d, L) => some (.p d, putAll S rs L)
  | some (.r j, L) => (match rs[j]? with
    | some n => some (.r n, putAll S rs L)
    | none => (match L[j]? with
      | some o => some (.r S.length, putAll S rs L ++ [o])
      | none => none))
  | none => none
def lcall (F : List D → Sto → Rs D) : List D → Sto → Rs D := fun ds S => match getAll S (refsOf ds) with
  | some L => backD S (refsOf ds) (F (ds.map (locD (refsOf ds))) L)
  | none => none
theorem refsOf_nd : ∀ ds : List D, (refsOf ds).Nodup
  | [] => List.nodup_nil
  | .p _ :: r => refsOf_nd r
  | .r n :: r => by
    unfold refsOf
    refine List.nodup_cons.mpr ⟨?_, (refsOf_nd r).filter _⟩
    simp
theorem refsOf_mem {n : Nat} : ∀ {ds : List D}, D.r n ∈ ds → n ∈ refsOf ds
  | .p _ :: r, h => by
    unfold refsOf
    rcases List.mem_cons.mp h with z | z
    · cases z
    · exact refsOf_mem z
  | .r m :: r, h => by
    unfold refsOf
    by_cases c : n = m
    · subst c; exact List.mem_cons_self ..
    · rcases List.mem_cons.mp h with z | z
      · cases z; exact absurd rfl c
      · exact List.mem_cons_of_mem _ (List.mem_filter.mpr ⟨refsOf_mem z, by simp [c]⟩)
theorem getAll_len {S : Sto} : ∀ {ns : List Nat} {L : Sto}, getAll S ns = some L → L.length = ns.length
  | [], _, h => by cases h; rfl
  | n :: ns, L, h => by
    unfold getAll at h
    split at h
    · rename_i o os h1 h2
      cases h
      exact congrArg Nat.succ (getAll_len h2)
    · cases h
theorem getAll_get {S : Sto} : ∀ {ns : List Nat} {L : Sto} {i n : Nat}, getAll S ns = some L → ns[i]? = some n → ∃ o, L[i]? = some o ∧ S[n]? = some o
  | [], _, _, _, _, e => by simp at e
  | m :: ns, L, i, n, h, e => by
    unfold getAll at h
    split at h
    · rename_i o os h1 h2
      cases h
      cases i with
      | zero => simp at e; subst e; exact ⟨o, rfl, h1⟩
      | succ i =>
        obtain ⟨o', e1, e2⟩ := getAll_get (i := i) h2 (by simpa using e)
        exact ⟨o', by simpa using e1, e2⟩
    · cases h
theorem putAll_len (S : Sto) : ∀ (ns : List Nat) (L : Sto), (putAll S ns L).length = S.length
  | [], _ => rfl
  | _ :: _, [] => rfl
  | n :: ns, o :: os => by unfold putAll; rw [List.length_set]; exact putAll_len S ns os
theorem putAll_not {S : Sto} {n : Nat} : ∀ {ns : List Nat} {L : Sto}, n ∉ ns → (putAll S ns L)[n]? = S[n]?
  | [], _, _ => rfl
  | _ :: _, [], _ => rfl
  | m :: ns, o :: os, h => by
    unfold putAll
    rw [List.getElem?_set_ne (fun e => h (by simp [e]))]
    exact putAll_not fun z => h (List.mem_cons_of_mem _ z)
theorem putAll_get {S : Sto} {n : Nat} (hn : n < S.length) : ∀ {ns : List Nat} {L : Sto} {i : Nat} {o : Ob}, ns.Nodup → ns[i]? = some n → L[i]? = some o → (putAll S ns L)[n]? = some o
  | [], _, _, _, _, e, _ => by simp at e
  | m :: ns, [], _, _, _, _, e => by simp at e
  | m :: ns, x :: os, i, o, nd, e1, e2 => by
    unfold putAll
    cases i with
    | zero =>
      simp at e1 e2; subst e1; subst e2
      rw [List.getElem?_set_self (by rw [putAll_len]; exact hn)]
    | succ i =>
      have e1' : ns[i]? = some n := by simpa using e1
      have hm : m ≠ n := fun e => by subst e; exact (List.nodup_cons.mp nd).1 (List.mem_of_getElem? e1')
      rw [List.getElem?_set_ne hm]
      exact putAll_get hn (List.nodup_cons.mp nd).2 e1' (by simpa using e2)
/-- the addresses of the objects that are handed in -/
theorem addrs_of {ι : List Addr} {S : Sto} (hl : ι.length = S.length) : ∀ {ns : List Nat} {L : Sto}, getAll S ns = some L → ∃ κ : List Addr, κ.length = ns.length ∧ ∀ (i n : Nat), ns[i]? = some n → ∃ a, κ[i]? = some a ∧ ι[n]? = some a
  | [], _, _ => ⟨[], rfl, fun i n e => by simp at e⟩
  | m :: ns, L, h => by
    unfold getAll at h
    split at h
    · rename_i o os h1 h2
      obtain ⟨κ, e1, e2⟩ := addrs_of hl h2
      have hm : m < ι.length := by rw [hl]; exact (List.getElem?_eq_some_iff.mp h1).1
      refine ⟨ι[m] :: κ, congrArg Nat.succ e1, fun i n e => ?_⟩
      cases i with
      | zero => simp at e; subst e; exact ⟨ι[m], rfl, List.getElem?_eq_getElem hm⟩
      | succ i =>
        obtain ⟨a, x, y⟩ := e2 i n (by simpa using e)
        exact ⟨a, by simpa using x, y⟩
    · cases h
theorem rds_loc {K : Fg} {H : Hp} {ι κ : List Addr} {rs : List Nat} (hk : ∀ (i n : Nat), rs[i]? = some n → ∃ a, κ[i]? = some a ∧ ι[n]? = some a) : ∀ {vs : List V} {ds : List D}, (∀ n, D.r n ∈ ds → n ∈ rs) → RDs K H ι vs ds → RDs K H κ vs (ds.map (locD rs))
  | [], [], _, _ => trivial
  | v :: vs, d :: ds, hm, ⟨h1, h2⟩ => by
    refine ⟨?_, rds_loc hk (fun n z => hm n (List.mem_cons_of_mem _ z)) h2⟩
    cases d with
    | p d => exact h1
    | r n =>
      obtain ⟨a, e, rfl⟩ := h1
      have hmem := hm n (List.mem_cons_self ..)
      have hlt := List.idxOf_lt_length_of_mem hmem
      obtain ⟨b, e1, e2⟩ := hk (rs.idxOf n) n (by rw [List.getElem?_eq_getElem hlt, List.getElem_idxOf hlt])
      rw [e] at e2
      cases e2
      exact ⟨a, e1, rfl⟩
theorem sp_loc {K : Fg} {n : Nat} {F : List D → Sto → Rs D} {vs : List V} {H : Hp} {Q : VK} {E : XK} (h : spF K n (lcall F) vs H Q E) : spF K n F vs H Q E := by
  obtain ⟨ι, S, ds, z, S', hH, rv, hl, e, q⟩ := h
  unfold lcall at e
  split at e
  · rename_i L hL
    obtain ⟨κ, hκ, hk⟩ := addrs_of hH.len hL
    have rnd := refsOf_nd ds
    have lenL := getAll_len hL
    have hRS : ∀ {i : Nat} {a : Addr}, κ[i]? = some a → ∃ m, (refsOf ds)[i]? = some m ∧ ι[m]? = some a := fun {i a} ea => by
      have hi : i < (refsOf ds).length := by rw [← hκ]; exact (List.getElem?_eq_some_iff.mp ea).1
      obtain ⟨b, x, y⟩ := hk i _ (List.getElem?_eq_getElem hi)
      rw [ea] at x; cases x
      exact ⟨_, List.getElem?_eq_getElem hi, y⟩
    have sub : ∀ a ∈ κ, a ∈ ι := fun a ha => by
      obtain ⟨i, hi, e⟩ := List.getElem_of_mem ha
      obtain ⟨m, _, y⟩ := hRS (i := i) (a := a) (by rw [List.getElem?_eq_getElem hi, e])
      exact List.mem_of_getElem? y
    have inj : ∀ {m m' : Nat} {a : Addr}, ι[m]? = some a → ι[m']? = some a → m = m' := fun {m m' a} e1 e2 => by
      obtain ⟨h1, x1⟩ := List.getElem?_eq_some_iff.mp e1
      obtain ⟨h2, x2⟩ := List.getElem?_eq_some_iff.mp e2
      exact (List.getElem_inj hH.nd).mp (x1.trans x2.symm)
    have κnd : κ.Nodup := by
      refine List.pairwise_iff_getElem.mpr fun i j hi hj hij e' => ?_
      obtain ⟨m, x1, y1⟩ := hRS (List.getElem?_eq_getElem hi)
      obtain ⟨m', x2, y2⟩ := hRS (List.getElem?_eq_getElem hj)
      rw [← e'] at y2
      have := inj y1 y2
      subst this
      obtain ⟨h1, z1⟩ := List.getElem?_eq_some_iff.mp x1
      obtain ⟨h2, z2⟩ := List.getElem?_eq_some_iff.mp x2
      exact (List.pairwise_iff_getElem.mp rnd i j h1 h2 hij) (z1.trans z2.symm)
    have hH1 : HR K H κ L := ⟨by rw [hκ, lenL], κnd, fun i a ob ea eo => by
      obtain ⟨m, x, y⟩ := hRS ea
      obtain ⟨o, z1, z2⟩ := getAll_get hL x
      rw [eo] at z1; cases z1
      exact hH.at_ m a ob y z2⟩
    have rv1 : RDs K H κ vs (ds.map (locD (refsOf ds))) := rds_loc hk (fun n => refsOf_mem) rv
    -- behind the call
    have after : ∀ {ι' : List Addr} {H' : Hp} {L' : Sto}, Ext κ H ι' H' → HR K H' ι' L' → Ext ι H ι H' ∧ HR K H' ι (putAll S (refsOf ds) L') := fun {ι' H' L'} w hH' => by
      have stay : ∀ a o, H a = some o → (Firm o ∨ a ∉ ι) → H' a = some o := fun a o ea f => w.stay a o ea (f.imp id fun z y => z (sub a y))
      refine ⟨⟨List.prefix_refl _, fun a ha => .inl ha, stay⟩, by rw [putAll_len]; exact hH.len, hH.nd, fun m a ob ea eo => ?_⟩
      by_cases c : m ∈ refsOf ds
      · obtain ⟨i, hi, ei⟩ := List.getElem_of_mem c
        have hi' : (refsOf ds)[i]? = some m := by rw [List.getElem?_eq_getElem hi, ei]
        obtain ⟨b, x, y⟩ := hk i m hi'
        rw [ea] at y; cases y
        have hL' : i < L'.length := by rw [← hH'.len]; exact Nat.lt_of_lt_of_le (List.getElem?_eq_some_iff.mp x).1 w.pre.length_le
        have hm : m < S.length := by rw [← hH.len]; exact (List.getElem?_eq_some_iff.mp ea).1
        rw [putAll_get hm rnd hi' (List.getElem?_eq_getElem hL')] at eo
        have ea' : ι'[i]? = some a := by obtain ⟨t, ht⟩ := w.pre; rw [← ht, List.getElem?_append_left (List.getElem?_eq_some_iff.mp x).1]; exact x
        cases eo
        exact hH'.at_ i a _ ea' (List.getElem?_eq_getElem hL')
      · rw [putAll_not c] at eo
        have na : a ∉ κ := fun ha => by
          obtain ⟨i, hi, ei⟩ := List.getElem_of_mem ha
          obtain ⟨m', x, y⟩ := hRS (i := i) (a := a) (by rw [List.getElem?_eq_getElem hi, ei])
          have := inj ea y
          subst this
          exact c (List.mem_of_getElem? x)
        exact ObR.keep (fun o eo => w.stay a o eo (.inr na)) w.keep (hH.at_ m a ob ea eo)
    have hlF : ∀ {z L'}, F (ds.map (locD (refsOf ds))) L = some (z, L') → Aft K H κ z L' Q → spF K n F vs H Q E := fun {z L'} eF qF => ⟨κ, L, _, z, L', hH1, rv1, by rw [List.length_map]; exact hl, eF, qF⟩
    cases eF : F (ds.map (locD (refsOf ds))) L with
    | none => rw [eF] at e; cases e
    | some zz =>
      obtain ⟨z', L'⟩ := zz
      rw [eF] at e
      cases z' with
      | p d =>
        cases e
        refine hlF eF fun ι' v H' w hH' rd => ?_
        obtain ⟨w2, h2⟩ := after w hH'
        exact q ι v H' w2 h2 rd
      | r j =>
        simp only [backD] at e
        split at e
        · rename_i m hm
          cases e
          refine hlF eF fun ι' v H' w hH' rd => ?_
          obtain ⟨w2, h2⟩ := after w hH'
          obtain ⟨a, ea, rfl⟩ := rd
          obtain ⟨b, x, y⟩ := hk j m hm
          have ea' : ι'[j]? = some b := by obtain ⟨t, ht⟩ := w.pre; rw [← ht, List.getElem?_append_left (List.getElem?_eq_some_iff.mp x).1]; exact x
          rw [ea] at ea'; cases ea'
          exact q ι _ H' w2 h2 ⟨a, y, rfl⟩
        · rename_i hm
          split at e
          · rename_i o ho
            cases e
            refine hlF eF fun ι' v H' w hH' rd => ?_
            obtain ⟨w2, h2⟩ := after w hH'
            obtain ⟨a, ea, rfl⟩ := rd
            have hj : κ.length ≤ j := by rw [hκ]; exact List.getElem?_eq_none_iff.mp hm
            have na : a ∉ κ := fun ha => by
              obtain ⟨i, hi, ei⟩ := List.getElem_of_mem ha
              obtain ⟨t, ht⟩ := w.pre
              have ei' : ι'[i]? = some a := by rw [← ht, List.getElem?_append_left hi, List.getElem?_eq_getElem hi, ei]
              obtain ⟨h1, x1⟩ := List.getElem?_eq_some_iff.mp ei'
              obtain ⟨h2', x2⟩ := List.getElem?_eq_some_iff.mp ea
              have := (List.getElem_inj hH'.nd).mp (x1.trans x2.symm)
              omega
            have hn : H a = none := (w.new a (List.mem_of_getElem? ea)).resolve_left na
            have ni : a ∉ ι := fun ha => by obtain ⟨u, eu, _⟩ := hH.mem ha; rw [hn] at eu; cases eu
            refine q (ι ++ [a]) _ H' ⟨List.prefix_append _ _, fun b hb => ?_, w2.stay⟩ ⟨by rw [List.length_append, List.length_append, h2.len]; rfl, ?_, fun m b ob e1 e2 => ?_⟩ ⟨a, ?_, rfl⟩
            · rcases List.mem_append.mp hb with y | y
              · exact .inl y
              · have : b = a := by simpa using y
                subst this; exact .inr hn
            · rw [List.nodup_append]
              exact ⟨h2.nd, by simp, fun x hx y hy => by
                have : y = a := by simpa using hy
                subst this
                intro exy; subst exy; exact ni hx⟩
            · by_cases c : m < ι.length
              · rw [List.getElem?_append_left c] at e1
                rw [List.getElem?_append_left (by rw [← h2.len]; exact c)] at e2
                exact h2.at_ m b ob e1 e2
              · have c' : m = ι.length := by
                  have zz := (List.getElem?_eq_some_iff.mp e1).1
                  simp at zz; omega
                subst c'
                rw [List.getElem?_append_right (Nat.le_refl _)] at e1
                rw [h2.len, List.getElem?_append_right (Nat.le_refl _)] at e2
                simp at e1 e2
                subst e1; subst e2
                exact hH'.at_ j a o ea ho
            · rw [← hH.len, List.getElem?_append_right (Nat.le_refl _)]
              simp
          · cases e
  · cases e
theorem FnG.loc {P : Program} {w : World} {K : PySem.W.Frag} {mg : Str → Option Value} {base : Heap} {k n : Nat} {f : Addr} {fd : FuncData} {ps : List Str} {F : List D → Sto → Rs D} (G : FnG P w K mg base k f fd ps (spF ⟨K, w⟩ n F)) : FnG P w K mg base k f fd ps (spF ⟨K, w⟩ n (lcall F)) :=
  ⟨fun vs H Q E h => G.len vs H Q E (sp_loc h), fun A outer s H args us vs Q E hg hr e0 hb r h => G.run A outer s H args us vs Q E hg hr e0 hb r (sp_loc h)⟩
theorem lcall_len {F : List D → Sto → Rs D} {n : Nat} (h : ∀ ds S z, F ds S = some z → ds.length = n) : ∀ ds S z, lcall F ds S = some z → ds.length = n := fun ds S z e => by
  unfold lcall at e
  split at e
  · rename_i L _
    cases eF : F (ds.map (locD (refsOf ds))) L with
    | none => rw [eF] at e; cases e
    | some y => have := h _ _ _ eF; rw [List.length_map] at this; exact this
  · cases e
/-! ## a loop's turn leaves nothing behind but what is named -/
def okRef (n : Nat) : Option D → Bool
  | some (.r m) => decide (m < n)
  | _ => true
def gcS (n : Nat) (ρ : Ev) (S : Sto) : Sto := if ρ.all (okRef n) = true then S.take n else S
def msGc (ws : List Nat) (b : MS) : MS := fun ρ S => match b ρ S with
  | some (.nx ρ2, S2) => some (.nx (wipeE ρ2 ws), gcS S.length (wipeE ρ2 ws) S2)
  | some (.ct ρ2, S2) => some (.ct (wipeE ρ2 ws), gcS S.length (wipeE ρ2 ws) S2)
  | r => r
theorem ER.wipeD {K : Fg} {H : Hp} {ι : List Addr} {σ : L2.St} {ρ : Ev} (h : ER K H ι σ ρ) (ws : List Nat) : ER K H ι σ (wipeE ρ ws) := by
  refine ⟨by rw [wipeE_len]; exact h.len, fun i d e => ?_⟩
  refine h.at_ i d ?_
  induction ws with
  | nil => exact e
  | cons v vs ih =>
    unfold wipeE at e
    by_cases c : v = i
    · subst c
      by_cases hv : v < (wipeE ρ vs).length
      · rw [List.getElem?_set_self hv] at e; cases e
      · rw [List.getElem?_eq_none (by simpa using hv)] at e; cases e
    · rw [List.getElem?_set_ne c] at e; exact ih e
theorem gc_ok {K : Fg} {H H' : Hp} {ι ι' : List Addr} {S S2 : Sto} {σ' : L2.St} {ρ2 : Ev} (ws : List Nat) (hH : HR K H ι S) (w : Ext ι H ι' H') (hH' : HR K H' ι' S2) (hE' : ER K H' ι' σ' ρ2) :
    ∃ ι2, Ext ι H ι2 H' ∧ HR K H' ι2 (gcS S.length (wipeE ρ2 ws) S2) ∧ ER K H' ι2 σ' (wipeE ρ2 ws) := by
  have hE := hE'.wipeD ws
  unfold gcS
  split
  · rename_i hall
    obtain ⟨t, ht⟩ := w.pre
    have lt : ι.length = S.length := hH.len
    refine ⟨ι, ⟨List.prefix_refl _, fun _ h => .inl h, w.stay⟩, ⟨?_, hH.nd, fun n a ob e1 e2 => ?_⟩, ⟨hE.len, fun i d e => ?_⟩⟩
    · have := hH'.len
      rw [← ht, List.length_append] at this
      rw [List.length_take]; omega
    · have hn := (List.getElem?_eq_some_iff.mp e1).1
      rw [List.getElem?_take_of_lt (by omega)] at e2
      exact hH'.at_ n a ob (by rw [← ht, List.getElem?_append_left hn]; exact e1) e2
    · obtain ⟨v, ev, rd⟩ := hE.at_ i d e
      refine ⟨v, ev, ?_⟩
      cases d with
      | p d => exact rd
      | r m =>
        obtain ⟨a, ea, rfl⟩ := rd
        have hm := List.all_eq_true.mp hall _ (List.mem_of_getElem? e)
        simp only [okRef, decide_eq_true_eq] at hm
        refine ⟨a, ?_, rfl⟩
        rw [← ht, List.getElem?_append_left (by omega)] at ea
        exact ea
  · exact ⟨ι', w, hH', hE⟩
theorem ss_gc {X : Cx} {sts : List Stmt} {m : MS} (ws : List Nat) (h : PSs X sts (tS X.kw m)) : PSs X sts (tS X.kw (msGc ws m)) := by
  refine PSs.imp h fun E σ H ⟨ι, ρ, S, o, S', hH, hE, e, q⟩ => ?_
  unfold msGc at e
  split at e
  · rename_i ρ2 S2 h2
    cases e
    refine ⟨ι, ρ, S, _, S2, hH, hE, h2, fun ι' σ' H' w hH' hE' => ?_⟩
    obtain ⟨ι2, a, b, c⟩ := gc_ok ws hH w hH' hE'
    exact q ι2 σ' H' a b c
  · rename_i ρ2 S2 h2
    cases e
    refine ⟨ι, ρ, S, _, S2, hH, hE, h2, fun ι' σ' H' w hH' hE' => ?_⟩
    obtain ⟨ι2, a, b, c⟩ := gc_ok ws hH w hH' hE'
    exact q ι2 σ' H' a b c
  · exact ⟨ι, ρ, S, o, S', hH, hE, e, q⟩
end Tm
namespace Tm
section
open PySem PySem.Spec PyProof.Rows L2
set_option maxHeartbeats 4000000 in
theorem tuple_mul1 (l : Addr) (items : Array Value) (n : Nat) (dd : Option Addr) (sl : Array (Option Value)) (u : Tok) :
    Meets (Builtin.«tuple.__mul__» ⟨[.ref l, .int 1 u], []⟩) (fun _ R s => s.heap.get? l = some { cls := .type "tuple", dict := dd, data := .seq items n, slots := sl } ∧
      R (.ok (.ret (Value.ref l))) s) :=
  .of_wp fun prog w A R s h => by
    obtain ⟨hp, g, d, tk, os⟩ := s
    obtain ⟨hl, h⟩ := h
    have f1 := AutoSeq1.idx_int
    wp_walk using wpAny_loadPart' hl
    repeat (first
      | (refine wpAny_ite_true (decide_eq_true (by simp)) ?_; wp_walk using wpAny_loadPart' hl))
    exact ⟨_, rfl, h⟩
set_option maxHeartbeats 4000000 in
theorem tuple_mul0 (l : Addr) (items : Array Value) (n : Nat) (dd : Option Addr) (sl : Array (Option Value)) (u : Tok) (c1 : items.isEmpty = false) :
    Meets (Builtin.«tuple.__mul__» ⟨[.ref l, .int 0 u], []⟩) (fun _ R s => s.heap.get? l = some { cls := .type "tuple", dict := dd, data := .seq items n, slots := sl } ∧
      R (.ok (.ret (Value.ref s.heap.objs.size))) { s with heap := s.heap.push { cls := Value.type "tuple", data := Data.seq #[] }, toks := s.toks }) :=
  .of_wp fun prog w A R s h => by
    obtain ⟨hp, g, d, tk, os⟩ := s
    obtain ⟨hl, h⟩ := h
    have f1 := AutoSeq1.idx_int
    wp_walk using wpAny_loadPart' hl
    repeat (first
      | (refine wpAny_ite_true (decide_eq_true (by simp)) ?_; wp_walk using wpAny_loadPart' hl)
      | (refine wpAny_ite_false (decide_eq_false (by simp [c1])) ?_; wp_walk using wpAny_loadPart' hl))
    exact ⟨_, rfl, h⟩
set_option maxHeartbeats 4000000 in
theorem tuple_mulE (l : Addr) (items : Array Value) (n : Nat) (dd : Option Addr) (sl : Array (Option Value)) (x : Int) (u : Tok) (c0 : (decide (x < -(2 ^ 63)) || decide (x ≥ 2 ^ 63)) = false) (c1 : items.isEmpty = true) :
    Meets (Builtin.«tuple.__mul__» ⟨[.ref l, .int x u], []⟩) (fun _ R s => s.heap.get? l = some { cls := .type "tuple", dict := dd, data := .seq items n, slots := sl } ∧
      R (.ok (.ret (Value.ref l))) s) :=
  .of_wp fun prog w A R s h => by
    obtain ⟨hp, g, d, tk, os⟩ := s
    obtain ⟨hl, h⟩ := h
    have f1 := AutoSeq1.idx_int
    wp_walk using wpAny_loadPart' hl
    repeat (first
      | (refine wpAny_ite_false (decide_eq_false (by rw [c0]; exact Bool.false_ne_true)) ?_; wp_walk using wpAny_loadPart' hl)
      | (refine wpAny_ite_true (decide_eq_true (by simp [c1])) ?_; wp_walk using wpAny_loadPart' hl))
    exact ⟨_, rfl, h⟩
end
open PySem L2
/-! ## a tuple, a text times an int -/
def repS (x : Str) (k : Nat) : Str := ⟨((List.replicate k x.cps.toList).flatten).toArray⟩
def gMulX : D → D → Sto → Rs D := fun a b S => match a, b with
  | .p (.tuple xs), .p (.int k) => if 0 ≤ k ∧ k ≤ 1000 ∧ xs.length ≤ 1000 then ok (.tuple (List.replicate k.toNat xs).flatten) S else none
  | .p (.str x), .p (.int k) => if 0 ≤ k ∧ k ≤ 1000000 ∧ x.length * k.toNat ≤ Lim then ok (.str (repS x k.toNat)) S else none
  | a, b => gMulA a b S
theorem repS_eq (x : Str) : ∀ k : Nat, (⟨(List.replicate k x.cps).foldl (· ++ ·) #[]⟩ : Str) = repS x k := by
  have h : ∀ (k : Nat) (a : Array Nat), ((List.replicate k x.cps).foldl (· ++ ·) a).toList = a.toList ++ (List.replicate k x.cps.toList).flatten := by
    intro k
    induction k with
    | zero => intro a; simp
    | succ k ih => intro a; rw [List.replicate_succ, List.foldl_cons, ih]; simp [List.replicate_succ]
  intro k
  unfold repS
  congr 1
  have := h k #[]
  apply Array.toList_inj.mp
  rw [this]; simp
theorem repS_len (x : Str) (k : Nat) : (repS x k).length = k * x.length := by
  unfold repS Str.length
  simp [List.length_flatten]
section
variable {X : Cx}
theorem o_mulX : OpR X (binaryOp .Mult) (r2 X.kw gMulX) := fun pins s σ H x y v u Q I rx ry ⟨ι, S, d, e, z, S', hH, rd, re, h, q⟩ => by
  unfold gMulX ok at h
  split at h
  · rename_i xs k
    split at h
    · rename_i hc
      cases h
      have hk := int_of re
      subst hk
      obtain ⟨l, ys, rfl, hT, hR⟩ := tup_of rd
      cases rx
      obtain ⟨t, rfl⟩ := ry
      obtain ⟨its, r, ⟨⟨cls, dd, data, sl⟩, ho, hcl, n, hd⟩, hs⟩ := I.tuple hT.sq
      simp only at hcl hd
      subst hcl hd
      have hle : its.length = ys.length := r.length.symm
      have hly := hR.length
      have c0 : (decide (k < -(2 ^ 63)) || decide (k ≥ 2 ^ 63)) = false := by
        rw [decide_eq_false (by omega), decide_eq_false (by omega)] <;> rfl
      have go : ∀ {M : World → Shared → Prop} (m : Meets (Builtin.«tuple.__mul__» ⟨[.ref l, .int k t], []⟩) (fun _ R s' => s'.heap.get? l = some { cls := .type "tuple", dict := dd, data := .seq its.toArray n, slots := sl } ∧ True)), True := fun _ => trivial
      by_cases he : its = []
      · have hxs : xs = [] := List.eq_nil_of_length_eq_zero (by rw [← hly, ← hle, he]; rfl)
        refine wpAny_binaryOp_repeat_ref (T := "tuple") (U := "int") (by decide) ⟨_, ho, rfl⟩ (fun s' => typeIs_int s' k t) noFill_tuple_mul PySem.F.fills_int_mul PySem.F.slot_int_rmul repeat_tuple PySem.F.slot_int_index.lookup
          (call_meets PySem.F.slot_int_rmul (typeIs_int s k t) PySem.F.entry_int_rmul (PySem.F.args_int_rmul_2 _ _) (int_rmul_tuple k t l its.toArray n dd sl)
            ⟨ho, rfl, ⟨_, ho, rfl⟩, call_meets PySem.F.slot_tuple_mul ⟨_, ho, rfl⟩ PySem.F.entry_tuple_mul (PySem.F.args_tuple_mul_2 _ _) (tuple_mulE l its.toArray n dd sl k t c0 (by rw [he]; rfl)) ⟨ho, ?_⟩⟩)
        refine ⟨.ref l, H, I, rfl, fin q hH ?_⟩
        have e2 : (List.replicate k.toNat xs).flatten = xs := by rw [hxs]; simp
        rw [e2]
        exact .tup hT hR
      · have hi : its.toArray.isEmpty = false := by
          cases its with
          | nil => exact absurd rfl he
          | cons a b => rfl
        by_cases h1 : k = 1
        · subst h1
          refine wpAny_binaryOp_repeat_ref (T := "tuple") (U := "int") (by decide) ⟨_, ho, rfl⟩ (fun s' => typeIs_int s' 1 t) noFill_tuple_mul PySem.F.fills_int_mul PySem.F.slot_int_rmul repeat_tuple PySem.F.slot_int_index.lookup
            (call_meets PySem.F.slot_int_rmul (typeIs_int s 1 t) PySem.F.entry_int_rmul (PySem.F.args_int_rmul_2 _ _) (int_rmul_tuple 1 t l its.toArray n dd sl)
              ⟨ho, rfl, ⟨_, ho, rfl⟩, call_meets PySem.F.slot_tuple_mul ⟨_, ho, rfl⟩ PySem.F.entry_tuple_mul (PySem.F.args_tuple_mul_2 _ _) (tuple_mul1 l its.toArray n dd sl t) ⟨ho, ?_⟩⟩)
          refine ⟨.ref l, H, I, rfl, fin q hH ?_⟩
          have e2 : (List.replicate (1 : Int).toNat xs).flatten = xs := by simp
          rw [e2]
          exact .tup hT hR
        · by_cases h0 : k = 0
          · subst h0
            refine wpAny_binaryOp_repeat_ref (T := "tuple") (U := "int") (by decide) ⟨_, ho, rfl⟩ (fun s' => typeIs_int s' 0 t) noFill_tuple_mul PySem.F.fills_int_mul PySem.F.slot_int_rmul repeat_tuple PySem.F.slot_int_index.lookup
              (call_meets PySem.F.slot_int_rmul (typeIs_int s 0 t) PySem.F.entry_int_rmul (PySem.F.args_int_rmul_2 _ _) (int_rmul_tuple 0 t l its.toArray n dd sl)
                ⟨ho, rfl, ⟨_, ho, rfl⟩, call_meets PySem.F.slot_tuple_mul ⟨_, ho, rfl⟩ PySem.F.entry_tuple_mul (PySem.F.args_tuple_mul_2 _ _) (tuple_mul0 l its.toArray n dd sl t hi) ⟨ho, ?_⟩⟩)
            exact new_tup (us := []) (tk := s.toks) I .nil (Nat.zero_le _) fun p o hp hod => tup_aft q (Ext.refl _ _) hp hod hH .nil
          · have hsz0 : its.toArray.size = ys.length := by rw [List.size_toArray, hle]
            have hm : ((its.toArray.size : Nat) : Int) * k ≤ 1000000 := by
              rw [hsz0]
              have a1 : ((ys.length : Nat) : Int) * k ≤ 1000 * k := Int.mul_le_mul_of_nonneg_right (by omega) (by omega)
              omega
            have flen : (List.replicate k.toNat its).flatten.length ≤ sizeLine := by
              rw [PyProof.Rows.lm_len_rep_flat, hle, sizeLine_eq]
              have a1 : k.toNat * ys.length ≤ 1000 * 1000 := Nat.mul_le_mul (by omega) (by omega)
              omega
            have c1 : (its.toArray.isEmpty || k == 1) = false := by
              rw [hi, Bool.false_or]
              exact beq_eq_false_iff_ne.mpr h1
            have c2 : (decide (k ≤ 0) || its.toArray.isEmpty) = false := by
              rw [hi, Bool.or_false]
              exact decide_eq_false (by omega)
            have c4 : Builtin.Tuple.tupleTooMany (((its.toArray.size : Nat) : Int) * k) = false := by
              unfold Builtin.Tuple.tupleTooMany
              rw [sizeLine_eq]
              exact decide_eq_false (by omega)
            refine wpAny_binaryOp_repeat_ref (T := "tuple") (U := "int") (by decide) ⟨_, ho, rfl⟩ (fun s' => typeIs_int s' k t) noFill_tuple_mul PySem.F.fills_int_mul PySem.F.slot_int_rmul repeat_tuple PySem.F.slot_int_index.lookup
              (call_meets PySem.F.slot_int_rmul (typeIs_int s k t) PySem.F.entry_int_rmul (PySem.F.args_int_rmul_2 _ _) (int_rmul_tuple k t l its.toArray n dd sl)
                ⟨ho, rfl, ⟨_, ho, rfl⟩, call_meets PySem.F.slot_tuple_mul ⟨_, ho, rfl⟩ PySem.F.entry_tuple_mul (PySem.F.args_tuple_mul_2 _ _) (tuple_mulW l its.toArray n dd sl k t c0 c1 c2 (by omega) c4 (by rw [size_rep, List.size_toArray]; exact flen)) ⟨ho, ?_⟩⟩)
            rw [size_rep]
            exact new_tup (tk := s.toks) I (r.rep k.toNat) (by rw [PyProof.Rows.lm_len_rep_flat, sizeLine_eq]; have a1 : k.toNat * ys.length ≤ 1000 * 1000 := Nat.mul_le_mul (by omega) (by omega); omega) fun p o hp hod => tup_aft q (Ext.refl _ _) hp hod hH (rep_rp hR _)
    · cases h
  · rename_i x k
    split at h
    · rename_i hc
      cases h
      have hk := int_of re
      subst hk
      have hx := str_of rd
      subst hx
      obtain ⟨tx, rfl⟩ := rx
      obtain ⟨t, rfl⟩ := ry
      have key : ∀ (t' : Tok) (s' : Shared), Inv X pins σ H s' → EP X pins σ Q (.str (repS x k.toNat) t') s' := fun t' s' I' => ⟨.str _, H, I', ⟨t', rfl⟩, fin q hH (.str _)⟩
      have c0 : (decide (k < -(2 ^ 63)) || decide (k ≥ 2 ^ 63)) = false := by
        rw [decide_eq_false (by omega), decide_eq_false (by omega)] <;> rfl
      have hx1 : ¬ k < 1 → x.length ≤ Lim := fun h1 => by
        have : x.length * 1 ≤ x.length * k.toNat := Nat.mul_le_mul_left _ (by omega)
        omega
      refine P.mul_str c0 (fun h1 _ h2 => ?_) (fun _ _ => ?_) ?_
      · have h3 := hx1 h1
        have h4 : (x.length : Int) ≤ (2 ^ 63 - 1) / k := by
          refine Int.le_ediv_of_mul_le (by omega) ?_
          have h5 : (x.length : Int) * k ≤ 16777216 * k := Int.mul_le_mul_of_nonneg_right (by unfold Lim at h3; omega) (by omega)
          omega
        omega
      · unfold Builtin.Str.tooLong
        rw [decide_eq_false]
        have := Lim_le
        omega
      · by_cases h1 : k < 1
        · rw [if_pos h1]
          have ek : k.toNat = 0 := by omega
          refine ⟨by decide, ?_⟩
          have := key s.toks { s with toks := s.toks + 1 } (I.kept (t' := s.toks + 1) fun _ _ e => e)
          rw [ek] at this
          exact this
        · rw [if_neg h1]
          split
          · rename_i h2
            have e2 : repS x k.toNat = x := by
              simp only [Bool.or_eq_true, beq_iff_eq] at h2
              rcases h2 with rfl | h2
              · unfold repS; simp
              · have e3 : x.cps = #[] := Array.eq_empty_of_size_eq_zero h2
                unfold repS; rw [e3]; simp [← e3]
            have := key tx s I
            rw [e2] at this
            exact this
          · rw [repS_eq]
            refine ⟨?_, key s.toks { s with toks := s.toks + 1 } (I.kept (t' := s.toks + 1) fun _ _ e => e)⟩
            rw [repS_len]
            have := Lim_le
            rw [Nat.mul_comm]
            omega
    · cases h
  · exact o_mulA pins s σ H x y v u Q I rx ry ⟨ι, S, _, _, z, S', hH, rd, re, h, q⟩
end
end Tm
namespace Tm
open PySem L2

/-! ## the text, in plain words -/
inductive Bin where
  | add | sub | mul | div | mod | pow
def Bin.op : Bin → Operator
  | .add => .Add | .sub => .Sub | .mul => .Mult | .div => .FloorDiv | .mod => .Mod | .pow => .Pow
def Bin.fn : Bin → D → D → Sto → Rs D
  | .add => gAdd | .sub => gSub | .mul => gMulX | .div => gDiv | .mod => gMod | .pow => gPow
def Bin.is : Bin → Operator → Bool
  | .add, .Add => true | .sub, .Sub => true | .mul, .Mult => true | .div, .FloorDiv => true | .mod, .Mod => true | .pow, .Pow => true
  | _, _ => false
inductive Cm where
  | eq | ne | lt | le | gt | ge | is | isnot | isin | notin
def Cm.op : Cm → CmpOp
  | .eq => .Eq | .ne => .NotEq | .lt => .Lt | .le => .LtE | .gt => .Gt | .ge => .GtE | .is => .Is | .isnot => .IsNot | .isin => .In | .notin => .NotIn
def Cm.fn : Cm → D → D → Sto → Rs D
  | .eq => gEq | .ne => gNe | .lt => gLess | .le => gLe | .gt => gGt | .ge => gGe | .is => gIs | .isnot => gIsNot | .isin => gInA | .notin => gNotInA
def Cm.ok : Cm → CmpOp → Bool
  | .eq, .Eq => true | .ne, .NotEq => true | .lt, .Lt => true | .le, .LtE => true | .gt, .Gt => true | .ge, .GtE => true | .is, .Is => true | .isnot, .IsNot => true | .isin, .In => true | .notin, .NotIn => true
  | _, _ => false
/-- built-ins called by their name -/
inductive Pr where
  | len | max2 | min2 | max1 | min1 | int | all | any | sum | tuple | list | listM | sorted | sortedM | repr
def Pr.name : Pr → String
  | .len => "len" | .max2 => "max" | .min2 => "min" | .max1 => "max" | .min1 => "min" | .int => "int" | .all => "all" | .any => "any" | .sum => "sum"
  | .tuple => "tuple" | .list => "list" | .listM => "list" | .sorted => "sorted" | .sortedM => "sorted" | .repr => "repr"
def Pr.fn : Pr → List D → Sto → Rs D
  | .len => gLen | .max2 => gMax | .min2 => gMin | .max1 => gMax1 | .min1 => gMin1 | .int => gInt | .all => gAll | .any => gAny | .sum => gSum
  | .tuple => gTupleOf | .list => gListOf | .listM => gListOfM | .sorted => gSortedX | .sortedM => gSortedM | .repr => gRepr
/-- methods of built-ins -/
inductive Mt where
  | append | pop | extend | index | indexT | indexS | join
def Mt.ty : Mt → String
  | .append => "list" | .pop => "list" | .extend => "list" | .indexS => "str" | .index => "list" | .indexT => "tuple" | .join => "str"
def Mt.name : Mt → String
  | .append => "append" | .pop => "pop" | .extend => "extend" | .indexS => "index" | .index => "index" | .indexT => "index" | .join => "join"
def Mt.fn : Mt → D → List D → Sto → Rs D
  | .append => gAppend | .pop => gPop | .extend => gExtend | .indexS => gIndexS | .index => gIndex | .indexT => gIndexT | .join => gJoin
mutual
inductive E where
  | var (i : Nat) | int (i : Int) | bl (b : Bool) | non | str (x : Str)
  | glob (x : Str) (d : PyData)
  | bin (o : Bin) (a b : E)
  | cmp (o : Cm) (a b : E)
  | chn (o p : Cm) (a b c : E)
  | neg (a : E) | not (a : E)
  | and (as : Es) | or (as : Es)
  | ife (c a b : E)
  | call (x : Str) (n : Nat) (F : List D → Sto → Rs D) (as : Es)
  | prim (p : Pr) (as : Es)
  | isa (a : E) (T : String)
  | meth (m : Mt) (o : E) (as : Es)
  | idx (o : E) (as : Es)
  | ix (a b : E) | sl (a : E) (lo hi : Op) | rev (a : E)
  | dix (x : Str) (tbl : List (Str × PyData)) (b : E)
  | tup (as : Es) | lst (mt : Bool) (as : Es)
  | rng (kd : Nat) (as : Es)
  | dnew (t : Bool) | ddsp (ks : List Str) (vs : Es)
  | comp (mt : Bool) (it : Wk) (tg : Tg) (c : Op) (e : E) (own : List (Str × Nat))
inductive Es where
  | nil | cons (a : E) (as : Es)
inductive Op where
  | no | yes (a : E)
inductive Wk where
  | val (a : E) | r1 (as : Es) | r2 (as : Es) | enum (a : E) | zip (as : Es)
inductive Tg where
  | nm (i : Nat) | tup (n : Nat) (ts : Tgs) | sub (o i : E)
inductive Tgs where
  | nil | cons (t : Tg) (ts : Tgs)
end
mutual
inductive St' where
  | pass | brk | cont | never
  | ret (e : E) | expr (e : E)
  | asg (t : Tg) (e : E)
  | par (ts : Tgs) (es : Es)
  | ife (c : E) (a b : Ss)
  | loop (tg : Tg) (it : Wk) (b : Ss) (ws : List Nat)
  | whl (c : E) (b : Ss) (ws : List Nat)
inductive Ss where
  | nil | cons (s : St') (ss : Ss)
end
/-- o.index(a), of a tuple, a list or a text -/
def mIdx (o : M) (as : MA) : M := fun ρ S => match o ρ S with
  | some (x, S1) => (match dataOf x S1 with
    | some (.tuple _) => (match as ρ S1 with
      | some (ds, S2) => gIndexT x ds S2
      | none => none)
    | some (.list _) => (match as ρ S1 with
      | some (ds, S2) => gIndex x ds S2
      | none => none)
    | some (.str _) => (match as ρ S1 with
      | some (ds, S2) => gIndexS x ds S2
      | none => none)
    | _ => none)
  | none => none
theorem mIdx_eq {o : M} {as : MA} {ρ : Ev} {S : Sto} {z : D × Sto} (h : mIdx o as ρ S = some z) : mMt "tuple" gIndexT o as ρ S = some z ∨ mMt "list" gIndex o as ρ S = some z ∨ mMt "str" gIndexS o as ρ S = some z := by
  unfold mIdx at h
  unfold mMt
  split at h
  · rename_i x S1 h1
    simp only [h1, recvB]
    cases hA : as ρ S1 with
    | none =>
      simp only [hA] at h
      split at h <;> cases h
    | some y =>
      obtain ⟨ds, S2⟩ := y
      simp only [hA] at h
      split at h
      · rename_i ys e; simp only [e]; exact .inl (by simpa using h)
      · rename_i ys e; simp only [e]; exact .inr (.inl (by simpa using h))
      · rename_i ys e; simp only [e]; exact .inr (.inr (by simpa using h))
      · cases h
  · cases h
/-! ### what it means -/
mutual
def den : E → M
  | .var i => mVar i
  | .int i => mC (.int i)
  | .bl b => mC (.bool b)
  | .non => mC .none
  | .str x => mC (.str x)
  | .glob _ d => mC d
  | .bin o a b => m2 o.fn (den a) (den b)
  | .cmp o a b => m2 o.fn (den a) (den b)
  | .chn o p a b c => mChain o.fn p.fn (den a) (den b) (den c)
  | .neg a => m1 gNeg (den a)
  | .not a => m1 gNot (den a)
  | .and as => denAnd as
  | .or as => denOr as
  | .ife c a b => mIf (denT c) (den a) (den b)
  | .call _ _ F as => mN F (dens as)
  | .prim p as => mN p.fn (dens as)
  | .isa a T => m1 (gIsa T) (den a)
  | .meth m o as => mMt m.ty m.fn (den o) (dens as)
  | .idx o as => mIdx (den o) (dens as)
  | .ix a b => m2 gIxA (den a) (den b)
  | .rng kd as => mMade kd (mRg (dens as))
  | .dnew t => mNew t
  | .ddsp ks vs => mN (gDisp ks) (dens vs)
  | .sl a lo hi => mSl (den a) (denO lo) (denO hi)
  | .rev a => m1 gRev (den a)
  | .dix _ tbl b => m1 (gDix tbl) (den b)
  | .tup as => mN gTuple (dens as)
  | .lst mt as => mN (if mt then gListM else gList) (dens as)
  | .comp mt it tg c e own => (if mt then mCompM else mComp) (denI it) (denG tg) (denC c) (den e) (own.map (·.2))
def dens : Es → MA
  | .nil => maNil
  | .cons a as => maCons (den a) (dens as)
def denAnd : Es → M
  | .nil => fun _ _ => none
  | .cons a as => match as with
    | .nil => den a
    | .cons _ _ => mAnd (den a) (denAnd as)
def denOr : Es → M
  | .nil => fun _ _ => none
  | .cons a as => match as with
    | .nil => den a
    | .cons _ _ => mOr (den a) (denOr as)
/-- as a test -/
def denT : E → MB
  | .not a => bNot (denT a)
  | .and as => denAndT as
  | .or as => denOrT as
  | .var i => bV (mVar i)
  | .bl b => bV (mC (.bool b))
  | .glob _ d => bV (mC d)
  | .cmp o a b => bV (m2 o.fn (den a) (den b))
  | .chn o p a b c => bV (mChain o.fn p.fn (den a) (den b) (den c))
  | .call _ _ F as => bV (mN F (dens as))
  | .prim p as => bV (mN p.fn (dens as))
  | .isa a T => bV (m1 (gIsa T) (den a))
  | .ix a b => bV (m2 gIxA (den a) (den b))
  | _ => fun _ _ => none
def denAndT : Es → MB
  | .nil => fun _ _ => none
  | .cons a as => match as with
    | .nil => denT a
    | .cons _ _ => bAnd (denT a) (denAndT as)
def denOrT : Es → MB
  | .nil => fun _ _ => none
  | .cons a as => match as with
    | .nil => denT a
    | .cons _ _ => bOr (denT a) (denOrT as)
def denO : Op → MO
  | .no => moNone
  | .yes a => moSome (den a)
/-- a comprehension's if -/
def denC : Op → MB
  | .no => bYes
  | .yes a => denT a
def denI : Wk → MI
  | .val a => iVal (den a)
  | .r1 as => iRange1 (dens as)
  | .r2 as => iRange2 (dens as)
  | .enum a => iEnum (den a)
  | .zip as => iZipT (dens as)
def denG : Tg → MG
  | .nm i => gNm i
  | .tup n ts => gTp n (denGs ts)
  | .sub o i => gSb fSetA (den o) (den i)
def denGs : Tgs → MGs
  | .nil => gNl
  | .cons t ts => gCs (denG t) (denGs ts)
end
mutual
def denS : St' → MS
  | .pass => msNil
  | .brk => msBreak
  | .cont => msCont
  | .never => msNever
  | .ret e => msRet (den e)
  | .expr e => msExpr (den e)
  | .asg t e => msAsg (den e) (denG t)
  | .par ts es => msPar (dens es) (denGs ts)
  | .ife c a b => msIf (denT c) (denSs a) (denSs b)
  | .loop tg it b ws => msFor (denI it) (denG tg) (msGc ws (denSs b))
  | .whl c b ws => msWhile (denT c) (msGc ws (denSs b))
def denSs : Ss → MS
  | .nil => msNil
  | .cons s ss => msSeq (denS s) (denSs ss)
end
/-! ### does it fit the row's text? -/
structure Ck where
  N : List Str
  sc : Scope
  fn : Str → Bool
def Ck.vis (c : Ck) (x : Str) : Bool := match c.sc.names.lookup x with
  | some .local => true
  | some .cell => true
  | some .free => true
  | _ => false
def Ck.loc (c : Ck) (x : Str) : Bool := match c.sc.names.lookup x with
  | some .local => true
  | some .cell => c.fn x
  | _ => false
def Ck.gl (c : Ck) (x : Str) : Bool := match c.sc.names.lookup x with
  | some .globalImplicit => true
  | _ => false
def plainN (x : Str) : Bool := !(x == ("__debug__" : Str)) && !(x == ("__classdict__" : Str)) && !(x == ("__name__" : Str))
def notStar : Expr → Bool
  | .Starred _ _ => false
  | _ => true
def notComp : Expr → Bool
  | .ListComp _ _ _ _ => false
  | .SetComp _ _ _ _ => false
  | .DictComp _ _ _ _ _ => false
  | _ => true
def notSlice : Expr → Bool
  | .Slice _ _ _ _ => false
  | _ => true
def notSet : Expr → Bool
  | .Set _ _ _ => false
  | _ => true
def notName : Expr → Bool
  | .Name _ _ => false
  | _ => true
def notList : Expr → Bool
  | .List _ _ => false
  | _ => true
def notTuple : Expr → Bool
  | .Tuple _ _ _ => false
  | _ => true
/-- no call of nothing by a name (super) -/
def notCall0 : Expr → Bool
  | .Call _ [] [] _ => false
  | _ => true
/-- may stand as a test -/
def okT : E → Bool
  | .not _ => true | .and _ => true | .or _ => true | .var _ => true | .bl _ => true | .glob _ _ => true | .cmp _ _ _ => true | .chn _ _ _ _ _ => true
  | .call _ _ _ _ => true | .prim _ _ => true | .isa _ _ => true | .ix _ _ => true
  | _ => false
def Es.len : Es → Nat
  | .nil => 0
  | .cons _ as => as.len + 1
def Tgs.len : Tgs → Nat
  | .nil => 0
  | .cons _ as => as.len + 1
def prOk (p : Pr) (n : Nat) : Bool := match p with
  | .max2 => n == 2
  | .min2 => n == 2
  | _ => n == 1
def keyC : List Str → List (Option Expr) → Bool
  | [], [] => true
  | k :: ks, some (.Constant (.str x) _ _) :: es => decide (k = x) && keyC ks es
  | _, _ => false
def rgName : Nat → String
  | 0 => "tuple"
  | _ => "list"
mutual
def chk (c : Ck) : E → Expr → Bool
  | .var i, e => (match e with
    | .Name x _ => decide (c.N[i]? = some x) && c.vis x && plainN x
    | _ => false)
  | .int i, e => (match e with
    | .Constant (.int j) _ _ => decide (i = j)
    | _ => false)
  | .bl b, e => (match e with
    | .Constant (.bool j) _ _ => decide (b = j)
    | _ => false)
  | .non, e => (match e with
    | .Constant .none _ _ => true
    | _ => false)
  | .str x, e => (match e with
    | .Constant (.str y) _ _ => decide (x = y)
    | _ => false)
  | .glob x _, e => (match e with
    | .Name y _ => decide (x = y) && c.gl y && plainN y
    | _ => false)
  | .bin o a b, e => (match e with
    | .BinOp l op r _ => o.is op && chk c a l && chk c b r
    | _ => false)
  | .cmp o a b, e => (match e with
    | .Compare l [op] [r] _ => o.ok op && chk c a l && chk c b r && notSet r
    | _ => false)
  | .chn o p a b d, e => (match e with
    | .Compare l [op, op'] [m, r] _ => o.ok op && p.ok op' && chk c a l && chk c b m && chk c d r && notSet r
    | _ => false)
  | .neg a, e => (match e with
    | .UnaryOp .USub x _ => chk c a x
    | _ => false)
  | .not a, e => (match e with
    | .UnaryOp .Not x _ => okT a && chk c a x
    | _ => false)
  | .and as, e => (match e with
    | .BoolOp .And es _ => chks c as es && chksT as && decide (0 < as.len)
    | _ => false)
  | .or as, e => (match e with
    | .BoolOp .Or es _ => chks c as es && chksT as && decide (0 < as.len)
    | _ => false)
  | .ife t a b, e => (match e with
    | .IfExp t' a' b' _ => okT t && chk c t t' && chk c a a' && chk c b b'
    | _ => false)
  | .call x n _ as, e => (match e with
    | .Call (.Name y _) es [] _ => decide (x = y) && c.gl y && plainN y && chks c as es && decide (as.len = n)
    | _ => false)
  | .prim p as, e => (match e with
    | .Call (.Name y _) es [] _ => decide (y = Str.ofString p.name) && c.gl y && chks c as es && prOk p as.len
    | _ => false)
  | .isa a T, e => (match e with
    | .Call (.Name y _) [b, .Name z _] [] _ => decide (y = Str.ofString "isinstance") && c.gl y && decide (z = Str.ofString T) && c.gl z && isTys.contains T && chk c a b && notStar b
    | _ => false)
  | .meth m o as, e => (match e with
    | .Call (.Attribute o' y ap) es [] cp => decide (y = Str.ofString m.name) && chk c o o' && chks c as es && notCall0 o' && (ap.endLine == cp.line) && decide (as.len < 20) && (match m with | .pop => as.len == 0 | _ => as.len == 1)
    | _ => false)
  | .idx o as, e => (match e with
    | .Call (.Attribute o' y ap) es [] cp => decide (y = Str.ofString "index") && chk c o o' && chks c as es && notCall0 o' && (ap.endLine == cp.line) && decide (as.len < 20) && (as.len == 1)
    | _ => false)
  | .ix a b, e => (match e with
    | .Subscript x y _ => chk c a x && chk c b y && notSlice y
    | _ => false)
  | .sl a lo hi, e => (match e with
    | .Subscript x (.Slice l h none _) _ => chk c a x && chkO c lo l && chkO c hi h
    | _ => false)
  | .rev a, e => (match e with
    | .Subscript x (.Slice none none (some (.UnaryOp .USub (.Constant (.int j) _ _) _)) _) _ => decide (j = 1) && chk c a x
    | _ => false)
  | .dix x _ b, e => (match e with
    | .Subscript (.Name y _) z _ => decide (x = y) && c.gl y && plainN y && chk c b z && notSlice z
    | _ => false)
  | .rng kd as, e => (match e with
    | .Call (.Name y _) [.Call (.Name z _) es [] _] [] _ => decide (y = Str.ofString (rgName kd)) && c.gl y && decide (z = Str.ofString "range") && c.gl z && chks c as es && decide (kd ≤ 2) && (as.len == 1 || as.len == 2)
    | _ => false)
  | .dnew _, e => (match e with
    | .Dict [] [] _ => true
    | _ => false)
  | .ddsp ks vs, e => (match e with
    | .Dict keys values _ => keyC ks keys && chks c vs values && decide (ks.length = vs.len) && decide (0 < ks.length) && decide (ks.length ≤ 15)
    | _ => false)
  | .tup as, e => (match e with
    | .Tuple es _ _ => chks c as es
    | _ => false)
  | .lst _ as, e => (match e with
    | .List es _ => chks c as es
    | _ => false)
  | .comp _ it tg cd el own, e => (match e with
    | .ListComp elt [⟨tg', iter, ifs, a⟩] scope _ => decide (a = 0) && chkI c it tg' iter && notSet iter && blkC c.N c.sc scope own
        && chkG ⟨c.N, relS scope c.sc, fun x => scope.names.lookup x == some .cell⟩ (own.map (·.2)) tg tg'
        && chkC ⟨c.N, relS scope c.sc, fun x => scope.names.lookup x == some .cell⟩ cd ifs
        && chk ⟨c.N, relS scope c.sc, fun x => scope.names.lookup x == some .cell⟩ el elt
    | _ => false)
def chks (c : Ck) : Es → List Expr → Bool
  | .nil, es => (match es with
    | [] => true
    | _ => false)
  | .cons a as, es => (match es with
    | e :: r => chk c a e && notStar e && chks c as r
    | [] => false)
def chksT : Es → Bool
  | .nil => true
  | .cons a as => okT a && chksT as
def chkO (c : Ck) : Op → Option Expr → Bool
  | .no, e => (match e with
    | none => true
    | some _ => false)
  | .yes a, e => (match e with
    | some e => chk c a e
    | none => false)
def chkC (c : Ck) : Op → List Expr → Bool
  | .no, e => (match e with
    | [] => true
    | _ => false)
  | .yes a, e => (match e with
    | [e] => okT a && chk c a e
    | _ => false)
def chkI (c : Ck) : Wk → Expr → Expr → Bool
  | .val a, _, e => chk c a e
  | .r1 as, _, e => (match e with
    | .Call (.Name y _) es [] _ => decide (y = Str.ofString "range") && c.gl y && chks c as es && decide (as.len = 1)
    | _ => false)
  | .r2 as, _, e => (match e with
    | .Call (.Name y _) es [] _ => decide (y = Str.ofString "range") && c.gl y && chks c as es && decide (as.len = 2)
    | _ => false)
  | .enum a, t, e => (match t, e with
    | .Tuple _ _ _, .Call (.Name y _) [x] [] _ => decide (y = Str.ofString "enumerate") && c.gl y && chk c a x && notStar x
    | _, _ => false)
  | .zip as, t, e => (match t, e with
    | .Tuple _ _ _, .Call (.Name y _) es [] _ => decide (y = Str.ofString "zip") && c.gl y && chks c as es && decide (as.len = 2)
    | _, _ => false)
def chkG (c : Ck) (ws : List Nat) : Tg → Expr → Bool
  | .nm i, e => (match e with
    | .Name x _ => decide (c.N[i]? = some x) && c.loc x && ws.contains i
    | _ => false)
  | .tup n ts, e => (match e with
    | .Tuple es _ _ => chkGs c ws ts es && decide (es.length = n)
    | _ => false)
  | .sub o i, e => (match e with
    | .Subscript x y _ => chk c o x && chk c i y && notSlice y
    | _ => false)
def chkGs (c : Ck) (ws : List Nat) : Tgs → List Expr → Bool
  | .nil, es => (match es with
    | [] => true
    | _ => false)
  | .cons t ts, es => (match es with
    | e :: r => chkG c ws t e && notStar e && chkGs c ws ts r
    | [] => false)
end
def isStarred : Expr → Bool
  | .Starred .. => true
  | _ => false
def swpNames (sc : Scope) (ts : List Expr) : List Str := ts.filterMap fun
  | .Name id pos => if sc.names.lookup id == some .local && pos.line == (ts.head?.map (·.pos.line)).getD 0 then some id else none
  | _ => none
/-- how a, b = x, y is stored: none: not known; some none: in order; some names: from the right -/
def swp (sc : Scope) (ts vs : List Expr) : Option (Option (List Str)) :=
  if !(ts.length == 2 || ts.length == 3) || vs.length != ts.length then some none
  else if vs.any isStarred then some none
  else if (swpNames sc ts).length != ts.length || (swpNames sc ts).eraseDups.length != (swpNames sc ts).length then some none
  else if vs.all (foldedForSure 8) then some none
  else if vs.all (constantsAlone 8) then none
  else some (some (swpNames sc ts))
def allNm (c : Ck) : Tgs → List Expr → Bool
  | .nil, [] => true
  | .cons (.nm i) ts, .Name x _ :: es => decide (c.N[i]? = some x) && (match c.sc.names.lookup x with | some .local => true | _ => false) && allNm c ts es
  | _, _ => false
def nms : Tgs → List Nat
  | .cons (.nm i) ts => i :: nms ts
  | _ => []
mutual
def chkS (c : Ck) : St' → Stmt → Bool
  | .pass, s => (match s with
    | .Pass _ => true
    | _ => false)
  | .brk, s => (match s with
    | .Break _ => true
    | _ => false)
  | .cont, s => (match s with
    | .Continue _ => true
    | _ => false)
  | .never, _ => true
  | .ret e, s => (match s with
    | .Return (some e') _ => chk c e e'
    | _ => false)
  | .expr e, s => (match s with
    | .Expr e' _ => chk c e e' && notComp e'
    | _ => false)
  | .asg t e, s => (match s with
    | .Assign [t'] e' _ => chkG c (List.range c.N.length) t t' && notStar t' && chk c e e' && (notTuple t' || notTuple e')
    | _ => false)
  | .par ts es, s => (match s with
    | .Assign [.Tuple ts' _ _] (.Tuple es' _ _) _ => chkGs c (List.range c.N.length) ts ts' && chks c es es' && decide (es.len = ts.len) && decide (ts.len < 20)
        && (match swp c.sc ts' es' with
          | some none => true
          | some (some _) => allNm c ts ts' && decide (nms ts).Nodup && (es.len == 2 || es.len == 3)
          | none => false)
    | _ => false)
  | .ife t a b, s => (match s with
    | .If t' a' b' _ => okT t && chk c t t' && chkSs c a a' && chkSs c b b'
    | _ => false)
  | .loop tg it b _, s => (match s with
    | .For tg' it' b' [] _ => chkG c (List.range c.N.length) tg tg' && chkI c it tg' it' && notSet it' && chkSs c b b'
    | _ => false)
  | .whl t b _, s => (match s with
    | .While t' b' [] _ => okT t && chk c t t' && chkSs c b b'
    | _ => false)
def chkSs (c : Ck) : Ss → List Stmt → Bool
  | .nil, ss => (match ss with
    | [] => true
    | _ => false)
  | .cons s ss, l => (match l with
    | s' :: l' => chkS c s s' && chkSs c ss l'
    | [] => false)
end
/-! ### what it calls, which names of the module it reads -/
inductive Use where
  | fn (x : Str) (n : Nat) (F : List D → Sto → Rs D)
  | con (x : Str) (d : PyData)
  | dic (x : Str) (tbl : List (Str × PyData))
  | blt (x : String)
mutual
def uses : E → List Use
  | .glob x d => [.con x d]
  | .bin _ a b => uses a ++ uses b
  | .cmp _ a b => uses a ++ uses b
  | .chn _ _ a b c => uses a ++ (uses b ++ uses c)
  | .neg a => uses a
  | .not a => uses a
  | .and as => usess as
  | .or as => usess as
  | .ife c a b => uses c ++ (uses a ++ uses b)
  | .call x n F as => .fn x n F :: usess as
  | .prim p as => .blt p.name :: usess as
  | .isa a T => .blt "isinstance" :: .blt T :: uses a
  | .meth _ o as => uses o ++ usess as
  | .idx o as => uses o ++ usess as
  | .ix a b => uses a ++ uses b
  | .sl a lo hi => uses a ++ (usesO lo ++ usesO hi)
  | .rev a => uses a
  | .dix x tbl b => .dic x tbl :: uses b
  | .tup as => usess as
  | .ddsp _ as => usess as
  | .rng kd as => .blt (rgName kd) :: .blt "range" :: usess as
  | .lst _ as => usess as
  | .comp _ it tg c e _ => usesI it ++ (usesG tg ++ (usesO c ++ uses e))
  | _ => []
def usess : Es → List Use
  | .nil => []
  | .cons a as => uses a ++ usess as
def usesO : Op → List Use
  | .no => []
  | .yes a => uses a
def usesI : Wk → List Use
  | .val a => uses a
  | .r1 as => .blt "range" :: usess as
  | .r2 as => .blt "range" :: usess as
  | .enum a => .blt "enumerate" :: uses a
  | .zip as => .blt "zip" :: usess as
def usesG : Tg → List Use
  | .nm _ => []
  | .tup _ ts => usesGs ts
  | .sub o i => uses o ++ uses i
def usesGs : Tgs → List Use
  | .nil => []
  | .cons t ts => usesG t ++ usesGs ts
end
mutual
def usesS : St' → List Use
  | .ret e => uses e
  | .expr e => uses e
  | .asg t e => usesG t ++ uses e
  | .par ts es => usesGs ts ++ usess es
  | .ife c a b => uses c ++ (usesSs a ++ usesSs b)
  | .loop tg it b _ => usesG tg ++ (usesI it ++ usesSs b)
  | .whl c b _ => uses c ++ usesSs b
  | _ => []
def usesSs : Ss → List Use
  | .nil => []
  | .cons s ss => usesS s ++ usesSs ss
end
end Tm
namespace Tm
open PySem L2

/-! ## soundness of the checker -/
structure Gd (X : Cx) (c : Ck) (k : Nat) : Prop where
  calm : X.calm = true
  N : X.N = c.N
  nd : X.N.Nodup
  sc : X.env.scope = c.sc
  fn : X.fn = c.fn
  guards : X.A.guards = some []
  room : Room k X.A
  xe : X.xe = fun _ _ => False
  kind : c.sc.kind = .function
def Kn (X : Cx) (k : Nat) : Use → Prop
  | .fn x n F => ∃ f fd ps j, X.mg x = some (.ref f) ∧ PySem.W.keepIn X.kw (.ref f) = true ∧ Binds X.kw fd ps [] ∧ j ≤ k ∧ FnG X.prog X.w X.kw X.mg X.base j f fd ps (spF X.kw n F) ∧ ∀ ds S z, F ds S = some z → ds.length = n
  | .con x d => GlobOk X.kw X.mg x d
  | .dic x tbl => DictOk X.kw X.w X.mg x tbl
  | .blt x => X.mg (Str.ofString x) = none
section
variable {X : Cx} {c : Ck} {k : Nat}
theorem Gd.vis (g : Gd X c k) {x : Str} (h : c.vis x = true) : Vis X.env.scope x := by
  unfold Ck.vis at h
  rw [g.sc]
  split at h
  · exact .inl (by assumption)
  · exact .inr (.inl (by assumption))
  · exact .inr (.inr (by assumption))
  · cases h
theorem Gd.loc (g : Gd X c k) {x : Str} (h : c.loc x = true) : Loc X.env.scope x ∧ (X.fn x = true ∨ X.env.scope.names.lookup x = some .local) := by
  unfold Ck.loc at h
  rw [g.sc, g.fn]
  split at h
  · rename_i e; exact ⟨.inl e, .inr e⟩
  · rename_i e; exact ⟨.inr e, .inl h⟩
  · cases h
theorem Gd.gl (g : Gd X c k) {x : Str} (h : c.gl x = true) : Gl X x := by
  unfold Ck.gl at h
  show X.env.scope.names.lookup x = some .globalImplicit
  rw [g.sc]
  split at h
  · assumption
  · cases h
theorem plain1 {x : Str} (h : plainN x = true) : (x == ("__debug__" : Str)) = false ∧ (x == ("__classdict__" : Str)) = false ∧ x ≠ "__name__" := by
  unfold plainN at h
  simp only [Bool.and_eq_true, Bool.not_eq_true'] at h
  exact ⟨h.1.1, h.1.2, beq_eq_false_iff_ne.mp h.2⟩
theorem star1 {e : Expr} {es : List Expr} {env : Env} (h : notStar e = true) : starEach (e :: es) env = (false, eval e env) :: starEach es env := by
  cases e <;> first | rfl | cases h
theorem asn1 {e : Expr} {es : List Expr} {env : Env} (h : notStar e = true) : assignEach (e :: es) env = (false, assign e env) :: assignEach es env := by
  cases e <;> first | rfl | cases h
theorem units65 (g : Gd X c k) : X.A.units + 70 < cLine := by have := g.room.un; omega
/-- the parts of a list of expressions -/
inductive AllP (X : Cx) : List Expr → Es → Prop
  | nil : AllP X [] .nil
  | cons {e : Expr} {es : List Expr} {a : E} {as : Es} : PE X e (tE X.kw (den a)) → (okT a = true → PT X e (tB' X.kw (denT a))) → notStar e = true → AllP X es as → AllP X (e :: es) (.cons a as)
theorem AllP.pa : ∀ {es : List Expr} {as : Es}, AllP X es as → PA X es (tAs X.kw (dens as))
  | _, _, .nil => by simp only [dens]; exact s_nil
  | _, _, .cons h _ n t => by simp only [dens]; exact s_cons h t.pa (star1 n)
theorem AllP.plain {pos : Pos} : ∀ {es : List Expr} {as : Es}, AllP X es as → (backTo pos (starEach es X.env)).any (·.1) = false
  | _, _, .nil => rfl
  | _, _, .cons _ _ n t => by
    rw [star1 n]
    show (false || (backTo pos (starEach _ X.env)).any (·.1)) = false
    rw [t.plain]; rfl
theorem AllP.plain2 {pos : Pos} : ∀ {es : List Expr} {as : Es}, AllP X es as → (backTo pos (starEach es X.env)).all (fun x => !x.1) = true
  | _, _, .nil => rfl
  | _, _, .cons _ _ n t => by
    rw [star1 n]
    show (!false && (backTo pos (starEach _ X.env)).all (fun x => !x.1)) = true
    rw [t.plain2]; rfl
theorem AllP.len : ∀ {es : List Expr} {as : Es}, AllP X es as → es.length = as.len
  | _, _, .nil => rfl
  | _, _, .cons _ _ _ t => congrArg Nat.succ t.len
theorem AllP.and {pos : Pos} : ∀ {e : Expr} {es : List Expr} {as : Es}, AllP X (e :: es) as → PE X (.BoolOp .And (e :: es) pos) (tE X.kw (denAnd as))
  | _, _, _, .cons h _ _ .nil => by simp only [denAnd]; exact pe_one h
  | _, _, _, .cons h _ _ (.cons h2 h3 h4 h5) => by
    simp only [denAnd]
    have ih := AllP.and (pos := pos) (AllP.cons h2 h3 h4 h5)
    simp only [denAnd] at ih
    exact s_and h ih
theorem AllP.or {pos : Pos} : ∀ {e : Expr} {es : List Expr} {as : Es}, AllP X (e :: es) as → PE X (.BoolOp .Or (e :: es) pos) (tE X.kw (denOr as))
  | _, _, _, .cons h _ _ .nil => by simp only [denOr]; exact pe_one h
  | _, _, _, .cons h _ _ (.cons h2 h3 h4 h5) => by
    simp only [denOr]
    have ih := AllP.or (pos := pos) (AllP.cons h2 h3 h4 h5)
    simp only [denOr] at ih
    exact s_or h ih
theorem AllP.andT {pos : Pos} : ∀ {e : Expr} {es : List Expr} {as : Es}, AllP X (e :: es) as → chksT as = true → PW X (.BoolOp .And (e :: es) pos) (tB' X.kw (denAndT as))
  | _, _, _, .cons h t _ .nil, c => by
    simp only [chksT, Bool.and_eq_true] at c
    simp only [denAndT]; exact pw_and1 (t c.1)
  | _, _, _, .cons h t _ (.cons h2 h3 h4 h5), c => by
    simp only [chksT, Bool.and_eq_true] at c
    simp only [denAndT]
    have ih := AllP.andT (pos := pos) (AllP.cons h2 h3 h4 h5) (by simp only [chksT, Bool.and_eq_true]; exact c.2)
    simp only [denAndT] at ih
    exact s_andT (t c.1) ih
theorem AllP.orT {pos : Pos} : ∀ {e : Expr} {es : List Expr} {as : Es}, AllP X (e :: es) as → chksT as = true → PW X (.BoolOp .Or (e :: es) pos) (tB' X.kw (denOrT as))
  | _, _, _, .cons h t _ .nil, c => by
    simp only [chksT, Bool.and_eq_true] at c
    simp only [denOrT]; exact pw_or1 (t c.1)
  | _, _, _, .cons h t _ (.cons h2 h3 h4 h5), c => by
    simp only [chksT, Bool.and_eq_true] at c
    simp only [denOrT]
    have ih := AllP.orT (pos := pos) (AllP.cons h2 h3 h4 h5) (by simp only [chksT, Bool.and_eq_true]; exact c.2)
    simp only [denOrT] at ih
    exact s_orT (t c.1) ih
/-! operators -/
theorem bin_ok (o : Bin) {op : Operator} (h : o.is op = true) : OpR X (binaryOp op) (r2 X.kw o.fn) := by
  cases o with
  | add => cases op <;> first | exact absurd h (by decide) | exact o_add
  | sub => cases op <;> first | exact absurd h (by decide) | exact o_sub
  | mul => cases op <;> first | exact absurd h (by decide) | exact o_mulX
  | div => cases op <;> first | exact absurd h (by decide) | exact o_div
  | mod => cases op <;> first | exact absurd h (by decide) | exact o_mod
  | pow => cases op <;> first | exact absurd h (by decide) | exact o_pow
theorem cm_ok (g : Gd X c k) (o : Cm) {op : CmpOp} (h : o.ok op = true) : OpR X (compareOp op) (r2 X.kw o.fn) := by
  have u := units65 g
  cases o with
  | eq => cases op <;> first | exact absurd h (by decide) | exact o_eq (by omega)
  | ne => cases op <;> first | exact absurd h (by decide) | exact o_ne (by omega)
  | lt => cases op <;> first | exact absurd h (by decide) | exact o_less (by omega)
  | le => cases op <;> first | exact absurd h (by decide) | exact o_le
  | gt => cases op <;> first | exact absurd h (by decide) | exact o_gt
  | ge => cases op <;> first | exact absurd h (by decide) | exact o_ge
  | is => cases op <;> first | exact absurd h (by decide) | exact o_is
  | isnot => cases op <;> first | exact absurd h (by decide) | exact o_isNot
  | isin => cases op <;> first | exact absurd h (by decide) | exact o_inA (by omega)
  | notin => cases op <;> first | exact absurd h (by decide) | exact o_notInA (by omega)
theorem mark1 {op : CmpOp} {r : Expr} (h : notSet r = true) : behindInMarks op r = false := by
  cases r <;> first | rfl | cases h
theorem mark2 {op op' : CmpOp} {m r : Expr} (h : notSet r = true) : lastMarks [op, op'] [m, r] = false := by
  show behindInMarks op' r = false
  exact mark1 h
/-! built-ins -/
inductive PrR (X : Cx) (p : Pr) : Prop
  | fn (h : CallR X (.builtin p.name) (rN X.kw p.fn)) (b : bootBuiltins (Str.ofString p.name) = some (.builtin p.name)) : PrR X p
  | ty (h : CallR X (.type p.name) (rN X.kw p.fn)) (b : bootBuiltins (Str.ofString p.name) = some (.type p.name)) : PrR X p
theorem pr_ok (g : Gd X c k) (p : Pr) : PrR X p := by
  have u := units65 g
  cases p with
  | len => exact .fn c_len (by decide +kernel)
  | max2 => exact .fn (c_max g.calm) (by decide +kernel)
  | min2 => exact .fn (c_min g.calm) (by decide +kernel)
  | max1 => exact .fn (c_max1 g.calm (by omega)) (by decide +kernel)
  | min1 => exact .fn (c_min1 g.calm (by omega)) (by decide +kernel)
  | int => exact .ty c_int (by decide +kernel)
  | all => exact .fn (c_all g.calm) (by decide +kernel)
  | any => exact .fn (c_any g.calm) (by decide +kernel)
  | sum => exact .fn (c_sum g.calm) (by decide +kernel)
  | tuple => exact .ty c_tuple (by decide +kernel)
  | list => exact .ty c_list (by decide +kernel)
  | listM => exact .ty c_listM (by decide +kernel)
  | sorted => exact .fn (c_sortedX (by omega)) (by decide +kernel)
  | sortedM => exact .fn (c_sortedM (by omega)) (by decide +kernel)
  | repr => exact .fn (c_repr g.guards (by omega)) (by decide +kernel)
theorem pr_plain (p : Pr) : (Str.ofString p.name) ≠ "__name__" ∧ ((Str.ofString p.name) == ("__debug__" : Str)) = false := by
  cases p <;> exact ⟨by decide +kernel, by decide +kernel⟩
theorem ty_boot {T : String} (h : T ∈ isTys) : bootBuiltins (Str.ofString T) = some (.type T) ∧ (Str.ofString T) ≠ "__name__" ∧ ((Str.ofString T) == ("__debug__" : Str)) = false := by
  have key : (isTys.all fun T => decide (bootBuiltins (Str.ofString T) = some (.type T)) && decide ((Str.ofString T) ≠ "__name__") && decide (((Str.ofString T) == ("__debug__" : Str)) = false)) = true := by decide +kernel
  have := List.all_eq_true.mp key T h
  simp only [Bool.and_eq_true, decide_eq_true_eq] at this
  exact ⟨this.1.1, this.1.2, this.2⟩
structure MtOk (X : Cx) (m : Mt) (id : String) : Prop where
  pa : PlainAttrs m.ty
  slot : Slot m.ty (Str.ofString m.name) id
  ty : typeOf (.builtin id) = pure (.type "method_descriptor")
  rule : MtR X id (rM X.kw m.fn)
theorem mt_ok (g : Gd X c k) (m : Mt) : ∃ id, MtOk X m id := by
  have u := units65 g
  cases m with
  | append => exact ⟨_, PySem.F.plainAttrs_list, PySem.F.slot_list_append, PySem.F.type_list_append, t_append⟩
  | pop => exact ⟨_, PySem.F.plainAttrs_list, PySem.F.slot_list_pop, PySem.F.type_list_pop, t_pop⟩
  | extend => exact ⟨_, PySem.F.plainAttrs_list, PySem.F.slot_list_extend, PySem.F.type_list_extend, t_extend⟩
  | indexS => exact ⟨_, PySem.F.plainAttrs_str, PySem.F.slot_str_index, PySem.F.type_str_index, t_indexS⟩
  | index => exact ⟨_, PySem.F.plainAttrs_list, PySem.F.slot_list_index, PySem.F.type_list_index, t_index (by omega)⟩
  | indexT => exact ⟨_, PySem.F.plainAttrs_tuple, PySem.F.slot_tuple_index, PySem.F.type_tuple_index, t_indexT (by omega)⟩
  | join => exact ⟨_, PySem.F.plainAttrs_str, PySem.F.slot_str_join, PySem.F.type_str_join, t_join⟩
theorem base1 {o : Expr} {name : Str} {env : Env} (h : notCall0 o = true) : attributeBase o name env (eval o env) = eval o env := by
  cases o with
  | Call f as ks p =>
    cases as with
    | nil =>
      cases ks with
      | nil => cases h
      | cons _ _ => cases f <;> rfl
    | cons _ _ => cases f <;> rfl
  | _ => rfl
theorem ix1 {b : Expr} (h : notSlice b = true) : PlainIx b := fun o i => by
  cases b <;> first | rfl | cases h
theorem set1 {e : Expr} {env : Env} (h : notSet e = true) : ∀ x, foldedSetIterable e env x = pure x := fun x => by
  cases e <;> first | rfl | cases h
end
end Tm
namespace Tm
open PySem L2

theorem Gd.blk {X : Cx} {c : Ck} {k : Nat} (g : Gd X c k) {scope : Scope} (hk : scope.kind = .function) (s : Shared) (H : Hp) (C : Addr) (cl : List (Str × Addr)) (fp : List Addr) :
    Gd (X.blk s H scope (PySem.compEnvC scope cl C X.env) fp) ⟨c.N, relS scope c.sc, fun x => scope.names.lookup x == some .cell⟩ k :=
  ⟨g.calm, g.N, g.nd, by rw [← g.sc]; rfl, rfl, g.guards, g.room, rfl, hk⟩
theorem us1 {P : Use → Prop} {a b : List Use} (h : ∀ u ∈ a ++ b, P u) : ∀ u ∈ a, P u := fun u hu => h u (List.mem_append.mpr (.inl hu))
theorem us2 {P : Use → Prop} {a b : List Use} (h : ∀ u ∈ a ++ b, P u) : ∀ u ∈ b, P u := fun u hu => h u (List.mem_append.mpr (.inr hu))
theorem us3 {P : Use → Prop} {a : Use} {b : List Use} (h : ∀ u ∈ a :: b, P u) : P a := h a (List.mem_cons_self ..)
theorem us4 {P : Use → Prop} {a : Use} {b : List Use} (h : ∀ u ∈ a :: b, P u) : ∀ u ∈ b, P u := fun u hu => h u (List.mem_cons_of_mem _ hu)
theorem disp_ext {ι ι1 : List Addr} {H H1 : Hp} {p : Addr} {o u : HO} (hp : H p = none) (w : Ext ι (upd H p u) ι1 H1) (hp1 : H1 p = some u) (np : p ∉ ι) : Ext ι H (ι1 ++ [p]) (upd H1 p o) := by
  refine ⟨w.pre.trans (List.prefix_append _ _), fun a ha => ?_, fun a x e f => ?_⟩
  · rcases List.mem_append.mp ha with z | z
    · rcases w.new a z with y | y
      · exact .inl y
      · by_cases c : a = p
        · subst c; exact .inr hp
        · rw [upd_ne c] at y; exact .inr y
    · have : a = p := by simpa using z
      subst this; exact .inr hp
  · have na : a ≠ p := fun z => by subst z; rw [hp] at e; cases e
    rw [upd_ne na]
    exact w.stay a x (by rw [upd_ne na]; exact e) f
theorem disp_hr {K : Fg} {H : Hp} {ι : List Addr} {S : Sto} {p : Addr} {o : HO} {u : List (Key × V)} {ob : Ob} (h : HR K H ι S) (hp : H p = some (.dK u)) (np : p ∉ ι) (q : ObR K (upd H p o) p ob) : HR K (upd H p o) (ι ++ [p]) (S ++ [ob]) := by
  have h2 : HR K (upd H p o) ι S := h.side hp (fun z => z) np
  refine ⟨by simp [h.len], ?_, fun n a ob' e1 e2 => ?_⟩
  · rw [List.nodup_append]
    exact ⟨h.nd, by simp, fun a ha b hb => by
      have : b = p := by simpa using hb
      subst this
      intro e; subst e; exact np ha⟩
  · by_cases c : n < ι.length
    · rw [List.getElem?_append_left c] at e1
      rw [List.getElem?_append_left (by rw [← h.len]; exact c)] at e2
      exact h2.at_ n a ob' e1 e2
    · have c' : n = ι.length := by
        have z := (List.getElem?_eq_some_iff.mp e1).1
        simp at z; omega
      subst c'
      rw [List.getElem?_append_right (Nat.le_refl _)] at e1
      rw [h.len, List.getElem?_append_right (Nat.le_refl _)] at e2
      simp at e1 e2
      subst e1; subst e2
      exact q
/-- what is shown of an expression -/
def SE (X : Cx) (a : E) (e : Expr) : Prop := PE X e (tE X.kw (den a)) ∧ (okT a = true → PT X e (tB' X.kw (denT a)))
section
variable {X : Cx} {c : Ck} {k : Nat}
theorem se_call {x : Str} {n : Nat} {F : List D → Sto → Rs D} {as : Es} {es : List Expr} {p pos : Pos} (g : Gd X c k) (hg : c.gl x = true) (hp : plainN x = true) (ha : AllP X es as) (hk : Kn X k (.fn x n F)) :
    PE X (.Call (.Name x p) es [] pos) (tE X.kw (mN F (dens as))) := by
  obtain ⟨f, fd, ps, j, h1, h2, h3, h4, h5, h6⟩ := hk
  cases ha with
  | nil =>
    have := s_call0 (p := p) (pos := pos) h5 g.guards (g.room.mono h4) (g.gl hg) h1 h2 h3 h6 (plain1 hp).1
    simp only [dens]
    exact this
  | cons a1 a2 a3 a4 =>
    exact s_call h5 g.guards (g.room.mono h4) (g.gl hg) h1 h2 h3 h6 (AllP.cons a1 a2 a3 a4).pa (plain1 hp).1 (star1 a3) a4.plain
theorem se_prim {q : Pr} {as : Es} {es : List Expr} {p pos : Pos} (g : Gd X c k) (hg : c.gl (Str.ofString q.name) = true) (ha : AllP X es as) (hn : prOk q as.len = true) (hk : Kn X k (.blt q.name)) :
    PE X (.Call (.Name (Str.ofString q.name) p) es [] pos) (tE X.kw (mN q.fn (dens as))) := by
  cases ha with
  | nil => cases q <;> exact absurd hn (by decide)
  | cons a1 a2 a3 a4 =>
    have n1 := pr_plain q
    rcases pr_ok g q with ⟨h, b⟩ | ⟨h, b⟩
    · exact PE.imp (pe_callB h (g.gl hg) hk b (AllP.cons a1 a2 a3 a4).pa n1.1 n1.2 (star1 a3) a4.plain) fun _ _ _ z => impN z
    · exact PE.imp (pe_callTy h (g.gl hg) hk b (AllP.cons a1 a2 a3 a4).pa n1.1 n1.2 (star1 a3) a4.plain) fun _ _ _ z => impN z
theorem se_meth {m : Mt} {o : E} {o' : Expr} {as : Es} {es : List Expr} {ap cp : Pos} (g : Gd X c k) (ho : PE X o' (tE X.kw (den o))) (ha : AllP X es as) (hb : notCall0 o' = true) (hl : (ap.endLine == cp.line) = true) (hn : as.len < 20) :
    PE X (.Call (.Attribute o' (Str.ofString m.name) ap) es [] cp) (tE X.kw (mMt m.ty m.fn (den o) (dens as))) := by
  obtain ⟨id, h⟩ := mt_ok g m
  cases ha with
  | nil =>
    simp only [dens]
    exact s_meth0 h.pa h.slot h.ty h.rule ho (base1 hb) hl
  | cons a1 a2 a3 a4 =>
    have A := AllP.cons a1 a2 a3 a4
    refine s_meth h.pa h.slot h.ty h.rule ho A.pa (base1 hb) ?_ hl (star1 a3) a4.plain
    rw [A.plain2, A.len]
    show (true && true && decide (_ + 0 + 0 < 30)) = true
    simp only [Bool.true_and, decide_eq_true_eq]
    omega
/-- the pairs of a display -/
def trsOf (K : Fg) : List Str → Es → List (TE × TE)
  | k :: ks, .cons a as => (tC (.str k), tE K (den a)) :: trsOf K ks as
  | _, _ => []
theorem pps_of {pos : Pos} : ∀ {ks : List Str} {keys : List (Option Expr)} {es : List Expr} {as : Es}, AllP X es as → keyC ks keys = true → ks.length = as.len → PPs X pos keys es (trsOf X.kw ks as) ∧ keys.all (·.isSome) = true ∧ keys.length = ks.length
  | [], [], _, _, .nil, _, _ => ⟨pps_nil, rfl, rfl⟩
  | [], [], _, _, .cons _ _ _ _, _, h => by cases h
  | k :: ks, some (.Constant (.str x) j p) :: keys, _, _, .cons a1 a2 a3 a4, hk, hl => by
    simp only [keyC, Bool.and_eq_true, decide_eq_true_eq] at hk
    obtain ⟨rfl, hk⟩ := hk
    obtain ⟨h1, h2, h3⟩ := pps_of (pos := pos) a4 hk (by simpa [Es.len] using hl)
    exact ⟨pps_cons pe_str a1 h1, by simpa using h2, by simpa using h3⟩
  | k :: ks, _, _, _, .nil, _, h => by cases h
theorem tPairs_of {K : Fg} : ∀ {ks : List Str} {as : Es} {σ : L2.St} {H : Hp} {Q : List (V × V) → Hp → Prop}, ks.length = as.len → tAs K (dens as) σ H (fun vs H' => Q ((ks.map V.str).zip vs) H') → tPairs (trsOf K ks as) σ H Q
  | [], .nil, σ, H, Q, _, ⟨ι, ρ, S, ds, S', hH, hE, e, q⟩ => by
    simp only [dens, maNil] at e
    cases e
    exact q ι [] H (Ext.refl _ _) hH trivial
  | k :: ks, .cons a as, σ, H, Q, hl, ⟨ι, ρ, S, ds, S', hH, hE, e, q⟩ => by
    simp only [dens, maCons] at e
    split at e
    · rename_i x S1 h1
      split at e
      · rename_i xs S2 h2
        cases e
        refine ⟨ι, ρ, S, x, S1, hH, hE, h1, fun ι1 vx H1 w1 hH1 rx => tPairs_of (by simpa [Es.len] using hl) ⟨ι1, ρ, S1, xs, _, hH1, hE.mono w1, h2, fun ι2 vs H2 w2 hH2 rs => ?_⟩⟩
        exact q ι2 (vx :: vs) H2 (w1.trans w2) hH2 ⟨rx.mono w2, rs⟩
      · cases e
    · cases e
  | [], .cons _ _, _, _, _, h, _ => by cases h
  | _ :: _, .nil, _, _, _, h, _ => by cases h
theorem zip_kv : ∀ (ks : List Str) (vs : List V), (ks.map V.str).zip vs = (((ks.map Sum.inr).zip vs : List (Key × V))).map fun kv => (kV kv.1, kv.2)
  | [], _ => rfl
  | _ :: _, [] => rfl
  | k :: ks, v :: vs => by
    show (V.str k, v) :: (ks.map V.str).zip vs = (kV (.inr k), v) :: _
    rw [zip_kv ks vs]; rfl
theorem se_disp {ks : List Str} {keys : List (Option Expr)} {es : List Expr} {as : Es} {pos : Pos} (g : Gd X c k) (ha : AllP X es as) (hk : keyC ks keys = true) (hl : ks.length = as.len) (h0 : 0 < ks.length) (h15 : ks.length ≤ 15) :
    PE X (.Dict keys es pos) (tE X.kw (mN (gDisp ks) (dens as))) := by
  obtain ⟨h1, h2, h3⟩ := pps_of (pos := pos) ha hk hl
  refine PE.imp (pe_disp h1 h2 (by rw [h3, ha.len, hl]) (fun z => by rw [z] at h3; simp at h3; omega) (by omega)) fun σ H Q ⟨ι, ρ, S, z, S', hH, hE, e, q⟩ => ?_
  unfold mN at e
  split at e
  · rename_i ds S1 hds
    unfold gDisp at e
    split at e
    · rename_i xs hx
      split at e
      · rename_i hc
        cases e
        intro p hp
        have wp : Ext ι H ι (upd H p (.dK [])) := Ext.put hp
        have np : p ∉ ι := fun z => by obtain ⟨u, z1, _⟩ := hH.mem z; rw [hp] at z1; cases z1
        refine tPairs_of hl ⟨ι, ρ, S, ds, S1, hH.same (Same.put hp), hE.mono wp, hds, fun ι1 vs H1 w1 hH1 rv => ?_⟩
        have hp1 : H1 p = some (.dK []) := w1.stay _ _ upd_same (.inr np)
        have np1 : p ∉ ι1 := fun z => by
          rcases w1.new _ z with z | z
          · exact np z
          · rw [upd_same] at z; cases z
        have hr := datas_of rv hx
        have hvl : vs.length = ks.length := by rw [hr.length, hc.1]
        refine ⟨hp1, (ks.map Sum.inr).zip vs, zip_kv ks vs, by rw [List.length_zip, List.length_map]; omega, ?_⟩
        have wf := disp_ext (o := .dK (mergeK [] ((ks.map Sum.inr).zip vs))) hp w1 hp1 np
        refine q (ι1 ++ [p]) (.ref p) _ wf ?_ ⟨p, by rw [← hH1.len, List.getElem?_append_right (Nat.le_refl _)]; simp, rfl⟩
        exact disp_hr hH1 hp1 np1 ⟨_, upd_same, fold_k ks vs xs [] [] (RpA.mono (Keep.mut hp1 (fun z => z)) _ _ hr) hvl .nil⟩
      · cases e
    · cases e
  · cases e
theorem se_rng {kd : Nat} {es : List Expr} {as : Es} {p1 p2 q1 q2 : Pos} (g : Gd X c k) (ha : AllP X es as) (h1 : c.gl (Str.ofString (rgName kd)) = true) (u1 : X.mg (Str.ofString (rgName kd)) = none) (h2 : c.gl (Str.ofString "range") = true) (u2 : X.mg (Str.ofString "range") = none) (h5 : kd ≤ 2) (h6 : (as.len == 1 || as.len == 2) = true) :
    PE X (.Call (.Name (Str.ofString (rgName kd)) p1) [.Call (.Name (Str.ofString "range") p2) es [] q1] [] q2) (tE X.kw (mMade kd (mRg (dens as)))) := by
  have rg : PRg X (.Call (.Name (Str.ofString "range") p2) es [] q1) (tRgP X.kw (mRg (dens as))) := by
    cases ha with
    | nil => cases h6
    | cons a1 a2 a3 a4 =>
      cases a4 with
      | nil => simp only [dens]; exact rg_1 (g.gl h2) u2 a1 (star1 a3)
      | cons b1 b2 b3 b4 =>
        cases b4 with
        | nil => simp only [dens]; exact rg_2 (g.gl h2) u2 a1 b1 (star1 a3) (star1 b3) (AllP.cons b1 b2 b3 .nil).plain
        | cons d1 d2 d3 d4 => simp [Es.len] at h6
  match kd, h5, h1, u1 with
  | 0, _, h1, u1 => exact made_tup g.calm (g.gl h1) u1 rg rfl
  | 1, _, h1, u1 => exact made_lst g.calm (g.gl h1) u1 rg rfl
  | 2, _, h1, u1 => exact made_lstM g.calm (g.gl h1) u1 rg rfl
  | n + 3, h, _, _ => omega
theorem both {a : E} {e : Expr} {m : M} (hp : PE X e (tE X.kw m)) (he : ∀ whole, isTrue e X.env whole = (do let v ← whole; standAt e.pos; holding [v] (truthy v))) (h1 : den a = m) (h2 : denT a = bV m) : SE X a e := by
  refine ⟨by rw [h1]; exact hp, fun _ => ?_⟩
  rw [h2]
  exact s_val hp he
theorem set2 {o i : Expr} {pos : Pos} (h : notSlice i = true) : ∀ v, assign (.Subscript o i pos) X.env v = (do
      let ov ← holding [v] (eval o X.env)
      let iv ← holding [v, ov] (eval i X.env)
      standAt pos
      holding [v, ov, iv] (setItem ov iv v)
      release [v, ov, iv] []) := fun v => by
  cases i <;> first | rfl | cases h
end
mutual
theorem sE : ∀ (a : E) {X : Cx} {c : Ck} {k : Nat} {e : Expr}, Gd X c k → chk c a e = true → (∀ u ∈ uses a, Kn X k u) → SE X a e
  | .var i, X, c, k, e, g, h, u => by
    simp only [chk] at h
    split at h
    · simp only [Bool.and_eq_true, decide_eq_true_eq] at h
      have p := plain1 h.2
      exact both (s_var (pe_var (by rw [g.N]; exact h.1.1) (g.vis h.1.2) p.1 p.2.1)) (fun _ => rfl) (by simp only [den]) (by simp only [denT])
    · cases h
  | .int i, X, c, k, e, g, h, u => by
    simp only [chk] at h
    split at h
    · simp only [decide_eq_true_eq] at h
      subst h
      refine ⟨by simp only [den]; exact s_c pe_int fun H => .int _, fun z => by cases z⟩
    · cases h
  | .bl b, X, c, k, e, g, h, u => by
    simp only [chk] at h
    split at h
    · simp only [decide_eq_true_eq] at h
      subst h
      exact both (s_c pe_bl fun H => Rp.bl _) (fun _ => rfl) (by simp only [den]) (by simp only [denT])
    · cases h
  | .non, X, c, k, e, g, h, u => by
    simp only [chk] at h
    split at h
    · refine ⟨by simp only [den]; exact s_c pe_non fun H => .non, fun z => by cases z⟩
    · cases h
  | .str x, X, c, k, e, g, h, u => by
    simp only [chk] at h
    split at h
    · simp only [decide_eq_true_eq] at h
      subst h
      refine ⟨by simp only [den]; exact s_c pe_str fun H => .str _, fun z => by cases z⟩
    · cases h
  | .glob x d, X, c, k, e, g, h, u => by
    simp only [chk] at h
    simp only [uses] at u
    split at h
    · simp only [Bool.and_eq_true, decide_eq_true_eq] at h
      obtain ⟨⟨rfl, h2⟩, h3⟩ := h
      exact both (s_glob (g.gl h2) (us3 u) (plain1 h3).1) (fun _ => rfl) (by simp only [den]) (by simp only [denT])
    · cases h
  | .bin o a b, X, c, k, e, g, h, u => by
    simp only [chk] at h
    simp only [uses] at u
    split at h
    · simp only [Bool.and_eq_true] at h
      have ha := sE a g h.1.2 (us1 u)
      have hb := sE b g h.2 (us2 u)
      refine ⟨by simp only [den]; exact s_op2 (bin_ok o h.1.1) ha.1 hb.1, fun z => by cases z⟩
    · cases h
  | .cmp o a b, X, c, k, e, g, h, u => by
    simp only [chk] at h
    simp only [uses] at u
    split at h
    · simp only [Bool.and_eq_true] at h
      have ha := sE a g h.1.1.2 (us1 u)
      have hb := sE b g h.1.2 (us2 u)
      refine ⟨by simp only [den]; exact s_cmp (cm_ok g o h.1.1.1) ha.1 hb.1 (mark1 h.2), fun z => ?_⟩
      simp only [denT]
      exact s_cmpT (cm_ok g o h.1.1.1) ha.1 hb.1 (mark1 h.2)
    · cases h
  | .chn o p a b d, X, c, k, e, g, h, u => by
    simp only [chk] at h
    simp only [uses] at u
    split at h
    · simp only [Bool.and_eq_true] at h
      have ha := sE a g h.1.1.1.2 (us1 u)
      have hb := sE b g h.1.1.2 (us1 (us2 u))
      have hd := sE d g h.1.2 (us2 (us2 u))
      have o1 := cm_ok g o h.1.1.1.1.1
      have o2 := cm_ok g p h.1.1.1.1.2
      refine ⟨by simp only [den]; exact s_chain o1 o2 ha.1 hb.1 hd.1 (pe_chain o1 o2 ha.1 hb.1 hd.1 (mark2 h.2)), fun z => ?_⟩
      simp only [denT]
      exact s_chainT (pt_chain o1 o2 ha.1 hb.1 hd.1 (mark2 h.2))
    · cases h
  | .neg a, X, c, k, e, g, h, u => by
    simp only [chk] at h
    simp only [uses] at u
    split at h
    · have ha := sE a g h u
      refine ⟨by simp only [den]; exact s_op1 o_neg ha.1, fun z => by cases z⟩
    · cases h
  | .not a, X, c, k, e, g, h, u => by
    simp only [chk] at h
    simp only [uses] at u
    split at h
    · simp only [Bool.and_eq_true] at h
      have ha := sE a g h.2 u
      refine ⟨by simp only [den]; exact s_not ha.1, fun z => ?_⟩
      simp only [denT]
      exact s_notT (ha.2 h.1)
    · cases h
  | .and as, X, c, k, e, g, h, u => by
    simp only [chk] at h
    simp only [uses] at u
    split at h
    · simp only [Bool.and_eq_true] at h
      have ha := sEs as g h.1.1 u
      cases ha with
      | nil => cases h.2
      | cons a1 a2 a3 a4 =>
        have A := AllP.cons a1 a2 a3 a4
        refine ⟨by simp only [den]; exact A.and, fun _ => ?_⟩
        simp only [denT]
        exact (A.andT h.1.2).pt
    · cases h
  | .or as, X, c, k, e, g, h, u => by
    simp only [chk] at h
    simp only [uses] at u
    split at h
    · simp only [Bool.and_eq_true] at h
      have ha := sEs as g h.1.1 u
      cases ha with
      | nil => cases h.2
      | cons a1 a2 a3 a4 =>
        have A := AllP.cons a1 a2 a3 a4
        refine ⟨by simp only [den]; exact A.or, fun _ => ?_⟩
        simp only [denT]
        exact (A.orT h.1.2).pt
    · cases h
  | .ife t a b, X, c, k, e, g, h, u => by
    simp only [chk] at h
    simp only [uses] at u
    split at h
    · simp only [Bool.and_eq_true] at h
      have ht := sE t g h.1.1.2 (us1 u)
      have ha := sE a g h.1.2 (us1 (us2 u))
      have hb := sE b g h.2 (us2 (us2 u))
      refine ⟨by simp only [den]; exact s_if (ht.2 h.1.1.1) ha.1 hb.1, fun z => by cases z⟩
    · cases h
  | .call x n F as, X, c, k, e, g, h, u => by
    simp only [chk] at h
    simp only [uses] at u
    split at h
    · simp only [Bool.and_eq_true, decide_eq_true_eq] at h
      obtain ⟨⟨⟨⟨rfl, h2⟩, h3⟩, h4⟩, h5⟩ := h
      have ha := sEs as g h4 (us4 u)
      exact both (se_call g h2 h3 ha (us3 u)) (fun _ => rfl) (by simp only [den]) (by simp only [denT])
    · cases h
  | .prim p as, X, c, k, e, g, h, u => by
    simp only [chk] at h
    simp only [uses] at u
    split at h
    · simp only [Bool.and_eq_true, decide_eq_true_eq] at h
      obtain ⟨⟨⟨rfl, h2⟩, h3⟩, h4⟩ := h
      have ha := sEs as g h3 (us4 u)
      exact both (se_prim g h2 ha h4 (us3 u)) (fun _ => rfl) (by simp only [den]) (by simp only [denT])
    · cases h
  | .isa a T, X, c, k, e, g, h, u => by
    simp only [chk] at h
    simp only [uses] at u
    split at h
    · simp only [Bool.and_eq_true, decide_eq_true_eq] at h
      obtain ⟨⟨⟨⟨⟨⟨rfl, h2⟩, rfl⟩, h3⟩, h4⟩, h5⟩, h6⟩ := h
      have ha := sE a g h5 (us4 (us4 u))
      have hT : T ∈ isTys := List.contains_iff_mem.mp h4
      have tb := ty_boot hT
      exact both (s_isa hT (g.gl h2) (us3 u) (g.gl h3) (us3 (us4 u)) tb.1 tb.2.1 tb.2.2 ha.1 (star1 h6) rfl) (fun _ => rfl) (by simp only [den]) (by simp only [denT])
    · cases h
  | .meth m o as, X, c, k, e, g, h, u => by
    simp only [chk] at h
    simp only [uses] at u
    split at h
    · simp only [Bool.and_eq_true, decide_eq_true_eq] at h
      obtain ⟨⟨⟨⟨⟨⟨rfl, h2⟩, h3⟩, h4⟩, h5⟩, h6⟩, h7⟩ := h
      have ho := sE o g h2 (us1 u)
      have ha := sEs as g h3 (us2 u)
      refine ⟨by simp only [den]; exact se_meth g ho.1 ha h4 h5 h6, fun z => by cases z⟩
    · cases h
  | .idx o as, X, c, k, e, g, h, u => by
    simp only [chk] at h
    simp only [uses] at u
    split at h
    · simp only [Bool.and_eq_true, decide_eq_true_eq] at h
      obtain ⟨⟨⟨⟨⟨⟨rfl, h2⟩, h3⟩, h4⟩, h5⟩, h6⟩, h7⟩ := h
      have ho := sE o g h2 (us1 u)
      have ha := sEs as g h3 (us2 u)
      have e1 := se_meth (m := .indexT) g ho.1 ha h4 h5 h6
      have e2 := se_meth (m := .index) g ho.1 ha h4 h5 h6
      have e3 := se_meth (m := .indexS) g ho.1 ha h4 h5 h6
      refine ⟨?_, fun z => by cases z⟩
      simp only [den]
      refine ⟨fun pins s σ H Q I ⟨ι, ρ, S, d, S', hH, hE, hd, q⟩ => ?_⟩
      rcases mIdx_eq hd with hd | hd | hd
      · exact e1.run pins s σ H Q I ⟨ι, ρ, S, d, S', hH, hE, hd, q⟩
      · exact e2.run pins s σ H Q I ⟨ι, ρ, S, d, S', hH, hE, hd, q⟩
      · exact e3.run pins s σ H Q I ⟨ι, ρ, S, d, S', hH, hE, hd, q⟩
    · cases h
  | .ix a b, X, c, k, e, g, h, u => by
    simp only [chk] at h
    simp only [uses] at u
    split at h
    · simp only [Bool.and_eq_true] at h
      have ha := sE a g h.1.1 (us1 u)
      have hb := sE b g h.1.2 (us2 u)
      exact both (s_ixA (units65 g) ha.1 hb.1 (ix1 h.2)) (fun _ => rfl) (by simp only [den]) (by simp only [denT])
    · cases h
  | .sl a lo hi, X, c, k, e, g, h, u => by
    simp only [chk] at h
    simp only [uses] at u
    split at h
    · simp only [Bool.and_eq_true] at h
      have ha := sE a g h.1.1 (us1 u)
      have hl := sO lo g h.1.2 (us1 (us2 u))
      have hh := sO hi g h.2 (us2 (us2 u))
      refine ⟨by simp only [den]; exact s_sl ha.1 hl hh, fun z => by cases z⟩
    · cases h
  | .rev a, X, c, k, e, g, h, u => by
    simp only [chk] at h
    simp only [uses] at u
    split at h
    · simp only [Bool.and_eq_true, decide_eq_true_eq] at h
      obtain ⟨rfl, h2⟩ := h
      have ha := sE a g h2 u
      refine ⟨by simp only [den]; exact s_revL ha.1, fun z => by cases z⟩
    · cases h
  | .dix x tbl b, X, c, k, e, g, h, u => by
    simp only [chk] at h
    simp only [uses] at u
    split at h
    · simp only [Bool.and_eq_true, decide_eq_true_eq] at h
      obtain ⟨⟨⟨⟨rfl, h2⟩, h3⟩, h4⟩, h5⟩ := h
      have hb := sE b g h4 (us4 u)
      refine ⟨by simp only [den]; exact s_dix (g.gl h2) (us3 u) (plain1 h3).1 hb.1 (ix1 h5), fun z => by cases z⟩
    · cases h
  | .rng kd as, X, c, k, e, g, h, u => by
    simp only [chk] at h
    simp only [uses] at u
    split at h
    · simp only [Bool.and_eq_true, decide_eq_true_eq] at h
      obtain ⟨⟨⟨⟨⟨⟨rfl, h2⟩, rfl⟩, h3⟩, h4⟩, h5⟩, h6⟩ := h
      have ha := sEs as g h4 (us4 (us4 u))
      refine ⟨by simp only [den]; exact se_rng g ha h2 (us3 u) h3 (us3 (us4 u)) h5 h6, fun z => by cases z⟩
    · cases h
  | .dnew t, X, c, k, e, g, h, u => by
    simp only [chk] at h
    split at h
    · refine ⟨by simp only [den]; exact s_dnew, fun z => by cases z⟩
    · cases h
  | .ddsp ks vs, X, c, k, e, g, h, u => by
    simp only [chk] at h
    simp only [uses] at u
    split at h
    · simp only [Bool.and_eq_true, decide_eq_true_eq] at h
      obtain ⟨⟨⟨⟨h1, h2⟩, h3⟩, h4⟩, h5⟩ := h
      have ha := sEs vs g h2 u
      refine ⟨by simp only [den]; exact se_disp g ha h1 h3 h4 h5, fun z => by cases z⟩
    · cases h
  | .tup as, X, c, k, e, g, h, u => by
    simp only [chk] at h
    simp only [uses] at u
    split at h
    · have ha := sEs as g h u
      refine ⟨by simp only [den]; exact s_tuple ha.pa, fun z => by cases z⟩
    · cases h
  | .lst mt as, X, c, k, e, g, h, u => by
    simp only [chk] at h
    simp only [uses] at u
    split at h
    · have ha := sEs as g h u
      refine ⟨by
        simp only [den]
        cases mt
        · exact s_list ha.pa
        · exact s_listM ha.pa, fun z => by cases z⟩
    · cases h
  | .comp mt it tg cd el own, X, c, k, e, g, h, u => by
    simp only [chk] at h
    simp only [uses] at u
    split at h
    · rename_i elt tg' iter ifs a scope pos
      simp only [Bool.and_eq_true, decide_eq_true_eq] at h
      obtain ⟨⟨⟨⟨⟨⟨rfl, h1⟩, h2⟩, h3⟩, h4⟩, h5⟩, h6⟩ := h
      have bk : BlkOk X.N X.env.scope scope own := by rw [g.N, g.sc]; exact blkOk_by h3
      have hi := sI it g h1 (us1 u)
      have hg : ∀ (s : Shared) (H : Hp) (C : Addr) (cl : List (Str × Addr)) (fp : List Addr), PG (X.blk s H scope (compEnvC scope cl C X.env) fp) tg' (tG X.kw (own.map (·.2)) (denG tg)) := fun s H C cl fp => sG tg (g.blk bk.kind s H C cl fp) h4 (us1 (us2 u))
      have he : ∀ (s : Shared) (H : Hp) (C : Addr) (cl : List (Str × Addr)) (fp : List Addr), PE (X.blk s H scope (compEnvC scope cl C X.env) fp) elt (tE X.kw (den el)) := fun s H C cl fp => (sE el (g.blk bk.kind s H C cl fp) h6 (us2 (us2 (us2 u)))).1
      have ht : ∀ (s : Shared) (H : Hp) (C : Addr) (cl : List (Str × Addr)) (fp : List Addr), PTs (X.blk s H scope (compEnvC scope cl C X.env) fp) ifs (tB' X.kw (denC cd)) := fun s H C cl fp => sC cd (g.blk bk.kind s H C cl fp) h5 (us1 (us2 (us2 u)))
      have key := pe_lc (pos := pos) g.calm g.nd hi bk hg ht he (set1 h2)
      refine ⟨by
        simp only [den]
        cases mt
        · exact PE.imp (PE.freeze key) fun _ _ _ z => imp_comp z
        · exact PE.imp key fun _ _ _ z => imp_compM z, fun z => by cases z⟩
    · cases h
theorem sEs : ∀ (as : Es) {X : Cx} {c : Ck} {k : Nat} {es : List Expr}, Gd X c k → chks c as es = true → (∀ u ∈ usess as, Kn X k u) → AllP X es as
  | .nil, X, c, k, es, g, h, u => by
    simp only [chks] at h
    split at h
    · exact .nil
    · cases h
  | .cons a as, X, c, k, es, g, h, u => by
    simp only [chks] at h
    simp only [usess] at u
    split at h
    · simp only [Bool.and_eq_true] at h
      have ha := sE a g h.1.1 (us1 u)
      exact .cons ha.1 ha.2 h.1.2 (sEs as g h.2 (us2 u))
    · cases h
theorem sO : ∀ (o : Op) {X : Cx} {c : Ck} {k : Nat} {e : Option Expr}, Gd X c k → chkO c o e = true → (∀ u ∈ usesO o, Kn X k u) → PO X e (tO X.kw (denO o))
  | .no, X, c, k, e, g, h, u => by
    simp only [chkO] at h
    split at h
    · simp only [denO]; exact so_none
    · cases h
  | .yes a, X, c, k, e, g, h, u => by
    simp only [chkO] at h
    simp only [usesO] at u
    split at h
    · simp only [denO]; exact so_some (sE a g h u).1
    · cases h
theorem sC : ∀ (o : Op) {X : Cx} {c : Ck} {k : Nat} {es : List Expr}, Gd X c k → chkC c o es = true → (∀ u ∈ usesO o, Kn X k u) → PTs X es (tB' X.kw (denC o))
  | .no, X, c, k, e, g, h, u => by
    simp only [chkC] at h
    split at h
    · simp only [denC]; exact st_nil
    · cases h
  | .yes a, X, c, k, e, g, h, u => by
    simp only [chkC] at h
    simp only [usesO] at u
    split at h
    · simp only [Bool.and_eq_true] at h
      simp only [denC]; exact st_one ((sE a g h.2 u).2 h.1)
    · cases h
theorem sI : ∀ (w : Wk) {X : Cx} {c : Ck} {k : Nat} {t e : Expr}, Gd X c k → chkI c w t e = true → (∀ u ∈ usesI w, Kn X k u) → PI X t e (tI X.kw (denI w))
  | .val a, X, c, k, t, e, g, h, u => by
    simp only [chkI] at h
    simp only [usesI] at u
    simp only [denI]
    exact si_val (sE a g h u).1
  | .r1 as, X, c, k, t, e, g, h, u => by
    simp only [chkI] at h
    simp only [usesI] at u
    simp only [denI]
    split at h
    · simp only [Bool.and_eq_true, decide_eq_true_eq] at h
      obtain ⟨⟨⟨rfl, h2⟩, h3⟩, h4⟩ := h
      have ha := sEs as g h3 (us4 u)
      cases ha with
      | nil => cases h4
      | cons a1 a2 a3 a4 =>
        cases a4 with
        | nil => exact si_range1 (g.gl h2) (us3 u) (AllP.cons a1 a2 a3 .nil).pa (star1 a3)
        | cons b1 b2 b3 b4 => simp only [Es.len] at h4; omega
    · cases h
  | .r2 as, X, c, k, t, e, g, h, u => by
    simp only [chkI] at h
    simp only [usesI] at u
    simp only [denI]
    split at h
    · simp only [Bool.and_eq_true, decide_eq_true_eq] at h
      obtain ⟨⟨⟨rfl, h2⟩, h3⟩, h4⟩ := h
      have ha := sEs as g h3 (us4 u)
      cases ha with
      | nil => cases h4
      | cons a1 a2 a3 a4 =>
        cases a4 with
        | nil => simp only [Es.len] at h4; omega
        | cons b1 b2 b3 b4 =>
          cases b4 with
          | nil => exact si_range2 (g.gl h2) (us3 u) (AllP.cons a1 a2 a3 (.cons b1 b2 b3 .nil)).pa (by rw [star1 a3, star1 b3]; rfl) (star1 b3)
          | cons d1 d2 d3 d4 => simp only [Es.len] at h4; omega
    · cases h
  | .enum a, X, c, k, t, e, g, h, u => by
    simp only [chkI] at h
    simp only [usesI] at u
    simp only [denI]
    split at h
    · simp only [Bool.and_eq_true, decide_eq_true_eq] at h
      obtain ⟨⟨⟨rfl, h2⟩, h3⟩, h4⟩ := h
      exact si_enumA (g.gl h2) (us3 u) (sE a g h3 (us4 u)).1 (star1 h4)
    · cases h
  | .zip as, X, c, k, t, e, g, h, u => by
    simp only [chkI] at h
    simp only [usesI] at u
    simp only [denI]
    split at h
    · simp only [Bool.and_eq_true, decide_eq_true_eq] at h
      obtain ⟨⟨⟨rfl, h2⟩, h3⟩, h4⟩ := h
      have ha := sEs as g h3 (us4 u)
      cases ha with
      | nil => cases h4
      | cons a1 a2 a3 a4 =>
        cases a4 with
        | nil => simp only [Es.len] at h4; omega
        | cons b1 b2 b3 b4 =>
          cases b4 with
          | nil => exact si_zipT (g.gl h2) (us3 u) (AllP.cons a1 a2 a3 (.cons b1 b2 b3 .nil)).pa (star1 a3) (AllP.cons b1 b2 b3 .nil).plain
          | cons d1 d2 d3 d4 => simp only [Es.len] at h4; omega
    · cases h
theorem sG : ∀ (t : Tg) {X : Cx} {c : Ck} {k : Nat} {ws : List Nat} {e : Expr}, Gd X c k → chkG c ws t e = true → (∀ u ∈ usesG t, Kn X k u) → PG X e (tG X.kw ws (denG t))
  | .nm i, X, c, k, ws, e, g, h, u => by
    simp only [chkG] at h
    simp only [denG]
    split at h
    · simp only [Bool.and_eq_true, decide_eq_true_eq] at h
      have l := g.loc h.1.2
      exact sg_name (List.contains_iff_mem.mp h.2) (pg_name g.nd (by rw [g.N]; exact h.1.1) l.1 l.2)
    · cases h
  | .tup n ts, X, c, k, ws, e, g, h, u => by
    simp only [chkG] at h
    simp only [usesG] at u
    simp only [denG]
    split at h
    · simp only [Bool.and_eq_true, decide_eq_true_eq] at h
      have ht := sGs ts g h.1 u
      exact sg_tup g.calm ht.1 (by rw [ht.2.1, h.2]) ht.2.2
    · cases h
  | .sub o i, X, c, k, ws, e, g, h, u => by
    simp only [chkG] at h
    simp only [usesG] at u
    simp only [denG]
    split at h
    · simp only [Bool.and_eq_true] at h
      exact sg_sub (sE o g h.1.1 (us1 u)).1 (sE i g h.1.2 (us2 u)).1 (p_setA (units65 g)) (set2 h.2)
    · cases h
theorem sGs : ∀ (ts : Tgs) {X : Cx} {c : Ck} {k : Nat} {ws : List Nat} {es : List Expr}, Gd X c k → chkGs c ws ts es = true → (∀ u ∈ usesGs ts, Kn X k u) → PGs X es (tGs X.kw ws (denGs ts)) ∧ (assignEach es X.env).length = es.length ∧ (assignEach es X.env).findIdx? (·.1) = none
  | .nil, X, c, k, ws, es, g, h, u => by
    simp only [chkGs] at h
    simp only [denGs]
    split at h
    · exact ⟨sg_nil, rfl, rfl⟩
    · cases h
  | .cons t ts, X, c, k, ws, es, g, h, u => by
    simp only [chkGs] at h
    simp only [usesGs] at u
    simp only [denGs]
    split at h
    · simp only [Bool.and_eq_true] at h
      have h1 := sG t g h.1.1 (us1 u)
      have h2 := sGs ts g h.2 (us2 u)
      refine ⟨sg_cons h1 h2.1 (by rw [asn1 h.1.2]; rfl), by rw [asn1 h.1.2]; simp [h2.2.1], ?_⟩
      rw [asn1 h.1.2, List.findIdx?_cons, h2.2.2]; rfl
    · cases h
end
end Tm
namespace Tm
open PySem L2

/-! ## statements -/
section
variable {X : Cx} {c : Ck} {k : Nat}
theorem Gd.bk (g : Gd X c k) : X.env.blockKind = .function := by
  unfold Env.blockKind
  rw [g.sc, g.kind]; rfl
theorem sw0 {e : Expr} {t : Option Expr} {n : Nat} {env : Env} (h : notComp e = true) : swapsWith e t n env = pure false := by
  cases e <;> first | rfl | cases h
theorem sw1 {e t : Expr} {n : Nat} {env : Env} (h : notName t = true) (he : notComp e = true ∨ ∃ a b s p, e = .ListComp a b s p) : swapsWith e (some t) n env = pure false := by
  rcases he with he | ⟨a, b, s, p, rfl⟩
  · exact sw0 he
  · cases t <;> first | rfl | cases h
theorem sw2 {t e : Expr} {env : Env} (h : (notTuple t || notTuple e) = true) (hl : notList t = true) : swappedStores [t] e env = pure none := by
  cases t <;> first | (cases hl; done) | (cases e <;> first | rfl | cases h)
theorem swp_of {env : Env} {ts vs : List Expr} {r : Option (List Str)} {a b : Nat} {p q : Pos} (hk : env.blockKind = .function) (h : swp env.scope ts vs = some r) : swappedStores [.Tuple ts a p] (.Tuple vs b q) env = pure r := by
  unfold swp at h
  unfold swappedStores
  simp only [hk]
  show (if (!(ts.length == 2 || ts.length == 3) || vs.length != ts.length || (ScopeKind.function != ScopeKind.function)) = true then pure none else if (vs.any isStarred) = true then pure none else
    if ((swpNames env.scope ts).length != ts.length || (swpNames env.scope ts).eraseDups.length != (swpNames env.scope ts).length) = true then pure none else if vs.all (foldedForSure 8) = true then pure none else
    if vs.all (constantsAlone 8) = true then _ else pure (some (swpNames env.scope ts))) = _
  have e0 : (ScopeKind.function != ScopeKind.function) = false := rfl
  rw [e0, Bool.or_false]
  split at h
  · rename_i h1
    cases h
    rw [if_pos h1]
  · rename_i h1
    rw [if_neg h1]
    split at h
    · rename_i h2
      cases h
      rw [if_pos h2]
    · rename_i h2
      rw [if_neg h2]
      split at h
      · rename_i h3
        cases h
        rw [if_pos h3]
      · rename_i h3
        rw [if_neg h3]
        split at h
        · rename_i h4
          cases h
          rw [if_pos h4]
        · rename_i h4
          rw [if_neg h4]
          split at h
          · cases h
          · rename_i h5
            rw [if_neg h5]
            cases h; rfl
/-- a statement whose new list is laid for good -/
def fzS (t : TS) : TS := fun E σ H => t { E with nx := fun σ' H' => ∃ a xs, H' a = some (.lst xs) ∧ ∀ o, E.nx σ' (upd H' a (.frz o (.lst xs))) } σ H
theorem PS.freeze {st : Stmt} {t : TS} (h : PS X st t) : PS X st (fzS t) := by
  refine ⟨fun pins s σ H E I q => thn (h.run pins s σ H _ I q) fun fl s' z => ?_⟩
  cases fl with
  | next =>
    obtain ⟨σ', H', I', a, xs, e, q⟩ := z
    obtain ⟨o, I2⟩ := Tm.freeze I' e
    exact ⟨σ', _, I2, q o⟩
  | brk => exact z
  | cont => exact z
  | ret u => exact z
theorem ss_setLc {i : Nat} {y : Str} {py : Pos} {elt tg iter : Expr} {ifs : List Expr} {scope : Scope} {own : List (Str × Nat)} {pos spos : Pos} {mi : MI} {mg' : MG} {mt : MB} {me : M} (mut' : Bool) (g : Gd X c k) (hy : X.N[i]? = some y) (hyl : X.env.scope.names.lookup y = some .local)
    (hsw : swapsWith (.ListComp elt [⟨tg, iter, ifs, 0⟩] scope pos) (some (.Name y py)) spos.line X.env = pure true) (hi : PI X tg iter (tI X.kw mi)) (ok : BlkOk X.N X.env.scope scope own)
    (hg : ∀ (s : Shared) (H : Hp) (C : Addr) (cl : List (Str × Addr)) (fp : List Addr), PG (X.blk s H scope (compEnvC scope cl C X.env) fp) tg (tG X.kw (own.map (·.2)) mg')) (ht : ∀ (s : Shared) (H : Hp) (C : Addr) (cl : List (Str × Addr)) (fp : List Addr), PTs (X.blk s H scope (compEnvC scope cl C X.env) fp) ifs (tB' X.kw mt))
    (he : ∀ (s : Shared) (H : Hp) (C : Addr) (cl : List (Str × Addr)) (fp : List Addr), PE (X.blk s H scope (compEnvC scope cl C X.env) fp) elt (tE X.kw me)) (hs : ∀ x, foldedSetIterable iter X.env x = pure x) :
    PS X (.Assign [.Name y py] (.ListComp elt [⟨tg, iter, ifs, 0⟩] scope pos) spos) (tS X.kw (msAsg ((if mut' then mCompM else mComp) mi mg' mt me (own.map (·.2))) (gNm i))) := by
  have key := ps_setLc g.calm g.nd hy hyl hsw hi ok hg ht he hs
  cases mut' with
  | true =>
    refine PS.imp key fun E σ H ⟨ι, ρ, S, o, S', hH, hE, e, q⟩ => ?_
    unfold msAsg at e
    split at e
    · rename_i d S1 h1
      have h1 : mCompM mi mg' mt me (own.map (·.2)) ρ S = some (d, S1) := h1
      unfold mCompM at h1
      split at h1
      · rename_i acc S2 h2
        cases h1
        cases e
        exact comp_loop hH hE h2 fun ι' H' p xs w hH' hp hr => mk_aft (Q := fun x H1 => E.nx (σ.set i (some x)) H1) (fun ι2 v H2 w2 hH2 rv => q ι2 _ H2 w2 hH2 ((hE.mono w2).set i rv)) w hp hH' hr
      · cases h1
    · cases e
  | false =>
    refine PS.imp (PS.freeze key) fun E σ H ⟨ι, ρ, S, o, S', hH, hE, e, q⟩ => ?_
    unfold msAsg at e
    split at e
    · rename_i d S1 h1
      have h1 : mComp mi mg' mt me (own.map (·.2)) ρ S = some (d, S1) := h1
      unfold mComp at h1
      split at h1
      · rename_i acc S2 h2
        cases h1
        cases e
        show tLc (tI X.kw mi) (tG X.kw (own.map (·.2)) mg') (tB' X.kw mt) (tE X.kw me) (own.map (·.2)) σ H (fun x H1 => ∃ a xs, H1 a = some (.lst xs) ∧ ∀ o, E.nx (σ.set i (some x)) (upd H1 a (.frz o (.lst xs))))
        refine comp_loop hH hE h2 fun ι' H' p xs w hH' hp hr => ?_
        obtain ⟨a, ys, ea, eh, eq'⟩ := fz_aft (Q := fun x H1 => E.nx (σ.set i (some x)) H1) (fun ι2 v H2 w2 hH2 rv => q ι2 _ H2 w2 hH2 ((hE.mono w2).set i rv)) w hp hH' hr
        exact ⟨a, ys, eh, eq'⟩
      · cases h1
    · cases e
theorem notList_of {t : Tg} {ws : List Nat} {t' : Expr} (h : chkG c ws t t' = true) : notList t' = true := by
  cases t <;> cases t' <;> first | rfl | (simp only [chkG] at h; cases h)
theorem ss_asgAny {t : Tg} {e : E} {t' e' : Expr} {pos : Pos} (g : Gd X c k) (h1 : chkG c (List.range c.N.length) t t' = true) (h2 : notStar t' = true) (h3 : chk c e e' = true) (h4 : (notTuple t' || notTuple e') = true) (u : ∀ u ∈ usesG t ++ uses e, Kn X k u) :
    PS X (.Assign [t'] e' pos) (tS X.kw (msAsg (den e) (denG t))) := by
  have ha := (sE e g h3 (us2 u)).1
  have hg := sG t g h1 (us1 u)
  have hw := sw2 (env := X.env) h4 (notList_of h1)
  have h1' : (assignEach [t'] X.env).map (·.2) = [assign t' X.env] := by rw [asn1 h2]; rfl
  by_cases hc : notComp e' = true
  · exact ss_asg ha hg (sw0 hc) hw h1'
  · cases e' with
    | ListComp elt gens scope lpos =>
      by_cases hn : notName t' = true
      · exact ss_asg ha hg (sw1 hn (.inr ⟨_, _, _, _, rfl⟩)) hw h1'
      · cases t' with
        | Name y py =>
          have hs : swapsWithSole [.Name y py] (.ListComp elt gens scope lpos) pos.line X.env = pure (X.env.blockKind == .function && X.env.kindOf y == some .local && py.line == lpos.line && !(scope.names.any fun (n, k) => n == y && (k == .local || k == .cell))) := rfl
          cases hb : (X.env.blockKind == .function && X.env.kindOf y == some .local && py.line == lpos.line && !(scope.names.any fun (n, k) => n == y && (k == .local || k == .cell))) with
          | false => rw [hb] at hs; exact ss_asg ha hg hs hw h1'
          | true =>
            rw [hb] at hs
            simp only [Bool.and_eq_true] at hb
            have hyl : X.env.scope.names.lookup y = some .local := by
              have z := hb.1.1.2
              have z' : (X.env.scope.names.lookup y == some NameKind.local) = true := z
              revert z'
              cases X.env.scope.names.lookup y with
              | none => exact fun z => by cases z
              | some kd => cases kd <;> first | exact fun _ => rfl | exact fun z => by cases z
            cases t with
            | nm i =>
              simp only [chkG, Bool.and_eq_true, decide_eq_true_eq] at h1
              cases e with
              | comp mt it tg cd el own =>
                simp only [chk] at h3
                simp only [uses] at u
                have u := us2 u
                split at h3
                · rename_i elt tg' iter ifs a scope pos heq
                  cases heq
                  simp only [Bool.and_eq_true, decide_eq_true_eq] at h3
                  obtain ⟨⟨⟨⟨⟨⟨rfl, k1⟩, k2⟩, k3⟩, k4⟩, k5⟩, k6⟩ := h3
                  have bk : BlkOk X.N X.env.scope scope own := by rw [g.N, g.sc]; exact blkOk_by k3
                  have q1 := sI it g k1 (us1 u)
                  have q2 : ∀ (s : Shared) (H : Hp) (C : Addr) (cl : List (Str × Addr)) (fp : List Addr), PG (X.blk s H scope (compEnvC scope cl C X.env) fp) tg' (tG X.kw (own.map (·.2)) (denG tg)) := fun s H C cl fp => sG tg (g.blk bk.kind s H C cl fp) k4 (us1 (us2 u))
                  have q3 : ∀ (s : Shared) (H : Hp) (C : Addr) (cl : List (Str × Addr)) (fp : List Addr), PE (X.blk s H scope (compEnvC scope cl C X.env) fp) elt (tE X.kw (den el)) := fun s H C cl fp => (sE el (g.blk bk.kind s H C cl fp) k6 (us2 (us2 (us2 u)))).1
                  have q4 : ∀ (s : Shared) (H : Hp) (C : Addr) (cl : List (Str × Addr)) (fp : List Addr), PTs (X.blk s H scope (compEnvC scope cl C X.env) fp) ifs (tB' X.kw (denC cd)) := fun s H C cl fp => sC cd (g.blk bk.kind s H C cl fp) k5 (us1 (us2 (us2 u)))
                  simp only [den, denG]
                  exact ss_setLc mt g (by rw [g.N]; exact h1.1.1) hyl hs q1 bk q2 q4 q3 (set1 k2)
                · cases h3
              | _ => simp only [chk] at h3; cases h3
            | _ => simp only [chkG] at h1; cases h1
        | _ => exact absurd rfl hn
    | SetComp _ _ _ _ => cases e <;> (simp only [chk] at h3; cases h3)
    | DictComp _ _ _ _ _ => cases e <;> (simp only [chk] at h3; cases h3)
    | _ => exact absurd rfl hc
theorem dens_len {ρ : Ev} : ∀ {as : Es} {S : Sto} {ds : List D} {S' : Sto}, dens as ρ S = some (ds, S') → ds.length = as.len
  | .nil, S, ds, S', h => by
    simp only [dens, maNil] at h
    cases h; rfl
  | .cons a as, S, ds, S', h => by
    simp only [dens, maCons] at h
    split at h
    · split at h
      · rename_i h2
        cases h
        simp only [List.length_cons, Es.len]
        rw [dens_len h2]
      · cases h
    · cases h
theorem chkGs_len {ws : List Nat} : ∀ {ts : Tgs} {es : List Expr}, chkGs c ws ts es = true → es.length = ts.len
  | .nil, es, h => by
    simp only [chkGs] at h
    split at h
    · rfl
    · cases h
  | .cons t ts, es, h => by
    simp only [chkGs] at h
    split at h
    · simp only [Bool.and_eq_true] at h
      simp only [List.length_cons, Tgs.len]
      rw [chkGs_len h.2]
    · cases h
end
end Tm
namespace Tm
open PySem L2

section
variable {X : Cx} {c : Ck} {k : Nat}
theorem lk_local {sc : Scope} {x : Str} (h : (match sc.names.lookup x with | some .local => true | _ => false) = true) : sc.names.lookup x = some .local := by
  split at h
  · assumption
  · cases h
theorem swpNames_of {sc : Scope} {ts vs : List Expr} {ns : List Str} (h : swp sc ts vs = some (some ns)) : ns = swpNames sc ts ∧ (swpNames sc ts).length = ts.length ∧ vs.length = ts.length := by
  unfold swp at h
  split at h
  · cases h
  · rename_i h1
    split at h
    · cases h
    · split at h
      · cases h
      · rename_i h3
        split at h
        · cases h
        · split at h
          · cases h
          · cases h
            simp only [Bool.or_eq_true, not_or, bne_iff_ne, ne_eq, Decidable.not_not] at h1 h3
            exact ⟨rfl, h3.1, h1.2⟩
theorem swpNames_two {sc : Scope} {x y : Str} {px py : Pos} (h : (swpNames sc [.Name x px, .Name y py]).length = 2) : swpNames sc [.Name x px, .Name y py] = [x, y] := by
  unfold swpNames at h ⊢
  simp only [List.filterMap_cons, List.filterMap_nil] at h ⊢
  split at h <;> split at h <;> first | (simp at h; done) | skip
  all_goals simp_all
theorem swpNames_three {sc : Scope} {x y z : Str} {px py pz : Pos} (h : (swpNames sc [.Name x px, .Name y py, .Name z pz]).length = 3) : swpNames sc [.Name x px, .Name y py, .Name z pz] = [x, y, z] := by
  unfold swpNames at h ⊢
  simp only [List.filterMap_cons, List.filterMap_nil] at h ⊢
  split at h <;> split at h <;> split at h <;> first | (simp at h; done) | skip
  all_goals simp_all
theorem ss_parS {ts : Tgs} {es : Es} {ts' es' : List Expr} {kt k2 : Nat} {pt pt2 pos : Pos} {ns : List Str} (g : Gd X c k) (ha : AllP X es' es) (hn : allNm c ts ts' = true) (hd : (nms ts).Nodup) (hl : es.len = ts.len) (h23 : (es.len == 2 || es.len == 3) = true)
    (hw : swp c.sc ts' es' = some (some ns)) : PS X (.Assign [.Tuple ts' kt pt] (.Tuple es' k2 pt2) pos) (tS X.kw (msPar (dens es) (denGs ts))) := by
  obtain ⟨rfl, hz, hv⟩ := swpNames_of hw
  have hw' := swp_of (a := kt) (b := k2) (p := pt) (q := pt2) g.bk (by rw [g.sc]; exact hw)
  simp only [Bool.or_eq_true, beq_iff_eq] at h23
  cases ts with
  | nil => rcases h23 with z | z <;> (rw [hl] at z; cases z)
  | cons t1 ts =>
    cases ts' with
    | nil => cases t1 <;> cases hn
    | cons e1 ts' =>
    cases t1 with
    | nm i =>
      cases e1 with
      | Name x px =>
        simp only [allNm, Bool.and_eq_true, decide_eq_true_eq] at hn
        obtain ⟨⟨hi, hx⟩, hn⟩ := hn
        cases ts with
        | nil => simp only [Tgs.len] at hl; rcases h23 with z | z <;> omega
        | cons t2 ts =>
          cases ts' with
          | nil => cases t2 <;> cases hn
          | cons e2 ts' =>
          cases t2 with
          | nm j =>
            cases e2 with
            | Name y py =>
              simp only [allNm, Bool.and_eq_true, decide_eq_true_eq] at hn
              obtain ⟨⟨hj, hy⟩, hn⟩ := hn
              cases ts with
              | nil =>
                cases ts' with
                | cons _ _ => cases hn
                | nil =>
                  have hij : i ≠ j := by simp [nms] at hd; exact hd
                  rw [swpNames_two hz] at hw'
                  match es', es, ha, hl with
                  | [a, b], .cons ea (.cons eb .nil), ha, hl =>
                    refine PS.imp (ps_par g.calm g.nd (by rw [g.N]; exact hi) (by rw [g.N]; exact hj) hij (by rw [g.sc]; exact lk_local hx) (by rw [g.sc]; exact lk_local hy) ha.pa hw') fun E σ H ⟨ι, ρ, S, o, S', hH, hE, e, q⟩ => ?_
                    unfold msPar at e
                    split at e
                    · rename_i ds S1 h1
                      split at e
                      · rename_i ρ' S2 h2
                        cases e
                        refine ⟨ι, ρ, S, ds, S1, hH, hE, h1, fun ι1 vs H1 w1 hH1 rv => ?_⟩
                        have hdl := dens_len h1
                        match ds, hdl, rv, h2 with
                        | [d1, d2], _, rv, h2 =>
                          obtain ⟨v, w, rfl, r1, r2⟩ := rv.two
                          simp only [denGs, denG, gCs, gNm, gNl] at h2
                          cases h2
                          exact ⟨v, w, rfl, q ι1 _ H1 w1 hH1 (((hE.mono w1).set i r1).set j r2)⟩
                        | [], z, _, _ => cases z
                        | [_], z, _, _ => cases z
                        | _ :: _ :: _ :: _, z, _, _ => cases z
                      · cases e
                    · cases e
                  | _, .nil, _, hl => cases hl
                  | _, .cons _ .nil, _, hl => cases hl
                  | _, .cons _ (.cons _ (.cons _ _)), _, hl => simp [Es.len, Tgs.len] at hl
              | cons t3 ts =>
                cases ts' with
                | nil => cases t3 <;> cases hn
                | cons e3 ts' =>
                cases t3 with
                | nm l =>
                  cases e3 with
                  | Name zz pz =>
                    simp only [allNm, Bool.and_eq_true, decide_eq_true_eq] at hn
                    obtain ⟨⟨hll, hzz⟩, hn⟩ := hn
                    cases ts with
                    | nil =>
                      cases ts' with
                      | cons _ _ => cases hn
                      | nil =>
                        have hij : i ≠ j ∧ i ≠ l ∧ j ≠ l := by simp [nms] at hd; exact ⟨hd.1.1, hd.1.2, hd.2⟩
                        rw [swpNames_three hz] at hw'
                        match es', es, ha, hl with
                        | [a, b, c'], .cons ea (.cons eb (.cons ec .nil)), ha, hl =>
                          refine PS.imp (ps_par3 g.calm g.nd (by rw [g.N]; exact hi) (by rw [g.N]; exact hj) (by rw [g.N]; exact hll) hij.1 hij.2.1 hij.2.2 (by rw [g.sc]; exact lk_local hx) (by rw [g.sc]; exact lk_local hy) (by rw [g.sc]; exact lk_local hzz) ha.pa hw') fun E σ H ⟨ι, ρ, S, o, S', hH, hE, e, q⟩ => ?_
                          unfold msPar at e
                          split at e
                          · rename_i ds S1 h1
                            split at e
                            · rename_i ρ' S2 h2
                              cases e
                              refine ⟨ι, ρ, S, ds, S1, hH, hE, h1, fun ι1 vs H1 w1 hH1 rv => ?_⟩
                              have hdl := dens_len h1
                              match ds, hdl, vs, rv, h2 with
                              | [d1, d2, d3], _, [v, w, u], ⟨r1, r2, r3, _⟩, h2 =>
                                simp only [denGs, denG, gCs, gNm, gNl] at h2
                                cases h2
                                exact ⟨v, w, u, rfl, q ι1 _ H1 w1 hH1 ((((hE.mono w1).set i r1).set j r2).set l r3)⟩
                              | [], z, _, _, _ => cases z
                              | [_], z, _, _, _ => cases z
                              | [_, _], z, _, _, _ => cases z
                              | _ :: _ :: _ :: _ :: _, z, _, _, _ => cases z
                              | [_, _, _], _, [], rv, _ => exact rv.elim
                              | [_, _, _], _, [_], ⟨_, rv⟩, _ => exact rv.elim
                              | [_, _, _], _, [_, _], ⟨_, _, rv⟩, _ => exact rv.elim
                              | [_, _, _], _, _ :: _ :: _ :: _ :: _, ⟨_, _, _, rv⟩, _ => exact rv.elim
                            · cases e
                          · cases e
                        | _, .nil, _, hl => cases hl
                        | _, .cons _ .nil, _, hl => cases hl
                        | _, .cons _ (.cons _ .nil), _, hl => cases hl
                        | _, .cons _ (.cons _ (.cons _ (.cons _ _))), _, hl => simp [Es.len, Tgs.len] at hl
                    | cons _ _ => simp only [Tgs.len] at hl; rcases h23 with z | z <;> omega
                  | _ => cases hn
                | _ => cases hn
            | _ => cases hn
          | _ => cases hn
      | _ => cases hn
    | _ => cases hn
end
mutual
theorem sS : ∀ (a : St') {X : Cx} {c : Ck} {k : Nat} {s : Stmt}, Gd X c k → chkS c a s = true → (∀ u ∈ usesS a, Kn X k u) → PS X s (tS X.kw (denS a))
  | .pass, X, c, k, s, g, h, u => by
    simp only [chkS] at h
    simp only [denS]
    split at h
    · exact ss_pass
    · cases h
  | .brk, X, c, k, s, g, h, u => by
    simp only [chkS] at h
    simp only [denS]
    split at h
    · exact ss_break
    · cases h
  | .cont, X, c, k, s, g, h, u => by
    simp only [chkS] at h
    simp only [denS]
    split at h
    · exact ss_cont
    · cases h
  | .never, X, c, k, s, g, h, u => by
    simp only [denS]
    exact ss_never
  | .ret e, X, c, k, s, g, h, u => by
    simp only [chkS] at h
    simp only [usesS] at u
    simp only [denS]
    split at h
    · exact ss_ret (sE e g h u).1
    · cases h
  | .expr e, X, c, k, s, g, h, u => by
    simp only [chkS] at h
    simp only [usesS] at u
    simp only [denS]
    split at h
    · simp only [Bool.and_eq_true] at h
      exact ss_expr (sE e g h.1 u).1 (sw0 h.2)
    · cases h
  | .asg t e, X, c, k, s, g, h, u => by
    simp only [chkS] at h
    simp only [usesS] at u
    simp only [denS]
    split at h
    · simp only [Bool.and_eq_true] at h
      exact ss_asgAny g h.1.1.1 h.1.1.2 h.1.2 h.2 u
    · cases h
  | .par ts es, X, c, k, s, g, h, u => by
    simp only [chkS] at h
    simp only [usesS] at u
    simp only [denS]
    split at h
    · simp only [Bool.and_eq_true, decide_eq_true_eq] at h
      obtain ⟨⟨⟨⟨h1, h2⟩, h3⟩, h4⟩, h5⟩ := h
      have ha := sEs es g h2 (us2 u)
      have ht := sGs ts g h1 (us1 u)
      split at h5
      · rename_i hw
        have hn : _ = ts.len := chkGs_len h1
        exact ss_par (n := ts.len) g.calm ha.pa ht.1 (by rw [ht.2.1, hn]) ht.2.2 (by have : 20 ≤ sizeLine := by decide
                                                                                     omega) rfl (swp_of g.bk (by rw [g.sc]; exact hw)) rfl fun ρ S ds S' hd => by rw [dens_len hd, h3]
      · rename_i hw
        simp only [Bool.and_eq_true, decide_eq_true_eq] at h5
        exact ss_parS g ha h5.1.1 h5.1.2 h3 h5.2 hw
      · cases h5
    · cases h
  | .ife t a b, X, c, k, s, g, h, u => by
    simp only [chkS] at h
    simp only [usesS] at u
    simp only [denS]
    split at h
    · simp only [Bool.and_eq_true] at h
      exact ss_if ((sE t g h.1.1.2 (us1 u)).2 h.1.1.1) (sSs a g h.1.2 (us1 (us2 u))) (sSs b g h.2 (us2 (us2 u)))
    · cases h
  | .loop tg it b ws, X, c, k, s, g, h, u => by
    simp only [chkS] at h
    simp only [usesS] at u
    simp only [denS]
    split at h
    · simp only [Bool.and_eq_true] at h
      exact ss_for (by rw [g.xe]; exact PassesOwn.never) g.calm (sI it g h.1.1.2 (us1 (us2 u))) (sG tg g h.1.1.1 (us1 u)) (ss_gc ws (sSs b g h.2 (us2 (us2 u)))) (set1 h.1.2)
    · cases h
  | .whl t b ws, X, c, k, s, g, h, u => by
    simp only [chkS] at h
    simp only [usesS] at u
    simp only [denS]
    split at h
    · simp only [Bool.and_eq_true] at h
      exact ss_while (by rw [g.xe]; exact PassesOwn.never) ((sE t g h.1.2 (us1 u)).2 h.1.1) (ss_gc ws (sSs b g h.2 (us2 u)))
    · cases h
theorem sSs : ∀ (a : Ss) {X : Cx} {c : Ck} {k : Nat} {s : List Stmt}, Gd X c k → chkSs c a s = true → (∀ u ∈ usesSs a, Kn X k u) → PSs X s (tS X.kw (denSs a))
  | .nil, X, c, k, s, g, h, u => by
    simp only [chkSs] at h
    simp only [denSs]
    split at h
    · exact ss_nil
    · cases h
  | .cons a as, X, c, k, s, g, h, u => by
    simp only [chkSs] at h
    simp only [usesSs] at u
    simp only [denSs]
    split at h
    · simp only [Bool.and_eq_true] at h
      exact ss_cons (sS a g h.1 (us1 u)) (sSs as g h.2 (us2 u))
    · cases h
end
end Tm
namespace Tm
open PySem L2

/-! ## defs -/
/-- what is known of a name of the module -/
def Kw (P : Program) (w : World) (K : PySem.W.Frag) (mg : Str → Option Value) (base : Heap) (k : Nat) : Use → Prop
  | .fn x n F => ∃ f fd ps j, mg x = some (.ref f) ∧ PySem.W.keepIn K (.ref f) = true ∧ Binds K fd ps [] ∧ j ≤ k ∧ FnG P w K mg base j f fd ps (spF ⟨K, w⟩ n F) ∧ ∀ ds S z, F ds S = some z → ds.length = n
  | .con x d => GlobOk ⟨K, w⟩ mg x d
  | .dic x tbl => DictOk ⟨K, w⟩ w mg x tbl
  | .blt x => mg (Str.ofString x) = none
section
variable {P : Program} {w : World} {K : PySem.W.Frag} {mg : Str → Option Value} {base : Heap} {k : Nat}
theorem Kw.up {j : Nat} {u : Use} (h : j ≤ k) (z : Kw P w K mg base j u) : Kw P w K mg base k u := by
  cases u with
  | fn x n F =>
    obtain ⟨f, fd, ps, i, h1, h2, h3, h4, h5, h6⟩ := z
    exact ⟨f, fd, ps, i, h1, h2, h3, Nat.le_trans h4 h, h5, h6⟩
  | con _ _ => exact z
  | dic _ _ => exact z
  | blt _ => exact z
theorem usn {Q : Use → Prop} : ∀ u ∈ ([] : List Use), Q u := fun u h => by cases h
theorem usc {Q : Use → Prop} {a : Use} {l : List Use} (h : Q a) (t : ∀ u ∈ l, Q u) : ∀ u ∈ a :: l, Q u := fun u hu => by
  rcases List.mem_cons.mp hu with z | z
  · subst z; exact h
  · exact t u z
/-- a def of the row, by its text -/
theorem def_G {x qual : Str} {args : Arguments} {body : List Stmt} {scope : Scope} {f : Addr} {fd : FuncData} {N ps : List Str} {ir : Ss} (F : FunD K x qual args body scope [] [] f fd) (S : FnScope N ps scope) (hN : ps.length ≤ N.length)
    (ck : chkSs ⟨N, scope, fun _ => true⟩ ir body = true) (us : ∀ u ∈ usesSs ir, Kw P w K mg base k u) : FnG P w K mg base (k + 1) f fd ps (spF ⟨K, w⟩ ps.length (runF ps.length N.length (denSs ir))) := by
  obtain ⟨oc, od, dV, kV, doc, pm, an, cd, ct, osl, rfl, lk, hcd, hD, hK⟩ := F.ex
  rcases hD with ⟨_, rfl⟩ | ⟨e, _⟩
  · have body' : ∀ (cdv : Value) (A : Around) (outer : List Env) (s : Shared) (H : Hp) (E : XK), A.guards = some [] → Room k (A.deeper (PyProof.Rows.envOfC qual scope s.heap.objs.size f cdv)) →
        PSs (cxOf CX0 P w K mg base N qual scope f cdv A outer s H E).nox body (tS ⟨K, w⟩ (denSs ir)) := fun cdv A outer s H E hg hr =>
      sSs ir (X := (cxOf CX0 P w K mg base N qual scope f cdv A outer s H E).nox) ⟨rfl, rfl, S.nd, rfl, rfl, hg, hr, rfl, S.kind⟩ ck us
    exact fn_plain (st := .FunctionDef x args body [] none [] scope none x ⟨0, 0, 0, 0⟩) ⟨⟨oc, od, kV, doc, pm, an, cd, ct, osl, rfl, lk, hcd⟩, F.kp⟩ S hN body'
  · exact absurd rfl e
theorem def_K {x qual : Str} {args : Arguments} {body : List Stmt} {scope : Scope} {f : Addr} {fd : FuncData} {N ps : List Str} {ir : Ss} (F : FunD K x qual args body scope [] [] f fd) (S : FnScope N ps scope) (hN : ps.length ≤ N.length)
    (ck : chkSs ⟨N, scope, fun _ => true⟩ ir body = true) (us : ∀ u ∈ usesSs ir, Kw P w K mg base k u) (hm : mg x = some (.ref f)) (hb : Binds K fd ps []) : Kw P w K mg base (k + 1) (.fn x ps.length (lcall (runF ps.length N.length (denSs ir)))) :=
  ⟨f, fd, ps, k + 1, hm, F.kp, hb, Nat.le_refl _, (def_G F S hN ck us).loc, lcall_len fun _ _ _ h => runF_len h⟩
end
/-! ## the module's constants -/
mutual
def dataB (K : PySem.W.Frag) : PyData → Value → Bool
  | .none, u => (match u with | .none => true | _ => false)
  | .bool b, u => (match u with | .bool c => decide (b = c) | _ => false)
  | .int i, u => (match u with | .int j _ => decide (i = j) | _ => false)
  | .str x, u => (match u with | .str y _ => decide (x = y) | _ => false)
  | .tuple ds, u => (match u with
    | .ref a => (match K.lookup a with
      | some ⟨.type c, none, .seq its _, _⟩ => decide (c = "tuple") && decide (its.toList.length ≤ 1000) && datasB K ds its.toList
      | _ => false)
    | _ => false)
  | .list _, _ => false
  | .dict _, _ => false
def datasB (K : PySem.W.Frag) : List PyData → List Value → Bool
  | [], us => (match us with | [] => true | _ => false)
  | d :: ds, us => (match us with | u :: r => dataB K d u && datasB K ds r | [] => false)
end
mutual
theorem dataB_ok {K : PySem.W.Frag} {w : World} : ∀ (d : PyData) (u : Value), dataB K d u = true → ∃ v, RelV v u ∧ ∀ H, Rp ⟨K, w⟩ H v d
  | .none, u, h => by
    simp only [dataB] at h
    split at h
    · exact ⟨.non, rfl, fun H => .non⟩
    · cases h
  | .bool b, u, h => by
    simp only [dataB] at h
    split at h
    · rw [of_decide_eq_true h]; exact ⟨.bl _, rfl, fun H => .bl _⟩
    · cases h
  | .int b, u, h => by
    simp only [dataB] at h
    split at h
    · rw [of_decide_eq_true h]; exact ⟨.int _, ⟨_, rfl⟩, fun H => .int _⟩
    · cases h
  | .str b, u, h => by
    simp only [dataB] at h
    split at h
    · rw [of_decide_eq_true h]; exact ⟨.str _, ⟨_, rfl⟩, fun H => .str _⟩
    · cases h
  | .tuple ds, u, h => by
    simp only [dataB] at h
    split at h
    · rename_i a
      split at h
      · rename_i c its n sl hl
        simp only [Bool.and_eq_true, decide_eq_true_eq] at h
        obtain ⟨⟨rfl, h2⟩, h3⟩ := h
        obtain ⟨vs, r1, r2⟩ := datasB_ok ds its.toList h3
        exact ⟨.ref a, rfl, fun H => .tup (.inr ⟨_, its, n, hl, rfl, rfl, rfl, by have := small1000 h2; simpa using Nat.le_of_lt this, r1⟩) (r2 H)⟩
      · cases h
    · cases h
  | .list _, u, h => by cases h
  | .dict _, u, h => by cases h
theorem datasB_ok {K : PySem.W.Frag} {w : World} : ∀ (ds : List PyData) (us : List Value), datasB K ds us = true → ∃ vs, Vals vs us ∧ ∀ H, RpA ⟨K, w⟩ H vs ds
  | [], us, h => by
    simp only [datasB] at h
    split at h
    · exact ⟨[], .nil, fun H => .nil⟩
    · cases h
  | d :: ds, us, h => by
    simp only [datasB] at h
    split at h
    · rename_i u r
      simp only [Bool.and_eq_true] at h
      obtain ⟨v, r1, r2⟩ := dataB_ok d u h.1
      obtain ⟨vs, s1, s2⟩ := datasB_ok ds r h.2
      exact ⟨v :: vs, .cons r1 s1, fun H => .cons (r2 H) (s2 H)⟩
    · cases h
end
theorem lk_mem {α : Type} {y : Str} {d : α} : ∀ {l : List (Str × α)}, l.lookup y = some d → (y, d) ∈ l
  | [], h => by cases h
  | (x, e) :: r, h => by
    rw [List.lookup_cons] at h
    split at h
    · rename_i q
      cases h
      rw [beq_iff_eq.mp q]
      exact List.mem_cons_self ..
    · exact List.mem_cons_of_mem _ (lk_mem h)
def conB (K : PySem.W.Frag) (x : Str) (d : PyData) : Bool := match PySem.W.nsIn K mainGlobals x with
  | some (some u) => dataB K d u
  | _ => false
def dicB (K : PySem.W.Frag) (x : Str) (tbl : List (Str × PyData)) : Bool := tbl.all fun q => match PySem.W.nsIn K (He.ga K x) q.1 with
  | some (some u) => dataB K q.2 u
  | _ => false
section
variable {K : PySem.W.Frag} {h : Heap} {mg : Str → Option Value} {w : World}
theorem conB_ok {x : Str} {d : PyData} (X : K.In h) (G : h.Ns mainGlobals mg) (c : conB K x d = true) : GlobOk ⟨K, w⟩ mg x d := by
  unfold conB at c
  split at c
  · rename_i u e
    obtain ⟨v, r1, r2⟩ := dataB_ok d u c
    exact ⟨v, u, PySem.W.mg_of X G e, r1, r2⟩
  · cases c
theorem dicB_ok {x : Str} {tbl : List (Str × PyData)} (c : dicB K x tbl = true) (hm : mg x = some (.ref (He.ga K x))) (kd : ∃ es n, KDict K w (He.ga K x) es n) : DictOk ⟨K, w⟩ w mg x tbl := by
  refine ⟨_, hm, fun y d e => ?_⟩
  have hmem : (y, d) ∈ tbl := lk_mem e
  have c' := List.all_eq_true.mp c _ hmem
  obtain ⟨es, n, kd⟩ := kd
  split at c'
  · rename_i u eu
    obtain ⟨v, r1, r2⟩ := dataB_ok d u c'
    exact ⟨v, ⟨es, n, u, kd.at_, kd.lit, eu, r1⟩, r2⟩
  · cases c'
end
/-- a Hook with a look of one's own -/
def hookX (n : Nat) (fa : List He.Fa) (fn : List He.DefD) (ts : List He.Tab) (ck : PySem.W.Frag → Bool) : PySem.W.Hook where
  α := He.AlT × Bool
  obs := fun s => (He.obsTG n fa fn ts s.heap.get?, ck (He.frG s.heap.get? (He.asD s.heap.get? n)))
  val := fun w => (He.valT fn ts w, true)
  says := fun w h => ∃ K : PySem.W.Frag, K.In h ∧ He.SaysT fa fn ts w K ∧ ck K = true
  of := fun _ _ e => ⟨_, He.frG_in, congrArg (fun z : He.AlT × Bool => z.1) e, congrArg (fun z : He.AlT × Bool => z.2) e⟩
  keeps := fun _ _ _ ⟨K, hK, c⟩ k => ⟨K, PySem.W.Frag.In.keeps hK k, c⟩
def obsX (n : Nat) (fa : List He.Fa) (fn : List He.DefD) (ts : List He.Tab) (ck : PySem.W.Frag → Bool) (g : Addr → Option Obj) : He.AlT × Bool := (He.obsTG n fa fn ts g, ck (He.frG g (He.asD g n)))
theorem obsX_eq {n : Nat} {fa : List He.Fa} {fn : List He.DefD} {ts : List He.Tab} {ck : PySem.W.Frag → Bool} {g : Addr → Option Obj} {s : Shared} (h : ∀ a, g a = s.heap.get? a) : obsX n fa fn ts ck g = (hookX n fa fn ts ck).obs s := by
  have e : g = s.heap.get? := funext h
  rw [e]; rfl
/-! ## the law's own def, from the caller -/
theorem law_G {P : Program} {w : World} {K : PySem.W.Frag} {mg mb : Str → Option Value} {k : Nat} {fa a : Addr} {fd : FuncData} {x : Str} {sp : Sp} {s1 : Shared} {us : List Value} {ns : List Int}
    (inK : K.In s1.heap) (nsG : s1.heap.Ns mainGlobals mg) (nsB : s1.heap.Ns builtinsNs mb) (bb : ∀ y : Str, y ≠ "__name__" → mb y = bootBuiltins y) (nl : s1.heap.NoLimit) (g0 : s1.gens = #[])
    (obj : s1.heap.get? a = some { cls := .type "list", data := .seq us.toArray }) (hia : PyProof.Rows.IntsAre us ns) (len : ns.length ≤ sizeLine) (room : Room k callerA)
    (prom : ∀ base : Heap, K.In base → base.Ns mainGlobals mg → FnG P w K mg base k fa fd [x] sp) (bind : ∀ (s : Shared) (u : Value), BindsTo s fd ⟨[u], []⟩ [(x, u)])
    (plain : ∀ H : Hp, Rp ⟨K, w⟩ H (.ref a) (.list (ns.map .int)) → HR ⟨K, w⟩ H [] [] → sp [.ref a] H (fun v _ => v = .bl true) fun _ _ _ => False) :
    codeAny (model P w) callerA (.call (.ref fa) ⟨[.ref a], []⟩) (fun r s' => r = .ok (.ret (.bool true)) ∧ OldK s1.heap s'.heap ∧ s'.os = s1.os ∧ PyProof.Rows.AllBare s'.gens) s1 := by
  have rvs := vals_ints hia
  have lenU := hia.length
  have rps : ∀ H, RpA ⟨K, w⟩ H (ns.map V.int) (ns.map PyData.int) := fun H => by
    clear rvs lenU len plain hia
    induction ns with
    | nil => exact .nil
    | cons n r ih => exact .cons (.int n) ih
  have go : ∀ H : Hp, Only H → LstS ⟨K, w⟩ H a (ns.map V.int) → HOk P w H s1.heap → (∀ b, H b ≠ none → b = a) → (H a ≠ none → K.lookup a = none) →
      codeAny (model P w) callerA (.call (.ref fa) ⟨[.ref a], []⟩) (fun r s' => r = .ok (.ret (.bool true)) ∧ OldK s1.heap s'.heap ∧ s'.os = s1.os ∧ PyProof.Rows.AllBare s'.gens) s1 := by
    intro H only script okH onlyA notK
    have hid : ∀ {b : Addr} {o : Obj}, s1.heap.get? b = some o → H b = none → (hidT s1.heap H).get? b = some o := fun e n => hidT_get e n
    have noDict : ∀ {b : Addr} {o : Obj} {es : Array DictEntry} {ep : Nat}, s1.heap.get? b = some o → o.data = .dict es ep → H b = none := fun {b o es ep} e d => by
      cases q : H b with
      | none => rfl
      | some z =>
        have eb : b = a := onlyA b (by rw [q]; simp)
        rw [eb, obj] at e
        cases e
        have d' : Data.seq us.toArray _ = Data.dict es ep := d
        cases d'
    have nsH : ∀ {b : Addr} {m : Str → Option Value}, s1.heap.Ns b m → (hidT s1.heap H).Ns b m := fun {b m} ⟨o, es, ep, e, d, r⟩ => ⟨o, es, ep, hid e (noDict e d), d, r⟩
    have baseK : K.In (hidT s1.heap H) := fun b o e => hid (inK b o e) (by
      cases q : H b with
      | none => rfl
      | some z =>
        have eb : b = a := onlyA b (by rw [q]; simp)
        rw [eb, notK (by rw [← eb, q]; simp)] at e
        cases e)
    have modB : Mod K mg (hidT s1.heap H) := ⟨baseK, nsH nsG, ⟨mb, nsH nsB, bb⟩, let ⟨mc, h1, h2⟩ := nl; ⟨mc, nsH h1, h2⟩⟩
    have e0 : Env0 P w K mg (hidT s1.heap H) callerA [] s1 H := ⟨rfl, modB, fun b o e => of_hidT e, Nat.le_of_eq (hidT_size _ _), trivial, fun b hb => absurd (show b ∈ ([] : List Addr) from hb) (by simp), okH, .of_eq g0⟩
    have hr0 : HR ⟨K, w⟩ H [] [] := ⟨rfl, List.nodup_nil, fun n b ob e1 _ => by simp at e1⟩
    refine codeAny_mono ((prom _ baseK (nsH nsG)).run callerA [] s1 H ⟨[.ref a], []⟩ [.ref a] [.ref a] _ _ rfl room e0 (bind s1 (.ref a)) (.cons rfl .nil) (plain H (.lst script (rps H)) hr0)) fun r s' hh => ?_
    cases r with
    | error e => exact False.elim hh
    | ok fl =>
      cases fl with
      | next => exact hh.elim
      | brk => exact hh.elim
      | cont => exact hh.elim
      | ret z =>
        obtain ⟨v, H', os, bare, un, ok', rz, qv⟩ := hh
        have qv' : v = .bl true := qv
        subst qv'
        obtain rfl : z = Value.bool true := rz
        refine ⟨rfl, OldK.of_keep fun b o e => ?_, os, bare⟩
        cases q : H b with
        | none => exact un.keep b o e q (by intro y; exact absurd (show b ∈ ([] : List Addr) from y) (by simp)) (by simp)
        | some z =>
          rcases only b with y | ⟨ob, xs, y⟩
          · rw [q] at y; cases y
          · have y2 := un.frzs b ob _ y
            obtain ⟨e1, _⟩ := okH b _ y
            obtain ⟨e2, _⟩ := ok' b _ y2
            rw [e] at e1; cases e1
            exact e2
  cases hk : K.lookup a with
  | some o =>
    have e := inK a o hk
    rw [obj] at e
    cases e
    exact go (fun _ => none) (fun _ => .inl rfl) (.inr ⟨us, _, hk, by rw [List.length_map]; exact len, rvs⟩) (fun b u z => by cases (show (none : Option HO) = some u from z)) (fun b z => absurd rfl z) fun z => absurd rfl z
  | none =>
    refine go (fun b => if b = a then some (.frz { cls := .type "list", data := .seq us.toArray } (.lst (ns.map V.int))) else none) (fun b => ?_) (.inl ⟨{ cls := .type "list", data := .seq us.toArray }, if_pos rfl⟩) (fun b u z => ?_) (fun b z => ?_) fun _ => hk
    · by_cases hb : b = a
      · exact .inr ⟨_, _, if_pos hb⟩
      · exact .inl (if_neg hb)
    · by_cases hb : b = a
      · cases (if_pos hb).symm.trans z
        subst hb
        exact ⟨obj, by rw [List.length_map]; exact len, us, _, rvs, obj⟩
      · cases (if_neg hb).symm.trans z
    · by_cases hb : b = a
      · exact hb
      · exact absurd (if_neg hb) z
/-- the end: the law's function of plain data answers True at every script -/
theorem walk_G {l : PySem.W.OpenLaw} {n k : Nat} {q : Program} {loose : List Str} {XP : (Str → Option Value) → Heap → Prop} {YP : World → Heap → Prop} {d : DefRec} {x : Str} {F : List D → Sto → Rs D}
    (hn : l.most = some n) (hn2 : n ≤ sizeLine) (hdf : d.params.defaults = []) (room : Room k callerA)
    (facts : ∀ (w : World) (mg : Str → Option Value) (fa : Addr) (h : Heap), YP w h → h.Ns mainGlobals mg → mg d.name = some (.ref fa) →
      ∃ (K : PySem.W.Frag) (fd : FuncData), K.In h ∧ (∀ (s : Shared) (u : Value), BindsTo s fd ⟨[u], []⟩ [(x, u)]) ∧ ∀ base : Heap, K.In base → base.Ns mainGlobals mg → FnG l.prog w K mg base k fa fd [x] (spF ⟨K, w⟩ 1 F))
    (law : ∀ ns : List Int, ns.length ≤ n → ∃ S, F [.p (.list (ns.map .int))] [] = some (.p (.bool true), S)) :
    PySem.W.WalkO q loose XP YP l.row.toRowW d [] (fun f vs => PySem.call f vs) := by
  refine Att.attach_call hn hdf fun w s0 s1 mg mb fa o pm cd doc a us ns G Y ho hd hcd hmg hobj hints hlen hg => ?_
  obtain ⟨K, fd, inK, hb, hF⟩ := facts w mg fa _ Y G.T.g hmg
  refine law_G inK G.T.g G.T.b G.T.builtins G.T.nolimit hg hobj hints (Nat.le_trans hlen hn2) room hF hb fun H r h0 => ?_
  obtain ⟨S, e⟩ := law ns hlen
  refine ⟨[], [], [.p (.list (ns.map .int))], _, S, h0, ⟨r, trivial⟩, rfl, e, fun ι' v H' _ _ rv => bl_of rv⟩
end Tm
namespace Tm
open PySem L2

/-! ## running a text forward: what must hold so that it ends in Q -/
/-- it ends, and in Q -/
def Ok {α : Type} (r : Option (α × Sto)) (Q : α → Sto → Prop) : Prop := ∃ a S, r = some (a, S) ∧ Q a S
theorem Ok.imp {α : Type} {r : Option (α × Sto)} {Q R : α → Sto → Prop} (h : Ok r Q) (i : ∀ a S, Q a S → R a S) : Ok r R := let ⟨a, S, e, q⟩ := h; ⟨a, S, e, i a S q⟩
/-- a step of its own: a primitive, a call -/
structure AP {α : Type} (r : Option (α × Sto)) (Q : α → Sto → Prop) : Prop where
  ok : Ok r Q
structure AS (r : Option Sto) (Q : Sto → Prop) : Prop where
  ok : ∃ S, r = some S ∧ Q S
/-- a branch -/
structure BR (b : Bool) (A B : Prop) : Prop where
  t : b = true → A
  f : b = false → B
theorem BR.T {b : Bool} {A B : Prop} (h : b = true) (a : A) : BR b A B := ⟨fun _ => a, fun e => by rw [h] at e; cases e⟩
theorem BR.F {b : Bool} {A B : Prop} (h : b = false) (a : B) : BR b A B := ⟨fun e => (by rw [h] at e; cases e), fun _ => a⟩
/-! lists as they are written -/
def nrmN : Nat → (Nat → Prop) → Prop
  | 0, k => k 0
  | 1, k => k 1
  | 2, k => k 2
  | 3, k => k 3
  | 4, k => k 4
  | n, k => k n
def nrmD : D → (D → Prop) → Prop
  | .p d, k => k (.p d)
  | .r n, k => nrmN n fun m => k (.r m)
def nrmS : Sto → (Sto → Prop) → Prop
  | [], k => k []
  | o :: S, k => nrmS S fun S' => k (o :: S')
def nrmE : Ev → (Ev → Prop) → Prop
  | [], k => k []
  | none :: S, k => nrmE S fun S' => k (none :: S')
  | some d :: S, k => nrmD d fun d' => nrmE S fun S' => k (some d' :: S')
def nrmO : Option D → (Option D → Prop) → Prop
  | none, k => k none
  | some d, k => k (some d)
def setE : Ev → Nat → D → (Ev → Prop) → Prop
  | [], _, _, k => k []
  | _ :: ρ, 0, d, k => k (some d :: ρ)
  | x :: ρ, i + 1, d, k => setE ρ i d fun ρ' => k (x :: ρ')
theorem nrmN_iff {n : Nat} {k : Nat → Prop} : nrmN n k ↔ k n := by unfold nrmN; split <;> rfl
theorem nrmD_iff {d : D} {k : D → Prop} : nrmD d k ↔ k d := by
  cases d with
  | p d => rfl
  | r n => exact nrmN_iff
theorem nrmS_iff : ∀ {S : Sto} {k : Sto → Prop}, nrmS S k ↔ k S
  | [], k => Iff.rfl
  | o :: S, k => nrmS_iff (S := S)
theorem nrmE_iff : ∀ {S : Ev} {k : Ev → Prop}, nrmE S k ↔ k S
  | [], k => Iff.rfl
  | none :: S, k => nrmE_iff (S := S)
  | some d :: S, k => by
    unfold nrmE
    rw [nrmD_iff]
    exact nrmE_iff (S := S)
theorem setE_iff : ∀ {ρ : Ev} {i : Nat} {d : D} {k : Ev → Prop}, setE ρ i d k ↔ k (ρ.set i (some d))
  | [], _, _, _ => Iff.rfl
  | _ :: ρ, 0, _, _ => Iff.rfl
  | x :: ρ, i + 1, d, k => setE_iff (ρ := ρ) (i := i)
theorem AP.of {r : Rs D} {Q : D → Sto → Prop} {d : D} {S : Sto} (h : r = some (d, S)) (q : nrmD d fun d' => nrmS S fun S' => Q d' S') : AP r Q := ⟨⟨d, S, h, nrmS_iff.mp (nrmD_iff.mp q)⟩⟩
theorem AP.to {α : Type} {r : Option (α × Sto)} {Q : α → Sto → Prop} {d : α} {S : Sto} (h : r = some (d, S)) (q : Q d S) : AP r Q := ⟨⟨d, S, h, q⟩⟩
theorem AP.src {r : Option (Src × Sto)} {Q : Src → Sto → Prop} {d : Src} {S : Sto} (h : r = some (d, S)) (q : nrmS S fun S' => Q d S') : AP r Q := ⟨⟨d, S, h, nrmS_iff.mp q⟩⟩
theorem AS.of {r : Option Sto} {Q : Sto → Prop} {S : Sto} (h : r = some S) (q : nrmS S Q) : AS r Q := ⟨⟨S, h, nrmS_iff.mp q⟩⟩
/-! loops, comprehensions -/
structure WL (tg : Tg) (ws : List Nat) (b : Ss) (xs : List Itm) (ρ : Ev) (S : Sto) (Q : Out → Sto → Prop) : Prop where
  ok : Ok (forL (denG tg) (msGc ws (denSs b)) xs ρ S) Q
structure WR (tg : Tg) (ws : List Nat) (b : Ss) (n f i : Nat) (ρ : Ev) (S : Sto) (Q : Out → Sto → Prop) : Prop where
  ok : Ok (forR (denG tg) (msGc ws (denSs b)) n f i ρ S) Q
structure WH (c : E) (ws : List Nat) (b : Ss) (f : Nat) (ρ : Ev) (S : Sto) (Q : Out → Sto → Prop) : Prop where
  ok : Ok (whileN (denT c) (msGc ws (denSs b)) f ρ S) Q
structure WK (tg : Tg) (c : Op) (e : E) (ρ : Ev) (xs : List Itm) (acc : List PyData) (S : Sto) (Q : List PyData → Sto → Prop) : Prop where
  ok : Ok (compL (denG tg) (denC c) (den e) ρ xs acc S) Q
structure WKR (tg : Tg) (c : Op) (e : E) (ρ : Ev) (n f i : Nat) (acc : List PyData) (S : Sto) (Q : List PyData → Sto → Prop) : Prop where
  ok : Ok (compR (denG tg) (denC c) (den e) ρ n f i acc S) Q
abbrev Wv := Ev → Sto → (D → Sto → Prop) → Prop
abbrev Wb := Ev → Sto → (Bool → Sto → Prop) → Prop
abbrev Wa := Ev → Sto → (List D → Sto → Prop) → Prop
abbrev Wo := Ev → Sto → (Option Int → Sto → Prop) → Prop
abbrev Wi := Ev → Sto → (Src → Sto → Prop) → Prop
abbrev Wg := Itm → Ev → Sto → (Ev → Sto → Prop) → Prop
abbrev Wgs := List D → Ev → Sto → (Ev → Sto → Prop) → Prop
abbrev Ws := Ev → Sto → (Out → Sto → Prop) → Prop
def wVar (i : Nat) : Wv := fun ρ S Q => match ρ[i]? with
  | some (some d) => Q d S
  | _ => False
def wC (d : PyData) : Wv := fun _ S Q => Q (.p d) S
def w1 (f : D → Sto → Rs D) (a : Wv) : Wv := fun ρ S Q => a ρ S fun x S1 => AP (f x S1) Q
def w2 (f : D → D → Sto → Rs D) (a b : Wv) : Wv := fun ρ S Q => a ρ S fun x S1 => b ρ S1 fun y S2 => AP (f x y S2) Q
def waNil : Wa := fun _ S Q => Q [] S
def waCons (a : Wv) (r : Wa) : Wa := fun ρ S Q => a ρ S fun x S1 => r ρ S1 fun xs S2 => Q (x :: xs) S2
def wN (f : List D → Sto → Rs D) (as : Wa) : Wv := fun ρ S Q => as ρ S fun ds S1 => AP (f ds S1) Q
def wMt (T : String) (f : D → List D → Sto → Rs D) (o : Wv) (as : Wa) : Wv := fun ρ S Q => o ρ S fun x S1 => match recvB T x S1 with
  | true => as ρ S1 fun ds S2 => AP (f x ds S2) Q
  | false => False
def wIdx (o : Wv) (as : Wa) : Wv := fun ρ S Q => o ρ S fun x S1 => match dataOf x S1 with
  | some (.tuple _) => as ρ S1 fun ds S2 => AP (gIndexT x ds S2) Q
  | some (.list _) => as ρ S1 fun ds S2 => AP (gIndex x ds S2) Q
  | some (.str _) => as ρ S1 fun ds S2 => AP (gIndexS x ds S2) Q
  | _ => False
def wbV (a : Wv) : Wb := fun ρ S Q => a ρ S fun d S1 => match d with
  | .p (.bool b) => Q b S1
  | _ => False
def wbNot (a : Wb) : Wb := fun ρ S Q => a ρ S fun b S1 => Q (!b) S1
def wbAnd (a b : Wb) : Wb := fun ρ S Q => a ρ S fun x S1 => BR x (b ρ S1 Q) (Q false S1)
def wbOr (a b : Wb) : Wb := fun ρ S Q => a ρ S fun x S1 => BR x (Q true S1) (b ρ S1 Q)
def wAnd (a b : Wv) : Wv := fun ρ S Q => a ρ S fun d S1 => match d with
  | .p (.bool x) => BR x (b ρ S1 Q) (Q (.p (.bool false)) S1)
  | _ => False
def wOr (a b : Wv) : Wv := fun ρ S Q => a ρ S fun d S1 => match d with
  | .p (.bool x) => BR x (Q (.p (.bool true)) S1) (b ρ S1 Q)
  | _ => False
def wIf (c : Wb) (a b : Wv) : Wv := fun ρ S Q => c ρ S fun x S1 => BR x (a ρ S1 Q) (b ρ S1 Q)
def wChain (f g : D → D → Sto → Rs D) (a b c : Wv) : Wv := fun ρ S Q => a ρ S fun x S1 => b ρ S1 fun y S2 => AP (f x y S2) fun d S3 => match d with
  | .p (.bool k) => BR k (c ρ S3 fun z S4 => AP (g y z S4) Q) (Q (.p (.bool false)) S3)
  | _ => False
def woNone : Wo := fun _ S Q => Q none S
def woSome (a : Wv) : Wo := fun ρ S Q => a ρ S fun d S1 => match d with
  | .p (.int i) => Q (some i) S1
  | _ => False
def wSl (a : Wv) (lo hi : Wo) : Wv := fun ρ S Q => a ρ S fun x S1 => lo ρ S1 fun l S2 => hi ρ S2 fun h S3 => AP (gSl x l h S3) Q
def rngD (kd : Nat) (ds : List D) (S : Sto) : Rs D := mMade kd (mRg fun _ S => some (ds, S)) [] S
def newD (t : Bool) (S : Sto) : Rs D := some (.r S.length, S ++ [if t then .dtu [] else .dct []])
def valI (d : D) (S : Sto) : Rs Src := iVal (fun _ S => some (d, S)) [] S
def r1I (ds : List D) (S : Sto) : Rs Src := iRange1 (fun _ S => some (ds, S)) [] S
def r2I (ds : List D) (S : Sto) : Rs Src := iRange2 (fun _ S => some (ds, S)) [] S
def enI (d : D) (S : Sto) : Rs Src := iEnum (fun _ S => some (d, S)) [] S
def zpI (ds : List D) (S : Sto) : Rs Src := iZipT (fun _ S => some (ds, S)) [] S
def wI1 (f : D → Sto → Rs Src) (a : Wv) : Wi := fun ρ S Q => a ρ S fun d S1 => AP (f d S1) Q
def wIN (f : List D → Sto → Rs Src) (a : Wa) : Wi := fun ρ S Q => a ρ S fun d S1 => AP (f d S1) Q
def wgNm (i : Nat) : Wg := fun it ρ S Q => match it with
  | .one d => setE ρ i d fun ρ' => Q ρ' S
  | .row _ => False
def wgNl : Wgs := fun ds ρ S Q => match ds with
  | [] => Q ρ S
  | _ => False
def wgCs (g : Wg) (r : Wgs) : Wgs := fun ds ρ S Q => match ds with
  | d :: ds => g (.one d) ρ S fun ρ1 S1 => r ds ρ1 S1 Q
  | [] => False
def wgTp (n : Nat) (r : Wgs) : Wg := fun it ρ S Q => match it with
  | .one d => (match itemsOf d S with
    | some xs => if xs.length = n then r (xs.map .p) ρ S Q else False
    | none => False)
  | .row ds => if ds.length = n then r ds ρ S Q else False
def wgSb (f : D → D → D → Sto → Option Sto) (o i : Wv) : Wg := fun it ρ S Q => match it with
  | .one d => o ρ S fun x S1 => i ρ S1 fun y S2 => AS (f x y d S2) fun S3 => Q ρ S3
  | .row _ => False
/-- what a comprehension makes -/
def wMk (mt : Bool) (acc : List PyData) (S : Sto) (Q : D → Sto → Prop) : Prop := match mt with
  | true => nrmD (.r S.length) fun d => nrmS (S ++ [.lst acc]) fun S' => Q d S'
  | false => Q (.p (.list acc)) S
def binK (o : Bin) (k : (D → D → Sto → Rs D) → Prop) : Prop := match o with
  | .add => k gAdd | .sub => k gSub | .mul => k gMulX | .div => k gDiv | .mod => k gMod | .pow => k gPow
theorem binK_iff {o : Bin} {k : (D → D → Sto → Rs D) → Prop} : binK o k ↔ k o.fn := by cases o <;> rfl
def cmK (o : Cm) (k : (D → D → Sto → Rs D) → Prop) : Prop := match o with
  | .eq => k gEq | .ne => k gNe | .lt => k gLess | .le => k gLe | .gt => k gGt | .ge => k gGe | .is => k gIs | .isnot => k gIsNot | .isin => k gInA | .notin => k gNotInA
theorem cmK_iff {o : Cm} {k : (D → D → Sto → Rs D) → Prop} : cmK o k ↔ k o.fn := by cases o <;> rfl
def prK (o : Pr) (k : (List D → Sto → Rs D) → Prop) : Prop := match o with
  | .len => k gLen | .max2 => k gMax | .min2 => k gMin | .max1 => k gMax1 | .min1 => k gMin1 | .int => k gInt | .all => k gAll | .any => k gAny | .sum => k gSum
  | .tuple => k gTupleOf | .list => k gListOf | .listM => k gListOfM | .sorted => k gSortedX | .sortedM => k gSortedM | .repr => k gRepr
theorem prK_iff {o : Pr} {k : (List D → Sto → Rs D) → Prop} : prK o k ↔ k o.fn := by cases o <;> rfl
def mtK (o : Mt) (k : (D → List D → Sto → Rs D) → Prop) : Prop := match o with
  | .append => k gAppend | .pop => k gPop | .extend => k gExtend | .indexS => k gIndexS | .index => k gIndex | .indexT => k gIndexT | .join => k gJoin
theorem mtK_iff {o : Mt} {k : (D → List D → Sto → Rs D) → Prop} : mtK o k ↔ k o.fn := by cases o <;> rfl
mutual
def wE : E → Wv
  | .var i => wVar i
  | .int i => wC (.int i)
  | .bl b => wC (.bool b)
  | .non => wC .none
  | .str x => wC (.str x)
  | .glob _ d => wC d
  | .bin o a b => fun ρ S Q => binK o fun f => w2 f (wE a) (wE b) ρ S Q
  | .cmp o a b => fun ρ S Q => cmK o fun f => w2 f (wE a) (wE b) ρ S Q
  | .chn o p a b c => fun ρ S Q => cmK o fun f => cmK p fun g => wChain f g (wE a) (wE b) (wE c) ρ S Q
  | .neg a => w1 gNeg (wE a)
  | .not a => w1 gNot (wE a)
  | .and as => wEAnd as
  | .or as => wEOr as
  | .ife c a b => wIf (wT c) (wE a) (wE b)
  | .call _ _ F as => wN F (wEs as)
  | .prim p as => fun ρ S Q => prK p fun f => wN f (wEs as) ρ S Q
  | .isa a T => w1 (gIsa T) (wE a)
  | .meth m o as => fun ρ S Q => mtK m fun f => wMt m.ty f (wE o) (wEs as) ρ S Q
  | .idx o as => wIdx (wE o) (wEs as)
  | .ix a b => w2 gIxA (wE a) (wE b)
  | .rng kd as => wN (rngD kd) (wEs as)
  | .dnew t => fun _ S Q => AP (newD t S) Q
  | .ddsp ks vs => wN (gDisp ks) (wEs vs)
  | .sl a lo hi => wSl (wE a) (wO lo) (wO hi)
  | .rev a => w1 gRev (wE a)
  | .dix _ tbl b => w1 (gDix tbl) (wE b)
  | .tup as => wN gTuple (wEs as)
  | .lst mt as => match mt with
    | true => wN gListM (wEs as)
    | false => wN gList (wEs as)
  | .comp mt it tg c e own => fun ρ S Q => wI it ρ S fun src S1 => nrmE (wipeE ρ (own.map (·.2))) fun ρ' => match src with
    | .its xs => WK tg c e ρ' xs [] S1 fun acc S2 => wMk mt acc S2 Q
    | .lst n => WKR tg c e ρ' n cap 0 [] S1 fun acc S2 => wMk mt acc S2 Q
def wEs : Es → Wa
  | .nil => waNil
  | .cons a as => waCons (wE a) (wEs as)
def wEAnd : Es → Wv
  | .nil => fun _ _ _ => False
  | .cons a as => match as with
    | .nil => wE a
    | .cons _ _ => wAnd (wE a) (wEAnd as)
def wEOr : Es → Wv
  | .nil => fun _ _ _ => False
  | .cons a as => match as with
    | .nil => wE a
    | .cons _ _ => wOr (wE a) (wEOr as)
def wT : E → Wb
  | .not a => wbNot (wT a)
  | .and as => wTAnd as
  | .or as => wTOr as
  | .var i => wbV (wVar i)
  | .bl b => wbV (wC (.bool b))
  | .glob _ d => wbV (wC d)
  | .cmp o a b => fun ρ S Q => cmK o fun f => wbV (w2 f (wE a) (wE b)) ρ S Q
  | .chn o p a b c => fun ρ S Q => cmK o fun f => cmK p fun g => wbV (wChain f g (wE a) (wE b) (wE c)) ρ S Q
  | .call _ _ F as => wbV (wN F (wEs as))
  | .prim p as => fun ρ S Q => prK p fun f => wbV (wN f (wEs as)) ρ S Q
  | .isa a T => wbV (w1 (gIsa T) (wE a))
  | .ix a b => wbV (w2 gIxA (wE a) (wE b))
  | _ => fun _ _ _ => False
def wTAnd : Es → Wb
  | .nil => fun _ _ _ => False
  | .cons a as => match as with
    | .nil => wT a
    | .cons _ _ => wbAnd (wT a) (wTAnd as)
def wTOr : Es → Wb
  | .nil => fun _ _ _ => False
  | .cons a as => match as with
    | .nil => wT a
    | .cons _ _ => wbOr (wT a) (wTOr as)
def wO : Op → Wo
  | .no => woNone
  | .yes a => woSome (wE a)
def wC' : Op → Wb
  | .no => fun _ S Q => Q true S
  | .yes a => wT a
def wI : Wk → Wi
  | .val a => wI1 valI (wE a)
  | .r1 as => wIN r1I (wEs as)
  | .r2 as => wIN r2I (wEs as)
  | .enum a => wI1 enI (wE a)
  | .zip as => wIN zpI (wEs as)
def wG : Tg → Wg
  | .nm i => wgNm i
  | .tup n ts => wgTp n (wGs ts)
  | .sub o i => wgSb fSetA (wE o) (wE i)
def wGs : Tgs → Wgs
  | .nil => wgNl
  | .cons t ts => wgCs (wG t) (wGs ts)
end
/-- behind a loop's turn -/
def wGc (ws : List Nat) (n : Nat) (ρ : Ev) (S : Sto) (Q : Ev → Sto → Prop) : Prop := nrmE (wipeE ρ ws) fun ρ' => nrmS (gcS n ρ' S) fun S' => Q ρ' S'
def wSeq (a b : Ws) : Ws := fun ρ S Q => a ρ S fun o S1 => match o with
  | .nx ρ1 => b ρ1 S1 Q
  | o => Q o S1
mutual
def wS : St' → Ws
  | .pass => fun ρ S Q => Q (.nx ρ) S
  | .brk => fun ρ S Q => Q (.bk ρ) S
  | .cont => fun ρ S Q => Q (.ct ρ) S
  | .never => fun _ _ _ => False
  | .ret e => fun ρ S Q => wE e ρ S fun d S1 => Q (.rt d) S1
  | .expr e => fun ρ S Q => wE e ρ S fun _ S1 => Q (.nx ρ) S1
  | .asg t e => fun ρ S Q => wE e ρ S fun d S1 => wG t (.one d) ρ S1 fun ρ' S2 => Q (.nx ρ') S2
  | .par ts es => fun ρ S Q => wEs es ρ S fun ds S1 => wGs ts ds ρ S1 fun ρ' S2 => Q (.nx ρ') S2
  | .ife c a b => fun ρ S Q => wT c ρ S fun x S1 => BR x (wSs a ρ S1 Q) (wSs b ρ S1 Q)
  | .loop tg it b ws => fun ρ S Q => wI it ρ S fun src S1 => (match src with
    | .its xs => WL tg ws b xs ρ S1 Q
    | .lst n => WR tg ws b n cap 0 ρ S1 Q)
  | .whl c b ws => fun ρ S Q => WH c ws b cap ρ S Q
def wSs : Ss → Ws
  | .nil => fun ρ S Q => Q (.nx ρ) S
  | .cons s ss => wSeq (wS s) (wSs ss)
end
/-! ### it says so -/
section
variable {ρ : Ev} {S : Sto}
theorem wVar_ok {i : Nat} {Q : D → Sto → Prop} (h : wVar i ρ S Q) : Ok (mVar i ρ S) Q := by
  unfold wVar at h
  unfold mVar
  revert h
  cases ρ[i]? with
  | none => exact fun h => h.elim
  | some o =>
    cases o with
    | none => exact fun h => h.elim
    | some d => exact fun h => ⟨_, _, rfl, h⟩
theorem w1_ok {f : D → Sto → Rs D} {a : Wv} {m : M} {Q : D → Sto → Prop} (ha : ∀ Q, a ρ S Q → Ok (m ρ S) Q) (h : w1 f a ρ S Q) : Ok (m1 f m ρ S) Q := by
  obtain ⟨x, S1, e, ⟨q⟩⟩ := ha _ h
  unfold m1; rw [e]; exact q
theorem w2_ok {f : D → D → Sto → Rs D} {a b : Wv} {m n : M} {Q : D → Sto → Prop} (ha : ∀ S Q, a ρ S Q → Ok (m ρ S) Q) (hb : ∀ S Q, b ρ S Q → Ok (n ρ S) Q) (h : w2 f a b ρ S Q) : Ok (m2 f m n ρ S) Q := by
  obtain ⟨x, S1, e, h1⟩ := ha _ _ h
  obtain ⟨y, S2, e2, ⟨q⟩⟩ := hb _ _ h1
  unfold m2; rw [e]; simp only [e2]; exact q
theorem wN_ok {f : List D → Sto → Rs D} {a : Wa} {m : MA} {Q : D → Sto → Prop} (ha : ∀ Q, a ρ S Q → Ok (m ρ S) Q) (h : wN f a ρ S Q) : Ok (mN f m ρ S) Q := by
  obtain ⟨x, S1, e, ⟨q⟩⟩ := ha _ h
  unfold mN; rw [e]; exact q
theorem wbV_ok {a : Wv} {m : M} {Q : Bool → Sto → Prop} (ha : ∀ Q, a ρ S Q → Ok (m ρ S) Q) (h : wbV a ρ S Q) : Ok (bV m ρ S) Q := by
  obtain ⟨x, S1, e, h1⟩ := ha _ h
  split at h1
  · unfold bV; rw [e]; exact ⟨_, _, rfl, h1⟩
  · exact h1.elim
theorem wChain_ok {f g : D → D → Sto → Rs D} {a b c : Wv} {ma mb mc : M} {Q : D → Sto → Prop} (ha : ∀ S Q, a ρ S Q → Ok (ma ρ S) Q) (hb : ∀ S Q, b ρ S Q → Ok (mb ρ S) Q) (hc : ∀ S Q, c ρ S Q → Ok (mc ρ S) Q) (h : wChain f g a b c ρ S Q) : Ok (mChain f g ma mb mc ρ S) Q := by
  obtain ⟨x, S1, e1, h1⟩ := ha _ _ h
  obtain ⟨y, S2, e2, ⟨d, S3, e3, h3⟩⟩ := hb _ _ h1
  unfold mChain
  simp only [e1, e2, e3]
  split at h3
  · rename_i k
    cases k with
    | true =>
      obtain ⟨z, S4, e4, ⟨q⟩⟩ := hc _ _ (h3.t rfl)
      simp only [e4]; exact q
    | false => exact ⟨_, _, rfl, h3.f rfl⟩
  · exact h3.elim
theorem wMk_ok {mt : Bool} {acc : List PyData} {Q : D → Sto → Prop} (h : wMk mt acc S Q) : Ok (if mt = true then some (.r S.length, S ++ [.lst acc]) else some (.p (.list acc), S)) Q := by
  unfold wMk at h
  cases mt with
  | true => exact ⟨_, _, rfl, nrmS_iff.mp (nrmD_iff.mp h)⟩
  | false => exact ⟨_, _, rfl, h⟩
theorem iVal_eq {m : M} {d : D} {S1 : Sto} (h : m ρ S = some (d, S1)) : iVal m ρ S = valI d S1 := by unfold valI iVal; rw [h]
theorem iR1_eq {m : MA} {d : List D} {S1 : Sto} (h : m ρ S = some (d, S1)) : iRange1 m ρ S = r1I d S1 := by unfold r1I iRange1; rw [h]
theorem iR2_eq {m : MA} {d : List D} {S1 : Sto} (h : m ρ S = some (d, S1)) : iRange2 m ρ S = r2I d S1 := by unfold r2I iRange2; rw [h]
theorem iEn_eq {m : M} {d : D} {S1 : Sto} (h : m ρ S = some (d, S1)) : iEnum m ρ S = enI d S1 := by unfold enI iEnum; rw [h]
theorem iZp_eq {m : MA} {d : List D} {S1 : Sto} (h : m ρ S = some (d, S1)) : iZipT m ρ S = zpI d S1 := by unfold zpI iZipT; rw [h]
theorem rng_eq {kd : Nat} {m : MA} {d : List D} {S1 : Sto} (h : m ρ S = some (d, S1)) : mMade kd (mRg m) ρ S = rngD kd d S1 := by unfold rngD mMade mRg; rw [h]
end
mutual
theorem wE_ok : ∀ (e : E) (ρ : Ev) (S : Sto) (Q : D → Sto → Prop), wE e ρ S Q → Ok (den e ρ S) Q
  | .var i, ρ, S, Q, h => by simp only [wE] at h; simp only [den]; exact wVar_ok h
  | .int i, ρ, S, Q, h => by simp only [wE, wC] at h; simp only [den, mC]; exact ⟨_, _, rfl, h⟩
  | .bl i, ρ, S, Q, h => by simp only [wE, wC] at h; simp only [den, mC]; exact ⟨_, _, rfl, h⟩
  | .non, ρ, S, Q, h => by simp only [wE, wC] at h; simp only [den, mC]; exact ⟨_, _, rfl, h⟩
  | .str i, ρ, S, Q, h => by simp only [wE, wC] at h; simp only [den, mC]; exact ⟨_, _, rfl, h⟩
  | .glob x i, ρ, S, Q, h => by simp only [wE, wC] at h; simp only [den, mC]; exact ⟨_, _, rfl, h⟩
  | .bin o a b, ρ, S, Q, h => by simp only [wE] at h; have h := binK_iff.mp h; simp only [den]; exact w2_ok (fun S => wE_ok a ρ S) (fun S => wE_ok b ρ S) h
  | .cmp o a b, ρ, S, Q, h => by simp only [wE] at h; have h := cmK_iff.mp h; simp only [den]; exact w2_ok (fun S => wE_ok a ρ S) (fun S => wE_ok b ρ S) h
  | .chn o p a b c, ρ, S, Q, h => by simp only [wE] at h; have h := cmK_iff.mp (cmK_iff.mp h); simp only [den]; exact wChain_ok (fun S => wE_ok a ρ S) (fun S => wE_ok b ρ S) (fun S => wE_ok c ρ S) h
  | .neg a, ρ, S, Q, h => by simp only [wE] at h; simp only [den]; exact w1_ok (wE_ok a ρ S) h
  | .not a, ρ, S, Q, h => by simp only [wE] at h; simp only [den]; exact w1_ok (wE_ok a ρ S) h
  | .and as, ρ, S, Q, h => by simp only [wE] at h; simp only [den]; exact wEAnd_ok as ρ S Q h
  | .or as, ρ, S, Q, h => by simp only [wE] at h; simp only [den]; exact wEOr_ok as ρ S Q h
  | .ife c a b, ρ, S, Q, h => by
    simp only [wE, wIf] at h
    obtain ⟨x, S1, e, h1⟩ := wT_ok c ρ S _ h
    simp only [den, mIf, e]
    cases x with
    | true => exact wE_ok a ρ S1 Q (h1.t rfl)
    | false => exact wE_ok b ρ S1 Q (h1.f rfl)
  | .call x n F as, ρ, S, Q, h => by simp only [wE] at h; simp only [den]; exact wN_ok (wEs_ok as ρ S) h
  | .prim p as, ρ, S, Q, h => by simp only [wE] at h; have h := prK_iff.mp h; simp only [den]; exact wN_ok (wEs_ok as ρ S) h
  | .isa a T, ρ, S, Q, h => by simp only [wE] at h; simp only [den]; exact w1_ok (wE_ok a ρ S) h
  | .meth m o as, ρ, S, Q, h => by
    simp only [wE] at h
    have h := mtK_iff.mp h
    simp only [wMt] at h
    obtain ⟨x, S1, e, h1⟩ := wE_ok o ρ S _ h
    simp only [den, mMt, e]
    split at h1
    · rename_i hr
      obtain ⟨ds, S2, e2, ⟨q⟩⟩ := wEs_ok as ρ S1 _ h1
      simp only [hr, if_true, e2]; exact q
    · exact h1.elim
  | .idx o as, ρ, S, Q, h => by
    simp only [wE, wIdx] at h
    obtain ⟨x, S1, e, h1⟩ := wE_ok o ρ S _ h
    simp only [den, mIdx, e]
    split at h1
    · rename_i ys hr
      obtain ⟨ds, S2, e2, ⟨q⟩⟩ := wEs_ok as ρ S1 _ h1
      simp only [hr, e2]; exact q
    · rename_i ys hr
      obtain ⟨ds, S2, e2, ⟨q⟩⟩ := wEs_ok as ρ S1 _ h1
      simp only [hr, e2]; exact q
    · rename_i ys hr
      obtain ⟨ds, S2, e2, ⟨q⟩⟩ := wEs_ok as ρ S1 _ h1
      simp only [hr, e2]; exact q
    · exact h1.elim
  | .ix a b, ρ, S, Q, h => by simp only [wE] at h; simp only [den]; exact w2_ok (fun S => wE_ok a ρ S) (fun S => wE_ok b ρ S) h
  | .rng kd as, ρ, S, Q, h => by
    simp only [wE, wN] at h; simp only [den]
    obtain ⟨x, S1, e, ⟨q⟩⟩ := wEs_ok as ρ S _ h
    rw [rng_eq e]; exact q
  | .dnew t, ρ, S, Q, h => by simp only [wE] at h; simp only [den]; exact h.ok
  | .ddsp ks vs, ρ, S, Q, h => by simp only [wE] at h; simp only [den]; exact wN_ok (wEs_ok vs ρ S) h
  | .sl a lo hi, ρ, S, Q, h => by
    simp only [wE, wSl] at h; simp only [den, mSl]
    obtain ⟨x, S1, e, h1⟩ := wE_ok a ρ S _ h
    obtain ⟨y, S2, e2, h2⟩ := wO_ok lo ρ S1 _ h1
    obtain ⟨z, S3, e3, ⟨q⟩⟩ := wO_ok hi ρ S2 _ h2
    simp only [e, e2, e3]; exact q
  | .rev a, ρ, S, Q, h => by simp only [wE] at h; simp only [den]; exact w1_ok (wE_ok a ρ S) h
  | .dix x tbl b, ρ, S, Q, h => by simp only [wE] at h; simp only [den]; exact w1_ok (wE_ok b ρ S) h
  | .tup as, ρ, S, Q, h => by simp only [wE] at h; simp only [den]; exact wN_ok (wEs_ok as ρ S) h
  | .lst true as, ρ, S, Q, h => by simp only [wE] at h; simp only [den]; exact wN_ok (wEs_ok as ρ S) h
  | .lst false as, ρ, S, Q, h => by simp only [wE] at h; simp only [den]; exact wN_ok (wEs_ok as ρ S) h
  | .comp mt it tg c e own, ρ, S, Q, h => by
    simp only [wE] at h
    obtain ⟨src, S1, e1, h1⟩ := wI_ok it ρ S _ h
    have h1 := nrmE_iff.mp h1
    have goal : ∀ acc S2, compA (denI it) (denG tg) (denC c) (den e) (own.map (·.2)) ρ S = some (acc, S2) → wMk mt acc S2 Q → Ok (den (.comp mt it tg c e own) ρ S) Q := fun acc S2 ea hq => by
      have z := wMk_ok hq
      simp only [den]
      cases mt with
      | true => show Ok (mCompM _ _ _ _ _ ρ S) Q; unfold mCompM; rw [ea]; exact z
      | false => show Ok (mComp _ _ _ _ _ ρ S) Q; unfold mComp; rw [ea]; exact z
    cases src with
    | its xs =>
      obtain ⟨acc, S2, e2, q⟩ := h1.ok
      exact goal acc S2 (by unfold compA; rw [e1]; exact e2) q
    | lst n =>
      obtain ⟨acc, S2, e2, q⟩ := h1.ok
      exact goal acc S2 (by unfold compA; rw [e1]; exact e2) q
theorem wEs_ok : ∀ (e : Es) (ρ : Ev) (S : Sto) (Q : List D → Sto → Prop), wEs e ρ S Q → Ok (dens e ρ S) Q
  | .nil, ρ, S, Q, h => by simp only [wEs, waNil] at h; simp only [dens, maNil]; exact ⟨_, _, rfl, h⟩
  | .cons a as, ρ, S, Q, h => by
    simp only [wEs, waCons] at h; simp only [dens, maCons]
    obtain ⟨x, S1, e, h1⟩ := wE_ok a ρ S _ h
    obtain ⟨xs, S2, e2, q⟩ := wEs_ok as ρ S1 _ h1
    simp only [e, e2]; exact ⟨_, _, rfl, q⟩
theorem wEAnd_ok : ∀ (e : Es) (ρ : Ev) (S : Sto) (Q : D → Sto → Prop), wEAnd e ρ S Q → Ok (denAnd e ρ S) Q
  | .nil, ρ, S, Q, h => by simp only [wEAnd] at h
  | .cons a .nil, ρ, S, Q, h => by simp only [wEAnd] at h; simp only [denAnd]; exact wE_ok a ρ S Q h
  | .cons a (.cons b as), ρ, S, Q, h => by
    simp only [wEAnd, wAnd] at h; simp only [denAnd, mAnd]
    obtain ⟨x, S1, e, h1⟩ := wE_ok a ρ S _ h
    split at h1
    · rename_i k
      cases k with
      | true =>
        have := wEAnd_ok (.cons b as) ρ S1 Q (h1.t rfl)
        simp only [e]; simpa only [denAnd] using this
      | false => simp only [e]; exact ⟨_, _, rfl, h1.f rfl⟩
    · exact h1.elim
theorem wEOr_ok : ∀ (e : Es) (ρ : Ev) (S : Sto) (Q : D → Sto → Prop), wEOr e ρ S Q → Ok (denOr e ρ S) Q
  | .nil, ρ, S, Q, h => by simp only [wEOr] at h
  | .cons a .nil, ρ, S, Q, h => by simp only [wEOr] at h; simp only [denOr]; exact wE_ok a ρ S Q h
  | .cons a (.cons b as), ρ, S, Q, h => by
    simp only [wEOr, wOr] at h; simp only [denOr, mOr]
    obtain ⟨x, S1, e, h1⟩ := wE_ok a ρ S _ h
    split at h1
    · rename_i k
      cases k with
      | true => simp only [e]; exact ⟨_, _, rfl, h1.t rfl⟩
      | false =>
        have := wEOr_ok (.cons b as) ρ S1 Q (h1.f rfl)
        simp only [e]; simpa only [denOr] using this
    · exact h1.elim
theorem wT_ok : ∀ (e : E) (ρ : Ev) (S : Sto) (Q : Bool → Sto → Prop), wT e ρ S Q → Ok (denT e ρ S) Q
  | .not a, ρ, S, Q, h => by
    simp only [wT, wbNot] at h; simp only [denT, bNot]
    obtain ⟨x, S1, e, q⟩ := wT_ok a ρ S _ h
    simp only [e]; exact ⟨_, _, rfl, q⟩
  | .and as, ρ, S, Q, h => by simp only [wT] at h; simp only [denT]; exact wTAnd_ok as ρ S Q h
  | .or as, ρ, S, Q, h => by simp only [wT] at h; simp only [denT]; exact wTOr_ok as ρ S Q h
  | .var i, ρ, S, Q, h => by simp only [wT] at h; simp only [denT]; exact wbV_ok (fun Q h => wVar_ok h) h
  | .bl b, ρ, S, Q, h => by simp only [wT] at h; simp only [denT]; exact wbV_ok (fun Q h => ⟨_, _, rfl, h⟩) h
  | .glob x d, ρ, S, Q, h => by simp only [wT] at h; simp only [denT]; exact wbV_ok (fun Q h => ⟨_, _, rfl, h⟩) h
  | .cmp o a b, ρ, S, Q, h => by simp only [wT] at h; have h := cmK_iff.mp h; simp only [denT]; exact wbV_ok (fun Q h => w2_ok (fun S => wE_ok a ρ S) (fun S => wE_ok b ρ S) h) h
  | .chn o p a b c, ρ, S, Q, h => by simp only [wT] at h; have h := cmK_iff.mp (cmK_iff.mp h); simp only [denT]; exact wbV_ok (fun Q h => wChain_ok (fun S => wE_ok a ρ S) (fun S => wE_ok b ρ S) (fun S => wE_ok c ρ S) h) h
  | .call x n F as, ρ, S, Q, h => by simp only [wT] at h; simp only [denT]; exact wbV_ok (fun Q h => wN_ok (wEs_ok as ρ S) h) h
  | .prim p as, ρ, S, Q, h => by simp only [wT] at h; have h := prK_iff.mp h; simp only [denT]; exact wbV_ok (fun Q h => wN_ok (wEs_ok as ρ S) h) h
  | .isa a T, ρ, S, Q, h => by simp only [wT] at h; simp only [denT]; exact wbV_ok (fun Q h => w1_ok (wE_ok a ρ S) h) h
  | .ix a b, ρ, S, Q, h => by simp only [wT] at h; simp only [denT]; exact wbV_ok (fun Q h => w2_ok (fun S => wE_ok a ρ S) (fun S => wE_ok b ρ S) h) h
  | .int _, ρ, S, Q, h => by simp only [wT] at h
  | .non, ρ, S, Q, h => by simp only [wT] at h
  | .str _, ρ, S, Q, h => by simp only [wT] at h
  | .bin _ _ _, ρ, S, Q, h => by simp only [wT] at h
  | .neg _, ρ, S, Q, h => by simp only [wT] at h
  | .ife _ _ _, ρ, S, Q, h => by simp only [wT] at h
  | .meth _ _ _, ρ, S, Q, h => by simp only [wT] at h
  | .idx _ _, ρ, S, Q, h => by simp only [wT] at h
  | .sl _ _ _, ρ, S, Q, h => by simp only [wT] at h
  | .rev _, ρ, S, Q, h => by simp only [wT] at h
  | .dix _ _ _, ρ, S, Q, h => by simp only [wT] at h
  | .tup _, ρ, S, Q, h => by simp only [wT] at h
  | .lst _ _, ρ, S, Q, h => by simp only [wT] at h
  | .rng _ _, ρ, S, Q, h => by simp only [wT] at h
  | .dnew _, ρ, S, Q, h => by simp only [wT] at h
  | .ddsp _ _, ρ, S, Q, h => by simp only [wT] at h
  | .comp _ _ _ _ _ _, ρ, S, Q, h => by simp only [wT] at h
theorem wTAnd_ok : ∀ (e : Es) (ρ : Ev) (S : Sto) (Q : Bool → Sto → Prop), wTAnd e ρ S Q → Ok (denAndT e ρ S) Q
  | .nil, ρ, S, Q, h => by simp only [wTAnd] at h
  | .cons a .nil, ρ, S, Q, h => by simp only [wTAnd] at h; simp only [denAndT]; exact wT_ok a ρ S Q h
  | .cons a (.cons b as), ρ, S, Q, h => by
    simp only [wTAnd, wbAnd] at h; simp only [denAndT, bAnd]
    obtain ⟨x, S1, e, h1⟩ := wT_ok a ρ S _ h
    cases x with
    | true =>
      have := wTAnd_ok (.cons b as) ρ S1 Q (h1.t rfl)
      simp only [e]; simpa only [denAndT] using this
    | false => simp only [e]; exact ⟨_, _, rfl, h1.f rfl⟩
theorem wTOr_ok : ∀ (e : Es) (ρ : Ev) (S : Sto) (Q : Bool → Sto → Prop), wTOr e ρ S Q → Ok (denOrT e ρ S) Q
  | .nil, ρ, S, Q, h => by simp only [wTOr] at h
  | .cons a .nil, ρ, S, Q, h => by simp only [wTOr] at h; simp only [denOrT]; exact wT_ok a ρ S Q h
  | .cons a (.cons b as), ρ, S, Q, h => by
    simp only [wTOr, wbOr] at h; simp only [denOrT, bOr]
    obtain ⟨x, S1, e, h1⟩ := wT_ok a ρ S _ h
    cases x with
    | true => simp only [e]; exact ⟨_, _, rfl, h1.t rfl⟩
    | false =>
      have := wTOr_ok (.cons b as) ρ S1 Q (h1.f rfl)
      simp only [e]; simpa only [denOrT] using this
theorem wO_ok : ∀ (e : Op) (ρ : Ev) (S : Sto) (Q : Option Int → Sto → Prop), wO e ρ S Q → Ok (denO e ρ S) Q
  | .no, ρ, S, Q, h => by simp only [wO, woNone] at h; simp only [denO, moNone]; exact ⟨_, _, rfl, h⟩
  | .yes a, ρ, S, Q, h => by
    simp only [wO, woSome] at h; simp only [denO, moSome]
    obtain ⟨x, S1, e, h1⟩ := wE_ok a ρ S _ h
    split at h1
    · simp only [e]; exact ⟨_, _, rfl, h1⟩
    · exact h1.elim
theorem wC_ok : ∀ (e : Op) (ρ : Ev) (S : Sto) (Q : Bool → Sto → Prop), wC' e ρ S Q → Ok (denC e ρ S) Q
  | .no, ρ, S, Q, h => by simp only [wC'] at h; simp only [denC, bYes]; exact ⟨_, _, rfl, h⟩
  | .yes a, ρ, S, Q, h => by simp only [wC'] at h; simp only [denC]; exact wT_ok a ρ S Q h
theorem wI_ok : ∀ (e : Wk) (ρ : Ev) (S : Sto) (Q : Src → Sto → Prop), wI e ρ S Q → Ok (denI e ρ S) Q
  | .val a, ρ, S, Q, h => by simp only [wI, wI1] at h; simp only [denI]; obtain ⟨x, S1, e, ⟨q⟩⟩ := wE_ok a ρ S _ h; rw [iVal_eq e]; exact q
  | .r1 as, ρ, S, Q, h => by simp only [wI, wIN] at h; simp only [denI]; obtain ⟨x, S1, e, ⟨q⟩⟩ := wEs_ok as ρ S _ h; rw [iR1_eq e]; exact q
  | .r2 as, ρ, S, Q, h => by simp only [wI, wIN] at h; simp only [denI]; obtain ⟨x, S1, e, ⟨q⟩⟩ := wEs_ok as ρ S _ h; rw [iR2_eq e]; exact q
  | .enum a, ρ, S, Q, h => by simp only [wI, wI1] at h; simp only [denI]; obtain ⟨x, S1, e, ⟨q⟩⟩ := wE_ok a ρ S _ h; rw [iEn_eq e]; exact q
  | .zip as, ρ, S, Q, h => by simp only [wI, wIN] at h; simp only [denI]; obtain ⟨x, S1, e, ⟨q⟩⟩ := wEs_ok as ρ S _ h; rw [iZp_eq e]; exact q
theorem wG_ok : ∀ (e : Tg) (it : Itm) (ρ : Ev) (S : Sto) (Q : Ev → Sto → Prop), wG e it ρ S Q → Ok (denG e it ρ S) Q
  | .nm i, it, ρ, S, Q, h => by
    simp only [wG, wgNm] at h; simp only [denG, gNm]
    cases it with
    | one d => exact ⟨_, _, rfl, setE_iff.mp h⟩
    | row _ => exact h.elim
  | .tup n ts, it, ρ, S, Q, h => by
    simp only [wG, wgTp] at h; simp only [denG, gTp]
    cases it with
    | one d =>
      simp only at h ⊢
      split at h
      · rename_i xs e
        split at h
        · rename_i hl
          simp only [e, if_pos hl]; exact wGs_ok ts _ ρ S Q h
        · exact h.elim
      · exact h.elim
    | row ds =>
      simp only at h ⊢
      split at h
      · rename_i hl; rw [if_pos hl]; exact wGs_ok ts _ ρ S Q h
      · exact h.elim
  | .sub o i, it, ρ, S, Q, h => by
    simp only [wG, wgSb] at h; simp only [denG, gSb]
    cases it with
    | one d =>
      obtain ⟨x, S1, e, h1⟩ := wE_ok o ρ S _ h
      obtain ⟨y, S2, e2, ⟨S3, e3, q⟩⟩ := wE_ok i ρ S1 _ h1
      simp only [e, e2, e3]; exact ⟨_, _, rfl, q⟩
    | row _ => exact h.elim
theorem wGs_ok : ∀ (e : Tgs) (ds : List D) (ρ : Ev) (S : Sto) (Q : Ev → Sto → Prop), wGs e ds ρ S Q → Ok (denGs e ds ρ S) Q
  | .nil, ds, ρ, S, Q, h => by
    simp only [wGs, wgNl] at h; simp only [denGs, gNl]
    cases ds with
    | nil => exact ⟨_, _, rfl, h⟩
    | cons _ _ => exact h.elim
  | .cons t ts, ds, ρ, S, Q, h => by
    simp only [wGs, wgCs] at h; simp only [denGs, gCs]
    cases ds with
    | nil => exact h.elim
    | cons d ds =>
      obtain ⟨ρ1, S1, e, h1⟩ := wG_ok t _ ρ S _ h
      simp only [e]; exact wGs_ok ts ds ρ1 S1 Q h1
end
mutual
theorem wS_ok : ∀ (e : St') (ρ : Ev) (S : Sto) (Q : Out → Sto → Prop), wS e ρ S Q → Ok (denS e ρ S) Q
  | .pass, ρ, S, Q, h => by simp only [wS] at h; simp only [denS, msNil]; exact ⟨_, _, rfl, h⟩
  | .brk, ρ, S, Q, h => by simp only [wS] at h; simp only [denS, msBreak]; exact ⟨_, _, rfl, h⟩
  | .cont, ρ, S, Q, h => by simp only [wS] at h; simp only [denS, msCont]; exact ⟨_, _, rfl, h⟩
  | .never, ρ, S, Q, h => by simp only [wS] at h
  | .ret e, ρ, S, Q, h => by
    simp only [wS] at h; simp only [denS, msRet]
    obtain ⟨x, S1, e1, q⟩ := wE_ok e ρ S _ h
    simp only [e1]; exact ⟨_, _, rfl, q⟩
  | .expr e, ρ, S, Q, h => by
    simp only [wS] at h; simp only [denS, msExpr]
    obtain ⟨x, S1, e1, q⟩ := wE_ok e ρ S _ h
    simp only [e1]; exact ⟨_, _, rfl, q⟩
  | .asg t e, ρ, S, Q, h => by
    simp only [wS] at h; simp only [denS, msAsg]
    obtain ⟨x, S1, e1, h1⟩ := wE_ok e ρ S _ h
    obtain ⟨ρ', S2, e2, q⟩ := wG_ok t _ ρ S1 _ h1
    simp only [e1, e2]; exact ⟨_, _, rfl, q⟩
  | .par ts es, ρ, S, Q, h => by
    simp only [wS] at h; simp only [denS, msPar]
    obtain ⟨x, S1, e1, h1⟩ := wEs_ok es ρ S _ h
    obtain ⟨ρ', S2, e2, q⟩ := wGs_ok ts _ ρ S1 _ h1
    simp only [e1, e2]; exact ⟨_, _, rfl, q⟩
  | .ife c a b, ρ, S, Q, h => by
    simp only [wS] at h; simp only [denS, msIf]
    obtain ⟨x, S1, e, h1⟩ := wT_ok c ρ S _ h
    simp only [e]
    cases x with
    | true => exact wSs_ok a ρ S1 Q (h1.t rfl)
    | false => exact wSs_ok b ρ S1 Q (h1.f rfl)
  | .loop tg it b ws, ρ, S, Q, h => by
    simp only [wS] at h; simp only [denS, msFor]
    obtain ⟨src, S1, e, h1⟩ := wI_ok it ρ S _ h
    simp only [e]
    cases src with
    | its xs => exact h1.ok
    | lst n => exact h1.ok
  | .whl c b ws, ρ, S, Q, h => by simp only [wS] at h; simp only [denS, msWhile]; exact h.ok
theorem wSs_ok : ∀ (e : Ss) (ρ : Ev) (S : Sto) (Q : Out → Sto → Prop), wSs e ρ S Q → Ok (denSs e ρ S) Q
  | .nil, ρ, S, Q, h => by simp only [wSs] at h; simp only [denSs, msNil]; exact ⟨_, _, rfl, h⟩
  | .cons s ss, ρ, S, Q, h => by
    simp only [wSs, wSeq] at h; simp only [denSs, msSeq]
    obtain ⟨o, S1, e, h1⟩ := wS_ok s ρ S _ h
    cases o with
    | nx ρ1 => simp only [e]; exact wSs_ok ss ρ1 S1 Q h1
    | rt d => simp only [e]; exact ⟨_, _, rfl, h1⟩
    | bk d => simp only [e]; exact ⟨_, _, rfl, h1⟩
    | ct d => simp only [e]; exact ⟨_, _, rfl, h1⟩
end
end Tm
namespace Tm
open PySem L2

/-! ## loops -/
/-- behind a turn's body -/
def loopK (ws : List Nat) (n : Nat) (o : Out) (S : Sto) (Q : Out → Sto → Prop) (K : Ev → Sto → Prop) : Prop := match o with
  | .nx ρ => wGc ws n ρ S K
  | .ct ρ => wGc ws n ρ S K
  | .bk ρ => Q (.nx ρ) S
  | .rt d => Q (.rt d) S
theorem wGc_iff {ws : List Nat} {n : Nat} {ρ : Ev} {S : Sto} {K : Ev → Sto → Prop} : wGc ws n ρ S K ↔ K (wipeE ρ ws) (gcS n (wipeE ρ ws) S) := by
  unfold wGc; rw [nrmE_iff, nrmS_iff]
section
variable {tg : Tg} {ws : List Nat} {b : Ss} {x : Itm} {xs : List Itm} {ρ : Ev} {S : Sto} {Q : Out → Sto → Prop}
theorem WL.nil (q : Q (.nx ρ) S) : WL tg ws b [] ρ S Q := ⟨⟨_, _, rfl, q⟩⟩
theorem WL.cons (h : wG tg x ρ S fun ρ1 S1 => wSs b ρ1 S1 fun o S2 => loopK ws S1.length o S2 Q fun ρ' S' => WL tg ws b xs ρ' S' Q) : WL tg ws b (x :: xs) ρ S Q := by
  obtain ⟨ρ1, S1, e1, h1⟩ := wG_ok tg x ρ S _ h
  obtain ⟨o, S2, e2, h2⟩ := wSs_ok b ρ1 S1 _ h1
  refine ⟨?_⟩
  unfold forL
  simp only [e1, msGc, e2]
  cases o with
  | nx ρ2 => exact (wGc_iff.mp h2).ok
  | ct ρ2 => exact (wGc_iff.mp h2).ok
  | bk ρ2 => exact ⟨_, _, rfl, h2⟩
  | rt d => exact ⟨_, _, rfl, h2⟩
/-- by what holds between two turns; k: how many were done -/
theorem WL.inv (I : Nat → Ev → Sto → Prop) : ∀ {xs : List Itm} (k : Nat) {ρ : Ev} {S : Sto}, I k ρ S →
    (∀ (j : Nat) (x : Itm) (ρ : Ev) (S : Sto), xs[j]? = some x → I (k + j) ρ S → wG tg x ρ S fun ρ1 S1 => wSs b ρ1 S1 fun o S2 => loopK ws S1.length o S2 Q (I (k + j + 1))) →
    (∀ ρ S, I (k + xs.length) ρ S → Q (.nx ρ) S) → WL tg ws b xs ρ S Q
  | [], k, ρ, S, h, _, f => WL.nil (f ρ S h)
  | x :: xs, k, ρ, S, h, st, f => by
    have h1 := st 0 x ρ S rfl h
    obtain ⟨ρ1, S1, e1, h2⟩ := wG_ok tg x ρ S _ h1
    obtain ⟨o, S2, e2, h3⟩ := wSs_ok b ρ1 S1 _ h2
    have go : ∀ ρ' S', I (k + 0 + 1) ρ' S' → WL tg ws b xs ρ' S' Q := fun ρ' S' i => WL.inv I (k + 1) i (fun j x ρ S hj hi => by
      have := st (j + 1) x ρ S (by simpa using hj) (by rw [show k + (j + 1) = k + 1 + j by omega]; exact hi)
      rw [show k + 1 + j + 1 = k + (j + 1) + 1 by omega]
      exact this) (fun ρ S i => f ρ S (by rw [show k + (x :: xs).length = k + 1 + xs.length by simp; omega]; exact i))
    refine ⟨?_⟩
    unfold forL
    simp only [e1, msGc, e2]
    cases o with
    | nx ρ2 => exact (go _ _ (wGc_iff.mp h3)).ok
    | ct ρ2 => exact (go _ _ (wGc_iff.mp h3)).ok
    | bk ρ2 => exact ⟨_, _, rfl, h3⟩
    | rt d => exact ⟨_, _, rfl, h3⟩
/-- .. where it does not hang on the turn -/
theorem WL.all (P : Itm → Prop) (I : Ev → Sto → Prop) (hx : ∀ x ∈ xs, P x) (h0 : I ρ S)
    (st : ∀ (x : Itm) (ρ : Ev) (S : Sto), P x → I ρ S → wG tg x ρ S fun ρ1 S1 => wSs b ρ1 S1 fun o S2 => loopK ws S1.length o S2 Q I) (f : ∀ ρ S, I ρ S → Q (.nx ρ) S) : WL tg ws b xs ρ S Q :=
  WL.inv (fun _ => I) 0 h0 (fun j x ρ S hj hi => st x ρ S (hx x (List.mem_of_getElem? hj)) hi) f
theorem WR.stop {n f i : Nat} {ys : List PyData} (h : S[n]? = some (.lst ys)) (hi : ys[i]? = none) (q : Q (.nx ρ) S) : WR tg ws b n (f + 1) i ρ S Q := by
  refine ⟨⟨.nx ρ, S, ?_, q⟩⟩
  unfold forR
  simp only [h, hi]
theorem WR.go {n f i : Nat} {ys : List PyData} {d : PyData} (h : S[n]? = some (.lst ys)) (hi : ys[i]? = some d) (q : wG tg (.one (.p d)) ρ S fun ρ1 S1 => wSs b ρ1 S1 fun o S2 => loopK ws S1.length o S2 Q fun ρ' S' => WR tg ws b n f (i + 1) ρ' S' Q) : WR tg ws b n (f + 1) i ρ S Q := by
  obtain ⟨ρ1, S1, e1, h1⟩ := wG_ok tg _ ρ S _ q
  obtain ⟨o, S2, e2, h2⟩ := wSs_ok b ρ1 S1 _ h1
  refine ⟨?_⟩
  unfold forR
  simp only [h, hi, e1, msGc, e2]
  cases o with
  | nx ρ2 => exact (wGc_iff.mp h2).ok
  | ct ρ2 => exact (wGc_iff.mp h2).ok
  | bk ρ2 => exact ⟨_, _, rfl, h2⟩
  | rt d => exact ⟨_, _, rfl, h2⟩
/-- a list that the body does not turn -/
theorem WR.inv {n : Nat} (ys : List PyData) (I : Nat → Ev → Sto → Prop) : ∀ (f i : Nat) {ρ : Ev} {S : Sto}, I i ρ S → ys.length < i + f → i ≤ ys.length → (∀ i ρ S, I i ρ S → S[n]? = some (.lst ys)) →
    (∀ (i : Nat) (d : PyData) (ρ : Ev) (S : Sto), ys[i]? = some d → I i ρ S → wG tg (.one (.p d)) ρ S fun ρ1 S1 => wSs b ρ1 S1 fun o S2 => loopK ws S1.length o S2 Q (I (i + 1))) →
    (∀ ρ S, I ys.length ρ S → Q (.nx ρ) S) → WR tg ws b n f i ρ S Q
  | 0, i, ρ, S, _, h, h', _, _, _ => by omega
  | f + 1, i, ρ, S, h, hl, hl', hS, st, fin => by
    by_cases c : i < ys.length
    · have h1 := st i _ ρ S (List.getElem?_eq_getElem c) h
      obtain ⟨ρ1, S1, e1, h2⟩ := wG_ok tg _ ρ S _ h1
      obtain ⟨o, S2, e2, h3⟩ := wSs_ok b ρ1 S1 _ h2
      have go : ∀ ρ' S', I (i + 1) ρ' S' → WR tg ws b n f (i + 1) ρ' S' Q := fun ρ' S' z => WR.inv ys I f (i + 1) z (by omega) c hS st fin
      refine ⟨?_⟩
      unfold forR
      simp only [hS i ρ S h, List.getElem?_eq_getElem c, e1, msGc, e2]
      cases o with
      | nx ρ2 => exact (go _ _ (wGc_iff.mp h3)).ok
      | ct ρ2 => exact (go _ _ (wGc_iff.mp h3)).ok
      | bk ρ2 => exact ⟨_, _, rfl, h3⟩
      | rt d => exact ⟨_, _, rfl, h3⟩
    · have e : i = ys.length := by omega
      subst e
      exact WR.stop (hS _ ρ S h) (List.getElem?_eq_none (Nat.le_refl _)) (fin ρ S h)
end
section
variable {c : E} {ws : List Nat} {b : Ss} {ρ : Ev} {S : Sto} {Q : Out → Sto → Prop}
theorem WH.step {f : Nat} (h : wT c ρ S fun x S1 => BR x (wSs b ρ S1 fun o S2 => loopK ws S1.length o S2 Q fun ρ' S' => WH c ws b f ρ' S' Q) (Q (.nx ρ) S1)) : WH c ws b (f + 1) ρ S Q := by
  obtain ⟨x, S1, e, h1⟩ := wT_ok c ρ S _ h
  refine ⟨?_⟩
  unfold whileN
  simp only [e]
  cases x with
  | false => exact ⟨_, _, rfl, h1.f rfl⟩
  | true =>
    obtain ⟨o, S2, e2, h2⟩ := wSs_ok b ρ S1 _ (h1.t rfl)
    simp only [msGc, e2]
    cases o with
    | nx ρ2 => exact (wGc_iff.mp h2).ok
    | ct ρ2 => exact (wGc_iff.mp h2).ok
    | bk ρ2 => exact ⟨_, _, rfl, h2⟩
    | rt d => exact ⟨_, _, rfl, h2⟩
/-- a while by a number that falls -/
theorem WH.inv (I : Nat → Ev → Sto → Prop) (st : ∀ (k : Nat) (ρ : Ev) (S : Sto), I k ρ S → wT c ρ S fun x S1 => BR x (wSs b ρ S1 fun o S2 => loopK ws S1.length o S2 Q fun ρ' S' => ∃ j, j < k ∧ I j ρ' S') (Q (.nx ρ) S1)) :
    ∀ (f n : Nat) {ρ : Ev} {S : Sto}, I n ρ S → n < f → WH c ws b f ρ S Q
  | 0, n, _, _, _, h => by omega
  | f + 1, n, ρ, S, h, hl => by
    obtain ⟨x, S1, e, h1⟩ := wT_ok c ρ S _ (st n ρ S h)
    refine ⟨?_⟩
    unfold whileN
    simp only [e]
    have go : ∀ ρ' S', (∃ j, j < n ∧ I j ρ' S') → WH c ws b f ρ' S' Q := fun ρ' S' ⟨j, hj, i⟩ => WH.inv I st f j i (by omega)
    cases x with
    | false => exact ⟨_, _, rfl, h1.f rfl⟩
    | true =>
      obtain ⟨o, S2, e2, h2⟩ := wSs_ok b ρ S1 _ (h1.t rfl)
      simp only [msGc, e2]
      cases o with
      | nx ρ2 => exact (go _ _ (wGc_iff.mp h2)).ok
      | ct ρ2 => exact (go _ _ (wGc_iff.mp h2)).ok
      | bk ρ2 => exact ⟨_, _, rfl, h2⟩
      | rt d => exact ⟨_, _, rfl, h2⟩
end
/-! ## comprehensions -/
section
variable {tg : Tg} {c : Op} {e : E} {ρ : Ev} {acc : List PyData} {S : Sto} {Q : List PyData → Sto → Prop}
theorem WK.nil (q : Q acc S) : WK tg c e ρ [] acc S Q := ⟨⟨_, _, rfl, q⟩⟩
/-- what is made of an item -/
def compK (e : E) (ρ : Ev) (S : Sto) (K : PyData → Sto → Prop) : Prop := wE e ρ S fun d S1 => match d with
  | .p x => K x S1
  | .r _ => False
theorem compK_ok {e : E} {ρ : Ev} {S : Sto} {K : PyData → Sto → Prop} (h : compK e ρ S K) : ∃ x S1, den e ρ S = some (.p x, S1) ∧ K x S1 := by
  obtain ⟨d, S1, e1, h1⟩ := wE_ok e ρ S _ h
  cases d with
  | p x => exact ⟨x, S1, e1, h1⟩
  | r _ => exact h1.elim
theorem WK.cons {x : Itm} {xs : List Itm} (h : wG tg x ρ S fun ρ1 S1 => wC' c ρ1 S1 fun b S2 => BR b (compK e ρ1 S2 fun y S3 => nrmS S3 fun S3' => WK tg c e ρ xs (acc ++ [y]) S3' Q) (WK tg c e ρ xs acc S2 Q)) : WK tg c e ρ (x :: xs) acc S Q := by
  obtain ⟨ρ1, S1, e1, h1⟩ := wG_ok tg x ρ S _ h
  obtain ⟨b, S2, e2, h2⟩ := wC_ok c ρ1 S1 _ h1
  refine ⟨?_⟩
  unfold compL
  simp only [e1, e2]
  cases b with
  | true =>
    obtain ⟨y, S3, e3, h3⟩ := compK_ok (h2.t rfl)
    simp only [e3]
    exact (nrmS_iff.mp h3).ok
  | false => exact (h2.f rfl).ok
/-- by what holds between two items -/
theorem WK.inv (P : Itm → Prop) (I : List PyData → Sto → Prop) : ∀ {xs : List Itm} {acc : List PyData} {S : Sto}, (∀ x ∈ xs, P x) → I acc S →
    (∀ x acc S, P x → I acc S → wG tg x ρ S fun ρ1 S1 => wC' c ρ1 S1 fun b S2 => BR b (compK e ρ1 S2 fun y S3 => nrmS S3 fun S3' => I (acc ++ [y]) S3') (I acc S2)) →
    (∀ acc S, I acc S → Q acc S) → WK tg c e ρ xs acc S Q
  | [], acc, S, _, h, _, f => WK.nil (f acc S h)
  | x :: xs, acc, S, hx, h, st, f => by
    obtain ⟨ρ1, S1, e1, h1⟩ := wG_ok tg x ρ S _ (st x acc S (hx x (List.mem_cons_self ..)) h)
    obtain ⟨b, S2, e2, h2⟩ := wC_ok c ρ1 S1 _ h1
    have go : ∀ acc S, I acc S → WK tg c e ρ xs acc S Q := fun acc S i => WK.inv P I (fun y hy => hx y (List.mem_cons_of_mem _ hy)) i st f
    refine ⟨?_⟩
    unfold compL
    simp only [e1, e2]
    cases b with
    | true =>
      obtain ⟨y, S3, e3, h3⟩ := compK_ok (h2.t rfl)
      simp only [e3]
      exact (go _ _ (nrmS_iff.mp h3)).ok
    | false => exact (go _ _ (h2.f rfl)).ok
/-- .. where it hangs on how many were made -/
theorem WK.invN (I : Nat → List PyData → Sto → Prop) : ∀ {xs : List Itm} (k : Nat) {acc : List PyData} {S : Sto}, I k acc S →
    (∀ j x acc S, xs[j]? = some x → I (k + j) acc S → wG tg x ρ S fun ρ1 S1 => wC' c ρ1 S1 fun b S2 => BR b (compK e ρ1 S2 fun y S3 => nrmS S3 fun S3' => I (k + j + 1) (acc ++ [y]) S3') (I (k + j + 1) acc S2)) →
    (∀ acc S, I (k + xs.length) acc S → Q acc S) → WK tg c e ρ xs acc S Q
  | [], k, acc, S, h, _, f => WK.nil (f acc S h)
  | x :: xs, k, acc, S, h, st, f => by
    obtain ⟨ρ1, S1, e1, h1⟩ := wG_ok tg x ρ S _ (st 0 x acc S rfl h)
    obtain ⟨b, S2, e2, h2⟩ := wC_ok c ρ1 S1 _ h1
    have go : ∀ acc S, I (k + 0 + 1) acc S → WK tg c e ρ xs acc S Q := fun acc S i => WK.invN I (k + 1) i (fun j x acc S hj hi => by
      have := st (j + 1) x acc S (by simpa using hj) (by rw [show k + (j + 1) = k + 1 + j by omega]; exact hi)
      rw [show k + 1 + j + 1 = k + (j + 1) + 1 by omega]
      exact this) (fun acc S i => f acc S (by rw [show k + (x :: xs).length = k + 1 + xs.length by simp; omega]; exact i))
    refine ⟨?_⟩
    unfold compL
    simp only [e1, e2]
    cases b with
    | true =>
      obtain ⟨y, S3, e3, h3⟩ := compK_ok (h2.t rfl)
      simp only [e3]
      exact (go _ _ (nrmS_iff.mp h3)).ok
    | false => exact (go _ _ (h2.f rfl)).ok
/-- items made one by one, each by itself -/
theorem WK.mapI {α : Type} (enc : α → Itm) (f : α → PyData) : ∀ (l : List α) {acc : List PyData}, (∀ a ∈ l, wG tg (enc a) ρ S fun ρ1 S1 => wE e ρ1 S1 fun d S2 => d = .p (f a) ∧ S2 = S) → Q (acc ++ l.map f) S → WK tg .no e ρ (l.map enc) acc S Q
  | [], acc, _, q => WK.nil (by simpa using q)
  | a :: l, acc, h, q => by
    obtain ⟨ρ1, S1, e1, h1⟩ := wG_ok tg _ ρ S _ (h a (List.mem_cons_self ..))
    obtain ⟨d, S2, e2, rfl, eS⟩ := wE_ok e ρ1 S1 _ h1
    rw [eS] at e2
    have z := WK.mapI enc f l (acc := acc ++ [f a]) (fun b hb => h b (List.mem_cons_of_mem _ hb)) (by simpa using q)
    refine ⟨?_⟩
    rw [List.map_cons]
    unfold compL
    simp only [e1, denC, bYes, e2]
    exact z.ok
theorem WK.filtI {α : Type} (enc : α → Itm) (p : α → Bool) (f : α → PyData) : ∀ (l : List α) {acc : List PyData}, (∀ a ∈ l, wG tg (enc a) ρ S fun ρ1 S1 => wC' c ρ1 S1 fun b S2 => b = p a ∧ S2 = S ∧ (p a = true → wE e ρ1 S fun d S3 => d = .p (f a) ∧ S3 = S)) →
    Q (acc ++ (l.filter p).map f) S → WK tg c e ρ (l.map enc) acc S Q
  | [], acc, _, q => WK.nil (by simpa using q)
  | a :: l, acc, h, q => by
    obtain ⟨ρ1, S1, e1, h1⟩ := wG_ok tg _ ρ S _ (h a (List.mem_cons_self ..))
    obtain ⟨d, S2, e2, rfl, eS, h2⟩ := wC_ok c ρ1 S1 _ h1
    rw [eS] at e2
    cases hp : p a with
    | true =>
      obtain ⟨d, S3, e3, rfl, eS3⟩ := wE_ok e ρ1 _ _ (h2 hp)
      rw [eS3] at e3
      have z := WK.filtI enc p f l (acc := acc ++ [f a]) (fun b hb => h b (List.mem_cons_of_mem _ hb)) (by simpa [hp] using q)
      refine ⟨?_⟩
      rw [List.map_cons]
      unfold compL
      simp only [e1, e2, hp, e3]
      exact z.ok
    | false =>
      have z := WK.filtI enc p f l (acc := acc) (fun b hb => h b (List.mem_cons_of_mem _ hb)) (by simpa [hp] using q)
      refine ⟨?_⟩
      rw [List.map_cons]
      unfold compL
      simp only [e1, e2, hp]
      exact z.ok
theorem rowOf_map {α : Type} (enc : α → PyData) (l : List α) : rowOf (l.map enc) = l.map fun a => .one (.p (enc a)) := by
  unfold rowOf; rw [List.map_map]; rfl
theorem WK.map {α : Type} (enc : α → PyData) (f : α → PyData) (l : List α) (h : ∀ a ∈ l, wG tg (.one (.p (enc a))) ρ S fun ρ1 S1 => wE e ρ1 S1 fun d S2 => d = .p (f a) ∧ S2 = S) (q : Q (l.map f) S) : WK tg .no e ρ (rowOf (l.map enc)) [] S Q := by
  rw [rowOf_map]; exact WK.mapI _ f l h (by simpa using q)
theorem WK.filt {α : Type} (enc : α → PyData) (p : α → Bool) (f : α → PyData) (l : List α) (h : ∀ a ∈ l, wG tg (.one (.p (enc a))) ρ S fun ρ1 S1 => wC' c ρ1 S1 fun b S2 => b = p a ∧ S2 = S ∧ (p a = true → wE e ρ1 S fun d S3 => d = .p (f a) ∧ S3 = S))
    (q : Q ((l.filter p).map f) S) : WK tg c e ρ (rowOf (l.map enc)) [] S Q := by
  rw [rowOf_map]; exact WK.filtI _ p f l h (by simpa using q)
/-- a comprehension over a list of the store that it does not turn -/
theorem WKR.filtI {α : Type} {n : Nat} (enc : α → PyData) (p : α → Bool) (f : α → PyData) (l : List α) (hS : S[n]? = some (.lst (l.map enc)))
    (h : ∀ a ∈ l, wG tg (.one (.p (enc a))) ρ S fun ρ1 S1 => wC' c ρ1 S1 fun b S2 => b = p a ∧ S2 = S ∧ (p a = true → wE e ρ1 S fun d S3 => d = .p (f a) ∧ S3 = S)) :
    ∀ (fu i : Nat) {acc : List PyData}, l.length < i + fu → i ≤ l.length → Q (acc ++ ((l.drop i).filter p).map f) S → WKR tg c e ρ n fu i acc S Q
  | 0, i, acc, h1, h2, _ => by omega
  | fu + 1, i, acc, h1, h2, q => by
    refine ⟨?_⟩
    unfold compR
    simp only [hS]
    by_cases hi : i < l.length
    · have e0 : (l.map enc)[i]? = some (enc l[i]) := by simp [hi]
      obtain ⟨ρ1, S1, e1, h3⟩ := wG_ok tg _ ρ S _ (h l[i] (List.getElem_mem hi))
      obtain ⟨d, S2, e2, rfl, eS, h4⟩ := wC_ok c ρ1 S1 _ h3
      rw [eS] at e2
      have ed : l.drop i = l[i] :: l.drop (i + 1) := by rw [List.drop_eq_getElem_cons hi]
      rw [ed] at q
      simp only [e0, e1]
      cases hp : p l[i] with
      | true =>
        obtain ⟨d, S3, e3, rfl, eS3⟩ := wE_ok e ρ1 _ _ (h4 hp)
        rw [eS3] at e3
        have z := WKR.filtI enc p f l hS h fu (i + 1) (acc := acc ++ [f l[i]]) (by omega) hi (by rw [List.filter_cons_of_pos hp, List.map_cons] at q; rw [List.append_assoc]; exact q)
        rw [hp] at e2
        simp only [e2, e3]
        exact z.ok
      | false =>
        have z := WKR.filtI enc p f l hS h fu (i + 1) (acc := acc) (by omega) hi (by rw [List.filter_cons_of_neg (by rw [hp]; exact Bool.false_ne_true)] at q; exact q)
        rw [hp] at e2
        simp only [e2]
        exact z.ok
    · have e0 : (l.map enc)[i]? = none := by simp; omega
      have ed : l.drop i = [] := List.drop_eq_nil_of_le (by omega)
      rw [ed] at q
      simp only [e0]
      exact ⟨_, _, rfl, by simpa using q⟩
theorem WKR.filt {α : Type} {n : Nat} (enc : α → PyData) (p : α → Bool) (f : α → PyData) (l : List α) (hS : S[n]? = some (.lst (l.map enc))) (hl : l.length < 1000000)
    (h : ∀ a ∈ l, wG tg (.one (.p (enc a))) ρ S fun ρ1 S1 => wC' c ρ1 S1 fun b S2 => b = p a ∧ S2 = S ∧ (p a = true → wE e ρ1 S fun d S3 => d = .p (f a) ∧ S3 = S)) (q : Q ((l.filter p).map f) S) : WKR tg c e ρ n cap 0 [] S Q :=
  WKR.filtI enc p f l hS h cap 0 (by unfold cap; omega) (Nat.zero_le _) (by simpa using q)
theorem WL.map {α : Type} {ws : List Nat} {b : Ss} {Q : Out → Sto → Prop} (enc : α → PyData) (l : List α) (h : WL tg ws b (l.map fun a => .one (.p (enc a))) ρ S Q) : WL tg ws b (rowOf (l.map enc)) ρ S Q := by
  rw [rowOf_map]; exact h
end
/-! ## defs -/
def rtV : Out → Option PyData
  | .rt (.p d) => some d
  | .nx _ => some .none
  | _ => none
theorem runF_of {n N : Nat} {ir : Ss} {ds : List D} {S : Sto} {v : PyData} (hl : ds.length = n) (h : Ok (denSs ir (ds.map some ++ List.replicate (N - n) none) S) fun o _ => rtV o = some v) : ∃ S1, runF n N (denSs ir) ds S = some (.p v, S1) := by
  obtain ⟨o, S1, e, q⟩ := h
  refine ⟨S1, ?_⟩
  unfold runF
  rw [if_pos hl, e]
  cases o with
  | rt d =>
    cases d with
    | p d => cases q; rfl
    | r _ => cases q
  | nx _ => cases q; rfl
  | bk _ => cases q
  | ct _ => cases q
/-- a def that turns nothing -/
theorem pure_in {n N : Nat} {ir : Ss} {ds : List D} {S : Sto} {v : PyData} (hr : refsOf ds = []) (hl : ds.length = n) (h : nrmE ((ds.map (locD [])).map some ++ List.replicate (N - n) none) fun ρ => wSs ir ρ [] fun o _ => rtV o = some v) :
    lcall (runF n N (denSs ir)) ds S = some (.p v, S) := by
  obtain ⟨S1, e⟩ := runF_of (ds := ds.map (locD [])) (N := N) (by rw [List.length_map]; exact hl) (wSs_ok ir _ [] _ (nrmE_iff.mp h))
  unfold lcall
  rw [hr]
  show backD S [] (runF n N (denSs ir) (ds.map (locD [])) []) = _
  rw [e]
  simp [backD, putAll]
/-- a def that is handed an object, and data: what it tells and what the object is then -/
def PenOk (B : List D → Sto → Rs D) (ds : List D) (p : Ob) (R : PyData → Ob → Prop) : Prop := Ok (B (.r 0 :: ds) [p]) fun d L => ∃ x p', d = .p x ∧ L.head? = some p' ∧ R x p'
def penOut (R : PyData → Ob → Prop) : Out → Sto → Prop
  | .rt (.p d), p :: _ => R d p
  | .nx _, p :: _ => R .none p
  | _, _ => False
theorem pen_in {n N : Nat} {ir : Ss} {ds : List D} {p : Ob} {R : PyData → Ob → Prop} (hl : (D.r 0 :: ds).length = n) (h : nrmE ((D.r 0 :: ds).map some ++ List.replicate (N - n) none) fun ρ => wSs ir ρ [p] (penOut R)) : PenOk (runF n N (denSs ir)) ds p R := by
  obtain ⟨o, S1, e, q⟩ := wSs_ok ir _ [p] _ (nrmE_iff.mp h)
  unfold PenOk runF
  rw [if_pos hl, e]
  cases S1 with
  | nil => cases o with
    | rt d => cases d <;> exact q.elim
    | nx _ => exact q.elim
    | bk _ => exact q.elim
    | ct _ => exact q.elim
  | cons p' T =>
    cases o with
    | rt d =>
      cases d with
      | p d => exact ⟨_, _, rfl, d, p', rfl, rfl, q⟩
      | r _ => exact q.elim
    | nx _ => exact ⟨_, _, rfl, .none, p', rfl, rfl, q⟩
    | bk _ => exact q.elim
    | ct _ => exact q.elim
theorem locD_p : ∀ {ds : List D} (rs : List Nat), refsOf ds = [] → ds.map (locD rs) = ds
  | [], _, _ => rfl
  | .p d :: r, rs, h => by rw [List.map_cons, locD_p rs (by simpa [refsOf] using h)]; rfl
  | .r n :: r, rs, h => by simp [refsOf] at h
theorem pen_ap {B : List D → Sto → Rs D} {ds : List D} {p : Ob} {R : PyData → Ob → Prop} {k : Nat} {S : Sto} {Q : D → Sto → Prop} (h : PenOk B ds p R) (hp : S[k]? = some p) (hd : refsOf ds = []) (q : ∀ x p', R x p' → nrmS (S.set k p') fun S' => Q (.p x) S') : AP (lcall B (.r k :: ds) S) Q := by
  obtain ⟨d, L, e, x, p', rfl, hL, r⟩ := h
  refine ⟨⟨.p x, S.set k p', ?_, nrmS_iff.mp (q x p' r)⟩⟩
  have hrf : refsOf (.r k :: ds) = [k] := by simp [refsOf, hd]
  unfold lcall
  rw [hrf]
  have hg : getAll S [k] = some [p] := by simp [getAll, hp]
  rw [hg]
  show backD S [k] (B (List.map (locD [k]) (.r k :: ds)) [p]) = _
  rw [List.map_cons, locD_p [k] hd]
  have h0 : locD [k] (.r k) = .r 0 := by simp [locD]
  rw [h0, e]
  cases L with
  | nil => cases hL
  | cons y T => cases hL; simp [backD, putAll]
/-- .. that is handed two objects; the second one is looked at alone -/
theorem pen2_ap {B : List D → Sto → Rs D} {p o : Ob} {R : PyData → Ob → Prop} {k m : Nat} {S : Sto} {Q : D → Sto → Prop} (h : Ok (B [.r 0, .r 1] [p, o]) fun d L => ∃ x p', d = .p x ∧ L.take 2 = [p', o] ∧ R x p') (hp : S[k]? = some p) (ho : S[m]? = some o) (hkm : k ≠ m)
    (q : ∀ x p', R x p' → nrmS (S.set k p') fun S' => Q (.p x) S') : AP (lcall B [.r k, .r m] S) Q := by
  obtain ⟨d, L, e, x, p', rfl, hL, r⟩ := h
  have hb : (m == k) = false := by simpa using fun z => hkm z.symm
  have hrf : refsOf [.r k, .r m] = [k, m] := by simp [refsOf, hb]
  have hg : getAll S [k, m] = some [p, o] := by simp [getAll, hp, ho]
  have e0 : (k == m) = false := by simpa using hkm
  have hloc : [D.r k, D.r m].map (locD [k, m]) = [.r 0, .r 1] := by
    simp [locD, List.idxOf_cons, e0]
  refine ⟨⟨.p x, S.set k p', ?_, nrmS_iff.mp (q x p' r)⟩⟩
  unfold lcall
  rw [hrf, hg]
  show backD S [k, m] (B (List.map (locD [k, m]) [.r k, .r m]) [p, o]) = _
  rw [hloc, e]
  match L, hL with
  | a :: b :: T, hL =>
    have ha : a = p' ∧ b = o := by simpa using hL
    obtain ⟨rfl, rfl⟩ := ha
    show some (D.p x, (S.set m b).set k a) = _
    congr 2
    have : S.set m b = S := by
      refine List.ext_getElem? fun i => ?_
      by_cases c : m = i
      · subst c; rw [List.getElem?_set_self (List.getElem?_eq_some_iff.mp ho).1, ho]
      · rw [List.getElem?_set_ne c]
    rw [this]
/-- a def that makes a new object of data -/
theorem new_ap {n N : Nat} {ir : Ss} {ds : List D} {S : Sto} {Q : D → Sto → Prop} (hr : refsOf ds = []) (hl : ds.length = n)
    (h : nrmE ((ds.map (locD [])).map some ++ List.replicate (N - n) none) fun ρ => wSs ir ρ [] fun o S1 => match o with
      | .rt (.r j) => (match S1[j]? with
        | some ob => nrmD (.r S.length) fun d => nrmS (S ++ [ob]) fun S' => Q d S'
        | none => False)
      | _ => False) : AP (lcall (runF n N (denSs ir)) ds S) Q := by
  obtain ⟨o, S1, e, q⟩ := wSs_ok ir _ [] _ (nrmE_iff.mp h)
  cases o with
  | rt d =>
    cases d with
    | p d => exact q.elim
    | r j =>
      simp only at q
      split at q
      · rename_i ob ho
        refine ⟨⟨.r S.length, S ++ [ob], ?_, nrmS_iff.mp (nrmD_iff.mp q)⟩⟩
        unfold lcall
        rw [hr]
        show backD S [] (runF n N (denSs ir) (ds.map (locD [])) []) = _
        unfold runF
        rw [if_pos (by rw [List.length_map]; exact hl), e]
        simp [backD, putAll, ho]
      · exact q.elim
  | nx _ => exact q.elim
  | bk _ => exact q.elim
  | ct _ => exact q.elim
end Tm
namespace Tm.Pg
open PySem Tm Tm.Pg
/-! ### are_some (0 thing, 1 low, 2 high) -/
def ir_are_some : Ss := (.cons (.ret (.and (.cons (.isa (.var 0) "tuple") (.cons (.chn .le .le (.var 1) (.prim .len (.cons (.var 0) .nil)) (.var 2)) .nil))))
    .nil)
def B_are_some : List D → Sto → Rs D := runF 3 3 (denSs ir_are_some)
@[irreducible] def F_are_some : List D → Sto → Rs D := lcall B_are_some
/-! ### is_whole (0 thing) -/
def ir_is_whole : Ss := (.cons (.ret (.and (.cons (.isa (.var 0) "int") (.cons (.not (.isa (.var 0) "bool")) .nil))))
    .nil)
def B_is_whole : List D → Sto → Rs D := runF 1 1 (denSs ir_is_whole)
@[irreducible] def F_is_whole : List D → Sto → Rs D := lcall B_is_whole
/-! ### is_among (0 thing, 1 low, 2 high) -/
def ir_is_among : Ss := (.cons (.ret (.and (.cons (.call (Str.ofString "is_whole") 1 F_is_whole (.cons (.var 0) .nil)) (.cons (.chn .le .le (.var 1) (.var 0) (.var 2)) .nil))))
    .nil)
def B_is_among : List D → Sto → Rs D := runF 3 3 (denSs ir_is_among)
@[irreducible] def F_is_among : List D → Sto → Rs D := lcall B_is_among
/-! ### is_lying (0 thing, 1 low, 2 north, 3 east, 4 odd, 5 face) -/
def ir_is_lying : Ss := (.cons (.ife (.or (.cons (.not (.call (Str.ofString "are_some") 3 F_are_some (.cons (.var 0) (.cons (.int 3) (.cons (.int 3) .nil))))) (.cons (.not (.prim .all (.cons (.comp false (.val (.var 0)) (.nm 5) .no (.call (Str.ofString "is_among") 3 F_is_among (.cons (.var 5) (.cons (.int 0) (.cons (.glob (Str.ofString "LAST_FACE") (.int (5))) .nil)))) [((Str.ofString "face"), 5)]) .nil))) .nil)))
    (.cons (.ret (.bl false))
    .nil)
    .nil)
    (.cons (.asg (.tup 3 (.cons (.nm 1) (.cons (.nm 2) (.cons (.nm 3) .nil)))) (.comp false (.val (.var 0)) (.nm 5) .no (.prim .min2 (.cons (.var 5) (.cons (.bin .sub (.glob (Str.ofString "LAST_FACE") (.int (5))) (.var 5)) .nil))) [((Str.ofString "face"), 5)]))
    (.cons (.ife (.or (.cons (.cmp .eq (.var 1) (.var 2)) (.cons (.cmp .eq (.var 1) (.var 3)) (.cons (.cmp .eq (.var 2) (.var 3)) .nil))))
    (.cons (.ret (.bl false))
    .nil)
    .nil)
    (.cons (.asg (.nm 4) (.bin .add (.bin .add (.prim .int (.cons (.cmp .gt (.var 1) (.var 2)) .nil)) (.prim .int (.cons (.cmp .gt (.var 1) (.var 3)) .nil))) (.prim .int (.cons (.cmp .gt (.var 2) (.var 3)) .nil))))
    (.cons (.ret (.cmp .eq (.bin .mod (.bin .add (.var 4) (.prim .len (.cons (.comp false (.val (.var 0)) (.nm 5) (.yes (.cmp .gt (.var 5) (.bin .div (.glob (Str.ofString "LAST_FACE") (.int (5))) (.int 2)))) (.var 5) [((Str.ofString "face"), 5)]) .nil))) (.int 2)) (.int 0)))
    .nil)))))
def B_is_lying : List D → Sto → Rs D := runF 1 6 (denSs ir_is_lying)
@[irreducible] def F_is_lying : List D → Sto → Rs D := lcall B_is_lying
/-! ### rises (0 thing, 1 one, 2 later) -/
def ir_rises : Ss := (.cons (.ret (.prim .all (.cons (.comp false (.zip (.cons (.var 0) (.cons (.sl (.var 0) (.yes (.int 1)) .no) .nil))) (.tup 2 (.cons (.nm 1) (.cons (.nm 2) .nil))) .no (.cmp .lt (.var 1) (.var 2)) [((Str.ofString "one"), 1), ((Str.ofString "later"), 2)]) .nil)))
    .nil)
def B_rises : List D → Sto → Rs D := runF 1 3 (denSs ir_rises)
@[irreducible] def F_rises : List D → Sto → Rs D := lcall B_rises
/-! ### is_cell (0 thing, 1 one) -/
def ir_is_cell : Ss := (.cons (.ret (.and (.cons (.call (Str.ofString "are_some") 3 F_are_some (.cons (.var 0) (.cons (.int 2) (.cons (.int 2) .nil)))) (.cons (.prim .all (.cons (.comp false (.val (.var 0)) (.nm 1) .no (.call (Str.ofString "is_among") 3 F_is_among (.cons (.var 1) (.cons (.int 0) (.cons (.glob (Str.ofString "MOST_WIDE") (.int (3))) .nil)))) [((Str.ofString "one"), 1)]) .nil)) .nil))))
    .nil)
def B_is_cell : List D → Sto → Rs D := runF 1 2 (denSs ir_is_cell)
@[irreducible] def F_is_cell : List D → Sto → Rs D := lcall B_is_cell
/-! ### is_floor (0 thing, 1 cell) -/
def ir_is_floor : Ss := (.cons (.ret (.and (.cons (.call (Str.ofString "are_some") 3 F_are_some (.cons (.var 0) (.cons (.int 1) (.cons (.glob (Str.ofString "MOST_CELLS") (.int (9))) .nil)))) (.cons (.prim .all (.cons (.comp false (.val (.var 0)) (.nm 1) .no (.call (Str.ofString "is_cell") 1 F_is_cell (.cons (.var 1) .nil)) [((Str.ofString "cell"), 1)]) .nil)) (.cons (.call (Str.ofString "rises") 1 F_rises (.cons (.var 0) .nil)) .nil)))))
    .nil)
def B_is_floor : List D → Sto → Rs D := runF 1 2 (denSs ir_is_floor)
@[irreducible] def F_is_floor : List D → Sto → Rs D := lcall B_is_floor
/-! ### need_lying (0 thing) -/
def ir_need_lying : Ss := (.cons (.ife (.not (.call (Str.ofString "is_lying") 1 F_is_lying (.cons (.var 0) .nil)))
    (.cons .never
    .nil)
    .nil)
    .nil)
def B_need_lying : List D → Sto → Rs D := runF 1 1 (denSs ir_need_lying)
@[irreducible] def F_need_lying : List D → Sto → Rs D := lcall B_need_lying
/-! ### is_letter (0 thing) -/
def ir_is_letter : Ss := (.cons (.ret (.and (.cons (.isa (.var 0) "str") (.cons (.cmp .eq (.prim .len (.cons (.var 0) .nil)) (.int 1)) (.cons (.cmp .isin (.var 0) (.glob (Str.ofString "LETTERS") (.str (Str.ofString "ensw")))) .nil)))))
    .nil)
def B_is_letter : List D → Sto → Rs D := runF 1 1 (denSs ir_is_letter)
@[irreducible] def F_is_letter : List D → Sto → Rs D := lcall B_is_letter
/-! ### need_letter (0 thing) -/
def ir_need_letter : Ss := (.cons (.ife (.not (.call (Str.ofString "is_letter") 1 F_is_letter (.cons (.var 0) .nil)))
    (.cons .never
    .nil)
    .nil)
    .nil)
def B_need_letter : List D → Sto → Rs D := runF 1 1 (denSs ir_need_letter)
@[irreducible] def F_need_letter : List D → Sto → Rs D := lcall B_need_letter
/-! ### rolled (0 lying, 1 letter, 2 low, 3 north, 4 east) -/
def ir_rolled : Ss := (.cons (.asg (.tup 3 (.cons (.nm 2) (.cons (.nm 3) (.cons (.nm 4) .nil)))) (.var 0))
    (.cons (.ife (.cmp .eq (.var 1) (.str (Str.ofString "n")))
    (.cons (.ret (.tup (.cons (.var 3) (.cons (.bin .sub (.glob (Str.ofString "LAST_FACE") (.int (5))) (.var 2)) (.cons (.var 4) .nil)))))
    .nil)
    .nil)
    (.cons (.ife (.cmp .eq (.var 1) (.str (Str.ofString "s")))
    (.cons (.ret (.tup (.cons (.bin .sub (.glob (Str.ofString "LAST_FACE") (.int (5))) (.var 3)) (.cons (.var 2) (.cons (.var 4) .nil)))))
    .nil)
    .nil)
    (.cons (.ife (.cmp .eq (.var 1) (.str (Str.ofString "e")))
    (.cons (.ret (.tup (.cons (.var 4) (.cons (.var 3) (.cons (.bin .sub (.glob (Str.ofString "LAST_FACE") (.int (5))) (.var 2)) .nil)))))
    .nil)
    .nil)
    (.cons (.ret (.tup (.cons (.bin .sub (.glob (Str.ofString "LAST_FACE") (.int (5))) (.var 4)) (.cons (.var 3) (.cons (.var 2) .nil)))))
    .nil)))))
def B_rolled : List D → Sto → Rs D := runF 2 5 (denSs ir_rolled)
@[irreducible] def F_rolled : List D → Sto → Rs D := lcall B_rolled
/-! ### lying_behind (0 lying, 1 letter) -/
def ir_lying_behind : Ss := (.cons (.expr (.call (Str.ofString "need_lying") 1 F_need_lying (.cons (.var 0) .nil)))
    (.cons (.expr (.call (Str.ofString "need_letter") 1 F_need_letter (.cons (.var 1) .nil)))
    (.cons (.ret (.call (Str.ofString "rolled") 2 F_rolled (.cons (.var 0) (.cons (.var 1) .nil))))
    .nil)))
def B_lying_behind : List D → Sto → Rs D := runF 2 2 (denSs ir_lying_behind)
@[irreducible] def F_lying_behind : List D → Sto → Rs D := lcall B_lying_behind
/-! ### need_floor (0 thing) -/
def ir_need_floor : Ss := (.cons (.ife (.not (.call (Str.ofString "is_floor") 1 F_is_floor (.cons (.var 0) .nil)))
    (.cons .never
    .nil)
    .nil)
    .nil)
def B_need_floor : List D → Sto → Rs D := runF 1 1 (denSs ir_need_floor)
@[irreducible] def F_need_floor : List D → Sto → Rs D := lcall B_need_floor
/-! ### is_cell_of (0 floor, 1 thing) -/
def ir_is_cell_of : Ss := (.cons (.ret (.and (.cons (.call (Str.ofString "is_cell") 1 F_is_cell (.cons (.var 1) .nil)) (.cons (.cmp .isin (.var 1) (.var 0)) .nil))))
    .nil)
def B_is_cell_of : List D → Sto → Rs D := runF 2 2 (denSs ir_is_cell_of)
@[irreducible] def F_is_cell_of : List D → Sto → Rs D := lcall B_is_cell_of
/-! ### need_cell (0 floor, 1 thing) -/
def ir_need_cell : Ss := (.cons (.ife (.not (.call (Str.ofString "is_cell_of") 2 F_is_cell_of (.cons (.var 0) (.cons (.var 1) .nil))))
    (.cons .never
    .nil)
    .nil)
    .nil)
def B_need_cell : List D → Sto → Rs D := runF 2 2 (denSs ir_need_cell)
@[irreducible] def F_need_cell : List D → Sto → Rs D := lcall B_need_cell
/-! ### need_row (0 thing, 1 letter) -/
def ir_need_row : Ss := (.cons (.ife (.or (.cons (.not (.isa (.var 0) "str")) (.cons (.not (.prim .all (.cons (.comp false (.val (.var 0)) (.nm 1) .no (.cmp .isin (.var 1) (.glob (Str.ofString "LETTERS") (.str (Str.ofString "ensw")))) [((Str.ofString "letter"), 1)]) .nil))) .nil)))
    (.cons .never
    .nil)
    .nil)
    .nil)
def B_need_row : List D → Sto → Rs D := runF 1 2 (denSs ir_need_row)
@[irreducible] def F_need_row : List D → Sto → Rs D := lcall B_need_row
/-! ### beside (0 cell, 1 letter, 2 across, 3 up) -/
def ir_beside : Ss := (.cons (.asg (.tup 2 (.cons (.nm 2) (.cons (.nm 3) .nil))) (.dix (Str.ofString "STEPS") [((Str.ofString "e"), (.tuple [(.int (1)), (.int (0))])), ((Str.ofString "n"), (.tuple [(.int (0)), (.int (1))])), ((Str.ofString "s"), (.tuple [(.int (0)), (.int (-1))])), ((Str.ofString "w"), (.tuple [(.int (-1)), (.int (0))]))] (.var 1)))
    (.cons (.ret (.tup (.cons (.bin .add (.ix (.var 0) (.int 0)) (.var 2)) (.cons (.bin .add (.ix (.var 0) (.int 1)) (.var 3)) .nil))))
    .nil))
def B_beside : List D → Sto → Rs D := runF 2 4 (denSs ir_beside)
@[irreducible] def F_beside : List D → Sto → Rs D := lcall B_beside
/-! ### off_at (0 floor, 1 cell, 2 row, 3 number, 4 letter) -/
def b_off_at_1 : Ss := (.cons (.asg (.nm 1) (.call (Str.ofString "beside") 2 F_beside (.cons (.var 1) (.cons (.var 4) .nil))))
    (.cons (.ife (.cmp .notin (.var 1) (.var 0))
    (.cons (.ret (.var 3))
    .nil)
    .nil)
    .nil))
abbrev L_off_at_1 := WL (.tup 2 (.cons (.nm 3) (.cons (.nm 4) .nil))) [3, 4] b_off_at_1
def ir_off_at : Ss := (.cons (.loop (.tup 2 (.cons (.nm 3) (.cons (.nm 4) .nil))) (.enum (.var 2)) b_off_at_1 [3, 4])
    (.cons (.ret .non)
    .nil))
def B_off_at : List D → Sto → Rs D := runF 3 5 (denSs ir_off_at)
@[irreducible] def F_off_at : List D → Sto → Rs D := lcall B_off_at
/-! ### need_let (0 floor, 1 cell, 2 row) -/
def ir_need_let : Ss := (.cons (.ife (.cmp .isnot (.call (Str.ofString "off_at") 3 F_off_at (.cons (.var 0) (.cons (.var 1) (.cons (.var 2) .nil)))) .non)
    (.cons .never
    .nil)
    .nil)
    .nil)
def B_need_let : List D → Sto → Rs D := runF 3 3 (denSs ir_need_let)
@[irreducible] def F_need_let : List D → Sto → Rs D := lcall B_need_let
/-! ### stand_by (0 stand, 1 row, 2 cell, 3 lying, 4 letter) -/
def b_stand_by_1 : Ss := (.cons (.par (.cons (.nm 2) (.cons (.nm 3) .nil)) (.cons (.call (Str.ofString "beside") 2 F_beside (.cons (.var 2) (.cons (.var 4) .nil))) (.cons (.call (Str.ofString "rolled") 2 F_rolled (.cons (.var 3) (.cons (.var 4) .nil))) .nil)))
    .nil)
abbrev L_stand_by_1 := WL (.nm 4) [4] b_stand_by_1
def ir_stand_by : Ss := (.cons (.asg (.tup 2 (.cons (.nm 2) (.cons (.nm 3) .nil))) (.var 0))
    (.cons (.loop (.nm 4) (.val (.var 1)) b_stand_by_1 [4])
    (.cons (.ret (.tup (.cons (.var 2) (.cons (.var 3) .nil))))
    .nil)))
def B_stand_by : List D → Sto → Rs D := runF 2 5 (denSs ir_stand_by)
@[irreducible] def F_stand_by : List D → Sto → Rs D := lcall B_stand_by
/-! ### stand_behind (0 floor, 1 cell, 2 lying, 3 row) -/
def ir_stand_behind : Ss := (.cons (.expr (.call (Str.ofString "need_floor") 1 F_need_floor (.cons (.var 0) .nil)))
    (.cons (.expr (.call (Str.ofString "need_cell") 2 F_need_cell (.cons (.var 0) (.cons (.var 1) .nil))))
    (.cons (.expr (.call (Str.ofString "need_lying") 1 F_need_lying (.cons (.var 2) .nil)))
    (.cons (.expr (.call (Str.ofString "need_row") 1 F_need_row (.cons (.var 3) .nil)))
    (.cons (.expr (.call (Str.ofString "need_let") 3 F_need_let (.cons (.var 0) (.cons (.var 1) (.cons (.var 3) .nil)))))
    (.cons (.ret (.call (Str.ofString "stand_by") 2 F_stand_by (.cons (.tup (.cons (.var 1) (.cons (.var 2) .nil))) (.cons (.var 3) .nil))))
    .nil))))))
def B_stand_behind : List D → Sto → Rs D := runF 4 4 (denSs ir_stand_behind)
@[irreducible] def F_stand_behind : List D → Sto → Rs D := lcall B_stand_behind
/-! ### first_off (0 floor, 1 cell, 2 row) -/
def ir_first_off : Ss := (.cons (.expr (.call (Str.ofString "need_floor") 1 F_need_floor (.cons (.var 0) .nil)))
    (.cons (.expr (.call (Str.ofString "need_cell") 2 F_need_cell (.cons (.var 0) (.cons (.var 1) .nil))))
    (.cons (.expr (.call (Str.ofString "need_row") 1 F_need_row (.cons (.var 2) .nil)))
    (.cons (.ret (.call (Str.ofString "off_at") 3 F_off_at (.cons (.var 0) (.cons (.var 1) (.cons (.var 2) .nil)))))
    .nil))))
def B_first_off : List D → Sto → Rs D := runF 3 3 (denSs ir_first_off)
@[irreducible] def F_first_off : List D → Sto → Rs D := lcall B_first_off
/-! ### often_by (0 floor, 1 cell, 2 row, 3 begin, 4 found) -/
def b_often_by_1 : Ss := (.cons (.par (.cons (.nm 1) (.cons (.nm 4) .nil)) (.cons (.ix (.call (Str.ofString "stand_by") 2 F_stand_by (.cons (.tup (.cons (.var 1) (.cons (.glob (Str.ofString "ANY") (.tuple [(.int (0)), (.int (1)), (.int (2))])) .nil))) (.cons (.var 2) .nil))) (.int 0)) (.cons (.bin .add (.var 4) (.int 1)) .nil)))
    (.cons (.ife (.cmp .eq (.var 1) (.var 3))
    (.cons (.ret .non)
    .nil)
    .nil)
    .nil))
abbrev L_often_by_1 := WH (.cmp .is (.call (Str.ofString "off_at") 3 F_off_at (.cons (.var 0) (.cons (.var 1) (.cons (.var 2) .nil)))) .non) [] b_often_by_1
def ir_often_by : Ss := (.cons (.par (.cons (.nm 3) (.cons (.nm 4) .nil)) (.cons (.var 1) (.cons (.int 0) .nil)))
    (.cons (.whl (.cmp .is (.call (Str.ofString "off_at") 3 F_off_at (.cons (.var 0) (.cons (.var 1) (.cons (.var 2) .nil)))) .non) b_often_by_1 [])
    (.cons (.ret (.var 4))
    .nil)))
def B_often_by : List D → Sto → Rs D := runF 3 5 (denSs ir_often_by)
@[irreducible] def F_often_by : List D → Sto → Rs D := lcall B_often_by
/-! ### how_often (0 floor, 1 cell, 2 row) -/
def ir_how_often : Ss := (.cons (.expr (.call (Str.ofString "need_floor") 1 F_need_floor (.cons (.var 0) .nil)))
    (.cons (.expr (.call (Str.ofString "need_cell") 2 F_need_cell (.cons (.var 0) (.cons (.var 1) .nil))))
    (.cons (.expr (.call (Str.ofString "need_row") 1 F_need_row (.cons (.var 2) .nil)))
    (.cons (.ret (.call (Str.ofString "often_by") 3 F_often_by (.cons (.var 0) (.cons (.var 1) (.cons (.var 2) .nil)))))
    .nil))))
def B_how_often : List D → Sto → Rs D := runF 3 3 (denSs ir_how_often)
@[irreducible] def F_how_often : List D → Sto → Rs D := lcall B_how_often
/-! ### is_stand (0 floor, 1 thing) -/
def ir_is_stand : Ss := (.cons (.ret (.and (.cons (.call (Str.ofString "are_some") 3 F_are_some (.cons (.var 1) (.cons (.int 2) (.cons (.int 2) .nil)))) (.cons (.call (Str.ofString "is_cell_of") 2 F_is_cell_of (.cons (.var 0) (.cons (.ix (.var 1) (.int 0)) .nil))) (.cons (.call (Str.ofString "is_lying") 1 F_is_lying (.cons (.ix (.var 1) (.int 1)) .nil)) .nil)))))
    .nil)
def B_is_stand : List D → Sto → Rs D := runF 2 2 (denSs ir_is_stand)
@[irreducible] def F_is_stand : List D → Sto → Rs D := lcall B_is_stand
/-! ### need_stand (0 floor, 1 thing) -/
def ir_need_stand : Ss := (.cons (.expr (.call (Str.ofString "need_floor") 1 F_need_floor (.cons (.var 0) .nil)))
    (.cons (.ife (.not (.call (Str.ofString "is_stand") 2 F_is_stand (.cons (.var 0) (.cons (.var 1) .nil))))
    (.cons .never
    .nil)
    .nil)
    .nil))
def B_need_stand : List D → Sto → Rs D := runF 2 2 (denSs ir_need_stand)
@[irreducible] def F_need_stand : List D → Sto → Rs D := lcall B_need_stand
/-! ### need_often (0 floor, 1 stand, 2 row, 3 times, 4 often) -/
def ir_need_often : Ss := (.cons (.expr (.call (Str.ofString "need_stand") 2 F_need_stand (.cons (.var 0) (.cons (.var 1) .nil))))
    (.cons (.expr (.call (Str.ofString "need_row") 1 F_need_row (.cons (.var 2) .nil)))
    (.cons (.ife (.not (.call (Str.ofString "is_among") 3 F_is_among (.cons (.var 3) (.cons (.int 0) (.cons (.glob (Str.ofString "MOST_TIMES") (.int (1000000000000))) .nil)))))
    (.cons .never
    .nil)
    .nil)
    (.cons (.asg (.nm 4) (.call (Str.ofString "often_by") 3 F_often_by (.cons (.var 0) (.cons (.ix (.var 1) (.int 0)) (.cons (.var 2) .nil)))))
    (.cons (.ife (.and (.cons (.cmp .isnot (.var 4) .non) (.cons (.cmp .lt (.var 4) (.var 3)) .nil)))
    (.cons .never
    .nil)
    .nil)
    .nil)))))
def B_need_often : List D → Sto → Rs D := runF 4 5 (denSs ir_need_often)
@[irreducible] def F_need_often : List D → Sto → Rs D := lcall B_need_often
/-! ### turn_of (0 stand, 1 row, 2 many, 3 later) -/
def b_turn_of_1 : Ss := (.cons (.par (.cons (.nm 2) (.cons (.nm 3) .nil)) (.cons (.bin .add (.var 2) (.int 1)) (.cons (.call (Str.ofString "stand_by") 2 F_stand_by (.cons (.var 3) (.cons (.var 1) .nil))) .nil)))
    .nil)
abbrev L_turn_of_1 := WH (.cmp .ne (.ix (.var 3) (.int 1)) (.ix (.var 0) (.int 1))) [] b_turn_of_1
def ir_turn_of : Ss := (.cons (.par (.cons (.nm 2) (.cons (.nm 3) .nil)) (.cons (.int 1) (.cons (.call (Str.ofString "stand_by") 2 F_stand_by (.cons (.var 0) (.cons (.var 1) .nil))) .nil)))
    (.cons (.whl (.cmp .ne (.ix (.var 3) (.int 1)) (.ix (.var 0) (.int 1))) b_turn_of_1 [])
    (.cons (.ret (.var 2))
    .nil)))
def B_turn_of : List D → Sto → Rs D := runF 2 4 (denSs ir_turn_of)
@[irreducible] def F_turn_of : List D → Sto → Rs D := lcall B_turn_of
/-! ### rounds_by (0 moves, 1 found, 2 met, 3 spot, 4 own) -/
def b_rounds_by_1 : Ss := (.cons (.asg (.sub (.var 2) (.var 3)) (.bl true))
    (.cons (.expr (.meth .append (.var 4) (.cons (.var 3) .nil)))
    (.cons (.asg (.nm 3) (.ix (.var 0) (.var 3)))
    .nil)))
def b_rounds_by_2 : Ss := (.cons (.asg (.nm 4) (.lst true .nil))
    (.cons (.whl (.cmp .notin (.var 3) (.var 2)) b_rounds_by_1 [])
    (.cons (.ife (.cmp .gt (.prim .len (.cons (.var 4) .nil)) (.int 1))
    (.cons (.expr (.meth .append (.var 1) (.cons (.prim .tuple (.cons (.var 4) .nil)) .nil)))
    .nil)
    .nil)
    .nil)))
abbrev L_rounds_by_1 := WH (.cmp .notin (.var 3) (.var 2)) [] b_rounds_by_1
abbrev L_rounds_by_2 := WL (.nm 3) [3, 4] b_rounds_by_2
def ir_rounds_by : Ss := (.cons (.par (.cons (.nm 1) (.cons (.nm 2) .nil)) (.cons (.lst true .nil) (.cons (.dnew true) .nil)))
    (.cons (.loop (.nm 3) (.r1 (.cons (.prim .len (.cons (.var 0) .nil)) .nil)) b_rounds_by_2 [3, 4])
    (.cons (.ret (.prim .tuple (.cons (.var 1) .nil)))
    .nil)))
def B_rounds_by : List D → Sto → Rs D := runF 1 5 (denSs ir_rounds_by)
@[irreducible] def F_rounds_by : List D → Sto → Rs D := lcall B_rounds_by
/-! ### common (0 one, 1 other) -/
def b_common_1 : Ss := (.cons (.par (.cons (.nm 0) (.cons (.nm 1) .nil)) (.cons (.var 1) (.cons (.bin .mod (.var 0) (.var 1)) .nil)))
    .nil)
abbrev L_common_1 := WH (.cmp .gt (.var 1) (.int 0)) [] b_common_1
def ir_common : Ss := (.cons (.whl (.cmp .gt (.var 1) (.int 0)) b_common_1 [])
    (.cons (.ret (.var 0))
    .nil))
def B_common : List D → Sto → Rs D := runF 2 2 (denSs ir_common)
@[irreducible] def F_common : List D → Sto → Rs D := lcall B_common
/-! ### order_by (0 moves, 1 found, 2 own) -/
def b_order_by_1 : Ss := (.cons (.asg (.nm 1) (.bin .div (.bin .mul (.var 1) (.prim .len (.cons (.var 2) .nil))) (.call (Str.ofString "common") 2 F_common (.cons (.var 1) (.cons (.prim .len (.cons (.var 2) .nil)) .nil)))))
    .nil)
abbrev L_order_by_1 := WL (.nm 2) [2] b_order_by_1
def ir_order_by : Ss := (.cons (.asg (.nm 1) (.int 1))
    (.cons (.loop (.nm 2) (.val (.call (Str.ofString "rounds_by") 1 F_rounds_by (.cons (.var 0) .nil))) b_order_by_1 [2])
    (.cons (.ret (.var 1))
    .nil)))
def B_order_by : List D → Sto → Rs D := runF 1 3 (denSs ir_order_by)
@[irreducible] def F_order_by : List D → Sto → Rs D := lcall B_order_by
/-! ### turned_round (0 moves, 1 spot) -/
def ir_turned_round : Ss := (.cons (.ret (.prim .tuple (.cons (.comp false (.r1 (.cons (.prim .len (.cons (.var 0) .nil)) .nil)) (.nm 1) .no (.idx (.var 0) (.cons (.var 1) .nil)) [((Str.ofString "spot"), 1)]) .nil)))
    .nil)
def B_turned_round : List D → Sto → Rs D := runF 1 2 (denSs ir_turned_round)
@[irreducible] def F_turned_round : List D → Sto → Rs D := lcall B_turned_round
/-! ### traded (0 floor, 1 stand, 2 row, 3 marks, 4 found, 5 cell, 6 lying, 7 letter, 8 here, 9 low) -/
def b_traded_1 : Ss := (.cons (.par (.cons (.nm 5) (.cons (.nm 6) .nil)) (.cons (.call (Str.ofString "beside") 2 F_beside (.cons (.var 5) (.cons (.var 7) .nil))) (.cons (.call (Str.ofString "rolled") 2 F_rolled (.cons (.var 6) (.cons (.var 7) .nil))) .nil)))
    (.cons (.par (.cons (.nm 8) (.cons (.nm 9) .nil)) (.cons (.bin .add (.glob (Str.ofString "FACES") (.int (6))) (.idx (.var 0) (.cons (.var 5) .nil))) (.cons (.ix (.var 6) (.int 0)) .nil)))
    (.cons (.par (.cons (.sub (.var 4) (.var 8)) (.cons (.sub (.var 4) (.var 9)) .nil)) (.cons (.ix (.var 4) (.var 9)) (.cons (.ix (.var 4) (.var 8)) .nil)))
    .nil)))
abbrev L_traded_1 := WL (.nm 7) [7, 8, 9] b_traded_1
def ir_traded : Ss := (.cons (.par (.cons (.nm 4) (.cons (.tup 2 (.cons (.nm 5) (.cons (.nm 6) .nil))) .nil)) (.cons (.prim .listM (.cons (.var 3) .nil)) (.cons (.var 1) .nil)))
    (.cons (.loop (.nm 7) (.val (.var 2)) b_traded_1 [7, 8, 9])
    (.cons (.ret (.prim .tuple (.cons (.var 4) .nil)))
    .nil)))
def B_traded : List D → Sto → Rs D := runF 4 10 (denSs ir_traded)
@[irreducible] def F_traded : List D → Sto → Rs D := lcall B_traded
/-! ### spots_of (0 floor) -/
def ir_spots_of : Ss := (.cons (.ret (.bin .add (.glob (Str.ofString "FACES") (.int (6))) (.prim .len (.cons (.var 0) .nil))))
    .nil)
def B_spots_of : List D → Sto → Rs D := runF 1 1 (denSs ir_spots_of)
@[irreducible] def F_spots_of : List D → Sto → Rs D := lcall B_spots_of
/-! ### exchange_by (0 floor, 1 stand, 2 row) -/
def ir_exchange_by : Ss := (.cons (.ret (.call (Str.ofString "turned_round") 1 F_turned_round (.cons (.call (Str.ofString "traded") 4 F_traded (.cons (.var 0) (.cons (.var 1) (.cons (.var 2) (.cons (.rng 0 (.cons (.call (Str.ofString "spots_of") 1 F_spots_of (.cons (.var 0) .nil)) .nil)) .nil))))) .nil)))
    .nil)
def B_exchange_by : List D → Sto → Rs D := runF 3 3 (denSs ir_exchange_by)
@[irreducible] def F_exchange_by : List D → Sto → Rs D := lcall B_exchange_by
/-! ### round_by (0 floor, 1 stand, 2 row, 3 many) -/
def ir_round_by : Ss := (.cons (.asg (.nm 3) (.call (Str.ofString "turn_of") 2 F_turn_of (.cons (.var 1) (.cons (.var 2) .nil))))
    (.cons (.ret (.bin .mul (.var 3) (.call (Str.ofString "order_by") 1 F_order_by (.cons (.call (Str.ofString "exchange_by") 3 F_exchange_by (.cons (.var 0) (.cons (.var 1) (.cons (.bin .mul (.var 2) (.var 3)) .nil)))) .nil))))
    .nil))
def B_round_by : List D → Sto → Rs D := runF 3 4 (denSs ir_round_by)
@[irreducible] def F_round_by : List D → Sto → Rs D := lcall B_round_by
/-! ### few_times (0 floor, 1 stand, 2 row, 3 times) -/
def ir_few_times : Ss := (.cons (.ife (.cmp .isnot (.call (Str.ofString "often_by") 3 F_often_by (.cons (.var 0) (.cons (.ix (.var 1) (.int 0)) (.cons (.var 2) .nil)))) .non)
    (.cons (.ret (.var 3))
    .nil)
    .nil)
    (.cons (.ret (.bin .mod (.var 3) (.call (Str.ofString "round_by") 3 F_round_by (.cons (.var 0) (.cons (.var 1) (.cons (.var 2) .nil))))))
    .nil))
def B_few_times : List D → Sto → Rs D := runF 4 4 (denSs ir_few_times)
@[irreducible] def F_few_times : List D → Sto → Rs D := lcall B_few_times
/-! ### stand_far (0 floor, 1 stand, 2 row, 3 times) -/
def ir_stand_far : Ss := (.cons (.expr (.call (Str.ofString "need_often") 4 F_need_often (.cons (.var 0) (.cons (.var 1) (.cons (.var 2) (.cons (.var 3) .nil))))))
    (.cons (.ret (.call (Str.ofString "stand_by") 2 F_stand_by (.cons (.var 1) (.cons (.bin .mul (.var 2) (.call (Str.ofString "few_times") 4 F_few_times (.cons (.var 0) (.cons (.var 1) (.cons (.var 2) (.cons (.var 3) .nil)))))) .nil))))
    .nil))
def B_stand_far : List D → Sto → Rs D := runF 4 4 (denSs ir_stand_far)
@[irreducible] def F_stand_far : List D → Sto → Rs D := lcall B_stand_far
/-! ### round_of (0 floor, 1 stand, 2 row) -/
def ir_round_of : Ss := (.cons (.expr (.call (Str.ofString "need_stand") 2 F_need_stand (.cons (.var 0) (.cons (.var 1) .nil))))
    (.cons (.expr (.call (Str.ofString "need_row") 1 F_need_row (.cons (.var 2) .nil)))
    (.cons (.ife (.cmp .isnot (.call (Str.ofString "often_by") 3 F_often_by (.cons (.var 0) (.cons (.ix (.var 1) (.int 0)) (.cons (.var 2) .nil)))) .non)
    (.cons .never
    .nil)
    .nil)
    (.cons (.ret (.call (Str.ofString "round_by") 3 F_round_by (.cons (.var 0) (.cons (.var 1) (.cons (.var 2) .nil)))))
    .nil))))
def B_round_of : List D → Sto → Rs D := runF 3 3 (denSs ir_round_of)
@[irreducible] def F_round_of : List D → Sto → Rs D := lcall B_round_of
/-! ### exchange_far (0 floor, 1 stand, 2 row, 3 times) -/
def ir_exchange_far : Ss := (.cons (.expr (.call (Str.ofString "need_often") 4 F_need_often (.cons (.var 0) (.cons (.var 1) (.cons (.var 2) (.cons (.var 3) .nil))))))
    (.cons (.ret (.call (Str.ofString "exchange_by") 3 F_exchange_by (.cons (.var 0) (.cons (.var 1) (.cons (.bin .mul (.var 2) (.call (Str.ofString "few_times") 4 F_few_times (.cons (.var 0) (.cons (.var 1) (.cons (.var 2) (.cons (.var 3) .nil)))))) .nil)))))
    .nil))
def B_exchange_far : List D → Sto → Rs D := runF 4 4 (denSs ir_exchange_far)
@[irreducible] def F_exchange_far : List D → Sto → Rs D := lcall B_exchange_far
/-! ### are_marks (0 floor, 1 thing, 2 many, 3 mark) -/
def ir_are_marks : Ss := (.cons (.asg (.nm 2) (.call (Str.ofString "spots_of") 1 F_spots_of (.cons (.var 0) .nil)))
    (.cons (.ret (.and (.cons (.call (Str.ofString "are_some") 3 F_are_some (.cons (.var 1) (.cons (.var 2) (.cons (.var 2) .nil)))) (.cons (.prim .all (.cons (.comp false (.val (.var 1)) (.nm 3) .no (.call (Str.ofString "is_among") 3 F_is_among (.cons (.var 3) (.cons (.int 0) (.cons (.glob (Str.ofString "MOST_MARK") (.int (999))) .nil)))) [((Str.ofString "mark"), 3)]) .nil)) .nil))))
    .nil))
def B_are_marks : List D → Sto → Rs D := runF 2 4 (denSs ir_are_marks)
@[irreducible] def F_are_marks : List D → Sto → Rs D := lcall B_are_marks
/-! ### need_marks (0 floor, 1 thing) -/
def ir_need_marks : Ss := (.cons (.ife (.not (.call (Str.ofString "are_marks") 2 F_are_marks (.cons (.var 0) (.cons (.var 1) .nil))))
    (.cons .never
    .nil)
    .nil)
    .nil)
def B_need_marks : List D → Sto → Rs D := runF 2 2 (denSs ir_need_marks)
@[irreducible] def F_need_marks : List D → Sto → Rs D := lcall B_need_marks
/-! ### marks_behind (0 floor, 1 stand, 2 row, 3 marks) -/
def ir_marks_behind : Ss := (.cons (.expr (.call (Str.ofString "need_stand") 2 F_need_stand (.cons (.var 0) (.cons (.var 1) .nil))))
    (.cons (.expr (.call (Str.ofString "need_row") 1 F_need_row (.cons (.var 2) .nil)))
    (.cons (.expr (.call (Str.ofString "need_marks") 2 F_need_marks (.cons (.var 0) (.cons (.var 3) .nil))))
    (.cons (.expr (.call (Str.ofString "need_let") 3 F_need_let (.cons (.var 0) (.cons (.ix (.var 1) (.int 0)) (.cons (.var 2) .nil)))))
    (.cons (.ret (.call (Str.ofString "traded") 4 F_traded (.cons (.var 0) (.cons (.var 1) (.cons (.var 2) (.cons (.var 3) .nil))))))
    .nil)))))
def B_marks_behind : List D → Sto → Rs D := runF 4 4 (denSs ir_marks_behind)
@[irreducible] def F_marks_behind : List D → Sto → Rs D := lcall B_marks_behind
/-! ### need_rolls (0 floor, 1 stand, 2 row) -/
def ir_need_rolls : Ss := (.cons (.expr (.call (Str.ofString "need_stand") 2 F_need_stand (.cons (.var 0) (.cons (.var 1) .nil))))
    (.cons (.expr (.call (Str.ofString "need_row") 1 F_need_row (.cons (.var 2) .nil)))
    (.cons (.expr (.call (Str.ofString "need_let") 3 F_need_let (.cons (.var 0) (.cons (.ix (.var 1) (.int 0)) (.cons (.var 2) .nil)))))
    .nil)))
def B_need_rolls : List D → Sto → Rs D := runF 3 3 (denSs ir_need_rolls)
@[irreducible] def F_need_rolls : List D → Sto → Rs D := lcall B_need_rolls
/-! ### exchange (0 floor, 1 stand, 2 row) -/
def ir_exchange : Ss := (.cons (.expr (.call (Str.ofString "need_rolls") 3 F_need_rolls (.cons (.var 0) (.cons (.var 1) (.cons (.var 2) .nil)))))
    (.cons (.ret (.call (Str.ofString "exchange_by") 3 F_exchange_by (.cons (.var 0) (.cons (.var 1) (.cons (.var 2) .nil)))))
    .nil))
def B_exchange : List D → Sto → Rs D := runF 3 3 (denSs ir_exchange)
@[irreducible] def F_exchange : List D → Sto → Rs D := lcall B_exchange
/-! ### rounds (0 floor, 1 stand, 2 row) -/
def ir_rounds : Ss := (.cons (.expr (.call (Str.ofString "need_rolls") 3 F_need_rolls (.cons (.var 0) (.cons (.var 1) (.cons (.var 2) .nil)))))
    (.cons (.ret (.call (Str.ofString "rounds_by") 1 F_rounds_by (.cons (.call (Str.ofString "exchange_by") 3 F_exchange_by (.cons (.var 0) (.cons (.var 1) (.cons (.var 2) .nil)))) .nil)))
    .nil))
def B_rounds : List D → Sto → Rs D := runF 3 3 (denSs ir_rounds)
@[irreducible] def F_rounds : List D → Sto → Rs D := lcall B_rounds
/-! ### order (0 floor, 1 stand, 2 row) -/
def ir_order : Ss := (.cons (.expr (.call (Str.ofString "need_rolls") 3 F_need_rolls (.cons (.var 0) (.cons (.var 1) (.cons (.var 2) .nil)))))
    (.cons (.ret (.call (Str.ofString "order_by") 1 F_order_by (.cons (.call (Str.ofString "exchange_by") 3 F_exchange_by (.cons (.var 0) (.cons (.var 1) (.cons (.var 2) .nil)))) .nil)))
    .nil))
def B_order : List D → Sto → Rs D := runF 3 3 (denSs ir_order)
@[irreducible] def F_order : List D → Sto → Rs D := lcall B_order
/-! ### is_even (0 floor, 1 stand, 2 row, 3 own) -/
def ir_is_even : Ss := (.cons (.expr (.call (Str.ofString "need_rolls") 3 F_need_rolls (.cons (.var 0) (.cons (.var 1) (.cons (.var 2) .nil)))))
    (.cons (.ret (.cmp .eq (.bin .mod (.prim .sum (.cons (.comp false (.val (.call (Str.ofString "rounds_by") 1 F_rounds_by (.cons (.call (Str.ofString "exchange_by") 3 F_exchange_by (.cons (.var 0) (.cons (.var 1) (.cons (.var 2) .nil)))) .nil))) (.nm 3) .no (.bin .sub (.prim .len (.cons (.var 3) .nil)) (.int 1)) [((Str.ofString "own"), 3)]) .nil)) (.int 2)) (.int 0)))
    .nil))
def B_is_even : List D → Sto → Rs D := runF 3 4 (denSs ir_is_even)
@[irreducible] def F_is_even : List D → Sto → Rs D := lcall B_is_even
/-! ### moved (0 floor, 1 place, 2 letter, 3 cell, 4 lying, 5 spot, 6 own) -/
def ir_moved : Ss := (.cons (.asg (.tup 3 (.cons (.nm 3) (.cons (.nm 4) (.cons (.nm 5) .nil)))) (.var 1))
    (.cons (.par (.cons (.nm 3) (.cons (.nm 4) .nil)) (.cons (.call (Str.ofString "beside") 2 F_beside (.cons (.var 3) (.cons (.var 2) .nil))) (.cons (.call (Str.ofString "rolled") 2 F_rolled (.cons (.var 4) (.cons (.var 2) .nil))) .nil)))
    (.cons (.ife (.cmp .notin (.var 3) (.var 0))
    (.cons (.ret .non)
    .nil)
    .nil)
    (.cons (.asg (.nm 6) (.bin .add (.glob (Str.ofString "FACES") (.int (6))) (.idx (.var 0) (.cons (.var 3) .nil))))
    (.cons (.ife (.cmp .isin (.var 5) (.tup (.cons (.var 6) (.cons (.ix (.var 4) (.int 0)) .nil))))
    (.cons (.asg (.nm 5) (.bin .sub (.bin .add (.var 6) (.ix (.var 4) (.int 0))) (.var 5)))
    .nil)
    .nil)
    (.cons (.ret (.tup (.cons (.var 3) (.cons (.var 4) (.cons (.var 5) .nil)))))
    .nil))))))
def B_moved : List D → Sto → Rs D := runF 3 7 (denSs ir_moved)
@[irreducible] def F_moved : List D → Sto → Rs D := lcall B_moved
/-! ### need_spot (0 floor, 1 thing) -/
def ir_need_spot : Ss := (.cons (.ife (.not (.call (Str.ofString "is_among") 3 F_is_among (.cons (.var 1) (.cons (.int 0) (.cons (.bin .sub (.call (Str.ofString "spots_of") 1 F_spots_of (.cons (.var 0) .nil)) (.int 1)) .nil)))))
    (.cons .never
    .nil)
    .nil)
    .nil)
def B_need_spot : List D → Sto → Rs D := runF 2 2 (denSs ir_need_spot)
@[irreducible] def F_need_spot : List D → Sto → Rs D := lcall B_need_spot
/-! ### need_wish (0 floor, 1 stand, 2 spot, 3 to) -/
def ir_need_wish : Ss := (.cons (.expr (.call (Str.ofString "need_stand") 2 F_need_stand (.cons (.var 0) (.cons (.var 1) .nil))))
    (.cons (.expr (.call (Str.ofString "need_spot") 2 F_need_spot (.cons (.var 0) (.cons (.var 2) .nil))))
    (.cons (.expr (.call (Str.ofString "need_spot") 2 F_need_spot (.cons (.var 0) (.cons (.var 3) .nil))))
    .nil)))
def B_need_wish : List D → Sto → Rs D := runF 4 4 (denSs ir_need_wish)
@[irreducible] def F_need_wish : List D → Sto → Rs D := lcall B_need_wish
/-! ### does_bring (0 floor, 1 stand, 2 spot, 3 to, 4 row, 5 place, 6 letter) -/
def b_does_bring_1 : Ss := (.cons (.asg (.nm 5) (.call (Str.ofString "moved") 3 F_moved (.cons (.var 0) (.cons (.var 5) (.cons (.var 6) .nil)))))
    (.cons (.ife (.cmp .is (.var 5) .non)
    (.cons (.ret (.bl false))
    .nil)
    .nil)
    .nil))
abbrev L_does_bring_1 := WL (.nm 6) [6] b_does_bring_1
def ir_does_bring : Ss := (.cons (.ife (.or (.cons (.not (.isa (.var 4) "str")) (.cons (.not (.prim .all (.cons (.comp false (.val (.var 4)) (.nm 6) .no (.cmp .isin (.var 6) (.glob (Str.ofString "LETTERS") (.str (Str.ofString "ensw")))) [((Str.ofString "letter"), 6)]) .nil))) .nil)))
    (.cons (.ret (.bl false))
    .nil)
    .nil)
    (.cons (.asg (.nm 5) (.bin .add (.var 1) (.tup (.cons (.var 2) .nil))))
    (.cons (.loop (.nm 6) (.val (.var 4)) b_does_bring_1 [6])
    (.cons (.ret (.cmp .eq (.ix (.var 5) (.int 2)) (.var 3)))
    .nil))))
def B_does_bring : List D → Sto → Rs D := runF 5 7 (denSs ir_does_bring)
@[irreducible] def F_does_bring : List D → Sto → Rs D := lcall B_does_bring
/-! ### is_place (0 floor, 1 thing) -/
def ir_is_place : Ss := (.cons (.ife (.or (.cons (.not (.call (Str.ofString "are_some") 3 F_are_some (.cons (.var 1) (.cons (.int 3) (.cons (.int 3) .nil))))) (.cons (.not (.call (Str.ofString "is_cell_of") 2 F_is_cell_of (.cons (.var 0) (.cons (.ix (.var 1) (.int 0)) .nil)))) (.cons (.not (.call (Str.ofString "is_lying") 1 F_is_lying (.cons (.ix (.var 1) (.int 1)) .nil))) .nil))))
    (.cons (.ret (.bl false))
    .nil)
    .nil)
    (.cons (.ret (.call (Str.ofString "is_among") 3 F_is_among (.cons (.ix (.var 1) (.int 2)) (.cons (.int 0) (.cons (.bin .sub (.call (Str.ofString "spots_of") 1 F_spots_of (.cons (.var 0) .nil)) (.int 1)) .nil)))))
    .nil))
def B_is_place : List D → Sto → Rs D := runF 2 2 (denSs ir_is_place)
@[irreducible] def F_is_place : List D → Sto → Rs D := lcall B_is_place
/-! ### need_word (0 thing) -/
def ir_need_word : Ss := (.cons (.ife (.or (.cons (.not (.isa (.var 0) "str")) (.cons (.cmp .notin (.var 0) (.tup (.cons (.glob (Str.ofString "LEFT") (.str (Str.ofString "left"))) (.cons (.glob (Str.ofString "MIRROR") (.str (Str.ofString "mirror"))) .nil)))) .nil)))
    (.cons .never
    .nil)
    .nil)
    .nil)
def B_need_word : List D → Sto → Rs D := runF 1 1 (denSs ir_need_word)
@[irreducible] def F_need_word : List D → Sto → Rs D := lcall B_need_word
/-! ### turned_cell (0 word, 1 cell, 2 column, 3 row) -/
def ir_turned_cell : Ss := (.cons (.asg (.tup 2 (.cons (.nm 2) (.cons (.nm 3) .nil))) (.var 1))
    (.cons (.ret (.ife (.cmp .eq (.var 0) (.glob (Str.ofString "LEFT") (.str (Str.ofString "left")))) (.tup (.cons (.bin .sub (.glob (Str.ofString "MOST_WIDE") (.int (3))) (.var 3)) (.cons (.var 2) .nil))) (.tup (.cons (.bin .sub (.glob (Str.ofString "MOST_WIDE") (.int (3))) (.var 2)) (.cons (.var 3) .nil)))))
    .nil))
def B_turned_cell : List D → Sto → Rs D := runF 2 4 (denSs ir_turned_cell)
@[irreducible] def F_turned_cell : List D → Sto → Rs D := lcall B_turned_cell
/-! ### turned_by (0 floor, 1 word, 2 cell) -/
def ir_turned_by : Ss := (.cons (.ret (.prim .tuple (.cons (.prim .sorted (.cons (.comp false (.val (.var 0)) (.nm 2) .no (.call (Str.ofString "turned_cell") 2 F_turned_cell (.cons (.var 1) (.cons (.var 2) .nil))) [((Str.ofString "cell"), 2)]) .nil)) .nil)))
    .nil)
def B_turned_by : List D → Sto → Rs D := runF 2 3 (denSs ir_turned_by)
@[irreducible] def F_turned_by : List D → Sto → Rs D := lcall B_turned_by
/-! ### turned_floor (0 floor, 1 word) -/
def ir_turned_floor : Ss := (.cons (.expr (.call (Str.ofString "need_floor") 1 F_need_floor (.cons (.var 0) .nil)))
    (.cons (.expr (.call (Str.ofString "need_word") 1 F_need_word (.cons (.var 1) .nil)))
    (.cons (.ret (.call (Str.ofString "turned_by") 2 F_turned_by (.cons (.var 0) (.cons (.var 1) .nil))))
    .nil)))
def B_turned_floor : List D → Sto → Rs D := runF 2 2 (denSs ir_turned_floor)
@[irreducible] def F_turned_floor : List D → Sto → Rs D := lcall B_turned_floor
/-! ### turned_spots (0 floor, 1 word, 2 later, 3 faces, 4 cell) -/
def ir_turned_spots : Ss := (.cons (.expr (.call (Str.ofString "need_floor") 1 F_need_floor (.cons (.var 0) .nil)))
    (.cons (.expr (.call (Str.ofString "need_word") 1 F_need_word (.cons (.var 1) .nil)))
    (.cons (.asg (.nm 2) (.call (Str.ofString "turned_by") 2 F_turned_by (.cons (.var 0) (.cons (.var 1) .nil))))
    (.cons (.asg (.nm 3) (.ife (.cmp .eq (.var 1) (.glob (Str.ofString "LEFT") (.str (Str.ofString "left")))) (.rng 0 (.cons (.glob (Str.ofString "FACES") (.int (6))) .nil)) (.glob (Str.ofString "MIRRORED") (.tuple [(.int (0)), (.int (1)), (.int (3)), (.int (2)), (.int (4)), (.int (5))]))))
    (.cons (.ret (.bin .add (.var 3) (.prim .tuple (.cons (.comp false (.val (.var 0)) (.nm 4) .no (.bin .add (.glob (Str.ofString "FACES") (.int (6))) (.idx (.var 2) (.cons (.call (Str.ofString "turned_cell") 2 F_turned_cell (.cons (.var 1) (.cons (.var 4) .nil))) .nil))) [((Str.ofString "cell"), 4)]) .nil))))
    .nil)))))
def B_turned_spots : List D → Sto → Rs D := runF 2 5 (denSs ir_turned_spots)
@[irreducible] def F_turned_spots : List D → Sto → Rs D := lcall B_turned_spots
/-! ### turned_lying (0 word, 1 lying, 2 low, 3 north, 4 east, 5 face) -/
def ir_turned_lying : Ss := (.cons (.asg (.tup 3 (.cons (.nm 2) (.cons (.nm 3) (.cons (.nm 4) .nil)))) (.var 1))
    (.cons (.ife (.cmp .eq (.var 0) (.glob (Str.ofString "LEFT") (.str (Str.ofString "left"))))
    (.cons (.ret (.tup (.cons (.var 2) (.cons (.var 4) (.cons (.bin .sub (.glob (Str.ofString "LAST_FACE") (.int (5))) (.var 3)) .nil)))))
    .nil)
    .nil)
    (.cons (.ret (.prim .tuple (.cons (.comp false (.val (.tup (.cons (.var 2) (.cons (.var 3) (.cons (.bin .sub (.glob (Str.ofString "LAST_FACE") (.int (5))) (.var 4)) .nil))))) (.nm 5) .no (.ix (.glob (Str.ofString "MIRRORED") (.tuple [(.int (0)), (.int (1)), (.int (3)), (.int (2)), (.int (4)), (.int (5))])) (.var 5)) [((Str.ofString "face"), 5)]) .nil)))
    .nil)))
def B_turned_lying : List D → Sto → Rs D := runF 2 6 (denSs ir_turned_lying)
@[irreducible] def F_turned_lying : List D → Sto → Rs D := lcall B_turned_lying
/-! ### turned_stand (0 floor, 1 word, 2 stand) -/
def ir_turned_stand : Ss := (.cons (.expr (.call (Str.ofString "need_floor") 1 F_need_floor (.cons (.var 0) .nil)))
    (.cons (.expr (.call (Str.ofString "need_word") 1 F_need_word (.cons (.var 1) .nil)))
    (.cons (.expr (.call (Str.ofString "need_stand") 2 F_need_stand (.cons (.var 0) (.cons (.var 2) .nil))))
    (.cons (.ret (.tup (.cons (.call (Str.ofString "turned_cell") 2 F_turned_cell (.cons (.var 1) (.cons (.ix (.var 2) (.int 0)) .nil))) (.cons (.call (Str.ofString "turned_lying") 2 F_turned_lying (.cons (.var 1) (.cons (.ix (.var 2) (.int 1)) .nil))) .nil))))
    .nil))))
def B_turned_stand : List D → Sto → Rs D := runF 3 3 (denSs ir_turned_stand)
@[irreducible] def F_turned_stand : List D → Sto → Rs D := lcall B_turned_stand
/-! ### turned_row (0 word, 1 row, 2 letter) -/
def ir_turned_row : Ss := (.cons (.expr (.call (Str.ofString "need_word") 1 F_need_word (.cons (.var 0) .nil)))
    (.cons (.expr (.call (Str.ofString "need_row") 1 F_need_row (.cons (.var 1) .nil)))
    (.cons (.ife (.cmp .eq (.var 0) (.glob (Str.ofString "LEFT") (.str (Str.ofString "left"))))
    (.cons (.ret (.meth .join (.str (Str.ofString "")) (.cons (.comp false (.val (.var 1)) (.nm 2) .no (.dix (Str.ofString "LEFT_LETTERS") [((Str.ofString "n"), (.str (Str.ofString "w"))), ((Str.ofString "w"), (.str (Str.ofString "s"))), ((Str.ofString "s"), (.str (Str.ofString "e"))), ((Str.ofString "e"), (.str (Str.ofString "n")))] (.var 2)) [((Str.ofString "letter"), 2)]) .nil)))
    .nil)
    .nil)
    (.cons (.ret (.meth .join (.str (Str.ofString "")) (.cons (.comp false (.val (.var 1)) (.nm 2) .no (.dix (Str.ofString "MIRROR_LETTERS") [((Str.ofString "n"), (.str (Str.ofString "n"))), ((Str.ofString "w"), (.str (Str.ofString "e"))), ((Str.ofString "s"), (.str (Str.ofString "s"))), ((Str.ofString "e"), (.str (Str.ofString "w")))] (.var 2)) [((Str.ofString "letter"), 2)]) .nil)))
    .nil))))
def B_turned_row : List D → Sto → Rs D := runF 2 3 (denSs ir_turned_row)
@[irreducible] def F_turned_row : List D → Sto → Rs D := lcall B_turned_row
/-! ### undoing (0 floor, 1 stand, 2 row, 3 letter) -/
def ir_undoing : Ss := (.cons (.expr (.call (Str.ofString "need_rolls") 3 F_need_rolls (.cons (.var 0) (.cons (.var 1) (.cons (.var 2) .nil)))))
    (.cons (.ret (.meth .join (.str (Str.ofString "")) (.cons (.comp false (.val (.rev (.var 2))) (.nm 3) .no (.bin .add (.bin .add (.dix (Str.ofString "BACK") [((Str.ofString "e"), (.str (Str.ofString "w"))), ((Str.ofString "n"), (.str (Str.ofString "s"))), ((Str.ofString "s"), (.str (Str.ofString "n"))), ((Str.ofString "w"), (.str (Str.ofString "e")))] (.var 3)) (.var 3)) (.dix (Str.ofString "BACK") [((Str.ofString "e"), (.str (Str.ofString "w"))), ((Str.ofString "n"), (.str (Str.ofString "s"))), ((Str.ofString "s"), (.str (Str.ofString "n"))), ((Str.ofString "w"), (.str (Str.ofString "e")))] (.var 3))) [((Str.ofString "letter"), 3)]) .nil)))
    .nil))
def B_undoing : List D → Sto → Rs D := runF 3 4 (denSs ir_undoing)
@[irreducible] def F_undoing : List D → Sto → Rs D := lcall B_undoing
/-! ### need_rolls_from (0 floor, 1 cell, 2 row) -/
def ir_need_rolls_from : Ss := (.cons (.expr (.call (Str.ofString "need_floor") 1 F_need_floor (.cons (.var 0) .nil)))
    (.cons (.expr (.call (Str.ofString "need_cell") 2 F_need_cell (.cons (.var 0) (.cons (.var 1) .nil))))
    (.cons (.expr (.call (Str.ofString "need_row") 1 F_need_row (.cons (.var 2) .nil)))
    .nil)))
def B_need_rolls_from : List D → Sto → Rs D := runF 3 3 (denSs ir_need_rolls_from)
@[irreducible] def F_need_rolls_from : List D → Sto → Rs D := lcall B_need_rolls_from
/-! ### one_more (0 floor, 1 place, 2 letter, 3 cell, 4 lying, 5 now, 6 here, 7 low, 8 later) -/
def ir_one_more : Ss := (.cons (.asg (.tup 3 (.cons (.nm 3) (.cons (.nm 4) (.cons (.nm 5) .nil)))) (.var 1))
    (.cons (.par (.cons (.nm 3) (.cons (.nm 4) .nil)) (.cons (.call (Str.ofString "beside") 2 F_beside (.cons (.var 3) (.cons (.var 2) .nil))) (.cons (.call (Str.ofString "rolled") 2 F_rolled (.cons (.var 4) (.cons (.var 2) .nil))) .nil)))
    (.cons (.ife (.cmp .notin (.var 3) (.var 0))
    (.cons (.ret .non)
    .nil)
    .nil)
    (.cons (.par (.cons (.nm 6) (.cons (.nm 7) (.cons (.nm 8) .nil))) (.cons (.bin .add (.glob (Str.ofString "FACES") (.int (6))) (.idx (.var 0) (.cons (.var 3) .nil))) (.cons (.ix (.var 4) (.int 0)) (.cons (.prim .listM (.cons (.var 5) .nil)) .nil))))
    (.cons (.par (.cons (.sub (.var 8) (.var 6)) (.cons (.sub (.var 8) (.var 7)) .nil)) (.cons (.ix (.var 8) (.var 7)) (.cons (.ix (.var 8) (.var 6)) .nil)))
    (.cons (.ret (.tup (.cons (.var 3) (.cons (.var 4) (.cons (.prim .tuple (.cons (.var 8) .nil)) .nil)))))
    .nil))))))
def B_one_more : List D → Sto → Rs D := runF 3 9 (denSs ir_one_more)
@[irreducible] def F_one_more : List D → Sto → Rs D := lcall B_one_more
/-! ### need_cells (0 floor, 1 thing, 2 cell) -/
def ir_need_cells : Ss := (.cons (.ife (.or (.cons (.not (.isa (.var 1) "tuple")) (.cons (.not (.prim .all (.cons (.comp false (.val (.var 1)) (.nm 2) .no (.call (Str.ofString "is_cell_of") 2 F_is_cell_of (.cons (.var 0) (.cons (.var 2) .nil))) [((Str.ofString "cell"), 2)]) .nil))) (.cons (.not (.call (Str.ofString "rises") 1 F_rises (.cons (.var 1) .nil))) .nil))))
    (.cons .never
    .nil)
    .nil)
    .nil)
def B_need_cells : List D → Sto → Rs D := runF 2 3 (denSs ir_need_cells)
@[irreducible] def F_need_cells : List D → Sto → Rs D := lcall B_need_cells
/-! ### need_endless (0 floor, 1 stand, 2 row) -/
def ir_need_endless : Ss := (.cons (.ife (.cmp .isnot (.call (Str.ofString "often_by") 3 F_often_by (.cons (.var 0) (.cons (.ix (.var 1) (.int 0)) (.cons (.var 2) .nil)))) .non)
    (.cons .never
    .nil)
    .nil)
    .nil)
def B_need_endless : List D → Sto → Rs D := runF 3 3 (denSs ir_need_endless)
@[irreducible] def F_need_endless : List D → Sto → Rs D := lcall B_need_endless
/-! ### is_look (0 floor, 1 row, 2 thing) -/
def ir_is_look : Ss := (.cons (.ife (.or (.cons (.not (.call (Str.ofString "are_some") 3 F_are_some (.cons (.var 2) (.cons (.int 3) (.cons (.int 3) .nil))))) (.cons (.not (.call (Str.ofString "is_among") 3 F_is_among (.cons (.ix (.var 2) (.int 0)) (.cons (.int 0) (.cons (.prim .len (.cons (.var 1) .nil)) .nil))))) .nil)))
    (.cons (.ret (.bl false))
    .nil)
    .nil)
    (.cons (.ret (.and (.cons (.call (Str.ofString "is_cell_of") 2 F_is_cell_of (.cons (.var 0) (.cons (.ix (.var 2) (.int 1)) .nil))) (.cons (.call (Str.ofString "is_among") 3 F_is_among (.cons (.ix (.var 2) (.int 2)) (.cons (.int 0) (.cons (.glob (Str.ofString "MOST_MARK") (.int (999))) .nil)))) .nil))))
    .nil))
def B_is_look : List D → Sto → Rs D := runF 3 3 (denSs ir_is_look)
@[irreducible] def F_is_look : List D → Sto → Rs D := lcall B_is_look
/-! ### need_looks (0 floor, 1 row, 2 thing, 3 one) -/
def ir_need_looks : Ss := (.cons (.ife (.or (.cons (.not (.call (Str.ofString "are_some") 3 F_are_some (.cons (.var 2) (.cons (.int 0) (.cons (.glob (Str.ofString "MOST_LOOKS") (.int (12))) .nil))))) (.cons (.not (.prim .all (.cons (.comp false (.val (.var 2)) (.nm 3) .no (.call (Str.ofString "is_look") 3 F_is_look (.cons (.var 0) (.cons (.var 1) (.cons (.var 3) .nil)))) [((Str.ofString "one"), 3)]) .nil))) .nil)))
    (.cons .never
    .nil)
    .nil)
    .nil)
def B_need_looks : List D → Sto → Rs D := runF 3 4 (denSs ir_need_looks)
@[irreducible] def F_need_looks : List D → Sto → Rs D := lcall B_need_looks
/-! ### need_looked (0 floor, 1 stand, 2 row, 3 looks) -/
def ir_need_looked : Ss := (.cons (.expr (.call (Str.ofString "need_rolls") 3 F_need_rolls (.cons (.var 0) (.cons (.var 1) (.cons (.var 2) .nil)))))
    (.cons (.expr (.call (Str.ofString "need_looks") 3 F_need_looks (.cons (.var 0) (.cons (.var 2) (.cons (.var 3) .nil)))))
    .nil))
def B_need_looked : List D → Sto → Rs D := runF 4 4 (denSs ir_need_looked)
@[irreducible] def F_need_looked : List D → Sto → Rs D := lcall B_need_looked
/-! ### named_by (0 floor, 1 stand, 2 row, 3 looks, 4 own, 5 beat, 6 cell, 7 mark) -/
def ir_named_by : Ss := (.cons (.asg (.nm 4) (.rng 0 (.cons (.call (Str.ofString "spots_of") 1 F_spots_of (.cons (.var 0) .nil)) .nil)))
    (.cons (.ret (.comp false (.val (.var 3)) (.tup 3 (.cons (.nm 5) (.cons (.nm 6) (.cons (.nm 7) .nil)))) .no (.ix (.call (Str.ofString "traded") 4 F_traded (.cons (.var 0) (.cons (.var 1) (.cons (.sl (.var 2) .no (.yes (.var 5))) (.cons (.var 4) .nil))))) (.bin .add (.glob (Str.ofString "FACES") (.int (6))) (.idx (.var 0) (.cons (.var 6) .nil)))) [((Str.ofString "beat"), 5), ((Str.ofString "cell"), 6), ((Str.ofString "mark"), 7)]))
    .nil))
def B_named_by : List D → Sto → Rs D := runF 4 8 (denSs ir_named_by)
@[irreducible] def F_named_by : List D → Sto → Rs D := lcall B_named_by
/-! ### do_clash (0 spots, 1 looks, 2 one, 3 other) -/
def ir_do_clash : Ss := (.cons (.ret (.and (.cons (.cmp .eq (.ix (.var 0) (.var 2)) (.ix (.var 0) (.var 3))) (.cons (.cmp .ne (.ix (.ix (.var 1) (.var 2)) (.int 2)) (.ix (.ix (.var 1) (.var 3)) (.int 2))) .nil))))
    .nil)
def B_do_clash : List D → Sto → Rs D := runF 4 4 (denSs ir_do_clash)
@[irreducible] def F_do_clash : List D → Sto → Rs D := lcall B_do_clash
/-! ### are_told (0 floor, 1 thing, 2 many, 3 mark) -/
def ir_are_told : Ss := (.cons (.asg (.nm 2) (.call (Str.ofString "spots_of") 1 F_spots_of (.cons (.var 0) .nil)))
    (.cons (.ret (.and (.cons (.call (Str.ofString "are_some") 3 F_are_some (.cons (.var 1) (.cons (.var 2) (.cons (.var 2) .nil)))) (.cons (.prim .all (.cons (.comp false (.val (.var 1)) (.nm 3) .no (.or (.cons (.cmp .is (.var 3) .non) (.cons (.call (Str.ofString "is_among") 3 F_is_among (.cons (.var 3) (.cons (.int 0) (.cons (.glob (Str.ofString "MOST_MARK") (.int (999))) .nil)))) .nil))) [((Str.ofString "mark"), 3)]) .nil)) .nil))))
    .nil))
def B_are_told : List D → Sto → Rs D := runF 2 4 (denSs ir_are_told)
@[irreducible] def F_are_told : List D → Sto → Rs D := lcall B_are_told
/-! ### shows_looked (0 floor, 1 stand, 2 row, 3 looks, 4 thing, 5 spots, 6 spot, 7 look, 8 one) -/
def ir_shows_looked : Ss := (.cons (.expr (.call (Str.ofString "need_looked") 4 F_need_looked (.cons (.var 0) (.cons (.var 1) (.cons (.var 2) (.cons (.var 3) .nil))))))
    (.cons (.asg (.nm 5) (.call (Str.ofString "named_by") 4 F_named_by (.cons (.var 0) (.cons (.var 1) (.cons (.var 2) (.cons (.var 3) .nil))))))
    (.cons (.ife (.or (.cons (.not (.call (Str.ofString "are_some") 3 F_are_some (.cons (.var 4) (.cons (.int 2) (.cons (.int 3) .nil))))) (.cons (.not (.isa (.ix (.var 4) (.int 0)) "str")) .nil)))
    (.cons (.ret (.bl false))
    .nil)
    .nil)
    (.cons (.ife (.cmp .eq (.ix (.var 4) (.int 0)) (.glob (Str.ofString "FIRST") (.str (Str.ofString "first"))))
    (.cons (.ife (.or (.cons (.cmp .gt (.prim .len (.cons (.var 4) .nil)) (.int 2)) (.cons (.not (.call (Str.ofString "are_told") 2 F_are_told (.cons (.var 0) (.cons (.ix (.var 4) (.int 1)) .nil)))) .nil)))
    (.cons (.ret (.bl false))
    .nil)
    .nil)
    (.cons (.ret (.prim .all (.cons (.comp false (.zip (.cons (.var 5) (.cons (.var 3) .nil))) (.tup 2 (.cons (.nm 6) (.cons (.nm 7) .nil))) .no (.cmp .eq (.ix (.ix (.var 4) (.int 1)) (.var 6)) (.ix (.var 7) (.int 2))) [((Str.ofString "spot"), 6), ((Str.ofString "look"), 7)]) .nil)))
    .nil))
    .nil)
    (.cons (.ife (.or (.cons (.cmp .ne (.ix (.var 4) (.int 0)) (.glob (Str.ofString "CLASH") (.str (Str.ofString "clash")))) (.cons (.cmp .lt (.prim .len (.cons (.var 4) .nil)) (.int 3)) (.cons (.not (.prim .all (.cons (.comp false (.val (.sl (.var 4) (.yes (.int 1)) .no)) (.nm 8) .no (.call (Str.ofString "is_among") 3 F_is_among (.cons (.var 8) (.cons (.int 0) (.cons (.bin .sub (.prim .len (.cons (.var 3) .nil)) (.int 1)) .nil)))) [((Str.ofString "one"), 8)]) .nil))) .nil))))
    (.cons (.ret (.bl false))
    .nil)
    .nil)
    (.cons (.ret (.and (.cons (.cmp .lt (.ix (.var 4) (.int 1)) (.ix (.var 4) (.int 2))) (.cons (.call (Str.ofString "do_clash") 4 F_do_clash (.cons (.var 5) (.cons (.var 3) (.cons (.ix (.var 4) (.int 1)) (.cons (.ix (.var 4) (.int 2)) .nil))))) .nil))))
    .nil))))))
def B_shows_looked : List D → Sto → Rs D := runF 5 9 (denSs ir_shows_looked)
@[irreducible] def F_shows_looked : List D → Sto → Rs D := lcall B_shows_looked
/-! ### is_let (0 floor, 1 stand, 2 row) -/
def ir_is_let : Ss := (.cons (.ret (.cmp .is (.call (Str.ofString "off_at") 3 F_off_at (.cons (.var 0) (.cons (.ix (.var 1) (.int 0)) (.cons (.var 2) .nil)))) .non))
    .nil)
def B_is_let : List D → Sto → Rs D := runF 3 3 (denSs ir_is_let)
@[irreducible] def F_is_let : List D → Sto → Rs D := lcall B_is_let
/-! ### undoes (0 floor, 1 stand, 2 row, 3 other) -/
def ir_undoes : Ss := (.cons (.ife (.or (.cons (.not (.call (Str.ofString "is_let") 3 F_is_let (.cons (.var 0) (.cons (.call (Str.ofString "stand_by") 2 F_stand_by (.cons (.var 1) (.cons (.var 2) .nil))) (.cons (.var 3) .nil))))) (.cons (.cmp .ne (.call (Str.ofString "stand_by") 2 F_stand_by (.cons (.var 1) (.cons (.bin .add (.var 2) (.var 3)) .nil))) (.var 1)) .nil)))
    (.cons (.ret (.bl false))
    .nil)
    .nil)
    (.cons (.ret (.cmp .eq (.call (Str.ofString "exchange_by") 3 F_exchange_by (.cons (.var 0) (.cons (.var 1) (.cons (.bin .add (.var 2) (.var 3)) .nil)))) (.rng 0 (.cons (.call (Str.ofString "spots_of") 1 F_spots_of (.cons (.var 0) .nil)) .nil))))
    .nil))
def B_undoes : List D → Sto → Rs D := runF 4 4 (denSs ir_undoes)
@[irreducible] def F_undoes : List D → Sto → Rs D := lcall B_undoes
/-! ### does_undo (0 floor, 1 stand, 2 row, 3 other) -/
def ir_does_undo : Ss := (.cons (.expr (.call (Str.ofString "need_stand") 2 F_need_stand (.cons (.var 0) (.cons (.var 1) .nil))))
    (.cons (.expr (.call (Str.ofString "need_row") 1 F_need_row (.cons (.var 2) .nil)))
    (.cons (.expr (.call (Str.ofString "need_row") 1 F_need_row (.cons (.var 3) .nil)))
    (.cons (.ife (.not (.call (Str.ofString "is_let") 3 F_is_let (.cons (.var 0) (.cons (.var 1) (.cons (.var 2) .nil)))))
    (.cons .never
    .nil)
    .nil)
    (.cons (.ret (.call (Str.ofString "undoes") 4 F_undoes (.cons (.var 0) (.cons (.var 1) (.cons (.var 2) (.cons (.var 3) .nil))))))
    .nil)))))
def B_does_undo : List D → Sto → Rs D := runF 4 4 (denSs ir_does_undo)
@[irreducible] def F_does_undo : List D → Sto → Rs D := lcall B_does_undo
/-! ### is_pair (0 floor, 1 thing, 2 one) -/
def ir_is_pair : Ss := (.cons (.ife (.or (.cons (.not (.call (Str.ofString "are_some") 3 F_are_some (.cons (.var 1) (.cons (.glob (Str.ofString "CUBES") (.int (2))) (.cons (.glob (Str.ofString "CUBES") (.int (2))) .nil))))) (.cons (.not (.prim .all (.cons (.comp false (.val (.var 1)) (.nm 2) .no (.call (Str.ofString "is_stand") 2 F_is_stand (.cons (.var 0) (.cons (.var 2) .nil))) [((Str.ofString "one"), 2)]) .nil))) .nil)))
    (.cons (.ret (.bl false))
    .nil)
    .nil)
    (.cons (.ret (.cmp .ne (.ix (.ix (.var 1) (.int 0)) (.int 0)) (.ix (.ix (.var 1) (.int 1)) (.int 0))))
    .nil))
def B_is_pair : List D → Sto → Rs D := runF 2 3 (denSs ir_is_pair)
@[irreducible] def F_is_pair : List D → Sto → Rs D := lcall B_is_pair
/-! ### need_pair (0 floor, 1 thing) -/
def ir_need_pair : Ss := (.cons (.expr (.call (Str.ofString "need_floor") 1 F_need_floor (.cons (.var 0) .nil)))
    (.cons (.ife (.not (.call (Str.ofString "is_pair") 2 F_is_pair (.cons (.var 0) (.cons (.var 1) .nil))))
    (.cons .never
    .nil)
    .nil)
    .nil))
def B_need_pair : List D → Sto → Rs D := runF 2 2 (denSs ir_need_pair)
@[irreducible] def F_need_pair : List D → Sto → Rs D := lcall B_need_pair
/-! ### is_turn (0 thing) -/
def ir_is_turn : Ss := (.cons (.ret (.and (.cons (.call (Str.ofString "are_some") 3 F_are_some (.cons (.var 0) (.cons (.int 2) (.cons (.int 2) .nil)))) (.cons (.call (Str.ofString "is_among") 3 F_is_among (.cons (.ix (.var 0) (.int 0)) (.cons (.int 0) (.cons (.bin .sub (.glob (Str.ofString "CUBES") (.int (2))) (.int 1)) .nil)))) (.cons (.call (Str.ofString "is_letter") 1 F_is_letter (.cons (.ix (.var 0) (.int 1)) .nil)) .nil)))))
    .nil)
def B_is_turn : List D → Sto → Rs D := runF 1 1 (denSs ir_is_turn)
@[irreducible] def F_is_turn : List D → Sto → Rs D := lcall B_is_turn
/-! ### need_turns (0 thing, 1 one) -/
def ir_need_turns : Ss := (.cons (.ife (.or (.cons (.not (.call (Str.ofString "are_some") 3 F_are_some (.cons (.var 0) (.cons (.int 0) (.cons (.glob (Str.ofString "MOST_TURNS") (.int (24))) .nil))))) (.cons (.not (.prim .all (.cons (.comp false (.val (.var 0)) (.nm 1) .no (.call (Str.ofString "is_turn") 1 F_is_turn (.cons (.var 1) .nil)) [((Str.ofString "one"), 1)]) .nil))) .nil)))
    (.cons .never
    .nil)
    .nil)
    .nil)
def B_need_turns : List D → Sto → Rs D := runF 1 2 (denSs ir_need_turns)
@[irreducible] def F_need_turns : List D → Sto → Rs D := lcall B_need_turns
/-! ### stop_at (0 floor, 1 pair, 2 turns, 3 cells, 4 number, 5 cube, 6 letter, 7 stand) -/
def b_stop_at_1 : Ss := (.cons (.asg (.sub (.var 3) (.var 5)) (.call (Str.ofString "beside") 2 F_beside (.cons (.ix (.var 3) (.var 5)) (.cons (.var 6) .nil))))
    (.cons (.ife (.or (.cons (.cmp .notin (.ix (.var 3) (.var 5)) (.var 0)) (.cons (.cmp .eq (.ix (.var 3) (.int 0)) (.ix (.var 3) (.int 1))) .nil)))
    (.cons (.ret (.var 4))
    .nil)
    .nil)
    .nil))
abbrev L_stop_at_1 := WL (.tup 2 (.cons (.nm 4) (.cons (.tup 2 (.cons (.nm 5) (.cons (.nm 6) .nil))) .nil))) [4, 5, 6] b_stop_at_1
def ir_stop_at : Ss := (.cons (.asg (.nm 3) (.comp true (.val (.var 1)) (.nm 7) .no (.ix (.var 7) (.int 0)) [((Str.ofString "stand"), 7)]))
    (.cons (.loop (.tup 2 (.cons (.nm 4) (.cons (.tup 2 (.cons (.nm 5) (.cons (.nm 6) .nil))) .nil))) (.enum (.var 2)) b_stop_at_1 [4, 5, 6])
    (.cons (.ret .non)
    .nil)))
def B_stop_at : List D → Sto → Rs D := runF 3 8 (denSs ir_stop_at)
@[irreducible] def F_stop_at : List D → Sto → Rs D := lcall B_stop_at
/-! ### first_stop (0 floor, 1 pair, 2 turns) -/
def ir_first_stop : Ss := (.cons (.expr (.call (Str.ofString "need_pair") 2 F_need_pair (.cons (.var 0) (.cons (.var 1) .nil))))
    (.cons (.expr (.call (Str.ofString "need_turns") 1 F_need_turns (.cons (.var 2) .nil)))
    (.cons (.ret (.call (Str.ofString "stop_at") 3 F_stop_at (.cons (.var 0) (.cons (.var 1) (.cons (.var 2) .nil)))))
    .nil)))
def B_first_stop : List D → Sto → Rs D := runF 3 3 (denSs ir_first_stop)
@[irreducible] def F_first_stop : List D → Sto → Rs D := lcall B_first_stop
/-! ### need_let_turns (0 floor, 1 pair, 2 turns) -/
def ir_need_let_turns : Ss := (.cons (.ife (.cmp .isnot (.call (Str.ofString "stop_at") 3 F_stop_at (.cons (.var 0) (.cons (.var 1) (.cons (.var 2) .nil)))) .non)
    (.cons .never
    .nil)
    .nil)
    .nil)
def B_need_let_turns : List D → Sto → Rs D := runF 3 3 (denSs ir_need_let_turns)
@[irreducible] def F_need_let_turns : List D → Sto → Rs D := lcall B_need_let_turns
/-! ### need_two (0 floor, 1 pair, 2 turns) -/
def ir_need_two : Ss := (.cons (.expr (.call (Str.ofString "need_pair") 2 F_need_pair (.cons (.var 0) (.cons (.var 1) .nil))))
    (.cons (.expr (.call (Str.ofString "need_turns") 1 F_need_turns (.cons (.var 2) .nil)))
    (.cons (.expr (.call (Str.ofString "need_let_turns") 3 F_need_let_turns (.cons (.var 0) (.cons (.var 1) (.cons (.var 2) .nil)))))
    .nil)))
def B_need_two : List D → Sto → Rs D := runF 3 3 (denSs ir_need_two)
@[irreducible] def F_need_two : List D → Sto → Rs D := lcall B_need_two
/-! ### pair_behind (0 floor, 1 pair, 2 turns, 3 found, 4 cube, 5 letter, 6 cell, 7 lying) -/
def b_pair_behind_1 : Ss := (.cons (.asg (.tup 2 (.cons (.nm 6) (.cons (.nm 7) .nil))) (.ix (.var 3) (.var 4)))
    (.cons (.asg (.sub (.var 3) (.var 4)) (.tup (.cons (.call (Str.ofString "beside") 2 F_beside (.cons (.var 6) (.cons (.var 5) .nil))) (.cons (.call (Str.ofString "rolled") 2 F_rolled (.cons (.var 7) (.cons (.var 5) .nil))) .nil))))
    .nil))
abbrev L_pair_behind_1 := WL (.tup 2 (.cons (.nm 4) (.cons (.nm 5) .nil))) [4, 5, 6, 7] b_pair_behind_1
def ir_pair_behind : Ss := (.cons (.expr (.call (Str.ofString "need_two") 3 F_need_two (.cons (.var 0) (.cons (.var 1) (.cons (.var 2) .nil)))))
    (.cons (.asg (.nm 3) (.prim .listM (.cons (.var 1) .nil)))
    (.cons (.loop (.tup 2 (.cons (.nm 4) (.cons (.nm 5) .nil))) (.val (.var 2)) b_pair_behind_1 [4, 5, 6, 7])
    (.cons (.ret (.prim .tuple (.cons (.var 3) .nil)))
    .nil))))
def B_pair_behind : List D → Sto → Rs D := runF 3 8 (denSs ir_pair_behind)
@[irreducible] def F_pair_behind : List D → Sto → Rs D := lcall B_pair_behind
/-! ### exchange_two (0 floor, 1 pair, 2 turns, 3 marks, 4 stands, 5 cube, 6 letter, 7 cell, 8 lying, 9 here, 10 low) -/
def b_exchange_two_1 : Ss := (.cons (.asg (.tup 2 (.cons (.nm 7) (.cons (.nm 8) .nil))) (.ix (.var 4) (.var 5)))
    (.cons (.par (.cons (.nm 7) (.cons (.nm 8) .nil)) (.cons (.call (Str.ofString "beside") 2 F_beside (.cons (.var 7) (.cons (.var 6) .nil))) (.cons (.call (Str.ofString "rolled") 2 F_rolled (.cons (.var 8) (.cons (.var 6) .nil))) .nil)))
    (.cons (.par (.cons (.nm 9) (.cons (.nm 10) .nil)) (.cons (.bin .add (.bin .mul (.glob (Str.ofString "CUBES") (.int (2))) (.glob (Str.ofString "FACES") (.int (6)))) (.idx (.var 0) (.cons (.var 7) .nil))) (.cons (.bin .add (.bin .mul (.var 5) (.glob (Str.ofString "FACES") (.int (6)))) (.ix (.var 8) (.int 0))) .nil)))
    (.cons (.par (.cons (.sub (.var 3) (.var 9)) (.cons (.sub (.var 3) (.var 10)) .nil)) (.cons (.ix (.var 3) (.var 10)) (.cons (.ix (.var 3) (.var 9)) .nil)))
    (.cons (.asg (.sub (.var 4) (.var 5)) (.tup (.cons (.var 7) (.cons (.var 8) .nil))))
    .nil)))))
abbrev L_exchange_two_1 := WL (.tup 2 (.cons (.nm 5) (.cons (.nm 6) .nil))) [5, 6, 7, 8, 9, 10] b_exchange_two_1
def ir_exchange_two : Ss := (.cons (.expr (.call (Str.ofString "need_two") 3 F_need_two (.cons (.var 0) (.cons (.var 1) (.cons (.var 2) .nil)))))
    (.cons (.par (.cons (.nm 3) (.cons (.nm 4) .nil)) (.cons (.rng 2 (.cons (.bin .add (.bin .mul (.glob (Str.ofString "CUBES") (.int (2))) (.glob (Str.ofString "FACES") (.int (6)))) (.prim .len (.cons (.var 0) .nil))) .nil)) (.cons (.prim .listM (.cons (.var 1) .nil)) .nil)))
    (.cons (.loop (.tup 2 (.cons (.nm 5) (.cons (.nm 6) .nil))) (.val (.var 2)) b_exchange_two_1 [5, 6, 7, 8, 9, 10])
    (.cons (.ret (.call (Str.ofString "turned_round") 1 F_turned_round (.cons (.var 3) .nil)))
    .nil))))
def B_exchange_two : List D → Sto → Rs D := runF 3 11 (denSs ir_exchange_two)
@[irreducible] def F_exchange_two : List D → Sto → Rs D := lcall B_exchange_two
/-! ### ahead_of (0 event, 1 others, 2 found, 3 number, 4 place, 5 letter, 6 cells, 7 cell) -/
def b_ahead_of_1 : Ss := (.cons (.ife (.and (.cons (.cmp .lt (.var 4) (.ix (.var 0) (.int 0))) (.cons (.prim .any (.cons (.comp false (.val (.var 6)) (.nm 7) .no (.cmp .isin (.var 7) (.ix (.var 0) (.int 2))) [((Str.ofString "cell"), 7)]) .nil)) .nil)))
    (.cons (.asg (.nm 2) (.bin .add (.var 3) (.int 1)))
    .nil)
    .nil)
    .nil)
abbrev L_ahead_of_1 := WL (.tup 2 (.cons (.nm 3) (.cons (.tup 3 (.cons (.nm 4) (.cons (.nm 5) (.cons (.nm 6) .nil)))) .nil))) [3, 4, 5, 6] b_ahead_of_1
def ir_ahead_of : Ss := (.cons (.asg (.nm 2) (.int 0))
    (.cons (.loop (.tup 2 (.cons (.nm 3) (.cons (.tup 3 (.cons (.nm 4) (.cons (.nm 5) (.cons (.nm 6) .nil)))) .nil))) (.enum (.var 1)) b_ahead_of_1 [3, 4, 5, 6])
    (.cons (.ret (.var 2))
    .nil)))
def B_ahead_of : List D → Sto → Rs D := runF 2 8 (denSs ir_ahead_of)
@[irreducible] def F_ahead_of : List D → Sto → Rs D := lcall B_ahead_of
/-! ### wants_of (0 events, 1 cube, 2 event) -/
def ir_wants_of : Ss := (.cons (.ret (.comp false (.r1 (.cons (.glob (Str.ofString "CUBES") (.int (2))) .nil)) (.nm 1) .no (.comp false (.val (.ix (.var 0) (.var 1))) (.nm 2) .no (.call (Str.ofString "ahead_of") 2 F_ahead_of (.cons (.var 2) (.cons (.ix (.var 0) (.bin .sub (.int 1) (.var 1))) .nil))) [((Str.ofString "event"), 2)]) [((Str.ofString "cube"), 1)]))
    .nil)
def B_wants_of : List D → Sto → Rs D := runF 1 3 (denSs ir_wants_of)
@[irreducible] def F_wants_of : List D → Sto → Rs D := lcall B_wants_of
/-! ### events_of (0 pair, 1 turns, 2 cells, 3 found, 4 place, 5 cube, 6 letter, 7 later, 8 stand) -/
def b_events_of_1 : Ss := (.cons (.asg (.nm 7) (.call (Str.ofString "beside") 2 F_beside (.cons (.ix (.var 2) (.var 5)) (.cons (.var 6) .nil))))
    (.cons (.expr (.meth .append (.ix (.var 3) (.var 5)) (.cons (.tup (.cons (.var 4) (.cons (.var 6) (.cons (.tup (.cons (.ix (.var 2) (.var 5)) (.cons (.var 7) .nil))) .nil)))) .nil)))
    (.cons (.asg (.sub (.var 2) (.var 5)) (.var 7))
    .nil)))
abbrev L_events_of_1 := WL (.tup 2 (.cons (.nm 4) (.cons (.tup 2 (.cons (.nm 5) (.cons (.nm 6) .nil))) .nil))) [4, 5, 6, 7] b_events_of_1
def ir_events_of : Ss := (.cons (.par (.cons (.nm 2) (.cons (.nm 3) .nil)) (.cons (.comp true (.val (.var 0)) (.nm 8) .no (.ix (.var 8) (.int 0)) [((Str.ofString "stand"), 8)]) (.cons (.comp false (.r1 (.cons (.glob (Str.ofString "CUBES") (.int (2))) .nil)) (.nm 5) .no (.lst false .nil) [((Str.ofString "cube"), 5)]) .nil)))
    (.cons (.loop (.tup 2 (.cons (.nm 4) (.cons (.tup 2 (.cons (.nm 5) (.cons (.nm 6) .nil))) .nil))) (.enum (.var 1)) b_events_of_1 [4, 5, 6, 7])
    (.cons (.ret (.var 3))
    .nil)))
def B_events_of : List D → Sto → Rs D := runF 2 9 (denSs ir_events_of)
@[irreducible] def F_events_of : List D → Sto → Rs D := lcall B_events_of
/-! ### mends (0 floor, 1 cell, 2 row, 3 thing, 4 kept, 5 place, 6 letter) -/
def ir_mends : Ss := (.cons (.expr (.call (Str.ofString "need_rolls_from") 3 F_need_rolls_from (.cons (.var 0) (.cons (.var 1) (.cons (.var 2) .nil)))))
    (.cons (.ife (.or (.cons (.not (.call (Str.ofString "are_some") 3 F_are_some (.cons (.var 3) (.cons (.int 0) (.cons (.prim .len (.cons (.var 2) .nil)) .nil))))) (.cons (.not (.prim .all (.cons (.comp false (.val (.var 3)) (.nm 5) .no (.call (Str.ofString "is_among") 3 F_is_among (.cons (.var 5) (.cons (.int 0) (.cons (.bin .sub (.prim .len (.cons (.var 2) .nil)) (.int 1)) .nil)))) [((Str.ofString "place"), 5)]) .nil))) .nil)))
    (.cons (.ret (.bl false))
    .nil)
    .nil)
    (.cons (.ife (.not (.call (Str.ofString "rises") 1 F_rises (.cons (.var 3) .nil)))
    (.cons (.ret (.bl false))
    .nil)
    .nil)
    (.cons (.asg (.nm 4) (.comp false (.enum (.var 2)) (.tup 2 (.cons (.nm 5) (.cons (.nm 6) .nil))) (.yes (.cmp .notin (.var 5) (.var 3))) (.var 6) [((Str.ofString "place"), 5), ((Str.ofString "letter"), 6)]))
    (.cons (.ret (.cmp .is (.call (Str.ofString "off_at") 3 F_off_at (.cons (.var 0) (.cons (.var 1) (.cons (.var 4) .nil)))) .non))
    .nil)))))
def B_mends : List D → Sto → Rs D := runF 4 7 (denSs ir_mends)
@[irreducible] def F_mends : List D → Sto → Rs D := lcall B_mends
/-! ### number_in (0 word, 1 sign) -/
def ir_number_in : Ss := (.cons (.ife (.or (.cons (.not (.chn .le .le (.int 1) (.prim .len (.cons (.var 0) .nil)) (.glob (Str.ofString "MOST_FIGURES") (.int (13))))) (.cons (.not (.prim .all (.cons (.comp false (.val (.var 0)) (.nm 1) .no (.cmp .isin (.var 1) (.glob (Str.ofString "FIGURES") (.str (Str.ofString "0123456789")))) [((Str.ofString "sign"), 1)]) .nil))) .nil)))
    (.cons (.ret .non)
    .nil)
    .nil)
    (.cons (.ret (.ife (.or (.cons (.cmp .eq (.var 0) (.str (Str.ofString "0"))) (.cons (.cmp .ne (.ix (.var 0) (.int 0)) (.str (Str.ofString "0"))) .nil))) (.prim .int (.cons (.var 0) .nil)) .non))
    .nil))
def B_number_in : List D → Sto → Rs D := runF 1 2 (denSs ir_number_in)
@[irreducible] def F_number_in : List D → Sto → Rs D := lcall B_number_in
end Tm.Pg
namespace Tm.Lg
open PySem Tm Tm.Pg
/-! ### six_a (0 _law_lying_here, 1 _law_low, 2 _law_north, 3 _law_east) -/
def ir_six_a : Ss := (.cons (.asg (.tup 3 (.cons (.nm 1) (.cons (.nm 2) (.cons (.nm 3) .nil)))) (.var 0))
    (.cons (.ret (.tup (.cons (.var 1) (.cons (.bin .sub (.int 5) (.var 1)) (.cons (.var 2) (.cons (.bin .sub (.int 5) (.var 2)) (.cons (.var 3) (.cons (.bin .sub (.int 5) (.var 3)) .nil))))))))
    .nil))
def B_six_a : List D → Sto → Rs D := runF 1 4 (denSs ir_six_a)
@[irreducible] def F_six_a : List D → Sto → Rs D := lcall B_six_a
/-! ### rolled_a (0 _law_six_here, 1 _law_letter, 2 _law_low, 3 _law_top, 4 _law_north, 5 _law_south, 6 _law_east, 7 _law_west) -/
def ir_rolled_a : Ss := (.cons (.asg (.tup 6 (.cons (.nm 2) (.cons (.nm 3) (.cons (.nm 4) (.cons (.nm 5) (.cons (.nm 6) (.cons (.nm 7) .nil))))))) (.var 0))
    (.cons (.ife (.cmp .eq (.var 1) (.str (Str.ofString "n")))
    (.cons (.ret (.tup (.cons (.var 4) (.cons (.var 5) (.cons (.var 3) (.cons (.var 2) (.cons (.var 6) (.cons (.var 7) .nil))))))))
    .nil)
    .nil)
    (.cons (.ife (.cmp .eq (.var 1) (.str (Str.ofString "s")))
    (.cons (.ret (.tup (.cons (.var 5) (.cons (.var 4) (.cons (.var 2) (.cons (.var 3) (.cons (.var 6) (.cons (.var 7) .nil))))))))
    .nil)
    .nil)
    (.cons (.ife (.cmp .eq (.var 1) (.str (Str.ofString "e")))
    (.cons (.ret (.tup (.cons (.var 6) (.cons (.var 7) (.cons (.var 4) (.cons (.var 5) (.cons (.var 3) (.cons (.var 2) .nil))))))))
    .nil)
    .nil)
    (.cons (.ret (.tup (.cons (.var 7) (.cons (.var 6) (.cons (.var 4) (.cons (.var 5) (.cons (.var 2) (.cons (.var 3) .nil))))))))
    .nil)))))
def B_rolled_a : List D → Sto → Rs D := runF 2 8 (denSs ir_rolled_a)
@[irreducible] def F_rolled_a : List D → Sto → Rs D := lcall B_rolled_a
/-! ### pen_a (0 _law_cell) -/
def ir_pen_a : Ss := (.cons (.ret (.lst true (.cons (.prim .max2 (.cons (.int 0) (.cons (.bin .sub (.var 0) (.bin .pow (.int 10) (.int 18))) .nil))) (.cons (.bin .add (.bin .mod (.var 0) (.int 2147483629)) (.int 1)) (.cons (.int 0) .nil)))))
    .nil)
def B_pen_a : List D → Sto → Rs D := runF 1 1 (denSs ir_pen_a)
@[irreducible] def F_pen_a : List D → Sto → Rs D := lcall B_pen_a
/-! ### cell_at_a (0 _law_script, 1 _law_k) -/
def ir_cell_at_a : Ss := (.cons (.ife (.cmp .lt (.var 1) (.prim .len (.cons (.var 0) .nil)))
    (.cons (.ret (.ix (.var 0) (.var 1)))
    .nil)
    .nil)
    (.cons (.ret (.int 0))
    .nil))
def B_cell_at_a : List D → Sto → Rs D := runF 2 2 (denSs ir_cell_at_a)
@[irreducible] def F_cell_at_a : List D → Sto → Rs D := lcall B_cell_at_a
/-! ### draw_a (0 _law_pen_here, 1 _law_many, 2 _law_found, 3 _law_stirred) -/
def ir_draw_a : Ss := (.cons (.ife (.cmp .gt (.ix (.var 0) (.int 0)) (.int 0))
    (.cons (.asg (.nm 2) (.bin .mod (.ix (.var 0) (.int 0)) (.var 1)))
    (.cons (.asg (.sub (.var 0) (.int 0)) (.bin .div (.ix (.var 0) (.int 0)) (.var 1)))
    (.cons (.ret (.var 2))
    .nil)))
    .nil)
    (.cons (.asg (.sub (.var 0) (.int 2)) (.bin .add (.ix (.var 0) (.int 2)) (.int 1)))
    (.cons (.asg (.sub (.var 0) (.int 1)) (.bin .mod (.bin .add (.bin .add (.bin .mul (.ix (.var 0) (.int 1)) (.int 48271)) (.bin .mul (.int 1013) (.ix (.var 0) (.int 2)))) (.int 11)) (.int 2147483647)))
    (.cons (.asg (.nm 3) (.bin .mod (.bin .add (.bin .add (.bin .mul (.ix (.var 0) (.int 1)) (.ix (.var 0) (.int 1))) (.bin .mul (.int 40692) (.ix (.var 0) (.int 1)))) (.int 7)) (.int 2147483629)))
    (.cons (.ret (.bin .mod (.bin .div (.bin .mod (.bin .mul (.var 3) (.int 69621)) (.int 2147483647)) (.int 16)) (.var 1)))
    .nil)))))
def B_draw_a : List D → Sto → Rs D := runF 2 4 (denSs ir_draw_a)
@[irreducible] def F_draw_a : List D → Sto → Rs D := lcall B_draw_a
/-! ### to_a (0 _law_cell, 1 _law_letter, 2 _law_across) -/
def ir_to_a : Ss := (.cons (.asg (.nm 2) (.bin .sub (.prim .int (.cons (.cmp .eq (.var 1) (.str (Str.ofString "e"))) .nil)) (.prim .int (.cons (.cmp .eq (.var 1) (.str (Str.ofString "w"))) .nil))))
    (.cons (.ret (.tup (.cons (.bin .add (.ix (.var 0) (.int 0)) (.var 2)) (.cons (.bin .sub (.bin .add (.ix (.var 0) (.int 1)) (.prim .int (.cons (.cmp .eq (.var 1) (.str (Str.ofString "n"))) .nil))) (.prim .int (.cons (.cmp .eq (.var 1) (.str (Str.ofString "s"))) .nil))) .nil))))
    .nil))
def B_to_a : List D → Sto → Rs D := runF 2 3 (denSs ir_to_a)
@[irreducible] def F_to_a : List D → Sto → Rs D := lcall B_to_a
/-! ### pick_a (0 _law_pen_here, 1 _law_some) -/
def ir_pick_a : Ss := (.cons (.ret (.ix (.var 1) (.call (Str.ofString "_law_draw") 2 F_draw_a (.cons (.var 0) (.cons (.prim .len (.cons (.var 1) .nil)) .nil)))))
    .nil)
def B_pick_a : List D → Sto → Rs D := runF 2 2 (denSs ir_pick_a)
@[irreducible] def F_pick_a : List D → Sto → Rs D := lcall B_pick_a
/-! ### floor_a (0 _law_pen_here, 1 _law_most, 2 _law_found, 3 _law_lap, 4 _law_cell) -/
def b_floor_a_1 : Ss := (.cons (.asg (.nm 4) (.call (Str.ofString "_law_to") 2 F_to_a (.cons (.call (Str.ofString "_law_pick") 2 F_pick_a (.cons (.var 0) (.cons (.var 2) .nil))) (.cons (.ix (.str (Str.ofString "ensw")) (.call (Str.ofString "_law_draw") 2 F_draw_a (.cons (.var 0) (.cons (.int 4) .nil)))) .nil))))
    (.cons (.ife (.cmp .eq (.call (Str.ofString "_law_draw") 2 F_draw_a (.cons (.var 0) (.cons (.int 8) .nil))) (.int 0))
    (.cons (.asg (.nm 4) (.tup (.cons (.call (Str.ofString "_law_draw") 2 F_draw_a (.cons (.var 0) (.cons (.int 4) .nil))) (.cons (.call (Str.ofString "_law_draw") 2 F_draw_a (.cons (.var 0) (.cons (.int 4) .nil))) .nil))))
    .nil)
    .nil)
    (.cons (.ife (.and (.cons (.cmp .le (.int 0) (.prim .min1 (.cons (.var 4) .nil))) (.cons (.cmp .lt (.prim .max1 (.cons (.var 4) .nil)) (.int 4)) (.cons (.cmp .notin (.var 4) (.var 2)) .nil))))
    (.cons (.expr (.meth .append (.var 2) (.cons (.var 4) .nil)))
    .nil)
    .nil)
    .nil)))
abbrev L_floor_a_1 := WL (.nm 3) [3, 4] b_floor_a_1
def ir_floor_a : Ss := (.cons (.asg (.nm 2) (.lst true (.cons (.tup (.cons (.call (Str.ofString "_law_draw") 2 F_draw_a (.cons (.var 0) (.cons (.int 4) .nil))) (.cons (.call (Str.ofString "_law_draw") 2 F_draw_a (.cons (.var 0) (.cons (.int 4) .nil))) .nil))) .nil)))
    (.cons (.loop (.nm 3) (.r1 (.cons (.call (Str.ofString "_law_draw") 2 F_draw_a (.cons (.var 0) (.cons (.var 1) .nil))) .nil)) b_floor_a_1 [3, 4])
    (.cons (.ret (.prim .tuple (.cons (.prim .sorted (.cons (.var 2) .nil)) .nil)))
    .nil)))
def B_floor_a : List D → Sto → Rs D := runF 2 5 (denSs ir_floor_a)
@[irreducible] def F_floor_a : List D → Sto → Rs D := lcall B_floor_a
/-! ### lying_a (0 _law_pen_here, 1 _law_six_here, 2 _law_lap) -/
def b_lying_a_1 : Ss := (.cons (.asg (.nm 1) (.call (Str.ofString "_law_rolled") 2 F_rolled_a (.cons (.var 1) (.cons (.ix (.str (Str.ofString "ensw")) (.call (Str.ofString "_law_draw") 2 F_draw_a (.cons (.var 0) (.cons (.int 4) .nil)))) .nil))))
    .nil)
abbrev L_lying_a_1 := WL (.nm 2) [2] b_lying_a_1
def ir_lying_a : Ss := (.cons (.asg (.nm 1) (.call (Str.ofString "_law_six") 1 F_six_a (.cons (.tup (.cons (.int 0) (.cons (.int 1) (.cons (.int 2) .nil)))) .nil)))
    (.cons (.loop (.nm 2) (.r1 (.cons (.bin .add (.int 4) (.call (Str.ofString "_law_draw") 2 F_draw_a (.cons (.var 0) (.cons (.int 2) .nil)))) .nil)) b_lying_a_1 [2])
    (.cons (.ret (.tup (.cons (.ix (.var 1) (.int 0)) (.cons (.ix (.var 1) (.int 2)) (.cons (.ix (.var 1) (.int 4)) .nil)))))
    .nil)))
def B_lying_a : List D → Sto → Rs D := runF 1 3 (denSs ir_lying_a)
@[irreducible] def F_lying_a : List D → Sto → Rs D := lcall B_lying_a
/-! ### whole_a (0 _law_thing) -/
def ir_whole_a : Ss := (.cons (.ret (.and (.cons (.isa (.var 0) "int") (.cons (.not (.isa (.var 0) "bool")) .nil))))
    .nil)
def B_whole_a : List D → Sto → Rs D := runF 1 1 (denSs ir_whole_a)
@[irreducible] def F_whole_a : List D → Sto → Rs D := lcall B_whole_a
/-! ### stand_a (0 _law_pen_here, 1 _law_floor_here) -/
def ir_stand_a : Ss := (.cons (.ret (.tup (.cons (.call (Str.ofString "_law_pick") 2 F_pick_a (.cons (.var 0) (.cons (.prim .list (.cons (.var 1) .nil)) .nil))) (.cons (.call (Str.ofString "_law_lying") 1 F_lying_a (.cons (.var 0) .nil)) .nil))))
    .nil)
def B_stand_a : List D → Sto → Rs D := runF 2 2 (denSs ir_stand_a)
@[irreducible] def F_stand_a : List D → Sto → Rs D := lcall B_stand_a
/-! ### row_a (0 _law_pen_here, 1 _law_floor_here, 2 _law_cell, 3 _law_most, 4 _law_found, 5 _law_lap, 6 _law_some, 7 _law_letter) -/
def b_row_a_1 : Ss := (.cons (.asg (.nm 6) (.comp false (.val (.str (Str.ofString "ensw"))) (.nm 7) (.yes (.cmp .isin (.call (Str.ofString "_law_to") 2 F_to_a (.cons (.var 2) (.cons (.var 7) .nil))) (.var 1))) (.var 7) [((Str.ofString "_law_letter"), 7)]))
    (.cons (.ife (.cmp .ne (.var 6) (.lst false .nil))
    (.cons (.asg (.nm 4) (.bin .add (.var 4) (.call (Str.ofString "_law_pick") 2 F_pick_a (.cons (.var 0) (.cons (.var 6) .nil)))))
    (.cons (.asg (.nm 2) (.call (Str.ofString "_law_to") 2 F_to_a (.cons (.var 2) (.cons (.ix (.var 4) (.neg (.int 1))) .nil))))
    .nil))
    .nil)
    .nil))
abbrev L_row_a_1 := WL (.nm 5) [5, 6] b_row_a_1
def ir_row_a : Ss := (.cons (.asg (.nm 4) (.str (Str.ofString "")))
    (.cons (.loop (.nm 5) (.r1 (.cons (.call (Str.ofString "_law_draw") 2 F_draw_a (.cons (.var 0) (.cons (.bin .add (.var 3) (.int 1)) .nil))) .nil)) b_row_a_1 [5, 6])
    (.cons (.ret (.var 4))
    .nil)))
def B_row_a : List D → Sto → Rs D := runF 4 8 (denSs ir_row_a)
@[irreducible] def F_row_a : List D → Sto → Rs D := lcall B_row_a
/-! ### back_a (0 _law_row_here, 1 _law_letter) -/
def ir_back_a : Ss := (.cons (.ret (.meth .join (.str (Str.ofString "")) (.cons (.comp false (.val (.rev (.var 0))) (.nm 1) .no (.ix (.str (Str.ofString "wsne")) (.idx (.str (Str.ofString "ensw")) (.cons (.var 1) .nil))) [((Str.ofString "_law_letter"), 1)]) .nil)))
    .nil)
def B_back_a : List D → Sto → Rs D := runF 1 2 (denSs ir_back_a)
@[irreducible] def F_back_a : List D → Sto → Rs D := lcall B_back_a
/-! ### walked_a (0 _law_floor_here, 1 _law_stand_here, 2 _law_row_here, 3 _law_found, 4 _law_letter, 5 _law_cell) -/
def b_walked_a_1 : Ss := (.cons (.asg (.nm 5) (.call (Str.ofString "_law_to") 2 F_to_a (.cons (.ix (.ix (.var 3) (.neg (.int 1))) (.int 0)) (.cons (.var 4) .nil))))
    (.cons (.ife (.cmp .notin (.var 5) (.var 0))
    (.cons (.ret (.var 3))
    .nil)
    .nil)
    (.cons (.expr (.meth .append (.var 3) (.cons (.tup (.cons (.var 5) (.cons (.call (Str.ofString "_law_rolled") 2 F_rolled_a (.cons (.ix (.ix (.var 3) (.neg (.int 1))) (.int 1)) (.cons (.var 4) .nil))) .nil))) .nil)))
    .nil)))
abbrev L_walked_a_1 := WL (.nm 4) [4, 5] b_walked_a_1
def ir_walked_a : Ss := (.cons (.asg (.nm 3) (.lst true (.cons (.tup (.cons (.ix (.var 1) (.int 0)) (.cons (.call (Str.ofString "_law_six") 1 F_six_a (.cons (.ix (.var 1) (.int 1)) .nil)) .nil))) .nil)))
    (.cons (.loop (.nm 4) (.val (.var 2)) b_walked_a_1 [4, 5])
    (.cons (.ret (.var 3))
    .nil)))
def B_walked_a : List D → Sto → Rs D := runF 3 6 (denSs ir_walked_a)
@[irreducible] def F_walked_a : List D → Sto → Rs D := lcall B_walked_a
/-! ### marks_a (0 _law_pen_here, 1 _law_floor_here, 2 _law_most, 3 _law_spot) -/
def ir_marks_a : Ss := (.cons (.asg (.nm 2) (.call (Str.ofString "_law_pick") 2 F_pick_a (.cons (.var 0) (.cons (.lst false (.cons (.int 2) (.cons (.int 4) (.cons (.int 1000) .nil)))) .nil))))
    (.cons (.ret (.prim .tuple (.cons (.comp false (.r1 (.cons (.bin .add (.int 6) (.prim .len (.cons (.var 1) .nil))) .nil)) (.nm 3) .no (.call (Str.ofString "_law_draw") 2 F_draw_a (.cons (.var 0) (.cons (.var 2) .nil))) [((Str.ofString "_law_spot"), 3)]) .nil)))
    .nil))
def B_marks_a : List D → Sto → Rs D := runF 2 4 (denSs ir_marks_a)
@[irreducible] def F_marks_a : List D → Sto → Rs D := lcall B_marks_a
/-! ### end_a (0 _law_cell, 1 _law_row_here, 2 _law_letter) -/
def b_end_a_1 : Ss := (.cons (.asg (.nm 0) (.call (Str.ofString "_law_to") 2 F_to_a (.cons (.var 0) (.cons (.var 2) .nil))))
    .nil)
abbrev L_end_a_1 := WL (.nm 2) [2] b_end_a_1
def ir_end_a : Ss := (.cons (.loop (.nm 2) (.val (.var 1)) b_end_a_1 [2])
    (.cons (.ret (.var 0))
    .nil))
def B_end_a : List D → Sto → Rs D := runF 2 3 (denSs ir_end_a)
@[irreducible] def F_end_a : List D → Sto → Rs D := lcall B_end_a
/-! ### home_a (0 _law_pen_here, 1 _law_floor_here, 2 _law_cell, 3 _law_most, 4 _law_row_here, 5 _law_ends, 6 _law_at) -/
def ir_home_a : Ss := (.cons (.asg (.nm 4) (.call (Str.ofString "_law_row") 4 F_row_a (.cons (.var 0) (.cons (.var 1) (.cons (.var 2) (.cons (.var 3) .nil))))))
    (.cons (.asg (.nm 5) (.comp false (.r2 (.cons (.int 1) (.cons (.bin .add (.prim .len (.cons (.var 4) .nil)) (.int 1)) .nil))) (.nm 6) (.yes (.cmp .eq (.call (Str.ofString "_law_end") 2 F_end_a (.cons (.var 2) (.cons (.sl (.var 4) .no (.yes (.var 6))) .nil))) (.var 2))) (.var 6) [((Str.ofString "_law_at"), 6)]))
    (.cons (.ife (.and (.cons (.cmp .ne (.var 5) (.lst false .nil)) (.cons (.cmp .gt (.call (Str.ofString "_law_draw") 2 F_draw_a (.cons (.var 0) (.cons (.int 4) .nil))) (.int 0)) .nil)))
    (.cons (.ret (.sl (.var 4) .no (.yes (.ix (.var 5) (.neg (.int 1))))))
    .nil)
    .nil)
    (.cons (.ret (.bin .add (.var 4) (.call (Str.ofString "_law_back") 1 F_back_a (.cons (.var 4) .nil))))
    .nil))))
def B_home_a : List D → Sto → Rs D := runF 4 7 (denSs ir_home_a)
@[irreducible] def F_home_a : List D → Sto → Rs D := lcall B_home_a
/-! ### then_a (0 _law_one, 1 _law_other, 2 _law_spot) -/
def ir_then_a : Ss := (.cons (.ret (.prim .tuple (.cons (.comp false (.val (.var 0)) (.nm 2) .no (.ix (.var 1) (.var 2)) [((Str.ofString "_law_spot"), 2)]) .nil)))
    .nil)
def B_then_a : List D → Sto → Rs D := runF 2 3 (denSs ir_then_a)
@[irreducible] def F_then_a : List D → Sto → Rs D := lcall B_then_a
/-! ### still_a (0 _law_floor_here) -/
def ir_still_a : Ss := (.cons (.ret (.rng 0 (.cons (.bin .add (.int 6) (.prim .len (.cons (.var 0) .nil))) .nil)))
    .nil)
def B_still_a : List D → Sto → Rs D := runF 1 1 (denSs ir_still_a)
@[irreducible] def F_still_a : List D → Sto → Rs D := lcall B_still_a
/-! ### undone_a (0 _law_row_here, 1 _law_letter) -/
def ir_undone_a : Ss := (.cons (.ret (.meth .join (.str (Str.ofString "")) (.cons (.comp false (.val (.rev (.var 0))) (.nm 1) .no (.bin .add (.bin .add (.call (Str.ofString "_law_back") 1 F_back_a (.cons (.var 1) .nil)) (.var 1)) (.call (Str.ofString "_law_back") 1 F_back_a (.cons (.var 1) .nil))) [((Str.ofString "_law_letter"), 1)]) .nil)))
    .nil)
def B_undone_a : List D → Sto → Rs D := runF 1 2 (denSs ir_undone_a)
@[irreducible] def F_undone_a : List D → Sto → Rs D := lcall B_undone_a
/-! ### pen_b (0 _law_cell) -/
def ir_pen_b : Ss := (.cons (.ret (.lst true (.cons (.prim .max2 (.cons (.int 0) (.cons (.bin .sub (.var 0) (.bin .pow (.int 10) (.int 18))) .nil))) (.cons (.bin .mod (.var 0) (.int 1000000007)) (.cons (.int 0) .nil)))))
    .nil)
def B_pen_b : List D → Sto → Rs D := runF 1 1 (denSs ir_pen_b)
@[irreducible] def F_pen_b : List D → Sto → Rs D := lcall B_pen_b
/-! ### draw_b (0 _law_pen_here, 1 _law_many, 2 _law_digit, 3 _law_stir) -/
def ir_draw_b : Ss := (.cons (.ife (.cmp .gt (.ix (.var 0) (.int 0)) (.int 0))
    (.cons (.asg (.nm 2) (.bin .mod (.ix (.var 0) (.int 0)) (.var 1)))
    (.cons (.asg (.sub (.var 0) (.int 0)) (.bin .div (.ix (.var 0) (.int 0)) (.var 1)))
    (.cons (.ret (.var 2))
    .nil)))
    .nil)
    (.cons (.asg (.sub (.var 0) (.int 2)) (.bin .add (.ix (.var 0) (.int 2)) (.int 1)))
    (.cons (.asg (.nm 3) (.bin .mod (.bin .mul (.bin .add (.ix (.var 0) (.int 1)) (.bin .mul (.int 17) (.ix (.var 0) (.int 2)))) (.bin .add (.int 69621) (.bin .mul (.int 2) (.ix (.var 0) (.int 2))))) (.int 2147483647)))
    (.cons (.asg (.nm 3) (.bin .mod (.bin .add (.bin .add (.bin .mul (.var 3) (.var 3)) (.bin .mul (.int 40503) (.ix (.var 0) (.int 2)))) (.int 5)) (.int 2147483629)))
    (.cons (.ret (.bin .mod (.bin .div (.bin .mod (.bin .mul (.var 3) (.int 48271)) (.int 2147483647)) (.int 32)) (.var 1)))
    .nil)))))
def B_draw_b : List D → Sto → Rs D := runF 2 4 (denSs ir_draw_b)
@[irreducible] def F_draw_b : List D → Sto → Rs D := lcall B_draw_b
/-! ### pick_b (0 _law_pen_here, 1 _law_some) -/
def ir_pick_b : Ss := (.cons (.ret (.ix (.var 1) (.call (Str.ofString "_law_draw") 2 F_draw_b (.cons (.var 0) (.cons (.prim .len (.cons (.var 1) .nil)) .nil)))))
    .nil)
def B_pick_b : List D → Sto → Rs D := runF 2 2 (denSs ir_pick_b)
@[irreducible] def F_pick_b : List D → Sto → Rs D := lcall B_pick_b
/-! ### beside_b (0 _law_cell, 1 _law_letter, 2 _law_column, 3 _law_row) -/
def ir_beside_b : Ss := (.cons (.asg (.tup 2 (.cons (.nm 2) (.cons (.nm 3) .nil))) (.var 0))
    (.cons (.ret (.ix (.ddsp [(Str.ofString "n"), (Str.ofString "s"), (Str.ofString "e"), (Str.ofString "w")] (.cons (.tup (.cons (.var 2) (.cons (.bin .add (.var 3) (.int 1)) .nil))) (.cons (.tup (.cons (.var 2) (.cons (.bin .sub (.var 3) (.int 1)) .nil))) (.cons (.tup (.cons (.bin .add (.var 2) (.int 1)) (.cons (.var 3) .nil))) (.cons (.tup (.cons (.bin .sub (.var 2) (.int 1)) (.cons (.var 3) .nil))) .nil))))) (.var 1)))
    .nil))
def B_beside_b : List D → Sto → Rs D := runF 2 4 (denSs ir_beside_b)
@[irreducible] def F_beside_b : List D → Sto → Rs D := lcall B_beside_b
/-! ### drawn_floor_b (0 _law_pen_here, 1 _law_most, 2 _law_found, 3 _law_turn, 4 _law_near, 5 _law_here, 6 _law_cell, 7 _law_letter) -/
def b_drawn_floor_b_1 : Ss := (.cons (.expr (.meth .extend (.var 4) (.cons (.comp false (.val (.str (Str.ofString "nesw"))) (.nm 7) .no (.call (Str.ofString "_law_beside") 2 F_beside_b (.cons (.var 5) (.cons (.var 7) .nil))) [((Str.ofString "_law_letter"), 7)]) .nil)))
    .nil)
def b_drawn_floor_b_2 : Ss := (.cons (.asg (.nm 4) (.lst true .nil))
    (.cons (.loop (.nm 5) (.val (.var 2)) b_drawn_floor_b_1 [5])
    (.cons (.asg (.nm 4) (.comp true (.val (.var 4)) (.nm 6) (.yes (.and (.cons (.cmp .notin (.var 6) (.var 2)) (.cons (.cmp .lt (.prim .max1 (.cons (.var 6) .nil)) (.int 4)) (.cons (.cmp .ge (.prim .min1 (.cons (.var 6) .nil)) (.int 0)) .nil))))) (.var 6) [((Str.ofString "_law_cell"), 6)]))
    (.cons (.asg (.nm 6) (.ife (.cmp .eq (.call (Str.ofString "_law_draw") 2 F_draw_b (.cons (.var 0) (.cons (.int 8) .nil))) (.int 0)) (.tup (.cons (.call (Str.ofString "_law_draw") 2 F_draw_b (.cons (.var 0) (.cons (.int 4) .nil))) (.cons (.call (Str.ofString "_law_draw") 2 F_draw_b (.cons (.var 0) (.cons (.int 4) .nil))) .nil))) (.call (Str.ofString "_law_pick") 2 F_pick_b (.cons (.var 0) (.cons (.var 4) .nil)))))
    (.cons (.ife (.cmp .notin (.var 6) (.var 2))
    (.cons (.expr (.meth .append (.var 2) (.cons (.var 6) .nil)))
    .nil)
    .nil)
    .nil)))))
abbrev L_drawn_floor_b_1 := WL (.nm 5) [5] b_drawn_floor_b_1
abbrev L_drawn_floor_b_2 := WL (.nm 3) [3, 4, 5, 6] b_drawn_floor_b_2
def ir_drawn_floor_b : Ss := (.cons (.asg (.nm 2) (.lst true (.cons (.tup (.cons (.call (Str.ofString "_law_draw") 2 F_draw_b (.cons (.var 0) (.cons (.int 4) .nil))) (.cons (.call (Str.ofString "_law_draw") 2 F_draw_b (.cons (.var 0) (.cons (.int 4) .nil))) .nil))) .nil)))
    (.cons (.loop (.nm 3) (.r1 (.cons (.call (Str.ofString "_law_draw") 2 F_draw_b (.cons (.var 0) (.cons (.var 1) .nil))) .nil)) b_drawn_floor_b_2 [3, 4, 5, 6])
    (.cons (.ret (.prim .tuple (.cons (.prim .sorted (.cons (.var 2) .nil)) .nil)))
    .nil)))
def B_drawn_floor_b : List D → Sto → Rs D := runF 2 8 (denSs ir_drawn_floor_b)
@[irreducible] def F_drawn_floor_b : List D → Sto → Rs D := lcall B_drawn_floor_b
/-! ### tip_b (0 _law_lying, 1 _law_letter, 2 _law_low, 3 _law_north, 4 _law_east, 5 _law_found) -/
def ir_tip_b : Ss := (.cons (.asg (.tup 3 (.cons (.nm 2) (.cons (.nm 3) (.cons (.nm 4) .nil)))) (.var 0))
    (.cons (.asg (.nm 5) (.ddsp [(Str.ofString "n"), (Str.ofString "s"), (Str.ofString "e")] (.cons (.tup (.cons (.var 3) (.cons (.bin .sub (.int 5) (.var 2)) (.cons (.var 4) .nil)))) (.cons (.tup (.cons (.bin .sub (.int 5) (.var 3)) (.cons (.var 2) (.cons (.var 4) .nil)))) (.cons (.tup (.cons (.var 4) (.cons (.var 3) (.cons (.bin .sub (.int 5) (.var 2)) .nil)))) .nil)))))
    (.cons (.asg (.sub (.var 5) (.str (Str.ofString "w"))) (.tup (.cons (.bin .sub (.int 5) (.var 4)) (.cons (.var 3) (.cons (.var 2) .nil)))))
    (.cons (.ret (.ix (.var 5) (.var 1)))
    .nil))))
def B_tip_b : List D → Sto → Rs D := runF 2 6 (denSs ir_tip_b)
@[irreducible] def F_tip_b : List D → Sto → Rs D := lcall B_tip_b
/-! ### drawn_stand_b (0 _law_pen_here, 1 _law_floor, 2 _law_lying, 3 _law_turn) -/
def b_drawn_stand_b_1 : Ss := (.cons (.asg (.nm 2) (.call (Str.ofString "_law_tip") 2 F_tip_b (.cons (.var 2) (.cons (.call (Str.ofString "_law_pick") 2 F_pick_b (.cons (.var 0) (.cons (.str (Str.ofString "nesw")) .nil))) .nil))))
    .nil)
abbrev L_drawn_stand_b_1 := WL (.nm 3) [3] b_drawn_stand_b_1
def ir_drawn_stand_b : Ss := (.cons (.asg (.nm 2) (.tup (.cons (.int 0) (.cons (.int 1) (.cons (.int 2) .nil)))))
    (.cons (.loop (.nm 3) (.r1 (.cons (.call (Str.ofString "_law_draw") 2 F_draw_b (.cons (.var 0) (.cons (.int 9) .nil))) .nil)) b_drawn_stand_b_1 [3])
    (.cons (.ret (.tup (.cons (.call (Str.ofString "_law_pick") 2 F_pick_b (.cons (.var 0) (.cons (.var 1) .nil))) (.cons (.var 2) .nil))))
    .nil)))
def B_drawn_stand_b : List D → Sto → Rs D := runF 2 4 (denSs ir_drawn_stand_b)
@[irreducible] def F_drawn_stand_b : List D → Sto → Rs D := lcall B_drawn_stand_b
/-! ### all_spots_b (0 _law_floor) -/
def ir_all_spots_b : Ss := (.cons (.ret (.rng 1 (.cons (.bin .add (.int 6) (.prim .len (.cons (.var 0) .nil))) .nil)))
    .nil)
def B_all_spots_b : List D → Sto → Rs D := runF 1 1 (denSs ir_all_spots_b)
@[irreducible] def F_all_spots_b : List D → Sto → Rs D := lcall B_all_spots_b
/-! ### free_b (0 _law_floor, 1 _law_cell, 2 _law_letter) -/
def ir_free_b : Ss := (.cons (.ret (.comp false (.val (.str (Str.ofString "ensw"))) (.nm 2) (.yes (.cmp .isin (.call (Str.ofString "_law_beside") 2 F_beside_b (.cons (.var 1) (.cons (.var 2) .nil))) (.var 0))) (.var 2) [((Str.ofString "_law_letter"), 2)]))
    .nil)
def B_free_b : List D → Sto → Rs D := runF 2 3 (denSs ir_free_b)
@[irreducible] def F_free_b : List D → Sto → Rs D := lcall B_free_b
/-! ### drawn_row_b (0 _law_pen_here, 1 _law_floor, 2 _law_cell, 3 _law_most, 4 _law_found, 5 _law_turn) -/
def b_drawn_row_b_1 : Ss := (.cons (.ife (.cmp .ne (.call (Str.ofString "_law_free") 2 F_free_b (.cons (.var 1) (.cons (.var 2) .nil))) (.lst false .nil))
    (.cons (.asg (.nm 4) (.bin .add (.var 4) (.call (Str.ofString "_law_pick") 2 F_pick_b (.cons (.var 0) (.cons (.call (Str.ofString "_law_free") 2 F_free_b (.cons (.var 1) (.cons (.var 2) .nil))) .nil)))))
    (.cons (.asg (.nm 2) (.call (Str.ofString "_law_beside") 2 F_beside_b (.cons (.var 2) (.cons (.ix (.var 4) (.neg (.int 1))) .nil))))
    .nil))
    .nil)
    .nil)
abbrev L_drawn_row_b_1 := WL (.nm 5) [5] b_drawn_row_b_1
def ir_drawn_row_b : Ss := (.cons (.asg (.nm 4) (.str (Str.ofString "")))
    (.cons (.loop (.nm 5) (.r1 (.cons (.call (Str.ofString "_law_draw") 2 F_draw_b (.cons (.var 0) (.cons (.bin .add (.var 3) (.int 1)) .nil))) .nil)) b_drawn_row_b_1 [5])
    (.cons (.ret (.var 4))
    .nil)))
def B_drawn_row_b : List D → Sto → Rs D := runF 4 6 (denSs ir_drawn_row_b)
@[irreducible] def F_drawn_row_b : List D → Sto → Rs D := lcall B_drawn_row_b
/-! ### within_b (0 _law_thing, 1 _law_low, 2 _law_high) -/
def ir_within_b : Ss := (.cons (.ret (.and (.cons (.call (Str.ofString "_law_whole") 1 F_whole_a (.cons (.var 0) .nil)) (.cons (.chn .le .le (.var 1) (.var 0) (.var 2)) .nil))))
    .nil)
def B_within_b : List D → Sto → Rs D := runF 3 3 (denSs ir_within_b)
@[irreducible] def F_within_b : List D → Sto → Rs D := lcall B_within_b
/-! ### near_c (0 _law_cells, 1 _law_found, 2 _law_column, 3 _law_row, 4 _law_one) -/
def b_near_c_1 : Ss := (.cons (.ife (.and (.cons (.cmp .notin (.var 4) (.var 0)) (.cons (.chn .le .lt (.int 0) (.ix (.var 4) (.int 0)) (.int 4)) (.cons (.chn .le .lt (.int 0) (.ix (.var 4) (.int 1)) (.int 4)) .nil))))
    (.cons (.asg (.sub (.var 1) (.var 4)) (.bl true))
    .nil)
    .nil)
    .nil)
def b_near_c_2 : Ss := (.cons (.loop (.nm 4) (.val (.lst false (.cons (.tup (.cons (.bin .add (.var 2) (.int 1)) (.cons (.var 3) .nil))) (.cons (.tup (.cons (.bin .sub (.var 2) (.int 1)) (.cons (.var 3) .nil))) (.cons (.tup (.cons (.var 2) (.cons (.bin .add (.var 3) (.int 1)) .nil))) (.cons (.tup (.cons (.var 2) (.cons (.bin .sub (.var 3) (.int 1)) .nil))) .nil)))))) b_near_c_1 [4])
    .nil)
abbrev L_near_c_1 := WL (.nm 4) [4] b_near_c_1
abbrev L_near_c_2 := WL (.tup 2 (.cons (.nm 2) (.cons (.nm 3) .nil))) [2, 3, 4] b_near_c_2
def ir_near_c : Ss := (.cons (.asg (.nm 1) (.dnew true))
    (.cons (.loop (.tup 2 (.cons (.nm 2) (.cons (.nm 3) .nil))) (.val (.var 0)) b_near_c_2 [2, 3, 4])
    (.cons (.ret (.prim .sorted (.cons (.var 1) .nil)))
    .nil)))
def B_near_c : List D → Sto → Rs D := runF 1 5 (denSs ir_near_c)
@[irreducible] def F_near_c : List D → Sto → Rs D := lcall B_near_c
/-! ### block_c (0 _law_pen_here, 1 _law_wide, 2 _law_high, 3 _law_left, 4 _law_low, 5 _law_spot) -/
def ir_block_c : Ss := (.cons (.par (.cons (.nm 3) (.cons (.nm 4) .nil)) (.cons (.call (Str.ofString "_law_draw") 2 F_draw_b (.cons (.var 0) (.cons (.bin .sub (.int 5) (.var 1)) .nil))) (.cons (.call (Str.ofString "_law_draw") 2 F_draw_b (.cons (.var 0) (.cons (.bin .sub (.int 5) (.var 2)) .nil))) .nil)))
    (.cons (.ret (.comp false (.r1 (.cons (.bin .mul (.var 1) (.var 2)) .nil)) (.nm 5) .no (.tup (.cons (.bin .add (.var 3) (.bin .div (.var 5) (.var 2))) (.cons (.bin .add (.var 4) (.bin .mod (.var 5) (.var 2))) .nil))) [((Str.ofString "_law_spot"), 5)]))
    .nil))
def B_block_c : List D → Sto → Rs D := runF 3 6 (denSs ir_block_c)
@[irreducible] def F_block_c : List D → Sto → Rs D := lcall B_block_c
/-! ### rolled_c (0 _law_lying, 1 _law_letter, 2 _law_low, 3 _law_north, 4 _law_east, 5 _law_some) -/
def ir_rolled_c : Ss := (.cons (.asg (.tup 3 (.cons (.nm 2) (.cons (.nm 3) (.cons (.nm 4) .nil)))) (.var 0))
    (.cons (.asg (.nm 5) (.lst false (.cons (.tup (.cons (.var 4) (.cons (.var 3) (.cons (.bin .sub (.int 5) (.var 2)) .nil)))) (.cons (.tup (.cons (.var 3) (.cons (.bin .sub (.int 5) (.var 2)) (.cons (.var 4) .nil)))) (.cons (.tup (.cons (.bin .sub (.int 5) (.var 3)) (.cons (.var 2) (.cons (.var 4) .nil)))) (.cons (.tup (.cons (.bin .sub (.int 5) (.var 4)) (.cons (.var 3) (.cons (.var 2) .nil)))) .nil))))))
    (.cons (.ret (.ix (.var 5) (.idx (.str (Str.ofString "ensw")) (.cons (.var 1) .nil))))
    .nil)))
def B_rolled_c : List D → Sto → Rs D := runF 2 6 (denSs ir_rolled_c)
@[irreducible] def F_rolled_c : List D → Sto → Rs D := lcall B_rolled_c
/-! ### stand_c (0 _law_pen_here, 1 _law_floor_here, 2 _law_lying, 3 _law_turn) -/
def b_stand_c_1 : Ss := (.cons (.asg (.nm 2) (.call (Str.ofString "_law_rolled") 2 F_rolled_c (.cons (.var 2) (.cons (.ix (.str (Str.ofString "ensw")) (.call (Str.ofString "_law_draw") 2 F_draw_b (.cons (.var 0) (.cons (.int 4) .nil)))) .nil))))
    .nil)
abbrev L_stand_c_1 := WL (.nm 3) [3] b_stand_c_1
def ir_stand_c : Ss := (.cons (.asg (.nm 2) (.tup (.cons (.int 0) (.cons (.int 1) (.cons (.int 2) .nil)))))
    (.cons (.loop (.nm 3) (.r1 (.cons (.call (Str.ofString "_law_draw") 2 F_draw_b (.cons (.var 0) (.cons (.int 7) .nil))) .nil)) b_stand_c_1 [3])
    (.cons (.ret (.tup (.cons (.ix (.var 1) (.call (Str.ofString "_law_draw") 2 F_draw_b (.cons (.var 0) (.cons (.prim .len (.cons (.var 1) .nil)) .nil)))) (.cons (.var 2) .nil))))
    .nil)))
def B_stand_c : List D → Sto → Rs D := runF 2 4 (denSs ir_stand_c)
@[irreducible] def F_stand_c : List D → Sto → Rs D := lcall B_stand_c
/-! ### beside_c (0 _law_cell, 1 _law_letter, 2 _law_spot) -/
def ir_beside_c : Ss := (.cons (.asg (.nm 2) (.idx (.str (Str.ofString "ensw")) (.cons (.var 1) .nil)))
    (.cons (.ret (.tup (.cons (.bin .add (.ix (.var 0) (.int 0)) (.ix (.lst false (.cons (.int 1) (.cons (.int 0) (.cons (.int 0) (.cons (.neg (.int 1)) .nil))))) (.var 2))) (.cons (.bin .add (.ix (.var 0) (.int 1)) (.ix (.lst false (.cons (.int 0) (.cons (.int 1) (.cons (.neg (.int 1)) (.cons (.int 0) .nil))))) (.var 2))) .nil))))
    .nil))
def B_beside_c : List D → Sto → Rs D := runF 2 3 (denSs ir_beside_c)
@[irreducible] def F_beside_c : List D → Sto → Rs D := lcall B_beside_c
/-! ### walk_c (0 _law_pen_here, 1 _law_floor_here, 2 _law_cell, 3 _law_most, 4 _law_found, 5 _law_turn, 6 _law_some, 7 _law_letter) -/
def b_walk_c_1 : Ss := (.cons (.asg (.nm 6) (.comp false (.val (.str (Str.ofString "ensw"))) (.nm 7) (.yes (.cmp .isin (.call (Str.ofString "_law_beside") 2 F_beside_c (.cons (.var 2) (.cons (.var 7) .nil))) (.var 1))) (.var 7) [((Str.ofString "_law_letter"), 7)]))
    (.cons (.ife (.cmp .ne (.var 6) (.lst false .nil))
    (.cons (.asg (.nm 7) (.ix (.var 6) (.call (Str.ofString "_law_draw") 2 F_draw_b (.cons (.var 0) (.cons (.prim .len (.cons (.var 6) .nil)) .nil)))))
    (.cons (.par (.cons (.nm 4) (.cons (.nm 2) .nil)) (.cons (.bin .add (.var 4) (.var 7)) (.cons (.call (Str.ofString "_law_beside") 2 F_beside_c (.cons (.var 2) (.cons (.var 7) .nil))) .nil)))
    .nil))
    .nil)
    .nil))
abbrev L_walk_c_1 := WL (.nm 5) [5, 6, 7] b_walk_c_1
def ir_walk_c : Ss := (.cons (.asg (.nm 4) (.str (Str.ofString "")))
    (.cons (.loop (.nm 5) (.r1 (.cons (.call (Str.ofString "_law_draw") 2 F_draw_b (.cons (.var 0) (.cons (.bin .add (.var 3) (.int 1)) .nil))) .nil)) b_walk_c_1 [5, 6, 7])
    (.cons (.ret (.var 4))
    .nil)))
def B_walk_c : List D → Sto → Rs D := runF 4 8 (denSs ir_walk_c)
@[irreducible] def F_walk_c : List D → Sto → Rs D := lcall B_walk_c
/-! ### rolls_c (0 _law_floor_here, 1 _law_stand_here, 2 _law_row, 3 _law_now, 4 _law_cell, 5 _law_lying, 6 _law_marks, 7 _law_letter, 8 _law_here, 9 _law_low, 10 _law_kept) -/
def b_rolls_c_1 : Ss := (.cons (.par (.cons (.nm 4) (.cons (.nm 5) .nil)) (.cons (.call (Str.ofString "_law_beside") 2 F_beside_c (.cons (.var 4) (.cons (.var 7) .nil))) (.cons (.call (Str.ofString "_law_rolled") 2 F_rolled_c (.cons (.var 5) (.cons (.var 7) .nil))) .nil)))
    (.cons (.par (.cons (.nm 8) (.cons (.nm 9) .nil)) (.cons (.bin .add (.int 6) (.idx (.var 0) (.cons (.var 4) .nil))) (.cons (.ix (.var 5) (.int 0)) .nil)))
    (.cons (.asg (.nm 10) (.ix (.var 6) (.var 8)))
    (.cons (.asg (.sub (.var 6) (.var 8)) (.ix (.var 6) (.var 9)))
    (.cons (.asg (.sub (.var 6) (.var 9)) (.var 10))
    .nil)))))
abbrev L_rolls_c_1 := WL (.nm 7) [7, 8, 9, 10] b_rolls_c_1
def ir_rolls_c : Ss := (.cons (.par (.cons (.tup 2 (.cons (.nm 4) (.cons (.nm 5) .nil))) (.cons (.nm 6) .nil)) (.cons (.var 1) (.cons (.prim .listM (.cons (.var 3) .nil)) .nil)))
    (.cons (.loop (.nm 7) (.val (.var 2)) b_rolls_c_1 [7, 8, 9, 10])
    (.cons (.ret (.tup (.cons (.tup (.cons (.var 4) (.cons (.var 5) .nil))) (.cons (.prim .tuple (.cons (.var 6) .nil)) .nil))))
    .nil)))
def B_rolls_c : List D → Sto → Rs D := runF 4 11 (denSs ir_rolls_c)
@[irreducible] def F_rolls_c : List D → Sto → Rs D := lcall B_rolls_c
/-! ### some_looks_c (0 _law_pen_here, 1 _law_floor_here, 2 _law_stand_here, 3 _law_row, 4 _law_marks, 5 _law_most, 6 _law_found, 7 _law_turn, 8 _law_beat, 9 _law_spot, 10 _law_mark) -/
def b_some_looks_c_1 : Ss := (.cons (.par (.cons (.nm 8) (.cons (.nm 9) .nil)) (.cons (.call (Str.ofString "_law_draw") 2 F_draw_b (.cons (.var 0) (.cons (.bin .add (.prim .len (.cons (.var 3) .nil)) (.int 1)) .nil))) (.cons (.call (Str.ofString "_law_draw") 2 F_draw_b (.cons (.var 0) (.cons (.prim .len (.cons (.var 1) .nil)) .nil))) .nil)))
    (.cons (.asg (.nm 10) (.ix (.ix (.call (Str.ofString "_law_rolls") 4 F_rolls_c (.cons (.var 1) (.cons (.var 2) (.cons (.sl (.var 3) .no (.yes (.var 8))) (.cons (.var 4) .nil))))) (.int 1)) (.bin .add (.int 6) (.var 9))))
    (.cons (.expr (.meth .append (.var 6) (.cons (.tup (.cons (.var 8) (.cons (.ix (.var 1) (.var 9)) (.cons (.ix (.lst false (.cons (.var 10) (.cons (.var 10) (.cons (.var 10) (.cons (.var 10) (.cons (.var 10) (.cons (.var 10) (.cons (.call (Str.ofString "_law_draw") 2 F_draw_b (.cons (.var 0) (.cons (.int 1000) .nil))) .nil)))))))) (.call (Str.ofString "_law_draw") 2 F_draw_b (.cons (.var 0) (.cons (.int 7) .nil)))) .nil)))) .nil)))
    .nil)))
abbrev L_some_looks_c_1 := WL (.nm 7) [7, 8, 9, 10] b_some_looks_c_1
def ir_some_looks_c : Ss := (.cons (.asg (.nm 6) (.lst true .nil))
    (.cons (.loop (.nm 7) (.r1 (.cons (.call (Str.ofString "_law_draw") 2 F_draw_b (.cons (.var 0) (.cons (.bin .add (.var 5) (.int 1)) .nil))) .nil)) b_some_looks_c_1 [7, 8, 9, 10])
    (.cons (.ret (.prim .tuple (.cons (.var 6) .nil)))
    .nil)))
def B_some_looks_c : List D → Sto → Rs D := runF 6 11 (denSs ir_some_looks_c)
@[irreducible] def F_some_looks_c : List D → Sto → Rs D := lcall B_some_looks_c
/-! ### named_c (0 _law_floor_here, 1 _law_stand_here, 2 _law_row, 3 _law_looks, 4 _law_own, 5 _law_beat, 6 _law_cell, 7 _law_mark) -/
def ir_named_c : Ss := (.cons (.asg (.nm 4) (.rng 0 (.cons (.bin .add (.int 6) (.prim .len (.cons (.var 0) .nil))) .nil)))
    (.cons (.ret (.comp false (.val (.var 3)) (.tup 3 (.cons (.nm 5) (.cons (.nm 6) (.cons (.nm 7) .nil)))) .no (.ix (.ix (.call (Str.ofString "_law_rolls") 4 F_rolls_c (.cons (.var 0) (.cons (.var 1) (.cons (.sl (.var 2) .no (.yes (.var 5))) (.cons (.var 4) .nil))))) (.int 1)) (.bin .add (.int 6) (.idx (.var 0) (.cons (.var 6) .nil)))) [((Str.ofString "_law_beat"), 5), ((Str.ofString "_law_cell"), 6), ((Str.ofString "_law_mark"), 7)]))
    .nil))
def B_named_c : List D → Sto → Rs D := runF 4 8 (denSs ir_named_c)
@[irreducible] def F_named_c : List D → Sto → Rs D := lcall B_named_c
/-! ### is_let_c (0 _law_floor_here, 1 _law_cell, 2 _law_row, 3 _law_letter) -/
def b_is_let_c_1 : Ss := (.cons (.asg (.nm 1) (.call (Str.ofString "_law_beside") 2 F_beside_c (.cons (.var 1) (.cons (.var 3) .nil))))
    (.cons (.ife (.cmp .notin (.var 1) (.var 0))
    (.cons (.ret (.bl false))
    .nil)
    .nil)
    .nil))
abbrev L_is_let_c_1 := WL (.nm 3) [3] b_is_let_c_1
def ir_is_let_c : Ss := (.cons (.loop (.nm 3) (.val (.var 2)) b_is_let_c_1 [3])
    (.cons (.ret (.bl true))
    .nil))
def B_is_let_c : List D → Sto → Rs D := runF 3 4 (denSs ir_is_let_c)
@[irreducible] def F_is_let_c : List D → Sto → Rs D := lcall B_is_let_c
/-! ### marks_c (0 _law_pen_here, 1 _law_floor_here, 2 _law_most, 3 _law_spot) -/
def ir_marks_c : Ss := (.cons (.asg (.nm 2) (.ix (.lst false (.cons (.int 2) (.cons (.int 9) (.cons (.int 1000) .nil)))) (.call (Str.ofString "_law_draw") 2 F_draw_b (.cons (.var 0) (.cons (.int 3) .nil)))))
    (.cons (.ret (.prim .tuple (.cons (.comp false (.r1 (.cons (.bin .add (.int 6) (.prim .len (.cons (.var 1) .nil))) .nil)) (.nm 3) .no (.call (Str.ofString "_law_draw") 2 F_draw_b (.cons (.var 0) (.cons (.var 2) .nil))) [((Str.ofString "_law_spot"), 3)]) .nil)))
    .nil))
def B_marks_c : List D → Sto → Rs D := runF 2 4 (denSs ir_marks_c)
@[irreducible] def F_marks_c : List D → Sto → Rs D := lcall B_marks_c
/-! ### is_less_c (0 _law_told, 1 _law_marks_here, 2 _law_mark, 3 _law_own) -/
def ir_is_less_c : Ss := (.cons (.ret (.cmp .eq (.comp false (.zip (.cons (.var 0) (.cons (.var 1) .nil))) (.tup 2 (.cons (.nm 2) (.cons (.nm 3) .nil))) (.yes (.cmp .notin (.var 2) (.tup (.cons .non (.cons (.var 3) .nil))))) (.int 1) [((Str.ofString "_law_mark"), 2), ((Str.ofString "_law_own"), 3)]) (.lst false .nil)))
    .nil)
def B_is_less_c : List D → Sto → Rs D := runF 2 4 (denSs ir_is_less_c)
@[irreducible] def F_is_less_c : List D → Sto → Rs D := lcall B_is_less_c
/-! ### pen_d (0 _law_cell_here) -/
def ir_pen_d : Ss := (.cons (.ret (.lst true (.cons (.prim .max2 (.cons (.int 0) (.cons (.bin .sub (.var 0) (.bin .pow (.int 10) (.int 18))) .nil))) (.cons (.bin .mod (.var 0) (.int 1000000007)) (.cons (.int 0) .nil)))))
    .nil)
def B_pen_d : List D → Sto → Rs D := runF 1 1 (denSs ir_pen_d)
@[irreducible] def F_pen_d : List D → Sto → Rs D := lcall B_pen_d
/-! ### cell_d (0 _law_script, 1 _law_k) -/
def ir_cell_d : Ss := (.cons (.ife (.cmp .lt (.var 1) (.prim .len (.cons (.var 0) .nil)))
    (.cons (.ret (.ix (.var 0) (.var 1)))
    .nil)
    .nil)
    (.cons (.ret (.int 0))
    .nil))
def B_cell_d : List D → Sto → Rs D := runF 2 2 (denSs ir_cell_d)
@[irreducible] def F_cell_d : List D → Sto → Rs D := lcall B_cell_d
/-! ### pick_d (0 _law_pen_here, 1 _law_things) -/
def ir_pick_d : Ss := (.cons (.ret (.ix (.var 1) (.call (Str.ofString "_law_draw") 2 F_draw_b (.cons (.var 0) (.cons (.prim .len (.cons (.var 1) .nil)) .nil)))))
    .nil)
def B_pick_d : List D → Sto → Rs D := runF 2 2 (denSs ir_pick_d)
@[irreducible] def F_pick_d : List D → Sto → Rs D := lcall B_pick_d
/-! ### others_d (0 _law_cells, 1 _law_found, 2 _law_column, 3 _law_up) -/
def b_others_d_1 : Ss := (.cons (.asg (.nm 1) (.bin .add (.var 1) (.comp false (.r1 (.cons (.int 4) .nil)) (.nm 3) (.yes (.cmp .notin (.tup (.cons (.var 2) (.cons (.var 3) .nil))) (.var 0))) (.tup (.cons (.var 2) (.cons (.var 3) .nil))) [((Str.ofString "_law_up"), 3)])))
    .nil)
abbrev L_others_d_1 := WL (.nm 2) [2] b_others_d_1
def ir_others_d : Ss := (.cons (.asg (.nm 1) (.lst false .nil))
    (.cons (.loop (.nm 2) (.r1 (.cons (.int 4) .nil)) b_others_d_1 [2])
    (.cons (.ret (.var 1))
    .nil)))
def B_others_d : List D → Sto → Rs D := runF 1 4 (denSs ir_others_d)
@[irreducible] def F_others_d : List D → Sto → Rs D := lcall B_others_d
/-! ### beside_d (0 _law_cell_here, 1 _law_letter, 2 _law_across, 3 _law_up) -/
def ir_beside_d : Ss := (.cons (.asg (.tup 2 (.cons (.nm 2) (.cons (.nm 3) .nil))) (.ix (.ddsp [(Str.ofString "e"), (Str.ofString "n"), (Str.ofString "s"), (Str.ofString "w")] (.cons (.tup (.cons (.int 1) (.cons (.int 0) .nil))) (.cons (.tup (.cons (.int 0) (.cons (.int 1) .nil))) (.cons (.tup (.cons (.int 0) (.cons (.neg (.int 1)) .nil))) (.cons (.tup (.cons (.neg (.int 1)) (.cons (.int 0) .nil))) .nil))))) (.var 1)))
    (.cons (.ret (.tup (.cons (.bin .add (.ix (.var 0) (.int 0)) (.var 2)) (.cons (.bin .add (.ix (.var 0) (.int 1)) (.var 3)) .nil))))
    .nil))
def B_beside_d : List D → Sto → Rs D := runF 2 4 (denSs ir_beside_d)
@[irreducible] def F_beside_d : List D → Sto → Rs D := lcall B_beside_d
/-! ### floor_d (0 _law_pen_here, 1 _law_least, 2 _law_most, 3 _law_found, 4 _law_turn, 5 _law_near, 6 _law_one, 7 _law_side) -/
def b_floor_d_1 : Ss := (.cons (.asg (.nm 5) (.comp false (.val (.call (Str.ofString "_law_others") 1 F_others_d (.cons (.var 3) .nil))) (.nm 6) (.yes (.cmp .ne (.comp false (.val (.str (Str.ofString "ensw"))) (.nm 7) (.yes (.cmp .isin (.call (Str.ofString "_law_beside") 2 F_beside_d (.cons (.var 6) (.cons (.var 7) .nil))) (.var 3))) (.int 1) [((Str.ofString "_law_side"), 7)]) (.lst false .nil))) (.var 6) [((Str.ofString "_law_one"), 6)]))
    (.cons (.expr (.meth .append (.var 3) (.cons (.call (Str.ofString "_law_pick") 2 F_pick_d (.cons (.var 0) (.cons (.ife (.cmp .gt (.call (Str.ofString "_law_draw") 2 F_draw_b (.cons (.var 0) (.cons (.int 7) .nil))) (.int 0)) (.var 5) (.call (Str.ofString "_law_others") 1 F_others_d (.cons (.var 3) .nil))) .nil))) .nil)))
    .nil))
abbrev L_floor_d_1 := WL (.nm 4) [4, 5] b_floor_d_1
def ir_floor_d : Ss := (.cons (.asg (.nm 3) (.lst true (.cons (.tup (.cons (.call (Str.ofString "_law_draw") 2 F_draw_b (.cons (.var 0) (.cons (.int 4) .nil))) (.cons (.call (Str.ofString "_law_draw") 2 F_draw_b (.cons (.var 0) (.cons (.int 4) .nil))) .nil))) .nil)))
    (.cons (.loop (.nm 4) (.r1 (.cons (.bin .add (.bin .sub (.var 1) (.int 1)) (.call (Str.ofString "_law_draw") 2 F_draw_b (.cons (.var 0) (.cons (.bin .add (.bin .sub (.var 2) (.var 1)) (.int 1)) .nil)))) .nil)) b_floor_d_1 [4, 5])
    (.cons (.ret (.prim .tuple (.cons (.prim .sorted (.cons (.var 3) .nil)) .nil)))
    .nil)))
def B_floor_d : List D → Sto → Rs D := runF 3 8 (denSs ir_floor_d)
@[irreducible] def F_floor_d : List D → Sto → Rs D := lcall B_floor_d
/-! ### rolled_d (0 _law_lying_here, 1 _law_letter, 2 _law_low, 3 _law_north, 4 _law_east) -/
def ir_rolled_d : Ss := (.cons (.asg (.tup 3 (.cons (.nm 2) (.cons (.nm 3) (.cons (.nm 4) .nil)))) (.var 0))
    (.cons (.ife (.cmp .isin (.var 1) (.str (Str.ofString "ns")))
    (.cons (.ret (.ife (.cmp .eq (.var 1) (.str (Str.ofString "n"))) (.tup (.cons (.var 3) (.cons (.bin .sub (.int 5) (.var 2)) (.cons (.var 4) .nil)))) (.tup (.cons (.bin .sub (.int 5) (.var 3)) (.cons (.var 2) (.cons (.var 4) .nil))))))
    .nil)
    .nil)
    (.cons (.ret (.ife (.cmp .eq (.var 1) (.str (Str.ofString "e"))) (.tup (.cons (.var 4) (.cons (.var 3) (.cons (.bin .sub (.int 5) (.var 2)) .nil)))) (.tup (.cons (.bin .sub (.int 5) (.var 4)) (.cons (.var 3) (.cons (.var 2) .nil))))))
    .nil)))
def B_rolled_d : List D → Sto → Rs D := runF 2 5 (denSs ir_rolled_d)
@[irreducible] def F_rolled_d : List D → Sto → Rs D := lcall B_rolled_d
/-! ### lying_d (0 _law_pen_here, 1 _law_found, 2 _law_turn) -/
def b_lying_d_1 : Ss := (.cons (.asg (.nm 1) (.call (Str.ofString "_law_rolled") 2 F_rolled_d (.cons (.var 1) (.cons (.ix (.str (Str.ofString "ensw")) (.call (Str.ofString "_law_draw") 2 F_draw_b (.cons (.var 0) (.cons (.int 4) .nil)))) .nil))))
    .nil)
abbrev L_lying_d_1 := WL (.nm 2) [2] b_lying_d_1
def ir_lying_d : Ss := (.cons (.asg (.nm 1) (.tup (.cons (.int 0) (.cons (.int 1) (.cons (.int 2) .nil)))))
    (.cons (.loop (.nm 2) (.r1 (.cons (.call (Str.ofString "_law_draw") 2 F_draw_b (.cons (.var 0) (.cons (.int 7) .nil))) .nil)) b_lying_d_1 [2])
    (.cons (.ret (.var 1))
    .nil)))
def B_lying_d : List D → Sto → Rs D := runF 1 3 (denSs ir_lying_d)
@[irreducible] def F_lying_d : List D → Sto → Rs D := lcall B_lying_d
/-! ### pair_d (0 _law_pen_here, 1 _law_floor_here, 2 _law_first, 3 _law_second) -/
def ir_pair_d : Ss := (.cons (.asg (.nm 2) (.call (Str.ofString "_law_draw") 2 F_draw_b (.cons (.var 0) (.cons (.prim .len (.cons (.var 1) .nil)) .nil))))
    (.cons (.asg (.nm 3) (.bin .mod (.bin .add (.bin .add (.var 2) (.int 1)) (.call (Str.ofString "_law_draw") 2 F_draw_b (.cons (.var 0) (.cons (.bin .sub (.prim .len (.cons (.var 1) .nil)) (.int 1)) .nil)))) (.prim .len (.cons (.var 1) .nil))))
    (.cons (.ret (.tup (.cons (.tup (.cons (.ix (.var 1) (.var 2)) (.cons (.call (Str.ofString "_law_lying") 1 F_lying_d (.cons (.var 0) .nil)) .nil))) (.cons (.tup (.cons (.ix (.var 1) (.var 3)) (.cons (.call (Str.ofString "_law_lying") 1 F_lying_d (.cons (.var 0) .nil)) .nil))) .nil))))
    .nil)))
def B_pair_d : List D → Sto → Rs D := runF 2 4 (denSs ir_pair_d)
@[irreducible] def F_pair_d : List D → Sto → Rs D := lcall B_pair_d
/-! ### on_d (0 _law_cells, 1 _law_turn, 2 _law_later) -/
def ir_on_d : Ss := (.cons (.asg (.nm 2) (.call (Str.ofString "_law_beside") 2 F_beside_d (.cons (.ix (.var 0) (.ix (.var 1) (.int 0))) (.cons (.ix (.var 1) (.int 1)) .nil))))
    (.cons (.ret (.ife (.cmp .eq (.ix (.var 1) (.int 0)) (.int 0)) (.tup (.cons (.var 2) (.cons (.ix (.var 0) (.int 1)) .nil))) (.tup (.cons (.ix (.var 0) (.int 0)) (.cons (.var 2) .nil)))))
    .nil))
def B_on_d : List D → Sto → Rs D := runF 2 3 (denSs ir_on_d)
@[irreducible] def F_on_d : List D → Sto → Rs D := lcall B_on_d
/-! ### all_turns_d (0 _law_letter) -/
def ir_all_turns_d : Ss := (.cons (.ret (.bin .add (.comp false (.val (.str (Str.ofString "ensw"))) (.nm 0) .no (.tup (.cons (.int 0) (.cons (.var 0) .nil))) [((Str.ofString "_law_letter"), 0)]) (.comp false (.val (.str (Str.ofString "ensw"))) (.nm 0) .no (.tup (.cons (.int 1) (.cons (.var 0) .nil))) [((Str.ofString "_law_letter"), 0)])))
    .nil)
def B_all_turns_d : List D → Sto → Rs D := runF 0 1 (denSs ir_all_turns_d)
@[irreducible] def F_all_turns_d : List D → Sto → Rs D := lcall B_all_turns_d
/-! ### is_let_d (0 _law_floor_here, 1 _law_cells, 2 _law_turn, 3 _law_one, 4 _law_other) -/
def ir_is_let_d : Ss := (.cons (.asg (.tup 2 (.cons (.nm 3) (.cons (.nm 4) .nil))) (.call (Str.ofString "_law_on") 2 F_on_d (.cons (.var 1) (.cons (.var 2) .nil))))
    (.cons (.ret (.and (.cons (.cmp .isin (.var 3) (.var 0)) (.cons (.cmp .isin (.var 4) (.var 0)) (.cons (.cmp .ne (.var 3) (.var 4)) .nil)))))
    .nil))
def B_is_let_d : List D → Sto → Rs D := runF 3 5 (denSs ir_is_let_d)
@[irreducible] def F_is_let_d : List D → Sto → Rs D := lcall B_is_let_d
/-! ### turns_d (0 _law_pen_here, 1 _law_floor_here, 2 _law_pair_here, 3 _law_many, 4 _law_cells, 5 _law_found, 6 _law_turn, 7 _law_some, 8 _law_one) -/
def b_turns_d_1 : Ss := (.cons (.asg (.nm 7) (.comp false (.val (.call (Str.ofString "_law_all_turns") 0 F_all_turns_d .nil)) (.nm 8) (.yes (.call (Str.ofString "_law_is_let") 3 F_is_let_d (.cons (.var 1) (.cons (.var 4) (.cons (.var 8) .nil))))) (.var 8) [((Str.ofString "_law_one"), 8)]))
    (.cons (.ife (.cmp .ne (.var 7) (.lst false .nil))
    (.cons (.asg (.nm 5) (.bin .add (.var 5) (.tup (.cons (.call (Str.ofString "_law_pick") 2 F_pick_d (.cons (.var 0) (.cons (.var 7) .nil))) .nil))))
    (.cons (.asg (.nm 4) (.call (Str.ofString "_law_on") 2 F_on_d (.cons (.var 4) (.cons (.ix (.var 5) (.neg (.int 1))) .nil))))
    .nil))
    .nil)
    .nil))
abbrev L_turns_d_1 := WL (.nm 6) [6, 7] b_turns_d_1
def ir_turns_d : Ss := (.cons (.par (.cons (.nm 4) (.cons (.nm 5) .nil)) (.cons (.tup (.cons (.ix (.ix (.var 2) (.int 0)) (.int 0)) (.cons (.ix (.ix (.var 2) (.int 1)) (.int 0)) .nil))) (.cons (.tup .nil) .nil)))
    (.cons (.loop (.nm 6) (.r1 (.cons (.var 3) .nil)) b_turns_d_1 [6, 7])
    (.cons (.ret (.var 5))
    .nil)))
def B_turns_d : List D → Sto → Rs D := runF 4 9 (denSs ir_turns_d)
@[irreducible] def F_turns_d : List D → Sto → Rs D := lcall B_turns_d
/-! ### row_d (0 _law_pen_here, 1 _law_many, 2 _law_turn) -/
def ir_row_d : Ss := (.cons (.ret (.meth .join (.str (Str.ofString "")) (.cons (.comp false (.r1 (.cons (.var 1) .nil)) (.nm 2) .no (.ix (.str (Str.ofString "ensw")) (.call (Str.ofString "_law_draw") 2 F_draw_b (.cons (.var 0) (.cons (.int 4) .nil)))) [((Str.ofString "_law_turn"), 2)]) .nil)))
    .nil)
def B_row_d : List D → Sto → Rs D := runF 2 3 (denSs ir_row_d)
@[irreducible] def F_row_d : List D → Sto → Rs D := lcall B_row_d
/-! ### is_let_d2 (0 _law_floor_here, 1 _law_cell_here, 2 _law_row_here, 3 _law_letter) -/
def b_is_let_d2_1 : Ss := (.cons (.asg (.nm 1) (.call (Str.ofString "_law_beside") 2 F_beside_d (.cons (.var 1) (.cons (.var 3) .nil))))
    (.cons (.ife (.cmp .notin (.var 1) (.var 0))
    (.cons (.ret (.bl false))
    .nil)
    .nil)
    .nil))
abbrev L_is_let_d2_1 := WL (.nm 3) [3] b_is_let_d2_1
def ir_is_let_d2 : Ss := (.cons (.loop (.nm 3) (.val (.var 2)) b_is_let_d2_1 [3])
    (.cons (.ret (.bl true))
    .nil))
def B_is_let_d2 : List D → Sto → Rs D := runF 3 4 (denSs ir_is_let_d2)
@[irreducible] def F_is_let_d2 : List D → Sto → Rs D := lcall B_is_let_d2
/-! ### named_otherwise_d (0 _law_turns_here, 1 _law_cube, 2 _law_letter) -/
def ir_named_otherwise_d : Ss := (.cons (.ret (.prim .tuple (.cons (.comp false (.val (.var 0)) (.tup 2 (.cons (.nm 1) (.cons (.nm 2) .nil))) .no (.tup (.cons (.bin .sub (.int 1) (.var 1)) (.cons (.var 2) .nil))) [((Str.ofString "_law_cube"), 1), ((Str.ofString "_law_letter"), 2)]) .nil)))
    .nil)
def B_named_otherwise_d : List D → Sto → Rs D := runF 1 3 (denSs ir_named_otherwise_d)
@[irreducible] def F_named_otherwise_d : List D → Sto → Rs D := lcall B_named_otherwise_d
/-! ### rolled_e (0 _law_lying_here, 1 _law_letter, 2 _law_low, 3 _law_north, 4 _law_east) -/
def ir_rolled_e : Ss := (.cons (.asg (.tup 3 (.cons (.nm 2) (.cons (.nm 3) (.cons (.nm 4) .nil)))) (.var 0))
    (.cons (.ife (.cmp .eq (.var 1) (.str (Str.ofString "n")))
    (.cons (.ret (.tup (.cons (.var 3) (.cons (.bin .sub (.int 5) (.var 2)) (.cons (.var 4) .nil)))))
    .nil)
    .nil)
    (.cons (.ife (.cmp .eq (.var 1) (.str (Str.ofString "s")))
    (.cons (.ret (.tup (.cons (.bin .sub (.int 5) (.var 3)) (.cons (.var 2) (.cons (.var 4) .nil)))))
    .nil)
    .nil)
    (.cons (.ret (.ife (.cmp .eq (.var 1) (.str (Str.ofString "e"))) (.tup (.cons (.var 4) (.cons (.var 3) (.cons (.bin .sub (.int 5) (.var 2)) .nil)))) (.tup (.cons (.bin .sub (.int 5) (.var 4)) (.cons (.var 3) (.cons (.var 2) .nil))))))
    .nil))))
def B_rolled_e : List D → Sto → Rs D := runF 2 5 (denSs ir_rolled_e)
@[irreducible] def F_rolled_e : List D → Sto → Rs D := lcall B_rolled_e
/-! ### lying_e (0 _law_pen_here, 1 _law_lying_here, 2 _law_turn) -/
def b_lying_e_1 : Ss := (.cons (.asg (.nm 1) (.call (Str.ofString "_law_rolled") 2 F_rolled_e (.cons (.var 1) (.cons (.ix (.str (Str.ofString "ensw")) (.call (Str.ofString "_law_draw") 2 F_draw_b (.cons (.var 0) (.cons (.int 4) .nil)))) .nil))))
    .nil)
abbrev L_lying_e_1 := WL (.nm 2) [2] b_lying_e_1
def ir_lying_e : Ss := (.cons (.asg (.nm 1) (.tup (.cons (.int 0) (.cons (.int 1) (.cons (.int 2) .nil)))))
    (.cons (.loop (.nm 2) (.r1 (.cons (.call (Str.ofString "_law_draw") 2 F_draw_b (.cons (.var 0) (.cons (.int 7) .nil))) .nil)) b_lying_e_1 [2])
    (.cons (.ret (.var 1))
    .nil)))
def B_lying_e : List D → Sto → Rs D := runF 1 3 (denSs ir_lying_e)
@[irreducible] def F_lying_e : List D → Sto → Rs D := lcall B_lying_e
/-! ### start_e (0 _law_pen_here, 1 _law_floor_here) -/
def ir_start_e : Ss := (.cons (.ret (.tup (.cons (.call (Str.ofString "_law_pick") 2 F_pick_b (.cons (.var 0) (.cons (.prim .list (.cons (.var 1) .nil)) .nil))) (.cons (.call (Str.ofString "_law_lying") 1 F_lying_e (.cons (.var 0) .nil)) .nil))))
    .nil)
def B_start_e : List D → Sto → Rs D := runF 2 2 (denSs ir_start_e)
@[irreducible] def F_start_e : List D → Sto → Rs D := lcall B_start_e
/-! ### marks_e (0 _law_pen_here, 1 _law_floor_here, 2 _law_far, 3 _law_spot) -/
def ir_marks_e : Ss := (.cons (.asg (.nm 2) (.ix (.lst false (.cons (.int 2) (.cons (.int 9) (.cons (.int 1000) .nil)))) (.call (Str.ofString "_law_draw") 2 F_draw_b (.cons (.var 0) (.cons (.int 3) .nil)))))
    (.cons (.ret (.prim .tuple (.cons (.comp false (.r1 (.cons (.bin .add (.int 6) (.prim .len (.cons (.var 1) .nil))) .nil)) (.nm 3) .no (.call (Str.ofString "_law_draw") 2 F_draw_b (.cons (.var 0) (.cons (.var 2) .nil))) [((Str.ofString "_law_spot"), 3)]) .nil)))
    .nil))
def B_marks_e : List D → Sto → Rs D := runF 2 4 (denSs ir_marks_e)
@[irreducible] def F_marks_e : List D → Sto → Rs D := lcall B_marks_e
/-! ### beside_e (0 _law_cell, 1 _law_letter, 2 _law_across, 3 _law_up) -/
def ir_beside_e : Ss := (.cons (.asg (.tup 2 (.cons (.nm 2) (.cons (.nm 3) .nil))) (.ix (.ddsp [(Str.ofString "e"), (Str.ofString "n"), (Str.ofString "s"), (Str.ofString "w")] (.cons (.tup (.cons (.int 1) (.cons (.int 0) .nil))) (.cons (.tup (.cons (.int 0) (.cons (.int 1) .nil))) (.cons (.tup (.cons (.int 0) (.cons (.neg (.int 1)) .nil))) (.cons (.tup (.cons (.neg (.int 1)) (.cons (.int 0) .nil))) .nil))))) (.var 1)))
    (.cons (.ret (.tup (.cons (.bin .add (.ix (.var 0) (.int 0)) (.var 2)) (.cons (.bin .add (.ix (.var 0) (.int 1)) (.var 3)) .nil))))
    .nil))
def B_beside_e : List D → Sto → Rs D := runF 2 4 (denSs ir_beside_e)
@[irreducible] def F_beside_e : List D → Sto → Rs D := lcall B_beside_e
/-! ### row_e (0 _law_pen_here, 1 _law_floor_here, 2 _law_cell, 3 _law_most, 4 _law_row_here, 5 _law_turn, 6 _law_some, 7 _law_letter) -/
def b_row_e_1 : Ss := (.cons (.asg (.nm 6) (.comp false (.val (.str (Str.ofString "ensw"))) (.nm 7) (.yes (.cmp .isin (.call (Str.ofString "_law_beside") 2 F_beside_e (.cons (.var 2) (.cons (.var 7) .nil))) (.var 1))) (.var 7) [((Str.ofString "_law_letter"), 7)]))
    (.cons (.ife (.cmp .ne (.var 6) (.lst false .nil))
    (.cons (.asg (.nm 4) (.bin .add (.var 4) (.call (Str.ofString "_law_pick") 2 F_pick_b (.cons (.var 0) (.cons (.var 6) .nil)))))
    (.cons (.asg (.nm 2) (.call (Str.ofString "_law_beside") 2 F_beside_e (.cons (.var 2) (.cons (.ix (.var 4) (.neg (.int 1))) .nil))))
    .nil))
    .nil)
    .nil))
abbrev L_row_e_1 := WL (.nm 5) [5, 6] b_row_e_1
def ir_row_e : Ss := (.cons (.asg (.nm 4) (.str (Str.ofString "")))
    (.cons (.loop (.nm 5) (.r1 (.cons (.call (Str.ofString "_law_draw") 2 F_draw_b (.cons (.var 0) (.cons (.bin .add (.var 3) (.int 1)) .nil))) .nil)) b_row_e_1 [5, 6])
    (.cons (.ret (.var 4))
    .nil)))
def B_row_e : List D → Sto → Rs D := runF 4 8 (denSs ir_row_e)
@[irreducible] def F_row_e : List D → Sto → Rs D := lcall B_row_e
/-! ### any_row_e (0 _law_pen_here, 1 _law_most, 2 _law_turn) -/
def ir_any_row_e : Ss := (.cons (.ret (.meth .join (.str (Str.ofString "")) (.cons (.comp false (.r1 (.cons (.call (Str.ofString "_law_draw") 2 F_draw_b (.cons (.var 0) (.cons (.bin .add (.var 1) (.int 1)) .nil))) .nil)) (.nm 2) .no (.ix (.str (Str.ofString "ensw")) (.call (Str.ofString "_law_draw") 2 F_draw_b (.cons (.var 0) (.cons (.int 4) .nil)))) [((Str.ofString "_law_turn"), 2)]) .nil)))
    .nil)
def B_any_row_e : List D → Sto → Rs D := runF 2 3 (denSs ir_any_row_e)
@[irreducible] def F_any_row_e : List D → Sto → Rs D := lcall B_any_row_e
/-! ### closed_e (0 _law_pen_here, 1 _law_floor_here, 2 _law_cell, 3 _law_row_here, 4 _law_letter) -/
def ir_closed_e : Ss := (.cons (.asg (.nm 3) (.call (Str.ofString "_law_row") 4 F_row_e (.cons (.var 0) (.cons (.var 1) (.cons (.var 2) (.cons (.int 6) .nil))))))
    (.cons (.ret (.bin .add (.var 3) (.meth .join (.str (Str.ofString "")) (.cons (.comp false (.val (.rev (.var 3))) (.nm 4) .no (.ix (.str (Str.ofString "wsne")) (.idx (.str (Str.ofString "ensw")) (.cons (.var 4) .nil))) [((Str.ofString "_law_letter"), 4)]) .nil))))
    .nil))
def B_closed_e : List D → Sto → Rs D := runF 3 5 (denSs ir_closed_e)
@[irreducible] def F_closed_e : List D → Sto → Rs D := lcall B_closed_e
/-! ### odd_e (0 _law_pen_here, 1 _law_some) -/
def ir_odd_e : Ss := (.cons (.asg (.nm 1) (.lst false (.cons .non (.cons (.bl true) (.cons (.bl false) (.cons (.neg (.int 1)) (.cons (.int 0) (.cons (.int 5) (.cons (.bin .pow (.int 10) (.int 12)) (.cons (.str (Str.ofString "")) (.cons (.str (Str.ofString "n")) (.cons (.str (Str.ofString "floor")) (.cons (.tup .nil) (.cons (.lst false .nil) (.cons (.dnew true) (.cons (.tup (.cons (.int 1) .nil)) (.cons (.lst false (.cons (.int 1) .nil)) (.cons (.tup (.cons (.tup .nil) .nil)) (.cons (.tup (.cons (.int 1) (.cons (.int 2) .nil))) .nil)))))))))))))))))))
    (.cons (.ret (.ix (.var 1) (.call (Str.ofString "_law_draw") 2 F_draw_b (.cons (.var 0) (.cons (.int 17) .nil)))))
    .nil))
def B_odd_e : List D → Sto → Rs D := runF 1 2 (denSs ir_odd_e)
@[irreducible] def F_odd_e : List D → Sto → Rs D := lcall B_odd_e
end Tm.Lg
namespace Tm
open PySem L2

/-! ## neat data: small enough to be shown -/
structure Nt (w k : Nat) (d : PyData) : Prop where
  can : d.canLay0 = true
  short : d.intsShort 13 = true
  shw : d.showable = true
  wt : d.weight ≤ w
  dp : d.depth ≤ k
structure NtA (w k : Nat) (ds : List PyData) : Prop where
  can : PyData.canLayAll0 ds = true
  short : PyData.intsShortAll 13 ds = true
  shw : PyData.showableAll ds = true
  wt : PyData.weightAll ds ≤ w
  dp : PyData.depthAll ds ≤ k
theorem Nt.up {w k w' k' : Nat} {d : PyData} (h : Nt w k d) (h1 : w ≤ w') (h2 : k ≤ k') : Nt w' k' d := ⟨h.can, h.short, h.shw, Nat.le_trans h.wt h1, Nat.le_trans h.dp h2⟩
theorem NtA.nil {w k : Nat} : NtA w k [] := ⟨rfl, rfl, rfl, Nat.zero_le _, Nat.zero_le _⟩
theorem NtA.cons {w1 w2 k : Nat} {d : PyData} {ds : List PyData} (h : Nt w1 k d) (t : NtA w2 k ds) : NtA (w1 + 1 + w2) k (d :: ds) := by
  refine ⟨?_, ?_, ?_, ?_, ?_⟩
  · simp only [PyData.canLayAll0, h.can, t.can, Bool.and_self]
  · simp only [PyData.intsShortAll, h.short, t.short, Bool.and_self]
  · simp only [PyData.showableAll, h.shw, t.shw, Bool.and_self]
  · simp only [PyData.weightAll]; have := h.wt; have := t.wt; omega
  · simp only [PyData.depthAll]; have := h.dp; have := t.dp; omega
theorem Nt.tup {w k : Nat} {ds : List PyData} (h : NtA w k ds) : Nt w (k + 1) (.tuple ds) :=
  ⟨by simp only [PyData.canLay0, h.can], by simp only [PyData.intsShort, h.short], by simp only [PyData.showable, h.shw], by simp only [PyData.weight]; exact h.wt, by simp only [PyData.depth]; have := h.dp; omega⟩
theorem Nt.lst {w k : Nat} {ds : List PyData} (h : NtA w k ds) : Nt w (k + 1) (.list ds) :=
  ⟨by simp only [PyData.canLay0, h.can], by simp only [PyData.intsShort, h.short], by simp only [PyData.showable, h.shw], by simp only [PyData.weight]; exact h.wt, by simp only [PyData.depth]; have := h.dp; omega⟩
theorem NtA.all {w k : Nat} : ∀ {ds : List PyData} {n : Nat}, (∀ d ∈ ds, Nt w k d) → ds.length ≤ n → NtA (n * (w + 1)) k ds
  | [], n, _, _ => NtA.nil
  | d :: ds, 0, _, hl => absurd hl (by simp)
  | d :: ds, n + 1, h, hl => by
    have t := NtA.cons (h d (List.mem_cons_self ..)) (NtA.all (n := n) (fun x hx => h x (List.mem_cons_of_mem _ hx)) (by simpa using hl))
    refine ⟨t.can, t.short, t.shw, Nat.le_trans t.wt ?_, t.dp⟩
    rw [Nat.succ_mul]; omega
theorem Nt.non : Nt 0 0 .none := ⟨by simp [PyData.canLay0], by simp [PyData.intsShort], by simp [PyData.showable], by simp [PyData.weight], by simp [PyData.depth]⟩
theorem Nt.bool (b : Bool) : Nt 0 0 (.bool b) := ⟨by simp [PyData.canLay0], by simp [PyData.intsShort], by simp [PyData.showable], by simp [PyData.weight], by simp [PyData.depth]⟩
theorem Nt.int {i : Int} (h1 : -1000000 < i) (h2 : i < 1000000) : Nt 20 0 (.int i) := by
  have hn : i.natAbs < 2 ^ 20 := by omega
  have hl : i ≠ 0 → i.natAbs.log2 < 20 := fun z => (Nat.log2_lt (by omega)).mpr hn
  refine ⟨by simp [PyData.canLay0], ?_, ?_, ?_, by simp [PyData.depth]⟩
  · simp only [PyData.intsShort, decide_eq_true_eq]
    exact PyData.shown_int_le (by omega)
  · simp only [PyData.showable, decide_eq_true_eq]
    by_cases z : i = 0
    · subst z; decide
    · have := hl z; omega
  · simp only [PyData.weight]
    by_cases z : i = 0
    · subst z; decide
    · have := hl z
      rw [if_neg (by simpa using z)]; omega
theorem repr_nt {w k : Nat} {d : PyData} {S : Sto} (h : Nt w k d) (h1 : w ≤ 1000000) (h2 : k ≤ 60) : gRepr [.p d] S = some (.p (.str d.shown), S) := by
  have lay : d.layable0 = true := by
    unfold PyData.layable0
    have e1 : decide (d.depth ≤ 64) = true := decide_eq_true (by have := h.dp; omega)
    have e2 : decide (d.weight ≤ 2 ^ 20) = true := decide_eq_true (by have := h.wt; omega)
    rw [h.can, e1, e2]; rfl
  have hs := PyData.shown_le_of_layable0 lay h.short
  have e1 : decide (d.depth ≤ 64) = true := decide_eq_true (by have := h.dp; omega)
  have e2 : decide (d.shown.length ≤ Lim) = true := decide_eq_true (by unfold Lim; omega)
  show (if (d.showable && decide (d.shown.length ≤ Lim) && decide (d.depth ≤ 64)) = true then ok (.str d.shown) S else none) = _
  rw [h.shw, e1, e2]; rfl
/-! ## cells, letters, rows -/
abbrev Cell := Int × Int
def eC (c : Cell) : PyData := .tuple [.int c.1, .int c.2]
inductive Dir where
  | e | n | s | w
  deriving DecidableEq
def Dir.chr : Dir → Nat
  | .e => 101 | .n => 110 | .s => 115 | .w => 119
def eL (d : Dir) : PyData := .str ⟨#[d.chr]⟩
def rowS (r : List Dir) : Str := ⟨(r.map Dir.chr).toArray⟩
def dx : Dir → Int
  | .e => 1 | .w => -1 | _ => 0
def dy : Dir → Int
  | .n => 1 | .s => -1 | _ => 0
def stp (d : Dir) (c : Cell) : Cell := (c.1 + dx d, c.2 + dy d)
def Dir.back : Dir → Dir
  | .e => .w | .w => .e | .n => .s | .s => .n
theorem signs_rowS (r : List Dir) : signs (rowS r) = r.map eL := by
  unfold signs rowS
  simp only [List.toList_toArray, List.map_map]
  rfl
theorem rowS_len (r : List Dir) : (rowS r).length = r.length := by unfold rowS Str.length; simp
theorem eqv_cell (a b : Cell) : PyData.eqv (eC a) (eC b) = decide (a = b) := by
  unfold eC
  simp only [PyData.eqv, PyData.eqvAll, Bool.and_true]
  obtain ⟨a1, a2⟩ := a
  obtain ⟨b1, b2⟩ := b
  simp only [Prod.mk.injEq]
  rw [Bool.decide_and]
  rfl
theorem any_cell (cs : List Cell) (c : Cell) : (cs.map eC).any (fun z => PyData.eqv z (eC c)) = decide (c ∈ cs) := by
  rw [List.any_map]
  by_cases h : c ∈ cs
  · rw [decide_eq_true h, List.any_eq_true]
    exact ⟨c, h, by simp [eqv_cell]⟩
  · rw [decide_eq_false h, List.any_eq_false]
    intro x hx
    simp only [Function.comp, eqv_cell, decide_eq_true_eq]
    exact fun e => h (e ▸ hx)
theorem canLay_cell (c : Cell) : (eC c).canLay0 = true := by simp [eC, PyData.canLay0, PyData.canLayAll0]
theorem canLay_cells : ∀ cs : List Cell, PyData.canLayAll0 (cs.map eC) = true
  | [] => rfl
  | c :: cs => by simp only [List.map_cons, PyData.canLayAll0, canLay_cell, canLay_cells cs, Bool.and_self]
theorem depth_cell (c : Cell) : (eC c).depth = 1 := by simp [eC, PyData.depth, PyData.depthAll]
theorem depth_cells : ∀ cs : List Cell, PyData.depthAll (cs.map eC) ≤ 1
  | [] => by simp [PyData.depthAll]
  | c :: cs => by
    have := depth_cells cs
    simp only [List.map_cons, PyData.depthAll, depth_cell]; omega
theorem shaped_cell (c : Cell) : SeqAt.shaped (eC c) = true := by
  unfold SeqAt.shaped
  rw [canLay_cell, depth_cell]; rfl
theorem shaped_tup (cs : List Cell) : SeqAt.shaped (.tuple (cs.map eC)) = true := by
  unfold SeqAt.shaped
  have h1 : (PyData.tuple (cs.map eC)).canLay0 = true := by simp only [PyData.canLay0, canLay_cells]
  have h2 : (PyData.tuple (cs.map eC)).depth ≤ 64 := by simp only [PyData.depth]; have := depth_cells cs; omega
  rw [h1, decide_eq_true h2]; rfl
theorem shaped_lst (cs : List Cell) : SeqAt.shaped (.list (cs.map eC)) = true := by
  unfold SeqAt.shaped
  have h1 : (PyData.list (cs.map eC)).canLay0 = true := by simp only [PyData.canLay0, canLay_cells]
  have h2 : (PyData.list (cs.map eC)).depth ≤ 64 := by simp only [PyData.depth]; have := depth_cells cs; omega
  rw [h1, decide_eq_true h2]; rfl
theorem in_tup (cs : List Cell) (c : Cell) (S : Sto) : inD (.p (eC c)) (.p (.tuple (cs.map eC))) S = some (decide (c ∈ cs)) := by
  show (if (SeqAt.shaped (eC c) && SeqAt.shaped (.tuple (cs.map eC))) = true then some ((cs.map eC).any fun z => PyData.eqv z (eC c)) else none) = _
  rw [shaped_cell, shaped_tup, any_cell]; rfl
theorem in_lst {d : D} {S : Sto} (cs : List Cell) (c : Cell) (h : dataOf d S = some (.list (cs.map eC))) : inD (.p (eC c)) d S = some (decide (c ∈ cs)) := by
  unfold inD
  rw [h]
  show (if (SeqAt.shaped (eC c) && SeqAt.shaped (.list (cs.map eC))) = true then some ((cs.map eC).any fun z => PyData.eqv z (eC c)) else none) = _
  rw [shaped_cell, shaped_lst, any_cell]; rfl
/-! ### sorted cells -/
def cle (a b : Cell) : Bool := decide (a.1 < b.1 ∨ (a.1 = b.1 ∧ a.2 ≤ b.2))
def clt (a b : Cell) : Bool := decide (a.1 < b.1 ∨ (a.1 = b.1 ∧ a.2 < b.2))
theorem clt_lex (a b : Cell) : HT.lexLt [a.1, a.2] [b.1, b.2] = clt a b := by
  unfold clt
  rw [HT.lexLt_cons, HT.lexLt_cons, HT.lexLt_nil_nil]
  by_cases h : a.1 = b.1
  · rw [if_pos h]
    by_cases h2 : a.2 = b.2
    · rw [if_pos h2]; symm; rw [decide_eq_false_iff_not]; omega
    · rw [if_neg h2]; congr 1; simp [h]
  · rw [if_neg h]; congr 1; simp [h]
theorem less_cell (a b : Cell) (S : Sto) : gLess (.p (eC a)) (.p (eC b)) S = some (.p (.bool (clt a b)), S) := by
  show ok (.bool (HT.lexLt [a.1, a.2] [b.1, b.2])) S = _
  rw [clt_lex]; rfl
def sortC (cs : List Cell) : List Cell := cs.mergeSort cle
theorem sort_cells (cs : List Cell) : sortD (cs.map eC) = (sortC cs).map eC := by
  unfold sortD sortC
  refine (List.map_mergeSort fun a _ b _ => ?_).symm
  have := congrFun (congrFun (PySem.W.dataLe_ii (β := Cell) (fun c => c.1) (fun c => c.2)) a) b
  show cle a b = PySem.W.dataLe false id (eC a) (eC b)
  exact this.symm
theorem sortable_cells (cs : List Cell) : sortable (cs.map eC) = true := by
  unfold sortable allAlike
  have h1 : ((cs.map eC).all fun x => (cs.map eC).all fun y => PySem.W.alike x y) = true := by
    rw [List.all_eq_true]
    intro x hx
    rw [List.all_eq_true]
    intro y hy
    obtain ⟨a, _, rfl⟩ := List.mem_map.mp hx
    obtain ⟨b, _, rfl⟩ := List.mem_map.mp hy
    simp [eC, PySem.W.alike, PySem.W.alikeAll]
  have h2 : (cs.map eC).all isTup1 = true := by
    rw [List.all_eq_true]
    intro x hx
    obtain ⟨a, _, rfl⟩ := List.mem_map.mp hx
    rfl
  have h3 : ((cs.map eC).all fun x => decide (x.depth ≤ 64)) = true := by
    rw [List.all_eq_true]
    intro x hx
    obtain ⟨a, _, rfl⟩ := List.mem_map.mp hx
    rw [depth_cell]; rfl
  rw [h1, h2, h3]; rfl
/-- rising -/
def Rises : List Cell → Prop
  | a :: b :: r => clt a b = true ∧ Rises (b :: r)
  | _ => True
theorem sortC_perm (cs : List Cell) : (sortC cs).Perm cs := List.mergeSort_perm cs cle
theorem rises_of : ∀ {cs : List Cell}, cs.Nodup → List.Pairwise (fun a b => cle a b = true) cs → Rises cs
  | [], _, _ => trivial
  | [_], _, _ => trivial
  | a :: b :: r, nd, pw => by
    refine ⟨?_, rises_of (List.nodup_cons.mp nd).2 (List.pairwise_cons.mp pw).2⟩
    have h1 := (List.pairwise_cons.mp pw).1 b (List.mem_cons_self ..)
    have h2 : a ≠ b := fun e => (List.nodup_cons.mp nd).1 (by rw [e]; exact List.mem_cons_self ..)
    unfold cle at h1
    unfold clt
    simp only [decide_eq_true_eq] at h1 ⊢
    obtain ⟨a1, a2⟩ := a
    obtain ⟨b1, b2⟩ := b
    simp only [ne_eq, Prod.mk.injEq, not_and] at h2
    simp only at h1 ⊢
    by_cases e : a1 = b1
    · have := h2 e; omega
    · omega
theorem sortC_rises {cs : List Cell} (nd : cs.Nodup) : Rises (sortC cs) := by
  refine rises_of ((sortC_perm cs).nodup_iff.mpr nd) (List.pairwise_mergeSort (fun a b c h1 h2 => ?_) (fun a b => ?_) cs)
  · unfold cle at *
    simp only [decide_eq_true_eq] at *
    omega
  · unfold cle
    simp only [Bool.or_eq_true, decide_eq_true_eq]
    omega
/-- a floor: one to nine cells of four by four, rising -/
structure Floor (cs : List Cell) : Prop where
  pos : 0 < cs.length
  most : cs.length ≤ 9
  range : ∀ c ∈ cs, 0 ≤ c.1 ∧ c.1 ≤ 3 ∧ 0 ≤ c.2 ∧ c.2 ≤ 3
  rises : Rises cs
theorem floor_sort {cs : List Cell} (h0 : 0 < cs.length) (h1 : cs.length ≤ 9) (nd : cs.Nodup) (hr : ∀ c ∈ cs, 0 ≤ c.1 ∧ c.1 ≤ 3 ∧ 0 ≤ c.2 ∧ c.2 ≤ 3) : Floor (sortC cs) := by
  have p := sortC_perm cs
  exact ⟨by rw [p.length_eq]; exact h0, by rw [p.length_eq]; exact h1, fun c hc => hr c (p.mem_iff.mp hc), sortC_rises nd⟩
theorem nt_cell {c : Cell} (h : 0 ≤ c.1 ∧ c.1 ≤ 3 ∧ 0 ≤ c.2 ∧ c.2 ≤ 3) : Nt 42 1 (eC c) :=
  (Nt.tup (NtA.cons (Nt.int (by omega) (by omega)) (NtA.cons (Nt.int (by omega) (by omega)) (NtA.nil (w := 0))))).up (by decide) (by decide)
theorem nt_floor {cs : List Cell} (F : Floor cs) : Nt 400 2 (.tuple (cs.map eC)) := by
  refine (Nt.tup (NtA.all (w := 42) (k := 1) (n := 9) (fun d hd => ?_) (by rw [List.length_map]; exact F.most))).up (by decide) (by decide)
  obtain ⟨c, hc, rfl⟩ := List.mem_map.mp hd
  exact nt_cell (F.range c hc)
/-! ## lyings -/
abbrev Ly := Int × Int × Int
def eY (l : Ly) : PyData := .tuple [.int l.1, .int l.2.1, .int l.2.2]
def lyings : List Ly := [(0, 1, 2), (0, 2, 4), (0, 3, 1), (0, 4, 3), (1, 0, 3), (1, 2, 0), (1, 3, 5), (1, 5, 2), (2, 0, 1), (2, 1, 5), (2, 4, 0), (2, 5, 4), (3, 0, 4), (3, 1, 0), (3, 4, 5), (3, 5, 1), (4, 0, 2), (4, 2, 5), (4, 3, 0), (4, 5, 3), (5, 1, 3), (5, 2, 1), (5, 3, 4), (5, 4, 2)]
def roll : Dir → Ly → Ly
  | .n, (a, b, c) => (b, 5 - a, c)
  | .s, (a, b, c) => (5 - b, a, c)
  | .e, (a, b, c) => (c, b, 5 - a)
  | .w, (a, b, c) => (5 - c, b, a)
theorem roll_mem : ∀ l ∈ lyings, ∀ d : Dir, roll d l ∈ lyings := by
  have h : (lyings.all fun l => [Dir.e, .n, .s, .w].all fun d => decide (roll d l ∈ lyings)) = true := by decide +kernel
  intro l hl d
  have h2 := List.all_eq_true.mp (List.all_eq_true.mp h l hl) d (by cases d <;> simp)
  exact of_decide_eq_true h2
theorem roll_back : ∀ l : Ly, ∀ d : Dir, roll d.back (roll d l) = l := by
  rintro ⟨a, b, c⟩ d
  cases d <;> simp only [Dir.back, roll] <;> refine Prod.ext ?_ (Prod.ext ?_ ?_) <;> simp only <;> omega
theorem stp_back (c : Cell) (d : Dir) : stp d.back (stp d c) = c := by
  obtain ⟨a, b⟩ := c
  cases d <;> simp only [stp, Dir.back, dx, dy] <;> refine Prod.ext ?_ ?_ <;> simp only <;> omega
theorem ly_range : ∀ l ∈ lyings, (0 ≤ l.1 ∧ l.1 ≤ 5) ∧ (0 ≤ l.2.1 ∧ l.2.1 ≤ 5) ∧ (0 ≤ l.2.2 ∧ l.2.2 ≤ 5) := by decide +kernel
theorem nt_ly {l : Ly} (h : l ∈ lyings) : Nt 63 1 (eY l) := by
  have r := ly_range l h
  exact (Nt.tup (NtA.cons (Nt.int (by omega) (by omega)) (NtA.cons (Nt.int (by omega) (by omega)) (NtA.cons (Nt.int (by omega) (by omega)) (NtA.nil (w := 0)))))).up (by decide) (by decide)
/-! ## where rows lead -/
def offAt (cs : List Cell) : Cell → List Dir → Nat → Option Nat
  | _, [], _ => none
  | c, d :: ds, k => if stp d c ∈ cs then offAt cs (stp d c) ds (k + 1) else some k
def goC : Cell → List Dir → Cell
  | c, [] => c
  | c, d :: ds => goC (stp d c) ds
def goY : Ly → List Dir → Ly
  | l, [] => l
  | l, d :: ds => goY (roll d l) ds
theorem goY_mem : ∀ (w : List Dir) {l : Ly}, l ∈ lyings → goY l w ∈ lyings
  | [], _, h => h
  | d :: w, _, h => goY_mem w (roll_mem _ h d)
def offD : Option Nat → PyData
  | none => .none
  | some j => .int (j : Nat)
end Tm
namespace Tm
open PySem Tm
/-! ## draws, ranges -/
theorem rowOf_all (xs : List PyData) : ∀ x ∈ rowOf xs, ∃ d, x = .one (.p d) := fun x hx => by
  obtain ⟨d, _, rfl⟩ := List.mem_map.mp hx; exact ⟨d, rfl⟩
theorem range_at {n j : Nat} {x : Itm} (h : (rowOf (rangeD 0 n))[j]? = some x) : x = .one (.p (.int (j : Nat))) ∧ j < n := by
  obtain ⟨d, hd, rfl⟩ := rowOf_get h
  unfold rangeD at hd
  rw [List.getElem?_map] at hd
  cases e : (List.range n)[j]? with
  | none => rw [e] at hd; cases hd
  | some i =>
    rw [e] at hd
    obtain ⟨hl, hi⟩ := List.getElem?_eq_some_iff.mp e
    rw [List.getElem_range] at hi
    subst hi
    cases hd
    exact ⟨by simp, by simpa using hl⟩
theorem range_len (n : Nat) : (rowOf (rangeD 0 n)).length = n := by rw [rowOf_len]; unfold rangeD; simp
theorem r1_eq {j : Int} {S : Sto} (h0 : 0 ≤ j) (h1 : j ≤ 1000000) : r1I [.p (.int j)] S = some (.its (rowOf (rangeD 0 j.toNat)), S) := by
  show (if -Lim ≤ j ∧ j ≤ Lim then some (Src.its (rowOf (rangeD 0 j.toNat)), S) else none) = _
  rw [if_pos (by unfold Lim; omega)]
theorem r2_eq {i j : Int} {S : Sto} (h0 : 0 ≤ i) (h1 : i ≤ 1000000) (h2 : 0 ≤ j) (h3 : j ≤ 1000000) : r2I [.p (.int i), .p (.int j)] S = some (.its (rowOf (rangeD i (j - i).toNat)), S) := by
  show (if -Lim ≤ i ∧ i ≤ Lim ∧ -Lim ≤ j ∧ j ≤ Lim ∧ j - i ≤ Lim then some (Src.its (rowOf (rangeD i (j - i).toNat)), S) else none) = _
  rw [if_pos (by unfold Lim; omega)]
theorem mod_eq {i j : Int} {S : Sto} (h : 0 < j) : gMod (.p (.int i)) (.p (.int j)) S = some (.p (.int (i % j)), S) := by
  show (if 0 < j then ok (.int (i % j)) S else none) = _
  rw [if_pos h]; rfl
theorem div_eq {i j : Int} {S : Sto} (h : 0 < j) (h1 : j < 1073741824) : gDiv (.p (.int i)) (.p (.int j)) S = some (.p (.int (i / j)), S) := by
  show (if 0 < j ∧ j < 1073741824 then ok (.int (i / j)) S else none) = _
  rw [if_pos ⟨h, h1⟩]; rfl
theorem mul_eqL {i j : Int} {S : Sto} (h : -(2 ^ 64) < i) (h1 : i < 2 ^ 64) : gMulX (.p (.int i)) (.p (.int j)) S = some (.p (.int (i * j)), S) := by
  show (if small i || small j then ok (.int (i * j)) S else none) = _
  rw [if_pos (by unfold small; simp; omega)]; rfl
theorem mul_eqR {i j : Int} {S : Sto} (h : -(2 ^ 64) < j) (h1 : j < 2 ^ 64) : gMulX (.p (.int i)) (.p (.int j)) S = some (.p (.int (i * j)), S) := by
  show (if small i || small j then ok (.int (i * j)) S else none) = _
  rw [if_pos (by unfold small; simp; omega)]; rfl
theorem ixL_eq {xs : List PyData} {i : Int} {S : Sto} {d : PyData} (h0 : 0 ≤ i) (hd : xs[i.toNat]? = some d) : gIxA (.p (.list xs)) (.p (.int i)) S = some (.p d, S) := by
  have hl := (List.getElem?_eq_some_iff.mp hd).1
  show gIx (.p (.list xs)) (.p (.int i)) S = _
  show (match L2.atI xs i with | some d => ok d S | none => none) = _
  have e : L2.atI xs i = some d := by unfold L2.atI L2.ixN; rw [if_pos h0, if_pos (by omega)]; exact hd
  rw [e]; rfl
theorem ixT_eq {xs : List PyData} {i : Int} {S : Sto} {d : PyData} (h0 : 0 ≤ i) (hd : xs[i.toNat]? = some d) : gIxA (.p (.tuple xs)) (.p (.int i)) S = some (.p d, S) := by
  have hl := (List.getElem?_eq_some_iff.mp hd).1
  show gIx (.p (.tuple xs)) (.p (.int i)) S = _
  show (match L2.atI xs i with | some d => ok d S | none => none) = _
  have e : L2.atI xs i = some d := by unfold L2.atI L2.ixN; rw [if_pos h0, if_pos (by omega)]; exact hd
  rw [e]; rfl
/-- a letter drawn -/
theorem letter_ap {r : Int} {S : Sto} {Q : D → Sto → Prop} (h0 : 0 ≤ r) (h1 : r < 4) (q : ∀ d : Dir, Q (.p (eL d)) S) : AP (gIxA (.p (.str (Str.ofString "ensw"))) (.p (.int r)) S) Q := by
  obtain rfl | rfl | rfl | rfl : r = 0 ∨ r = 1 ∨ r = 2 ∨ r = 3 := by omega
  · exact AP.to (d := .p (eL .e)) rfl (q _)
  · exact AP.to (d := .p (eL .n)) rfl (q _)
  · exact AP.to (d := .p (eL .s)) rfl (q _)
  · exact AP.to (d := .p (eL .w)) rfl (q _)
/-- a pen: what is left to be drawn, what is stirred, how often it was -/
structure Pen (n : Nat) (p : Ob) : Prop where
  ex : ∃ a b c : Int, p = .lst [.int a, .int b, .int c] ∧ 0 ≤ a ∧ 0 ≤ b ∧ b < 2147483648 ∧ 0 ≤ c ∧ c ≤ n
theorem Pen.up {n m : Nat} {p : Ob} (h : Pen n p) (hm : n ≤ m) : Pen m p := let ⟨a, b, c, e, h1, h2, h3, h4, h5⟩ := h.ex; ⟨a, b, c, e, h1, h2, h3, h4, by omega⟩
theorem clt_trans {a b c : Cell} (h1 : clt a b = true) (h2 : clt b c = true) : clt a c = true := by
  unfold clt at *
  simp only [decide_eq_true_eq] at *
  omega
theorem rises_lt : ∀ {cs : List Cell} {a : Cell}, Rises (a :: cs) → ∀ b ∈ cs, clt a b = true
  | [], _, _, b, hb => by cases hb
  | c :: cs, a, ⟨h1, h2⟩, b, hb => by
    rcases List.mem_cons.mp hb with z | z
    · subst z; exact h1
    · exact clt_trans h1 (rises_lt h2 b z)
theorem rises_nodup : ∀ {cs : List Cell}, Rises cs → cs.Nodup
  | [], _ => List.nodup_nil
  | [a], _ => by simp
  | a :: b :: r, h => by
    refine List.nodup_cons.mpr ⟨fun hm => ?_, rises_nodup h.2⟩
    have := rises_lt h a hm
    unfold clt at this
    simp at this
/-! cells among cells, wherever they lie -/
theorem in_r {cs : List Cell} {c : Cell} {k : Nat} {S : Sto} (h : S[k]? = some (.lst (cs.map eC))) : gInA (.p (eC c)) (.r k) S = some (.p (.bool (decide (c ∈ cs))), S) := by
  have hd : dataOf (.r k) S = some (.list (cs.map eC)) := by
    show (match S[k]? with | some (.lst xs) => some (PyData.list xs) | _ => none) = _
    rw [h]
  have e : gInA (.p (eC c)) (.r k) S = gIn (.p (eC c)) (.r k) S := by
    show (match S[k]? with
      | some (.dtu kvs) => if isTupK (eC c) then ok (.bool (dLook kvs (eC c)).isSome) S else none
      | some (.dct kvs) => if keyB (eC c) then ok (.bool (dLook kvs (eC c)).isSome) S else none
      | _ => gIn (.p (eC c)) (.r k) S) = _
    rw [h]
  rw [e]
  unfold gIn
  rw [in_lst cs c hd]; rfl
theorem notin_r {cs : List Cell} {c : Cell} {k : Nat} {S : Sto} (h : S[k]? = some (.lst (cs.map eC))) : gNotInA (.p (eC c)) (.r k) S = some (.p (.bool (!decide (c ∈ cs))), S) := by
  have hd : dataOf (.r k) S = some (.list (cs.map eC)) := by
    show (match S[k]? with | some (.lst xs) => some (PyData.list xs) | _ => none) = _
    rw [h]
  have e : gNotInA (.p (eC c)) (.r k) S = gNotIn (.p (eC c)) (.r k) S := by
    show (match S[k]? with
      | some (.dtu kvs) => if isTupK (eC c) then ok (.bool (!(dLook kvs (eC c)).isSome)) S else none
      | some (.dct kvs) => if keyB (eC c) then ok (.bool (!(dLook kvs (eC c)).isSome)) S else none
      | _ => gNotIn (.p (eC c)) (.r k) S) = _
    rw [h]
  rw [e]
  unfold gNotIn
  rw [in_lst cs c hd]; rfl
theorem in_l (cs : List Cell) (c : Cell) (S : Sto) : gInA (.p (eC c)) (.p (.list (cs.map eC))) S = some (.p (.bool (decide (c ∈ cs))), S) := by
  show gIn (.p (eC c)) (.p (.list (cs.map eC))) S = _
  unfold gIn
  rw [in_lst cs c rfl]; rfl
theorem notin_l (cs : List Cell) (c : Cell) (S : Sto) : gNotInA (.p (eC c)) (.p (.list (cs.map eC))) S = some (.p (.bool (!decide (c ∈ cs))), S) := by
  show gNotIn (.p (eC c)) (.p (.list (cs.map eC))) S = _
  unfold gNotIn
  rw [in_lst cs c rfl]; rfl
theorem in_t (cs : List Cell) (c : Cell) (S : Sto) : gInA (.p (eC c)) (.p (.tuple (cs.map eC))) S = some (.p (.bool (decide (c ∈ cs))), S) := by
  show gIn (.p (eC c)) (.p (.tuple (cs.map eC))) S = _
  unfold gIn
  rw [in_tup]; rfl
theorem notin_t (cs : List Cell) (c : Cell) (S : Sto) : gNotInA (.p (eC c)) (.p (.tuple (cs.map eC))) S = some (.p (.bool (!decide (c ∈ cs))), S) := by
  show gNotIn (.p (eC c)) (.p (.tuple (cs.map eC))) S = _
  unfold gNotIn
  rw [in_tup]; rfl
theorem in_r2 {cs : List Cell} {x y : Int} {k : Nat} {S : Sto} (h : S[k]? = some (.lst (cs.map eC))) : gInA (.p (.tuple [.int x, .int y])) (.r k) S = some (.p (.bool (decide ((x, y) ∈ cs))), S) := in_r (c := (x, y)) h
theorem notin_r2 {cs : List Cell} {x y : Int} {k : Nat} {S : Sto} (h : S[k]? = some (.lst (cs.map eC))) : gNotInA (.p (.tuple [.int x, .int y])) (.r k) S = some (.p (.bool (!decide ((x, y) ∈ cs))), S) := notin_r (c := (x, y)) h
theorem in_l2 {cs : List Cell} {x y : Int} {S : Sto} : gInA (.p (.tuple [.int x, .int y])) (.p (.list (cs.map eC))) S = some (.p (.bool (decide ((x, y) ∈ cs))), S) := in_l cs (x, y) S
theorem notin_l2 {cs : List Cell} {x y : Int} {S : Sto} : gNotInA (.p (.tuple [.int x, .int y])) (.p (.list (cs.map eC))) S = some (.p (.bool (!decide ((x, y) ∈ cs))), S) := notin_l cs (x, y) S
theorem in_t2 {cs : List Cell} {x y : Int} {S : Sto} : gInA (.p (.tuple [.int x, .int y])) (.p (.tuple (cs.map eC))) S = some (.p (.bool (decide ((x, y) ∈ cs))), S) := in_t cs (x, y) S
theorem notin_t2 {cs : List Cell} {x y : Int} {S : Sto} : gNotInA (.p (.tuple [.int x, .int y])) (.p (.tuple (cs.map eC))) S = some (.p (.bool (!decide ((x, y) ∈ cs))), S) := notin_t cs (x, y) S
def allC : List Cell := [(0, 0), (0, 1), (0, 2), (0, 3), (1, 0), (1, 1), (1, 2), (1, 3), (2, 0), (2, 1), (2, 2), (2, 3), (3, 0), (3, 1), (3, 2), (3, 3)]
theorem cells16 {c : Cell} (h : 0 ≤ c.1 ∧ c.1 ≤ 3 ∧ 0 ≤ c.2 ∧ c.2 ≤ 3) {P : Cell → Prop} (hp : ∀ a ∈ [(0 : Int), 1, 2, 3], ∀ b ∈ [(0 : Int), 1, 2, 3], P (a, b)) : P c := by
  obtain ⟨a, b⟩ := c
  simp only at h
  refine hp a ?_ b ?_
  · simp only [List.mem_cons, List.not_mem_nil, or_false]; omega
  · simp only [List.mem_cons, List.not_mem_nil, or_false]; omega
theorem mem_allC {c : Cell} : c ∈ allC ↔ 0 ≤ c.1 ∧ c.1 ≤ 3 ∧ 0 ≤ c.2 ∧ c.2 ≤ 3 :=
  ⟨(by decide : ∀ c ∈ allC, 0 ≤ c.1 ∧ c.1 ≤ 3 ∧ 0 ≤ c.2 ∧ c.2 ≤ 3) c, fun h => cells16 h (P := fun c => c ∈ allC) (by decide)⟩
/-- all cells but some -/
def othersC (cs : List Cell) : List Cell := allC.filter fun c => !decide (c ∈ cs)
theorem mem_others {cs : List Cell} {c : Cell} : c ∈ othersC cs ↔ (0 ≤ c.1 ∧ c.1 ≤ 3 ∧ 0 ≤ c.2 ∧ c.2 ≤ 3) ∧ c ∉ cs := by
  unfold othersC
  rw [List.mem_filter, mem_allC]; simp
/-- a lot of cells that no step leaves has them all -/
theorem near_some {cs : List Cell} (h0 : 0 < cs.length) (h1 : cs.length < 16) (hr : ∀ c ∈ cs, 0 ≤ c.1 ∧ c.1 ≤ 3 ∧ 0 ≤ c.2 ∧ c.2 ≤ 3) : ∃ c ∈ othersC cs, ∃ d : Dir, stp d c ∈ cs := by
  refine Classical.byContradiction fun hno => ?_
  have cl : ∀ (c : Cell) (d : Dir), c ∈ cs → (0 ≤ (stp d c).1 ∧ (stp d c).1 ≤ 3 ∧ 0 ≤ (stp d c).2 ∧ (stp d c).2 ≤ 3) → stp d c ∈ cs := fun c d hc hd => by
    refine Classical.byContradiction fun hn => hno ⟨stp d c, mem_others.mpr ⟨hd, hn⟩, d.back, ?_⟩
    rw [stp_back]; exact hc
  have west : ∀ (n : Nat) (y : Int), (n : Int) ≤ 3 → ((n : Int), y) ∈ cs → ((0 : Int), y) ∈ cs := by
    intro n
    induction n with
    | zero => exact fun y _ h => h
    | succ n ih =>
      intro y hn h
      have hy := hr _ h
      refine ih y (by omega) ?_
      have := cl _ .w h (by simp only [stp, dx, dy] at hy ⊢; omega)
      simpa [stp, dx, dy, Int.add_sub_cancel, show ((n : Int) + 1 + -1) = n by omega] using this
  have south : ∀ (n : Nat), (n : Int) ≤ 3 → ((0 : Int), (n : Int)) ∈ cs → ((0 : Int), (0 : Int)) ∈ cs := by
    intro n
    induction n with
    | zero => exact fun _ h => h
    | succ n ih =>
      intro hn h
      have hy := hr _ h
      refine ih (by omega) ?_
      have := cl _ .s h (by simp only [stp, dx, dy] at hy ⊢; omega)
      simpa [stp, dx, dy, show ((n : Int) + 1 + -1) = n by omega] using this
  have east : ∀ (n : Nat), (n : Int) ≤ 3 → ((0 : Int), (0 : Int)) ∈ cs → ((n : Int), (0 : Int)) ∈ cs := by
    intro n
    induction n with
    | zero => exact fun _ h => h
    | succ n ih =>
      intro hn h
      have := cl _ .e (ih (by omega) h) (by simp only [stp, dx, dy]; omega)
      simpa [stp, dx, dy] using this
  have north : ∀ (m : Nat) (x : Int), 0 ≤ x → x ≤ 3 → (m : Int) ≤ 3 → (x, (0 : Int)) ∈ cs → (x, (m : Int)) ∈ cs := by
    intro m
    induction m with
    | zero => exact fun x _ _ _ h => h
    | succ m ih =>
      intro x h0 h3 hm h
      have := cl _ .n (ih x h0 h3 (by omega) h) (by simp only [stp, dx, dy]; omega)
      simpa [stp, dx, dy] using this
  obtain ⟨c, hc⟩ := List.exists_mem_of_length_pos h0
  have hrc := hr c hc
  have z : ((0 : Int), (0 : Int)) ∈ cs := by
    have e1 : c = ((c.1.toNat : Int), c.2) := Prod.ext (by simp only; omega) rfl
    rw [e1] at hc
    have := west c.1.toNat c.2 (by omega) hc
    have e2 : ((0 : Int), c.2) = ((0 : Int), (c.2.toNat : Int)) := Prod.ext rfl (by simp only; omega)
    rw [e2] at this
    exact south _ (by omega) this
  have all : ∀ c ∈ allC, c ∈ cs := fun c hc => by
    have hrc := mem_allC.mp hc
    have a := east c.1.toNat (by omega) z
    rw [show ((c.1.toNat : Nat) : Int) = c.1 by omega] at a
    have b := north c.2.toNat c.1 (by omega) (by omega) (by omega) a
    rw [show ((c.2.toNat : Nat) : Int) = c.2 by omega] at b
    exact b
  have nd : allC.Nodup := by decide
  have hl := nd.length_le_of_subset all
  have : allC.length = 16 := rfl
  omega
end Tm
namespace Tm
open PySem
/-! ## what is needed of data at large -/
theorem Nt.shaped {w k : Nat} {d : PyData} (h : Nt w k d) (hk : k ≤ 60) : SeqAt.shaped d = true := by
  unfold SeqAt.shaped
  have := h.dp
  rw [h.can, decide_eq_true (by omega)]; rfl
theorem Nt.map {α : Type} {w k : Nat} {enc : α → PyData} {l : List α} (h : ∀ a ∈ l, Nt w k (enc a)) {n : Nat} (hn : l.length ≤ n) : NtA (n * (w + 1)) k (l.map enc) :=
  NtA.all (fun d hd => by obtain ⟨a, ha, rfl⟩ := List.mem_map.mp hd; exact h a ha) (by rw [List.length_map]; exact hn)
theorem eq_cell (a b : Cell) (S : Sto) : gEq (.p (eC a)) (.p (eC b)) S = some (.p (.bool (decide (a = b))), S) := by
  have : gEq (.p (eC a)) (.p (eC b)) S = some (.p (.bool (PyData.eqv (eC a) (eC b))), S) := rfl
  rw [this, eqv_cell]
theorem ne_cell (a b : Cell) (S : Sto) : gNe (.p (eC a)) (.p (eC b)) S = some (.p (.bool (!decide (a = b))), S) := by
  have : gNe (.p (eC a)) (.p (eC b)) S = some (.p (.bool (!PyData.eqv (eC a) (eC b))), S) := rfl
  rw [this, eqv_cell]
theorem ne_data {x y : PyData} {S : Sto} (hx : SeqAt.shaped x = true) (hy : SeqAt.shaped y = true) : gNe (.p x) (.p y) S = some (.p (.bool (!PyData.eqv x y)), S) := by
  have e : eqD (.p x) (.p y) S = some (PyData.eqv x y) := by
    show (if (scalD x y || (SeqAt.shaped x && SeqAt.shaped y)) = true then some (PyData.eqv x y) else none) = _
    rw [hx, hy, Bool.and_self, Bool.or_true]; rfl
  unfold gNe
  rw [e]; rfl
theorem eq_data {x y : PyData} {S : Sto} (hx : SeqAt.shaped x = true) (hy : SeqAt.shaped y = true) : gEq (.p x) (.p y) S = some (.p (.bool (PyData.eqv x y)), S) := by
  have e : eqD (.p x) (.p y) S = some (PyData.eqv x y) := by
    show (if (scalD x y || (SeqAt.shaped x && SeqAt.shaped y)) = true then some (PyData.eqv x y) else none) = _
    rw [hx, hy, Bool.and_self, Bool.or_true]; rfl
  unfold gEq
  rw [e]; rfl
mutual
theorem eqv_refl : ∀ d : PyData, d.canLay0 = true → PyData.eqv d d = true
  | .none, _ => by rw [PyData.eqv]
  | .bool b, _ => by rw [PyData.eqv]; exact beq_self_eq_true b
  | .int i, _ => by rw [PyData.eqv]; exact beq_self_eq_true i
  | .str x, _ => by rw [PyData.eqv]; exact beq_self_eq_true x
  | .list xs, h => by rw [PyData.eqv]; exact eqvAll_refl xs (by simpa [PyData.canLay0] using h)
  | .tuple xs, h => by rw [PyData.eqv]; exact eqvAll_refl xs (by simpa [PyData.canLay0] using h)
  | .dict _, h => by simp [PyData.canLay0] at h
theorem eqvAll_refl : ∀ ds : List PyData, PyData.canLayAll0 ds = true → PyData.eqvAll ds ds = true
  | [], _ => by rw [PyData.eqvAll]
  | d :: ds, h => by
    simp only [PyData.canLayAll0, Bool.and_eq_true] at h
    rw [PyData.eqvAll, eqv_refl d h.1, eqvAll_refl ds h.2]; rfl
end
theorem shaped_can {d : PyData} (h : SeqAt.shaped d = true) : d.canLay0 = true := by
  unfold SeqAt.shaped at h
  simp only [Bool.and_eq_true] at h
  exact h.1
theorem ne_refl {x : PyData} {S : Sto} (h : SeqAt.shaped x = true) : gNe (.p x) (.p x) S = some (.p (.bool false), S) := by
  rw [ne_data h h, eqv_refl x (shaped_can h)]; rfl
theorem eq_refl {x : PyData} {S : Sto} (h : SeqAt.shaped x = true) : gEq (.p x) (.p x) S = some (.p (.bool true), S) := by
  rw [eq_data h h, eqv_refl x (shaped_can h)]
theorem ne_nil {xs : List PyData} {S : Sto} (h : SeqAt.shaped (.list xs) = true) : gNe (.p (.list xs)) (.p (.list [])) S = some (.p (.bool (!xs.isEmpty)), S) := by
  rw [ne_data h rfl]
  cases xs with
  | nil => rfl
  | cons x xs => rfl
theorem addT_eq {xs ys : List PyData} {S : Sto} (h : xs.length + ys.length ≤ 1000000) : gAdd (.p (.tuple xs)) (.p (.tuple ys)) S = some (.p (.tuple (xs ++ ys)), S) := by
  show (if xs.length + ys.length ≤ Lim then ok (.tuple (xs ++ ys)) S else none) = _
  rw [if_pos (by unfold Lim; omega)]; rfl
theorem addL_eq {xs ys : List PyData} {S : Sto} (h : xs.length + ys.length ≤ 1000000) : gAdd (.p (.list xs)) (.p (.list ys)) S = some (.p (.list (xs ++ ys)), S) := by
  show (if xs.length + ys.length ≤ Lim then ok (.list (xs ++ ys)) S else none) = _
  rw [if_pos (by unfold Lim; omega)]; rfl
theorem ixT_last {xs : List PyData} {y : PyData} {S : Sto} : gIxA (.p (.tuple (xs ++ [y]))) (.p (.int (-1))) S = some (.p y, S) := by
  show (match L2.atI (xs ++ [y]) (-1) with | some d => ok d S | none => none) = _
  have e : L2.atI (xs ++ [y]) (-1) = some y := by
    unfold L2.atI L2.ixN
    rw [if_neg (by omega), if_pos (by simp; omega)]
    have : ((-1 : Int) + ((xs ++ [y]).length : Nat)).toNat = xs.length := by simp; omega
    simp only [Option.bind_some, this]
    simp
  rw [e]; rfl
theorem append_eq {k : Nat} {xs : List PyData} {d : PyData} {S : Sto} (h : S[k]? = some (.lst xs)) (hl : xs.length < 1000000) : gAppend (.r k) [.p d] S = some (.p .none, S.set k (.lst (xs ++ [d]))) := by
  show (match S[k]? with
    | some (.lst xs) => if xs.length < Lim then some (D.p .none, S.set k (.lst (xs ++ [d]))) else none
    | _ => none) = _
  rw [h]
  show (if xs.length < Lim then some (D.p .none, S.set k (.lst (xs ++ [d]))) else none) = _
  rw [if_pos (by unfold Lim; omega)]
theorem sorted_cells {d : D} {cs : List Cell} {S : Sto} (h : seqOf d S = some (cs.map eC)) : gSortedX [d] S = some (.p (.list ((sortC cs).map eC)), S) := by
  show (match seqOf d S with | some xs => if sortable xs then ok (.list (sortD xs)) S else none | none => none) = _
  rw [h]
  show (if sortable (cs.map eC) then ok (.list (sortD (cs.map eC))) S else none) = _
  rw [if_pos (sortable_cells cs), sort_cells]; rfl
theorem ixT_ap {α : Type} {l : List α} {enc : α → PyData} {i : Int} {S : Sto} {Q : D → Sto → Prop} (h0 : 0 ≤ i) (h1 : i < l.length) (q : ∀ a, l[i.toNat]? = some a → Q (.p (enc a)) S) : AP (gIxA (.p (.tuple (l.map enc))) (.p (.int i)) S) Q := by
  have h : i.toNat < l.length := by omega
  exact AP.to (ixT_eq h0 (d := enc l[i.toNat]) (by simp [h])) (q _ (List.getElem?_eq_getElem h))
theorem ixL_ap {α : Type} {l : List α} {enc : α → PyData} {i : Int} {S : Sto} {Q : D → Sto → Prop} (h0 : 0 ≤ i) (h1 : i < l.length) (q : ∀ a, l[i.toNat]? = some a → Q (.p (enc a)) S) : AP (gIxA (.p (.list (l.map enc))) (.p (.int i)) S) Q := by
  have h : i.toNat < l.length := by omega
  exact AP.to (ixL_eq h0 (d := enc l[i.toNat]) (by simp [h])) (q _ (List.getElem?_eq_getElem h))
def dirs : List Dir := [.e, .n, .s, .w]
theorem ensw_val (S : Sto) : valI (.p (.str (Str.ofString "ensw"))) S = some (.its (rowOf (dirs.map eL)), S) := rfl
theorem shaped_ints {α : Type} (f : α → Int) (l : List α) : SeqAt.shaped (.list (l.map fun a => .int (f a))) = true := by
  have h1 : ∀ l : List α, PyData.canLayAll0 (l.map fun a => .int (f a)) = true := by
    intro l
    induction l with
    | nil => rfl
    | cons a l ih => simp only [List.map_cons, PyData.canLayAll0, ih, PyData.canLay0, Bool.and_self]
  have h2 : ∀ l : List α, PyData.depthAll (l.map fun a => .int (f a)) ≤ 1 := by
    intro l
    induction l with
    | nil => simp [PyData.depthAll]
    | cons a l ih => simp only [List.map_cons, PyData.depthAll, PyData.depth]; omega
  unfold SeqAt.shaped
  have e1 : (PyData.list (l.map fun a => .int (f a))).canLay0 = true := by simp only [PyData.canLay0, h1]
  have e2 : (PyData.list (l.map fun a => .int (f a))).depth ≤ 64 := by simp only [PyData.depth]; have := h2 l; omega
  rw [e1, decide_eq_true e2]; rfl
theorem mem_dirs (d : Dir) : d ∈ dirs := by cases d <;> decide
/-- each roll leads to a cell of the floor -/
def Let (cs : List Cell) : Cell → List Dir → Prop
  | _, [] => True
  | c, d :: w => stp d c ∈ cs ∧ Let cs (stp d c) w
theorem off_let {cs : List Cell} : ∀ {w : List Dir} {c : Cell} {k : Nat}, offAt cs c w k = none ↔ Let cs c w
  | [], _, _ => by simp [offAt, Let]
  | d :: w, c, k => by
    simp only [offAt, Let]
    split
    · rename_i h; rw [off_let]; simp [h]
    · rename_i h; simp [h]
/-! ## two cubes -/
/-- a turn: which cube (false: the first), which letter -/
abbrev Tn := Bool × Dir
def cb : Bool → Int
  | false => 0
  | true => 1
def eT (t : Tn) : PyData := .tuple [.int (cb t.1), eL t.2]
abbrev CC := Cell × Cell
def eCC (c : CC) : PyData := .tuple [eC c.1, eC c.2]
abbrev Std := Cell × Ly
abbrev eSt (c : Cell) (l : Ly) : PyData := .tuple [eC c, eY l]
abbrev Pr2 := Std × Std
def ePr (p : Pr2) : PyData := .tuple [eSt p.1.1 p.1.2, eSt p.2.1 p.2.2]
def onT (c : CC) (t : Tn) : CC := match t.1 with
  | false => (stp t.2 c.1, c.2)
  | true => (c.1, stp t.2 c.2)
def okTn (cs : List Cell) (c : CC) (t : Tn) : Bool := decide ((onT c t).1 ∈ cs) && (decide ((onT c t).2 ∈ cs) && !decide ((onT c t).1 = (onT c t).2))
def allT : List Tn := dirs.map (fun d => (false, d)) ++ dirs.map fun d => (true, d)
theorem mem_allT (t : Tn) : t ∈ allT := by obtain ⟨b, d⟩ := t; cases b <;> cases d <;> decide
def LetT (cs : List Cell) : CC → List Tn → Prop
  | _, [] => True
  | c, t :: ts => okTn cs c t = true ∧ LetT cs (onT c t) ts
def goT : CC → List Tn → CC
  | c, [] => c
  | c, t :: ts => goT (onT c t) ts
theorem goT_app (us : List Tn) : ∀ (ts : List Tn) (c : CC), goT c (ts ++ us) = goT (goT c ts) us
  | [], _ => rfl
  | t :: ts, c => goT_app us ts (onT c t)
theorem letT_app {cs : List Cell} {us : List Tn} : ∀ {ts : List Tn} {c : CC}, LetT cs c (ts ++ us) ↔ LetT cs c ts ∧ LetT cs (goT c ts) us
  | [], c => by simp [LetT, goT]
  | t :: ts, c => by simp only [List.cons_append, LetT, goT]; rw [letT_app]; exact and_assoc.symm
theorem nt_letter (d : Dir) : Nt 8 0 (eL d) := by cases d <;> exact ⟨by decide +kernel, by decide +kernel, by decide +kernel, by decide +kernel, by decide +kernel⟩
theorem nt_turn (t : Tn) : Nt 30 1 (eT t) := by
  obtain ⟨b, d⟩ := t
  have h : Nt 20 0 (.int (cb b)) := Nt.int (by cases b <;> decide) (by cases b <;> decide)
  exact (Nt.tup (NtA.cons h (NtA.cons (nt_letter d) (NtA.nil (w := 0))))).up (by decide) (by decide)
def onP (p : Pr2) (t : Tn) : Pr2 := match t.1 with
  | false => ((stp t.2 p.1.1, roll t.2 p.1.2), p.2)
  | true => (p.1, (stp t.2 p.2.1, roll t.2 p.2.2))
def goP : Pr2 → List Tn → Pr2
  | p, [] => p
  | p, t :: ts => goP (onP p t) ts
def ccOf (p : Pr2) : CC := (p.1.1, p.2.1)
theorem cc_on (p : Pr2) (t : Tn) : ccOf (onP p t) = onT (ccOf p) t := by
  obtain ⟨b, d⟩ := t
  cases b <;> rfl
theorem cc_go : ∀ (ts : List Tn) (p : Pr2), ccOf (goP p ts) = goT (ccOf p) ts
  | [], _ => rfl
  | t :: ts, p => by simp only [goP, goT]; rw [cc_go, cc_on]
def stopT (cs : List Cell) : CC → List Tn → Nat → Option Nat
  | _, [], _ => none
  | c, t :: ts, k => if okTn cs c t = true then stopT cs (onT c t) ts (k + 1) else some k
theorem stop_let {cs : List Cell} : ∀ {ts : List Tn} {c : CC} {k : Nat}, stopT cs c ts k = none ↔ LetT cs c ts
  | [], _, _ => by simp [stopT, LetT]
  | t :: ts, c, k => by
    simp only [stopT, LetT]
    split
    · rename_i h; rw [stop_let]; simp [h]
    · rename_i h; simp [h]
/-- two cubes on unlike cells -/
structure PairOk (cs : List Cell) (p : Pr2) : Prop where
  a : p.1.1 ∈ cs
  b : p.2.1 ∈ cs
  ne : p.1.1 ≠ p.2.1
  la : p.1.2 ∈ lyings
  lb : p.2.2 ∈ lyings
theorem PairOk.on {cs : List Cell} {p : Pr2} {t : Tn} (h : PairOk cs p) (ht : okTn cs (ccOf p) t = true) : PairOk cs (onP p t) := by
  obtain ⟨b, d⟩ := t
  unfold okTn at ht
  simp only [Bool.and_eq_true, decide_eq_true_eq, Bool.not_eq_true', decide_eq_false_iff_not] at ht
  cases b
  · exact ⟨ht.1, h.b, ht.2.2, roll_mem _ h.la d, h.lb⟩
  · exact ⟨h.a, ht.2.1, ht.2.2, h.la, roll_mem _ h.lb d⟩
theorem PairOk.go {cs : List Cell} : ∀ {ts : List Tn} {p : Pr2}, PairOk cs p → LetT cs (ccOf p) ts → PairOk cs (goP p ts)
  | [], _, h, _ => h
  | t :: ts, p, h, hl => PairOk.go (ts := ts) (p := onP p t) (h.on hl.1) (by rw [cc_on]; exact hl.2)
/-! ## shown data -/
theorem NtA.cons' {w1 w2 k1 k2 : Nat} {d : PyData} {ds : List PyData} (h : Nt w1 k1 d) (t : NtA w2 k2 ds) : NtA (w1 + 1 + w2) (max k1 k2) (d :: ds) :=
  NtA.cons (h.up (Nat.le_refl _) (Nat.le_max_left _ _)) ⟨t.can, t.short, t.shw, t.wt, Nat.le_trans t.dp (Nat.le_max_right _ _)⟩
theorem NtA.nil' : NtA 0 0 [] := NtA.nil
theorem nt_stand {cs : List Cell} (F : Floor cs) {c : Cell} {l : Ly} (hc : c ∈ cs) (hl : l ∈ lyings) : Nt 120 2 (eSt c l) :=
  (Nt.tup (NtA.cons' (nt_cell (F.range c hc)) (NtA.cons' (nt_ly hl) NtA.nil'))).up (by decide) (by decide)
theorem nt_pair {cs : List Cell} (F : Floor cs) {p : Pr2} (h : PairOk cs p) : Nt 300 3 (ePr p) :=
  (Nt.tup (NtA.cons' (nt_stand F h.a h.la) (NtA.cons' (nt_stand F h.b h.lb) NtA.nil'))).up (by decide) (by decide)
theorem nt_turns {ts : List Tn} (h : ts.length ≤ 30) : Nt 1000 2 (.tuple (ts.map eT)) :=
  (Nt.tup (Nt.map (fun t _ => nt_turn t) h)).up (by decide) (by decide)
theorem nt_off {o : Option Nat} (h : ∀ j, o = some j → j < 1000000) : Nt 20 0 (offD o) := by
  cases o with
  | none => exact Nt.non.up (by decide) (by decide)
  | some j => exact Nt.int (by omega) (by have := h j rfl; omega)
theorem stop_lt {cs : List Cell} : ∀ {ts : List Tn} {c : CC} {k j : Nat}, stopT cs c ts k = some j → j < k + ts.length
  | [], _, _, _, h => by cases h
  | t :: ts, c, k, j, h => by
    simp only [stopT] at h
    split at h
    · have := stop_lt h; simp; omega
    · cases h; simp
theorem ne_same (x : Str) (S : Sto) : gNe (.p (.str x)) (.p (.str x)) S = some (.p (.bool false), S) := by
  have : gNe (.p (.str x)) (.p (.str x)) S = some (.p (.bool (!PyData.eqv (.str x) (.str x))), S) := rfl
  rw [this]
  simp [PyData.eqv]
theorem eq_int (i j : Int) (S : Sto) : gEq (.p (.int i)) (.p (.int j)) S = some (.p (.bool (decide (i = j))), S) := rfl
theorem ne_int (i j : Int) (S : Sto) : gNe (.p (.int i)) (.p (.int j)) S = some (.p (.bool (!decide (i = j))), S) := rfl
/-! ## slices -/
theorem cut_take {α : Type} (xs : List α) {i : Int} (h : 0 ≤ i) : cutD xs none (some i) = xs.take i.toNat := by
  unfold cutD
  have e1 : HT.sIx xs.length 0 none = 0 := by simp [HT.sIx]
  rw [e1]
  by_cases hi : i < xs.length
  · have e2 : HT.sIx xs.length xs.length (some i) = i.toNat := by simp [HT.sIx, show ¬ i < 0 by omega]; omega
    rw [e2]; simp
  · have e2 : HT.sIx xs.length xs.length (some i) = xs.length := by simp [HT.sIx, show ¬ i < 0 by omega]; omega
    rw [e2]
    simp only [List.drop_zero, Nat.sub_zero]
    rw [List.take_of_length_le (Nat.le_refl _), List.take_of_length_le (by omega)]
theorem cut_drop {α : Type} (xs : List α) {i : Int} (h : 0 ≤ i) : cutD xs (some i) none = xs.drop i.toNat := by
  unfold cutD
  have e1 : HT.sIx xs.length xs.length none = xs.length := by simp [HT.sIx]
  rw [e1]
  by_cases hi : i < xs.length
  · have e2 : HT.sIx xs.length 0 (some i) = i.toNat := by simp [HT.sIx, show ¬ i < 0 by omega]; omega
    rw [e2, List.take_of_length_le (by simp)]
  · have e2 : HT.sIx xs.length 0 (some i) = xs.length := by simp [HT.sIx, show ¬ i < 0 by omega]; omega
    rw [e2]
    simp only [List.drop_length, Nat.sub_self, List.take_nil]
    rw [List.drop_eq_nil_of_le (by omega)]
theorem slT_take {α : Type} {l : List α} {enc : α → PyData} {i : Int} {S : Sto} (h : 0 ≤ i) : gSl (.p (.tuple (l.map enc))) none (some i) S = some (.p (.tuple ((l.take i.toNat).map enc)), S) := by
  show ok (.tuple (cutD (l.map enc) none (some i))) S = _
  rw [cut_take _ h, ← List.map_take]; rfl
theorem slT_drop {α : Type} {l : List α} {enc : α → PyData} {i : Int} {S : Sto} (h : 0 ≤ i) : gSl (.p (.tuple (l.map enc))) (some i) none S = some (.p (.tuple ((l.drop i.toNat).map enc)), S) := by
  show ok (.tuple (cutD (l.map enc) (some i) none)) S = _
  rw [cut_drop _ h, ← List.map_drop]; rfl
theorem mulT_eq {xs : List PyData} {k : Int} {S : Sto} (h0 : 0 ≤ k) (h1 : k ≤ 1000) (h2 : xs.length ≤ 1000) : gMulX (.p (.tuple xs)) (.p (.int k)) S = some (.p (.tuple (List.replicate k.toNat xs).flatten), S) := by
  show (if 0 ≤ k ∧ k ≤ 1000 ∧ xs.length ≤ 1000 then ok (.tuple (List.replicate k.toNat xs).flatten) S else none) = _
  rw [if_pos ⟨h0, h1, h2⟩]; rfl
end Tm
namespace Tm
open PySem
/-! ## exchanges: rows of pairs of spots, each exchanged -/
def swapL {α : Type} (i j : Nat) (m : List α) : List α := match m[i]?, m[j]? with
  | some a, some b => (m.set i b).set j a
  | _, _ => m
def swaps {α : Type} : List (Nat × Nat) → List α → List α
  | [], m => m
  | (i, j) :: r, m => swaps r (swapL i j m)
def sx (i j s : Nat) : Nat := if s = i then j else if s = j then i else s
/-- where the mark of a spot comes to -/
def actS : List (Nat × Nat) → Nat → Nat
  | [], s => s
  | (i, j) :: r, s => actS r (sx i j s)
/-- all its spots are among n -/
def SwIn (n : Nat) (sw : List (Nat × Nat)) : Prop := ∀ x ∈ sw, x.1 < n ∧ x.2 < n ∧ x.1 ≠ x.2
theorem SwIn.nil {n : Nat} : SwIn n [] := fun _ h => by cases h
theorem SwIn.cons {n i j : Nat} {sw : List (Nat × Nat)} (h1 : i < n) (h2 : j < n) (h3 : i ≠ j) (h : SwIn n sw) : SwIn n ((i, j) :: sw) := fun x hx => by
  rcases List.mem_cons.mp hx with z | z
  · subst z; exact ⟨h1, h2, h3⟩
  · exact h x z
theorem SwIn.tail {n : Nat} {x : Nat × Nat} {sw : List (Nat × Nat)} (h : SwIn n (x :: sw)) : SwIn n sw := fun y hy => h y (List.mem_cons_of_mem _ hy)
theorem SwIn.app {n : Nat} {a b : List (Nat × Nat)} (h1 : SwIn n a) (h2 : SwIn n b) : SwIn n (a ++ b) := fun x hx => by
  rcases List.mem_append.mp hx with z | z
  · exact h1 x z
  · exact h2 x z
section
variable {α β : Type}
theorem swapL_len (i j : Nat) (m : List α) : (swapL i j m).length = m.length := by unfold swapL; split <;> simp
theorem swaps_len : ∀ (sw : List (Nat × Nat)) (m : List α), (swaps sw m).length = m.length
  | [], _ => rfl
  | (i, j) :: r, m => by unfold swaps; rw [swaps_len r, swapL_len]
theorem swaps_app (b : List (Nat × Nat)) : ∀ (a : List (Nat × Nat)) (m : List α), swaps (a ++ b) m = swaps b (swaps a m)
  | [], _ => rfl
  | (i, j) :: r, m => swaps_app b r (swapL i j m)
theorem actS_app (b : List (Nat × Nat)) : ∀ (a : List (Nat × Nat)) (s : Nat), actS (a ++ b) s = actS b (actS a s)
  | [], _ => rfl
  | (i, j) :: r, s => actS_app b r (sx i j s)
theorem swapL_map (f : α → β) (i j : Nat) (m : List α) : swapL i j (m.map f) = (swapL i j m).map f := by
  unfold swapL
  rw [List.getElem?_map, List.getElem?_map]
  cases h1 : m[i]? <;> cases h2 : m[j]? <;> simp
theorem swaps_map (f : α → β) : ∀ (sw : List (Nat × Nat)) (m : List α), swaps sw (m.map f) = (swaps sw m).map f
  | [], _ => rfl
  | (i, j) :: r, m => by unfold swaps; rw [swapL_map, swaps_map f r]
theorem sx_lt {n i j s : Nat} (h1 : i < n) (h2 : j < n) (hs : s < n) : sx i j s < n := by
  unfold sx; split
  · exact h2
  · split
    · exact h1
    · exact hs
theorem sx_sx (i j s : Nat) : sx i j (sx i j s) = s := by
  unfold sx
  repeat' split
  all_goals omega
theorem actS_lt {n : Nat} : ∀ {sw : List (Nat × Nat)} {s : Nat}, SwIn n sw → s < n → actS sw s < n
  | [], _, _, h => h
  | (i, j) :: r, s, h, hs => actS_lt (sw := r) h.tail (sx_lt (h (i, j) (List.mem_cons_self ..)).1 (h (i, j) (List.mem_cons_self ..)).2.1 hs)
theorem swapL_get {i j s : Nat} {m : List α} (h1 : i < m.length) (h2 : j < m.length) (h3 : i ≠ j) : (swapL i j m)[sx i j s]? = m[s]? := by
  unfold swapL
  rw [List.getElem?_eq_getElem h1, List.getElem?_eq_getElem h2]
  unfold sx
  simp only
  by_cases a : s = i
  · subst a
    rw [if_pos rfl, List.getElem?_set_self (by simpa using h2), List.getElem?_eq_getElem h1]
  · rw [if_neg a]
    by_cases b : s = j
    · subst b
      rw [if_pos rfl, List.getElem?_set_ne (by omega), List.getElem?_set_self h1, List.getElem?_eq_getElem h2]
    · rw [if_neg b, List.getElem?_set_ne (by omega), List.getElem?_set_ne (by omega)]
/-- each mark stands where it came to -/
theorem swaps_get : ∀ {sw : List (Nat × Nat)} {m : List α} {s : Nat}, SwIn m.length sw → (swaps sw m)[actS sw s]? = m[s]?
  | [], _, _, _ => rfl
  | (i, j) :: r, m, s, h => by
    obtain ⟨h1, h2, h3⟩ := h (i, j) (List.mem_cons_self ..)
    unfold swaps actS
    rw [swaps_get (m := swapL i j m) (by rw [swapL_len]; exact h.tail), swapL_get h1 h2 h3]
theorem swapL_perm {i j : Nat} {m : List α} : (swapL i j m).Perm m := by
  unfold swapL
  cases h1 : m[i]? with
  | none => exact .refl _
  | some a =>
    cases h2 : m[j]? with
    | none => exact .refl _
    | some b =>
      obtain ⟨l1, e1⟩ := List.getElem?_eq_some_iff.mp h1
      obtain ⟨l2, e2⟩ := List.getElem?_eq_some_iff.mp h2
      subst e1; subst e2
      exact List.set_set_perm l1 l2
theorem swaps_perm : ∀ {sw : List (Nat × Nat)} {m : List α}, (swaps sw m).Perm m
  | [], _ => .refl _
  | (i, j) :: r, m => (swaps_perm (sw := r)).trans swapL_perm
end
theorem actS_inj {n : Nat} : ∀ {sw : List (Nat × Nat)} {s t : Nat}, actS sw s = actS sw t → s = t
  | [], _, _, h => h
  | (i, j) :: r, s, t, h => by
    have := actS_inj (n := n) (sw := r) h
    have e := congrArg (sx i j) this
    rwa [sx_sx, sx_sx] at e
/-- an exchange the other way about -/
def invL (q : List Nat) : List Nat := (List.range q.length).map fun s => q.idxOf s
def exL (n : Nat) (sw : List (Nat × Nat)) : List Nat := invL (swaps sw (List.range n))
theorem idx_of_get {q : List Nat} (nd : q.Nodup) {i s : Nat} (h : q[i]? = some s) : q.idxOf s = i := by
  obtain ⟨hi, e⟩ := List.getElem?_eq_some_iff.mp h
  subst e
  exact nd.idxOf_getElem i hi
theorem exL_eq {n : Nat} {sw : List (Nat × Nat)} (h : SwIn n sw) : exL n sw = (List.range n).map (actS sw) := by
  unfold exL invL
  rw [swaps_len, List.length_range]
  refine List.map_congr_left fun s hs => ?_
  have hs' : s < n := List.mem_range.mp hs
  have nd : (swaps sw (List.range n)).Nodup := swaps_perm.nodup_iff.mpr List.nodup_range
  refine idx_of_get nd ?_
  rw [swaps_get (by rw [List.length_range]; exact h)]
  exact List.getElem?_range hs'
theorem exL_len {n : Nat} {sw : List (Nat × Nat)} : (exL n sw).length = n := by unfold exL invL; rw [List.length_map, List.length_range, swaps_len, List.length_range]
/-- numbers as data -/
def iN (n : Nat) : PyData := .int (n : Nat)
abbrev eN (l : List Nat) : PyData := .tuple (l.map iN)
/-! ## the row of exchanges of a row of rolls, of turns -/
def swR (cs : List Cell) : Cell → Ly → List Dir → List (Nat × Nat)
  | _, _, [] => []
  | c, l, d :: w => (6 + cs.idxOf (stp d c), (roll d l).1.toNat) :: swR cs (stp d c) (roll d l) w
def swT1 (cs : List Cell) (p : Pr2) (t : Tn) : Nat × Nat := match t.1 with
  | false => (12 + cs.idxOf (stp t.2 p.1.1), (roll t.2 p.1.2).1.toNat)
  | true => (12 + cs.idxOf (stp t.2 p.2.1), 6 + (roll t.2 p.2.2).1.toNat)
def swT (cs : List Cell) : Pr2 → List Tn → List (Nat × Nat)
  | _, [] => []
  | p, t :: ts => swT1 cs p t :: swT cs (onP p t) ts
theorem low_lt {l : Ly} (h : l ∈ lyings) : l.1.toNat < 6 := by have := (ly_range l h).1; omega
theorem swR_in {cs : List Cell} : ∀ {w : List Dir} {c : Cell} {l : Ly}, l ∈ lyings → Let cs c w → SwIn (6 + cs.length) (swR cs c l w)
  | [], _, _, _, _ => SwIn.nil
  | d :: w, c, l, hl, hw => by
    have h1 := List.idxOf_lt_length_of_mem hw.1
    have h2 := low_lt (roll_mem l hl d)
    exact SwIn.cons (by omega) (by omega) (by omega) (swR_in (roll_mem l hl d) hw.2)
theorem swT_in {cs : List Cell} : ∀ {ts : List Tn} {p : Pr2}, PairOk cs p → LetT cs (ccOf p) ts → SwIn (12 + cs.length) (swT cs p ts)
  | [], _, _, _ => SwIn.nil
  | (b, d) :: ts, p, hp, hl => by
    have hq := hp.on hl.1
    have ih := swT_in (ts := ts) (p := onP p (b, d)) hq (by rw [cc_on]; exact hl.2)
    cases b
    · have h1 : cs.idxOf (stp d p.1.1) < cs.length := List.idxOf_lt_length_of_mem hq.a
      have h2 : (roll d p.1.2).1.toNat < 6 := low_lt hq.la
      exact SwIn.cons (i := 12 + cs.idxOf (stp d p.1.1)) (j := (roll d p.1.2).1.toNat) (by omega) (by omega) (by omega) ih
    · have h1 : cs.idxOf (stp d p.2.1) < cs.length := List.idxOf_lt_length_of_mem hq.b
      have h2 : (roll d p.2.2).1.toNat < 6 := low_lt hq.lb
      exact SwIn.cons (i := 12 + cs.idxOf (stp d p.2.1)) (j := 6 + (roll d p.2.2).1.toNat) (by omega) (by omega) (by omega) ih
/-! ## what the machine does with them -/
theorem firstAt_cell (c : Cell) : ∀ (cs : List Cell) (k : Nat), c ∈ cs → firstAt (eC c) (cs.map eC) k = some (k + cs.idxOf c)
  | [], _, h => by cases h
  | a :: cs, k, h => by
    simp only [List.map_cons, firstAt]
    rw [eqv_cell, List.idxOf_cons]
    by_cases e : a = c
    · subst e; simp
    · rw [decide_eq_false e]
      simp only [Bool.false_eq_true, if_false]
      have h' : c ∈ cs := (List.mem_cons.mp h).resolve_left (fun z => e z.symm)
      rw [firstAt_cell c cs (k + 1) h']
      have : (a == c) = false := by simpa using e
      rw [this]
      simp only [cond_false]
      congr 1; omega
theorem index_cell {cs : List Cell} {c : Cell} {S : Sto} (h : c ∈ cs) : gIndexT (.p (.tuple (cs.map eC))) [.p (eC c)] S = some (.p (.int (cs.idxOf c : Nat)), S) := by
  show (if (SeqAt.shaped (.tuple (cs.map eC)) && SeqAt.shaped (eC c)) = true then (match firstAt (eC c) (cs.map eC) 0 with
    | some j => ok (.int j) S
    | none => none) else none) = _
  rw [shaped_tup, shaped_cell, firstAt_cell c cs 0 h]
  simp only [Nat.zero_add]
  rfl
theorem eqv_iN (a b : Nat) : PyData.eqv (iN a) (iN b) = decide (a = b) := by
  have : PyData.eqv (iN a) (iN b) = decide ((a : Int) = (b : Int)) := rfl
  rw [this]
  exact decide_eq_decide.mpr Int.ofNat_inj
theorem firstAt_nat (c : Nat) : ∀ (cs : List Nat) (k : Nat), c ∈ cs → firstAt (iN c) (cs.map iN) k = some (k + cs.idxOf c)
  | [], _, h => by cases h
  | a :: cs, k, h => by
    simp only [List.map_cons, firstAt]
    rw [eqv_iN, List.idxOf_cons]
    by_cases e : a = c
    · subst e; simp
    · rw [decide_eq_false e]
      simp only [Bool.false_eq_true, if_false]
      have h' : c ∈ cs := (List.mem_cons.mp h).resolve_left (fun z => e z.symm)
      rw [firstAt_nat c cs (k + 1) h']
      have : (a == c) = false := by simpa using e
      rw [this]
      simp only [cond_false]
      congr 1; omega
theorem shaped_nat (l : List Nat) : SeqAt.shaped (.tuple (l.map iN)) = true ∧ SeqAt.shaped (.list (l.map iN)) = true := by
  have h : SeqAt.shaped (.list (l.map iN)) = true := shaped_ints (fun n : Nat => (n : Int)) l
  refine ⟨?_, h⟩
  unfold SeqAt.shaped at h ⊢
  simpa [PyData.canLay0, PyData.depth] using h
theorem index_natT {q : List Nat} {s : Nat} {S : Sto} (h : s ∈ q) : gIndexT (.p (.tuple (q.map iN))) [.p (iN s)] S = some (.p (iN (q.idxOf s)), S) := by
  show (if (SeqAt.shaped (.tuple (q.map iN)) && SeqAt.shaped (iN s)) = true then (match firstAt (iN s) (q.map iN) 0 with
    | some j => ok (.int j) S
    | none => none) else none) = _
  rw [(shaped_nat q).1, firstAt_nat s q 0 h, show SeqAt.shaped (iN s) = true from rfl]
  simp only [Nat.zero_add]
  rfl
theorem index_natR {q : List Nat} {s k : Nat} {S : Sto} (hk : S[k]? = some (.lst (q.map iN))) (h : s ∈ q) : gIndex (.r k) [.p (iN s)] S = some (.p (iN (q.idxOf s)), S) := by
  have hd : dataOf (.r k) S = some (.list (q.map iN)) := by
    show (match S[k]? with | some (.lst xs) => some (PyData.list xs) | _ => none) = _
    rw [hk]
  unfold gIndex
  rw [hd]
  show (if (SeqAt.shaped (.list (q.map iN)) && SeqAt.shaped (iN s)) = true then (match firstAt (iN s) (q.map iN) 0 with
    | some j => ok (.int j) S
    | none => none) else none) = _
  rw [(shaped_nat q).2, firstAt_nat s q 0 h, show SeqAt.shaped (iN s) = true from rfl]
  simp only [Nat.zero_add]
  rfl
theorem ixR_ap {α : Type} {l : List α} {enc : α → PyData} {k : Nat} {i : Int} {S : Sto} {Q : D → Sto → Prop} (hk : S[k]? = some (.lst (l.map enc))) (h0 : 0 ≤ i) (h1 : i < l.length) (q : ∀ a, l[i.toNat]? = some a → Q (.p (enc a)) S) : AP (gIxA (.r k) (.p (.int i)) S) Q := by
  have h : i.toNat < l.length := by omega
  have hd : dataOf (.r k) S = some (.list (l.map enc)) := by
    show (match S[k]? with | some (.lst xs) => some (PyData.list xs) | _ => none) = _
    rw [hk]
  have e : gIxA (.r k) (.p (.int i)) S = some (.p (enc l[i.toNat]), S) := by
    show (match S[k]? with
      | some (.dtu kvs) => if isTupK (.int i) then (match dLook kvs (.int i) with
        | some v => ok v S
        | none => none) else none
      | some (.dct kvs) => if keyB (.int i) then (match dLook kvs (.int i) with
        | some v => ok v S
        | none => none) else none
      | _ => gIx (.r k) (.p (.int i)) S) = _
    rw [hk]
    show gIx (.r k) (.p (.int i)) S = _
    unfold gIx
    rw [hd]
    show (match L2.atI (l.map enc) i with | some d => ok d S | none => none) = _
    have e2 : L2.atI (l.map enc) i = some (enc l[i.toNat]) := by unfold L2.atI L2.ixN; rw [if_pos h0, if_pos (by rw [List.length_map]; omega)]; simp [h]
    rw [e2]; rfl
  exact AP.to e (q _ (List.getElem?_eq_getElem h))
theorem setR_eq {α : Type} {l : List α} {enc : α → PyData} {k : Nat} {i : Int} {a : α} {S : Sto} (hk : S[k]? = some (.lst (l.map enc))) (h0 : 0 ≤ i) (h1 : i < l.length) : fSetA (.r k) (.p (.int i)) (.p (enc a)) S = some (S.set k (.lst ((l.set i.toNat a).map enc))) := by
  show (match S[k]? with
    | some (.dtu kvs) => if isTupK (.int i) && decide (kvs.length < 1000000) then some (S.set k (.dtu (dPut kvs (.int i) (enc a)))) else none
    | some (.dct kvs) => if keyB (.int i) && decide (kvs.length < 1000000) then some (S.set k (.dct (dPut kvs (.int i) (enc a)))) else none
    | _ => fSet (.r k) (.p (.int i)) (.p (enc a)) S) = _
  rw [hk]
  show fSet (.r k) (.p (.int i)) (.p (enc a)) S = _
  show (match S[k]? with
    | some (.lst xs) => (match L2.ixN xs.length i with
      | some j => some (S.set k (.lst (xs.set j (enc a))))
      | none => none)
    | _ => none) = _
  rw [hk]
  show (match L2.ixN (l.map enc).length i with
      | some j => some (S.set k (.lst ((l.map enc).set j (enc a))))
      | none => none) = _
  have e : L2.ixN (l.map enc).length i = some i.toNat := by unfold L2.ixN; rw [if_pos h0, if_pos (by rw [List.length_map]; omega)]
  rw [e, List.map_set]
theorem swapL_of {α : Type} {i j : Nat} {m : List α} {x y : α} (h1 : m[i]? = some x) (h2 : m[j]? = some y) : swapL i j m = (m.set i y).set j x := by unfold swapL; rw [h1, h2]
theorem range_iN (n : Nat) : rangeD 0 n = (List.range n).map iN := by
  unfold rangeD iN
  exact List.map_congr_left fun i _ => by rw [Int.zero_add]
theorem mulI_eq (i j : Int) (S : Sto) (h : -(2 ^ 64) < i ∧ i < 2 ^ 64) : gMulX (.p (.int i)) (.p (.int j)) S = some (.p (.int (i * j)), S) := mul_eqL h.1 h.2
theorem rng0_eq {j : Int} {S : Sto} (h0 : 0 ≤ j) (h1 : j ≤ 1000000) : rngD 0 [.p (.int j)] S = some (.p (eN (List.range j.toNat)), S) := by
  show (if -1000000 ≤ (0 : Int) ∧ (0 : Int) ≤ 1000000 ∧ -1000000 ≤ j ∧ j ≤ 1000000 then ok (.tuple (rangeD 0 (j - 0).toNat)) S else none) = _
  rw [if_pos (by omega), Int.sub_zero, range_iN]; rfl
theorem rng1_eq {j : Int} {S : Sto} (h0 : 0 ≤ j) (h1 : j ≤ 1000000) : rngD 1 [.p (.int j)] S = some (.p (.list ((List.range j.toNat).map iN)), S) := by
  show (if -1000000 ≤ (0 : Int) ∧ (0 : Int) ≤ 1000000 ∧ -1000000 ≤ j ∧ j ≤ 1000000 then ok (.list (rangeD 0 (j - 0).toNat)) S else none) = _
  rw [if_pos (by omega), Int.sub_zero, range_iN]; rfl
theorem rng2_eq {j : Int} {S : Sto} (h0 : 0 ≤ j) (h1 : j ≤ 1000000) : rngD 2 [.p (.int j)] S = some (.r S.length, S ++ [.lst ((List.range j.toNat).map iN)]) := by
  show (if -1000000 ≤ (0 : Int) ∧ (0 : Int) ≤ 1000000 ∧ -1000000 ≤ j ∧ j ≤ 1000000 then some (D.r S.length, S ++ [.lst (rangeD 0 (j - 0).toNat)]) else none) = _
  rw [if_pos (by omega), Int.sub_zero, range_iN]
theorem swaps_mem {n s : Nat} {sw : List (Nat × Nat)} (h : s < n) : s ∈ swaps sw (List.range n) := swaps_perm.mem_iff.mpr (List.mem_range.mpr h)
theorem nt_nats {l : List Nat} (h : ∀ x ∈ l, x < 1000000) (hl : l.length ≤ 30) : Nt 700 1 (eN l) :=
  (Nt.tup (Nt.map (fun x hx => Nt.int (by omega) (by have := h x hx; omega)) hl)).up (by decide) (by decide)
theorem exL_lt {n : Nat} {sw : List (Nat × Nat)} (h : SwIn n sw) : ∀ x ∈ exL n sw, x < n := fun x hx => by
  rw [exL_eq h] at hx
  obtain ⟨s, hs, rfl⟩ := List.mem_map.mp hx
  exact actS_lt h (List.mem_range.mp hs)
theorem nt_exL {n : Nat} {sw : List (Nat × Nat)} (h : SwIn n sw) (hn : n ≤ 30) : Nt 700 1 (eN (exL n sw)) :=
  nt_nats (fun x hx => by have := exL_lt h x hx; omega) (by rw [exL_len]; exact hn)
theorem list_getD {l : List Nat} {n : Nat} (h : l.length = n) : (List.range n).map (fun s => iN (l.getD s 0)) = l.map iN := by
  subst h
  refine List.ext_getElem? fun i => ?_
  rw [List.getElem?_map, List.getElem?_map]
  by_cases hi : i < l.length
  · rw [List.getElem?_range hi, List.getElem?_eq_getElem hi]
    simp [List.getD, hi]
  · rw [List.getElem?_eq_none (by simpa using hi), List.getElem?_eq_none (by simpa using hi)]; rfl
theorem int_iN {r : Int} (h : 0 ≤ r) : PyData.int r = iN r.toNat := by unfold iN; rw [Int.toNat_of_nonneg h]
end Tm
namespace Tm
open PySem
/-! ## rows as texts -/
def letS (d : Dir) : Str := ⟨#[d.chr]⟩
theorem join_go : ∀ w : List Dir, (Str.join (Str.ofString "") (w.map letS)).cps.toList = w.map Dir.chr
  | [] => rfl
  | [d] => rfl
  | d :: d2 :: w => by
    have ih := join_go (d2 :: w)
    show ((letS d ++ Str.ofString "") ++ Str.join (Str.ofString "") ((d2 :: w).map letS)).cps.toList = _
    have e : ∀ a b : Str, (a ++ b).cps.toList = a.cps.toList ++ b.cps.toList := fun a b => by
      show (a.cps ++ b.cps).toList = _
      simp
    rw [e, e, ih]
    rfl
theorem join_row {w : List Dir} (hw : w.length ≤ 1000000) (S : Sto) : gJoin (.p (.str (Str.ofString ""))) [.p (.list (w.map eL))] S = some (.p (.str (rowS w)), S) := by
  have h1 : ∀ w : List Dir, strsD (w.map eL) = some (w.map letS) := by
    intro w
    induction w with
    | nil => rfl
    | cons d w ih =>
      show (match strsD (w.map eL) with | some bs => some (letS d :: bs) | none => none) = _
      rw [ih]; rfl
  have h2 : ∀ w : List Dir, ((w.map letS).map (fun y : Str => y.length)).sum = w.length := by
    intro w
    induction w with
    | nil => rfl
    | cons d w ih => simp only [List.map_cons, List.sum_cons, ih, List.length_cons]; show 1 + _ = _; omega
  have h3 : Txt.join (Str.ofString "") (w.map letS) = rowS w := by
    refine PySem.W.str_of_cps ?_
    show (Builtin.Str.glued (Str.ofString "") (w.map letS)).cps.toList = _
    rw [PySem.StrLaws.glued_eq_join, join_go]
    simp [rowS]
  show (match strsD (w.map eL) with
    | some ys => if (List.map (fun y : Str => y.length) ys).sum + ys.length * (Str.ofString "").length ≤ Lim then ok (.str (Txt.join (Str.ofString "") ys)) S else none
    | none => none) = _
  rw [h1]
  show (if ((w.map letS).map (fun y : Str => y.length)).sum + (w.map letS).length * (Str.ofString "").length ≤ Lim then ok (.str (Txt.join (Str.ofString "") (w.map letS))) S else none) = _
  rw [if_pos (by rw [h2]; show _ + _ * 0 ≤ _; unfold Lim; omega), h3]; rfl
theorem add_row {a b : List Dir} (ha : a.length ≤ 1000000) (hb : b.length ≤ 1000000) (S : Sto) : gAdd (.p (.str (rowS a))) (.p (.str (rowS b))) S = some (.p (.str (rowS (a ++ b))), S) := by
  have e : rowS a ++ rowS b = rowS (a ++ b) := by
    refine PySem.W.str_of_cps ?_
    show ((rowS a).cps ++ (rowS b).cps).toList = _
    simp [rowS]
  show (if (rowS a).length + (rowS b).length ≤ Lim then ok (.str (rowS a ++ rowS b)) S else none) = _
  rw [rowS_len, rowS_len, if_pos (by unfold Lim; omega), e]; rfl
theorem last_row {w : List Dir} (hw : w.length ≤ 1000000) (d : Dir) (S : Sto) : gIxA (.p (.str (rowS (w ++ [d])))) (.p (.int (-1))) S = some (.p (eL d), S) := by
  show (if (rowS (w ++ [d])).length ≤ Lim then (match L2.atI (rowS (w ++ [d])).cps.toList (-1) with
    | some c => ok (.str ⟨#[c]⟩) S
    | none => none) else none) = _
  rw [rowS_len, if_pos (by unfold Lim; simp; omega)]
  have h : L2.atI (rowS (w ++ [d])).cps.toList (-1) = some d.chr := by
    have e : (rowS (w ++ [d])).cps.toList = w.map Dir.chr ++ [d.chr] := by simp [rowS]
    rw [e]
    unfold L2.atI L2.ixN
    rw [if_neg (by decide), if_pos (by simp; omega)]
    simp
    have : ((-1 : Int) + (((w.length : Nat) : Int) + 1)).toNat = w.length := by omega
    rw [this, List.getElem?_append_right (by simp)]
    simp
  rw [h]; rfl
theorem cut_row {w : List Dir} (hw : w.length ≤ 1000000) (k : Nat) (S : Sto) : gSl (.p (.str (rowS w))) none (some (k : Int)) S = some (.p (.str (rowS (w.take k))), S) := by
  show (if (rowS w).length ≤ Lim then ok (.str (L2.cutS (rowS w) none (some (k : Int)))) S else none) = _
  rw [rowS_len, if_pos (by unfold Lim; omega)]
  have h : L2.cutS (rowS w) none (some (k : Int)) = rowS (w.take k) := by
    refine PySem.W.str_of_cps ?_
    unfold L2.cutS
    rw [rowS_len]
    have e1 : HT.sIx w.length 0 none = 0 := rfl
    have e2 : HT.sIx w.length w.length (some (k : Int)) = min k w.length := HT.sIx_nat _ _ _
    rw [e1, e2]
    simp [rowS, List.take_eq_take_iff]
    try omega
  rw [h]; rfl
theorem cut_rowI {w : List Dir} (hw : w.length ≤ 1000000) {i : Int} (h : 0 ≤ i) (S : Sto) : gSl (.p (.str (rowS w))) none (some i) S = some (.p (.str (rowS (w.take i.toNat))), S) := by
  have := cut_row hw i.toNat S
  rw [Int.toNat_of_nonneg h] at this
  exact this
theorem cutD_row {w : List Dir} (hw : w.length ≤ 1000000) {i : Int} (h : 0 ≤ i) (S : Sto) : gSl (.p (.str (rowS w))) (some i) none S = some (.p (.str (rowS (w.drop i.toNat))), S) := by
  show (if (rowS w).length ≤ Lim then ok (.str (L2.cutS (rowS w) (some i) none)) S else none) = _
  rw [rowS_len, if_pos (by unfold Lim; omega)]
  have h2 : L2.cutS (rowS w) (some i) none = rowS (w.drop i.toNat) := by
    refine PySem.W.str_of_cps ?_
    unfold L2.cutS
    rw [rowS_len]
    have e1 : HT.sIx w.length w.length none = w.length := rfl
    have e2 : HT.sIx w.length 0 (some i) = min i.toNat w.length := by rw [← Int.toNat_of_nonneg h]; exact HT.sIx_nat _ _ _
    rw [e1, e2]
    simp [rowS]
    by_cases hi : i.toNat ≤ w.length
    · rw [Nat.min_eq_left hi, List.take_of_length_le (by simp)]
    · rw [Nat.min_eq_right (by omega), List.drop_eq_nil_of_le (by simp), List.drop_eq_nil_of_le (by simp; omega)]; simp
  rw [h2]; rfl
theorem rev_row {w : List Dir} (hw : w.length ≤ 1000000) (S : Sto) : gRev (.p (.str (rowS w))) S = some (.p (.str (rowS w.reverse)), S) := by
  show (if (rowS w).length ≤ Lim then ok (.str (strRev (rowS w))) S else none) = _
  rw [rowS_len, if_pos (by unfold Lim; omega)]
  have : strRev (rowS w) = rowS w.reverse := by
    refine PySem.W.str_of_cps ?_
    simp [strRev, rowS]
  rw [this]; rfl
theorem len_row {w : List Dir} (hw : w.length ≤ 1000000) (S : Sto) : gLen [.p (.str (rowS w))] S = some (.p (.int (w.length : Nat)), S) := by
  show (if (rowS w).length ≤ Lim then ok (.int ((rowS w).length : Nat)) S else none) = _
  rw [rowS_len, if_pos (by unfold Lim; omega)]; rfl
theorem rowS_inj {a b : List Dir} (h : rowS a = rowS b) : a = b := by
  have h1 : (rowS a).cps.toList = (rowS b).cps.toList := by rw [h]
  simp only [rowS, List.toList_toArray] at h1
  revert h1
  have : Function.Injective Dir.chr := by
    intro x y e
    cases x <;> cases y <;> first | rfl | cases e
  exact fun e => List.map_inj_right (fun x y e => this e) |>.mp e
theorem rowS_nil : rowS [] = Str.ofString "" := rfl
theorem rep_row (w : List Dir) (k : Nat) : repS (rowS w) k = rowS (List.replicate k w).flatten := by
  refine PySem.W.str_of_cps ?_
  unfold repS rowS
  simp
theorem nt_row {w : List Dir} {n : Nat} (h : w.length ≤ n) : Nt n 0 (.str (rowS w)) := by
  refine ⟨?_, by simp [PyData.intsShort], by simp [PyData.showable], ?_, by simp [PyData.depth]⟩
  · rw [PyData.canLay0]
    unfold PyData.strOk rowS
    have h : (w.map Dir.chr).all (fun x => decide (x < 0x110000)) = true := by
      rw [List.all_eq_true]
      intro x hx
      obtain ⟨d, _, rfl⟩ := List.mem_map.mp hx
      cases d <;> decide
    simpa using h
  · show (rowS w).cps.size ≤ n
    have := rowS_len w
    unfold Str.length at this
    omega
theorem nt_range {n : Nat} (h : n ≤ 30) : Nt 700 1 (eN (List.range n)) := nt_nats (fun x hx => by have := List.mem_range.mp hx; omega) (by simpa using h)
end Tm
namespace Tm
open PySem
/-! ## floors turned -/
inductive Wd where
  | left | mirror
def eW : Wd → PyData
  | .left => .str (Str.ofString "left")
  | .mirror => .str (Str.ofString "mirror")
def tC : Wd → Cell → Cell
  | .left, c => (3 - c.2, c.1)
  | .mirror, c => (3 - c.1, c.2)
def mir (f : Int) : Int := if f = 2 then 3 else if f = 3 then 2 else f
def tL : Wd → Ly → Ly
  | .left, l => (l.1, l.2.2, 5 - l.2.1)
  | .mirror, l => (mir l.1, mir l.2.1, mir (5 - l.2.2))
def tD : Wd → Dir → Dir
  | .left, .n => .w | .left, .w => .s | .left, .s => .e | .left, .e => .n
  | .mirror, .n => .n | .mirror, .w => .e | .mirror, .s => .s | .mirror, .e => .w
def tF (w : Wd) (cs : List Cell) : List Cell := sortC (cs.map (tC w))
def faceN : Wd → List Nat
  | .left => [0, 1, 2, 3, 4, 5]
  | .mirror => [0, 1, 3, 2, 4, 5]
def tSp (w : Wd) (cs : List Cell) : List Nat := faceN w ++ cs.map fun c => 6 + (tF w cs).idxOf (tC w c)
theorem tL_mem (w : Wd) : ∀ l ∈ lyings, tL w l ∈ lyings := by
  have h : (lyings.all fun l => decide (tL .left l ∈ lyings) && decide (tL .mirror l ∈ lyings)) = true := by decide +kernel
  intro l hl
  have h2 := List.all_eq_true.mp h l hl
  simp only [Bool.and_eq_true, decide_eq_true_eq] at h2
  cases w
  · exact h2.1
  · exact h2.2
theorem tC_range {w : Wd} {c : Cell} (h : 0 ≤ c.1 ∧ c.1 ≤ 3 ∧ 0 ≤ c.2 ∧ c.2 ≤ 3) : 0 ≤ (tC w c).1 ∧ (tC w c).1 ≤ 3 ∧ 0 ≤ (tC w c).2 ∧ (tC w c).2 ≤ 3 := by
  cases w <;> simp only [tC] <;> omega
theorem tC_inj {w : Wd} {a b : Cell} (h : tC w a = tC w b) : a = b := by
  obtain ⟨a1, a2⟩ := a
  obtain ⟨b1, b2⟩ := b
  cases w <;> simp only [tC, Prod.mk.injEq] at h ⊢ <;> omega
theorem tF_floor {w : Wd} {cs : List Cell} (F : Floor cs) : Floor (tF w cs) := by
  refine floor_sort (by rw [List.length_map]; exact F.pos) (by rw [List.length_map]; exact F.most) ?_ ?_
  · exact List.Pairwise.map _ (fun a b h e => h (tC_inj e)) (rises_nodup F.rises)
  · intro c hc
    obtain ⟨d, hd, rfl⟩ := List.mem_map.mp hc
    exact tC_range (F.range d hd)
theorem tF_mem {w : Wd} {cs : List Cell} {c : Cell} : tC w c ∈ tF w cs ↔ c ∈ cs := by
  unfold tF
  rw [(sortC_perm _).mem_iff, List.mem_map]
  exact ⟨fun ⟨d, hd, e⟩ => tC_inj e ▸ hd, fun h => ⟨c, h, rfl⟩⟩
theorem tF_len {w : Wd} {cs : List Cell} : (tF w cs).length = cs.length := by unfold tF; rw [(sortC_perm _).length_eq, List.length_map]
/-- a floor is told by its cells -/
theorem rises_pw : ∀ {cs : List Cell}, Rises cs → List.Pairwise (fun a b => clt a b = true) cs
  | [], _ => .nil
  | [a], _ => by simp
  | a :: b :: r, h => List.pairwise_cons.mpr ⟨rises_lt h, rises_pw h.2⟩
theorem floor_ext {a b : List Cell} (ha : Floor a) (hb : Floor b) (h : ∀ c, c ∈ a ↔ c ∈ b) : a = b := by
  refine List.Perm.eq_of_pairwise (le := fun x y => clt x y = true) (fun x y _ _ h1 h2 => ?_) (rises_pw ha.rises) (rises_pw hb.rises) ?_
  · unfold clt at h1 h2
    simp only [decide_eq_true_eq] at h1 h2
    omega
  · exact (List.perm_ext_iff_of_nodup (rises_nodup ha.rises) (rises_nodup hb.rises)).mpr h
/-! ## turned by several words -/
def TCs : List Wd → Cell → Cell
  | [], c => c
  | w :: ws, c => TCs ws (tC w c)
def TLs : List Wd → Ly → Ly
  | [], l => l
  | w :: ws, l => TLs ws (tL w l)
def TDs : List Wd → Dir → Dir
  | [], d => d
  | w :: ws, d => TDs ws (tD w d)
def TFs : List Wd → List Cell → List Cell
  | [], cs => cs
  | w :: ws, cs => TFs ws (tF w cs)
def FNs : List Wd → List Nat → List Nat
  | [], f => f
  | w :: ws, f => FNs ws (f.map fun s => (faceN w).getD s 0)
theorem TFs_floor : ∀ (ws : List Wd) {cs : List Cell}, Floor cs → Floor (TFs ws cs)
  | [], _, F => F
  | w :: ws, _, F => TFs_floor ws (tF_floor F)
theorem TFs_mem : ∀ (ws : List Wd) {cs : List Cell} {c : Cell}, TCs ws c ∈ TFs ws cs ↔ c ∈ cs
  | [], _, _ => Iff.rfl
  | w :: ws, cs, c => (TFs_mem ws).trans tF_mem
theorem TCs_range : ∀ (ws : List Wd) {c : Cell}, (0 ≤ c.1 ∧ c.1 ≤ 3 ∧ 0 ≤ c.2 ∧ c.2 ≤ 3) → 0 ≤ (TCs ws c).1 ∧ (TCs ws c).1 ≤ 3 ∧ 0 ≤ (TCs ws c).2 ∧ (TCs ws c).2 ≤ 3
  | [], _, h => h
  | w :: ws, _, h => TCs_range ws (tC_range h)
theorem TLs_mem : ∀ (ws : List Wd) {l : Ly}, l ∈ lyings → TLs ws l ∈ lyings
  | [], _, h => h
  | w :: ws, _, h => TLs_mem ws (tL_mem w _ h)
/-- rows of words that turn cells alike turn floors alike -/
theorem TFs_back : ∀ (ws : List Wd) {cs : List Cell} {c : Cell}, c ∈ TFs ws cs → ∃ d ∈ cs, TCs ws d = c
  | [], cs, c, h => ⟨c, h, rfl⟩
  | w :: ws, cs, c, h => by
    obtain ⟨d, hd, e⟩ := TFs_back ws h
    unfold tF at hd
    rw [(sortC_perm _).mem_iff] at hd
    obtain ⟨x, hx, rfl⟩ := List.mem_map.mp hd
    exact ⟨x, hx, e⟩
theorem TFs_eq {ws vs : List Wd} {cs : List Cell} (F : Floor cs) (h : ∀ c, TCs ws c = TCs vs c) : TFs ws cs = TFs vs cs := by
  refine floor_ext (TFs_floor ws F) (TFs_floor vs F) fun c => ⟨fun hc => ?_, fun hc => ?_⟩
  · obtain ⟨d, hd, rfl⟩ := TFs_back ws hc
    rw [h]; exact (TFs_mem vs).mpr hd
  · obtain ⟨d, hd, rfl⟩ := TFs_back vs hc
    rw [← h]; exact (TFs_mem ws).mpr hd
/-! ## sorted numbers -/
theorem sortable_nats (l : List Nat) : sortable (l.map iN) = true := by
  unfold sortable allAlike
  have h1 : ((l.map iN).all fun x => (l.map iN).all fun y => PySem.W.alike x y) = true := by
    rw [List.all_eq_true]
    intro x hx
    rw [List.all_eq_true]
    intro y hy
    obtain ⟨a, _, rfl⟩ := List.mem_map.mp hx
    obtain ⟨b, _, rfl⟩ := List.mem_map.mp hy
    simp [iN, PySem.W.alike]
  have h2 : (l.map iN).all noTup = true := by
    rw [List.all_eq_true]
    intro x hx
    obtain ⟨a, _, rfl⟩ := List.mem_map.mp hx
    rfl
  have h3 : ((l.map iN).all fun x => decide (x.depth ≤ 64)) = true := by
    rw [List.all_eq_true]
    intro x hx
    obtain ⟨a, _, rfl⟩ := List.mem_map.mp hx
    simp [iN, PyData.depth]
  rw [h1, h2, h3, Bool.or_true]; rfl
theorem sort_nats (l : List Nat) : sortD (l.map iN) = (l.mergeSort fun a b => decide (a ≤ b)).map iN := by
  unfold sortD
  refine (List.map_mergeSort fun a _ b _ => ?_).symm
  have h := congrFun (congrFun (PySem.W.dataLe_int (β := Nat) (fun n => (n : Int))) a) b
  show decide (a ≤ b) = PySem.W.dataLe false id (iN a) (iN b)
  refine Eq.trans ?_ h.symm
  exact decide_eq_decide.mpr (by omega)
theorem sort_perm {l : List Nat} {n : Nat} (h : l.Perm (List.range n)) : (l.mergeSort fun a b => decide (a ≤ b)) = List.range n := by
  refine List.Perm.eq_of_pairwise (le := fun a b => a ≤ b) (fun a b _ _ h1 h2 => Nat.le_antisymm h1 h2) ?_ ?_ ((List.mergeSort_perm _ _).trans h)
  · have := List.pairwise_mergeSort (le := fun a b : Nat => decide (a ≤ b)) (fun a b c h1 h2 => by simp only [decide_eq_true_eq] at *; omega) (fun a b => by simp only [Bool.or_eq_true, decide_eq_true_eq]; omega) l
    exact this.imp fun h => by simpa using h
  · exact List.pairwise_le_range
theorem sorted_nats {l : List Nat} {n : Nat} {S : Sto} (h : l.Perm (List.range n)) : gSortedX [.p (eN l)] S = some (.p (.list ((List.range n).map iN)), S) := by
  show (if sortable (l.map iN) then ok (.list (sortD (l.map iN))) S else none) = _
  rw [if_pos (sortable_nats l), sort_nats, sort_perm h]; rfl
end Tm
namespace Tm.Pg
open PySem Tm
local macro_rules | `(tactic| tm_at "w") => `(tactic| conv => whnf)
local macro_rules | `(tactic| tm_at "go1") => `(tactic| first | tm_at "call" | refine AP.of rfl ?_ | refine BR.T rfl ?_ | refine BR.F rfl ?_ | refine AS.of rfl ?_ | refine AP.src rfl ?_)
local macro_rules | `(tactic| tm_at "go") => `(tactic| ((conv => whnf); repeat (tm_at "go1"; conv => whnf)))
local macro_rules | `(tactic| tm_at "call") => `(tactic| fail)
local macro_rules | `(tactic| tm_at "call") => `(tactic| ((with_reducible show AP (gMod _ _ _) _); refine AP.to (mod_eq (by omega)) ?_))
local macro_rules | `(tactic| tm_at "call") => `(tactic| ((with_reducible show AP (gDiv _ _ _) _); refine AP.to (div_eq (by omega) (by omega)) ?_))
local macro_rules | `(tactic| tm_at "call") => `(tactic| ((with_reducible show AP (gMulX _ _ _) _); refine AP.to (mul_eqL (by omega) (by omega)) ?_))
local macro_rules | `(tactic| tm_at "call") => `(tactic| ((with_reducible show AP (gMulX _ _ _) _); refine AP.to (mul_eqR (by omega) (by omega)) ?_))
local macro_rules | `(tactic| tm_at "call") => `(tactic| ((with_reducible show AP (r1I _ _) _); refine AP.src (r1_eq (by omega) (by omega)) ?_))
local macro_rules | `(tactic| tm_at "call") => `(tactic| ((with_reducible show AP (gInA _ _ _) _); refine AP.to (in_t2) ?_))
local macro_rules | `(tactic| tm_at "call") => `(tactic| ((with_reducible show AP (gNotInA _ _ _) _); refine AP.to (notin_t2) ?_))
local macro_rules | `(tactic| tm_at "call") => `(tactic| ((with_reducible show AP (gInA _ _ _) _); refine AP.to (in_l2) ?_))
local macro_rules | `(tactic| tm_at "call") => `(tactic| ((with_reducible show AP (gNotInA _ _ _) _); refine AP.to (notin_l2) ?_))
local macro_rules | `(tactic| tm_at "call") => `(tactic| ((with_reducible show AP (gInA _ _ _) _); refine AP.to (in_r2 rfl) ?_))
local macro_rules | `(tactic| tm_at "call") => `(tactic| ((with_reducible show AP (gNotInA _ _ _) _); refine AP.to (notin_r2 rfl) ?_))
local macro_rules | `(tactic| tm_at "call") => `(tactic| ((with_reducible show AP (gInA _ _ _) _); refine AP.to (in_t _ _ _) ?_))
local macro_rules | `(tactic| tm_at "call") => `(tactic| ((with_reducible show AP (gNotInA _ _ _) _); refine AP.to (notin_t _ _ _) ?_))
local macro_rules | `(tactic| tm_at "call") => `(tactic| ((with_reducible show AP (gInA _ _ _) _); refine AP.to (in_l _ _ _) ?_))
local macro_rules | `(tactic| tm_at "call") => `(tactic| ((with_reducible show AP (gNotInA _ _ _) _); refine AP.to (notin_l _ _ _) ?_))
local macro_rules | `(tactic| tm_at "call") => `(tactic| ((with_reducible show AP (gInA _ _ _) _); refine AP.to (in_r rfl) ?_))
local macro_rules | `(tactic| tm_at "call") => `(tactic| ((with_reducible show AP (gNotInA _ _ _) _); refine AP.to (notin_r rfl) ?_))
local macro_rules | `(tactic| tm_at "call") => `(tactic| ((with_reducible show AP (gIxA (.p (.str (Str.ofString "ensw"))) _ _) _); (refine letter_ap (by omega) (by omega) ?_; intro d)))
local macro_rules | `(tactic| tm_at "call") => `(tactic| ((with_reducible show AP (gAdd (.p (.tuple _)) _ _) _); refine AP.to (addT_eq (by first | (simp <;> omega) | omega)) ?_))
local macro_rules | `(tactic| tm_at "call") => `(tactic| ((with_reducible show AP (gAdd (.p (.list _)) _ _) _); refine AP.to (addL_eq (by first | (simp <;> omega) | omega)) ?_))
local macro_rules | `(tactic| tm_at "call") => `(tactic| ((with_reducible show AP (gEq (.p (eC _)) _ _) _); refine AP.to (eq_cell _ _ _) ?_))
local macro_rules | `(tactic| tm_at "call") => `(tactic| ((with_reducible show AP (gNe (.p (eC _)) _ _) _); refine AP.to (ne_cell _ _ _) ?_))
local macro_rules | `(tactic| tm_at "call") => `(tactic| ((with_reducible show AP (gIxA (.p (.tuple (_ ++ [_]))) _ _) _); refine AP.to (ixT_last) ?_))
local macro_rules | `(tactic| tm_at "call") => `(tactic| ((with_reducible show AP (gSortedX _ _) _); refine AP.to (sorted_cells rfl) ?_))
local macro_rules | `(tactic| tm_at "call") => `(tactic| ((with_reducible show AP (valI (.p (.str (Str.ofString "ensw"))) _) _); refine AP.src (ensw_val _) ?_))
local macro_rules | `(tactic| tm_at "call") => `(tactic| ((with_reducible show AP (gNe (.p (.list _)) (.p (.list [])) _) _); refine AP.to (ne_nil (shaped_ints _ _)) ?_))
local macro_rules | `(tactic| tm_at "call") => `(tactic| ((with_reducible show AP (gAppend (.r _) _ _) _); refine AP.of (append_eq rfl (by first | (simp <;> omega) | omega)) ?_))
local macro_rules | `(tactic| tm_at "call") => `(tactic| ((with_reducible show AP (gIxA (.p (.tuple (List.map _ _))) _ _) _); (refine ixT_ap (by omega) (by omega) ?_; intro a ha)))
local macro_rules | `(tactic| tm_at "call") => `(tactic| ((with_reducible show AP (gIxA (.p (.list (List.map _ _))) _ _) _); (refine ixL_ap (by omega) (by omega) ?_; intro a ha)))
local macro_rules | `(tactic| tm_at "nt1") => `(tactic| first | assumption | exact Nt.non | exact Nt.bool _ | exact nt_floor (by assumption) | exact nt_stand (by assumption) (by assumption) (by assumption) | exact nt_pair (by assumption) (by assumption) | exact nt_turns (by omega) | exact nt_cell (Floor.range (by assumption) _ (by assumption)) | exact nt_ly (by assumption) | exact nt_row (n := 100) (by omega) | exact nt_range (by omega) | exact NtA.nil' | apply Nt.tup | apply Nt.lst | apply NtA.cons')
local macro_rules | `(tactic| tm_at "nt") => `(tactic| repeat' tm_at "nt1")
local macro_rules | `(tactic| tm_at "call") => `(tactic| ((with_reducible show AP (gRepr [.p _] _) _); refine AP.to (repr_nt (by tm_at "nt") (by decide) (by decide)) ?_))
local macro_rules | `(tactic| tm_at "call") => `(tactic| ((with_reducible show AP (gNe (.p (.str _)) (.p (.str _)) _) _); refine AP.to (ne_same _ _) ?_))
local macro_rules | `(tactic| tm_at "call") => `(tactic| ((with_reducible show AP (r1I _ _) _); refine AP.src (r1_eq (by first | (split <;> split <;> omega) | omega) (by first | (split <;> split <;> omega) | omega)) ?_))
local macro_rules | `(tactic| tm_at "call") => `(tactic| ((with_reducible show AP (gSl (.p (.tuple (List.map _ _))) none (some _) _) _); refine AP.to (slT_take (by omega)) ?_))
local macro_rules | `(tactic| tm_at "call") => `(tactic| ((with_reducible show AP (gSl (.p (.tuple (List.map _ _))) (some _) none _) _); refine AP.to (slT_drop (by omega)) ?_))
local macro_rules | `(tactic| tm_at "call") => `(tactic| ((with_reducible show AP (gEq (.p (.int _)) (.p (.int _)) _) _); refine AP.to (eq_int _ _ _) ?_))
local macro_rules | `(tactic| tm_at "call") => `(tactic| ((with_reducible show AP (gNe (.p (.int _)) (.p (.int _)) _) _); refine AP.to (ne_int _ _ _) ?_))
local macro_rules | `(tactic| tm_at "call") => `(tactic| ((with_reducible show AP (gIxA (.r _) _ _) _); (refine ixR_ap rfl (by omega) (by first | omega | (simp <;> omega) | omega) ?_; intro a ha)))
local macro_rules | `(tactic| tm_at "call") => `(tactic| ((with_reducible show AS (fSetA (.r _) _ _ _) _); refine AS.of (setR_eq rfl (by omega) (by first | omega | (simp <;> omega) | omega)) ?_))
local macro_rules | `(tactic| tm_at "call") => `(tactic| ((with_reducible show AP (gIndexT _ [.p (eC _)] _) _); refine AP.to (index_cell (by assumption)) ?_))
local macro_rules | `(tactic| tm_at "call") => `(tactic| ((with_reducible show AP (rngD 0 _ _) _); refine AP.to (rng0_eq (by omega) (by omega)) ?_))
local macro_rules | `(tactic| tm_at "call") => `(tactic| ((with_reducible show AP (rngD 1 _ _) _); refine AP.to (rng1_eq (by omega) (by omega)) ?_))
local macro_rules | `(tactic| tm_at "call") => `(tactic| ((with_reducible show AP (rngD 2 _ _) _); refine AP.of (rng2_eq (by omega) (by omega)) ?_))
local macro_rules | `(tactic| tm_at "call") => `(tactic| ((with_reducible show AP (gJoin (.p (.str (Str.ofString ""))) _ _) _); refine AP.to (join_row (by first | omega | (simp <;> omega) | omega) _) ?_))
local macro_rules | `(tactic| tm_at "call") => `(tactic| ((with_reducible show AP (gAdd (.p (.str (rowS _))) _ _) _); refine AP.to (add_row (by first | omega | (simp <;> omega) | omega) (by first | omega | (simp <;> omega) | omega) _) ?_))
local macro_rules | `(tactic| tm_at "call") => `(tactic| ((with_reducible show AP (gLen [.p (.str (rowS _))] _) _); refine AP.to (len_row (by first | omega | (simp <;> omega) | omega) _) ?_))
local macro_rules | `(tactic| tm_at "call") => `(tactic| ((with_reducible show AP (gSl (.p (.str (rowS _))) none (some _) _) _); refine AP.to (cut_rowI (by omega) (by omega) _) ?_))
local macro_rules | `(tactic| tm_at "call") => `(tactic| ((with_reducible show AP (gSl (.p (.str (rowS _))) (some _) none _) _); refine AP.to (cutD_row (by omega) (by omega) _) ?_))
local macro_rules | `(tactic| tm_at "call") => `(tactic| ((with_reducible show AP (gRev (.p (.str (rowS _))) _) _); refine AP.to (rev_row (by omega) _) ?_))
local macro_rules | `(tactic| tm_at "call") => `(tactic| ((with_reducible show AP (gIxA (.p (.str (rowS (_ ++ [_])))) _ _) _); refine AP.to (last_row (by first | omega | (simp <;> omega) | omega) _ _) ?_))
/-! ## what the program's defs tell -/
theorem beside_eq (c : Cell) (d : Dir) (S : Sto) : F_beside [.p (eC c), .p (eL d)] S = some (.p (eC (stp d c)), S) := by
  unfold F_beside B_beside
  refine pure_in rfl rfl ?_
  cases d
  all_goals tm_at "go"
  all_goals rfl
local macro_rules | `(tactic| tm_at "call") => `(tactic| ((with_reducible show AP (F_beside _ _) _); refine AP.to (beside_eq _ _ _) ?_))
theorem rolled_eq (l : Ly) (d : Dir) (S : Sto) : F_rolled [.p (eY l), .p (eL d)] S = some (.p (eY (roll d l)), S) := by
  unfold F_rolled B_rolled
  refine pure_in rfl rfl ?_
  cases d
  all_goals tm_at "go"
  all_goals rfl
local macro_rules | `(tactic| tm_at "call") => `(tactic| ((with_reducible show AP (F_rolled _ _) _); refine AP.to (rolled_eq _ _ _) ?_))
theorem is_cell_eq {c : Cell} (h : 0 ≤ c.1 ∧ c.1 ≤ 3 ∧ 0 ≤ c.2 ∧ c.2 ≤ 3) (S : Sto) : F_is_cell [.p (eC c)] S = some (.p (.bool true), S) := by
  refine cells16 (P := fun c => F_is_cell [.p (eC c)] S = some (.p (.bool true), S)) h fun a ha b hb => ?_
  simp only [List.mem_cons, List.not_mem_nil, or_false] at ha hb
  rcases ha with rfl | rfl | rfl | rfl <;> rcases hb with rfl | rfl | rfl | rfl <;> kernel_rfl
theorem are_some_eq (xs : List PyData) (lo hi : Int) (S : Sto) : F_are_some [.p (.tuple xs), .p (.int lo), .p (.int hi)] S = some (.p (.bool (decide (lo ≤ xs.length) && decide ((xs.length : Int) ≤ hi))), S) := by
  unfold F_are_some B_are_some
  refine pure_in rfl rfl ?_
  tm_at "go"
  by_cases h : lo ≤ xs.length
  · refine BR.T (decide_eq_true h) ?_
    tm_at "go"
    simp only [rtV, h, decide_true, Bool.true_and]
  · refine BR.F (decide_eq_false h) ?_
    tm_at "go"
    simp only [rtV, h, decide_false, Bool.false_and]
theorem are_some_yes {xs : List PyData} {lo hi : Int} (S : Sto) (h1 : lo ≤ xs.length) (h2 : (xs.length : Int) ≤ hi) : F_are_some [.p (.tuple xs), .p (.int lo), .p (.int hi)] S = some (.p (.bool true), S) := by
  rw [are_some_eq, decide_eq_true h1, decide_eq_true h2]; rfl
local macro_rules | `(tactic| tm_at "call") => `(tactic| ((with_reducible show AP (F_are_some _ _) _); refine AP.to (are_some_eq _ _ _ _) ?_))
local macro_rules | `(tactic| tm_at "call") => `(tactic| ((with_reducible show AP (F_are_some _ _) _); refine AP.to (are_some_yes _ (by first | omega | (simp <;> omega) | omega) (by first | omega | (simp <;> omega) | omega)) ?_))
local macro_rules | `(tactic| tm_at "call") => `(tactic| ((with_reducible show AP (F_is_cell _ _) _); refine AP.to (is_cell_eq (by first | assumption | exact Floor.range ‹_› _ ‹_›) _) ?_))
theorem cut1 (xs : List PyData) : cutD xs (some 1) none = xs.drop 1 := by
  unfold cutD
  cases xs with
  | nil => rfl
  | cons x xs =>
    have e1 : HT.sIx (x :: xs).length 0 (some 1) = 1 := by simp [HT.sIx]; try omega
    have e2 : HT.sIx (x :: xs).length (x :: xs).length none = (x :: xs).length := by simp [HT.sIx]
    rw [e1, e2]
    simp
theorem all_true {α : Type} (xs : List α) (S : Sto) : gAll [.p (.list (xs.map fun _ => .bool true))] S = some (.p (.bool true), S) := by
  have h : ∀ xs : List α, boolsD (xs.map fun _ => PyData.bool true) = some (xs.map fun _ => true) := by
    intro xs
    induction xs with
    | nil => rfl
    | cons x xs ih => simp only [List.map_cons, boolsD, ih]
  show (match boolsD (xs.map fun _ => PyData.bool true) with | some bs => ok (.bool (bs.all id)) S | none => none) = _
  rw [h]
  have : (xs.map fun _ => true).all id = true := by rw [List.all_eq_true]; intro x hx; obtain ⟨_, _, rfl⟩ := List.mem_map.mp hx; rfl
  show ok (.bool ((xs.map fun _ => true).all id)) S = _
  rw [this]; rfl
theorem bools_all {α : Type} (p : α → Bool) (xs : List α) (S : Sto) : gAll [.p (.list (xs.map fun a => .bool (p a)))] S = some (.p (.bool (xs.all p)), S) := by
  have h : ∀ xs : List α, boolsD (xs.map fun a => PyData.bool (p a)) = some (xs.map p) := by
    intro xs
    induction xs with
    | nil => rfl
    | cons x xs ih => simp only [List.map_cons, boolsD, ih]
  show (match boolsD (xs.map fun a => PyData.bool (p a)) with | some bs => ok (.bool (bs.all id)) S | none => none) = _
  rw [h]
  show ok (.bool ((xs.map p).all id)) S = _
  rw [List.all_map]; rfl
local macro_rules | `(tactic| tm_at "call") => `(tactic| ((with_reducible show AP (gAll _ _) _); refine AP.to (bools_all _ _ _) ?_))
local macro_rules | `(tactic| tm_at "call") => `(tactic| ((with_reducible show AP (gAll _ _) _); refine AP.to (all_true _ _) ?_))
theorem paired_rises : ∀ {cs : List Cell}, Rises cs → ∀ i ∈ paired (cs.map eC) ((cs.map eC).drop 1), ∃ a b : Cell, i = .row [.p (eC a), .p (eC b)] ∧ clt a b = true
  | [], _, i, h => by simp [paired] at h
  | [_], _, i, h => by simp [paired] at h
  | a :: b :: r, ⟨h1, h2⟩, i, h => by
    have e : paired ((a :: b :: r).map eC) (((a :: b :: r).map eC).drop 1) = .row [.p (eC a), .p (eC b)] :: paired ((b :: r).map eC) (((b :: r).map eC).drop 1) := by simp [paired]
    rw [e] at h
    rcases List.mem_cons.mp h with z | z
    · exact ⟨a, b, z, h1⟩
    · exact paired_rises h2 i z
local macro_rules | `(tactic| tm_at "call") => `(tactic| ((with_reducible show AP (gLess _ _ _) _); refine AP.to (less_cell _ _ _) ?_))
theorem rises_eq {cs : List Cell} (h : Rises cs) (S : Sto) : F_rises [.p (.tuple (cs.map eC))] S = some (.p (.bool true), S) := by
  unfold F_rises B_rises
  refine pure_in rfl rfl ?_
  tm_at "go"
  rw [show Int.toNat 1 = 1 from rfl, List.map_drop]
  refine WK.inv (fun i => ∃ a b : Cell, i = .row [.p (eC a), .p (eC b)] ∧ clt a b = true) (fun acc S => S = [] ∧ ∃ n : Nat, acc = (List.range n).map fun _ => .bool true) (paired_rises h) ⟨rfl, 0, rfl⟩ ?_ ?_
  · rintro x acc S ⟨a, b, rfl, hc⟩ ⟨rfl, n, rfl⟩
    tm_at "go"
    exact ⟨rfl, n + 1, by simp [List.range_succ, hc]⟩
  · rintro acc S ⟨rfl, n, rfl⟩
    tm_at "go"
    rfl
local macro_rules | `(tactic| tm_at "call") => `(tactic| ((with_reducible show AP (F_rises _ _) _); refine AP.to (rises_eq (by first | assumption | exact Floor.rises ‹_›) _) ?_))
theorem is_floor_eq {cs : List Cell} (F : Floor cs) (S : Sto) : F_is_floor [.p (.tuple (cs.map eC))] S = some (.p (.bool true), S) := by
  have hp := F.pos
  have hm := F.most
  unfold F_is_floor B_is_floor
  refine pure_in rfl rfl ?_
  tm_at "go"
  refine WK.map eC (fun _ => .bool true) cs (fun c hc => ?_) ?_
  · tm_at "go"
    exact ⟨rfl, rfl⟩
  · tm_at "go"
    rfl
local macro_rules | `(tactic| tm_at "call") => `(tactic| ((with_reducible show AP (F_is_floor _ _) _); refine AP.to (is_floor_eq (by assumption) _) ?_))
theorem need_floor_eq {cs : List Cell} (F : Floor cs) (S : Sto) : F_need_floor [.p (.tuple (cs.map eC))] S = some (.p .none, S) := by
  unfold F_need_floor B_need_floor
  refine pure_in rfl rfl ?_
  tm_at "go"
  rfl
local macro_rules | `(tactic| tm_at "call") => `(tactic| ((with_reducible show AP (F_need_floor _ _) _); refine AP.to (need_floor_eq (by assumption) _) ?_))
theorem inA_eq (cs : List Cell) (c : Cell) (S : Sto) : gInA (.p (eC c)) (.p (.tuple (cs.map eC))) S = some (.p (.bool (decide (c ∈ cs))), S) := by
  show gIn (.p (eC c)) (.p (.tuple (cs.map eC))) S = _
  unfold gIn
  rw [in_tup]; rfl
theorem notInA_eq (cs : List Cell) (c : Cell) (S : Sto) : gNotInA (.p (eC c)) (.p (.tuple (cs.map eC))) S = some (.p (.bool (!decide (c ∈ cs))), S) := by
  show gNotIn (.p (eC c)) (.p (.tuple (cs.map eC))) S = _
  unfold gNotIn
  rw [in_tup]; rfl
theorem inA_yes {cs : List Cell} {c : Cell} {S : Sto} (h : c ∈ cs) : gInA (.p (eC c)) (.p (.tuple (cs.map eC))) S = some (.p (.bool true), S) := by rw [inA_eq, decide_eq_true h]
theorem notInA_yes {cs : List Cell} {c : Cell} {S : Sto} (h : c ∈ cs) : gNotInA (.p (eC c)) (.p (.tuple (cs.map eC))) S = some (.p (.bool false), S) := by rw [notInA_eq, decide_eq_true h]; rfl
theorem notInA_no {cs : List Cell} {c : Cell} {S : Sto} (h : c ∉ cs) : gNotInA (.p (eC c)) (.p (.tuple (cs.map eC))) S = some (.p (.bool true), S) := by rw [notInA_eq, decide_eq_false h]; rfl


local macro_rules | `(tactic| tm_at "call") => `(tactic| ((with_reducible show AP (gInA _ _ _) _); refine AP.to (inA_yes (by assumption)) ?_))
local macro_rules | `(tactic| tm_at "call") => `(tactic| ((with_reducible show AP (gNotInA _ _ _) _); refine AP.to (notInA_yes (by assumption)) ?_))
local macro_rules | `(tactic| tm_at "call") => `(tactic| ((with_reducible show AP (gNotInA _ _ _) _); refine AP.to (notInA_no (by assumption)) ?_))
theorem is_cell_of_eq {cs : List Cell} (F : Floor cs) {c : Cell} (hc : c ∈ cs) (S : Sto) : F_is_cell_of [.p (.tuple (cs.map eC)), .p (eC c)] S = some (.p (.bool true), S) := by
  unfold F_is_cell_of B_is_cell_of
  refine pure_in rfl rfl ?_
  tm_at "go"
  rfl
local macro_rules | `(tactic| tm_at "call") => `(tactic| ((with_reducible show AP (F_is_cell_of _ _) _); refine AP.to (is_cell_of_eq (by assumption) (by assumption) _) ?_))
theorem need_cell_eq {cs : List Cell} (F : Floor cs) {c : Cell} (hc : c ∈ cs) (S : Sto) : F_need_cell [.p (.tuple (cs.map eC)), .p (eC c)] S = some (.p .none, S) := by
  unfold F_need_cell B_need_cell
  refine pure_in rfl rfl ?_
  tm_at "go"
  rfl
local macro_rules | `(tactic| tm_at "call") => `(tactic| ((with_reducible show AP (F_need_cell _ _) _); refine AP.to (need_cell_eq (by assumption) (by assumption) _) ?_))
theorem is_lying_eq {l : Ly} (h : l ∈ lyings) (S : Sto) : F_is_lying [.p (eY l)] S = some (.p (.bool true), S) := by
  simp only [lyings, List.mem_cons, List.not_mem_nil, or_false] at h
  rcases h with rfl | rfl | rfl | rfl | rfl | rfl | rfl | rfl | rfl | rfl | rfl | rfl | rfl | rfl | rfl | rfl | rfl | rfl | rfl | rfl | rfl | rfl | rfl | rfl
  all_goals kernel_rfl
local macro_rules | `(tactic| tm_at "call") => `(tactic| ((with_reducible show AP (F_is_lying _ _) _); refine AP.to (is_lying_eq (by assumption) _) ?_))
theorem need_lying_eq {l : Ly} (h : l ∈ lyings) (S : Sto) : F_need_lying [.p (eY l)] S = some (.p .none, S) := by
  unfold F_need_lying B_need_lying
  refine pure_in rfl rfl ?_
  tm_at "go"
  rfl
local macro_rules | `(tactic| tm_at "call") => `(tactic| ((with_reducible show AP (F_need_lying _ _) _); refine AP.to (need_lying_eq (by assumption) _) ?_))
theorem is_letter_eq (d : Dir) (S : Sto) : F_is_letter [.p (eL d)] S = some (.p (.bool true), S) := by
  cases d <;> kernel_rfl
local macro_rules | `(tactic| tm_at "call") => `(tactic| ((with_reducible show AP (F_is_letter _ _) _); refine AP.to (is_letter_eq _ _) ?_))
theorem letter_in (d : Dir) (S : Sto) : gInA (.p (eL d)) (.p (.str (Str.ofString "ensw"))) S = some (.p (.bool true), S) := by
  cases d <;> rfl
local macro_rules | `(tactic| tm_at "call") => `(tactic| ((with_reducible show AP (gInA _ _ _) _); refine AP.to (letter_in _ _) ?_))
/-- a row as a text -/
abbrev eR (w : List Dir) : PyData := .str (rowS w)
theorem row_val {w : List Dir} {S : Sto} (hl : w.length ≤ 1000000) : valI (.p (eR w)) S = some (.its (rowOf (w.map eL)), S) := by
  show (if (rowS w).length ≤ Lim then some (Src.its (rowOf (signs (rowS w))), S) else none) = _
  rw [if_pos (by rw [rowS_len]; unfold Lim; omega), signs_rowS]
theorem row_enum {w : List Dir} {S : Sto} (hl : w.length ≤ 1000000) : enI (.p (eR w)) S = some (.its (numbered (w.map eL)), S) := by
  show (if (rowS w).length ≤ Lim then some (Src.its (numbered (signs (rowS w))), S) else none) = _
  rw [if_pos (by rw [rowS_len]; unfold Lim; omega), signs_rowS]
local macro_rules | `(tactic| tm_at "call") => `(tactic| ((with_reducible show AP (valI _ _) _); refine AP.src (row_val (by omega)) ?_))
local macro_rules | `(tactic| tm_at "call") => `(tactic| ((with_reducible show AP (enI _ _) _); refine AP.src (row_enum (by omega)) ?_))
theorem need_row_eq {w : List Dir} (hw : w.length ≤ 1000000) (S : Sto) : F_need_row [.p (eR w)] S = some (.p .none, S) := by
  unfold F_need_row B_need_row
  refine pure_in rfl rfl ?_
  tm_at "go"
  refine WK.map eL (fun _ => .bool true) w (fun c hc => ?_) ?_
  · tm_at "go"
    exact ⟨rfl, rfl⟩
  · tm_at "go"
    rfl
local macro_rules | `(tactic| tm_at "call") => `(tactic| ((with_reducible show AP (F_need_row _ _) _); refine AP.to (need_row_eq (by omega) _) ?_))
theorem enum_at {α : Type} (enc : α → PyData) (l : List α) : numbered (l.map enc) = l.zipIdx.map fun a => .row [.p (.int (a.2 : Nat)), .p (enc a.1)] := by
  unfold numbered
  rw [List.zipIdx_map, List.map_map]; rfl
theorem off_loop {cs : List Cell} (R : PyData) (Q : Out → Sto → Prop) : ∀ (w : List Dir) (k : Nat) (c : Cell),
    (match offAt cs c w k with
      | some j => Q (.rt (.p (.int (j : Nat)))) []
      | none => Q (.nx [some (.p (.tuple (cs.map eC))), some (.p (eC (goC c w))), some (.p R), none, none]) []) →
    L_off_at_1 ((w.zipIdx k).map fun a => .row [.p (.int (a.2 : Nat)), .p (eL a.1)]) [some (.p (.tuple (cs.map eC))), some (.p (eC c)), some (.p R), none, none] [] Q
  | [], k, c, q => WL.nil q
  | d :: w, k, c, q => by
    refine WL.cons ?_
    by_cases h : stp d c ∈ cs
    · simp only [offAt, if_pos h] at q
      tm_at "go"
      exact off_loop R Q w (k + 1) (stp d c) q
    · simp only [offAt, if_neg h] at q
      tm_at "go"
      exact q
theorem off_at_eq (cs : List Cell) (c : Cell) {w : List Dir} (hw : w.length ≤ 1000000) (S : Sto) : F_off_at [.p (.tuple (cs.map eC)), .p (eC c), .p (eR w)] S = some (.p (offD (offAt cs c w 0)), S) := by
  unfold F_off_at B_off_at
  refine pure_in rfl rfl ?_
  tm_at "go"
  rw [enum_at]
  refine off_loop _ _ w 0 c ?_
  cases h : offAt cs c w 0
  · tm_at "go"
    rfl
  · tm_at "go"
    rfl
theorem off_at_let {cs : List Cell} {c : Cell} {w : List Dir} (hw : w.length ≤ 1000000) (h : Let cs c w) (S : Sto) : F_off_at [.p (.tuple (cs.map eC)), .p (eC c), .p (eR w)] S = some (.p .none, S) := by
  rw [off_at_eq cs c hw, off_let.mpr h]; rfl
local macro_rules | `(tactic| tm_at "call") => `(tactic| ((with_reducible show AP (F_off_at _ _) _); refine AP.to (off_at_eq _ _ (by omega) _) ?_))
local macro_rules | `(tactic| tm_at "call") => `(tactic| ((with_reducible show AP (F_off_at _ _) _); refine AP.to (off_at_let (by omega) (by assumption) _) ?_))
theorem first_off_eq {cs : List Cell} (F : Floor cs) {c : Cell} (hc : c ∈ cs) {w : List Dir} (hw : w.length ≤ 1000000) (S : Sto) : F_first_off [.p (.tuple (cs.map eC)), .p (eC c), .p (eR w)] S = some (.p (offD (offAt cs c w 0)), S) := by
  unfold F_first_off B_first_off
  refine pure_in rfl rfl ?_
  tm_at "go"
  rfl
local macro_rules | `(tactic| tm_at "call") => `(tactic| ((with_reducible show AP (F_first_off _ _) _); refine AP.to (first_off_eq (by assumption) (by assumption) (by omega) _) ?_))
theorem need_let_eq {cs : List Cell} {c : Cell} {w : List Dir} (hw : w.length ≤ 1000000) (h : Let cs c w) (S : Sto) : F_need_let [.p (.tuple (cs.map eC)), .p (eC c), .p (eR w)] S = some (.p .none, S) := by
  unfold F_need_let B_need_let
  refine pure_in rfl rfl ?_
  tm_at "go"
  rfl
local macro_rules | `(tactic| tm_at "call") => `(tactic| ((with_reducible show AP (F_need_let _ _) _); refine AP.to (need_let_eq (by omega) (by assumption) _) ?_))
theorem stand_loop (A B : PyData) (Q : Out → Sto → Prop) : ∀ (w : List Dir) (c : Cell) (l : Ly), Q (.nx [some (.p A), some (.p B), some (.p (eC (goC c w))), some (.p (eY (goY l w))), none]) [] →
    L_stand_by_1 (w.map fun d => .one (.p (eL d))) [some (.p A), some (.p B), some (.p (eC c)), some (.p (eY l)), none] [] Q
  | [], c, l, q => WL.nil q
  | d :: w, c, l, q => by
    refine WL.cons ?_
    tm_at "go"
    exact stand_loop A B Q w (stp d c) (roll d l) q
theorem stand_by_eq (c : Cell) (l : Ly) {w : List Dir} (hw : w.length ≤ 1000000) (S : Sto) : F_stand_by [.p (eSt c l), .p (eR w)] S = some (.p (eSt (goC c w) (goY l w)), S) := by
  unfold F_stand_by B_stand_by
  refine pure_in rfl rfl ?_
  tm_at "go"
  rw [rowOf_map]
  refine stand_loop _ _ _ w c l ?_
  tm_at "go"
  rfl
local macro_rules | `(tactic| tm_at "call") => `(tactic| ((with_reducible show AP (F_stand_by _ _) _); refine AP.to (stand_by_eq _ _ (by omega) _) ?_))
theorem stand_behind_eq {cs : List Cell} (F : Floor cs) {c : Cell} (hc : c ∈ cs) {l : Ly} (hl : l ∈ lyings) {w : List Dir} (hw : w.length ≤ 1000000) (h : Let cs c w) (S : Sto) :
    F_stand_behind [.p (.tuple (cs.map eC)), .p (eC c), .p (eY l), .p (eR w)] S = some (.p (eSt (goC c w) (goY l w)), S) := by
  unfold F_stand_behind B_stand_behind
  refine pure_in rfl rfl ?_
  tm_at "go"
  rfl
local macro_rules | `(tactic| tm_at "call") => `(tactic| ((with_reducible show AP (F_stand_behind _ _) _); refine AP.to (stand_behind_eq (by assumption) (by assumption) (by assumption) (by omega) (by assumption) _) ?_))
theorem is_stand_eq {cs : List Cell} (F : Floor cs) {c : Cell} (hc : c ∈ cs) {l : Ly} (hl : l ∈ lyings) (S : Sto) : F_is_stand [.p (.tuple (cs.map eC)), .p (eSt c l)] S = some (.p (.bool true), S) := by
  unfold F_is_stand B_is_stand
  refine pure_in rfl rfl ?_
  tm_at "go"
  rfl
local macro_rules | `(tactic| tm_at "call") => `(tactic| ((with_reducible show AP (F_is_stand _ _) _); refine AP.to (is_stand_eq (by assumption) (by assumption) (by assumption) _) ?_))
theorem need_stand_eq {cs : List Cell} (F : Floor cs) {c : Cell} (hc : c ∈ cs) {l : Ly} (hl : l ∈ lyings) (S : Sto) : F_need_stand [.p (.tuple (cs.map eC)), .p (eSt c l)] S = some (.p .none, S) := by
  unfold F_need_stand B_need_stand
  refine pure_in rfl rfl ?_
  tm_at "go"
  rfl
local macro_rules | `(tactic| tm_at "call") => `(tactic| ((with_reducible show AP (F_need_stand _ _) _); refine AP.to (need_stand_eq (by assumption) (by assumption) (by assumption) _) ?_))
end Tm.Pg
namespace Tm.Pg
open PySem Tm
local macro_rules | `(tactic| tm_at "w") => `(tactic| conv => whnf)
local macro_rules | `(tactic| tm_at "go1") => `(tactic| first | tm_at "call" | refine AP.of rfl ?_ | refine BR.T rfl ?_ | refine BR.F rfl ?_ | refine AS.of rfl ?_ | refine AP.src rfl ?_)
local macro_rules | `(tactic| tm_at "go") => `(tactic| ((conv => whnf); repeat (tm_at "go1"; conv => whnf)))
local macro_rules | `(tactic| tm_at "call") => `(tactic| fail)
local macro_rules | `(tactic| tm_at "call") => `(tactic| ((with_reducible show AP (gMod _ _ _) _); refine AP.to (mod_eq (by omega)) ?_))
local macro_rules | `(tactic| tm_at "call") => `(tactic| ((with_reducible show AP (gDiv _ _ _) _); refine AP.to (div_eq (by omega) (by omega)) ?_))
local macro_rules | `(tactic| tm_at "call") => `(tactic| ((with_reducible show AP (gMulX _ _ _) _); refine AP.to (mul_eqL (by omega) (by omega)) ?_))
local macro_rules | `(tactic| tm_at "call") => `(tactic| ((with_reducible show AP (gMulX _ _ _) _); refine AP.to (mul_eqR (by omega) (by omega)) ?_))
local macro_rules | `(tactic| tm_at "call") => `(tactic| ((with_reducible show AP (r1I _ _) _); refine AP.src (r1_eq (by omega) (by omega)) ?_))
local macro_rules | `(tactic| tm_at "call") => `(tactic| ((with_reducible show AP (gInA _ _ _) _); refine AP.to (in_t2) ?_))
local macro_rules | `(tactic| tm_at "call") => `(tactic| ((with_reducible show AP (gNotInA _ _ _) _); refine AP.to (notin_t2) ?_))
local macro_rules | `(tactic| tm_at "call") => `(tactic| ((with_reducible show AP (gInA _ _ _) _); refine AP.to (in_l2) ?_))
local macro_rules | `(tactic| tm_at "call") => `(tactic| ((with_reducible show AP (gNotInA _ _ _) _); refine AP.to (notin_l2) ?_))
local macro_rules | `(tactic| tm_at "call") => `(tactic| ((with_reducible show AP (gInA _ _ _) _); refine AP.to (in_r2 rfl) ?_))
local macro_rules | `(tactic| tm_at "call") => `(tactic| ((with_reducible show AP (gNotInA _ _ _) _); refine AP.to (notin_r2 rfl) ?_))
local macro_rules | `(tactic| tm_at "call") => `(tactic| ((with_reducible show AP (gInA _ _ _) _); refine AP.to (in_t _ _ _) ?_))
local macro_rules | `(tactic| tm_at "call") => `(tactic| ((with_reducible show AP (gNotInA _ _ _) _); refine AP.to (notin_t _ _ _) ?_))
local macro_rules | `(tactic| tm_at "call") => `(tactic| ((with_reducible show AP (gInA _ _ _) _); refine AP.to (in_l _ _ _) ?_))
local macro_rules | `(tactic| tm_at "call") => `(tactic| ((with_reducible show AP (gNotInA _ _ _) _); refine AP.to (notin_l _ _ _) ?_))
local macro_rules | `(tactic| tm_at "call") => `(tactic| ((with_reducible show AP (gInA _ _ _) _); refine AP.to (in_r rfl) ?_))
local macro_rules | `(tactic| tm_at "call") => `(tactic| ((with_reducible show AP (gNotInA _ _ _) _); refine AP.to (notin_r rfl) ?_))
local macro_rules | `(tactic| tm_at "call") => `(tactic| ((with_reducible show AP (gIxA (.p (.str (Str.ofString "ensw"))) _ _) _); (refine letter_ap (by omega) (by omega) ?_; intro d)))
local macro_rules | `(tactic| tm_at "call") => `(tactic| ((with_reducible show AP (gAdd (.p (.tuple _)) _ _) _); refine AP.to (addT_eq (by first | (simp <;> omega) | omega)) ?_))
local macro_rules | `(tactic| tm_at "call") => `(tactic| ((with_reducible show AP (gAdd (.p (.list _)) _ _) _); refine AP.to (addL_eq (by first | (simp <;> omega) | omega)) ?_))
local macro_rules | `(tactic| tm_at "call") => `(tactic| ((with_reducible show AP (gEq (.p (eC _)) _ _) _); refine AP.to (eq_cell _ _ _) ?_))
local macro_rules | `(tactic| tm_at "call") => `(tactic| ((with_reducible show AP (gNe (.p (eC _)) _ _) _); refine AP.to (ne_cell _ _ _) ?_))
local macro_rules | `(tactic| tm_at "call") => `(tactic| ((with_reducible show AP (gIxA (.p (.tuple (_ ++ [_]))) _ _) _); refine AP.to (ixT_last) ?_))
local macro_rules | `(tactic| tm_at "call") => `(tactic| ((with_reducible show AP (gSortedX _ _) _); refine AP.to (sorted_cells rfl) ?_))
local macro_rules | `(tactic| tm_at "call") => `(tactic| ((with_reducible show AP (valI (.p (.str (Str.ofString "ensw"))) _) _); refine AP.src (ensw_val _) ?_))
local macro_rules | `(tactic| tm_at "call") => `(tactic| ((with_reducible show AP (gNe (.p (.list _)) (.p (.list [])) _) _); refine AP.to (ne_nil (shaped_ints _ _)) ?_))
local macro_rules | `(tactic| tm_at "call") => `(tactic| ((with_reducible show AP (gAppend (.r _) _ _) _); refine AP.of (append_eq rfl (by first | (simp <;> omega) | omega)) ?_))
local macro_rules | `(tactic| tm_at "call") => `(tactic| ((with_reducible show AP (gIxA (.p (.tuple (List.map _ _))) _ _) _); (refine ixT_ap (by omega) (by omega) ?_; intro a ha)))
local macro_rules | `(tactic| tm_at "call") => `(tactic| ((with_reducible show AP (gIxA (.p (.list (List.map _ _))) _ _) _); (refine ixL_ap (by omega) (by omega) ?_; intro a ha)))
local macro_rules | `(tactic| tm_at "nt1") => `(tactic| first | assumption | exact Nt.non | exact Nt.bool _ | exact nt_floor (by assumption) | exact nt_stand (by assumption) (by assumption) (by assumption) | exact nt_pair (by assumption) (by assumption) | exact nt_turns (by omega) | exact nt_cell (Floor.range (by assumption) _ (by assumption)) | exact nt_ly (by assumption) | exact nt_row (n := 100) (by omega) | exact nt_range (by omega) | exact NtA.nil' | apply Nt.tup | apply Nt.lst | apply NtA.cons')
local macro_rules | `(tactic| tm_at "nt") => `(tactic| repeat' tm_at "nt1")
local macro_rules | `(tactic| tm_at "call") => `(tactic| ((with_reducible show AP (gRepr [.p _] _) _); refine AP.to (repr_nt (by tm_at "nt") (by decide) (by decide)) ?_))
local macro_rules | `(tactic| tm_at "call") => `(tactic| ((with_reducible show AP (gNe (.p (.str _)) (.p (.str _)) _) _); refine AP.to (ne_same _ _) ?_))
local macro_rules | `(tactic| tm_at "call") => `(tactic| ((with_reducible show AP (r1I _ _) _); refine AP.src (r1_eq (by first | (split <;> split <;> omega) | omega) (by first | (split <;> split <;> omega) | omega)) ?_))
local macro_rules | `(tactic| tm_at "call") => `(tactic| ((with_reducible show AP (gSl (.p (.tuple (List.map _ _))) none (some _) _) _); refine AP.to (slT_take (by omega)) ?_))
local macro_rules | `(tactic| tm_at "call") => `(tactic| ((with_reducible show AP (gSl (.p (.tuple (List.map _ _))) (some _) none _) _); refine AP.to (slT_drop (by omega)) ?_))
local macro_rules | `(tactic| tm_at "call") => `(tactic| ((with_reducible show AP (gEq (.p (.int _)) (.p (.int _)) _) _); refine AP.to (eq_int _ _ _) ?_))
local macro_rules | `(tactic| tm_at "call") => `(tactic| ((with_reducible show AP (gNe (.p (.int _)) (.p (.int _)) _) _); refine AP.to (ne_int _ _ _) ?_))
local macro_rules | `(tactic| tm_at "call") => `(tactic| ((with_reducible show AP (gIxA (.r _) _ _) _); (refine ixR_ap rfl (by omega) (by first | omega | (simp <;> omega) | omega) ?_; intro a ha)))
local macro_rules | `(tactic| tm_at "call") => `(tactic| ((with_reducible show AS (fSetA (.r _) _ _ _) _); refine AS.of (setR_eq rfl (by omega) (by first | omega | (simp <;> omega) | omega)) ?_))
local macro_rules | `(tactic| tm_at "call") => `(tactic| ((with_reducible show AP (gIndexT _ [.p (eC _)] _) _); refine AP.to (index_cell (by assumption)) ?_))
local macro_rules | `(tactic| tm_at "call") => `(tactic| ((with_reducible show AP (rngD 0 _ _) _); refine AP.to (rng0_eq (by omega) (by omega)) ?_))
local macro_rules | `(tactic| tm_at "call") => `(tactic| ((with_reducible show AP (rngD 1 _ _) _); refine AP.to (rng1_eq (by omega) (by omega)) ?_))
local macro_rules | `(tactic| tm_at "call") => `(tactic| ((with_reducible show AP (rngD 2 _ _) _); refine AP.of (rng2_eq (by omega) (by omega)) ?_))
local macro_rules | `(tactic| tm_at "call") => `(tactic| ((with_reducible show AP (gJoin (.p (.str (Str.ofString ""))) _ _) _); refine AP.to (join_row (by first | omega | (simp <;> omega) | omega) _) ?_))
local macro_rules | `(tactic| tm_at "call") => `(tactic| ((with_reducible show AP (gAdd (.p (.str (rowS _))) _ _) _); refine AP.to (add_row (by first | omega | (simp <;> omega) | omega) (by first | omega | (simp <;> omega) | omega) _) ?_))
local macro_rules | `(tactic| tm_at "call") => `(tactic| ((with_reducible show AP (gLen [.p (.str (rowS _))] _) _); refine AP.to (len_row (by first | omega | (simp <;> omega) | omega) _) ?_))
local macro_rules | `(tactic| tm_at "call") => `(tactic| ((with_reducible show AP (gSl (.p (.str (rowS _))) none (some _) _) _); refine AP.to (cut_rowI (by omega) (by omega) _) ?_))
local macro_rules | `(tactic| tm_at "call") => `(tactic| ((with_reducible show AP (gSl (.p (.str (rowS _))) (some _) none _) _); refine AP.to (cutD_row (by omega) (by omega) _) ?_))
local macro_rules | `(tactic| tm_at "call") => `(tactic| ((with_reducible show AP (gRev (.p (.str (rowS _))) _) _); refine AP.to (rev_row (by omega) _) ?_))
local macro_rules | `(tactic| tm_at "call") => `(tactic| ((with_reducible show AP (gIxA (.p (.str (rowS (_ ++ [_])))) _ _) _); refine AP.to (last_row (by first | omega | (simp <;> omega) | omega) _ _) ?_))
local macro_rules | `(tactic| tm_at "call") => `(tactic| ((with_reducible show AP (F_beside _ _) _); refine AP.to (beside_eq _ _ _) ?_))
local macro_rules | `(tactic| tm_at "call") => `(tactic| ((with_reducible show AP (F_rolled _ _) _); refine AP.to (rolled_eq _ _ _) ?_))
local macro_rules | `(tactic| tm_at "call") => `(tactic| ((with_reducible show AP (F_are_some _ _) _); refine AP.to (are_some_eq _ _ _ _) ?_))
local macro_rules | `(tactic| tm_at "call") => `(tactic| ((with_reducible show AP (F_are_some _ _) _); refine AP.to (are_some_yes _ (by first | omega | (simp <;> omega) | omega) (by first | omega | (simp <;> omega) | omega)) ?_))
local macro_rules | `(tactic| tm_at "call") => `(tactic| ((with_reducible show AP (F_is_cell _ _) _); refine AP.to (is_cell_eq (by first | assumption | exact Floor.range ‹_› _ ‹_›) _) ?_))
local macro_rules | `(tactic| tm_at "call") => `(tactic| ((with_reducible show AP (gAll _ _) _); refine AP.to (bools_all _ _ _) ?_))
local macro_rules | `(tactic| tm_at "call") => `(tactic| ((with_reducible show AP (gAll _ _) _); refine AP.to (all_true _ _) ?_))
local macro_rules | `(tactic| tm_at "call") => `(tactic| ((with_reducible show AP (gLess _ _ _) _); refine AP.to (less_cell _ _ _) ?_))
local macro_rules | `(tactic| tm_at "call") => `(tactic| ((with_reducible show AP (F_rises _ _) _); refine AP.to (rises_eq (by first | assumption | exact Floor.rises ‹_›) _) ?_))
local macro_rules | `(tactic| tm_at "call") => `(tactic| ((with_reducible show AP (F_is_floor _ _) _); refine AP.to (is_floor_eq (by assumption) _) ?_))
local macro_rules | `(tactic| tm_at "call") => `(tactic| ((with_reducible show AP (F_need_floor _ _) _); refine AP.to (need_floor_eq (by assumption) _) ?_))
local macro_rules | `(tactic| tm_at "call") => `(tactic| ((with_reducible show AP (gInA _ _ _) _); refine AP.to (inA_yes (by assumption)) ?_))
local macro_rules | `(tactic| tm_at "call") => `(tactic| ((with_reducible show AP (gNotInA _ _ _) _); refine AP.to (notInA_yes (by assumption)) ?_))
local macro_rules | `(tactic| tm_at "call") => `(tactic| ((with_reducible show AP (gNotInA _ _ _) _); refine AP.to (notInA_no (by assumption)) ?_))
local macro_rules | `(tactic| tm_at "call") => `(tactic| ((with_reducible show AP (F_is_cell_of _ _) _); refine AP.to (is_cell_of_eq (by assumption) (by assumption) _) ?_))
local macro_rules | `(tactic| tm_at "call") => `(tactic| ((with_reducible show AP (F_need_cell _ _) _); refine AP.to (need_cell_eq (by assumption) (by assumption) _) ?_))
local macro_rules | `(tactic| tm_at "call") => `(tactic| ((with_reducible show AP (F_is_lying _ _) _); refine AP.to (is_lying_eq (by assumption) _) ?_))
local macro_rules | `(tactic| tm_at "call") => `(tactic| ((with_reducible show AP (F_need_lying _ _) _); refine AP.to (need_lying_eq (by assumption) _) ?_))
local macro_rules | `(tactic| tm_at "call") => `(tactic| ((with_reducible show AP (F_is_letter _ _) _); refine AP.to (is_letter_eq _ _) ?_))
local macro_rules | `(tactic| tm_at "call") => `(tactic| ((with_reducible show AP (gInA _ _ _) _); refine AP.to (letter_in _ _) ?_))
local macro_rules | `(tactic| tm_at "call") => `(tactic| ((with_reducible show AP (valI _ _) _); refine AP.src (row_val (by omega)) ?_))
local macro_rules | `(tactic| tm_at "call") => `(tactic| ((with_reducible show AP (enI _ _) _); refine AP.src (row_enum (by omega)) ?_))
local macro_rules | `(tactic| tm_at "call") => `(tactic| ((with_reducible show AP (F_need_row _ _) _); refine AP.to (need_row_eq (by omega) _) ?_))
local macro_rules | `(tactic| tm_at "call") => `(tactic| ((with_reducible show AP (F_off_at _ _) _); refine AP.to (off_at_eq _ _ (by omega) _) ?_))
local macro_rules | `(tactic| tm_at "call") => `(tactic| ((with_reducible show AP (F_off_at _ _) _); refine AP.to (off_at_let (by omega) (by assumption) _) ?_))
local macro_rules | `(tactic| tm_at "call") => `(tactic| ((with_reducible show AP (F_first_off _ _) _); refine AP.to (first_off_eq (by assumption) (by assumption) (by omega) _) ?_))
local macro_rules | `(tactic| tm_at "call") => `(tactic| ((with_reducible show AP (F_need_let _ _) _); refine AP.to (need_let_eq (by omega) (by assumption) _) ?_))
local macro_rules | `(tactic| tm_at "call") => `(tactic| ((with_reducible show AP (F_stand_by _ _) _); refine AP.to (stand_by_eq _ _ (by omega) _) ?_))
local macro_rules | `(tactic| tm_at "call") => `(tactic| ((with_reducible show AP (F_stand_behind _ _) _); refine AP.to (stand_behind_eq (by assumption) (by assumption) (by assumption) (by omega) (by assumption) _) ?_))
local macro_rules | `(tactic| tm_at "call") => `(tactic| ((with_reducible show AP (F_is_stand _ _) _); refine AP.to (is_stand_eq (by assumption) (by assumption) (by assumption) _) ?_))
local macro_rules | `(tactic| tm_at "call") => `(tactic| ((with_reducible show AP (F_need_stand _ _) _); refine AP.to (need_stand_eq (by assumption) (by assumption) (by assumption) _) ?_))
/-! ## marks.py -/
theorem turned_round_eq {q : List Nat} (hl : q.length ≤ 1000) (hq : ∀ s, s < q.length → s ∈ q) (S : Sto) : F_turned_round [.p (eN q)] S = some (.p (eN (invL q)), S) := by
  unfold F_turned_round B_turned_round
  refine pure_in rfl rfl ?_
  have hm : (q.map iN).length = q.length := List.length_map _
  tm_at "go"
  rw [range_iN]
  refine WK.map iN (fun s => iN (q.idxOf s)) _ (fun s hs => ?_) ?_
  · have hs' : s ∈ q := hq s (by have := List.mem_range.mp hs; omega)
    tm_at "go"
    refine AP.to (index_natT hs') ?_
    tm_at "go"
    exact ⟨rfl, rfl⟩
  · tm_at "go"
    simp only [rtV, invL, eN, List.map_map, hm]
    rfl
theorem turned_round_r {q : List Nat} (hl : q.length ≤ 1000) (hq : ∀ s, s < q.length → s ∈ q) {k : Nat} {S : Sto} {Q : D → Sto → Prop} (hk : S[k]? = some (.lst (q.map iN))) (h : nrmS (S.set k (.lst (q.map iN))) fun S' => Q (.p (eN (invL q))) S') : AP (F_turned_round [.r k] S) Q := by
  have hp : PenOk B_turned_round [] (.lst (q.map iN)) fun x p' => x = eN (invL q) ∧ p' = .lst (q.map iN) := by
    refine pen_in rfl ?_
    have hm : (q.map iN).length = q.length := List.length_map _
    tm_at "go"
    rw [range_iN]
    refine WK.map iN (fun s => iN (q.idxOf s)) _ (fun s hs => ?_) ?_
    · have hs' : s ∈ q := hq s (by have := List.mem_range.mp hs; omega)
      tm_at "go"
      refine AP.to (index_natR rfl hs') ?_
      tm_at "go"
      exact ⟨rfl, rfl⟩
    · tm_at "go"
      refine ⟨?_, rfl⟩
      simp only [invL, eN, List.map_map, hm]
      rfl
  unfold F_turned_round
  exact pen_ap hp hk rfl fun x p' ⟨e1, e2⟩ => by subst e1; subst e2; exact h
theorem traded_loop {cs : List Cell} (A B C : PyData) (Q : Out → Sto → Prop) : ∀ (w : List Dir) (c : Cell) (l : Ly) (m : List Nat), l ∈ lyings → Let cs c w → m.length = 6 + cs.length →
    Q (.nx [some (.p (.tuple (cs.map eC))), some (.p A), some (.p B), some (.p C), some (.r 0), some (.p (eC (goC c w))), some (.p (eY (goY l w))), none, none, none]) [.lst ((swaps (swR cs c l w) m).map iN)] →
    L_traded_1 (w.map fun d => .one (.p (eL d))) [some (.p (.tuple (cs.map eC))), some (.p A), some (.p B), some (.p C), some (.r 0), some (.p (eC c)), some (.p (eY l)), none, none, none] [.lst (m.map iN)] Q
  | [], c, l, m, _, _, _, q => WL.nil q
  | d :: w, c, l, m, hl, hw, hm, q => by
    have hc := hw.1
    have hi := List.idxOf_lt_length_of_mem hc
    have hl' := roll_mem l hl d
    have hlo := (ly_range _ hl').1
    refine WL.cons ?_
    tm_at "go"
    rename_i x hx y hy
    have e : swapL (6 + cs.idxOf (stp d c)) (roll d l).1.toNat m = (m.set (6 + (cs.idxOf (stp d c) : Int)).toNat x).set (roll d l).1.toNat y := by
      have e1 : (6 + (cs.idxOf (stp d c) : Int)).toNat = 6 + cs.idxOf (stp d c) := by omega
      rw [e1] at hy ⊢
      exact swapL_of hy hx
    rw [← e]
    exact traded_loop A B C Q w (stp d c) (roll d l) _ hl' hw.2 (by rw [swapL_len]; exact hm) q
theorem traded_eq {cs : List Cell} {c : Cell} {l : Ly} {w : List Dir} {m : List Nat} (hl : l ∈ lyings) (hw : Let cs c w) (hn : w.length ≤ 1000000) (hm : m.length = 6 + cs.length) (S : Sto) :
    F_traded [.p (.tuple (cs.map eC)), .p (eSt c l), .p (eR w), .p (eN m)] S = some (.p (eN (swaps (swR cs c l w) m)), S) := by
  unfold F_traded B_traded
  refine pure_in rfl rfl ?_
  tm_at "go"
  rw [rowOf_map]
  refine traded_loop _ _ _ _ w c l m hl hw hm ?_
  tm_at "go"
  rfl
local macro_rules | `(tactic| tm_at "call") => `(tactic| ((with_reducible show AP (F_traded _ _) _); refine AP.to (traded_eq (by assumption) (by assumption) (by omega) (by first | omega | (simp <;> omega) | omega) _) ?_))
end Tm.Pg
namespace Tm.Pg
open PySem Tm
local macro_rules | `(tactic| tm_at "w") => `(tactic| conv => whnf)
local macro_rules | `(tactic| tm_at "go1") => `(tactic| first | tm_at "call" | refine AP.of rfl ?_ | refine BR.T rfl ?_ | refine BR.F rfl ?_ | refine AS.of rfl ?_ | refine AP.src rfl ?_)
local macro_rules | `(tactic| tm_at "go") => `(tactic| ((conv => whnf); repeat (tm_at "go1"; conv => whnf)))
local macro_rules | `(tactic| tm_at "call") => `(tactic| fail)
local macro_rules | `(tactic| tm_at "call") => `(tactic| ((with_reducible show AP (gMod _ _ _) _); refine AP.to (mod_eq (by omega)) ?_))
local macro_rules | `(tactic| tm_at "call") => `(tactic| ((with_reducible show AP (gDiv _ _ _) _); refine AP.to (div_eq (by omega) (by omega)) ?_))
local macro_rules | `(tactic| tm_at "call") => `(tactic| ((with_reducible show AP (gMulX _ _ _) _); refine AP.to (mul_eqL (by omega) (by omega)) ?_))
local macro_rules | `(tactic| tm_at "call") => `(tactic| ((with_reducible show AP (gMulX _ _ _) _); refine AP.to (mul_eqR (by omega) (by omega)) ?_))
local macro_rules | `(tactic| tm_at "call") => `(tactic| ((with_reducible show AP (r1I _ _) _); refine AP.src (r1_eq (by omega) (by omega)) ?_))
local macro_rules | `(tactic| tm_at "call") => `(tactic| ((with_reducible show AP (gInA _ _ _) _); refine AP.to (in_t2) ?_))
local macro_rules | `(tactic| tm_at "call") => `(tactic| ((with_reducible show AP (gNotInA _ _ _) _); refine AP.to (notin_t2) ?_))
local macro_rules | `(tactic| tm_at "call") => `(tactic| ((with_reducible show AP (gInA _ _ _) _); refine AP.to (in_l2) ?_))
local macro_rules | `(tactic| tm_at "call") => `(tactic| ((with_reducible show AP (gNotInA _ _ _) _); refine AP.to (notin_l2) ?_))
local macro_rules | `(tactic| tm_at "call") => `(tactic| ((with_reducible show AP (gInA _ _ _) _); refine AP.to (in_r2 rfl) ?_))
local macro_rules | `(tactic| tm_at "call") => `(tactic| ((with_reducible show AP (gNotInA _ _ _) _); refine AP.to (notin_r2 rfl) ?_))
local macro_rules | `(tactic| tm_at "call") => `(tactic| ((with_reducible show AP (gInA _ _ _) _); refine AP.to (in_t _ _ _) ?_))
local macro_rules | `(tactic| tm_at "call") => `(tactic| ((with_reducible show AP (gNotInA _ _ _) _); refine AP.to (notin_t _ _ _) ?_))
local macro_rules | `(tactic| tm_at "call") => `(tactic| ((with_reducible show AP (gInA _ _ _) _); refine AP.to (in_l _ _ _) ?_))
local macro_rules | `(tactic| tm_at "call") => `(tactic| ((with_reducible show AP (gNotInA _ _ _) _); refine AP.to (notin_l _ _ _) ?_))
local macro_rules | `(tactic| tm_at "call") => `(tactic| ((with_reducible show AP (gInA _ _ _) _); refine AP.to (in_r rfl) ?_))
local macro_rules | `(tactic| tm_at "call") => `(tactic| ((with_reducible show AP (gNotInA _ _ _) _); refine AP.to (notin_r rfl) ?_))
local macro_rules | `(tactic| tm_at "call") => `(tactic| ((with_reducible show AP (gIxA (.p (.str (Str.ofString "ensw"))) _ _) _); (refine letter_ap (by omega) (by omega) ?_; intro d)))
local macro_rules | `(tactic| tm_at "call") => `(tactic| ((with_reducible show AP (gAdd (.p (.tuple _)) _ _) _); refine AP.to (addT_eq (by first | (simp <;> omega) | omega)) ?_))
local macro_rules | `(tactic| tm_at "call") => `(tactic| ((with_reducible show AP (gAdd (.p (.list _)) _ _) _); refine AP.to (addL_eq (by first | (simp <;> omega) | omega)) ?_))
local macro_rules | `(tactic| tm_at "call") => `(tactic| ((with_reducible show AP (gEq (.p (eC _)) _ _) _); refine AP.to (eq_cell _ _ _) ?_))
local macro_rules | `(tactic| tm_at "call") => `(tactic| ((with_reducible show AP (gNe (.p (eC _)) _ _) _); refine AP.to (ne_cell _ _ _) ?_))
local macro_rules | `(tactic| tm_at "call") => `(tactic| ((with_reducible show AP (gIxA (.p (.tuple (_ ++ [_]))) _ _) _); refine AP.to (ixT_last) ?_))
local macro_rules | `(tactic| tm_at "call") => `(tactic| ((with_reducible show AP (gSortedX _ _) _); refine AP.to (sorted_cells rfl) ?_))
local macro_rules | `(tactic| tm_at "call") => `(tactic| ((with_reducible show AP (valI (.p (.str (Str.ofString "ensw"))) _) _); refine AP.src (ensw_val _) ?_))
local macro_rules | `(tactic| tm_at "call") => `(tactic| ((with_reducible show AP (gNe (.p (.list _)) (.p (.list [])) _) _); refine AP.to (ne_nil (shaped_ints _ _)) ?_))
local macro_rules | `(tactic| tm_at "call") => `(tactic| ((with_reducible show AP (gAppend (.r _) _ _) _); refine AP.of (append_eq rfl (by first | (simp <;> omega) | omega)) ?_))
local macro_rules | `(tactic| tm_at "call") => `(tactic| ((with_reducible show AP (gIxA (.p (.tuple (List.map _ _))) _ _) _); (refine ixT_ap (by omega) (by omega) ?_; intro a ha)))
local macro_rules | `(tactic| tm_at "call") => `(tactic| ((with_reducible show AP (gIxA (.p (.list (List.map _ _))) _ _) _); (refine ixL_ap (by omega) (by omega) ?_; intro a ha)))
local macro_rules | `(tactic| tm_at "nt1") => `(tactic| first | assumption | exact Nt.non | exact Nt.bool _ | exact nt_floor (by assumption) | exact nt_stand (by assumption) (by assumption) (by assumption) | exact nt_pair (by assumption) (by assumption) | exact nt_turns (by omega) | exact nt_cell (Floor.range (by assumption) _ (by assumption)) | exact nt_ly (by assumption) | exact nt_row (n := 100) (by omega) | exact nt_range (by omega) | exact NtA.nil' | apply Nt.tup | apply Nt.lst | apply NtA.cons')
local macro_rules | `(tactic| tm_at "nt") => `(tactic| repeat' tm_at "nt1")
local macro_rules | `(tactic| tm_at "call") => `(tactic| ((with_reducible show AP (gRepr [.p _] _) _); refine AP.to (repr_nt (by tm_at "nt") (by decide) (by decide)) ?_))
local macro_rules | `(tactic| tm_at "call") => `(tactic| ((with_reducible show AP (gNe (.p (.str _)) (.p (.str _)) _) _); refine AP.to (ne_same _ _) ?_))
local macro_rules | `(tactic| tm_at "call") => `(tactic| ((with_reducible show AP (r1I _ _) _); refine AP.src (r1_eq (by first | (split <;> split <;> omega) | omega) (by first | (split <;> split <;> omega) | omega)) ?_))
local macro_rules | `(tactic| tm_at "call") => `(tactic| ((with_reducible show AP (gSl (.p (.tuple (List.map _ _))) none (some _) _) _); refine AP.to (slT_take (by omega)) ?_))
local macro_rules | `(tactic| tm_at "call") => `(tactic| ((with_reducible show AP (gSl (.p (.tuple (List.map _ _))) (some _) none _) _); refine AP.to (slT_drop (by omega)) ?_))
local macro_rules | `(tactic| tm_at "call") => `(tactic| ((with_reducible show AP (gEq (.p (.int _)) (.p (.int _)) _) _); refine AP.to (eq_int _ _ _) ?_))
local macro_rules | `(tactic| tm_at "call") => `(tactic| ((with_reducible show AP (gNe (.p (.int _)) (.p (.int _)) _) _); refine AP.to (ne_int _ _ _) ?_))
local macro_rules | `(tactic| tm_at "call") => `(tactic| ((with_reducible show AP (gIxA (.r _) _ _) _); (refine ixR_ap rfl (by omega) (by first | omega | (simp <;> omega) | omega) ?_; intro a ha)))
local macro_rules | `(tactic| tm_at "call") => `(tactic| ((with_reducible show AS (fSetA (.r _) _ _ _) _); refine AS.of (setR_eq rfl (by omega) (by first | omega | (simp <;> omega) | omega)) ?_))
local macro_rules | `(tactic| tm_at "call") => `(tactic| ((with_reducible show AP (gIndexT _ [.p (eC _)] _) _); refine AP.to (index_cell (by assumption)) ?_))
local macro_rules | `(tactic| tm_at "call") => `(tactic| ((with_reducible show AP (rngD 0 _ _) _); refine AP.to (rng0_eq (by omega) (by omega)) ?_))
local macro_rules | `(tactic| tm_at "call") => `(tactic| ((with_reducible show AP (rngD 1 _ _) _); refine AP.to (rng1_eq (by omega) (by omega)) ?_))
local macro_rules | `(tactic| tm_at "call") => `(tactic| ((with_reducible show AP (rngD 2 _ _) _); refine AP.of (rng2_eq (by omega) (by omega)) ?_))
local macro_rules | `(tactic| tm_at "call") => `(tactic| ((with_reducible show AP (gJoin (.p (.str (Str.ofString ""))) _ _) _); refine AP.to (join_row (by first | omega | (simp <;> omega) | omega) _) ?_))
local macro_rules | `(tactic| tm_at "call") => `(tactic| ((with_reducible show AP (gAdd (.p (.str (rowS _))) _ _) _); refine AP.to (add_row (by first | omega | (simp <;> omega) | omega) (by first | omega | (simp <;> omega) | omega) _) ?_))
local macro_rules | `(tactic| tm_at "call") => `(tactic| ((with_reducible show AP (gLen [.p (.str (rowS _))] _) _); refine AP.to (len_row (by first | omega | (simp <;> omega) | omega) _) ?_))
local macro_rules | `(tactic| tm_at "call") => `(tactic| ((with_reducible show AP (gSl (.p (.str (rowS _))) none (some _) _) _); refine AP.to (cut_rowI (by omega) (by omega) _) ?_))
local macro_rules | `(tactic| tm_at "call") => `(tactic| ((with_reducible show AP (gSl (.p (.str (rowS _))) (some _) none _) _); refine AP.to (cutD_row (by omega) (by omega) _) ?_))
local macro_rules | `(tactic| tm_at "call") => `(tactic| ((with_reducible show AP (gRev (.p (.str (rowS _))) _) _); refine AP.to (rev_row (by omega) _) ?_))
local macro_rules | `(tactic| tm_at "call") => `(tactic| ((with_reducible show AP (gIxA (.p (.str (rowS (_ ++ [_])))) _ _) _); refine AP.to (last_row (by first | omega | (simp <;> omega) | omega) _ _) ?_))
local macro_rules | `(tactic| tm_at "call") => `(tactic| ((with_reducible show AP (F_beside _ _) _); refine AP.to (beside_eq _ _ _) ?_))
local macro_rules | `(tactic| tm_at "call") => `(tactic| ((with_reducible show AP (F_rolled _ _) _); refine AP.to (rolled_eq _ _ _) ?_))
local macro_rules | `(tactic| tm_at "call") => `(tactic| ((with_reducible show AP (F_are_some _ _) _); refine AP.to (are_some_eq _ _ _ _) ?_))
local macro_rules | `(tactic| tm_at "call") => `(tactic| ((with_reducible show AP (F_are_some _ _) _); refine AP.to (are_some_yes _ (by first | omega | (simp <;> omega) | omega) (by first | omega | (simp <;> omega) | omega)) ?_))
local macro_rules | `(tactic| tm_at "call") => `(tactic| ((with_reducible show AP (F_is_cell _ _) _); refine AP.to (is_cell_eq (by first | assumption | exact Floor.range ‹_› _ ‹_›) _) ?_))
local macro_rules | `(tactic| tm_at "call") => `(tactic| ((with_reducible show AP (gAll _ _) _); refine AP.to (bools_all _ _ _) ?_))
local macro_rules | `(tactic| tm_at "call") => `(tactic| ((with_reducible show AP (gAll _ _) _); refine AP.to (all_true _ _) ?_))
local macro_rules | `(tactic| tm_at "call") => `(tactic| ((with_reducible show AP (gLess _ _ _) _); refine AP.to (less_cell _ _ _) ?_))
local macro_rules | `(tactic| tm_at "call") => `(tactic| ((with_reducible show AP (F_rises _ _) _); refine AP.to (rises_eq (by first | assumption | exact Floor.rises ‹_›) _) ?_))
local macro_rules | `(tactic| tm_at "call") => `(tactic| ((with_reducible show AP (F_is_floor _ _) _); refine AP.to (is_floor_eq (by assumption) _) ?_))
local macro_rules | `(tactic| tm_at "call") => `(tactic| ((with_reducible show AP (F_need_floor _ _) _); refine AP.to (need_floor_eq (by assumption) _) ?_))
local macro_rules | `(tactic| tm_at "call") => `(tactic| ((with_reducible show AP (gInA _ _ _) _); refine AP.to (inA_yes (by assumption)) ?_))
local macro_rules | `(tactic| tm_at "call") => `(tactic| ((with_reducible show AP (gNotInA _ _ _) _); refine AP.to (notInA_yes (by assumption)) ?_))
local macro_rules | `(tactic| tm_at "call") => `(tactic| ((with_reducible show AP (gNotInA _ _ _) _); refine AP.to (notInA_no (by assumption)) ?_))
local macro_rules | `(tactic| tm_at "call") => `(tactic| ((with_reducible show AP (F_is_cell_of _ _) _); refine AP.to (is_cell_of_eq (by assumption) (by assumption) _) ?_))
local macro_rules | `(tactic| tm_at "call") => `(tactic| ((with_reducible show AP (F_need_cell _ _) _); refine AP.to (need_cell_eq (by assumption) (by assumption) _) ?_))
local macro_rules | `(tactic| tm_at "call") => `(tactic| ((with_reducible show AP (F_is_lying _ _) _); refine AP.to (is_lying_eq (by assumption) _) ?_))
local macro_rules | `(tactic| tm_at "call") => `(tactic| ((with_reducible show AP (F_need_lying _ _) _); refine AP.to (need_lying_eq (by assumption) _) ?_))
local macro_rules | `(tactic| tm_at "call") => `(tactic| ((with_reducible show AP (F_is_letter _ _) _); refine AP.to (is_letter_eq _ _) ?_))
local macro_rules | `(tactic| tm_at "call") => `(tactic| ((with_reducible show AP (gInA _ _ _) _); refine AP.to (letter_in _ _) ?_))
local macro_rules | `(tactic| tm_at "call") => `(tactic| ((with_reducible show AP (valI _ _) _); refine AP.src (row_val (by omega)) ?_))
local macro_rules | `(tactic| tm_at "call") => `(tactic| ((with_reducible show AP (enI _ _) _); refine AP.src (row_enum (by omega)) ?_))
local macro_rules | `(tactic| tm_at "call") => `(tactic| ((with_reducible show AP (F_need_row _ _) _); refine AP.to (need_row_eq (by omega) _) ?_))
local macro_rules | `(tactic| tm_at "call") => `(tactic| ((with_reducible show AP (F_off_at _ _) _); refine AP.to (off_at_eq _ _ (by omega) _) ?_))
local macro_rules | `(tactic| tm_at "call") => `(tactic| ((with_reducible show AP (F_off_at _ _) _); refine AP.to (off_at_let (by omega) (by assumption) _) ?_))
local macro_rules | `(tactic| tm_at "call") => `(tactic| ((with_reducible show AP (F_first_off _ _) _); refine AP.to (first_off_eq (by assumption) (by assumption) (by omega) _) ?_))
local macro_rules | `(tactic| tm_at "call") => `(tactic| ((with_reducible show AP (F_need_let _ _) _); refine AP.to (need_let_eq (by omega) (by assumption) _) ?_))
local macro_rules | `(tactic| tm_at "call") => `(tactic| ((with_reducible show AP (F_stand_by _ _) _); refine AP.to (stand_by_eq _ _ (by omega) _) ?_))
local macro_rules | `(tactic| tm_at "call") => `(tactic| ((with_reducible show AP (F_stand_behind _ _) _); refine AP.to (stand_behind_eq (by assumption) (by assumption) (by assumption) (by omega) (by assumption) _) ?_))
local macro_rules | `(tactic| tm_at "call") => `(tactic| ((with_reducible show AP (F_is_stand _ _) _); refine AP.to (is_stand_eq (by assumption) (by assumption) (by assumption) _) ?_))
local macro_rules | `(tactic| tm_at "call") => `(tactic| ((with_reducible show AP (F_need_stand _ _) _); refine AP.to (need_stand_eq (by assumption) (by assumption) (by assumption) _) ?_))
local macro_rules | `(tactic| tm_at "call") => `(tactic| ((with_reducible show AP (F_traded _ _) _); refine AP.to (traded_eq (by assumption) (by assumption) (by omega) (by first | omega | (simp <;> omega) | omega) _) ?_))
/-! ## turned.py -/
theorem need_word_eq (w : Wd) (S : Sto) : F_need_word [.p (eW w)] S = some (.p .none, S) := by cases w <;> kernel_rfl
local macro_rules | `(tactic| tm_at "call") => `(tactic| ((with_reducible show AP (F_need_word _ _) _); refine AP.to (need_word_eq _ _) ?_))
theorem turned_cell_eq (w : Wd) (c : Cell) (S : Sto) : F_turned_cell [.p (eW w), .p (eC c)] S = some (.p (eC (tC w c)), S) := by
  unfold F_turned_cell B_turned_cell
  refine pure_in rfl rfl ?_
  cases w
  all_goals tm_at "go"
  all_goals rfl
local macro_rules | `(tactic| tm_at "call") => `(tactic| ((with_reducible show AP (F_turned_cell _ _) _); refine AP.to (turned_cell_eq _ _ _) ?_))
theorem turned_lying_eq (w : Wd) {l : Ly} (hl : l ∈ lyings) (S : Sto) : F_turned_lying [.p (eW w), .p (eY l)] S = some (.p (eY (tL w l)), S) := by
  simp only [lyings, List.mem_cons, List.not_mem_nil, or_false] at hl
  cases w
  all_goals (rcases hl with rfl | rfl | rfl | rfl | rfl | rfl | rfl | rfl | rfl | rfl | rfl | rfl | rfl | rfl | rfl | rfl | rfl | rfl | rfl | rfl | rfl | rfl | rfl | rfl)
  all_goals kernel_rfl
local macro_rules | `(tactic| tm_at "call") => `(tactic| ((with_reducible show AP (F_turned_lying _ _) _); refine AP.to (turned_lying_eq _ (by assumption) _) ?_))
theorem turned_by_eq (w : Wd) (cs : List Cell) (S : Sto) : F_turned_by [.p (.tuple (cs.map eC)), .p (eW w)] S = some (.p (.tuple ((tF w cs).map eC)), S) := by
  unfold F_turned_by B_turned_by
  refine pure_in rfl rfl ?_
  tm_at "go"
  refine WK.map eC (fun c => eC (tC w c)) cs (fun c hc => ?_) ?_
  · tm_at "go"
    exact ⟨rfl, rfl⟩
  · rw [show cs.map (fun c => eC (tC w c)) = (cs.map (tC w)).map eC by rw [List.map_map]; rfl]
    tm_at "go"
    rfl
local macro_rules | `(tactic| tm_at "call") => `(tactic| ((with_reducible show AP (F_turned_by _ _) _); refine AP.to (turned_by_eq _ _ _) ?_))
theorem turned_floor_eq (w : Wd) {cs : List Cell} (F : Floor cs) (S : Sto) : F_turned_floor [.p (.tuple (cs.map eC)), .p (eW w)] S = some (.p (.tuple ((tF w cs).map eC)), S) := by
  unfold F_turned_floor B_turned_floor
  refine pure_in rfl rfl ?_
  tm_at "go"
  rfl
local macro_rules | `(tactic| tm_at "call") => `(tactic| ((with_reducible show AP (F_turned_floor _ _) _); refine AP.to (turned_floor_eq _ (by assumption) _) ?_))
theorem turned_stand_eq (w : Wd) {cs : List Cell} (F : Floor cs) {c : Cell} (hc : c ∈ cs) {l : Ly} (hl : l ∈ lyings) (S : Sto) : F_turned_stand [.p (.tuple (cs.map eC)), .p (eW w), .p (eSt c l)] S = some (.p (eSt (tC w c) (tL w l)), S) := by
  unfold F_turned_stand B_turned_stand
  refine pure_in rfl rfl ?_
  tm_at "go"
  rfl
local macro_rules | `(tactic| tm_at "call") => `(tactic| ((with_reducible show AP (F_turned_stand _ _) _); refine AP.to (turned_stand_eq _ (by assumption) (by assumption) (by assumption) _) ?_))
theorem turned_row_eq (w : Wd) {r : List Dir} (hr : r.length ≤ 100000) (S : Sto) : F_turned_row [.p (eW w), .p (eR r)] S = some (.p (eR (r.map (tD w))), S) := by
  unfold F_turned_row B_turned_row
  refine pure_in rfl rfl ?_
  cases w
  · tm_at "go"
    refine WK.map eL (fun d => eL (tD .left d)) r (fun d hd => ?_) ?_
    · cases d
      all_goals tm_at "go"
      all_goals exact ⟨rfl, rfl⟩
    · rw [show r.map (fun d => eL (tD .left d)) = (r.map (tD .left)).map eL by rw [List.map_map]; rfl]
      tm_at "go"
      rfl
  · tm_at "go"
    refine WK.map eL (fun d => eL (tD .mirror d)) r (fun d hd => ?_) ?_
    · cases d
      all_goals tm_at "go"
      all_goals exact ⟨rfl, rfl⟩
    · rw [show r.map (fun d => eL (tD .mirror d)) = (r.map (tD .mirror)).map eL by rw [List.map_map]; rfl]
      tm_at "go"
      rfl
local macro_rules | `(tactic| tm_at "call") => `(tactic| ((with_reducible show AP (F_turned_row _ _) _); refine AP.to (turned_row_eq _ (by omega) _) ?_))
theorem turned_spots_eq (w : Wd) {cs : List Cell} (F : Floor cs) (S : Sto) : F_turned_spots [.p (.tuple (cs.map eC)), .p (eW w)] S = some (.p (eN (tSp w cs)), S) := by
  unfold F_turned_spots B_turned_spots
  refine pure_in rfl rfl ?_
  have hF := F.most
  have key : ∀ (ρ : Ev), ρ = [some (.p (.tuple (cs.map eC))), some (.p (eW w)), some (.p (.tuple ((tF w cs).map eC))), some (.p (eN (faceN w))), none] → ∀ c ∈ cs, wG (.nm 4) (.one (.p (eC c))) ρ [] fun ρ1 S1 => wE (.bin .add (.glob (Str.ofString "FACES") (.int (6))) (.idx (.var 2) (.cons (.call (Str.ofString "turned_cell") 2 F_turned_cell (.cons (.var 1) (.cons (.var 4) .nil))) .nil))) ρ1 S1 fun d S2 => d = .p (iN (6 + (tF w cs).idxOf (tC w c))) ∧ S2 = [] := by
    intro ρ hρ c hc
    subst hρ
    have hm : tC w c ∈ tF w cs := tF_mem.mpr hc
    tm_at "go"
    exact ⟨by unfold iN; simp, rfl⟩
  have fin : (faceN w).map iN ++ cs.map (fun c => iN (6 + (tF w cs).idxOf (tC w c))) = (tSp w cs).map iN := by
    unfold tSp
    rw [List.map_append, List.map_map]; rfl
  have hlen : (faceN w).length = 6 := by cases w <;> rfl
  cases w
  · tm_at "go"
    refine WK.map eC (fun c => iN (6 + (tF .left cs).idxOf (tC .left c))) cs (key _ rfl) ?_
    tm_at "go"
    refine congrArg (fun l => some (PyData.tuple l)) fin
  · tm_at "go"
    refine WK.map eC (fun c => iN (6 + (tF .mirror cs).idxOf (tC .mirror c))) cs (key _ rfl) ?_
    tm_at "go"
    refine congrArg (fun l => some (PyData.tuple l)) fin
local macro_rules | `(tactic| tm_at "call") => `(tactic| ((with_reducible show AP (F_turned_spots _ _) _); refine AP.to (turned_spots_eq _ (by assumption) _) ?_))
end Tm.Pg
namespace Tm.Lg
open PySem Tm Tm.Pg
local macro_rules | `(tactic| tm_at "w") => `(tactic| conv => whnf)
local macro_rules | `(tactic| tm_at "go1") => `(tactic| first | tm_at "call" | refine AP.of rfl ?_ | refine BR.T rfl ?_ | refine BR.F rfl ?_ | refine AS.of rfl ?_ | refine AP.src rfl ?_)
local macro_rules | `(tactic| tm_at "go") => `(tactic| ((conv => whnf); repeat (tm_at "go1"; conv => whnf)))
local macro_rules | `(tactic| tm_at "call") => `(tactic| fail)
local macro_rules | `(tactic| tm_at "call") => `(tactic| ((with_reducible show AP (gMod _ _ _) _); refine AP.to (mod_eq (by omega)) ?_))
local macro_rules | `(tactic| tm_at "call") => `(tactic| ((with_reducible show AP (gDiv _ _ _) _); refine AP.to (div_eq (by omega) (by omega)) ?_))
local macro_rules | `(tactic| tm_at "call") => `(tactic| ((with_reducible show AP (gMulX _ _ _) _); refine AP.to (mul_eqL (by omega) (by omega)) ?_))
local macro_rules | `(tactic| tm_at "call") => `(tactic| ((with_reducible show AP (gMulX _ _ _) _); refine AP.to (mul_eqR (by omega) (by omega)) ?_))
local macro_rules | `(tactic| tm_at "call") => `(tactic| ((with_reducible show AP (r1I _ _) _); refine AP.src (r1_eq (by omega) (by omega)) ?_))
local macro_rules | `(tactic| tm_at "call") => `(tactic| ((with_reducible show AP (gInA _ _ _) _); refine AP.to (in_t2) ?_))
local macro_rules | `(tactic| tm_at "call") => `(tactic| ((with_reducible show AP (gNotInA _ _ _) _); refine AP.to (notin_t2) ?_))
local macro_rules | `(tactic| tm_at "call") => `(tactic| ((with_reducible show AP (gInA _ _ _) _); refine AP.to (in_l2) ?_))
local macro_rules | `(tactic| tm_at "call") => `(tactic| ((with_reducible show AP (gNotInA _ _ _) _); refine AP.to (notin_l2) ?_))
local macro_rules | `(tactic| tm_at "call") => `(tactic| ((with_reducible show AP (gInA _ _ _) _); refine AP.to (in_r2 rfl) ?_))
local macro_rules | `(tactic| tm_at "call") => `(tactic| ((with_reducible show AP (gNotInA _ _ _) _); refine AP.to (notin_r2 rfl) ?_))
local macro_rules | `(tactic| tm_at "call") => `(tactic| ((with_reducible show AP (gInA _ _ _) _); refine AP.to (in_t _ _ _) ?_))
local macro_rules | `(tactic| tm_at "call") => `(tactic| ((with_reducible show AP (gNotInA _ _ _) _); refine AP.to (notin_t _ _ _) ?_))
local macro_rules | `(tactic| tm_at "call") => `(tactic| ((with_reducible show AP (gInA _ _ _) _); refine AP.to (in_l _ _ _) ?_))
local macro_rules | `(tactic| tm_at "call") => `(tactic| ((with_reducible show AP (gNotInA _ _ _) _); refine AP.to (notin_l _ _ _) ?_))
local macro_rules | `(tactic| tm_at "call") => `(tactic| ((with_reducible show AP (gInA _ _ _) _); refine AP.to (in_r rfl) ?_))
local macro_rules | `(tactic| tm_at "call") => `(tactic| ((with_reducible show AP (gNotInA _ _ _) _); refine AP.to (notin_r rfl) ?_))
local macro_rules | `(tactic| tm_at "call") => `(tactic| ((with_reducible show AP (gIxA (.p (.str (Str.ofString "ensw"))) _ _) _); (refine letter_ap (by omega) (by omega) ?_; intro d)))
local macro_rules | `(tactic| tm_at "call") => `(tactic| ((with_reducible show AP (gAdd (.p (.tuple _)) _ _) _); refine AP.to (addT_eq (by first | (simp <;> omega) | omega)) ?_))
local macro_rules | `(tactic| tm_at "call") => `(tactic| ((with_reducible show AP (gAdd (.p (.list _)) _ _) _); refine AP.to (addL_eq (by first | (simp <;> omega) | omega)) ?_))
local macro_rules | `(tactic| tm_at "call") => `(tactic| ((with_reducible show AP (gEq (.p (eC _)) _ _) _); refine AP.to (eq_cell _ _ _) ?_))
local macro_rules | `(tactic| tm_at "call") => `(tactic| ((with_reducible show AP (gNe (.p (eC _)) _ _) _); refine AP.to (ne_cell _ _ _) ?_))
local macro_rules | `(tactic| tm_at "call") => `(tactic| ((with_reducible show AP (gIxA (.p (.tuple (_ ++ [_]))) _ _) _); refine AP.to (ixT_last) ?_))
local macro_rules | `(tactic| tm_at "call") => `(tactic| ((with_reducible show AP (gSortedX _ _) _); refine AP.to (sorted_cells rfl) ?_))
local macro_rules | `(tactic| tm_at "call") => `(tactic| ((with_reducible show AP (valI (.p (.str (Str.ofString "ensw"))) _) _); refine AP.src (ensw_val _) ?_))
local macro_rules | `(tactic| tm_at "call") => `(tactic| ((with_reducible show AP (gNe (.p (.list _)) (.p (.list [])) _) _); refine AP.to (ne_nil (shaped_ints _ _)) ?_))
local macro_rules | `(tactic| tm_at "call") => `(tactic| ((with_reducible show AP (gAppend (.r _) _ _) _); refine AP.of (append_eq rfl (by first | (simp <;> omega) | omega)) ?_))
local macro_rules | `(tactic| tm_at "call") => `(tactic| ((with_reducible show AP (gIxA (.p (.tuple (List.map _ _))) _ _) _); (refine ixT_ap (by omega) (by omega) ?_; intro a ha)))
local macro_rules | `(tactic| tm_at "call") => `(tactic| ((with_reducible show AP (gIxA (.p (.list (List.map _ _))) _ _) _); (refine ixL_ap (by omega) (by omega) ?_; intro a ha)))
local macro_rules | `(tactic| tm_at "nt1") => `(tactic| first | assumption | exact Nt.non | exact Nt.bool _ | exact nt_floor (by assumption) | exact nt_stand (by assumption) (by assumption) (by assumption) | exact nt_pair (by assumption) (by assumption) | exact nt_turns (by omega) | exact nt_cell (Floor.range (by assumption) _ (by assumption)) | exact nt_ly (by assumption) | exact nt_row (n := 100) (by omega) | exact nt_range (by omega) | exact NtA.nil' | apply Nt.tup | apply Nt.lst | apply NtA.cons')
local macro_rules | `(tactic| tm_at "nt") => `(tactic| repeat' tm_at "nt1")
local macro_rules | `(tactic| tm_at "call") => `(tactic| ((with_reducible show AP (gRepr [.p _] _) _); refine AP.to (repr_nt (by tm_at "nt") (by decide) (by decide)) ?_))
local macro_rules | `(tactic| tm_at "call") => `(tactic| ((with_reducible show AP (gNe (.p (.str _)) (.p (.str _)) _) _); refine AP.to (ne_same _ _) ?_))
local macro_rules | `(tactic| tm_at "call") => `(tactic| ((with_reducible show AP (r1I _ _) _); refine AP.src (r1_eq (by first | (split <;> split <;> omega) | omega) (by first | (split <;> split <;> omega) | omega)) ?_))
local macro_rules | `(tactic| tm_at "call") => `(tactic| ((with_reducible show AP (gSl (.p (.tuple (List.map _ _))) none (some _) _) _); refine AP.to (slT_take (by omega)) ?_))
local macro_rules | `(tactic| tm_at "call") => `(tactic| ((with_reducible show AP (gSl (.p (.tuple (List.map _ _))) (some _) none _) _); refine AP.to (slT_drop (by omega)) ?_))
local macro_rules | `(tactic| tm_at "call") => `(tactic| ((with_reducible show AP (gEq (.p (.int _)) (.p (.int _)) _) _); refine AP.to (eq_int _ _ _) ?_))
local macro_rules | `(tactic| tm_at "call") => `(tactic| ((with_reducible show AP (gNe (.p (.int _)) (.p (.int _)) _) _); refine AP.to (ne_int _ _ _) ?_))
local macro_rules | `(tactic| tm_at "call") => `(tactic| ((with_reducible show AP (gIxA (.r _) _ _) _); (refine ixR_ap rfl (by omega) (by first | omega | (simp <;> omega) | omega) ?_; intro a ha)))
local macro_rules | `(tactic| tm_at "call") => `(tactic| ((with_reducible show AS (fSetA (.r _) _ _ _) _); refine AS.of (setR_eq rfl (by omega) (by first | omega | (simp <;> omega) | omega)) ?_))
local macro_rules | `(tactic| tm_at "call") => `(tactic| ((with_reducible show AP (gIndexT _ [.p (eC _)] _) _); refine AP.to (index_cell (by assumption)) ?_))
local macro_rules | `(tactic| tm_at "call") => `(tactic| ((with_reducible show AP (rngD 0 _ _) _); refine AP.to (rng0_eq (by omega) (by omega)) ?_))
local macro_rules | `(tactic| tm_at "call") => `(tactic| ((with_reducible show AP (rngD 1 _ _) _); refine AP.to (rng1_eq (by omega) (by omega)) ?_))
local macro_rules | `(tactic| tm_at "call") => `(tactic| ((with_reducible show AP (rngD 2 _ _) _); refine AP.of (rng2_eq (by omega) (by omega)) ?_))
local macro_rules | `(tactic| tm_at "call") => `(tactic| ((with_reducible show AP (gJoin (.p (.str (Str.ofString ""))) _ _) _); refine AP.to (join_row (by first | omega | (simp <;> omega) | omega) _) ?_))
local macro_rules | `(tactic| tm_at "call") => `(tactic| ((with_reducible show AP (gAdd (.p (.str (rowS _))) _ _) _); refine AP.to (add_row (by first | omega | (simp <;> omega) | omega) (by first | omega | (simp <;> omega) | omega) _) ?_))
local macro_rules | `(tactic| tm_at "call") => `(tactic| ((with_reducible show AP (gLen [.p (.str (rowS _))] _) _); refine AP.to (len_row (by first | omega | (simp <;> omega) | omega) _) ?_))
local macro_rules | `(tactic| tm_at "call") => `(tactic| ((with_reducible show AP (gSl (.p (.str (rowS _))) none (some _) _) _); refine AP.to (cut_rowI (by omega) (by omega) _) ?_))
local macro_rules | `(tactic| tm_at "call") => `(tactic| ((with_reducible show AP (gSl (.p (.str (rowS _))) (some _) none _) _); refine AP.to (cutD_row (by omega) (by omega) _) ?_))
local macro_rules | `(tactic| tm_at "call") => `(tactic| ((with_reducible show AP (gRev (.p (.str (rowS _))) _) _); refine AP.to (rev_row (by omega) _) ?_))
local macro_rules | `(tactic| tm_at "call") => `(tactic| ((with_reducible show AP (gIxA (.p (.str (rowS (_ ++ [_])))) _ _) _); refine AP.to (last_row (by first | omega | (simp <;> omega) | omega) _ _) ?_))
local macro_rules | `(tactic| tm_at "call") => `(tactic| ((with_reducible show AP (F_beside _ _) _); refine AP.to (beside_eq _ _ _) ?_))
local macro_rules | `(tactic| tm_at "call") => `(tactic| ((with_reducible show AP (F_rolled _ _) _); refine AP.to (rolled_eq _ _ _) ?_))
local macro_rules | `(tactic| tm_at "call") => `(tactic| ((with_reducible show AP (F_are_some _ _) _); refine AP.to (are_some_eq _ _ _ _) ?_))
local macro_rules | `(tactic| tm_at "call") => `(tactic| ((with_reducible show AP (F_are_some _ _) _); refine AP.to (are_some_yes _ (by first | omega | (simp <;> omega) | omega) (by first | omega | (simp <;> omega) | omega)) ?_))
local macro_rules | `(tactic| tm_at "call") => `(tactic| ((with_reducible show AP (F_is_cell _ _) _); refine AP.to (is_cell_eq (by first | assumption | exact Floor.range ‹_› _ ‹_›) _) ?_))
local macro_rules | `(tactic| tm_at "call") => `(tactic| ((with_reducible show AP (gAll _ _) _); refine AP.to (bools_all _ _ _) ?_))
local macro_rules | `(tactic| tm_at "call") => `(tactic| ((with_reducible show AP (gAll _ _) _); refine AP.to (all_true _ _) ?_))
local macro_rules | `(tactic| tm_at "call") => `(tactic| ((with_reducible show AP (gLess _ _ _) _); refine AP.to (less_cell _ _ _) ?_))
local macro_rules | `(tactic| tm_at "call") => `(tactic| ((with_reducible show AP (F_rises _ _) _); refine AP.to (rises_eq (by first | assumption | exact Floor.rises ‹_›) _) ?_))
local macro_rules | `(tactic| tm_at "call") => `(tactic| ((with_reducible show AP (F_is_floor _ _) _); refine AP.to (is_floor_eq (by assumption) _) ?_))
local macro_rules | `(tactic| tm_at "call") => `(tactic| ((with_reducible show AP (F_need_floor _ _) _); refine AP.to (need_floor_eq (by assumption) _) ?_))
local macro_rules | `(tactic| tm_at "call") => `(tactic| ((with_reducible show AP (gInA _ _ _) _); refine AP.to (inA_yes (by assumption)) ?_))
local macro_rules | `(tactic| tm_at "call") => `(tactic| ((with_reducible show AP (gNotInA _ _ _) _); refine AP.to (notInA_yes (by assumption)) ?_))
local macro_rules | `(tactic| tm_at "call") => `(tactic| ((with_reducible show AP (gNotInA _ _ _) _); refine AP.to (notInA_no (by assumption)) ?_))
local macro_rules | `(tactic| tm_at "call") => `(tactic| ((with_reducible show AP (F_is_cell_of _ _) _); refine AP.to (is_cell_of_eq (by assumption) (by assumption) _) ?_))
local macro_rules | `(tactic| tm_at "call") => `(tactic| ((with_reducible show AP (F_need_cell _ _) _); refine AP.to (need_cell_eq (by assumption) (by assumption) _) ?_))
local macro_rules | `(tactic| tm_at "call") => `(tactic| ((with_reducible show AP (F_is_lying _ _) _); refine AP.to (is_lying_eq (by assumption) _) ?_))
local macro_rules | `(tactic| tm_at "call") => `(tactic| ((with_reducible show AP (F_need_lying _ _) _); refine AP.to (need_lying_eq (by assumption) _) ?_))
local macro_rules | `(tactic| tm_at "call") => `(tactic| ((with_reducible show AP (F_is_letter _ _) _); refine AP.to (is_letter_eq _ _) ?_))
local macro_rules | `(tactic| tm_at "call") => `(tactic| ((with_reducible show AP (gInA _ _ _) _); refine AP.to (letter_in _ _) ?_))
local macro_rules | `(tactic| tm_at "call") => `(tactic| ((with_reducible show AP (valI _ _) _); refine AP.src (row_val (by omega)) ?_))
local macro_rules | `(tactic| tm_at "call") => `(tactic| ((with_reducible show AP (enI _ _) _); refine AP.src (row_enum (by omega)) ?_))
local macro_rules | `(tactic| tm_at "call") => `(tactic| ((with_reducible show AP (F_need_row _ _) _); refine AP.to (need_row_eq (by omega) _) ?_))
local macro_rules | `(tactic| tm_at "call") => `(tactic| ((with_reducible show AP (F_off_at _ _) _); refine AP.to (off_at_eq _ _ (by omega) _) ?_))
local macro_rules | `(tactic| tm_at "call") => `(tactic| ((with_reducible show AP (F_off_at _ _) _); refine AP.to (off_at_let (by omega) (by assumption) _) ?_))
local macro_rules | `(tactic| tm_at "call") => `(tactic| ((with_reducible show AP (F_first_off _ _) _); refine AP.to (first_off_eq (by assumption) (by assumption) (by omega) _) ?_))
local macro_rules | `(tactic| tm_at "call") => `(tactic| ((with_reducible show AP (F_need_let _ _) _); refine AP.to (need_let_eq (by omega) (by assumption) _) ?_))
local macro_rules | `(tactic| tm_at "call") => `(tactic| ((with_reducible show AP (F_stand_by _ _) _); refine AP.to (stand_by_eq _ _ (by omega) _) ?_))
local macro_rules | `(tactic| tm_at "call") => `(tactic| ((with_reducible show AP (F_stand_behind _ _) _); refine AP.to (stand_behind_eq (by assumption) (by assumption) (by assumption) (by omega) (by assumption) _) ?_))
local macro_rules | `(tactic| tm_at "call") => `(tactic| ((with_reducible show AP (F_is_stand _ _) _); refine AP.to (is_stand_eq (by assumption) (by assumption) (by assumption) _) ?_))
local macro_rules | `(tactic| tm_at "call") => `(tactic| ((with_reducible show AP (F_need_stand _ _) _); refine AP.to (need_stand_eq (by assumption) (by assumption) (by assumption) _) ?_))
/-! ## draws of the laws from k19 on -/
theorem draw_b_ok {n : Nat} {p : Ob} {m : Int} (P : Pen n p) (hn : n ≤ 1000000000) (h0 : 0 < m) (h1 : m < 1073741824) : PenOk B_draw_b [.p (.int m)] p fun x p' => ∃ r : Int, x = .int r ∧ 0 ≤ r ∧ r < m ∧ Pen (n + 1) p' := by
  obtain ⟨a, b, c, rfl, ha, hb, hb2, hc, hc2⟩ := P.ex
  refine pen_in rfl ?_
  tm_at "go"
  by_cases h : a > 0
  · refine BR.T (decide_eq_true h) ?_
    tm_at "go"
    exact ⟨_, rfl, Int.emod_nonneg _ (by omega), Int.emod_lt_of_pos _ h0, ⟨_, _, _, rfl, Int.ediv_nonneg ha (by omega), hb, hb2, hc, by omega⟩⟩
  · refine BR.F (decide_eq_false h) ?_
    tm_at "go"
    exact ⟨_, rfl, Int.emod_nonneg _ (by omega), Int.emod_lt_of_pos _ h0, ⟨_, _, _, rfl, ha, hb, hb2, by omega, by omega⟩⟩
theorem draw_b_ap {k n : Nat} {S : Sto} {Q : D → Sto → Prop} {p : Ob} {m : Int} (hp : S[k]? = some p) (P : Pen n p) (hn : n ≤ 1000000000) (h0 : 0 < m) (h1 : m < 1073741824)
    (q : ∀ (r : Int) p', 0 ≤ r → r < m → Pen (n + 1) p' → nrmS (S.set k p') fun S' => Q (.p (.int r)) S') : AP (F_draw_b [.r k, .p (.int m)] S) Q := by
  unfold F_draw_b
  exact pen_ap (draw_b_ok P hn h0 h1) hp rfl fun x p' ⟨r, e, a, b, c⟩ => by subst e; exact q r p' a b c
local macro_rules | `(tactic| tm_at "call") => `(tactic| ((with_reducible show AP (F_draw_b _ _) _); (refine draw_b_ap rfl (by assumption) (by omega) (by omega) (by omega) ?_; intro r p' h0 h1 P')))
end Tm.Lg
namespace Tm.Lg
open PySem Tm Tm.Pg
local macro_rules | `(tactic| tm_at "w") => `(tactic| conv => whnf)
local macro_rules | `(tactic| tm_at "go1") => `(tactic| first | tm_at "call" | refine AP.of rfl ?_ | refine BR.T rfl ?_ | refine BR.F rfl ?_ | refine AS.of rfl ?_ | refine AP.src rfl ?_)
local macro_rules | `(tactic| tm_at "go") => `(tactic| ((conv => whnf); repeat (tm_at "go1"; conv => whnf)))
local macro_rules | `(tactic| tm_at "call") => `(tactic| fail)
local macro_rules | `(tactic| tm_at "call") => `(tactic| ((with_reducible show AP (gMod _ _ _) _); refine AP.to (mod_eq (by omega)) ?_))
local macro_rules | `(tactic| tm_at "call") => `(tactic| ((with_reducible show AP (gDiv _ _ _) _); refine AP.to (div_eq (by omega) (by omega)) ?_))
local macro_rules | `(tactic| tm_at "call") => `(tactic| ((with_reducible show AP (gMulX _ _ _) _); refine AP.to (mul_eqL (by omega) (by omega)) ?_))
local macro_rules | `(tactic| tm_at "call") => `(tactic| ((with_reducible show AP (gMulX _ _ _) _); refine AP.to (mul_eqR (by omega) (by omega)) ?_))
local macro_rules | `(tactic| tm_at "call") => `(tactic| ((with_reducible show AP (r1I _ _) _); refine AP.src (r1_eq (by omega) (by omega)) ?_))
local macro_rules | `(tactic| tm_at "call") => `(tactic| ((with_reducible show AP (gInA _ _ _) _); refine AP.to (in_t2) ?_))
local macro_rules | `(tactic| tm_at "call") => `(tactic| ((with_reducible show AP (gNotInA _ _ _) _); refine AP.to (notin_t2) ?_))
local macro_rules | `(tactic| tm_at "call") => `(tactic| ((with_reducible show AP (gInA _ _ _) _); refine AP.to (in_l2) ?_))
local macro_rules | `(tactic| tm_at "call") => `(tactic| ((with_reducible show AP (gNotInA _ _ _) _); refine AP.to (notin_l2) ?_))
local macro_rules | `(tactic| tm_at "call") => `(tactic| ((with_reducible show AP (gInA _ _ _) _); refine AP.to (in_r2 rfl) ?_))
local macro_rules | `(tactic| tm_at "call") => `(tactic| ((with_reducible show AP (gNotInA _ _ _) _); refine AP.to (notin_r2 rfl) ?_))
local macro_rules | `(tactic| tm_at "call") => `(tactic| ((with_reducible show AP (gInA _ _ _) _); refine AP.to (in_t _ _ _) ?_))
local macro_rules | `(tactic| tm_at "call") => `(tactic| ((with_reducible show AP (gNotInA _ _ _) _); refine AP.to (notin_t _ _ _) ?_))
local macro_rules | `(tactic| tm_at "call") => `(tactic| ((with_reducible show AP (gInA _ _ _) _); refine AP.to (in_l _ _ _) ?_))
local macro_rules | `(tactic| tm_at "call") => `(tactic| ((with_reducible show AP (gNotInA _ _ _) _); refine AP.to (notin_l _ _ _) ?_))
local macro_rules | `(tactic| tm_at "call") => `(tactic| ((with_reducible show AP (gInA _ _ _) _); refine AP.to (in_r rfl) ?_))
local macro_rules | `(tactic| tm_at "call") => `(tactic| ((with_reducible show AP (gNotInA _ _ _) _); refine AP.to (notin_r rfl) ?_))
local macro_rules | `(tactic| tm_at "call") => `(tactic| ((with_reducible show AP (gIxA (.p (.str (Str.ofString "ensw"))) _ _) _); (refine letter_ap (by omega) (by omega) ?_; intro d)))
local macro_rules | `(tactic| tm_at "call") => `(tactic| ((with_reducible show AP (gAdd (.p (.tuple _)) _ _) _); refine AP.to (addT_eq (by first | (simp <;> omega) | omega)) ?_))
local macro_rules | `(tactic| tm_at "call") => `(tactic| ((with_reducible show AP (gAdd (.p (.list _)) _ _) _); refine AP.to (addL_eq (by first | (simp <;> omega) | omega)) ?_))
local macro_rules | `(tactic| tm_at "call") => `(tactic| ((with_reducible show AP (gEq (.p (eC _)) _ _) _); refine AP.to (eq_cell _ _ _) ?_))
local macro_rules | `(tactic| tm_at "call") => `(tactic| ((with_reducible show AP (gNe (.p (eC _)) _ _) _); refine AP.to (ne_cell _ _ _) ?_))
local macro_rules | `(tactic| tm_at "call") => `(tactic| ((with_reducible show AP (gIxA (.p (.tuple (_ ++ [_]))) _ _) _); refine AP.to (ixT_last) ?_))
local macro_rules | `(tactic| tm_at "call") => `(tactic| ((with_reducible show AP (gSortedX _ _) _); refine AP.to (sorted_cells rfl) ?_))
local macro_rules | `(tactic| tm_at "call") => `(tactic| ((with_reducible show AP (valI (.p (.str (Str.ofString "ensw"))) _) _); refine AP.src (ensw_val _) ?_))
local macro_rules | `(tactic| tm_at "call") => `(tactic| ((with_reducible show AP (gNe (.p (.list _)) (.p (.list [])) _) _); refine AP.to (ne_nil (shaped_ints _ _)) ?_))
local macro_rules | `(tactic| tm_at "call") => `(tactic| ((with_reducible show AP (gAppend (.r _) _ _) _); refine AP.of (append_eq rfl (by first | (simp <;> omega) | omega)) ?_))
local macro_rules | `(tactic| tm_at "call") => `(tactic| ((with_reducible show AP (gIxA (.p (.tuple (List.map _ _))) _ _) _); (refine ixT_ap (by omega) (by omega) ?_; intro a ha)))
local macro_rules | `(tactic| tm_at "call") => `(tactic| ((with_reducible show AP (gIxA (.p (.list (List.map _ _))) _ _) _); (refine ixL_ap (by omega) (by omega) ?_; intro a ha)))
local macro_rules | `(tactic| tm_at "nt1") => `(tactic| first | assumption | exact Nt.non | exact Nt.bool _ | exact nt_floor (by assumption) | exact nt_stand (by assumption) (by assumption) (by assumption) | exact nt_pair (by assumption) (by assumption) | exact nt_turns (by omega) | exact nt_cell (Floor.range (by assumption) _ (by assumption)) | exact nt_ly (by assumption) | exact nt_row (n := 100) (by omega) | exact nt_range (by omega) | exact NtA.nil' | apply Nt.tup | apply Nt.lst | apply NtA.cons')
local macro_rules | `(tactic| tm_at "nt") => `(tactic| repeat' tm_at "nt1")
local macro_rules | `(tactic| tm_at "call") => `(tactic| ((with_reducible show AP (gRepr [.p _] _) _); refine AP.to (repr_nt (by tm_at "nt") (by decide) (by decide)) ?_))
local macro_rules | `(tactic| tm_at "call") => `(tactic| ((with_reducible show AP (gNe (.p (.str _)) (.p (.str _)) _) _); refine AP.to (ne_same _ _) ?_))
local macro_rules | `(tactic| tm_at "call") => `(tactic| ((with_reducible show AP (r1I _ _) _); refine AP.src (r1_eq (by first | (split <;> split <;> omega) | omega) (by first | (split <;> split <;> omega) | omega)) ?_))
local macro_rules | `(tactic| tm_at "call") => `(tactic| ((with_reducible show AP (gSl (.p (.tuple (List.map _ _))) none (some _) _) _); refine AP.to (slT_take (by omega)) ?_))
local macro_rules | `(tactic| tm_at "call") => `(tactic| ((with_reducible show AP (gSl (.p (.tuple (List.map _ _))) (some _) none _) _); refine AP.to (slT_drop (by omega)) ?_))
local macro_rules | `(tactic| tm_at "call") => `(tactic| ((with_reducible show AP (gEq (.p (.int _)) (.p (.int _)) _) _); refine AP.to (eq_int _ _ _) ?_))
local macro_rules | `(tactic| tm_at "call") => `(tactic| ((with_reducible show AP (gNe (.p (.int _)) (.p (.int _)) _) _); refine AP.to (ne_int _ _ _) ?_))
local macro_rules | `(tactic| tm_at "call") => `(tactic| ((with_reducible show AP (gIxA (.r _) _ _) _); (refine ixR_ap rfl (by omega) (by first | omega | (simp <;> omega) | omega) ?_; intro a ha)))
local macro_rules | `(tactic| tm_at "call") => `(tactic| ((with_reducible show AS (fSetA (.r _) _ _ _) _); refine AS.of (setR_eq rfl (by omega) (by first | omega | (simp <;> omega) | omega)) ?_))
local macro_rules | `(tactic| tm_at "call") => `(tactic| ((with_reducible show AP (gIndexT _ [.p (eC _)] _) _); refine AP.to (index_cell (by assumption)) ?_))
local macro_rules | `(tactic| tm_at "call") => `(tactic| ((with_reducible show AP (rngD 0 _ _) _); refine AP.to (rng0_eq (by omega) (by omega)) ?_))
local macro_rules | `(tactic| tm_at "call") => `(tactic| ((with_reducible show AP (rngD 1 _ _) _); refine AP.to (rng1_eq (by omega) (by omega)) ?_))
local macro_rules | `(tactic| tm_at "call") => `(tactic| ((with_reducible show AP (rngD 2 _ _) _); refine AP.of (rng2_eq (by omega) (by omega)) ?_))
local macro_rules | `(tactic| tm_at "call") => `(tactic| ((with_reducible show AP (gJoin (.p (.str (Str.ofString ""))) _ _) _); refine AP.to (join_row (by first | omega | (simp <;> omega) | omega) _) ?_))
local macro_rules | `(tactic| tm_at "call") => `(tactic| ((with_reducible show AP (gAdd (.p (.str (rowS _))) _ _) _); refine AP.to (add_row (by first | omega | (simp <;> omega) | omega) (by first | omega | (simp <;> omega) | omega) _) ?_))
local macro_rules | `(tactic| tm_at "call") => `(tactic| ((with_reducible show AP (gLen [.p (.str (rowS _))] _) _); refine AP.to (len_row (by first | omega | (simp <;> omega) | omega) _) ?_))
local macro_rules | `(tactic| tm_at "call") => `(tactic| ((with_reducible show AP (gSl (.p (.str (rowS _))) none (some _) _) _); refine AP.to (cut_rowI (by omega) (by omega) _) ?_))
local macro_rules | `(tactic| tm_at "call") => `(tactic| ((with_reducible show AP (gSl (.p (.str (rowS _))) (some _) none _) _); refine AP.to (cutD_row (by omega) (by omega) _) ?_))
local macro_rules | `(tactic| tm_at "call") => `(tactic| ((with_reducible show AP (gRev (.p (.str (rowS _))) _) _); refine AP.to (rev_row (by omega) _) ?_))
local macro_rules | `(tactic| tm_at "call") => `(tactic| ((with_reducible show AP (gIxA (.p (.str (rowS (_ ++ [_])))) _ _) _); refine AP.to (last_row (by first | omega | (simp <;> omega) | omega) _ _) ?_))
local macro_rules | `(tactic| tm_at "call") => `(tactic| ((with_reducible show AP (F_beside _ _) _); refine AP.to (beside_eq _ _ _) ?_))
local macro_rules | `(tactic| tm_at "call") => `(tactic| ((with_reducible show AP (F_rolled _ _) _); refine AP.to (rolled_eq _ _ _) ?_))
local macro_rules | `(tactic| tm_at "call") => `(tactic| ((with_reducible show AP (F_are_some _ _) _); refine AP.to (are_some_eq _ _ _ _) ?_))
local macro_rules | `(tactic| tm_at "call") => `(tactic| ((with_reducible show AP (F_are_some _ _) _); refine AP.to (are_some_yes _ (by first | omega | (simp <;> omega) | omega) (by first | omega | (simp <;> omega) | omega)) ?_))
local macro_rules | `(tactic| tm_at "call") => `(tactic| ((with_reducible show AP (F_is_cell _ _) _); refine AP.to (is_cell_eq (by first | assumption | exact Floor.range ‹_› _ ‹_›) _) ?_))
local macro_rules | `(tactic| tm_at "call") => `(tactic| ((with_reducible show AP (gAll _ _) _); refine AP.to (bools_all _ _ _) ?_))
local macro_rules | `(tactic| tm_at "call") => `(tactic| ((with_reducible show AP (gAll _ _) _); refine AP.to (all_true _ _) ?_))
local macro_rules | `(tactic| tm_at "call") => `(tactic| ((with_reducible show AP (gLess _ _ _) _); refine AP.to (less_cell _ _ _) ?_))
local macro_rules | `(tactic| tm_at "call") => `(tactic| ((with_reducible show AP (F_rises _ _) _); refine AP.to (rises_eq (by first | assumption | exact Floor.rises ‹_›) _) ?_))
local macro_rules | `(tactic| tm_at "call") => `(tactic| ((with_reducible show AP (F_is_floor _ _) _); refine AP.to (is_floor_eq (by assumption) _) ?_))
local macro_rules | `(tactic| tm_at "call") => `(tactic| ((with_reducible show AP (F_need_floor _ _) _); refine AP.to (need_floor_eq (by assumption) _) ?_))
local macro_rules | `(tactic| tm_at "call") => `(tactic| ((with_reducible show AP (gInA _ _ _) _); refine AP.to (inA_yes (by assumption)) ?_))
local macro_rules | `(tactic| tm_at "call") => `(tactic| ((with_reducible show AP (gNotInA _ _ _) _); refine AP.to (notInA_yes (by assumption)) ?_))
local macro_rules | `(tactic| tm_at "call") => `(tactic| ((with_reducible show AP (gNotInA _ _ _) _); refine AP.to (notInA_no (by assumption)) ?_))
local macro_rules | `(tactic| tm_at "call") => `(tactic| ((with_reducible show AP (F_is_cell_of _ _) _); refine AP.to (is_cell_of_eq (by assumption) (by assumption) _) ?_))
local macro_rules | `(tactic| tm_at "call") => `(tactic| ((with_reducible show AP (F_need_cell _ _) _); refine AP.to (need_cell_eq (by assumption) (by assumption) _) ?_))
local macro_rules | `(tactic| tm_at "call") => `(tactic| ((with_reducible show AP (F_is_lying _ _) _); refine AP.to (is_lying_eq (by assumption) _) ?_))
local macro_rules | `(tactic| tm_at "call") => `(tactic| ((with_reducible show AP (F_need_lying _ _) _); refine AP.to (need_lying_eq (by assumption) _) ?_))
local macro_rules | `(tactic| tm_at "call") => `(tactic| ((with_reducible show AP (F_is_letter _ _) _); refine AP.to (is_letter_eq _ _) ?_))
local macro_rules | `(tactic| tm_at "call") => `(tactic| ((with_reducible show AP (gInA _ _ _) _); refine AP.to (letter_in _ _) ?_))
local macro_rules | `(tactic| tm_at "call") => `(tactic| ((with_reducible show AP (valI _ _) _); refine AP.src (row_val (by omega)) ?_))
local macro_rules | `(tactic| tm_at "call") => `(tactic| ((with_reducible show AP (enI _ _) _); refine AP.src (row_enum (by omega)) ?_))
local macro_rules | `(tactic| tm_at "call") => `(tactic| ((with_reducible show AP (F_need_row _ _) _); refine AP.to (need_row_eq (by omega) _) ?_))
local macro_rules | `(tactic| tm_at "call") => `(tactic| ((with_reducible show AP (F_off_at _ _) _); refine AP.to (off_at_eq _ _ (by omega) _) ?_))
local macro_rules | `(tactic| tm_at "call") => `(tactic| ((with_reducible show AP (F_off_at _ _) _); refine AP.to (off_at_let (by omega) (by assumption) _) ?_))
local macro_rules | `(tactic| tm_at "call") => `(tactic| ((with_reducible show AP (F_first_off _ _) _); refine AP.to (first_off_eq (by assumption) (by assumption) (by omega) _) ?_))
local macro_rules | `(tactic| tm_at "call") => `(tactic| ((with_reducible show AP (F_need_let _ _) _); refine AP.to (need_let_eq (by omega) (by assumption) _) ?_))
local macro_rules | `(tactic| tm_at "call") => `(tactic| ((with_reducible show AP (F_stand_by _ _) _); refine AP.to (stand_by_eq _ _ (by omega) _) ?_))
local macro_rules | `(tactic| tm_at "call") => `(tactic| ((with_reducible show AP (F_stand_behind _ _) _); refine AP.to (stand_behind_eq (by assumption) (by assumption) (by assumption) (by omega) (by assumption) _) ?_))
local macro_rules | `(tactic| tm_at "call") => `(tactic| ((with_reducible show AP (F_is_stand _ _) _); refine AP.to (is_stand_eq (by assumption) (by assumption) (by assumption) _) ?_))
local macro_rules | `(tactic| tm_at "call") => `(tactic| ((with_reducible show AP (F_need_stand _ _) _); refine AP.to (need_stand_eq (by assumption) (by assumption) (by assumption) _) ?_))
local macro_rules | `(tactic| tm_at "call") => `(tactic| ((with_reducible show AP (F_draw_b _ _) _); (refine draw_b_ap rfl (by assumption) (by omega) (by omega) (by omega) ?_; intro r p' h0 h1 P')))
theorem pen_b_ap {x : Int} {S : Sto} {Q : D → Sto → Prop} (q : ∀ p, Pen 0 p → nrmD (.r S.length) fun d => nrmS (S ++ [p]) fun S' => Q d S') : AP (F_pen_b [.p (.int x)] S) Q := by
  unfold F_pen_b B_pen_b
  refine new_ap rfl rfl ?_
  tm_at "go"
  refine q _ ⟨_, _, _, rfl, ?_, Int.emod_nonneg _ (by omega), ?_, by omega, by omega⟩
  · split <;> omega
  · have := Int.emod_lt_of_pos x (show (0 : Int) < 1000000007 by omega); omega
theorem cell_at_ap {ns : List Int} {k : Nat} {S : Sto} {Q : D → Sto → Prop} (q : ∀ x : Int, Q (.p (.int x)) S) : AP (F_cell_at_a [.p (.list (ns.map .int)), .p (.int (k : Nat))] S) Q := by
  have e : ∃ x : Int, F_cell_at_a [.p (.list (ns.map .int)), .p (.int (k : Nat))] S = some (.p (.int x), S) := by
    by_cases h : k < ns.length
    · refine ⟨ns[k], ?_⟩
      unfold F_cell_at_a B_cell_at_a
      refine pure_in rfl rfl ?_
      tm_at "go"
      refine BR.T (decide_eq_true (by rw [List.length_map]; omega)) ?_
      tm_at "go"
      rename_i a ha
      have e : a = ns[k] := by simpa [h] using ha.symm
      subst e
      rfl
    · refine ⟨0, ?_⟩
      unfold F_cell_at_a B_cell_at_a
      refine pure_in rfl rfl ?_
      tm_at "go"
      refine BR.F (decide_eq_false (by rw [List.length_map]; omega)) ?_
      tm_at "go"
      rfl
  obtain ⟨x, e⟩ := e
  exact AP.to e (q x)
theorem pick_b_ap {α : Type} {l : List α} {enc : α → PyData} {k n : Nat} {S : Sto} {Q : D → Sto → Prop} {p : Ob} (hp : S[k]? = some p) (P : Pen n p) (hn : n ≤ 1000000000) (h0 : 0 < l.length) (h1 : l.length < 1073741824)
    (q : ∀ a p', a ∈ l → Pen (n + 1) p' → nrmS (S.set k p') fun S' => Q (.p (enc a)) S') : AP (F_pick_b [.r k, .p (.list (l.map enc))] S) Q := by
  have h : PenOk B_pick_b [.p (.list (l.map enc))] p fun x p' => ∃ a ∈ l, x = enc a ∧ Pen (n + 1) p' := by
    refine pen_in rfl ?_
    have hl : (l.map enc).length = l.length := List.length_map _
    tm_at "go"
    rename_i r p' hr0 hr1 P' a ha
    exact ⟨a, List.mem_of_getElem? ha, rfl, P'⟩
  unfold F_pick_b
  exact pen_ap h hp rfl fun x p' ⟨a, ha, e, P'⟩ => by subst e; exact q a p' ha P'
theorem pick_b_tup {α : Type} {l : List α} {enc : α → PyData} {k n : Nat} {S : Sto} {Q : D → Sto → Prop} {p : Ob} (hp : S[k]? = some p) (P : Pen n p) (hn : n ≤ 1000000000) (h0 : 0 < l.length) (h1 : l.length < 1073741824)
    (q : ∀ a p', a ∈ l → Pen (n + 1) p' → nrmS (S.set k p') fun S' => Q (.p (enc a)) S') : AP (F_pick_b [.r k, .p (.tuple (l.map enc))] S) Q := by
  have h : PenOk B_pick_b [.p (.tuple (l.map enc))] p fun x p' => ∃ a ∈ l, x = enc a ∧ Pen (n + 1) p' := by
    refine pen_in rfl ?_
    have hl : (l.map enc).length = l.length := List.length_map _
    tm_at "go"
    rename_i r p' hr0 hr1 P' a ha
    exact ⟨a, List.mem_of_getElem? ha, rfl, P'⟩
  unfold F_pick_b
  exact pen_ap h hp rfl fun x p' ⟨a, ha, e, P'⟩ => by subst e; exact q a p' ha P'
theorem pick_b_ref {α : Type} {l : List α} {enc : α → PyData} {k m n : Nat} {S : Sto} {Q : D → Sto → Prop} {p : Ob} (hp : S[k]? = some p) (ho : S[m]? = some (.lst (l.map enc))) (hkm : k ≠ m) (P : Pen n p) (hn : n ≤ 1000000000) (h0 : 0 < l.length) (h1 : l.length < 1073741824)
    (q : ∀ a p', a ∈ l → Pen (n + 1) p' → nrmS (S.set k p') fun S' => Q (.p (enc a)) S') : AP (F_pick_b [.r k, .r m] S) Q := by
  have h : Ok (B_pick_b [.r 0, .r 1] [p, .lst (l.map enc)]) fun d L => ∃ x p', d = .p x ∧ L.take 2 = [p', .lst (l.map enc)] ∧ ∃ a ∈ l, x = enc a ∧ Pen (n + 1) p' := by
    have hl : (l.map enc).length = l.length := List.length_map _
    have z : wSs ir_pick_b [some (.r 0), some (.r 1)] [p, .lst (l.map enc)] fun o L => ∃ x p', o = .rt (.p x) ∧ L.take 2 = [p', .lst (l.map enc)] ∧ ∃ a ∈ l, x = enc a ∧ Pen (n + 1) p' := by
      tm_at "go"
      rename_i r p' hr0 hr1 P' a ha
      exact ⟨_, _, rfl, rfl, a, List.mem_of_getElem? ha, rfl, P'⟩
    obtain ⟨o, L, e, x, p', rfl, hL, hx⟩ := wSs_ok _ _ _ _ z
    refine ⟨.p x, L, ?_, x, p', rfl, hL, hx⟩
    unfold B_pick_b runF
    rw [if_pos (show [D.r 0, D.r 1].length = 2 from rfl)]
    show (match denSs ir_pick_b [some (.r 0), some (.r 1)] [p, .lst (l.map enc)] with
      | some (.rt d, S1) => some (d, S1)
      | some (.nx _, S1) => some (.p .none, S1)
      | _ => none) = _
    rw [e]
  unfold F_pick_b
  exact pen2_ap h hp ho hkm fun x p' ⟨a, ha, e, P'⟩ => by subst e; exact q a p' ha P'
def dirsN : List Dir := [.n, .e, .s, .w]
theorem nesw_val (S : Sto) : valI (.p (.str (Str.ofString "nesw"))) S = some (.its (rowOf (dirsN.map eL)), S) := rfl
theorem nesw_ap {r : Int} {S : Sto} {Q : D → Sto → Prop} (h0 : 0 ≤ r) (h1 : r < 4) (q : ∀ d : Dir, Q (.p (eL d)) S) : AP (gIxA (.p (.str (Str.ofString "nesw"))) (.p (.int r)) S) Q := by
  obtain rfl | rfl | rfl | rfl : r = 0 ∨ r = 1 ∨ r = 2 ∨ r = 3 := by omega
  · exact AP.to (d := .p (eL .n)) rfl (q _)
  · exact AP.to (d := .p (eL .e)) rfl (q _)
  · exact AP.to (d := .p (eL .s)) rfl (q _)
  · exact AP.to (d := .p (eL .w)) rfl (q _)
local macro_rules | `(tactic| tm_at "call") => `(tactic| ((with_reducible show AP (valI (.p (.str (Str.ofString "nesw"))) _) _); refine AP.src (nesw_val _) ?_))
local macro_rules | `(tactic| tm_at "call") => `(tactic| ((with_reducible show AP (gIxA (.p (.str (Str.ofString "nesw"))) _ _) _); (refine nesw_ap (by omega) (by omega) ?_; intro d)))
theorem pick_b_str {k n : Nat} {S : Sto} {Q : D → Sto → Prop} {p : Ob} (hp : S[k]? = some p) (P : Pen n p) (hn : n ≤ 1000000000)
    (q : ∀ (d : Dir) p', Pen (n + 1) p' → nrmS (S.set k p') fun S' => Q (.p (eL d)) S') : AP (F_pick_b [.r k, .p (.str (Str.ofString "nesw"))] S) Q := by
  have h : PenOk B_pick_b [.p (.str (Str.ofString "nesw"))] p fun x p' => ∃ d : Dir, x = eL d ∧ Pen (n + 1) p' := by
    refine pen_in rfl ?_
    have e4 : ∀ S : Sto, gLen [.p (.str (Str.ofString "nesw"))] S = some (.p (.int 4), S) := fun _ => rfl
    tm_at "w"
    refine AP.to (e4 _) ?_
    tm_at "go"
    rename_i r p' hr0 hr1 P' d
    exact ⟨d, rfl, P'⟩
  unfold F_pick_b
  exact pen_ap h hp rfl fun x p' ⟨d, e, P'⟩ => by subst e; exact q d p' P'
local macro_rules | `(tactic| tm_at "call") => `(tactic| ((with_reducible show AP (F_pick_b [.r _, .p (.str (Str.ofString "nesw"))] _) _); (refine pick_b_str rfl (by assumption) (by omega) ?_; intro d p' P')))
theorem beside_b_eq (c : Cell) (d : Dir) (S : Sto) : F_beside_b [.p (eC c), .p (eL d)] S = some (.p (eC (stp d c)), S) := by
  unfold F_beside_b B_beside_b
  refine pure_in rfl rfl ?_
  cases d
  all_goals tm_at "go"
  all_goals (simp only [rtV, stp, dx, dy, eC, Int.add_zero, Int.sub_eq_add_neg])
local macro_rules | `(tactic| tm_at "call") => `(tactic| ((with_reducible show AP (F_beside_b _ _) _); refine AP.to (beside_b_eq _ _ _) ?_))
theorem tip_b_eq (l : Ly) (d : Dir) (S : Sto) : F_tip_b [.p (eY l), .p (eL d)] S = some (.p (eY (roll d l)), S) := by
  unfold F_tip_b B_tip_b
  refine pure_in rfl rfl ?_
  cases d
  all_goals tm_at "go"
  all_goals rfl
local macro_rules | `(tactic| tm_at "call") => `(tactic| ((with_reducible show AP (F_tip_b _ _) _); refine AP.to (tip_b_eq _ _ _) ?_))
theorem drawn_stand_b_ap {cs : List Cell} {k n : Nat} {S : Sto} {Q : D → Sto → Prop} {p : Ob} (hp : S[k]? = some p) (P : Pen n p) (hn : n ≤ 900000) (F : Floor cs)
    (q : ∀ (c : Cell) (l : Ly) p', c ∈ cs → l ∈ lyings → Pen (n + 12) p' → nrmS (S.set k p') fun S' => Q (.p (eSt c l)) S') : AP (F_drawn_stand_b [.r k, .p (.tuple (cs.map eC))] S) Q := by
  have h : PenOk B_drawn_stand_b [.p (.tuple (cs.map eC))] p fun x p' => ∃ (c : Cell) (l : Ly), c ∈ cs ∧ l ∈ lyings ∧ x = eSt c l ∧ Pen (n + 12) p' := by
    refine pen_in rfl ?_
    have hF := F.most
    have hF0 := F.pos
    tm_at "go"
    rename_i r p' hr0 hr1 P'
    refine WL.inv (fun j ρ S => ∃ l p, l ∈ lyings ∧ Pen (n + 1 + j) p ∧ ρ = [some (.r 0), some (.p (.tuple (cs.map eC))), some (.p (eY l)), none] ∧ S = [p]) 0 ⟨(0, 1, 2), p', by decide, P', rfl, rfl⟩ ?_ ?_
    · rintro j x ρ S hj ⟨l, p, hl, P, rfl, rfl⟩
      obtain ⟨rfl, hj⟩ := range_at hj
      tm_at "go"
      rename_i d p' P'
      exact ⟨_, _, roll_mem l hl d, P'.up (by omega), rfl, rfl⟩
    · rintro ρ S ⟨l, p, hl, P, rfl, rfl⟩
      rw [range_len] at P
      tm_at "go"
      refine pick_b_tup rfl P (by omega) hF0 (by omega) fun c p' hc P' => ?_
      tm_at "go"
      exact ⟨c, l, hc, hl, rfl, P'.up (by omega)⟩
  unfold F_drawn_stand_b
  exact pen_ap h hp rfl fun x p' ⟨c, l, hc, hl, e, P'⟩ => by subst e; exact q c l p' hc hl P'
local macro_rules | `(tactic| tm_at "call") => `(tactic| ((with_reducible show AP (F_drawn_stand_b _ _) _); (refine drawn_stand_b_ap rfl (by assumption) (by omega) (by assumption) ?_; intro c l p' hc hl P')))
theorem extend_eq {k : Nat} {xs ys : List PyData} {S : Sto} (h : S[k]? = some (.lst xs)) (hl : xs.length + ys.length ≤ 1000000) : gExtend (.r k) [.p (.list ys)] S = some (.p .none, S.set k (.lst (xs ++ ys))) := by
  show (match S[k]? with
    | some (.lst xs) => if xs.length + ys.length ≤ Lim then some (D.p .none, S.set k (.lst (xs ++ ys))) else none
    | _ => none) = _
  rw [h]
  show (if xs.length + ys.length ≤ Lim then some (D.p .none, S.set k (.lst (xs ++ ys))) else none) = _
  rw [if_pos (by unfold Lim; omega)]
def sidesOf (c : Cell) : List Cell := dirsN.map fun d => stp d c
def inB (cs : List Cell) (c : Cell) : Bool := !decide (c ∈ cs) && (decide (max c.1 c.2 < 4) && decide (min c.1 c.2 ≥ 0))
theorem near_step {cs : List Cell} {p : Ob} {m d : PyData} {ns : List Cell} {c : Cell} {Q : Out → Sto → Prop} {I : Ev → Sto → Prop} (hn : ns.length ≤ 1000)
    (q : I [some (.r 0), some (.p m), some (.r 1), some (.p d), some (.r 2), none, none, none] [p, .lst (cs.map eC), .lst ((ns ++ sidesOf c).map eC)]) :
    wG (.nm 5) (.one (.p (eC c))) [some (.r 0), some (.p m), some (.r 1), some (.p d), some (.r 2), none, none, none] [p, .lst (cs.map eC), .lst (ns.map eC)] fun ρ1 S1 => wSs b_drawn_floor_b_1 ρ1 S1 fun o S2 => loopK [5] S1.length o S2 Q I := by
  tm_at "go"
  refine WK.map eL (fun d => eC (stp d c)) dirsN (fun d hd => ?_) ?_
  · tm_at "go"
    exact ⟨rfl, rfl⟩
  · tm_at "go"
    refine AP.of (extend_eq rfl (by simp [dirsN]; omega)) ?_
    tm_at "go"
    rw [show ns.map eC ++ dirsN.map (fun d => eC (stp d c)) = (ns ++ sidesOf c).map eC by unfold sidesOf; rw [List.map_append, List.map_map]; rfl]
    exact q
theorem drawn_floor_turn {cs : List Cell} {n : Nat} {p : Ob} {m d : PyData} {Q : Out → Sto → Prop} {I : Ev → Sto → Prop} (P : Pen n p) (hn : n ≤ 1000000) (h0 : 0 < cs.length) (h1 : cs.length < 16) (hr : ∀ c ∈ cs, 0 ≤ c.1 ∧ c.1 ≤ 3 ∧ 0 ≤ c.2 ∧ c.2 ≤ 3)
    (q : ∀ (c : Cell) (ds : List Cell) p', (0 ≤ c.1 ∧ c.1 ≤ 3 ∧ 0 ≤ c.2 ∧ c.2 ≤ 3) → (ds = cs ∨ (ds = cs ++ [c] ∧ c ∉ cs)) → Pen (n + 3) p' → I [some (.r 0), some (.p m), some (.r 1), none, none, none, none, none] [p', .lst (ds.map eC)]) :
    wG (.nm 3) (.one (.p d)) [some (.r 0), some (.p m), some (.r 1), none, none, none, none, none] [p, .lst (cs.map eC)] fun ρ1 S1 => wSs b_drawn_floor_b_2 ρ1 S1 fun o S2 => loopK [3, 4, 5, 6] S1.length o S2 Q I := by
  have hflat : ∀ i, ((cs.take i).flatMap sidesOf).length ≤ 64 := fun i => by
    have : ∀ l : List Cell, (l.flatMap sidesOf).length = 4 * l.length := by
      intro l
      induction l with
      | nil => rfl
      | cons a l ih => rw [List.flatMap_cons, List.length_append, ih, List.length_cons]; show 4 + _ = _; omega
    rw [this, List.length_take]; omega
  tm_at "go"
  refine WR.inv (cs.map eC) (fun i ρ S => ρ = [some (.r 0), some (.p m), some (.r 1), some (.p d), some (.r 2), none, none, none] ∧ S = [p, .lst (cs.map eC), .lst (((cs.take i).flatMap sidesOf).map eC)]) cap 0 ⟨rfl, rfl⟩ (by rw [List.length_map]; unfold cap; omega) (Nat.zero_le _) (fun i ρ S ⟨_, e⟩ => by rw [e]; rfl) ?_ ?_
  · rintro i x ρ S hx ⟨rfl, rfl⟩
    rw [List.getElem?_map] at hx
    cases hc : cs[i]? with
    | none => rw [hc] at hx; cases hx
    | some c =>
      rw [hc] at hx
      cases hx
      refine near_step (by have := hflat i; omega) ⟨rfl, ?_⟩
      have e : cs.take (i + 1) = cs.take i ++ [c] := by rw [List.take_add_one, hc]; rfl
      rw [e, List.flatMap_append]
      simp
  · rintro ρ S ⟨rfl, rfl⟩
    rw [List.length_map, List.take_length]
    have hfl := hflat cs.length
    rw [List.take_length] at hfl
    tm_at "go"
    refine WKR.filt eC (inB cs) eC (cs.flatMap sidesOf) rfl (by omega) (fun c hc => ?_) ?_
    · unfold inB
      tm_at "go"
      by_cases hm : c ∈ cs
      · rw [decide_eq_true hm]
        refine BR.F rfl ?_
        tm_at "go"
        exact ⟨rfl, rfl, fun z => by cases z⟩
      · rw [decide_eq_false hm]
        refine BR.T rfl ?_
        tm_at "go"
        by_cases h4 : max c.1 c.2 < 4
        · refine BR.T (decide_eq_true h4) ?_
          tm_at "go"
          refine ⟨by rw [decide_eq_true h4]; rfl, rfl, fun _ => ?_⟩
          tm_at "go"
          exact ⟨rfl, rfl⟩
        · refine BR.F (decide_eq_false h4) ?_
          tm_at "go"
          exact ⟨by rw [decide_eq_false h4]; rfl, rfl, fun z => by rw [decide_eq_false h4] at z; cases z⟩
    · have inr : ∀ c ∈ (cs.flatMap sidesOf).filter (inB cs), (0 ≤ c.1 ∧ c.1 ≤ 3 ∧ 0 ≤ c.2 ∧ c.2 ≤ 3) ∧ c ∉ cs := fun c hc => by
        have := (List.mem_filter.mp hc).2
        unfold inB at this
        simp only [Bool.and_eq_true, Bool.not_eq_true', decide_eq_false_iff_not, decide_eq_true_eq] at this
        exact ⟨by omega, this.1⟩
      have npos : 0 < ((cs.flatMap sidesOf).filter (inB cs)).length := by
        obtain ⟨c0, hc0, d0, hd0⟩ := near_some h0 h1 hr
        obtain ⟨hc1, hc2⟩ := mem_others.mp hc0
        refine List.length_pos_of_mem (a := c0) (List.mem_filter.mpr ⟨List.mem_flatMap.mpr ⟨stp d0 c0, hd0, List.mem_map.mpr ⟨d0.back, by cases d0 <;> decide, stp_back c0 d0⟩⟩, ?_⟩)
        unfold inB
        simp only [Bool.and_eq_true, Bool.not_eq_true', decide_eq_false_iff_not, decide_eq_true_eq]
        exact ⟨hc2, by omega, by omega⟩
      have hfl2 := List.length_filter_le (inB cs) (cs.flatMap sidesOf)
      tm_at "go"
      rename_i r p1 r0 r1 P1
      by_cases hz : r = 0
      · refine BR.T (decide_eq_true hz) ?_
        tm_at "go"
        rename_i a p2 a0 a1 P2 b p3 b0 b1 P3
        have hab : 0 ≤ (a, b).1 ∧ (a, b).1 ≤ 3 ∧ 0 ≤ (a, b).2 ∧ (a, b).2 ≤ 3 := ⟨a0, by simp only; omega, b0, by simp only; omega⟩
        by_cases hm : (a, b) ∈ cs
        · rw [decide_eq_true hm]
          refine BR.F rfl ?_
          tm_at "go"
          exact q (a, b) cs _ hab (.inl rfl) P3
        · rw [decide_eq_false hm]
          refine BR.T rfl ?_
          tm_at "go"
          have e : cs.map eC ++ [eC (a, b)] = (cs ++ [(a, b)]).map eC := by simp
          have z := q (a, b) _ _ hab (.inr ⟨rfl, hm⟩) P3
          rw [← e] at z
          exact z
      · refine BR.F (decide_eq_false hz) ?_
        tm_at "go"
        refine pick_b_ref rfl rfl (by decide) P1 (by omega) npos (by omega) fun c p2 hc P2 => ?_
        tm_at "go"
        by_cases hm : c ∈ cs
        · rw [decide_eq_true hm]
          refine BR.F rfl ?_
          tm_at "go"
          exact q c cs _ (inr c hc).1 (.inl rfl) (P2.up (by omega))
        · rw [decide_eq_false hm]
          refine BR.T rfl ?_
          tm_at "go"
          have e : cs.map eC ++ [eC c] = (cs ++ [c]).map eC := by simp
          have z := q c _ _ (inr c hc).1 (.inr ⟨rfl, hm⟩) (P2.up (by omega))
          rw [← e] at z
          exact z
theorem drawn_floor_b_ap {k n : Nat} {S : Sto} {Q : D → Sto → Prop} {p : Ob} {hi : Int} (hp : S[k]? = some p) (P : Pen n p) (hn : n ≤ 900000) (h1 : 1 ≤ hi) (h3 : hi ≤ 9)
    (q : ∀ cs p', Floor cs → cs.length ≤ hi → Pen (n + 40) p' → nrmS (S.set k p') fun S' => Q (.p (.tuple (cs.map eC))) S') : AP (F_drawn_floor_b [.r k, .p (.int hi)] S) Q := by
  have h : PenOk B_drawn_floor_b [.p (.int hi)] p fun x p' => ∃ cs, Floor cs ∧ cs.length ≤ hi ∧ x = .tuple (cs.map eC) ∧ Pen (n + 40) p' := by
    refine pen_in rfl ?_
    tm_at "go"
    rename_i a p1 a0 a1 P1 b p2 b0 b1 P2 r p3 r0 r1 P3
    refine WL.inv (fun j ρ S => ∃ cs p, cs.Nodup ∧ (∀ c ∈ cs, 0 ≤ c.1 ∧ c.1 ≤ 3 ∧ 0 ≤ c.2 ∧ c.2 ≤ 3) ∧ 0 < cs.length ∧ cs.length ≤ j + 1 ∧ Pen (n + 3 + 3 * j) p ∧ ρ = [some (.r 0), some (.p (.int hi)), some (.r 1), none, none, none, none, none] ∧ S = [p, .lst (cs.map eC)]) 0
      ⟨[(a, b)], p3, by simp, fun c hc => by rw [List.mem_singleton] at hc; subst hc; exact ⟨a0, by simp only; omega, b0, by simp only; omega⟩, by simp, by simp, P3, rfl, rfl⟩ ?_ ?_
    · rintro j x ρ S hj ⟨cs, p, nd, hr, hpos, hl, P, rfl, rfl⟩
      obtain ⟨rfl, hj⟩ := range_at hj
      refine drawn_floor_turn P (by omega) hpos (by omega) hr fun c ds p' hc hds P' => ?_
      rcases hds with rfl | ⟨rfl, hnc⟩
      · exact ⟨ds, p', nd, hr, hpos, by omega, P'.up (by omega), rfl, rfl⟩
      · refine ⟨cs ++ [c], p', ?_, ?_, by simp, by simp; omega, P'.up (by omega), rfl, rfl⟩
        · rw [List.nodup_append]
          exact ⟨nd, by simp, fun x hx y hy => by rw [List.mem_singleton] at hy; subst hy; intro e; subst e; exact hnc hx⟩
        · intro x hx
          rcases List.mem_append.mp hx with z | z
          · exact hr x z
          · rw [List.mem_singleton] at z; subst z; exact hc
    · rintro ρ S ⟨cs, p, nd, hr, hpos, hl, P, rfl, rfl⟩
      rw [range_len] at hl P
      tm_at "go"
      have hs := (sortC_perm cs).length_eq
      exact ⟨sortC cs, floor_sort hpos (by omega) nd hr, by omega, rfl, P.up (by omega)⟩
  unfold F_drawn_floor_b
  exact pen_ap h hp rfl fun x p' ⟨cs, F, a, e, P'⟩ => by subst e; exact q cs p' F a P'
local macro_rules | `(tactic| tm_at "call") => `(tactic| ((with_reducible show AP (F_drawn_floor_b _ _) _); (refine drawn_floor_b_ap rfl (by assumption) (by omega) (by omega) (by omega) ?_; intro cs p' F h0 P')))
end Tm.Lg
namespace Tm.K33
open PySem L2 Tm Tm.Pg Tm.Lg
/-! ### law_turned_all (0 _law_words, 1 _law_floor, 2 _law_stand, 3 _law_row, 4 _law_names, 5 _law_word, 6 _law_more, 7 _law_spot) -/
def b_law_turned_all_1 : Ss := (.cons (.asg (.nm 6) (.call (Str.ofString "turned_spots") 2 F_turned_spots (.cons (.var 1) (.cons (.var 5) .nil))))
    (.cons (.par (.cons (.nm 4) (.cons (.nm 2) .nil)) (.cons (.prim .tuple (.cons (.comp false (.val (.var 4)) (.nm 7) .no (.ix (.var 6) (.var 7)) [((Str.ofString "_law_spot"), 7)]) .nil)) (.cons (.call (Str.ofString "turned_stand") 3 F_turned_stand (.cons (.var 1) (.cons (.var 5) (.cons (.var 2) .nil)))) .nil)))
    (.cons (.par (.cons (.nm 1) (.cons (.nm 3) .nil)) (.cons (.call (Str.ofString "turned_floor") 2 F_turned_floor (.cons (.var 1) (.cons (.var 5) .nil))) (.cons (.call (Str.ofString "turned_row") 2 F_turned_row (.cons (.var 5) (.cons (.var 3) .nil))) .nil)))
    .nil)))
abbrev L_law_turned_all_1 := WL (.nm 5) [5, 6] b_law_turned_all_1
def ir_law_turned_all : Ss := (.cons (.asg (.nm 4) (.rng 0 (.cons (.bin .add (.int 6) (.prim .len (.cons (.var 1) .nil))) .nil)))
    (.cons (.loop (.nm 5) (.val (.var 0)) b_law_turned_all_1 [5, 6])
    (.cons (.ret (.tup (.cons (.var 1) (.cons (.var 2) (.cons (.var 3) (.cons (.var 4) .nil))))))
    .nil)))
def B_law_turned_all : List D → Sto → Rs D := runF 4 8 (denSs ir_law_turned_all)
@[irreducible] def F_law_turned_all : List D → Sto → Rs D := lcall B_law_turned_all
/-! ### law_right (0 _law_floor, 1 _law_stand, 2 _law_row, 3 _law_plain, 4 _law_both, 5 _law_word, 6 _law_later, 7 _law_own, 8 _law_letters, 9 _law_names) -/
def b_law_right_1 : Ss := (.cons (.asg (.tup 4 (.cons (.nm 6) (.cons (.nm 7) (.cons (.nm 8) (.cons (.nm 9) .nil))))) (.call (Str.ofString "_law_turned_all") 4 F_law_turned_all (.cons (.lst false (.cons (.var 5) .nil)) (.cons (.var 0) (.cons (.var 1) (.cons (.var 2) .nil))))))
    (.cons (.ife (.or (.cons (.cmp .isnot (.call (Str.ofString "is_floor") 1 F_is_floor (.cons (.var 6) .nil)) (.bl true)) (.cons (.cmp .isnot (.call (Str.ofString "is_lying") 1 F_is_lying (.cons (.ix (.var 7) (.int 1)) .nil)) (.bl true)) (.cons (.cmp .notin (.ix (.var 7) (.int 0)) (.var 6)) .nil))))
    (.cons (.ret (.bl false))
    .nil)
    .nil)
    (.cons (.ife (.or (.cons (.cmp .ne (.prim .sorted (.cons (.var 9) .nil)) (.rng 1 (.cons (.bin .add (.int 6) (.prim .len (.cons (.var 0) .nil))) .nil))) (.cons (.cmp .ne (.prim .len (.cons (.var 6) .nil)) (.prim .len (.cons (.var 0) .nil))) (.cons (.cmp .ne (.prim .len (.cons (.var 8) .nil)) (.prim .len (.cons (.var 2) .nil))) .nil))))
    (.cons (.ret (.bl false))
    .nil)
    .nil)
    .nil)))
abbrev L_law_right_1 := WL (.nm 5) [5, 6, 7, 8, 9] b_law_right_1
def ir_law_right : Ss := (.cons (.asg (.nm 3) (.tup (.cons (.var 0) (.cons (.var 1) (.cons (.var 2) (.cons (.rng 0 (.cons (.bin .add (.int 6) (.prim .len (.cons (.var 0) .nil))) .nil)) .nil))))))
    (.cons (.ife (.cmp .ne (.call (Str.ofString "_law_turned_all") 4 F_law_turned_all (.cons (.bin .mul (.lst true (.cons (.str (Str.ofString "left")) .nil)) (.int 4)) (.cons (.var 0) (.cons (.var 1) (.cons (.var 2) .nil))))) (.var 3))
    (.cons (.ret (.bl false))
    .nil)
    .nil)
    (.cons (.ife (.cmp .ne (.call (Str.ofString "_law_turned_all") 4 F_law_turned_all (.cons (.bin .mul (.lst true (.cons (.str (Str.ofString "mirror")) .nil)) (.int 2)) (.cons (.var 0) (.cons (.var 1) (.cons (.var 2) .nil))))) (.var 3))
    (.cons (.ret (.bl false))
    .nil)
    .nil)
    (.cons (.asg (.nm 4) (.call (Str.ofString "_law_turned_all") 4 F_law_turned_all (.cons (.lst false (.cons (.str (Str.ofString "mirror")) (.cons (.str (Str.ofString "left")) .nil))) (.cons (.var 0) (.cons (.var 1) (.cons (.var 2) .nil))))))
    (.cons (.ife (.cmp .ne (.var 4) (.call (Str.ofString "_law_turned_all") 4 F_law_turned_all (.cons (.bin .add (.bin .mul (.lst true (.cons (.str (Str.ofString "left")) .nil)) (.int 3)) (.lst false (.cons (.str (Str.ofString "mirror")) .nil))) (.cons (.var 0) (.cons (.var 1) (.cons (.var 2) .nil))))))
    (.cons (.ret (.bl false))
    .nil)
    .nil)
    (.cons (.loop (.nm 5) (.val (.tup (.cons (.str (Str.ofString "left")) (.cons (.str (Str.ofString "mirror")) .nil)))) b_law_right_1 [5, 6, 7, 8, 9])
    (.cons (.ret (.bl true))
    .nil)))))))
def B_law_right : List D → Sto → Rs D := runF 3 10 (denSs ir_law_right)
@[irreducible] def F_law_right : List D → Sto → Rs D := lcall B_law_right
/-! ### law (0 _law_script, 1 _law_k, 2 _law_pen_here, 3 _law_turn, 4 _law_floor, 5 _law_stand, 6 _law_row, 7 _law_lap) -/
def b_law_1 : Ss := (.cons (.asg (.nm 4) (.call (Str.ofString "_law_drawn_floor") 2 F_drawn_floor_b (.cons (.var 2) (.cons (.int 9) .nil))))
    (.cons (.asg (.nm 5) (.call (Str.ofString "_law_drawn_stand") 2 F_drawn_stand_b (.cons (.var 2) (.cons (.var 4) .nil))))
    (.cons (.asg (.nm 6) (.meth .join (.str (Str.ofString "")) (.cons (.comp false (.r1 (.cons (.call (Str.ofString "_law_draw") 2 F_draw_b (.cons (.var 2) (.cons (.int 20) .nil))) .nil)) (.nm 7) .no (.call (Str.ofString "_law_pick") 2 F_pick_b (.cons (.var 2) (.cons (.str (Str.ofString "nesw")) .nil))) [((Str.ofString "_law_lap"), 7)]) .nil)))
    (.cons (.ife (.not (.call (Str.ofString "_law_right") 3 F_law_right (.cons (.var 4) (.cons (.var 5) (.cons (.var 6) .nil)))))
    (.cons (.ret (.bl false))
    .nil)
    .nil)
    .nil))))
def b_law_2 : Ss := (.cons (.asg (.nm 2) (.call (Str.ofString "_law_pen") 1 F_pen_b (.cons (.call (Str.ofString "_law_cell_at") 2 F_cell_at_a (.cons (.var 0) (.cons (.var 1) .nil))) .nil)))
    (.cons (.loop (.nm 3) (.r1 (.cons (.int 5) .nil)) b_law_1 [3, 4, 5, 6])
    .nil))
abbrev L_law_1 := WL (.nm 3) [3, 4, 5, 6] b_law_1
abbrev L_law_2 := WL (.nm 1) [1, 2, 3, 4, 5, 6] b_law_2
def ir_law : Ss := (.cons (.loop (.nm 1) (.r1 (.cons (.prim .max2 (.cons (.int 1) (.cons (.prim .min2 (.cons (.prim .len (.cons (.var 0) .nil)) (.cons (.int 4) .nil))) .nil))) .nil)) b_law_2 [1, 2, 3, 4, 5, 6])
    (.cons (.ret (.bl true))
    .nil))
def B_law : List D → Sto → Rs D := runF 1 8 (denSs ir_law)
@[irreducible] def F_law : List D → Sto → Rs D := lcall B_law
end Tm.K33
namespace Tm.K33
open PySem Tm Tm.Pg Tm.Lg
local macro_rules | `(tactic| tm_at "w") => `(tactic| conv => whnf)
local macro_rules | `(tactic| tm_at "go1") => `(tactic| first | tm_at "call" | refine AP.of rfl ?_ | refine BR.T rfl ?_ | refine BR.F rfl ?_ | refine AS.of rfl ?_ | refine AP.src rfl ?_)
local macro_rules | `(tactic| tm_at "go") => `(tactic| ((conv => whnf); repeat (tm_at "go1"; conv => whnf)))
local macro_rules | `(tactic| tm_at "call") => `(tactic| fail)
local macro_rules | `(tactic| tm_at "call") => `(tactic| ((with_reducible show AP (gMod _ _ _) _); refine AP.to (mod_eq (by omega)) ?_))
local macro_rules | `(tactic| tm_at "call") => `(tactic| ((with_reducible show AP (gDiv _ _ _) _); refine AP.to (div_eq (by omega) (by omega)) ?_))
local macro_rules | `(tactic| tm_at "call") => `(tactic| ((with_reducible show AP (gMulX _ _ _) _); refine AP.to (mul_eqL (by omega) (by omega)) ?_))
local macro_rules | `(tactic| tm_at "call") => `(tactic| ((with_reducible show AP (gMulX _ _ _) _); refine AP.to (mul_eqR (by omega) (by omega)) ?_))
local macro_rules | `(tactic| tm_at "call") => `(tactic| ((with_reducible show AP (r1I _ _) _); refine AP.src (r1_eq (by omega) (by omega)) ?_))
local macro_rules | `(tactic| tm_at "call") => `(tactic| ((with_reducible show AP (gInA _ _ _) _); refine AP.to (in_t2) ?_))
local macro_rules | `(tactic| tm_at "call") => `(tactic| ((with_reducible show AP (gNotInA _ _ _) _); refine AP.to (notin_t2) ?_))
local macro_rules | `(tactic| tm_at "call") => `(tactic| ((with_reducible show AP (gInA _ _ _) _); refine AP.to (in_l2) ?_))
local macro_rules | `(tactic| tm_at "call") => `(tactic| ((with_reducible show AP (gNotInA _ _ _) _); refine AP.to (notin_l2) ?_))
local macro_rules | `(tactic| tm_at "call") => `(tactic| ((with_reducible show AP (gInA _ _ _) _); refine AP.to (in_r2 rfl) ?_))
local macro_rules | `(tactic| tm_at "call") => `(tactic| ((with_reducible show AP (gNotInA _ _ _) _); refine AP.to (notin_r2 rfl) ?_))
local macro_rules | `(tactic| tm_at "call") => `(tactic| ((with_reducible show AP (gInA _ _ _) _); refine AP.to (in_t _ _ _) ?_))
local macro_rules | `(tactic| tm_at "call") => `(tactic| ((with_reducible show AP (gNotInA _ _ _) _); refine AP.to (notin_t _ _ _) ?_))
local macro_rules | `(tactic| tm_at "call") => `(tactic| ((with_reducible show AP (gInA _ _ _) _); refine AP.to (in_l _ _ _) ?_))
local macro_rules | `(tactic| tm_at "call") => `(tactic| ((with_reducible show AP (gNotInA _ _ _) _); refine AP.to (notin_l _ _ _) ?_))
local macro_rules | `(tactic| tm_at "call") => `(tactic| ((with_reducible show AP (gInA _ _ _) _); refine AP.to (in_r rfl) ?_))
local macro_rules | `(tactic| tm_at "call") => `(tactic| ((with_reducible show AP (gNotInA _ _ _) _); refine AP.to (notin_r rfl) ?_))
local macro_rules | `(tactic| tm_at "call") => `(tactic| ((with_reducible show AP (gIxA (.p (.str (Str.ofString "ensw"))) _ _) _); (refine letter_ap (by omega) (by omega) ?_; intro d)))
local macro_rules | `(tactic| tm_at "call") => `(tactic| ((with_reducible show AP (gAdd (.p (.tuple _)) _ _) _); refine AP.to (addT_eq (by first | (simp <;> omega) | omega)) ?_))
local macro_rules | `(tactic| tm_at "call") => `(tactic| ((with_reducible show AP (gAdd (.p (.list _)) _ _) _); refine AP.to (addL_eq (by first | (simp <;> omega) | omega)) ?_))
local macro_rules | `(tactic| tm_at "call") => `(tactic| ((with_reducible show AP (gEq (.p (eC _)) _ _) _); refine AP.to (eq_cell _ _ _) ?_))
local macro_rules | `(tactic| tm_at "call") => `(tactic| ((with_reducible show AP (gNe (.p (eC _)) _ _) _); refine AP.to (ne_cell _ _ _) ?_))
local macro_rules | `(tactic| tm_at "call") => `(tactic| ((with_reducible show AP (gIxA (.p (.tuple (_ ++ [_]))) _ _) _); refine AP.to (ixT_last) ?_))
local macro_rules | `(tactic| tm_at "call") => `(tactic| ((with_reducible show AP (gSortedX _ _) _); refine AP.to (sorted_cells rfl) ?_))
local macro_rules | `(tactic| tm_at "call") => `(tactic| ((with_reducible show AP (valI (.p (.str (Str.ofString "ensw"))) _) _); refine AP.src (ensw_val _) ?_))
local macro_rules | `(tactic| tm_at "call") => `(tactic| ((with_reducible show AP (gNe (.p (.list _)) (.p (.list [])) _) _); refine AP.to (ne_nil (shaped_ints _ _)) ?_))
local macro_rules | `(tactic| tm_at "call") => `(tactic| ((with_reducible show AP (gAppend (.r _) _ _) _); refine AP.of (append_eq rfl (by first | (simp <;> omega) | omega)) ?_))
local macro_rules | `(tactic| tm_at "call") => `(tactic| ((with_reducible show AP (gIxA (.p (.tuple (List.map _ _))) _ _) _); (refine ixT_ap (by omega) (by omega) ?_; intro a ha)))
local macro_rules | `(tactic| tm_at "call") => `(tactic| ((with_reducible show AP (gIxA (.p (.list (List.map _ _))) _ _) _); (refine ixL_ap (by omega) (by omega) ?_; intro a ha)))
local macro_rules | `(tactic| tm_at "nt1") => `(tactic| first | assumption | exact Nt.non | exact Nt.bool _ | exact nt_floor (by assumption) | exact nt_stand (by assumption) (by assumption) (by assumption) | exact nt_pair (by assumption) (by assumption) | exact nt_turns (by omega) | exact nt_cell (Floor.range (by assumption) _ (by assumption)) | exact nt_ly (by assumption) | exact nt_row (n := 100) (by omega) | exact nt_range (by omega) | exact NtA.nil' | apply Nt.tup | apply Nt.lst | apply NtA.cons')
local macro_rules | `(tactic| tm_at "nt") => `(tactic| repeat' tm_at "nt1")
local macro_rules | `(tactic| tm_at "call") => `(tactic| ((with_reducible show AP (gRepr [.p _] _) _); refine AP.to (repr_nt (by tm_at "nt") (by decide) (by decide)) ?_))
local macro_rules | `(tactic| tm_at "call") => `(tactic| ((with_reducible show AP (gNe (.p (.str _)) (.p (.str _)) _) _); refine AP.to (ne_same _ _) ?_))
local macro_rules | `(tactic| tm_at "call") => `(tactic| ((with_reducible show AP (r1I _ _) _); refine AP.src (r1_eq (by first | (split <;> split <;> omega) | omega) (by first | (split <;> split <;> omega) | omega)) ?_))
local macro_rules | `(tactic| tm_at "call") => `(tactic| ((with_reducible show AP (gSl (.p (.tuple (List.map _ _))) none (some _) _) _); refine AP.to (slT_take (by omega)) ?_))
local macro_rules | `(tactic| tm_at "call") => `(tactic| ((with_reducible show AP (gSl (.p (.tuple (List.map _ _))) (some _) none _) _); refine AP.to (slT_drop (by omega)) ?_))
local macro_rules | `(tactic| tm_at "call") => `(tactic| ((with_reducible show AP (gEq (.p (.int _)) (.p (.int _)) _) _); refine AP.to (eq_int _ _ _) ?_))
local macro_rules | `(tactic| tm_at "call") => `(tactic| ((with_reducible show AP (gNe (.p (.int _)) (.p (.int _)) _) _); refine AP.to (ne_int _ _ _) ?_))
local macro_rules | `(tactic| tm_at "call") => `(tactic| ((with_reducible show AP (gIxA (.r _) _ _) _); (refine ixR_ap rfl (by omega) (by first | omega | (simp <;> omega) | omega) ?_; intro a ha)))
local macro_rules | `(tactic| tm_at "call") => `(tactic| ((with_reducible show AS (fSetA (.r _) _ _ _) _); refine AS.of (setR_eq rfl (by omega) (by first | omega | (simp <;> omega) | omega)) ?_))
local macro_rules | `(tactic| tm_at "call") => `(tactic| ((with_reducible show AP (gIndexT _ [.p (eC _)] _) _); refine AP.to (index_cell (by assumption)) ?_))
local macro_rules | `(tactic| tm_at "call") => `(tactic| ((with_reducible show AP (rngD 0 _ _) _); refine AP.to (rng0_eq (by omega) (by omega)) ?_))
local macro_rules | `(tactic| tm_at "call") => `(tactic| ((with_reducible show AP (rngD 1 _ _) _); refine AP.to (rng1_eq (by omega) (by omega)) ?_))
local macro_rules | `(tactic| tm_at "call") => `(tactic| ((with_reducible show AP (rngD 2 _ _) _); refine AP.of (rng2_eq (by omega) (by omega)) ?_))
local macro_rules | `(tactic| tm_at "call") => `(tactic| ((with_reducible show AP (gJoin (.p (.str (Str.ofString ""))) _ _) _); refine AP.to (join_row (by first | omega | (simp <;> omega) | omega) _) ?_))
local macro_rules | `(tactic| tm_at "call") => `(tactic| ((with_reducible show AP (gAdd (.p (.str (rowS _))) _ _) _); refine AP.to (add_row (by first | omega | (simp <;> omega) | omega) (by first | omega | (simp <;> omega) | omega) _) ?_))
local macro_rules | `(tactic| tm_at "call") => `(tactic| ((with_reducible show AP (gLen [.p (.str (rowS _))] _) _); refine AP.to (len_row (by first | omega | (simp <;> omega) | omega) _) ?_))
local macro_rules | `(tactic| tm_at "call") => `(tactic| ((with_reducible show AP (gSl (.p (.str (rowS _))) none (some _) _) _); refine AP.to (cut_rowI (by omega) (by omega) _) ?_))
local macro_rules | `(tactic| tm_at "call") => `(tactic| ((with_reducible show AP (gSl (.p (.str (rowS _))) (some _) none _) _); refine AP.to (cutD_row (by omega) (by omega) _) ?_))
local macro_rules | `(tactic| tm_at "call") => `(tactic| ((with_reducible show AP (gRev (.p (.str (rowS _))) _) _); refine AP.to (rev_row (by omega) _) ?_))
local macro_rules | `(tactic| tm_at "call") => `(tactic| ((with_reducible show AP (gIxA (.p (.str (rowS (_ ++ [_])))) _ _) _); refine AP.to (last_row (by first | omega | (simp <;> omega) | omega) _ _) ?_))
local macro_rules | `(tactic| tm_at "call") => `(tactic| ((with_reducible show AP (F_beside _ _) _); refine AP.to (beside_eq _ _ _) ?_))
local macro_rules | `(tactic| tm_at "call") => `(tactic| ((with_reducible show AP (F_rolled _ _) _); refine AP.to (rolled_eq _ _ _) ?_))
local macro_rules | `(tactic| tm_at "call") => `(tactic| ((with_reducible show AP (F_are_some _ _) _); refine AP.to (are_some_eq _ _ _ _) ?_))
local macro_rules | `(tactic| tm_at "call") => `(tactic| ((with_reducible show AP (F_are_some _ _) _); refine AP.to (are_some_yes _ (by first | omega | (simp <;> omega) | omega) (by first | omega | (simp <;> omega) | omega)) ?_))
local macro_rules | `(tactic| tm_at "call") => `(tactic| ((with_reducible show AP (F_is_cell _ _) _); refine AP.to (is_cell_eq (by first | assumption | exact Floor.range ‹_› _ ‹_›) _) ?_))
local macro_rules | `(tactic| tm_at "call") => `(tactic| ((with_reducible show AP (gAll _ _) _); refine AP.to (bools_all _ _ _) ?_))
local macro_rules | `(tactic| tm_at "call") => `(tactic| ((with_reducible show AP (gAll _ _) _); refine AP.to (all_true _ _) ?_))
local macro_rules | `(tactic| tm_at "call") => `(tactic| ((with_reducible show AP (gLess _ _ _) _); refine AP.to (less_cell _ _ _) ?_))
local macro_rules | `(tactic| tm_at "call") => `(tactic| ((with_reducible show AP (F_rises _ _) _); refine AP.to (rises_eq (by first | assumption | exact Floor.rises ‹_›) _) ?_))
local macro_rules | `(tactic| tm_at "call") => `(tactic| ((with_reducible show AP (F_is_floor _ _) _); refine AP.to (is_floor_eq (by assumption) _) ?_))
local macro_rules | `(tactic| tm_at "call") => `(tactic| ((with_reducible show AP (F_need_floor _ _) _); refine AP.to (need_floor_eq (by assumption) _) ?_))
local macro_rules | `(tactic| tm_at "call") => `(tactic| ((with_reducible show AP (gInA _ _ _) _); refine AP.to (inA_yes (by assumption)) ?_))
local macro_rules | `(tactic| tm_at "call") => `(tactic| ((with_reducible show AP (gNotInA _ _ _) _); refine AP.to (notInA_yes (by assumption)) ?_))
local macro_rules | `(tactic| tm_at "call") => `(tactic| ((with_reducible show AP (gNotInA _ _ _) _); refine AP.to (notInA_no (by assumption)) ?_))
local macro_rules | `(tactic| tm_at "call") => `(tactic| ((with_reducible show AP (F_is_cell_of _ _) _); refine AP.to (is_cell_of_eq (by assumption) (by assumption) _) ?_))
local macro_rules | `(tactic| tm_at "call") => `(tactic| ((with_reducible show AP (F_need_cell _ _) _); refine AP.to (need_cell_eq (by assumption) (by assumption) _) ?_))
local macro_rules | `(tactic| tm_at "call") => `(tactic| ((with_reducible show AP (F_is_lying _ _) _); refine AP.to (is_lying_eq (by assumption) _) ?_))
local macro_rules | `(tactic| tm_at "call") => `(tactic| ((with_reducible show AP (F_need_lying _ _) _); refine AP.to (need_lying_eq (by assumption) _) ?_))
local macro_rules | `(tactic| tm_at "call") => `(tactic| ((with_reducible show AP (F_is_letter _ _) _); refine AP.to (is_letter_eq _ _) ?_))
local macro_rules | `(tactic| tm_at "call") => `(tactic| ((with_reducible show AP (gInA _ _ _) _); refine AP.to (letter_in _ _) ?_))
local macro_rules | `(tactic| tm_at "call") => `(tactic| ((with_reducible show AP (valI _ _) _); refine AP.src (row_val (by omega)) ?_))
local macro_rules | `(tactic| tm_at "call") => `(tactic| ((with_reducible show AP (enI _ _) _); refine AP.src (row_enum (by omega)) ?_))
local macro_rules | `(tactic| tm_at "call") => `(tactic| ((with_reducible show AP (F_need_row _ _) _); refine AP.to (need_row_eq (by omega) _) ?_))
local macro_rules | `(tactic| tm_at "call") => `(tactic| ((with_reducible show AP (F_off_at _ _) _); refine AP.to (off_at_eq _ _ (by omega) _) ?_))
local macro_rules | `(tactic| tm_at "call") => `(tactic| ((with_reducible show AP (F_off_at _ _) _); refine AP.to (off_at_let (by omega) (by assumption) _) ?_))
local macro_rules | `(tactic| tm_at "call") => `(tactic| ((with_reducible show AP (F_first_off _ _) _); refine AP.to (first_off_eq (by assumption) (by assumption) (by omega) _) ?_))
local macro_rules | `(tactic| tm_at "call") => `(tactic| ((with_reducible show AP (F_need_let _ _) _); refine AP.to (need_let_eq (by omega) (by assumption) _) ?_))
local macro_rules | `(tactic| tm_at "call") => `(tactic| ((with_reducible show AP (F_stand_by _ _) _); refine AP.to (stand_by_eq _ _ (by omega) _) ?_))
local macro_rules | `(tactic| tm_at "call") => `(tactic| ((with_reducible show AP (F_stand_behind _ _) _); refine AP.to (stand_behind_eq (by assumption) (by assumption) (by assumption) (by omega) (by assumption) _) ?_))
local macro_rules | `(tactic| tm_at "call") => `(tactic| ((with_reducible show AP (F_is_stand _ _) _); refine AP.to (is_stand_eq (by assumption) (by assumption) (by assumption) _) ?_))
local macro_rules | `(tactic| tm_at "call") => `(tactic| ((with_reducible show AP (F_need_stand _ _) _); refine AP.to (need_stand_eq (by assumption) (by assumption) (by assumption) _) ?_))
local macro_rules | `(tactic| tm_at "call") => `(tactic| ((with_reducible show AP (F_traded _ _) _); refine AP.to (traded_eq (by assumption) (by assumption) (by omega) (by first | omega | (simp <;> omega) | omega) _) ?_))
local macro_rules | `(tactic| tm_at "call") => `(tactic| ((with_reducible show AP (F_need_word _ _) _); refine AP.to (need_word_eq _ _) ?_))
local macro_rules | `(tactic| tm_at "call") => `(tactic| ((with_reducible show AP (F_turned_cell _ _) _); refine AP.to (turned_cell_eq _ _ _) ?_))
local macro_rules | `(tactic| tm_at "call") => `(tactic| ((with_reducible show AP (F_turned_lying _ _) _); refine AP.to (turned_lying_eq _ (by assumption) _) ?_))
local macro_rules | `(tactic| tm_at "call") => `(tactic| ((with_reducible show AP (F_turned_by _ _) _); refine AP.to (turned_by_eq _ _ _) ?_))
local macro_rules | `(tactic| tm_at "call") => `(tactic| ((with_reducible show AP (F_turned_floor _ _) _); refine AP.to (turned_floor_eq _ (by assumption) _) ?_))
local macro_rules | `(tactic| tm_at "call") => `(tactic| ((with_reducible show AP (F_turned_stand _ _) _); refine AP.to (turned_stand_eq _ (by assumption) (by assumption) (by assumption) _) ?_))
local macro_rules | `(tactic| tm_at "call") => `(tactic| ((with_reducible show AP (F_turned_row _ _) _); refine AP.to (turned_row_eq _ (by omega) _) ?_))
local macro_rules | `(tactic| tm_at "call") => `(tactic| ((with_reducible show AP (F_turned_spots _ _) _); refine AP.to (turned_spots_eq _ (by assumption) _) ?_))
local macro_rules | `(tactic| tm_at "call") => `(tactic| ((with_reducible show AP (F_draw_b _ _) _); (refine draw_b_ap rfl (by assumption) (by omega) (by omega) (by omega) ?_; intro r p' h0 h1 P')))
local macro_rules | `(tactic| tm_at "call") => `(tactic| ((with_reducible show AP (valI (.p (.str (Str.ofString "nesw"))) _) _); refine AP.src (nesw_val _) ?_))
local macro_rules | `(tactic| tm_at "call") => `(tactic| ((with_reducible show AP (gIxA (.p (.str (Str.ofString "nesw"))) _ _) _); (refine nesw_ap (by omega) (by omega) ?_; intro d)))
local macro_rules | `(tactic| tm_at "call") => `(tactic| ((with_reducible show AP (F_pick_b [.r _, .p (.str (Str.ofString "nesw"))] _) _); (refine pick_b_str rfl (by assumption) (by omega) ?_; intro d p' P')))
local macro_rules | `(tactic| tm_at "call") => `(tactic| ((with_reducible show AP (F_beside_b _ _) _); refine AP.to (beside_b_eq _ _ _) ?_))
local macro_rules | `(tactic| tm_at "call") => `(tactic| ((with_reducible show AP (F_tip_b _ _) _); refine AP.to (tip_b_eq _ _ _) ?_))
local macro_rules | `(tactic| tm_at "call") => `(tactic| ((with_reducible show AP (F_drawn_stand_b _ _) _); (refine drawn_stand_b_ap rfl (by assumption) (by omega) (by assumption) ?_; intro c l p' hc hl P')))
local macro_rules | `(tactic| tm_at "call") => `(tactic| ((with_reducible show AP (F_drawn_floor_b _ _) _); (refine drawn_floor_b_ap rfl (by assumption) (by omega) (by omega) (by omega) ?_; intro cs p' F h0 P')))
def namesOf (f : List Nat) (base cs : List Cell) (h : Cell → Cell) : List Nat := f ++ base.map fun c => 6 + cs.idxOf (h c)
theorem names_step (w : Wd) {f : List Nat} {base cs : List Cell} {h : Cell → Cell} (hf : ∀ x ∈ f, x < 6) (hh : ∀ c ∈ base, h c ∈ cs) :
    (namesOf f base cs h).map (fun s => (tSp w cs).getD s 0) = namesOf (f.map fun s => (faceN w).getD s 0) base (tF w cs) (fun c => tC w (h c)) := by
  have hl : (faceN w).length = 6 := by cases w <;> rfl
  unfold namesOf
  rw [List.map_append, List.map_map]
  congr 1
  · refine List.map_congr_left fun s hs => ?_
    have := hf s hs
    unfold tSp
    rw [List.getD_eq_getElem?_getD, List.getD_eq_getElem?_getD, List.getElem?_append_left (by omega)]
  · refine List.map_congr_left fun c hc => ?_
    have hi := List.idxOf_lt_length_of_mem (hh c hc)
    show (tSp w cs).getD (6 + cs.idxOf (h c)) 0 = _
    unfold tSp
    rw [List.getD_eq_getElem?_getD, List.getElem?_append_right (by omega), hl, show 6 + cs.idxOf (h c) - 6 = cs.idxOf (h c) by omega, List.getElem?_map, List.getElem?_eq_getElem hi, List.getElem_idxOf hi]
    rfl
theorem face_lt (w : Wd) {f : List Nat} (hf : ∀ x ∈ f, x < 6) : ∀ x ∈ f.map (fun s => (faceN w).getD s 0), x < 6 := by
  intro x hx
  obtain ⟨s, hs, rfl⟩ := List.mem_map.mp hx
  have h6 := hf s hs
  obtain rfl | rfl | rfl | rfl | rfl | rfl : s = 0 ∨ s = 1 ∨ s = 2 ∨ s = 3 ∨ s = 4 ∨ s = 5 := by omega
  all_goals (cases w <;> decide)
theorem all_loop (A : PyData) (base : List Cell) (Q : Out → Sto → Prop) (hb : base.length ≤ 9) : ∀ (ws : List Wd) (cs : List Cell) (c : Cell) (l : Ly) (r : List Dir) (f : List Nat) (h : Cell → Cell), Floor cs → c ∈ cs → l ∈ lyings → r.length ≤ 1000 → (∀ x ∈ f, x < 6) → f.length = 6 → (∀ c ∈ base, h c ∈ cs) →
    Q (.nx [some (.p A), some (.p (.tuple ((TFs ws cs).map eC))), some (.p (eSt (TCs ws c) (TLs ws l))), some (.p (eR (r.map (TDs ws)))), some (.p (eN (namesOf (FNs ws f) base (TFs ws cs) fun c => TCs ws (h c)))), none, none, none]) [] →
    L_law_turned_all_1 (ws.map fun w => .one (.p (eW w))) [some (.p A), some (.p (.tuple (cs.map eC))), some (.p (eSt c l)), some (.p (eR r)), some (.p (eN (namesOf f base cs h))), none, none, none] [] Q
  | [], cs, c, l, r, f, h, _, _, _, _, _, _, _, q => WL.nil (by
    have e : r.map (TDs []) = r := by
      have : TDs [] = id := rfl
      rw [this, List.map_id]
    rw [e] at q; exact q)
  | w :: ws, cs, c, l, r, f, h, F, hc, hl, hr, hf, hf6, hh, q => by
    have hl2 : (namesOf f base cs h).length ≤ 15 := by unfold namesOf; rw [List.length_append, List.length_map]; omega
    have hlt : ∀ s ∈ namesOf f base cs h, s < (tSp w cs).length := by
      have e6 : (faceN w).length = 6 := by cases w <;> rfl
      have e7 : (tSp w cs).length = 6 + cs.length := by unfold tSp; rw [List.length_append, List.length_map, e6]
      intro s hs
      unfold namesOf at hs
      rcases List.mem_append.mp hs with z | z
      · have := hf s z; omega
      · obtain ⟨c0, hc0, rfl⟩ := List.mem_map.mp z
        have := List.idxOf_lt_length_of_mem (hh c0 hc0); omega
    refine WL.cons ?_
    tm_at "go"
    refine WK.map iN (fun s => iN ((tSp w cs).getD s 0)) _ (fun s hs => ?_) ?_
    · have hs' := hlt s hs
      tm_at "go"
      rename_i x hx
      have e : x = (tSp w cs).getD s 0 := by
        rw [show ((s : Nat) : Int).toNat = s by omega] at hx
        rw [List.getD_eq_getElem?_getD, hx]; rfl
      subst e
      exact ⟨rfl, rfl⟩
    · rw [show (namesOf f base cs h).map (fun s => iN ((tSp w cs).getD s 0)) = ((namesOf f base cs h).map fun s => (tSp w cs).getD s 0).map iN by rw [List.map_map]; rfl, names_step w hf hh]
      tm_at "go"
      refine all_loop A base Q hb ws (tF w cs) (tC w c) (tL w l) (r.map (tD w)) _ (fun c => tC w (h c)) (tF_floor F) (tF_mem.mpr hc) (tL_mem w l hl) (by simpa using hr) (face_lt w hf) (by simpa using hf6) (fun c hc => tF_mem.mpr (hh c hc)) ?_
      rw [List.map_map]
      exact q
def namesW (ws : List Wd) (cs : List Cell) : List Nat := namesOf (FNs ws [0, 1, 2, 3, 4, 5]) cs (TFs ws cs) (TCs ws)
theorem names_start {cs : List Cell} (F : Floor cs) : List.range (6 + cs.length) = namesOf [0, 1, 2, 3, 4, 5] cs cs id := by
  unfold namesOf
  have nd := rises_nodup F.rises
  refine List.ext_getElem? fun i => ?_
  by_cases h6 : i < 6
  · rw [List.getElem?_range (by omega), List.getElem?_append_left (by simpa using h6)]
    obtain rfl | rfl | rfl | rfl | rfl | rfl : i = 0 ∨ i = 1 ∨ i = 2 ∨ i = 3 ∨ i = 4 ∨ i = 5 := by omega
    all_goals rfl
  · rw [List.getElem?_append_right (by simpa using h6)]
    show _ = (cs.map _)[i - 6]?
    rw [List.getElem?_map]
    by_cases hi : i < 6 + cs.length
    · rw [List.getElem?_range hi, List.getElem?_eq_getElem (show i - 6 < cs.length by omega)]
      show some i = some (6 + cs.idxOf (id cs[i - 6]))
      rw [id, nd.idxOf_getElem]
      congr 1; omega
    · rw [List.getElem?_eq_none (by simpa using hi), List.getElem?_eq_none (by omega)]; rfl
def outW (ws : List Wd) (cs : List Cell) (c : Cell) (l : Ly) (r : List Dir) : PyData := .tuple [.tuple ((TFs ws cs).map eC), eSt (TCs ws c) (TLs ws l), eR (r.map (TDs ws)), eN (namesW ws cs)]
theorem all_eq (ws : List Wd) {cs : List Cell} (F : Floor cs) {c : Cell} {l : Ly} {r : List Dir} (hc : c ∈ cs) (hl : l ∈ lyings) (hr : r.length ≤ 1000) (S : Sto) :
    F_law_turned_all [.p (.list (ws.map eW)), .p (.tuple (cs.map eC)), .p (eSt c l), .p (eR r)] S = some (.p (outW ws cs c l r), S) := by
  unfold F_law_turned_all B_law_turned_all
  refine pure_in rfl rfl ?_
  have hm : (cs.map eC).length = cs.length := List.length_map _
  have hF := F.most
  have hn : (6 + ((cs.map eC).length : Int)).toNat = 6 + cs.length := by omega
  tm_at "go"
  rw [rowOf_map, hn, names_start F]
  refine all_loop _ cs _ hF ws cs c l r _ id F hc hl hr (by decide) rfl (fun c hc => hc) ?_
  tm_at "go"
  rfl
/-! the laws of turns -/
theorem namesW_eq {ws vs : List Wd} {cs : List Cell} (F : Floor cs) (h : ∀ c, TCs ws c = TCs vs c) (hf : FNs ws [0, 1, 2, 3, 4, 5] = FNs vs [0, 1, 2, 3, 4, 5]) : namesW ws cs = namesW vs cs := by
  unfold namesW
  rw [hf, TFs_eq F h, funext h]
theorem outW_eq {ws vs : List Wd} {cs : List Cell} (F : Floor cs) {c : Cell} {l : Ly} {r : List Dir} (hl : TLs ws l = TLs vs l) (hd : ∀ d, TDs ws d = TDs vs d) (h : ∀ c, TCs ws c = TCs vs c) (hf : FNs ws [0, 1, 2, 3, 4, 5] = FNs vs [0, 1, 2, 3, 4, 5]) : outW ws cs c l r = outW vs cs c l r := by
  unfold outW
  rw [namesW_eq F h hf, TFs_eq F h, h c, hl, funext hd]
theorem out_nil {cs : List Cell} (F : Floor cs) {c : Cell} {l : Ly} {r : List Dir} : outW [] cs c l r = .tuple [.tuple (cs.map eC), eSt c l, eR r, eN (List.range (6 + cs.length))] := by
  unfold outW namesW
  have e : r.map (TDs []) = r := by
    have : TDs [] = id := rfl
    rw [this, List.map_id]
  rw [e, names_start F]
  rfl
theorem left4 {cs : List Cell} (F : Floor cs) {c : Cell} {l : Ly} {r : List Dir} : outW [.left, .left, .left, .left] cs c l r = outW [] cs c l r := by
  refine outW_eq F ?_ (fun d => by cases d <;> rfl) (fun c => ?_) rfl
  · obtain ⟨x, y, z⟩ := l
    simp only [TLs, tL]
    refine Prod.ext rfl (Prod.ext ?_ ?_) <;> simp only <;> omega
  · obtain ⟨x, y⟩ := c
    simp only [TCs, tC]
    refine Prod.ext ?_ ?_ <;> simp only <;> omega
theorem mirror2 {cs : List Cell} (F : Floor cs) {c : Cell} {l : Ly} {r : List Dir} (hl : l ∈ lyings) : outW [.mirror, .mirror] cs c l r = outW [] cs c l r := by
  refine outW_eq F ?_ (fun d => by cases d <;> rfl) (fun c => ?_) rfl
  · exact (by decide +kernel : ∀ l ∈ lyings, TLs [.mirror, .mirror] l = TLs [] l) l hl
  · obtain ⟨x, y⟩ := c
    simp only [TCs, tC]
    refine Prod.ext ?_ ?_ <;> simp only <;> omega
theorem both_ways {cs : List Cell} (F : Floor cs) {c : Cell} {l : Ly} {r : List Dir} (hl : l ∈ lyings) : outW [.mirror, .left] cs c l r = outW [.left, .left, .left, .mirror] cs c l r := by
  refine outW_eq F ?_ (fun d => by cases d <;> rfl) (fun c => ?_) rfl
  · exact (by decide +kernel : ∀ l ∈ lyings, TLs [.mirror, .left] l = TLs [.left, .left, .left, .mirror] l) l hl
  · obtain ⟨x, y⟩ := c
    simp only [TCs, tC]
    refine Prod.ext ?_ ?_ <;> simp only <;> omega
theorem names_perm {cs : List Cell} (F : Floor cs) (w : Wd) : (namesW [w] cs).Perm (List.range (6 + cs.length)) := by
  rw [names_start F]
  have nd := rises_nodup F.rises
  unfold namesW namesOf
  refine List.Perm.append (by cases w <;> decide) ?_
  have e1 : cs.map (fun c => 6 + cs.idxOf (id c)) = (List.range cs.length).map (6 + ·) := by
    refine List.ext_getElem? fun i => ?_
    rw [List.getElem?_map, List.getElem?_map]
    by_cases hi : i < cs.length
    · rw [List.getElem?_eq_getElem hi, List.getElem?_range hi]
      show some (6 + cs.idxOf cs[i]) = _
      rw [nd.idxOf_getElem]; rfl
    · rw [List.getElem?_eq_none (by omega), List.getElem?_eq_none (by simpa using hi)]; rfl
  have hF2 : Floor (tF w cs) := tF_floor F
  have nd2 := rises_nodup hF2.rises
  have e2 : (tF w cs).map (fun c => 6 + (tF w cs).idxOf c) = (List.range cs.length).map (6 + ·) := by
    refine List.ext_getElem? fun i => ?_
    rw [List.getElem?_map, List.getElem?_map]
    have hl : (tF w cs).length = cs.length := tF_len
    by_cases hi : i < cs.length
    · rw [List.getElem?_eq_getElem (by omega), List.getElem?_range hi]
      show some (6 + (tF w cs).idxOf (tF w cs)[i]) = _
      rw [nd2.idxOf_getElem]; rfl
    · rw [List.getElem?_eq_none (by omega), List.getElem?_eq_none (by simpa using hi)]; rfl
  rw [e1, ← e2]
  have e3 : cs.map (fun c => 6 + (TFs [w] cs).idxOf (TCs [w] c)) = (cs.map (tC w)).map fun c => 6 + (tF w cs).idxOf c := by rw [List.map_map]; rfl
  rw [e3]
  exact (sortC_perm _).symm.map _
theorem right_eq {cs : List Cell} (F : Floor cs) {c : Cell} {l : Ly} {r : List Dir} (hc : c ∈ cs) (hl : l ∈ lyings) (hr : r.length ≤ 100) (S : Sto) : F_law_right [.p (.tuple (cs.map eC)), .p (eSt c l), .p (eR r)] S = some (.p (.bool true), S) := by
  unfold F_law_right B_law_right
  refine pure_in rfl rfl ?_
  have hm : (cs.map eC).length = cs.length := List.length_map _
  have hF := F.most
  have hn : (6 + ((cs.map eC).length : Int)).toNat = 6 + cs.length := by omega
  have sh0 : SeqAt.shaped (.tuple [.tuple (cs.map eC), eSt c l, eR r, eN (List.range (6 + cs.length))]) = true := by
    have : Nt 3000 4 (.tuple [.tuple (cs.map eC), eSt c l, eR r, eN (List.range (6 + cs.length))]) := by
      refine Nt.up (Nt.tup (NtA.cons' (nt_floor F) (NtA.cons' (nt_stand F hc hl) (NtA.cons' (nt_row hr) (NtA.cons' (nt_range (by omega)) NtA.nil'))))) (by decide) (by decide)
    exact this.shaped (by decide)
  have o1 := fun S => all_eq [.left, .left, .left, .left] F hc hl (show r.length ≤ 1000 by omega) S
  have o2 := fun S => all_eq [.mirror, .mirror] F hc hl (show r.length ≤ 1000 by omega) S
  have o3 := fun S => all_eq [.mirror, .left] F hc hl (show r.length ≤ 1000 by omega) S
  have o4 := fun S => all_eq [.left, .left, .left, .mirror] F hc hl (show r.length ≤ 1000 by omega) S
  simp only [left4 F, out_nil F] at o1
  simp only [mirror2 F hl, out_nil F] at o2
  simp only [both_ways F hl] at o3
  have sh1 : SeqAt.shaped (outW [.left, .left, .left, .mirror] cs c l r) = true := by
    have F' := TFs_floor [.left, .left, .left, .mirror] F
    have hc' := (TFs_mem [.left, .left, .left, .mirror]).mpr hc
    have hl' := TLs_mem [.left, .left, .left, .mirror] hl
    have : Nt 3000 4 (outW [.left, .left, .left, .mirror] cs c l r) := by
      refine Nt.up (Nt.tup (NtA.cons' (nt_floor F') (NtA.cons' (nt_stand F' hc' hl') (NtA.cons' (nt_row (n := 100) (by simpa using hr)) (NtA.cons' (nt_nats (fun x hx => ?_) ?_) NtA.nil'))))) (by decide) (by decide)
      · unfold namesW namesOf at hx
        rcases List.mem_append.mp hx with z | z
        · have : ∀ x ∈ FNs [.left, .left, .left, .mirror] [0, 1, 2, 3, 4, 5], x < 1000000 := by decide
          exact this x z
        · obtain ⟨c0, hc0, rfl⟩ := List.mem_map.mp z
          have h1 := List.idxOf_lt_length_of_mem ((TFs_mem [.left, .left, .left, .mirror]).mpr hc0)
          have h2 := F'.most
          omega
      · unfold namesW namesOf
        rw [List.length_append, List.length_map]
        show 6 + cs.length ≤ 30
        omega
    exact this.shaped (by decide)
  tm_at "go"
  rw [hn]
  refine AP.to (o1 _) ?_
  tm_at "go"
  refine AP.to (ne_refl sh0) ?_
  tm_at "go"
  refine AP.to (o2 _) ?_
  tm_at "go"
  refine AP.to (ne_refl sh0) ?_
  tm_at "go"
  refine AP.to (o3 _) ?_
  tm_at "go"
  refine AP.to (o4 _) ?_
  tm_at "go"
  refine AP.to (ne_refl sh1) ?_
  tm_at "go"
  refine WL.cons (x := .one (.p (eW .left))) ?_
  tm_at "go"
  refine AP.to (all_eq [.left] F hc hl (show r.length ≤ 1000 by omega) _) ?_
  have F' := TFs_floor [.left] F
  have hc' := (TFs_mem [.left]).mpr hc
  have hl' := TLs_mem [.left] hl
  tm_at "go"
  refine AP.to (sorted_nats (names_perm F .left)) ?_
  tm_at "go"
  rw [hn]
  refine AP.to (ne_refl (shaped_nat _).2) ?_
  tm_at "go"
  refine BR.F ?_ ?_
  · show (!decide _) = false
    rw [decide_eq_true]; · rfl
    rw [List.length_map, List.length_map]
    exact congrArg _ tF_len
  tm_at "go"
  refine BR.F ?_ ?_
  · show (!decide _) = false
    rw [decide_eq_true]; · rfl
    rw [List.length_map]
  tm_at "go"
  clear F' hc' hl'
  refine WL.cons (x := .one (.p (eW .mirror))) ?_
  tm_at "go"
  refine AP.to (all_eq [.mirror] F hc hl (show r.length ≤ 1000 by omega) _) ?_
  have F' := TFs_floor [.mirror] F
  have hc' := (TFs_mem [.mirror]).mpr hc
  have hl' := TLs_mem [.mirror] hl
  tm_at "go"
  refine AP.to (sorted_nats (names_perm F .mirror)) ?_
  tm_at "go"
  rw [hn]
  refine AP.to (ne_refl (shaped_nat _).2) ?_
  tm_at "go"
  refine BR.F ?_ ?_
  · show (!decide _) = false
    rw [decide_eq_true]; · rfl
    rw [List.length_map, List.length_map]
    exact congrArg _ tF_len
  tm_at "go"
  refine BR.F ?_ ?_
  · show (!decide _) = false
    rw [decide_eq_true]; · rfl
    rw [List.length_map]
  tm_at "go"
  clear F' hc' hl'
  refine WL.nil ?_
  tm_at "go"
  rfl
local macro_rules | `(tactic| tm_at "call") => `(tactic| ((with_reducible show AP (F_law_right _ _) _); refine AP.to (right_eq (by assumption) (by assumption) (by assumption) (by omega) _) ?_))
theorem lap_ok {n : Nat} {p : Ob} (P : Pen n p) (hn : n ≤ 100000) (a0 a1 d : PyData) (Q : Out → Sto → Prop) (I : Ev → Sto → Prop)
    (q : ∀ p', Pen (n + 1000) p' → I [some (.p a0), some (.p a1), some (.r 0), none, none, none, none, none] [p']) :
    wG (.nm 3) (.one (.p d)) [some (.p a0), some (.p a1), some (.r 0), none, none, none, none, none] [p] fun ρ1 S1 => wSs b_law_1 ρ1 S1 fun o S2 => loopK [3, 4, 5, 6] S1.length o S2 Q I := by
  tm_at "go"
  rename_i cs p1 F hcs P1 c l p2 hc hl P2 r p3 r0 r1 P3
  refine WK.invN (fun j acc S => ∃ (w : List Dir) (p : Ob), acc = w.map eL ∧ w.length = j ∧ Pen (n + 200 + j) p ∧ S = [p]) 0 ⟨[], p3, rfl, rfl, P3.up (by omega), rfl⟩ ?_ ?_
  · rintro j x acc S hj ⟨w, p4, rfl, hw, P4, rfl⟩
    obtain ⟨rfl, hj⟩ := range_at hj
    tm_at "go"
    rename_i d p5 P5
    exact ⟨w ++ [d], p5, by simp, by simp; omega, P5.up (by omega), rfl⟩
  · rintro acc S ⟨w, p4, rfl, hw, P4, rfl⟩
    rw [range_len] at hw P4
    tm_at "go"
    exact q p4 (P4.up (by omega))
theorem law_true : ∀ ns : List Int, ns.length ≤ 63 → ∃ S, F_law [.p (.list (ns.map .int))] [] = some (.p (.bool true), S) := by
  intro ns hns
  refine ⟨[], ?_⟩
  unfold F_law B_law
  refine pure_in rfl rfl ?_
  have hl : (ns.map PyData.int).length = ns.length := List.length_map _
  tm_at "go"
  refine WL.inv (fun _ ρ S => ρ = [some (.p (.list (ns.map .int))), none, none, none, none, none, none, none] ∧ S = []) 0 ⟨rfl, rfl⟩ ?_ ?_
  · rintro j x ρ S hj ⟨rfl, rfl⟩
    obtain ⟨rfl, hj⟩ := range_at hj
    tm_at "go"
    refine cell_at_ap fun x => ?_
    tm_at "go"
    refine pen_b_ap fun p P => ?_
    tm_at "go"
    refine WL.inv (fun j' ρ S => ∃ p, Pen (1000 * j') p ∧ ρ = [some (.p (.list (ns.map .int))), some (.p (.int (j : Nat))), some (.r 0), none, none, none, none, none] ∧ S = [p]) 0 ⟨p, P, rfl, rfl⟩ ?_ ?_
    · rintro j' x ρ S hj' ⟨p, P, rfl, rfl⟩
      obtain ⟨rfl, hj'⟩ := range_at hj'
      have e4 : Int.toNat 5 = 5 := rfl
      exact lap_ok P (by omega) _ _ _ _ _ fun p' P' => ⟨p', P'.up (by omega), rfl, rfl⟩
    · rintro ρ S ⟨p, P, rfl, rfl⟩
      tm_at "go"
      exact ⟨rfl, rfl⟩
  · rintro ρ S ⟨rfl, rfl⟩
    tm_at "go"
    rfl
end Tm.K33
set_option maxHeartbeats 0
namespace Tm.K33
open PySem L2 Tm Tm.Pg Tm.Lg
abbrev PR : Program := PySem.Challenge.pw_tumblemarks_k33_whole_turns_of_turns
def tp (i : Nat) : Stmt := PR.main.body.getD i (.Pass ⟨0, 0, 0, 0⟩)
def ds_is : Unit := ()
abbrev c_MOST_WIDE : PyData := (.int (3))
abbrev c_MOST_CELLS : PyData := (.int (9))
abbrev c_LEFT : PyData := (.str (Str.ofString "left"))
abbrev c_MIRROR : PyData := (.str (Str.ofString "mirror"))
abbrev c_FACES : PyData := (.int (6))
abbrev c_MIRRORED : PyData := (.tuple [(.int (0)), (.int (1)), (.int (3)), (.int (2)), (.int (4)), (.int (5))])
abbrev c_LAST_FACE : PyData := (.int (5))
abbrev c_LETTERS : PyData := (.str (Str.ofString "ensw"))
abbrev t_LEFT_LETTERS : List (Str × PyData) := [((Str.ofString "n"), (.str (Str.ofString "w"))), ((Str.ofString "w"), (.str (Str.ofString "s"))), ((Str.ofString "s"), (.str (Str.ofString "e"))), ((Str.ofString "e"), (.str (Str.ofString "n")))]
abbrev t_MIRROR_LETTERS : List (Str × PyData) := [((Str.ofString "n"), (.str (Str.ofString "n"))), ((Str.ofString "w"), (.str (Str.ofString "e"))), ((Str.ofString "s"), (.str (Str.ofString "s"))), ((Str.ofString "e"), (.str (Str.ofString "w")))]
abbrev s_pen_b : Stmt := tp 40
abbrev N_pen_b : List Str := ["_law_cell"]
theorem ck_pen_b : chkSs ⟨N_pen_b, defScope s_pen_b, fun _ => true⟩ ir_pen_b (defBody s_pen_b) = true := by decide +kernel
theorem sc_pen_b : FnScope N_pen_b ["_law_cell"] (defScope s_pen_b) := ⟨by kernel_rfl, by kernel_rfl, by kernel_rfl, by decide +kernel, by kernel_rfl, by decide +kernel, by decide +kernel⟩
def d_pen_b : He.DefD := ⟨("_law_pen", none), "_law_pen", "_law_pen", defArgs s_pen_b, defBody s_pen_b, defScope s_pen_b, [], []⟩
abbrev s_cell_at_a : Stmt := tp 39
abbrev N_cell_at_a : List Str := ["_law_script", "_law_k"]
theorem ck_cell_at_a : chkSs ⟨N_cell_at_a, defScope s_cell_at_a, fun _ => true⟩ ir_cell_at_a (defBody s_cell_at_a) = true := by decide +kernel
theorem sc_cell_at_a : FnScope N_cell_at_a ["_law_script", "_law_k"] (defScope s_cell_at_a) := ⟨by kernel_rfl, by kernel_rfl, by kernel_rfl, by decide +kernel, by kernel_rfl, by decide +kernel, by decide +kernel⟩
def d_cell_at_a : He.DefD := ⟨("_law_cell_at", none), "_law_cell_at", "_law_cell_at", defArgs s_cell_at_a, defBody s_cell_at_a, defScope s_cell_at_a, [], []⟩
abbrev s_draw_b : Stmt := tp 41
abbrev N_draw_b : List Str := ["_law_pen_here", "_law_many", "_law_digit", "_law_stir"]
theorem ck_draw_b : chkSs ⟨N_draw_b, defScope s_draw_b, fun _ => true⟩ ir_draw_b (defBody s_draw_b) = true := by decide +kernel
theorem sc_draw_b : FnScope N_draw_b ["_law_pen_here", "_law_many"] (defScope s_draw_b) := ⟨by kernel_rfl, by kernel_rfl, by kernel_rfl, by decide +kernel, by kernel_rfl, by decide +kernel, by decide +kernel⟩
def d_draw_b : He.DefD := ⟨("_law_draw", none), "_law_draw", "_law_draw", defArgs s_draw_b, defBody s_draw_b, defScope s_draw_b, [], []⟩
abbrev s_pick_b : Stmt := tp 42
abbrev N_pick_b : List Str := ["_law_pen_here", "_law_some"]
theorem ck_pick_b : chkSs ⟨N_pick_b, defScope s_pick_b, fun _ => true⟩ ir_pick_b (defBody s_pick_b) = true := by decide +kernel
theorem sc_pick_b : FnScope N_pick_b ["_law_pen_here", "_law_some"] (defScope s_pick_b) := ⟨by kernel_rfl, by kernel_rfl, by kernel_rfl, by decide +kernel, by kernel_rfl, by decide +kernel, by decide +kernel⟩
def d_pick_b : He.DefD := ⟨("_law_pick", none), "_law_pick", "_law_pick", defArgs s_pick_b, defBody s_pick_b, defScope s_pick_b, [], []⟩
abbrev s_beside_b : Stmt := tp 43
abbrev N_beside_b : List Str := ["_law_cell", "_law_letter", "_law_column", "_law_row"]
theorem ck_beside_b : chkSs ⟨N_beside_b, defScope s_beside_b, fun _ => true⟩ ir_beside_b (defBody s_beside_b) = true := by decide +kernel
theorem sc_beside_b : FnScope N_beside_b ["_law_cell", "_law_letter"] (defScope s_beside_b) := ⟨by kernel_rfl, by kernel_rfl, by kernel_rfl, by decide +kernel, by kernel_rfl, by decide +kernel, by decide +kernel⟩
def d_beside_b : He.DefD := ⟨("_law_beside", none), "_law_beside", "_law_beside", defArgs s_beside_b, defBody s_beside_b, defScope s_beside_b, [], []⟩
abbrev s_drawn_floor_b : Stmt := tp 45
abbrev N_drawn_floor_b : List Str := ["_law_pen_here", "_law_most", "_law_found", "_law_turn", "_law_near", "_law_here", "_law_cell", "_law_letter"]
theorem ck_drawn_floor_b : chkSs ⟨N_drawn_floor_b, defScope s_drawn_floor_b, fun _ => true⟩ ir_drawn_floor_b (defBody s_drawn_floor_b) = true := by decide +kernel
theorem sc_drawn_floor_b : FnScope N_drawn_floor_b ["_law_pen_here", "_law_most"] (defScope s_drawn_floor_b) := ⟨by kernel_rfl, by kernel_rfl, by kernel_rfl, by decide +kernel, by kernel_rfl, by decide +kernel, by decide +kernel⟩
def d_drawn_floor_b : He.DefD := ⟨("_law_drawn_floor", none), "_law_drawn_floor", "_law_drawn_floor", defArgs s_drawn_floor_b, defBody s_drawn_floor_b, defScope s_drawn_floor_b, [], []⟩
abbrev s_tip_b : Stmt := tp 44
abbrev N_tip_b : List Str := ["_law_lying", "_law_letter", "_law_low", "_law_north", "_law_east", "_law_found"]
theorem ck_tip_b : chkSs ⟨N_tip_b, defScope s_tip_b, fun _ => true⟩ ir_tip_b (defBody s_tip_b) = true := by decide +kernel
theorem sc_tip_b : FnScope N_tip_b ["_law_lying", "_law_letter"] (defScope s_tip_b) := ⟨by kernel_rfl, by kernel_rfl, by kernel_rfl, by decide +kernel, by kernel_rfl, by decide +kernel, by decide +kernel⟩
def d_tip_b : He.DefD := ⟨("_law_tip", none), "_law_tip", "_law_tip", defArgs s_tip_b, defBody s_tip_b, defScope s_tip_b, [], []⟩
abbrev s_drawn_stand_b : Stmt := tp 46
abbrev N_drawn_stand_b : List Str := ["_law_pen_here", "_law_floor", "_law_lying", "_law_turn"]
theorem ck_drawn_stand_b : chkSs ⟨N_drawn_stand_b, defScope s_drawn_stand_b, fun _ => true⟩ ir_drawn_stand_b (defBody s_drawn_stand_b) = true := by decide +kernel
theorem sc_drawn_stand_b : FnScope N_drawn_stand_b ["_law_pen_here", "_law_floor"] (defScope s_drawn_stand_b) := ⟨by kernel_rfl, by kernel_rfl, by kernel_rfl, by decide +kernel, by kernel_rfl, by decide +kernel, by decide +kernel⟩
def d_drawn_stand_b : He.DefD := ⟨("_law_drawn_stand", none), "_law_drawn_stand", "_law_drawn_stand", defArgs s_drawn_stand_b, defBody s_drawn_stand_b, defScope s_drawn_stand_b, [], []⟩
abbrev s_are_some : Stmt := tp 13
abbrev N_are_some : List Str := ["thing", "low", "high"]
theorem ck_are_some : chkSs ⟨N_are_some, defScope s_are_some, fun _ => true⟩ ir_are_some (defBody s_are_some) = true := by decide +kernel
theorem sc_are_some : FnScope N_are_some ["thing", "low", "high"] (defScope s_are_some) := ⟨by kernel_rfl, by kernel_rfl, by kernel_rfl, by decide +kernel, by kernel_rfl, by decide +kernel, by decide +kernel⟩
def d_are_some : He.DefD := ⟨("are_some", none), "are_some", "are_some", defArgs s_are_some, defBody s_are_some, defScope s_are_some, [], []⟩
abbrev s_rises : Stmt := tp 14
abbrev N_rises : List Str := ["thing", "one", "later"]
theorem ck_rises : chkSs ⟨N_rises, defScope s_rises, fun _ => true⟩ ir_rises (defBody s_rises) = true := by decide +kernel
theorem sc_rises : FnScope N_rises ["thing"] (defScope s_rises) := ⟨by kernel_rfl, by kernel_rfl, by kernel_rfl, by decide +kernel, by kernel_rfl, by decide +kernel, by decide +kernel⟩
def d_rises : He.DefD := ⟨("rises", none), "rises", "rises", defArgs s_rises, defBody s_rises, defScope s_rises, [], []⟩
abbrev s_is_whole : Stmt := tp 11
abbrev N_is_whole : List Str := ["thing"]
theorem ck_is_whole : chkSs ⟨N_is_whole, defScope s_is_whole, fun _ => true⟩ ir_is_whole (defBody s_is_whole) = true := by decide +kernel
theorem sc_is_whole : FnScope N_is_whole ["thing"] (defScope s_is_whole) := ⟨by kernel_rfl, by kernel_rfl, by kernel_rfl, by decide +kernel, by kernel_rfl, by decide +kernel, by decide +kernel⟩
def d_is_whole : He.DefD := ⟨("is_whole", none), "is_whole", "is_whole", defArgs s_is_whole, defBody s_is_whole, defScope s_is_whole, [], []⟩
abbrev s_is_among : Stmt := tp 12
abbrev N_is_among : List Str := ["thing", "low", "high"]
theorem ck_is_among : chkSs ⟨N_is_among, defScope s_is_among, fun _ => true⟩ ir_is_among (defBody s_is_among) = true := by decide +kernel
theorem sc_is_among : FnScope N_is_among ["thing", "low", "high"] (defScope s_is_among) := ⟨by kernel_rfl, by kernel_rfl, by kernel_rfl, by decide +kernel, by kernel_rfl, by decide +kernel, by decide +kernel⟩
def d_is_among : He.DefD := ⟨("is_among", none), "is_among", "is_among", defArgs s_is_among, defBody s_is_among, defScope s_is_among, [], []⟩
abbrev s_is_cell : Stmt := tp 15
abbrev N_is_cell : List Str := ["thing", "one"]
theorem ck_is_cell : chkSs ⟨N_is_cell, defScope s_is_cell, fun _ => true⟩ ir_is_cell (defBody s_is_cell) = true := by decide +kernel
theorem sc_is_cell : FnScope N_is_cell ["thing"] (defScope s_is_cell) := ⟨by kernel_rfl, by kernel_rfl, by kernel_rfl, by decide +kernel, by kernel_rfl, by decide +kernel, by decide +kernel⟩
def d_is_cell : He.DefD := ⟨("is_cell", none), "is_cell", "is_cell", defArgs s_is_cell, defBody s_is_cell, defScope s_is_cell, [], []⟩
abbrev s_is_floor : Stmt := tp 16
abbrev N_is_floor : List Str := ["thing", "cell"]
theorem ck_is_floor : chkSs ⟨N_is_floor, defScope s_is_floor, fun _ => true⟩ ir_is_floor (defBody s_is_floor) = true := by decide +kernel
theorem sc_is_floor : FnScope N_is_floor ["thing"] (defScope s_is_floor) := ⟨by kernel_rfl, by kernel_rfl, by kernel_rfl, by decide +kernel, by kernel_rfl, by decide +kernel, by decide +kernel⟩
def d_is_floor : He.DefD := ⟨("is_floor", none), "is_floor", "is_floor", defArgs s_is_floor, defBody s_is_floor, defScope s_is_floor, [], []⟩
abbrev s_need_floor : Stmt := tp 17
abbrev N_need_floor : List Str := ["thing"]
theorem ck_need_floor : chkSs ⟨N_need_floor, defScope s_need_floor, fun _ => true⟩ ir_need_floor (defBody s_need_floor) = true := by decide +kernel
theorem sc_need_floor : FnScope N_need_floor ["thing"] (defScope s_need_floor) := ⟨by kernel_rfl, by kernel_rfl, by kernel_rfl, by decide +kernel, by kernel_rfl, by decide +kernel, by decide +kernel⟩
def d_need_floor : He.DefD := ⟨("need_floor", none), "need_floor", "need_floor", defArgs s_need_floor, defBody s_need_floor, defScope s_need_floor, [], []⟩
abbrev s_need_word : Stmt := tp 30
abbrev N_need_word : List Str := ["thing"]
theorem ck_need_word : chkSs ⟨N_need_word, defScope s_need_word, fun _ => true⟩ ir_need_word (defBody s_need_word) = true := by decide +kernel
theorem sc_need_word : FnScope N_need_word ["thing"] (defScope s_need_word) := ⟨by kernel_rfl, by kernel_rfl, by kernel_rfl, by decide +kernel, by kernel_rfl, by decide +kernel, by decide +kernel⟩
def d_need_word : He.DefD := ⟨("need_word", none), "need_word", "need_word", defArgs s_need_word, defBody s_need_word, defScope s_need_word, [], []⟩
abbrev s_turned_cell : Stmt := tp 31
abbrev N_turned_cell : List Str := ["word", "cell", "column", "row"]
theorem ck_turned_cell : chkSs ⟨N_turned_cell, defScope s_turned_cell, fun _ => true⟩ ir_turned_cell (defBody s_turned_cell) = true := by decide +kernel
theorem sc_turned_cell : FnScope N_turned_cell ["word", "cell"] (defScope s_turned_cell) := ⟨by kernel_rfl, by kernel_rfl, by kernel_rfl, by decide +kernel, by kernel_rfl, by decide +kernel, by decide +kernel⟩
def d_turned_cell : He.DefD := ⟨("turned_cell", none), "turned_cell", "turned_cell", defArgs s_turned_cell, defBody s_turned_cell, defScope s_turned_cell, [], []⟩
abbrev s_turned_by : Stmt := tp 33
abbrev N_turned_by : List Str := ["floor", "word", "cell"]
theorem ck_turned_by : chkSs ⟨N_turned_by, defScope s_turned_by, fun _ => true⟩ ir_turned_by (defBody s_turned_by) = true := by decide +kernel
theorem sc_turned_by : FnScope N_turned_by ["floor", "word"] (defScope s_turned_by) := ⟨by kernel_rfl, by kernel_rfl, by kernel_rfl, by decide +kernel, by kernel_rfl, by decide +kernel, by decide +kernel⟩
def d_turned_by : He.DefD := ⟨("turned_by", none), "turned_by", "turned_by", defArgs s_turned_by, defBody s_turned_by, defScope s_turned_by, [], []⟩
abbrev s_turned_spots : Stmt := tp 37
abbrev N_turned_spots : List Str := ["floor", "word", "later", "faces", "cell"]
theorem ck_turned_spots : chkSs ⟨N_turned_spots, defScope s_turned_spots, fun _ => true⟩ ir_turned_spots (defBody s_turned_spots) = true := by decide +kernel
theorem sc_turned_spots : FnScope N_turned_spots ["floor", "word"] (defScope s_turned_spots) := ⟨by kernel_rfl, by kernel_rfl, by kernel_rfl, by decide +kernel, by kernel_rfl, by decide +kernel, by decide +kernel⟩
def d_turned_spots : He.DefD := ⟨("turned_spots", none), "turned_spots", "turned_spots", defArgs s_turned_spots, defBody s_turned_spots, defScope s_turned_spots, [], []⟩
abbrev s_is_cell_of : Stmt := tp 18
abbrev N_is_cell_of : List Str := ["floor", "thing"]
theorem ck_is_cell_of : chkSs ⟨N_is_cell_of, defScope s_is_cell_of, fun _ => true⟩ ir_is_cell_of (defBody s_is_cell_of) = true := by decide +kernel
theorem sc_is_cell_of : FnScope N_is_cell_of ["floor", "thing"] (defScope s_is_cell_of) := ⟨by kernel_rfl, by kernel_rfl, by kernel_rfl, by decide +kernel, by kernel_rfl, by decide +kernel, by decide +kernel⟩
def d_is_cell_of : He.DefD := ⟨("is_cell_of", none), "is_cell_of", "is_cell_of", defArgs s_is_cell_of, defBody s_is_cell_of, defScope s_is_cell_of, [], []⟩
abbrev s_is_lying : Stmt := tp 19
abbrev N_is_lying : List Str := ["thing", "low", "north", "east", "odd", "face"]
theorem ck_is_lying : chkSs ⟨N_is_lying, defScope s_is_lying, fun _ => true⟩ ir_is_lying (defBody s_is_lying) = true := by decide +kernel
theorem sc_is_lying : FnScope N_is_lying ["thing"] (defScope s_is_lying) := ⟨by kernel_rfl, by kernel_rfl, by kernel_rfl, by decide +kernel, by kernel_rfl, by decide +kernel, by decide +kernel⟩
def d_is_lying : He.DefD := ⟨("is_lying", none), "is_lying", "is_lying", defArgs s_is_lying, defBody s_is_lying, defScope s_is_lying, [], []⟩
abbrev s_is_stand : Stmt := tp 21
abbrev N_is_stand : List Str := ["floor", "thing"]
theorem ck_is_stand : chkSs ⟨N_is_stand, defScope s_is_stand, fun _ => true⟩ ir_is_stand (defBody s_is_stand) = true := by decide +kernel
theorem sc_is_stand : FnScope N_is_stand ["floor", "thing"] (defScope s_is_stand) := ⟨by kernel_rfl, by kernel_rfl, by kernel_rfl, by decide +kernel, by kernel_rfl, by decide +kernel, by decide +kernel⟩
def d_is_stand : He.DefD := ⟨("is_stand", none), "is_stand", "is_stand", defArgs s_is_stand, defBody s_is_stand, defScope s_is_stand, [], []⟩
abbrev s_need_stand : Stmt := tp 22
abbrev N_need_stand : List Str := ["floor", "thing"]
theorem ck_need_stand : chkSs ⟨N_need_stand, defScope s_need_stand, fun _ => true⟩ ir_need_stand (defBody s_need_stand) = true := by decide +kernel
theorem sc_need_stand : FnScope N_need_stand ["floor", "thing"] (defScope s_need_stand) := ⟨by kernel_rfl, by kernel_rfl, by kernel_rfl, by decide +kernel, by kernel_rfl, by decide +kernel, by decide +kernel⟩
def d_need_stand : He.DefD := ⟨("need_stand", none), "need_stand", "need_stand", defArgs s_need_stand, defBody s_need_stand, defScope s_need_stand, [], []⟩
abbrev s_turned_lying : Stmt := tp 32
abbrev N_turned_lying : List Str := ["word", "lying", "low", "north", "east", "face"]
theorem ck_turned_lying : chkSs ⟨N_turned_lying, defScope s_turned_lying, fun _ => true⟩ ir_turned_lying (defBody s_turned_lying) = true := by decide +kernel
theorem sc_turned_lying : FnScope N_turned_lying ["word", "lying"] (defScope s_turned_lying) := ⟨by kernel_rfl, by kernel_rfl, by kernel_rfl, by decide +kernel, by kernel_rfl, by decide +kernel, by decide +kernel⟩
def d_turned_lying : He.DefD := ⟨("turned_lying", none), "turned_lying", "turned_lying", defArgs s_turned_lying, defBody s_turned_lying, defScope s_turned_lying, [], []⟩
abbrev s_turned_stand : Stmt := tp 35
abbrev N_turned_stand : List Str := ["floor", "word", "stand"]
theorem ck_turned_stand : chkSs ⟨N_turned_stand, defScope s_turned_stand, fun _ => true⟩ ir_turned_stand (defBody s_turned_stand) = true := by decide +kernel
theorem sc_turned_stand : FnScope N_turned_stand ["floor", "word", "stand"] (defScope s_turned_stand) := ⟨by kernel_rfl, by kernel_rfl, by kernel_rfl, by decide +kernel, by kernel_rfl, by decide +kernel, by decide +kernel⟩
def d_turned_stand : He.DefD := ⟨("turned_stand", none), "turned_stand", "turned_stand", defArgs s_turned_stand, defBody s_turned_stand, defScope s_turned_stand, [], []⟩
abbrev s_turned_floor : Stmt := tp 34
abbrev N_turned_floor : List Str := ["floor", "word"]
theorem ck_turned_floor : chkSs ⟨N_turned_floor, defScope s_turned_floor, fun _ => true⟩ ir_turned_floor (defBody s_turned_floor) = true := by decide +kernel
theorem sc_turned_floor : FnScope N_turned_floor ["floor", "word"] (defScope s_turned_floor) := ⟨by kernel_rfl, by kernel_rfl, by kernel_rfl, by decide +kernel, by kernel_rfl, by decide +kernel, by decide +kernel⟩
def d_turned_floor : He.DefD := ⟨("turned_floor", none), "turned_floor", "turned_floor", defArgs s_turned_floor, defBody s_turned_floor, defScope s_turned_floor, [], []⟩
abbrev s_need_row : Stmt := tp 20
abbrev N_need_row : List Str := ["thing", "letter"]
theorem ck_need_row : chkSs ⟨N_need_row, defScope s_need_row, fun _ => true⟩ ir_need_row (defBody s_need_row) = true := by decide +kernel
theorem sc_need_row : FnScope N_need_row ["thing"] (defScope s_need_row) := ⟨by kernel_rfl, by kernel_rfl, by kernel_rfl, by decide +kernel, by kernel_rfl, by decide +kernel, by decide +kernel⟩
def d_need_row : He.DefD := ⟨("need_row", none), "need_row", "need_row", defArgs s_need_row, defBody s_need_row, defScope s_need_row, [], []⟩
abbrev s_turned_row : Stmt := tp 36
abbrev N_turned_row : List Str := ["word", "row", "letter"]
theorem ck_turned_row : chkSs ⟨N_turned_row, defScope s_turned_row, fun _ => true⟩ ir_turned_row (defBody s_turned_row) = true := by decide +kernel
theorem sc_turned_row : FnScope N_turned_row ["word", "row"] (defScope s_turned_row) := ⟨by kernel_rfl, by kernel_rfl, by kernel_rfl, by decide +kernel, by kernel_rfl, by decide +kernel, by decide +kernel⟩
def d_turned_row : He.DefD := ⟨("turned_row", none), "turned_row", "turned_row", defArgs s_turned_row, defBody s_turned_row, defScope s_turned_row, [], []⟩
abbrev s_law_turned_all : Stmt := tp 47
abbrev N_law_turned_all : List Str := ["_law_words", "_law_floor", "_law_stand", "_law_row", "_law_names", "_law_word", "_law_more", "_law_spot"]
theorem ck_law_turned_all : chkSs ⟨N_law_turned_all, defScope s_law_turned_all, fun _ => true⟩ ir_law_turned_all (defBody s_law_turned_all) = true := by decide +kernel
theorem sc_law_turned_all : FnScope N_law_turned_all ["_law_words", "_law_floor", "_law_stand", "_law_row"] (defScope s_law_turned_all) := ⟨by kernel_rfl, by kernel_rfl, by kernel_rfl, by decide +kernel, by kernel_rfl, by decide +kernel, by decide +kernel⟩
def d_law_turned_all : He.DefD := ⟨("_law_turned_all", none), "_law_turned_all", "_law_turned_all", defArgs s_law_turned_all, defBody s_law_turned_all, defScope s_law_turned_all, [], []⟩
abbrev s_law_right : Stmt := tp 48
abbrev N_law_right : List Str := ["_law_floor", "_law_stand", "_law_row", "_law_plain", "_law_both", "_law_word", "_law_later", "_law_own", "_law_letters", "_law_names"]
theorem ck_law_right : chkSs ⟨N_law_right, defScope s_law_right, fun _ => true⟩ ir_law_right (defBody s_law_right) = true := by decide +kernel
theorem sc_law_right : FnScope N_law_right ["_law_floor", "_law_stand", "_law_row"] (defScope s_law_right) := ⟨by kernel_rfl, by kernel_rfl, by kernel_rfl, by decide +kernel, by kernel_rfl, by decide +kernel, by decide +kernel⟩
def d_law_right : He.DefD := ⟨("_law_right", none), "_law_right", "_law_right", defArgs s_law_right, defBody s_law_right, defScope s_law_right, [], []⟩
abbrev s_law : Stmt := tp 49
abbrev N_law : List Str := ["_law_script", "_law_k", "_law_pen_here", "_law_turn", "_law_floor", "_law_stand", "_law_row", "_law_lap"]
theorem ck_law : chkSs ⟨N_law, defScope s_law, fun _ => true⟩ ir_law (defBody s_law) = true := by decide +kernel
theorem sc_law : FnScope N_law ["_law_script"] (defScope s_law) := ⟨by kernel_rfl, by kernel_rfl, by kernel_rfl, by decide +kernel, by kernel_rfl, by decide +kernel, by decide +kernel⟩
def d_law : He.DefD := ⟨("law", none), "law", "law", defArgs s_law, defBody s_law, defScope s_law, [], []⟩
def fns : List He.DefD := [d_pen_b, d_cell_at_a, d_draw_b, d_pick_b, d_beside_b, d_drawn_floor_b, d_tip_b, d_drawn_stand_b, d_are_some, d_rises, d_is_whole, d_is_among, d_is_cell, d_is_floor, d_need_floor, d_need_word, d_turned_cell, d_turned_by, d_turned_spots, d_is_cell_of, d_is_lying, d_is_stand, d_need_stand, d_turned_lying, d_turned_stand, d_turned_floor, d_need_row, d_turned_row, d_law_turned_all, d_law_right, d_law]
def fa0 : List He.Fa := [.glo "_law_pen", .glo "_law_cell_at", .glo "_law_draw", .glo "_law_pick", .glo "_law_beside", .glo "_law_drawn_floor", .glo "_law_tip", .glo "_law_drawn_stand", .glo "are_some", .glo "rises", .glo "is_whole", .glo "is_among", .glo "is_cell", .glo "is_floor", .glo "need_floor", .glo "need_word", .glo "turned_cell", .glo "turned_by", .glo "turned_spots", .glo "is_cell_of", .glo "is_lying", .glo "is_stand", .glo "need_stand", .glo "turned_lying", .glo "turned_stand", .glo "turned_floor", .glo "need_row", .glo "turned_row", .glo "_law_turned_all", .glo "_law_right"]
def fa1 : List He.Fa := [.glo "law", .free "max", .free "len", .free "range", .free "min", .free "tuple", .free "sorted", .free "isinstance", .free "all", .free "zip", .free "int", .free "bool", .free "str", .free "list", .glo "LEFT_LETTERS", .glo "MIRROR_LETTERS"]
def fa : List He.Fa := fa0 ++ fa1
def tabs : List He.Tab := [(fun K => He.ga K "LEFT_LETTERS", ["n", "w", "s", "e"]), (fun K => He.ga K "MIRROR_LETTERS", ["n", "w", "s", "e"])]
def ckK (K : PySem.W.Frag) : Bool := (conB K "MOST_WIDE" c_MOST_WIDE && (conB K "MOST_CELLS" c_MOST_CELLS && (conB K "LEFT" c_LEFT && (conB K "MIRROR" c_MIRROR && (conB K "FACES" c_FACES && (conB K "MIRRORED" c_MIRRORED && (conB K "LAST_FACE" c_LAST_FACE && (conB K "LETTERS" c_LETTERS && (dicB K "LEFT_LETTERS" t_LEFT_LETTERS && (dicB K "MIRROR_LETTERS" t_MIRROR_LETTERS && true))))))))))
def nm0 : List PySem.Str := ["TumbleError", "NoFloor", "NoRow", "NoStand", "NoWord", "MOST_WIDE", "MOST_CELLS", "LAST_FACE", "LETTERS", "is_whole", "is_among", "are_some", "rises", "is_cell", "is_floor", "need_floor", "is_cell_of", "is_lying", "need_row", "is_stand", "need_stand", "FACES", "LEFT", "MIRROR", "LEFT_LETTERS", "MIRROR_LETTERS", "MIRRORED", "need_word", "turned_cell", "turned_lying"]
def nm1 : List PySem.Str := ["turned_by", "turned_floor", "turned_stand", "turned_row", "turned_spots", "_law_cell_at", "_law_pen", "_law_draw", "_law_pick", "_law_beside", "_law_tip", "_law_drawn_floor", "_law_drawn_stand", "_law_turned_all", "_law_right"]
def nms : List PySem.Str := nm0 ++ nm1
abbrev R : PySem.W.OpenRow := PySem.W.OpenLaw.row PySem.Challenge.rw_tumblemarks_k33_whole_turns_of_turns
abbrev hk : PySem.W.Hook := hookX 4 fa fns tabs ckK
def ob (s : PySem.W.SharedT) : He.AlT × Bool := obsX 4 fa fns tabs ckK (HandSHeadRun.getT s)
theorem ob_eq (s : PySem.W.SharedT) : ob s = hk.obs s.abs := obsX_eq (HandSHeadRun.getT_eq s)
theorem run (w : World) : HandSHeadRun.RunEq R (PySem.W.view R.prog [49]) hk ob 4000 nms w := PySem.W.byRow2 "special-get-raises" (P := fun w => HandSHeadRun.RunEq R (PySem.W.view R.prog [49]) hk ob 4000 nms w) (fun w => by intro os; kernel_rfl) (fun w => by intro os; kernel_rfl) w
structure Fx (w : World) (K : PySem.W.Frag) (h : Heap) (mg : Str → Option Value) : Prop where
  X : K.In h
  G : h.Ns mainGlobals mg
  c : He.SaysT fa fns tabs w K
  cc : ckK K = true
section
variable {P : Program} {w : World} {K : PySem.W.Frag} {h : Heap} {mg : Str → Option Value} {base : Heap}
theorem b_max (Z : Fx w K h mg) : mg (Str.ofString "max") = none := He.free_ok Z.X Z.G (Z.c.d.fact 31 (f := .free "max") rfl)
theorem b_len (Z : Fx w K h mg) : mg (Str.ofString "len") = none := He.free_ok Z.X Z.G (Z.c.d.fact 32 (f := .free "len") rfl)
theorem b_range (Z : Fx w K h mg) : mg (Str.ofString "range") = none := He.free_ok Z.X Z.G (Z.c.d.fact 33 (f := .free "range") rfl)
theorem b_min (Z : Fx w K h mg) : mg (Str.ofString "min") = none := He.free_ok Z.X Z.G (Z.c.d.fact 34 (f := .free "min") rfl)
theorem b_tuple (Z : Fx w K h mg) : mg (Str.ofString "tuple") = none := He.free_ok Z.X Z.G (Z.c.d.fact 35 (f := .free "tuple") rfl)
theorem b_sorted (Z : Fx w K h mg) : mg (Str.ofString "sorted") = none := He.free_ok Z.X Z.G (Z.c.d.fact 36 (f := .free "sorted") rfl)
theorem b_isinstance (Z : Fx w K h mg) : mg (Str.ofString "isinstance") = none := He.free_ok Z.X Z.G (Z.c.d.fact 37 (f := .free "isinstance") rfl)
theorem b_all (Z : Fx w K h mg) : mg (Str.ofString "all") = none := He.free_ok Z.X Z.G (Z.c.d.fact 38 (f := .free "all") rfl)
theorem b_zip (Z : Fx w K h mg) : mg (Str.ofString "zip") = none := He.free_ok Z.X Z.G (Z.c.d.fact 39 (f := .free "zip") rfl)
theorem b_int (Z : Fx w K h mg) : mg (Str.ofString "int") = none := He.free_ok Z.X Z.G (Z.c.d.fact 40 (f := .free "int") rfl)
theorem b_bool (Z : Fx w K h mg) : mg (Str.ofString "bool") = none := He.free_ok Z.X Z.G (Z.c.d.fact 41 (f := .free "bool") rfl)
theorem b_str (Z : Fx w K h mg) : mg (Str.ofString "str") = none := He.free_ok Z.X Z.G (Z.c.d.fact 42 (f := .free "str") rfl)
theorem b_list (Z : Fx w K h mg) : mg (Str.ofString "list") = none := He.free_ok Z.X Z.G (Z.c.d.fact 43 (f := .free "list") rfl)
theorem q_MOST_WIDE (Z : Fx w K h mg) : GlobOk ⟨K, w⟩ mg (Str.ofString "MOST_WIDE") c_MOST_WIDE := conB_ok Z.X Z.G (Bool.and_eq_true_iff.mp Z.cc).1
theorem q_MOST_CELLS (Z : Fx w K h mg) : GlobOk ⟨K, w⟩ mg (Str.ofString "MOST_CELLS") c_MOST_CELLS := conB_ok Z.X Z.G (Bool.and_eq_true_iff.mp (Bool.and_eq_true_iff.mp Z.cc).2).1
theorem q_LEFT (Z : Fx w K h mg) : GlobOk ⟨K, w⟩ mg (Str.ofString "LEFT") c_LEFT := conB_ok Z.X Z.G (Bool.and_eq_true_iff.mp (Bool.and_eq_true_iff.mp (Bool.and_eq_true_iff.mp Z.cc).2).2).1
theorem q_MIRROR (Z : Fx w K h mg) : GlobOk ⟨K, w⟩ mg (Str.ofString "MIRROR") c_MIRROR := conB_ok Z.X Z.G (Bool.and_eq_true_iff.mp (Bool.and_eq_true_iff.mp (Bool.and_eq_true_iff.mp (Bool.and_eq_true_iff.mp Z.cc).2).2).2).1
theorem q_FACES (Z : Fx w K h mg) : GlobOk ⟨K, w⟩ mg (Str.ofString "FACES") c_FACES := conB_ok Z.X Z.G (Bool.and_eq_true_iff.mp (Bool.and_eq_true_iff.mp (Bool.and_eq_true_iff.mp (Bool.and_eq_true_iff.mp (Bool.and_eq_true_iff.mp Z.cc).2).2).2).2).1
theorem q_MIRRORED (Z : Fx w K h mg) : GlobOk ⟨K, w⟩ mg (Str.ofString "MIRRORED") c_MIRRORED := conB_ok Z.X Z.G (Bool.and_eq_true_iff.mp (Bool.and_eq_true_iff.mp (Bool.and_eq_true_iff.mp (Bool.and_eq_true_iff.mp (Bool.and_eq_true_iff.mp (Bool.and_eq_true_iff.mp Z.cc).2).2).2).2).2).1
theorem q_LAST_FACE (Z : Fx w K h mg) : GlobOk ⟨K, w⟩ mg (Str.ofString "LAST_FACE") c_LAST_FACE := conB_ok Z.X Z.G (Bool.and_eq_true_iff.mp (Bool.and_eq_true_iff.mp (Bool.and_eq_true_iff.mp (Bool.and_eq_true_iff.mp (Bool.and_eq_true_iff.mp (Bool.and_eq_true_iff.mp (Bool.and_eq_true_iff.mp Z.cc).2).2).2).2).2).2).1
theorem q_LETTERS (Z : Fx w K h mg) : GlobOk ⟨K, w⟩ mg (Str.ofString "LETTERS") c_LETTERS := conB_ok Z.X Z.G (Bool.and_eq_true_iff.mp (Bool.and_eq_true_iff.mp (Bool.and_eq_true_iff.mp (Bool.and_eq_true_iff.mp (Bool.and_eq_true_iff.mp (Bool.and_eq_true_iff.mp (Bool.and_eq_true_iff.mp (Bool.and_eq_true_iff.mp Z.cc).2).2).2).2).2).2).2).1
theorem q_LEFT_LETTERS (Z : Fx w K h mg) : DictOk ⟨K, w⟩ w mg (Str.ofString "LEFT_LETTERS") t_LEFT_LETTERS := dicB_ok (Bool.and_eq_true_iff.mp (Bool.and_eq_true_iff.mp (Bool.and_eq_true_iff.mp (Bool.and_eq_true_iff.mp (Bool.and_eq_true_iff.mp (Bool.and_eq_true_iff.mp (Bool.and_eq_true_iff.mp (Bool.and_eq_true_iff.mp (Bool.and_eq_true_iff.mp Z.cc).2).2).2).2).2).2).2).2).1 (He.glo_ok Z.X Z.G (Z.c.d.fact 44 (f := .glo "LEFT_LETTERS") rfl)) (Z.c.tab 0 (t := (fun K => He.ga K "LEFT_LETTERS", ["n", "w", "s", "e"])) rfl)
theorem q_MIRROR_LETTERS (Z : Fx w K h mg) : DictOk ⟨K, w⟩ w mg (Str.ofString "MIRROR_LETTERS") t_MIRROR_LETTERS := dicB_ok (Bool.and_eq_true_iff.mp (Bool.and_eq_true_iff.mp (Bool.and_eq_true_iff.mp (Bool.and_eq_true_iff.mp (Bool.and_eq_true_iff.mp (Bool.and_eq_true_iff.mp (Bool.and_eq_true_iff.mp (Bool.and_eq_true_iff.mp (Bool.and_eq_true_iff.mp (Bool.and_eq_true_iff.mp Z.cc).2).2).2).2).2).2).2).2).2).1 (He.glo_ok Z.X Z.G (Z.c.d.fact 45 (f := .glo "MIRROR_LETTERS") rfl)) (Z.c.tab 1 (t := (fun K => He.ga K "MIRROR_LETTERS", ["n", "w", "s", "e"])) rfl)
theorem us_pen_b (Z : Fx w K h mg) : ∀ u ∈ usesSs ir_pen_b, Kw P w K mg base 0 u := by
  have e : usesSs ir_pen_b = [.blt "max"] := by kernel_rfl
  rw [e]
  exact (usc (b_max Z) usn)
theorem k_pen_b (Z : Fx w K h mg) : Kw P w K mg base 1 (.fn (Str.ofString "_law_pen") 1 F_pen_b) := by
  obtain ⟨fd, D⟩ := Z.c.d.def_ 0 (d := d_pen_b) rfl
  unfold F_pen_b B_pen_b
  exact def_K (k := 0) D sc_pen_b (by decide) ck_pen_b (us_pen_b Z) (He.glo_ok Z.X Z.G (Z.c.d.fact 0 (f := .glo "_law_pen") rfl)) (FunD.bindsN D fun _ _ _ _ _ _ us hl => match us, hl with | [_], _ => rfl)
theorem us_cell_at_a (Z : Fx w K h mg) : ∀ u ∈ usesSs ir_cell_at_a, Kw P w K mg base 0 u := by
  have e : usesSs ir_cell_at_a = [.blt "len"] := by kernel_rfl
  rw [e]
  exact (usc (b_len Z) usn)
theorem k_cell_at_a (Z : Fx w K h mg) : Kw P w K mg base 1 (.fn (Str.ofString "_law_cell_at") 2 F_cell_at_a) := by
  obtain ⟨fd, D⟩ := Z.c.d.def_ 1 (d := d_cell_at_a) rfl
  unfold F_cell_at_a B_cell_at_a
  exact def_K (k := 0) D sc_cell_at_a (by decide) ck_cell_at_a (us_cell_at_a Z) (He.glo_ok Z.X Z.G (Z.c.d.fact 1 (f := .glo "_law_cell_at") rfl)) (FunD.bindsN D fun _ _ _ _ _ _ us hl => match us, hl with | [_, _], _ => rfl)
theorem us_draw_b (Z : Fx w K h mg) : ∀ u ∈ usesSs ir_draw_b, Kw P w K mg base 0 u := by
  have e : usesSs ir_draw_b = [] := by kernel_rfl
  rw [e]
  exact usn
theorem k_draw_b (Z : Fx w K h mg) : Kw P w K mg base 1 (.fn (Str.ofString "_law_draw") 2 F_draw_b) := by
  obtain ⟨fd, D⟩ := Z.c.d.def_ 2 (d := d_draw_b) rfl
  unfold F_draw_b B_draw_b
  exact def_K (k := 0) D sc_draw_b (by decide) ck_draw_b (us_draw_b Z) (He.glo_ok Z.X Z.G (Z.c.d.fact 2 (f := .glo "_law_draw") rfl)) (FunD.bindsN D fun _ _ _ _ _ _ us hl => match us, hl with | [_, _], _ => rfl)
theorem us_pick_b (Z : Fx w K h mg) : ∀ u ∈ usesSs ir_pick_b, Kw P w K mg base 1 u := by
  have e : usesSs ir_pick_b = [.fn (Str.ofString "_law_draw") 2 F_draw_b, .blt "len"] := by kernel_rfl
  rw [e]
  exact (usc ((k_draw_b Z).up (by decide)) (usc (b_len Z) usn))
theorem k_pick_b (Z : Fx w K h mg) : Kw P w K mg base 2 (.fn (Str.ofString "_law_pick") 2 F_pick_b) := by
  obtain ⟨fd, D⟩ := Z.c.d.def_ 3 (d := d_pick_b) rfl
  unfold F_pick_b B_pick_b
  exact def_K (k := 1) D sc_pick_b (by decide) ck_pick_b (us_pick_b Z) (He.glo_ok Z.X Z.G (Z.c.d.fact 3 (f := .glo "_law_pick") rfl)) (FunD.bindsN D fun _ _ _ _ _ _ us hl => match us, hl with | [_, _], _ => rfl)
theorem us_beside_b (Z : Fx w K h mg) : ∀ u ∈ usesSs ir_beside_b, Kw P w K mg base 0 u := by
  have e : usesSs ir_beside_b = [] := by kernel_rfl
  rw [e]
  exact usn
theorem k_beside_b (Z : Fx w K h mg) : Kw P w K mg base 1 (.fn (Str.ofString "_law_beside") 2 F_beside_b) := by
  obtain ⟨fd, D⟩ := Z.c.d.def_ 4 (d := d_beside_b) rfl
  unfold F_beside_b B_beside_b
  exact def_K (k := 0) D sc_beside_b (by decide) ck_beside_b (us_beside_b Z) (He.glo_ok Z.X Z.G (Z.c.d.fact 4 (f := .glo "_law_beside") rfl)) (FunD.bindsN D fun _ _ _ _ _ _ us hl => match us, hl with | [_, _], _ => rfl)
theorem us_drawn_floor_b (Z : Fx w K h mg) : ∀ u ∈ usesSs ir_drawn_floor_b, Kw P w K mg base 2 u := by
  have e : usesSs ir_drawn_floor_b = [.fn (Str.ofString "_law_draw") 2 F_draw_b, .fn (Str.ofString "_law_draw") 2 F_draw_b, .blt "range", .fn (Str.ofString "_law_draw") 2 F_draw_b, .fn (Str.ofString "_law_beside") 2 F_beside_b, .blt "max", .blt "min", .fn (Str.ofString "_law_draw") 2 F_draw_b, .fn (Str.ofString "_law_draw") 2 F_draw_b, .fn (Str.ofString "_law_draw") 2 F_draw_b, .fn (Str.ofString "_law_pick") 2 F_pick_b, .blt "tuple", .blt "sorted"] := by kernel_rfl
  rw [e]
  exact (usc ((k_draw_b Z).up (by decide)) (usc ((k_draw_b Z).up (by decide)) (usc (b_range Z) (usc ((k_draw_b Z).up (by decide)) (usc ((k_beside_b Z).up (by decide)) (usc (b_max Z) (usc (b_min Z) (usc ((k_draw_b Z).up (by decide)) (usc ((k_draw_b Z).up (by decide)) (usc ((k_draw_b Z).up (by decide)) (usc ((k_pick_b Z).up (by decide)) (usc (b_tuple Z) (usc (b_sorted Z) usn)))))))))))))
theorem k_drawn_floor_b (Z : Fx w K h mg) : Kw P w K mg base 3 (.fn (Str.ofString "_law_drawn_floor") 2 F_drawn_floor_b) := by
  obtain ⟨fd, D⟩ := Z.c.d.def_ 5 (d := d_drawn_floor_b) rfl
  unfold F_drawn_floor_b B_drawn_floor_b
  exact def_K (k := 2) D sc_drawn_floor_b (by decide) ck_drawn_floor_b (us_drawn_floor_b Z) (He.glo_ok Z.X Z.G (Z.c.d.fact 5 (f := .glo "_law_drawn_floor") rfl)) (FunD.bindsN D fun _ _ _ _ _ _ us hl => match us, hl with | [_, _], _ => rfl)
theorem us_tip_b (Z : Fx w K h mg) : ∀ u ∈ usesSs ir_tip_b, Kw P w K mg base 0 u := by
  have e : usesSs ir_tip_b = [] := by kernel_rfl
  rw [e]
  exact usn
theorem k_tip_b (Z : Fx w K h mg) : Kw P w K mg base 1 (.fn (Str.ofString "_law_tip") 2 F_tip_b) := by
  obtain ⟨fd, D⟩ := Z.c.d.def_ 6 (d := d_tip_b) rfl
  unfold F_tip_b B_tip_b
  exact def_K (k := 0) D sc_tip_b (by decide) ck_tip_b (us_tip_b Z) (He.glo_ok Z.X Z.G (Z.c.d.fact 6 (f := .glo "_law_tip") rfl)) (FunD.bindsN D fun _ _ _ _ _ _ us hl => match us, hl with | [_, _], _ => rfl)
theorem us_drawn_stand_b (Z : Fx w K h mg) : ∀ u ∈ usesSs ir_drawn_stand_b, Kw P w K mg base 2 u := by
  have e : usesSs ir_drawn_stand_b = [.blt "range", .fn (Str.ofString "_law_draw") 2 F_draw_b, .fn (Str.ofString "_law_tip") 2 F_tip_b, .fn (Str.ofString "_law_pick") 2 F_pick_b, .fn (Str.ofString "_law_pick") 2 F_pick_b] := by kernel_rfl
  rw [e]
  exact (usc (b_range Z) (usc ((k_draw_b Z).up (by decide)) (usc ((k_tip_b Z).up (by decide)) (usc ((k_pick_b Z).up (by decide)) (usc ((k_pick_b Z).up (by decide)) usn)))))
theorem k_drawn_stand_b (Z : Fx w K h mg) : Kw P w K mg base 3 (.fn (Str.ofString "_law_drawn_stand") 2 F_drawn_stand_b) := by
  obtain ⟨fd, D⟩ := Z.c.d.def_ 7 (d := d_drawn_stand_b) rfl
  unfold F_drawn_stand_b B_drawn_stand_b
  exact def_K (k := 2) D sc_drawn_stand_b (by decide) ck_drawn_stand_b (us_drawn_stand_b Z) (He.glo_ok Z.X Z.G (Z.c.d.fact 7 (f := .glo "_law_drawn_stand") rfl)) (FunD.bindsN D fun _ _ _ _ _ _ us hl => match us, hl with | [_, _], _ => rfl)
theorem us_are_some (Z : Fx w K h mg) : ∀ u ∈ usesSs ir_are_some, Kw P w K mg base 0 u := by
  have e : usesSs ir_are_some = [.blt "isinstance", .blt "tuple", .blt "len"] := by kernel_rfl
  rw [e]
  exact (usc (b_isinstance Z) (usc (b_tuple Z) (usc (b_len Z) usn)))
theorem k_are_some (Z : Fx w K h mg) : Kw P w K mg base 1 (.fn (Str.ofString "are_some") 3 F_are_some) := by
  obtain ⟨fd, D⟩ := Z.c.d.def_ 8 (d := d_are_some) rfl
  unfold F_are_some B_are_some
  exact def_K (k := 0) D sc_are_some (by decide) ck_are_some (us_are_some Z) (He.glo_ok Z.X Z.G (Z.c.d.fact 8 (f := .glo "are_some") rfl)) (FunD.bindsN D fun _ _ _ _ _ _ us hl => match us, hl with | [_, _, _], _ => rfl)
theorem us_rises (Z : Fx w K h mg) : ∀ u ∈ usesSs ir_rises, Kw P w K mg base 0 u := by
  have e : usesSs ir_rises = [.blt "all", .blt "zip"] := by kernel_rfl
  rw [e]
  exact (usc (b_all Z) (usc (b_zip Z) usn))
theorem k_rises (Z : Fx w K h mg) : Kw P w K mg base 1 (.fn (Str.ofString "rises") 1 F_rises) := by
  obtain ⟨fd, D⟩ := Z.c.d.def_ 9 (d := d_rises) rfl
  unfold F_rises B_rises
  exact def_K (k := 0) D sc_rises (by decide) ck_rises (us_rises Z) (He.glo_ok Z.X Z.G (Z.c.d.fact 9 (f := .glo "rises") rfl)) (FunD.bindsN D fun _ _ _ _ _ _ us hl => match us, hl with | [_], _ => rfl)
theorem us_is_whole (Z : Fx w K h mg) : ∀ u ∈ usesSs ir_is_whole, Kw P w K mg base 0 u := by
  have e : usesSs ir_is_whole = [.blt "isinstance", .blt "int", .blt "isinstance", .blt "bool"] := by kernel_rfl
  rw [e]
  exact (usc (b_isinstance Z) (usc (b_int Z) (usc (b_isinstance Z) (usc (b_bool Z) usn))))
theorem k_is_whole (Z : Fx w K h mg) : Kw P w K mg base 1 (.fn (Str.ofString "is_whole") 1 F_is_whole) := by
  obtain ⟨fd, D⟩ := Z.c.d.def_ 10 (d := d_is_whole) rfl
  unfold F_is_whole B_is_whole
  exact def_K (k := 0) D sc_is_whole (by decide) ck_is_whole (us_is_whole Z) (He.glo_ok Z.X Z.G (Z.c.d.fact 10 (f := .glo "is_whole") rfl)) (FunD.bindsN D fun _ _ _ _ _ _ us hl => match us, hl with | [_], _ => rfl)
theorem us_is_among (Z : Fx w K h mg) : ∀ u ∈ usesSs ir_is_among, Kw P w K mg base 1 u := by
  have e : usesSs ir_is_among = [.fn (Str.ofString "is_whole") 1 F_is_whole] := by kernel_rfl
  rw [e]
  exact (usc ((k_is_whole Z).up (by decide)) usn)
theorem k_is_among (Z : Fx w K h mg) : Kw P w K mg base 2 (.fn (Str.ofString "is_among") 3 F_is_among) := by
  obtain ⟨fd, D⟩ := Z.c.d.def_ 11 (d := d_is_among) rfl
  unfold F_is_among B_is_among
  exact def_K (k := 1) D sc_is_among (by decide) ck_is_among (us_is_among Z) (He.glo_ok Z.X Z.G (Z.c.d.fact 11 (f := .glo "is_among") rfl)) (FunD.bindsN D fun _ _ _ _ _ _ us hl => match us, hl with | [_, _, _], _ => rfl)
theorem us_is_cell (Z : Fx w K h mg) : ∀ u ∈ usesSs ir_is_cell, Kw P w K mg base 2 u := by
  have e : usesSs ir_is_cell = [.fn (Str.ofString "are_some") 3 F_are_some, .blt "all", .fn (Str.ofString "is_among") 3 F_is_among, .con (Str.ofString "MOST_WIDE") c_MOST_WIDE] := by kernel_rfl
  rw [e]
  exact (usc ((k_are_some Z).up (by decide)) (usc (b_all Z) (usc ((k_is_among Z).up (by decide)) (usc (q_MOST_WIDE Z) usn))))
theorem k_is_cell (Z : Fx w K h mg) : Kw P w K mg base 3 (.fn (Str.ofString "is_cell") 1 F_is_cell) := by
  obtain ⟨fd, D⟩ := Z.c.d.def_ 12 (d := d_is_cell) rfl
  unfold F_is_cell B_is_cell
  exact def_K (k := 2) D sc_is_cell (by decide) ck_is_cell (us_is_cell Z) (He.glo_ok Z.X Z.G (Z.c.d.fact 12 (f := .glo "is_cell") rfl)) (FunD.bindsN D fun _ _ _ _ _ _ us hl => match us, hl with | [_], _ => rfl)
theorem us_is_floor (Z : Fx w K h mg) : ∀ u ∈ usesSs ir_is_floor, Kw P w K mg base 3 u := by
  have e : usesSs ir_is_floor = [.fn (Str.ofString "are_some") 3 F_are_some, .con (Str.ofString "MOST_CELLS") c_MOST_CELLS, .blt "all", .fn (Str.ofString "is_cell") 1 F_is_cell, .fn (Str.ofString "rises") 1 F_rises] := by kernel_rfl
  rw [e]
  exact (usc ((k_are_some Z).up (by decide)) (usc (q_MOST_CELLS Z) (usc (b_all Z) (usc ((k_is_cell Z).up (by decide)) (usc ((k_rises Z).up (by decide)) usn)))))
theorem k_is_floor (Z : Fx w K h mg) : Kw P w K mg base 4 (.fn (Str.ofString "is_floor") 1 F_is_floor) := by
  obtain ⟨fd, D⟩ := Z.c.d.def_ 13 (d := d_is_floor) rfl
  unfold F_is_floor B_is_floor
  exact def_K (k := 3) D sc_is_floor (by decide) ck_is_floor (us_is_floor Z) (He.glo_ok Z.X Z.G (Z.c.d.fact 13 (f := .glo "is_floor") rfl)) (FunD.bindsN D fun _ _ _ _ _ _ us hl => match us, hl with | [_], _ => rfl)
theorem us_need_floor (Z : Fx w K h mg) : ∀ u ∈ usesSs ir_need_floor, Kw P w K mg base 4 u := by
  have e : usesSs ir_need_floor = [.fn (Str.ofString "is_floor") 1 F_is_floor] := by kernel_rfl
  rw [e]
  exact (usc ((k_is_floor Z).up (by decide)) usn)
theorem k_need_floor (Z : Fx w K h mg) : Kw P w K mg base 5 (.fn (Str.ofString "need_floor") 1 F_need_floor) := by
  obtain ⟨fd, D⟩ := Z.c.d.def_ 14 (d := d_need_floor) rfl
  unfold F_need_floor B_need_floor
  exact def_K (k := 4) D sc_need_floor (by decide) ck_need_floor (us_need_floor Z) (He.glo_ok Z.X Z.G (Z.c.d.fact 14 (f := .glo "need_floor") rfl)) (FunD.bindsN D fun _ _ _ _ _ _ us hl => match us, hl with | [_], _ => rfl)
theorem us_need_word (Z : Fx w K h mg) : ∀ u ∈ usesSs ir_need_word, Kw P w K mg base 0 u := by
  have e : usesSs ir_need_word = [.blt "isinstance", .blt "str", .con (Str.ofString "LEFT") c_LEFT, .con (Str.ofString "MIRROR") c_MIRROR] := by kernel_rfl
  rw [e]
  exact (usc (b_isinstance Z) (usc (b_str Z) (usc (q_LEFT Z) (usc (q_MIRROR Z) usn))))
theorem k_need_word (Z : Fx w K h mg) : Kw P w K mg base 1 (.fn (Str.ofString "need_word") 1 F_need_word) := by
  obtain ⟨fd, D⟩ := Z.c.d.def_ 15 (d := d_need_word) rfl
  unfold F_need_word B_need_word
  exact def_K (k := 0) D sc_need_word (by decide) ck_need_word (us_need_word Z) (He.glo_ok Z.X Z.G (Z.c.d.fact 15 (f := .glo "need_word") rfl)) (FunD.bindsN D fun _ _ _ _ _ _ us hl => match us, hl with | [_], _ => rfl)
theorem us_turned_cell (Z : Fx w K h mg) : ∀ u ∈ usesSs ir_turned_cell, Kw P w K mg base 0 u := by
  have e : usesSs ir_turned_cell = [.con (Str.ofString "LEFT") c_LEFT, .con (Str.ofString "MOST_WIDE") c_MOST_WIDE, .con (Str.ofString "MOST_WIDE") c_MOST_WIDE] := by kernel_rfl
  rw [e]
  exact (usc (q_LEFT Z) (usc (q_MOST_WIDE Z) (usc (q_MOST_WIDE Z) usn)))
theorem k_turned_cell (Z : Fx w K h mg) : Kw P w K mg base 1 (.fn (Str.ofString "turned_cell") 2 F_turned_cell) := by
  obtain ⟨fd, D⟩ := Z.c.d.def_ 16 (d := d_turned_cell) rfl
  unfold F_turned_cell B_turned_cell
  exact def_K (k := 0) D sc_turned_cell (by decide) ck_turned_cell (us_turned_cell Z) (He.glo_ok Z.X Z.G (Z.c.d.fact 16 (f := .glo "turned_cell") rfl)) (FunD.bindsN D fun _ _ _ _ _ _ us hl => match us, hl with | [_, _], _ => rfl)
theorem us_turned_by (Z : Fx w K h mg) : ∀ u ∈ usesSs ir_turned_by, Kw P w K mg base 1 u := by
  have e : usesSs ir_turned_by = [.blt "tuple", .blt "sorted", .fn (Str.ofString "turned_cell") 2 F_turned_cell] := by kernel_rfl
  rw [e]
  exact (usc (b_tuple Z) (usc (b_sorted Z) (usc ((k_turned_cell Z).up (by decide)) usn)))
theorem k_turned_by (Z : Fx w K h mg) : Kw P w K mg base 2 (.fn (Str.ofString "turned_by") 2 F_turned_by) := by
  obtain ⟨fd, D⟩ := Z.c.d.def_ 17 (d := d_turned_by) rfl
  unfold F_turned_by B_turned_by
  exact def_K (k := 1) D sc_turned_by (by decide) ck_turned_by (us_turned_by Z) (He.glo_ok Z.X Z.G (Z.c.d.fact 17 (f := .glo "turned_by") rfl)) (FunD.bindsN D fun _ _ _ _ _ _ us hl => match us, hl with | [_, _], _ => rfl)
theorem us_turned_spots (Z : Fx w K h mg) : ∀ u ∈ usesSs ir_turned_spots, Kw P w K mg base 5 u := by
  have e : usesSs ir_turned_spots = [.fn (Str.ofString "need_floor") 1 F_need_floor, .fn (Str.ofString "need_word") 1 F_need_word, .fn (Str.ofString "turned_by") 2 F_turned_by, .con (Str.ofString "LEFT") c_LEFT, .blt "tuple", .blt "range", .con (Str.ofString "FACES") c_FACES, .con (Str.ofString "MIRRORED") c_MIRRORED, .blt "tuple", .con (Str.ofString "FACES") c_FACES, .fn (Str.ofString "turned_cell") 2 F_turned_cell] := by kernel_rfl
  rw [e]
  exact (usc ((k_need_floor Z).up (by decide)) (usc ((k_need_word Z).up (by decide)) (usc ((k_turned_by Z).up (by decide)) (usc (q_LEFT Z) (usc (b_tuple Z) (usc (b_range Z) (usc (q_FACES Z) (usc (q_MIRRORED Z) (usc (b_tuple Z) (usc (q_FACES Z) (usc ((k_turned_cell Z).up (by decide)) usn)))))))))))
theorem k_turned_spots (Z : Fx w K h mg) : Kw P w K mg base 6 (.fn (Str.ofString "turned_spots") 2 F_turned_spots) := by
  obtain ⟨fd, D⟩ := Z.c.d.def_ 18 (d := d_turned_spots) rfl
  unfold F_turned_spots B_turned_spots
  exact def_K (k := 5) D sc_turned_spots (by decide) ck_turned_spots (us_turned_spots Z) (He.glo_ok Z.X Z.G (Z.c.d.fact 18 (f := .glo "turned_spots") rfl)) (FunD.bindsN D fun _ _ _ _ _ _ us hl => match us, hl with | [_, _], _ => rfl)
theorem us_is_cell_of (Z : Fx w K h mg) : ∀ u ∈ usesSs ir_is_cell_of, Kw P w K mg base 3 u := by
  have e : usesSs ir_is_cell_of = [.fn (Str.ofString "is_cell") 1 F_is_cell] := by kernel_rfl
  rw [e]
  exact (usc ((k_is_cell Z).up (by decide)) usn)
theorem k_is_cell_of (Z : Fx w K h mg) : Kw P w K mg base 4 (.fn (Str.ofString "is_cell_of") 2 F_is_cell_of) := by
  obtain ⟨fd, D⟩ := Z.c.d.def_ 19 (d := d_is_cell_of) rfl
  unfold F_is_cell_of B_is_cell_of
  exact def_K (k := 3) D sc_is_cell_of (by decide) ck_is_cell_of (us_is_cell_of Z) (He.glo_ok Z.X Z.G (Z.c.d.fact 19 (f := .glo "is_cell_of") rfl)) (FunD.bindsN D fun _ _ _ _ _ _ us hl => match us, hl with | [_, _], _ => rfl)
theorem us_is_lying (Z : Fx w K h mg) : ∀ u ∈ usesSs ir_is_lying, Kw P w K mg base 2 u := by
  have e : usesSs ir_is_lying = [.fn (Str.ofString "are_some") 3 F_are_some, .blt "all", .fn (Str.ofString "is_among") 3 F_is_among, .con (Str.ofString "LAST_FACE") c_LAST_FACE, .blt "min", .con (Str.ofString "LAST_FACE") c_LAST_FACE, .blt "int", .blt "int", .blt "int", .blt "len", .con (Str.ofString "LAST_FACE") c_LAST_FACE] := by kernel_rfl
  rw [e]
  exact (usc ((k_are_some Z).up (by decide)) (usc (b_all Z) (usc ((k_is_among Z).up (by decide)) (usc (q_LAST_FACE Z) (usc (b_min Z) (usc (q_LAST_FACE Z) (usc (b_int Z) (usc (b_int Z) (usc (b_int Z) (usc (b_len Z) (usc (q_LAST_FACE Z) usn)))))))))))
theorem k_is_lying (Z : Fx w K h mg) : Kw P w K mg base 3 (.fn (Str.ofString "is_lying") 1 F_is_lying) := by
  obtain ⟨fd, D⟩ := Z.c.d.def_ 20 (d := d_is_lying) rfl
  unfold F_is_lying B_is_lying
  exact def_K (k := 2) D sc_is_lying (by decide) ck_is_lying (us_is_lying Z) (He.glo_ok Z.X Z.G (Z.c.d.fact 20 (f := .glo "is_lying") rfl)) (FunD.bindsN D fun _ _ _ _ _ _ us hl => match us, hl with | [_], _ => rfl)
theorem us_is_stand (Z : Fx w K h mg) : ∀ u ∈ usesSs ir_is_stand, Kw P w K mg base 4 u := by
  have e : usesSs ir_is_stand = [.fn (Str.ofString "are_some") 3 F_are_some, .fn (Str.ofString "is_cell_of") 2 F_is_cell_of, .fn (Str.ofString "is_lying") 1 F_is_lying] := by kernel_rfl
  rw [e]
  exact (usc ((k_are_some Z).up (by decide)) (usc ((k_is_cell_of Z).up (by decide)) (usc ((k_is_lying Z).up (by decide)) usn)))
theorem k_is_stand (Z : Fx w K h mg) : Kw P w K mg base 5 (.fn (Str.ofString "is_stand") 2 F_is_stand) := by
  obtain ⟨fd, D⟩ := Z.c.d.def_ 21 (d := d_is_stand) rfl
  unfold F_is_stand B_is_stand
  exact def_K (k := 4) D sc_is_stand (by decide) ck_is_stand (us_is_stand Z) (He.glo_ok Z.X Z.G (Z.c.d.fact 21 (f := .glo "is_stand") rfl)) (FunD.bindsN D fun _ _ _ _ _ _ us hl => match us, hl with | [_, _], _ => rfl)
theorem us_need_stand (Z : Fx w K h mg) : ∀ u ∈ usesSs ir_need_stand, Kw P w K mg base 5 u := by
  have e : usesSs ir_need_stand = [.fn (Str.ofString "need_floor") 1 F_need_floor, .fn (Str.ofString "is_stand") 2 F_is_stand] := by kernel_rfl
  rw [e]
  exact (usc ((k_need_floor Z).up (by decide)) (usc ((k_is_stand Z).up (by decide)) usn))
theorem k_need_stand (Z : Fx w K h mg) : Kw P w K mg base 6 (.fn (Str.ofString "need_stand") 2 F_need_stand) := by
  obtain ⟨fd, D⟩ := Z.c.d.def_ 22 (d := d_need_stand) rfl
  unfold F_need_stand B_need_stand
  exact def_K (k := 5) D sc_need_stand (by decide) ck_need_stand (us_need_stand Z) (He.glo_ok Z.X Z.G (Z.c.d.fact 22 (f := .glo "need_stand") rfl)) (FunD.bindsN D fun _ _ _ _ _ _ us hl => match us, hl with | [_, _], _ => rfl)
theorem us_turned_lying (Z : Fx w K h mg) : ∀ u ∈ usesSs ir_turned_lying, Kw P w K mg base 0 u := by
  have e : usesSs ir_turned_lying = [.con (Str.ofString "LEFT") c_LEFT, .con (Str.ofString "LAST_FACE") c_LAST_FACE, .blt "tuple", .con (Str.ofString "LAST_FACE") c_LAST_FACE, .con (Str.ofString "MIRRORED") c_MIRRORED] := by kernel_rfl
  rw [e]
  exact (usc (q_LEFT Z) (usc (q_LAST_FACE Z) (usc (b_tuple Z) (usc (q_LAST_FACE Z) (usc (q_MIRRORED Z) usn)))))
theorem k_turned_lying (Z : Fx w K h mg) : Kw P w K mg base 1 (.fn (Str.ofString "turned_lying") 2 F_turned_lying) := by
  obtain ⟨fd, D⟩ := Z.c.d.def_ 23 (d := d_turned_lying) rfl
  unfold F_turned_lying B_turned_lying
  exact def_K (k := 0) D sc_turned_lying (by decide) ck_turned_lying (us_turned_lying Z) (He.glo_ok Z.X Z.G (Z.c.d.fact 23 (f := .glo "turned_lying") rfl)) (FunD.bindsN D fun _ _ _ _ _ _ us hl => match us, hl with | [_, _], _ => rfl)
theorem us_turned_stand (Z : Fx w K h mg) : ∀ u ∈ usesSs ir_turned_stand, Kw P w K mg base 6 u := by
  have e : usesSs ir_turned_stand = [.fn (Str.ofString "need_floor") 1 F_need_floor, .fn (Str.ofString "need_word") 1 F_need_word, .fn (Str.ofString "need_stand") 2 F_need_stand, .fn (Str.ofString "turned_cell") 2 F_turned_cell, .fn (Str.ofString "turned_lying") 2 F_turned_lying] := by kernel_rfl
  rw [e]
  exact (usc ((k_need_floor Z).up (by decide)) (usc ((k_need_word Z).up (by decide)) (usc ((k_need_stand Z).up (by decide)) (usc ((k_turned_cell Z).up (by decide)) (usc ((k_turned_lying Z).up (by decide)) usn)))))
theorem k_turned_stand (Z : Fx w K h mg) : Kw P w K mg base 7 (.fn (Str.ofString "turned_stand") 3 F_turned_stand) := by
  obtain ⟨fd, D⟩ := Z.c.d.def_ 24 (d := d_turned_stand) rfl
  unfold F_turned_stand B_turned_stand
  exact def_K (k := 6) D sc_turned_stand (by decide) ck_turned_stand (us_turned_stand Z) (He.glo_ok Z.X Z.G (Z.c.d.fact 24 (f := .glo "turned_stand") rfl)) (FunD.bindsN D fun _ _ _ _ _ _ us hl => match us, hl with | [_, _, _], _ => rfl)
theorem us_turned_floor (Z : Fx w K h mg) : ∀ u ∈ usesSs ir_turned_floor, Kw P w K mg base 5 u := by
  have e : usesSs ir_turned_floor = [.fn (Str.ofString "need_floor") 1 F_need_floor, .fn (Str.ofString "need_word") 1 F_need_word, .fn (Str.ofString "turned_by") 2 F_turned_by] := by kernel_rfl
  rw [e]
  exact (usc ((k_need_floor Z).up (by decide)) (usc ((k_need_word Z).up (by decide)) (usc ((k_turned_by Z).up (by decide)) usn)))
theorem k_turned_floor (Z : Fx w K h mg) : Kw P w K mg base 6 (.fn (Str.ofString "turned_floor") 2 F_turned_floor) := by
  obtain ⟨fd, D⟩ := Z.c.d.def_ 25 (d := d_turned_floor) rfl
  unfold F_turned_floor B_turned_floor
  exact def_K (k := 5) D sc_turned_floor (by decide) ck_turned_floor (us_turned_floor Z) (He.glo_ok Z.X Z.G (Z.c.d.fact 25 (f := .glo "turned_floor") rfl)) (FunD.bindsN D fun _ _ _ _ _ _ us hl => match us, hl with | [_, _], _ => rfl)
theorem us_need_row (Z : Fx w K h mg) : ∀ u ∈ usesSs ir_need_row, Kw P w K mg base 0 u := by
  have e : usesSs ir_need_row = [.blt "isinstance", .blt "str", .blt "all", .con (Str.ofString "LETTERS") c_LETTERS] := by kernel_rfl
  rw [e]
  exact (usc (b_isinstance Z) (usc (b_str Z) (usc (b_all Z) (usc (q_LETTERS Z) usn))))
theorem k_need_row (Z : Fx w K h mg) : Kw P w K mg base 1 (.fn (Str.ofString "need_row") 1 F_need_row) := by
  obtain ⟨fd, D⟩ := Z.c.d.def_ 26 (d := d_need_row) rfl
  unfold F_need_row B_need_row
  exact def_K (k := 0) D sc_need_row (by decide) ck_need_row (us_need_row Z) (He.glo_ok Z.X Z.G (Z.c.d.fact 26 (f := .glo "need_row") rfl)) (FunD.bindsN D fun _ _ _ _ _ _ us hl => match us, hl with | [_], _ => rfl)
theorem us_turned_row (Z : Fx w K h mg) : ∀ u ∈ usesSs ir_turned_row, Kw P w K mg base 1 u := by
  have e : usesSs ir_turned_row = [.fn (Str.ofString "need_word") 1 F_need_word, .fn (Str.ofString "need_row") 1 F_need_row, .con (Str.ofString "LEFT") c_LEFT, .dic (Str.ofString "LEFT_LETTERS") t_LEFT_LETTERS, .dic (Str.ofString "MIRROR_LETTERS") t_MIRROR_LETTERS] := by kernel_rfl
  rw [e]
  exact (usc ((k_need_word Z).up (by decide)) (usc ((k_need_row Z).up (by decide)) (usc (q_LEFT Z) (usc (q_LEFT_LETTERS Z) (usc (q_MIRROR_LETTERS Z) usn)))))
theorem k_turned_row (Z : Fx w K h mg) : Kw P w K mg base 2 (.fn (Str.ofString "turned_row") 2 F_turned_row) := by
  obtain ⟨fd, D⟩ := Z.c.d.def_ 27 (d := d_turned_row) rfl
  unfold F_turned_row B_turned_row
  exact def_K (k := 1) D sc_turned_row (by decide) ck_turned_row (us_turned_row Z) (He.glo_ok Z.X Z.G (Z.c.d.fact 27 (f := .glo "turned_row") rfl)) (FunD.bindsN D fun _ _ _ _ _ _ us hl => match us, hl with | [_, _], _ => rfl)
theorem us_law_turned_all (Z : Fx w K h mg) : ∀ u ∈ usesSs ir_law_turned_all, Kw P w K mg base 7 u := by
  have e : usesSs ir_law_turned_all = [.blt "tuple", .blt "range", .blt "len", .fn (Str.ofString "turned_spots") 2 F_turned_spots, .blt "tuple", .fn (Str.ofString "turned_stand") 3 F_turned_stand, .fn (Str.ofString "turned_floor") 2 F_turned_floor, .fn (Str.ofString "turned_row") 2 F_turned_row] := by kernel_rfl
  rw [e]
  exact (usc (b_tuple Z) (usc (b_range Z) (usc (b_len Z) (usc ((k_turned_spots Z).up (by decide)) (usc (b_tuple Z) (usc ((k_turned_stand Z).up (by decide)) (usc ((k_turned_floor Z).up (by decide)) (usc ((k_turned_row Z).up (by decide)) usn))))))))
theorem k_law_turned_all (Z : Fx w K h mg) : Kw P w K mg base 8 (.fn (Str.ofString "_law_turned_all") 4 F_law_turned_all) := by
  obtain ⟨fd, D⟩ := Z.c.d.def_ 28 (d := d_law_turned_all) rfl
  unfold F_law_turned_all B_law_turned_all
  exact def_K (k := 7) D sc_law_turned_all (by decide) ck_law_turned_all (us_law_turned_all Z) (He.glo_ok Z.X Z.G (Z.c.d.fact 28 (f := .glo "_law_turned_all") rfl)) (FunD.bindsN D fun _ _ _ _ _ _ us hl => match us, hl with | [_, _, _, _], _ => rfl)
theorem us_law_right (Z : Fx w K h mg) : ∀ u ∈ usesSs ir_law_right, Kw P w K mg base 8 u := by
  have e : usesSs ir_law_right = [.blt "tuple", .blt "range", .blt "len", .fn (Str.ofString "_law_turned_all") 4 F_law_turned_all, .fn (Str.ofString "_law_turned_all") 4 F_law_turned_all, .fn (Str.ofString "_law_turned_all") 4 F_law_turned_all, .fn (Str.ofString "_law_turned_all") 4 F_law_turned_all, .fn (Str.ofString "_law_turned_all") 4 F_law_turned_all, .fn (Str.ofString "is_floor") 1 F_is_floor, .fn (Str.ofString "is_lying") 1 F_is_lying, .blt "sorted", .blt "list", .blt "range", .blt "len", .blt "len", .blt "len", .blt "len", .blt "len"] := by kernel_rfl
  rw [e]
  exact (usc (b_tuple Z) (usc (b_range Z) (usc (b_len Z) (usc ((k_law_turned_all Z).up (by decide)) (usc ((k_law_turned_all Z).up (by decide)) (usc ((k_law_turned_all Z).up (by decide)) (usc ((k_law_turned_all Z).up (by decide)) (usc ((k_law_turned_all Z).up (by decide)) (usc ((k_is_floor Z).up (by decide)) (usc ((k_is_lying Z).up (by decide)) (usc (b_sorted Z) (usc (b_list Z) (usc (b_range Z) (usc (b_len Z) (usc (b_len Z) (usc (b_len Z) (usc (b_len Z) (usc (b_len Z) usn))))))))))))))))))
theorem k_law_right (Z : Fx w K h mg) : Kw P w K mg base 9 (.fn (Str.ofString "_law_right") 3 F_law_right) := by
  obtain ⟨fd, D⟩ := Z.c.d.def_ 29 (d := d_law_right) rfl
  unfold F_law_right B_law_right
  exact def_K (k := 8) D sc_law_right (by decide) ck_law_right (us_law_right Z) (He.glo_ok Z.X Z.G (Z.c.d.fact 29 (f := .glo "_law_right") rfl)) (FunD.bindsN D fun _ _ _ _ _ _ us hl => match us, hl with | [_, _, _], _ => rfl)
theorem us_law (Z : Fx w K h mg) : ∀ u ∈ usesSs ir_law, Kw P w K mg base 9 u := by
  have e : usesSs ir_law = [.blt "range", .blt "max", .blt "min", .blt "len", .fn (Str.ofString "_law_pen") 1 F_pen_b, .fn (Str.ofString "_law_cell_at") 2 F_cell_at_a, .blt "range", .fn (Str.ofString "_law_drawn_floor") 2 F_drawn_floor_b, .fn (Str.ofString "_law_drawn_stand") 2 F_drawn_stand_b, .blt "range", .fn (Str.ofString "_law_draw") 2 F_draw_b, .fn (Str.ofString "_law_pick") 2 F_pick_b, .fn (Str.ofString "_law_right") 3 F_law_right] := by kernel_rfl
  rw [e]
  exact (usc (b_range Z) (usc (b_max Z) (usc (b_min Z) (usc (b_len Z) (usc ((k_pen_b Z).up (by decide)) (usc ((k_cell_at_a Z).up (by decide)) (usc (b_range Z) (usc ((k_drawn_floor_b Z).up (by decide)) (usc ((k_drawn_stand_b Z).up (by decide)) (usc (b_range Z) (usc ((k_draw_b Z).up (by decide)) (usc ((k_pick_b Z).up (by decide)) (usc ((k_law_right Z).up (by decide)) usn)))))))))))))
theorem k_law (Z : Fx w K h mg) {fa : Addr} (hm : mg (Str.ofString "law") = some (.ref fa)) : ∃ fd : FuncData, (∀ (s : Shared) (v : Value), BindsTo s fd ⟨[v], []⟩ [(Str.ofString "_law_script", v)]) ∧ ∀ base : Heap, FnG P w K mg base 10 fa fd ["_law_script"] (spF ⟨K, w⟩ 1 F_law) := by
  obtain ⟨fd, D⟩ := Z.c.d.def_ 30 (d := d_law) rfl
  have e := hm.symm.trans (He.glo_ok Z.X Z.G (Z.c.d.fact 30 (f := .glo "law") rfl))
  cases e
  unfold F_law B_law
  have b := FunD.bindsA (ps := ["_law_script"]) D fun _ _ _ _ _ _ us hl => match us, hl with | [_], _ => rfl
  exact ⟨fd, fun s v => b s [v] rfl, fun base => (def_G (k := 9) D sc_law (by decide) ck_law (us_law Z)).loc⟩
end
end Tm.K33
open PySem PySem.W PySem.Calls PyProof.Rows
theorem PySem.Challenge.cw_tumblemarks_k33_whole_turns_of_turns_holds : PySem.Challenge.rw_tumblemarks_k33_whole_turns_of_turns.Holds := by
  w_on; o_law
  refine HandSHeadRun.head_any (r := Tm.K33.R) (q := view Tm.K33.R.prog [49]) (H := Tm.K33.hk) (ob := Tm.K33.ob) (M := 4000) (loose := Tm.K33.nms) (d := HandSHeadRun.topDef Tm.K33.R.prog 49) (kwd := []) Tm.K33.ob_eq (by kernel_rfl)
    (fun s => by kernel_rfl) Tm.K33.run (by kernel_rfl) (by kernel_rfl) (by kernel_rfl) (by rfl) (by first | assumption | decide +kernel) (by decide +kernel) ⟨rfl, rfl, rfl, rfl, rfl, by decide +kernel⟩ ?hw ?hc
  case hw => w_witness2
  case hc =>
    refine Tm.walk_G (l := PySem.Challenge.rw_tumblemarks_k33_whole_turns_of_turns) (n := 63) (k := 10) (x := Str.ofString "_law_script") (F := Tm.K33.F_law) rfl (by decide) (by kernel_rfl) ⟨rfl, by decide, by decide⟩ ?F Tm.K33.law_true
    intro w mg fa h Y G hm0
    obtain ⟨K, KX, c, cc⟩ := Y
    have hm : mg (Str.ofString "law") = some (.ref fa) := by
      have e : (HandSHeadRun.topDef Tm.K33.R.prog 49).name = Str.ofString "law" := by kernel_rfl
      rw [← e]; exact hm0
    obtain ⟨fd, hb, hF⟩ := Tm.K33.k_law (P := (PySem.Challenge.rw_tumblemarks_k33_whole_turns_of_turns).prog) ⟨KX, G, c, cc⟩ hm
    exact ⟨K, fd, KX, hb, fun base _ _ => hF base⟩

import PyProof.Rows.All
import Wide.All
import OpenK.AllK
import Wide.FinOn
import HandS.ForMost
import HandS.Walk
import HandS.Deep
import HandS.IsInst
import HandS.Zip
import HandS.TupAny
import HandS.NoneIn
import HandS.Style
import KE.SortData
import KE.DataMinMax
import PyProof.ReprRoads
import HandS.Strs
import HandS.RaiseMore
import HandS.Conv
import HandS.Replace
import KE.GoesNew
import HandS.More
import KE.KStateDown
import HandS.Ends
import HandS.Words
import HandS.WordsExc
import HandS.Defaults
import HandS.Head0
import HandS.Head1
import HandS.Head2
import HandS.HeadEnd
import HandS.HeadHook1
import HandS.HeadHook2
import HandS.HeadHook3
import PySem.Challenge.RW_tumblemarks_k02_rolls_and_stands
set_option Elab.async false
set_option linter.all false
set_option maxRecDepth 100000
namespace Tm
open PySem L2

/-! ## plain side: data, store, results -/
/-- a value: data that never changes, or a mutable object of the store -/
inductive D where
  | p (d : PyData)
  | r (n : Nat)
/-- a mutable object -/
inductive Ob where
  | lst (xs : List PyData)
  | dct (kvs : List (PyData × PyData))
abbrev Sto := List Ob
abbrev Ev := List (Option D)
abbrev Rs (α : Type) := Option (α × Sto)
abbrev M := Ev → Sto → Rs D
abbrev MB := Ev → Sto → Rs Bool
abbrev MA := Ev → Sto → Rs (List D)

/-! ## the relation between both sides -/
abbrev Fg := PySem.W.Frag
/-- a list that is laid for good: locked, or written -/
def KLst (K : Fg) (a : Addr) (xs : List V) : Prop := ∃ (its : List Value) (n : Nat), K.lookup a = some { cls := .type "list", data := .seq its.toArray n } ∧ xs.length ≤ sizeLine ∧ Vals xs its
def LstS (K : Fg) (H : Hp) (a : Addr) (xs : List V) : Prop := (∃ o : Obj, H a = some (.frz o (.lst xs))) ∨ KLst K a xs
/-- a list that may be read -/
def LstR (K : Fg) (H : Hp) (a : Addr) (xs : List V) : Prop := Rd H a (.lst xs) ∨ KLst K a xs
theorem LstS.rd {K : Fg} {H : Hp} {a : Addr} {xs : List V} (h : LstS K H a xs) : LstR K H a xs := by
  rcases h with ⟨o, h⟩ | h
  · exact .inl (.inr ⟨o, h⟩)
  · exact .inr h
theorem LstR.sq {K : Fg} {H : Hp} {a : Addr} {xs : List V} (h : LstR K H a xs) : SqL K H a xs := by
  rcases h with h | ⟨its, n, h, z, r⟩
  · exact .inl h
  · have e := r.length
    exact .inr ⟨_, its.toArray, n, h, rfl, rfl, rfl, by rw [List.size_toArray]; omega, by simpa using r⟩
theorem LstR.obj {X : Cx} {pins : List (Addr × Obj)} {σ : L2.St} {H : Hp} {s : Shared} {a : Addr} {xs : List V} (I : Inv X pins σ H s) (h : LstR X.K H a xs) : ∃ (its : List Value) (n : Nat), Vals xs its ∧ s.heap.get? a = some { cls := .type "list", data := .seq its.toArray n } ∧ xs.length ≤ sizeLine := by
  rcases h with h | ⟨its, n, h, z, r⟩
  · obtain ⟨z, its, n, r, e⟩ := h.ok I.hok
    exact ⟨its, n, r, e, z⟩
  · exact ⟨its, n, r, I.kIn a _ h, z⟩
/-- a tuple that is laid for good: locked, or written -/
def TupS (K : Fg) (H : Hp) (a : Addr) (xs : List V) : Prop :=
  (∃ o : Obj, H a = some (.frz o (.tup xs)) ∧ o.dict = none) ∨
    ∃ (o : Obj) (its : Array Value) (n : Nat), K.lookup a = some o ∧ o.cls = .type "tuple" ∧ o.dict = none ∧ o.data = .seq its n ∧ its.size ≤ sizeLine ∧ Vals xs its.toList
theorem TupS.sq {K : Fg} {H : Hp} {a : Addr} {xs : List V} (h : TupS K H a xs) : SqT K H a xs := by
  rcases h with ⟨o, h, _⟩ | ⟨o, its, n, h1, h2, _, h3, h4, h5⟩
  · exact .inl (.inr ⟨o, h⟩)
  · exact .inr ⟨o, its, n, h1, h2, h3, h4, h5⟩
mutual
inductive Rp (K : Fg) (H : Hp) : V → PyData → Prop
  | non : Rp K H .non .none
  | bl (b : Bool) : Rp K H (.bl b) (.bool b)
  | int (i : Int) : Rp K H (.int i) (.int i)
  | str (x : Str) : Rp K H (.str x) (.str x)
  | lst {a : Addr} {xs : List V} {ds : List PyData} : LstS K H a xs → RpA K H xs ds → Rp K H (.ref a) (.list ds)
  | tup {a : Addr} {xs : List V} {ds : List PyData} : TupS K H a xs → RpA K H xs ds → Rp K H (.ref a) (.tuple ds)
inductive RpA (K : Fg) (H : Hp) : List V → List PyData → Prop
  | nil : RpA K H [] []
  | cons {v : V} {vs : List V} {d : PyData} {ds : List PyData} : Rp K H v d → RpA K H vs ds → RpA K H (v :: vs) (d :: ds)
end
/-- what is laid for good -/
def Firm : HO → Prop
  | .tup _ => True
  | .frz _ _ => True
  | _ => False
def Keep (H H' : Hp) : Prop := ∀ a o, H a = some o → Firm o → H' a = some o
theorem Keep.refl (H : Hp) : Keep H H := fun _ _ h _ => h
theorem Keep.trans {H H1 H2 : Hp} (a : Keep H H1) (b : Keep H1 H2) : Keep H H2 := fun x o h f => b x o (a x o h f) f
theorem Keep.new {H : Hp} {p : Addr} {o : HO} (h : H p = none) : Keep H (upd H p o) := fun a u e _ => by
  rw [upd_ne (ne_of_none e h)]; exact e
theorem Keep.mut {H : Hp} {p : Addr} {o u : HO} (h : H p = some u) (f : ¬ Firm u) : Keep H (upd H p o) := fun a z e fz => by
  by_cases c : a = p
  · subst c; rw [h] at e; cases e; exact absurd fz f
  · rw [upd_ne c]; exact e
theorem Keep.lstS {K : Fg} {H H' : Hp} {a : Addr} {xs : List V} (k : Keep H H') (h : LstS K H a xs) : LstS K H' a xs := by
  rcases h with ⟨o, h⟩ | h
  · exact .inl ⟨o, k _ _ h trivial⟩
  · exact .inr h
theorem Keep.tupS {K : Fg} {H H' : Hp} {a : Addr} {xs : List V} (k : Keep H H') (h : TupS K H a xs) : TupS K H' a xs := by
  rcases h with ⟨o, h, z⟩ | h
  · exact .inl ⟨o, k _ _ h trivial, z⟩
  · exact .inr h
theorem Keep.sqT {K : Fg} {H H' : Hp} {a : Addr} {xs : List V} (k : Keep H H') (h : SqT K H a xs) : SqT K H' a xs := by
  rcases h with (h | ⟨o, h⟩) | h
  · exact .inl (.inl (k _ _ h trivial))
  · exact .inl (.inr ⟨o, k _ _ h trivial⟩)
  · exact .inr h
mutual
theorem Rp.mono {K : Fg} {H H' : Hp} (k : Keep H H') : ∀ (d : PyData) (v : V), Rp K H v d → Rp K H' v d
  | .none, _, h => by cases h; exact .non
  | .bool b, _, h => by cases h; exact .bl b
  | .int i, _, h => by cases h; exact .int i
  | .str x, _, h => by cases h; exact .str x
  | .list ds, _, h => by
    cases h with
    | lst h1 h2 => exact .lst (k.lstS h1) (RpA.mono k ds _ h2)
  | .tuple ds, _, h => by
    cases h with
    | tup h1 h2 => exact .tup (k.tupS h1) (RpA.mono k ds _ h2)
  | .dict _, _, h => by cases h
theorem RpA.mono {K : Fg} {H H' : Hp} (k : Keep H H') : ∀ (ds : List PyData) (vs : List V), RpA K H vs ds → RpA K H' vs ds
  | [], _, h => by cases h; exact .nil
  | d :: ds, _, h => by
    cases h with
    | cons h1 h2 => exact .cons (Rp.mono k d _ h1) (RpA.mono k ds _ h2)
end
mutual
theorem Rp.dp {K : Fg} {H : Hp} : ∀ (d : PyData) (v : V), Rp K H v d → Dp K H v d
  | .none, _, h => by cases h; exact .non
  | .bool b, _, h => by cases h; exact .bl b
  | .int i, _, h => by cases h; exact .int i
  | .str x, _, h => by cases h; exact .str x
  | .list ds, _, h => by
    cases h with
    | lst h1 h2 => exact .lst h1.rd.sq (RpA.dp ds _ h2)
  | .tuple ds, _, h => by
    cases h with
    | tup h1 h2 => exact .tup h1.sq (RpA.dp ds _ h2)
  | .dict _, _, h => by cases h
theorem RpA.dp {K : Fg} {H : Hp} : ∀ (ds : List PyData) (vs : List V), RpA K H vs ds → DpAll K H vs ds
  | [], _, h => by cases h; exact .nil
  | d :: ds, _, h => by
    cases h with
    | cons h1 h2 => exact .cons (Rp.dp d _ h1) (RpA.dp ds _ h2)
end
theorem RpA.length {K : Fg} {H : Hp} : ∀ {vs : List V} {ds : List PyData}, RpA K H vs ds → vs.length = ds.length
  | _, _, .nil => rfl
  | _, _, .cons _ t => congrArg Nat.succ (RpA.length t)
theorem RpA.get {K : Fg} {H : Hp} : ∀ {vs : List V} {ds : List PyData} {i : Nat} {d : PyData}, RpA K H vs ds → ds[i]? = some d → ∃ v, vs[i]? = some v ∧ Rp K H v d
  | _, _, _, _, .nil, e => by simp at e
  | _, _, 0, _, .cons r _, e => by simp at e; subst e; exact ⟨_, rfl, r⟩
  | _, _, i + 1, d, .cons _ t, e => by
    obtain ⟨v, h1, h2⟩ := RpA.get (i := i) (d := d) t (by simpa using e)
    exact ⟨v, by simpa using h1, h2⟩
theorem RpA.getV {K : Fg} {H : Hp} : ∀ {vs : List V} {ds : List PyData} {i : Nat} {v : V}, RpA K H vs ds → vs[i]? = some v → ∃ d, ds[i]? = some d ∧ Rp K H v d
  | _, _, _, _, .nil, e => by simp at e
  | _, _, 0, _, .cons r _, e => by simp at e; subst e; exact ⟨_, rfl, r⟩
  | _, _, i + 1, d, .cons _ t, e => by
    obtain ⟨v, h1, h2⟩ := RpA.getV (i := i) (v := d) t (by simpa using e)
    exact ⟨v, by simpa using h1, h2⟩
theorem RpA.append {K : Fg} {H : Hp} : ∀ {vs ws : List V} {ds es : List PyData}, RpA K H vs ds → RpA K H ws es → RpA K H (vs ++ ws) (ds ++ es)
  | _, _, _, _, .nil, h => h
  | _, _, _, _, .cons r t, h => .cons r (RpA.append t h)
theorem RpA.take {K : Fg} {H : Hp} : ∀ {vs : List V} {ds : List PyData} (n : Nat), RpA K H vs ds → RpA K H (vs.take n) (ds.take n)
  | _, _, 0, _ => .nil
  | _, _, _ + 1, .nil => .nil
  | _, _, n + 1, .cons r t => .cons r (RpA.take n t)
theorem RpA.drop {K : Fg} {H : Hp} : ∀ {vs : List V} {ds : List PyData} (n : Nat), RpA K H vs ds → RpA K H (vs.drop n) (ds.drop n)
  | _, _, 0, r => r
  | _, _, _ + 1, .nil => .nil
  | _, _, n + 1, .cons _ t => RpA.drop n t
theorem RpA.set {K : Fg} {H : Hp} {v : V} {d : PyData} (r : Rp K H v d) : ∀ {vs : List V} {ds : List PyData} (i : Nat), RpA K H vs ds → RpA K H (vs.set i v) (ds.set i d)
  | _, _, _, .nil => .nil
  | _, _, 0, .cons _ t => .cons r t
  | _, _, i + 1, .cons q t => .cons q (RpA.set r i t)
theorem RpA.reverse {K : Fg} {H : Hp} : ∀ {vs : List V} {ds : List PyData}, RpA K H vs ds → RpA K H vs.reverse ds.reverse
  | _, _, .nil => .nil
  | _, _, .cons r t => by simp only [List.reverse_cons]; exact (RpA.reverse t).append (.cons r .nil)
theorem RpA.dropLast {K : Fg} {H : Hp} : ∀ {vs : List V} {ds : List PyData}, RpA K H vs ds → RpA K H vs.dropLast ds.dropLast
  | _, _, .nil => .nil
  | _, _, .cons _ .nil => .nil
  | _, _, .cons r (.cons q t) => .cons r (RpA.dropLast (.cons q t))

/-- a value of the plain side stands for v -/
def RD (K : Fg) (H : Hp) (ι : List Addr) (v : V) : D → Prop
  | .p d => Rp K H v d
  | .r n => ∃ a, ι[n]? = some a ∧ v = .ref a
def ObR (K : Fg) (H : Hp) (a : Addr) : Ob → Prop
  | .lst ds => ∃ xs, H a = some (.lst xs) ∧ RpA K H xs ds
  | .dct _ => False
structure HR (K : Fg) (H : Hp) (ι : List Addr) (S : Sto) : Prop where
  len : ι.length = S.length
  nd : ι.Nodup
  at_ : ∀ (n : Nat) (a : Addr) (ob : Ob), ι[n]? = some a → S[n]? = some ob → ObR K H a ob
def RDs (K : Fg) (H : Hp) (ι : List Addr) : List V → List D → Prop
  | [], [] => True
  | v :: vs, d :: ds => RD K H ι v d ∧ RDs K H ι vs ds
  | _, _ => False
/-- from (ι, H) on: ι grows by new addresses; what is firm, and all that is none of ι's, stays -/
structure Ext (ι : List Addr) (H : Hp) (ι' : List Addr) (H' : Hp) : Prop where
  pre : ι <+: ι'
  new : ∀ a ∈ ι', a ∈ ι ∨ H a = none
  stay : ∀ a o, H a = some o → (Firm o ∨ a ∉ ι) → H' a = some o
theorem Ext.keep {ι ι' : List Addr} {H H' : Hp} (x : Ext ι H ι' H') : Keep H H' := fun a o h f => x.stay a o h (.inl f)
theorem Ext.refl (ι : List Addr) (H : Hp) : Ext ι H ι H := ⟨List.prefix_refl _, fun _ h => .inl h, fun _ _ h _ => h⟩
theorem Ext.trans {ι ι1 ι2 : List Addr} {H H1 H2 : Hp} (a : Ext ι H ι1 H1) (b : Ext ι1 H1 ι2 H2) : Ext ι H ι2 H2 := by
  refine ⟨a.pre.trans b.pre, fun x hx => ?_, fun x o h f => ?_⟩
  · rcases b.new x hx with h | h
    · exact a.new x h
    · by_cases c : x ∈ ι
      · exact .inl c
      · cases q : H x with
        | none => exact .inr rfl
        | some o => rw [a.stay x o q (.inr c)] at h; cases h
  · refine b.stay x o (a.stay x o h f) ?_
    rcases f with f | f
    · exact .inl f
    · refine .inr fun hx => ?_
      rcases a.new x hx with z | z
      · exact f z
      · rw [z] at h; cases h
/-- something new beside -/
theorem Ext.put {ι : List Addr} {H : Hp} {p : Addr} {o : HO} (h : H p = none) : Ext ι H ι (upd H p o) := ⟨List.prefix_refl _, fun _ h => .inl h, fun a u e _ => by rw [upd_ne (ne_of_none e h)]; exact e⟩
theorem Ext.same {ι : List Addr} {H H' : Hp} (h : Same H H') : Ext ι H ι H' := ⟨List.prefix_refl _, fun _ h => .inl h, fun a u e _ => h a u e⟩
/-- a new object of the store -/
theorem Ext.grow {ι : List Addr} {H : Hp} {p : Addr} {o : HO} (h : H p = none) : Ext ι H (ι ++ [p]) (upd H p o) :=
  ⟨List.prefix_append _ _, fun a ha => by
    rcases List.mem_append.mp ha with z | z
    · exact .inl z
    · have : a = p := by simpa using z
      subst this; exact .inr h, fun a u e _ => by rw [upd_ne (ne_of_none e h)]; exact e⟩
/-- an object of the store turned -/
theorem Ext.turn {ι : List Addr} {H : Hp} {p : Addr} {o u : HO} (h : H p = some u) (f : ¬ Firm u) (hp : p ∈ ι) : Ext ι H ι (upd H p o) :=
  ⟨List.prefix_refl _, fun _ h => .inl h, fun a z e fz => by
    by_cases c : a = p
    · subst c; rw [h] at e; cases e
      rcases fz with fz | fz
      · exact absurd fz f
      · exact absurd hp fz
    · rw [upd_ne c]; exact e⟩
theorem RD.mono {K : Fg} {H H' : Hp} {ι ι' : List Addr} {v : V} (x : Ext ι H ι' H') : ∀ {d : D}, RD K H ι v d → RD K H' ι' v d
  | .p d, h => Rp.mono x.keep d v h
  | .r n, ⟨a, h, e⟩ => ⟨a, by obtain ⟨t, ht⟩ := x.pre; rw [← ht, List.getElem?_append_left (List.getElem?_eq_some_iff.mp h).1]; exact h, e⟩
theorem RDs.mono {K : Fg} {H H' : Hp} {ι ι' : List Addr} (x : Ext ι H ι' H') : ∀ {vs : List V} {ds : List D}, RDs K H ι vs ds → RDs K H' ι' vs ds
  | [], [], _ => trivial
  | _ :: _, _ :: _, ⟨a, b⟩ => ⟨a.mono x, RDs.mono x b⟩
theorem ObR.same {K : Fg} {H H' : Hp} {a : Addr} (x : Same H H') : ∀ {ob : Ob}, ObR K H a ob → ObR K H' a ob
  | .lst _, ⟨xs, h1, h2⟩ => ⟨xs, x _ _ h1, RpA.mono (fun a o h _ => x a o h) _ _ h2⟩
  | .dct _, h => h
theorem HR.same {K : Fg} {H H' : Hp} {ι : List Addr} {S : Sto} (h : HR K H ι S) (x : Same H H') : HR K H' ι S := ⟨h.len, h.nd, fun n a ob e1 e2 => (h.at_ n a ob e1 e2).same x⟩
theorem Same.put {H : Hp} {p : Addr} {o : HO} (h : H p = none) : Same H (upd H p o) := fun a u e => by rw [upd_ne (ne_of_none e h)]; exact e
theorem ObR.some {K : Fg} {H : Hp} {a : Addr} : ∀ {ob : Ob}, ObR K H a ob → ∃ u, H a = some u ∧ ¬ Firm u
  | .lst _, ⟨xs, h1, _⟩ => ⟨_, h1, fun z => z⟩
  | .dct _, h => h.elim
theorem HR.mem {K : Fg} {H : Hp} {ι : List Addr} {S : Sto} (h : HR K H ι S) {a : Addr} (ha : a ∈ ι) : ∃ u, H a = some u ∧ ¬ Firm u := by
  obtain ⟨n, hn, e⟩ := List.getElem_of_mem ha
  have hn' : n < S.length := by rw [← h.len]; exact hn
  exact (h.at_ n a S[n] (by rw [List.getElem?_eq_getElem hn, e]) (List.getElem?_eq_getElem hn')).some
/-- a new object of the store -/
theorem HR.grow {K : Fg} {H : Hp} {ι : List Addr} {S : Sto} (h : HR K H ι S) {p : Addr} {o : HO} (hp : H p = none) {ob : Ob} (q : ObR K (upd H p o) p ob) : HR K (upd H p o) (ι ++ [p]) (S ++ [ob]) := by
  have s := Same.put (o := o) hp
  have np : p ∉ ι := fun hm => by obtain ⟨u, e, _⟩ := h.mem hm; rw [hp] at e; cases e
  refine ⟨by simp [h.len], ?_, fun n a ob' e1 e2 => ?_⟩
  · rw [List.nodup_append]
    exact ⟨h.nd, by simp, fun a ha b hb => by
      have : b = p := by simpa using hb
      subst this
      intro e; subst e; exact np ha⟩
  · by_cases c : n < ι.length
    · rw [List.getElem?_append_left c] at e1
      rw [List.getElem?_append_left (by rw [← h.len]; exact c)] at e2
      exact (h.at_ n a ob' e1 e2).same s
    · have c' : n = ι.length := by
        have z := (List.getElem?_eq_some_iff.mp e1).1
        simp at z; omega
      subst c'
      rw [List.getElem?_append_right (Nat.le_refl _)] at e1
      rw [h.len, List.getElem?_append_right (Nat.le_refl _)] at e2
      simp at e1 e2
      subst e1; subst e2
      exact q
/-- an object of the store turned -/
theorem HR.turn {K : Fg} {H : Hp} {ι : List Addr} {S : Sto} (h : HR K H ι S) {n : Nat} {p : Addr} {o : HO} {ob ob' : Ob} (hp : ι[n]? = some p) (hn : S[n]? = some ob) (q : ObR K (upd H p o) p ob') : HR K (upd H p o) ι (S.set n ob') := by
  obtain ⟨u, hu, fu⟩ := (h.at_ n p ob hp hn).some
  have k : Keep H (upd H p o) := Keep.mut hu fu
  refine ⟨by simp [h.len], h.nd, fun m a z e1 e2 => ?_⟩
  by_cases c : n = m
  · subst c
    rw [hp] at e1; cases e1
    rw [List.getElem?_set_self (List.getElem?_eq_some_iff.mp hn).1] at e2
    cases e2
    exact q
  · rw [List.getElem?_set_ne c] at e2
    have na : a ≠ p := fun e => by
      subst e
      obtain ⟨h1, e1'⟩ := List.getElem?_eq_some_iff.mp e1
      obtain ⟨h2, e2'⟩ := List.getElem?_eq_some_iff.mp hp
      exact c ((List.getElem_inj h.nd).mp (e2'.trans e1'.symm))
    have y := h.at_ m a z e1 e2
    cases z with
    | lst ds =>
      obtain ⟨xs, y1, y2⟩ := y
      exact ⟨xs, by rw [upd_ne na]; exact y1, RpA.mono k _ _ y2⟩
    | dct _ => exact y
theorem RDs.length {K : Fg} {H : Hp} {ι : List Addr} : ∀ {vs : List V} {ds : List D}, RDs K H ι vs ds → vs.length = ds.length
  | [], [], _ => rfl
  | _ :: _, _ :: _, ⟨_, b⟩ => congrArg Nat.succ (RDs.length b)
/-- slots -/
structure ER (K : Fg) (H : Hp) (ι : List Addr) (σ : St) (ρ : Ev) : Prop where
  len : σ.length = ρ.length
  at_ : ∀ (i : Nat) (d : D), ρ[i]? = some (some d) → ∃ v, σ[i]? = some (some v) ∧ RD K H ι v d
theorem ER.mono {K : Fg} {H H' : Hp} {ι ι' : List Addr} {σ : L2.St} {ρ : Ev} (x : Ext ι H ι' H') (h : ER K H ι σ ρ) : ER K H' ι' σ ρ :=
  ⟨h.len, fun i d e => let ⟨v, e1, e2⟩ := h.at_ i d e; ⟨v, e1, e2.mono x⟩⟩
theorem ER.set {K : Fg} {H : Hp} {ι : List Addr} {σ : St} {ρ : Ev} {v : V} {d : D} (h : ER K H ι σ ρ) (i : Nat) (r : RD K H ι v d) : ER K H ι (σ.set i (some v)) (ρ.set i (some d)) := by
  refine ⟨by simp [h.len], fun j e hj => ?_⟩
  by_cases c : i = j
  · subst c
    by_cases hi : i < ρ.length
    · rw [List.getElem?_set_self hi] at hj
      cases hj
      exact ⟨v, by rw [List.getElem?_set_self (by rw [h.len]; exact hi)], r⟩
    · rw [List.getElem?_eq_none (by simpa using hi)] at hj; cases hj
  · rw [List.getElem?_set_ne c] at hj
    obtain ⟨w, e1, e2⟩ := h.at_ j e hj
    exact ⟨w, by rw [List.getElem?_set_ne c]; exact e1, e2⟩
/-- what follows an end: all further heaps that stand for d and S -/
def Aft (K : Fg) (H : Hp) (ι : List Addr) (d : D) (S : Sto) (Q : VK) : Prop :=
  ∀ ι' v H', Ext ι H ι' H' → HR K H' ι' S → RD K H' ι' v d → Q v H'
theorem Aft.of {K : Fg} {H H1 : Hp} {ι ι1 : List Addr} {d : D} {S : Sto} {Q : VK} (h : Aft K H ι d S Q) (x : Ext ι H ι1 H1) : Aft K H1 ι1 d S Q :=
  fun ι' v H' x' => h ι' v H' (x.trans x')
/-! ## readings -/
def tE (K : Fg) (m : M) : TE := fun σ H Q => ∃ ι ρ S d S', HR K H ι S ∧ ER K H ι σ ρ ∧ m ρ S = some (d, S') ∧ Aft K H ι d S' Q
def tB' (K : Fg) (m : MB) : TT := fun σ H Q => ∃ ι ρ S b S', HR K H ι S ∧ ER K H ι σ ρ ∧ m ρ S = some (b, S') ∧ ∀ ι' H', Ext ι H ι' H' → HR K H' ι' S' → Q b H'
def tAs (K : Fg) (m : MA) : TA := fun σ H Q => ∃ ι ρ S ds S', HR K H ι S ∧ ER K H ι σ ρ ∧ m ρ S = some (ds, S') ∧ ∀ ι' vs H', Ext ι H ι' H' → HR K H' ι' S' → RDs K H' ι' vs ds → Q vs H'
theorem PE.imp {X : Cx} {e : Expr} {t u : TE} (h : PE X e t) (i : ∀ σ H Q, u σ H Q → t σ H Q) : PE X e u := ⟨fun pins s σ H Q I q => h.run pins s σ H Q I (i σ H Q q)⟩
theorem PT.imp {X : Cx} {e : Expr} {t u : TT} (h : PT X e t) (i : ∀ σ H Q, u σ H Q → t σ H Q) : PT X e u := ⟨fun pins s σ H Q I q => h.run pins s σ H Q I (i σ H Q q)⟩
theorem PW.imp {X : Cx} {e : Expr} {t u : TT} (h : PW X e t) (i : ∀ σ H Q, u σ H Q → t σ H Q) : PW X e u := ⟨fun wh pins s σ H Q I q => h.run wh pins s σ H Q I (i σ H Q q)⟩
theorem PA.imp {X : Cx} {es : List Expr} {t u : TA} (h : PA X es t) (i : ∀ σ H Q, u σ H Q → t σ H Q) : PA X es u := ⟨fun pos pins s σ H Q I q => h.run pos pins s σ H Q I (i σ H Q q)⟩
theorem PS.imp {X : Cx} {st : Stmt} {t u : TS} (h : PS X st t) (i : ∀ D σ H, u D σ H → t D σ H) : PS X st u := ⟨fun pins s σ H D I q => h.run pins s σ H D I (i D σ H q)⟩
theorem PSs.imp {X : Cx} {st : List Stmt} {t u : TS} (h : PSs X st t) (i : ∀ D σ H, u D σ H → t D σ H) : PSs X st u := ⟨fun pins s σ H D I q => h.run pins s σ H D I (i D σ H q)⟩
end Tm
namespace Tm
open PySem L2

/-! ## combinators of the plain side -/
def mVar (i : Nat) : M := fun ρ S => match ρ[i]? with
  | some (some d) => some (d, S)
  | _ => none
def mC (d : PyData) : M := fun _ S => some (.p d, S)
def m1 (f : D → Sto → Rs D) (a : M) : M := fun ρ S => match a ρ S with
  | some (x, S1) => f x S1
  | none => none
def m2 (f : D → D → Sto → Rs D) (a b : M) : M := fun ρ S => match a ρ S with
  | some (x, S1) => (match b ρ S1 with
    | some (y, S2) => f x y S2
    | none => none)
  | none => none
def maNil : MA := fun _ S => some ([], S)
def maCons (a : M) (r : MA) : MA := fun ρ S => match a ρ S with
  | some (x, S1) => (match r ρ S1 with
    | some (xs, S2) => some (x :: xs, S2)
    | none => none)
  | none => none
def mN (f : List D → Sto → Rs D) (as : MA) : M := fun ρ S => match as ρ S with
  | some (ds, S1) => f ds S1
  | none => none
/-- o.m(..) -/
def mM (f : D → List D → Sto → Rs D) (o : M) (as : MA) : M := fun ρ S => match o ρ S with
  | some (x, S1) => (match as ρ S1 with
    | some (ds, S2) => f x ds S2
    | none => none)
  | none => none
/-- a value as a test: bools alone -/
def bV (a : M) : MB := fun ρ S => match a ρ S with
  | some (.p (.bool b), S1) => some (b, S1)
  | _ => none
def bNot (a : MB) : MB := fun ρ S => match a ρ S with
  | some (b, S1) => some (!b, S1)
  | none => none
def bAnd (a b : MB) : MB := fun ρ S => match a ρ S with
  | some (true, S1) => b ρ S1
  | some (false, S1) => some (false, S1)
  | none => none
def bOr (a b : MB) : MB := fun ρ S => match a ρ S with
  | some (true, S1) => some (true, S1)
  | some (false, S1) => b ρ S1
  | none => none
def mB (a : MB) : M := fun ρ S => match a ρ S with
  | some (b, S1) => some (.p (.bool b), S1)
  | none => none
def mAnd (a b : M) : M := fun ρ S => match a ρ S with
  | some (.p (.bool true), S1) => b ρ S1
  | some (.p (.bool false), S1) => some (.p (.bool false), S1)
  | _ => none
def mOr (a b : M) : M := fun ρ S => match a ρ S with
  | some (.p (.bool true), S1) => some (.p (.bool true), S1)
  | some (.p (.bool false), S1) => b ρ S1
  | _ => none
def mIf (c : MB) (a b : M) : M := fun ρ S => match c ρ S with
  | some (true, S1) => a ρ S1
  | some (false, S1) => b ρ S1
  | none => none
/-- a < b < c -/
def mChain (f g : D → D → Sto → Rs D) (a b c : M) : M := fun ρ S => match a ρ S with
  | some (x, S1) => (match b ρ S1 with
    | some (y, S2) => (match f x y S2 with
      | some (.p (.bool true), S3) => (match c ρ S3 with
        | some (z, S4) => g y z S4
        | none => none)
      | some (.p (.bool false), S3) => some (.p (.bool false), S3)
      | _ => none)
    | none => none)
  | none => none

/-! ## rules by values -/
def r1 (K : Fg) (g : D → Sto → Rs D) : V → Hp → VK → Prop := fun x H Q => ∃ ι S d z S', HR K H ι S ∧ RD K H ι x d ∧ g d S = some (z, S') ∧ Aft K H ι z S' Q
def r2 (K : Fg) (g : D → D → Sto → Rs D) : R2 := fun x y H Q => ∃ ι S d e z S', HR K H ι S ∧ RD K H ι x d ∧ RD K H ι y e ∧ g d e S = some (z, S') ∧ Aft K H ι z S' Q
def rN (K : Fg) (g : List D → Sto → Rs D) : List V → Hp → VK → Prop := fun vs H Q => ∃ ι S ds z S', HR K H ι S ∧ RDs K H ι vs ds ∧ g ds S = some (z, S') ∧ Aft K H ι z S' Q
def rM (K : Fg) (g : D → List D → Sto → Rs D) : V → List V → Hp → VK → Prop := fun x vs H Q => ∃ ι S d ds z S', HR K H ι S ∧ RD K H ι x d ∧ RDs K H ι vs ds ∧ g d ds S = some (z, S') ∧ Aft K H ι z S' Q
/-- a def's promise: F of the arguments' data -/
def spF (K : Fg) (n : Nat) (F : List D → Sto → Rs D) : Sp := fun vs H Q _ => ∃ ι S ds z S', HR K H ι S ∧ RDs K H ι vs ds ∧ ds.length = n ∧ F ds S = some (z, S') ∧ Aft K H ι z S' Q

theorem mp1 {α β : Type} {o : Option α} {f : α → Option β} {z : β} (h : (match o with | some x => f x | none => none) = some z) : ∃ x, o = some x ∧ f x = some z := by
  cases o with
  | none => cases h
  | some x => exact ⟨x, rfl, h⟩

section
variable {X : Cx} {a b c e : Expr} {es : List Expr} {ma mb mc : M} {ba bb : MB} {mas : MA} {pos p : Pos}
theorem s_var {i : Nat} (h : PE X a (tVar i)) : PE X a (tE X.K (mVar i)) := by
  refine PE.imp h fun σ H Q ⟨ι, ρ, S, d, S', hH, hE, e, q⟩ => ?_
  unfold mVar at e
  split at e
  · rename_i x hx
    cases e
    obtain ⟨v, hv, rv⟩ := hE.at_ i _ hx
    exact ⟨v, hv, q ι v H (Ext.refl _ _) hH rv⟩
  · cases e
theorem s_c {v : V} {d : PyData} (h : PE X a (tC v)) (r : ∀ H, Rp X.K H v d) : PE X a (tE X.K (mC d)) := by
  refine PE.imp h fun σ H Q ⟨ι, ρ, S, d', S', hH, hE, e, q⟩ => ?_
  cases e
  exact q ι v H (Ext.refl _ _) hH (r H)
theorem s_op1 {op : UnaryOp} {g : D → Sto → Rs D} (ho : UnR X (unaryOp op) (r1 X.K g)) (ha : PE X a (tE X.K ma)) : PE X (.UnaryOp op a pos) (tE X.K (m1 g ma)) := by
  refine PE.imp (pe_un ho ha) fun σ H Q ⟨ι, ρ, S, z, S', hH, hE, e, q⟩ => ?_
  unfold m1 at e
  split at e
  · rename_i x S1 h1
    exact ⟨ι, ρ, S, x, S1, hH, hE, h1, fun ι1 vx H1 w1 hH1 rx => ⟨ι1, S1, x, z, S', hH1, rx, e, q.of w1⟩⟩
  · cases e
theorem imp2 {K : Fg} {ma mb : M} {g : D → D → Sto → Rs D} {σ : L2.St} {H : Hp} {Q : VK} (h : tE K (m2 g ma mb) σ H Q) : tOp (r2 K g) (tE K ma) (tE K mb) σ H Q := by
  obtain ⟨ι, ρ, S, z, S', hH, hE, e, q⟩ := h
  unfold m2 at e
  split at e
  · rename_i x S1 h1
    split at e
    · rename_i y S2 h2
      exact ⟨ι, ρ, S, x, S1, hH, hE, h1, fun ι1 vx H1 w1 hH1 rx => ⟨ι1, ρ, S1, y, S2, hH1, hE.mono w1, h2, fun ι2 vy H2 w2 hH2 ry => ⟨ι2, S2, x, y, z, S', hH2, rx.mono w2, ry, e, q.of (w1.trans w2)⟩⟩⟩
    · cases e
  · cases e
theorem s_op2 {op : Operator} {g : D → D → Sto → Rs D} (ho : OpR X (binaryOp op) (r2 X.K g)) (ha : PE X a (tE X.K ma)) (hb : PE X b (tE X.K mb)) : PE X (.BinOp a op b pos) (tE X.K (m2 g ma mb)) :=
  PE.imp (pe_op ho ha hb) fun _ _ _ h => imp2 h
theorem s_cmp {op : CmpOp} {g : D → D → Sto → Rs D} (ho : OpR X (compareOp op) (r2 X.K g)) (ha : PE X a (tE X.K ma)) (hb : PE X b (tE X.K mb)) (hm : behindInMarks op b = false) : PE X (.Compare a [op] [b] pos) (tE X.K (m2 g ma mb)) :=
  PE.imp (pe_cmpR ho ha hb hm) fun _ _ _ h => imp2 h
theorem bl_of {K : Fg} {H : Hp} {ι : List Addr} {v : V} {b : Bool} (h : RD K H ι v (.p (.bool b))) : v = .bl b := by cases h; rfl
theorem impT {K : Fg} {m : M} {t : TE} (i : ∀ σ H Q, tE K m σ H Q → t σ H Q) {σ : L2.St} {H : Hp} {Q : Bool → Hp → Prop} (h : tB' K (bV m) σ H Q) : t σ H fun x H' => ∃ k, x = .bl k ∧ Q k H' := by
  obtain ⟨ι, ρ, S, b, S', hH, hE, e, q⟩ := h
  unfold bV at e
  split at e
  · rename_i b' S1 h1
    cases e
    exact i _ _ _ ⟨ι, ρ, S, _, _, hH, hE, h1, fun ι1 v H1 w1 hH1 r => ⟨_, bl_of r, q ι1 H1 w1 hH1⟩⟩
  · cases e
theorem s_cmpT {op : CmpOp} {g : D → D → Sto → Rs D} (ho : OpR X (compareOp op) (r2 X.K g)) (ha : PE X a (tE X.K ma)) (hb : PE X b (tE X.K mb)) (hm : behindInMarks op b = false) : PT X (.Compare a [op] [b] pos) (tB' X.K (bV (m2 g ma mb))) :=
  PT.imp (pt_cmpR ho ha hb hm) fun _ _ _ h => impT (fun _ _ _ h => imp2 h) h
/-- any other expression as a test -/
theorem s_val (ha : PE X a (tE X.K ma)) (he : ∀ whole, isTrue a X.env whole = (do let v ← whole; standAt a.pos; holding [v] (truthy v))) : PT X a (tB' X.K (bV ma)) :=
  PT.imp (pt_val ha he) fun _ _ _ h => impT (fun _ _ _ h => h) h
theorem imp3 {K : Fg} {ma mb mc : M} {f g : D → D → Sto → Rs D} {σ : L2.St} {H : Hp} {Q : VK} (h : tE K (mChain f g ma mb mc) σ H Q) : tChain (r2 K f) (r2 K g) (tE K ma) (tE K mb) (tE K mc) σ H Q := by
  obtain ⟨ι, ρ, S, z, S', hH, hE, e, q⟩ := h
  unfold mChain at e
  split at e
  · rename_i x S1 h1
    split at e
    · rename_i y S2 h2
      refine ⟨ι, ρ, S, x, S1, hH, hE, h1, fun ι1 vx H1 w1 hH1 rx => ⟨ι1, ρ, S1, y, S2, hH1, hE.mono w1, h2, fun ι2 vy H2 w2 hH2 ry => ?_⟩⟩
      split at e
      · rename_i S3 h3
        split at e
        · rename_i w S4 h4
          refine ⟨ι2, S2, x, y, _, S3, hH2, rx.mono w2, ry, h3, fun ι3 v3 H3 w3 hH3 r3 => ⟨true, bl_of r3, ?_⟩⟩
          refine iteT ?_
          exact ⟨ι3, ρ, S3, w, S4, hH3, (hE.mono (w1.trans w2)).mono w3, h4, fun ι4 v4 H4 w4 hH4 r4 => ⟨ι4, S4, y, w, z, S', hH4, (ry.mono w3).mono w4, r4, e, q.of (((w1.trans w2).trans w3).trans w4)⟩⟩
        · cases e
      · rename_i S3 h3
        refine ⟨ι2, S2, x, y, _, S3, hH2, rx.mono w2, ry, h3, fun ι3 v3 H3 w3 hH3 r3 => ⟨false, bl_of r3, ?_⟩⟩
        refine iteF ?_
        cases e
        exact q ι3 _ H3 ((w1.trans w2).trans w3) hH3 (.bl false)
      · cases e
    · cases e
  · cases e
theorem s_chain {op op' : CmpOp} {f g : D → D → Sto → Rs D} (ho : OpR X (compareOp op) (r2 X.K f)) (ho' : OpR X (compareOp op') (r2 X.K g)) (ha : PE X a (tE X.K ma)) (hb : PE X b (tE X.K mb)) (hc : PE X c (tE X.K mc))
    (h : PE X (.Compare a [op, op'] [b, c] pos) (tChain (r2 X.K f) (r2 X.K g) (tE X.K ma) (tE X.K mb) (tE X.K mc))) : PE X (.Compare a [op, op'] [b, c] pos) (tE X.K (mChain f g ma mb mc)) :=
  PE.imp h fun _ _ _ h => imp3 h
theorem s_chainT {op op' : CmpOp} {f g : D → D → Sto → Rs D} (h : PT X (.Compare a [op, op'] [b, c] pos) (tTest (tChain (r2 X.K f) (r2 X.K g) (tE X.K ma) (tE X.K mb) (tE X.K mc)))) : PT X (.Compare a [op, op'] [b, c] pos) (tB' X.K (bV (mChain f g ma mb mc))) :=
  PT.imp h fun _ _ _ h => impT (fun _ _ _ h => imp3 h) h
/-! tests -/
theorem s_notT (ha : PT X a (tB' X.K ba)) : PT X (.UnaryOp .Not a pos) (tB' X.K (bNot ba)) := by
  refine PT.imp (pt_not ha) fun σ H Q ⟨ι, ρ, S, z, S', hH, hE, e, q⟩ => ?_
  unfold bNot at e
  split at e
  · rename_i x S1 h1
    cases e
    exact ⟨ι, ρ, S, x, _, hH, hE, h1, q⟩
  · cases e
theorem impAnd {K : Fg} {ba bb : MB} {σ : L2.St} {H : Hp} {Q : Bool → Hp → Prop} (h : tB' K (bAnd ba bb) σ H Q) : tAnd (tB' K ba) (tB' K bb) σ H Q := by
  obtain ⟨ι, ρ, S, z, S', hH, hE, e, q⟩ := h
  unfold bAnd at e
  split at e
  · rename_i S1 h1
    refine ⟨ι, ρ, S, _, S1, hH, hE, h1, fun ι1 H1 w1 hH1 => ?_⟩
    refine iteT ?_
    exact ⟨ι1, ρ, S1, z, S', hH1, hE.mono w1, e, fun ι2 H2 w2 hH2 => q ι2 H2 (w1.trans w2) hH2⟩
  · rename_i S1 h1
    cases e
    refine ⟨ι, ρ, S, _, _, hH, hE, h1, fun ι1 H1 w1 hH1 => ?_⟩
    refine iteF ?_
    exact q ι1 H1 w1 hH1
  · cases e
theorem impOr {K : Fg} {ba bb : MB} {σ : L2.St} {H : Hp} {Q : Bool → Hp → Prop} (h : tB' K (bOr ba bb) σ H Q) : tOr (tB' K ba) (tB' K bb) σ H Q := by
  obtain ⟨ι, ρ, S, z, S', hH, hE, e, q⟩ := h
  unfold bOr at e
  split at e
  · rename_i S1 h1
    cases e
    refine ⟨ι, ρ, S, _, _, hH, hE, h1, fun ι1 H1 w1 hH1 => ?_⟩
    refine iteT ?_
    exact q ι1 H1 w1 hH1
  · rename_i S1 h1
    refine ⟨ι, ρ, S, _, S1, hH, hE, h1, fun ι1 H1 w1 hH1 => ?_⟩
    refine iteF ?_
    exact ⟨ι1, ρ, S1, z, S', hH1, hE.mono w1, e, fun ι2 H2 w2 hH2 => q ι2 H2 (w1.trans w2) hH2⟩
  · cases e
theorem s_andT {rest : List Expr} (ha : PT X a (tB' X.K ba)) (hb : PW X (.BoolOp .And (b :: rest) pos) (tB' X.K bb)) : PW X (.BoolOp .And (a :: b :: rest) pos) (tB' X.K (bAnd ba bb)) :=
  PW.imp (pw_and ha hb) fun _ _ _ h => impAnd h
theorem s_orT {rest : List Expr} (ha : PT X a (tB' X.K ba)) (hb : PW X (.BoolOp .Or (b :: rest) pos) (tB' X.K bb)) : PW X (.BoolOp .Or (a :: b :: rest) pos) (tB' X.K (bOr ba bb)) :=
  PW.imp (pw_or ha hb) fun _ _ _ h => impOr h
/-! the same as values -/
theorem s_and {rest : List Expr} (ha : PE X a (tE X.K ma)) (hb : PE X (.BoolOp .And (b :: rest) pos) (tE X.K mb)) : PE X (.BoolOp .And (a :: b :: rest) pos) (tE X.K (mAnd ma mb)) := by
  refine PE.imp (pe_and ha hb) fun σ H Q ⟨ι, ρ, S, z, S', hH, hE, e, q⟩ => ?_
  unfold mAnd at e
  split at e
  · rename_i S1 h1
    refine ⟨ι, ρ, S, _, S1, hH, hE, h1, fun ι1 v1 H1 w1 hH1 rv => ⟨true, bl_of rv, ?_⟩⟩
    refine iteT ?_
    exact ⟨ι1, ρ, S1, z, S', hH1, hE.mono w1, e, q.of w1⟩
  · rename_i S1 h1
    cases e
    refine ⟨ι, ρ, S, _, _, hH, hE, h1, fun ι1 v1 H1 w1 hH1 rv => ⟨false, bl_of rv, ?_⟩⟩
    refine iteF ?_
    exact q ι1 _ H1 w1 hH1 (.bl false)
  · cases e
theorem s_or {rest : List Expr} (ha : PE X a (tE X.K ma)) (hb : PE X (.BoolOp .Or (b :: rest) pos) (tE X.K mb)) : PE X (.BoolOp .Or (a :: b :: rest) pos) (tE X.K (mOr ma mb)) := by
  refine PE.imp (pe_or ha hb) fun σ H Q ⟨ι, ρ, S, z, S', hH, hE, e, q⟩ => ?_
  unfold mOr at e
  split at e
  · rename_i S1 h1
    cases e
    refine ⟨ι, ρ, S, _, _, hH, hE, h1, fun ι1 v1 H1 w1 hH1 rv => ⟨true, bl_of rv, ?_⟩⟩
    refine iteT ?_
    exact q ι1 _ H1 w1 hH1 (.bl true)
  · rename_i S1 h1
    refine ⟨ι, ρ, S, _, S1, hH, hE, h1, fun ι1 v1 H1 w1 hH1 rv => ⟨false, bl_of rv, ?_⟩⟩
    refine iteF ?_
    exact ⟨ι1, ρ, S1, z, S', hH1, hE.mono w1, e, q.of w1⟩
  · cases e
def gNot : D → Sto → Rs D := fun d S => match d with
  | .p (.bool b) => some (.p (.bool (!b)), S)
  | _ => none
theorem s_not (ha : PE X a (tE X.K ma)) : PE X (.UnaryOp .Not a pos) (tE X.K (m1 gNot ma)) := by
  refine PE.imp (pe_not ha) fun σ H Q ⟨ι, ρ, S, z, S', hH, hE, e, q⟩ => ?_
  unfold m1 at e
  split at e
  · rename_i x S1 h1
    unfold gNot at e
    split at e
    · rename_i b
      cases e
      exact ⟨ι, ρ, S, _, _, hH, hE, h1, fun ι1 v1 H1 w1 hH1 rv => ⟨b, bl_of rv, q ι1 _ H1 w1 hH1 (.bl _)⟩⟩
    · cases e
  · cases e
theorem s_if {mc' : MB} (hc : PT X c (tB' X.K mc')) (ha : PE X a (tE X.K ma)) (hb : PE X b (tE X.K mb)) : PE X (.IfExp c a b pos) (tE X.K (mIf mc' ma mb)) := by
  refine PE.imp (pe_ifExp hc ha hb) fun σ H Q ⟨ι, ρ, S, z, S', hH, hE, e, q⟩ => ?_
  unfold mIf at e
  split at e
  · rename_i S1 h1
    refine ⟨ι, ρ, S, _, S1, hH, hE, h1, fun ι1 H1 w1 hH1 => ?_⟩
    refine iteT ?_
    exact ⟨ι1, ρ, S1, z, S', hH1, hE.mono w1, e, q.of w1⟩
  · rename_i S1 h1
    refine ⟨ι, ρ, S, _, S1, hH, hE, h1, fun ι1 H1 w1 hH1 => ?_⟩
    refine iteF ?_
    exact ⟨ι1, ρ, S1, z, S', hH1, hE.mono w1, e, q.of w1⟩
  · cases e
/-! arguments and calls -/
theorem s_nil : PA X [] (tAs X.K maNil) := PA.imp pa_nil fun σ H Q ⟨ι, ρ, S, ds, S', hH, hE, e, q⟩ => by
  cases e
  exact q ι [] H (Ext.refl _ _) hH trivial
theorem s_cons (ha : PE X e (tE X.K ma)) (hr : PA X es (tAs X.K mas)) (hs : starEach (e :: es) X.env = (false, eval e X.env) :: starEach es X.env) : PA X (e :: es) (tAs X.K (maCons ma mas)) := by
  refine PA.imp (pa_cons ha hr hs) fun σ H Q ⟨ι, ρ, S, ds, S', hH, hE, e, q⟩ => ?_
  unfold maCons at e
  split at e
  · rename_i x S1 h1
    split at e
    · rename_i xs S2 h2
      cases e
      exact ⟨ι, ρ, S, x, S1, hH, hE, h1, fun ι1 vx H1 w1 hH1 rx => ⟨ι1, ρ, S1, xs, _, hH1, hE.mono w1, h2, fun ι2 vs H2 w2 hH2 rs => q ι2 (vx :: vs) H2 (w1.trans w2) hH2 ⟨rx.mono w2, rs⟩⟩⟩
    · cases e
  · cases e
theorem impN {K : Fg} {mas : MA} {g : List D → Sto → Rs D} {σ : L2.St} {H : Hp} {Q : VK} (h : tE K (mN g mas) σ H Q) : tCB (rN K g) (tAs K mas) σ H Q := by
  obtain ⟨ι, ρ, S, z, S', hH, hE, e, q⟩ := h
  unfold mN at e
  split at e
  · rename_i ds S1 h1
    exact ⟨ι, ρ, S, ds, S1, hH, hE, h1, fun ι1 vs H1 w1 hH1 rs => ⟨ι1, S1, ds, z, S', hH1, rs, e, q.of w1⟩⟩
  · cases e
theorem impM {K : Fg} {mo : M} {mas : MA} {g : D → List D → Sto → Rs D} {T : String} (ty : ∀ H ι S d ds z S' v, HR K H ι S → RD K H ι v d → ∀ S2, g d ds S2 = some (z, S') → tyV K T v H) {σ : L2.St} {H : Hp} {Q : VK} (h : tE K (mM g mo mas) σ H Q) : tBM K T (rM K g) (tE K mo) (tAs K mas) σ H Q := by
  obtain ⟨ι, ρ, S, z, S', hH, hE, e, q⟩ := h
  unfold mM at e
  split at e
  · rename_i x S1 h1
    split at e
    · rename_i ds S2 h2
      exact ⟨ι, ρ, S, x, S1, hH, hE, h1, fun ι1 vx H1 w1 hH1 rx => ⟨ty H1 ι1 S1 x ds z S' vx hH1 rx S2 e, ι1, ρ, S1, ds, S2, hH1, hE.mono w1, h2, fun ι2 vs H2 w2 hH2 rs => ⟨ι2, S2, x, ds, z, S', hH2, rx.mono w2, rs, e, q.of (w1.trans w2)⟩⟩⟩
    · cases e
  · cases e
theorem impF {K : Fg} {n : Nat} {mas : MA} {F : List D → Sto → Rs D} {σ : L2.St} {H : Hp} {Q : VK} (hn : ∀ ds S z, F ds S = some z → ds.length = n) (h : tE K (mN F mas) σ H Q) : tCall (spF K n F) [] E0 (tAs K mas) σ H Q := by
  obtain ⟨ι, ρ, S, z, S', hH, hE, e, q⟩ := h
  unfold mN at e
  split at e
  · rename_i ds S1 h1
    exact ⟨ι, ρ, S, ds, S1, hH, hE, h1, fun ι1 vs H1 w1 hH1 rs => ⟨ι1, S1, ds, z, S', hH1, by rw [List.append_nil]; exact rs, hn _ _ _ e, e, q.of w1⟩⟩
  · cases e
end
end Tm
namespace Tm
open PySem L2

theorem wipe_get {σ : L2.St} {i : Nat} : ∀ {vs : List Nat}, i ∉ vs → (wipe σ vs)[i]? = σ[i]?
  | [], _ => rfl
  | v :: vs, h => by
    unfold wipe
    rw [List.getElem?_set_ne (fun e => h (by simp [e]))]
    exact wipe_get (fun z => h (List.mem_cons_of_mem _ z))
theorem wipe_none {σ : L2.St} {i : Nat} : ∀ {vs : List Nat}, i ∈ vs → i < σ.length → (wipe σ vs)[i]? = some none
  | v :: vs, h, hl => by
    unfold wipe
    by_cases c : v = i
    · subst c; rw [List.getElem?_set_self (by rw [wipe_length]; exact hl)]
    · rw [List.getElem?_set_ne c]
      rcases List.mem_cons.mp h with z | z
      · exact absurd z.symm c
      · exact wipe_none z hl
theorem wipe_ext {σ σ' : L2.St} {vs : List Nat} (hl : σ'.length = σ.length) (h : ∀ i, i ∉ vs → σ'[i]? = σ[i]?) : wipe σ' vs = wipe σ vs := by
  refine List.ext_getElem? fun i => ?_
  by_cases c : i ∈ vs
  · by_cases c2 : i < σ.length
    · rw [wipe_none c c2, wipe_none c (by rw [hl]; exact c2)]
    · rw [List.getElem?_eq_none (by rw [wipe_length, hl]; omega), List.getElem?_eq_none (by rw [wipe_length]; omega)]
  · rw [wipe_get c, wipe_get c]; exact h i c
theorem wipe_set {σ : L2.St} {i : Nat} {x : Option V} {vs : List Nat} (h : i ∈ vs) : wipe (σ.set i x) vs = wipe σ vs :=
  wipe_ext (by simp) fun j hj => by
    have hne : i ≠ j := fun e => by subst e; exact hj h
    rw [List.getElem?_set_ne hne]

/-! ## statements of the plain side -/
inductive Out where
  | nx (ρ : Ev) | rt (d : D) | bk (ρ : Ev) | ct (ρ : Ev)
abbrev MS := Ev → Sto → Option (Out × Sto)
/-- what is stored: a value, or a pair that was made to be taken apart -/
inductive Itm where
  | one (d : D) | row (ds : List D)
def RI (K : Fg) (H : Hp) (ι : List Addr) (v : V) : Itm → Prop
  | .one d => RD K H ι v d
  | .row ds => ∃ a vs, v = .ref a ∧ SqT K H a vs ∧ RDs K H ι vs ds
theorem RI.mono {K : Fg} {H H' : Hp} {ι ι' : List Addr} {v : V} (x : Ext ι H ι' H') : ∀ {d : Itm}, RI K H ι v d → RI K H' ι' v d
  | .one _, h => RD.mono x h
  | .row _, ⟨a, vs, e, h1, h2⟩ => ⟨a, vs, e, x.keep.sqT h1, h2.mono x⟩
/-- a target's store; several values' -/
abbrev MG := Itm → Ev → Sto → Option (Ev × Sto)
abbrev MGs := List D → Ev → Sto → Option (Ev × Sto)
def OutR (K : Fg) (H : Hp) (ι : List Addr) (S' : Sto) (E : Ends) : Out → Prop
  | .nx ρ' => ∀ ι' σ' H', Ext ι H ι' H' → HR K H' ι' S' → ER K H' ι' σ' ρ' → E.nx σ' H'
  | .rt d => Aft K H ι d S' E.rt
  | .bk ρ' => ∀ ι' σ' H', Ext ι H ι' H' → HR K H' ι' S' → ER K H' ι' σ' ρ' → E.bk σ' H'
  | .ct ρ' => ∀ ι' σ' H', Ext ι H ι' H' → HR K H' ι' S' → ER K H' ι' σ' ρ' → E.ct σ' H'
theorem OutR.of {K : Fg} {H H1 : Hp} {ι ι1 : List Addr} {S' : Sto} {E : Ends} (x : Ext ι H ι1 H1) : ∀ {o : Out}, OutR K H ι S' E o → OutR K H1 ι1 S' E o
  | .nx _, h => fun ι' σ' H' x' => h ι' σ' H' (x.trans x')
  | .rt _, h => Aft.of h x
  | .bk _, h => fun ι' σ' H' x' => h ι' σ' H' (x.trans x')
  | .ct _, h => fun ι' σ' H' x' => h ι' σ' H' (x.trans x')
def tS (K : Fg) (m : MS) : TS := fun E σ H => ∃ ι ρ S o S', HR K H ι S ∧ ER K H ι σ ρ ∧ m ρ S = some (o, S') ∧ OutR K H ι S' E o
def tG (K : Fg) (vs : List Nat) (m : MG) : TG := fun v σ H Q => ∃ ι ρ S d ρ' S', HR K H ι S ∧ ER K H ι σ ρ ∧ RI K H ι v d ∧ m d ρ S = some (ρ', S') ∧ ∀ ι' σ' H', Ext ι H ι' H' → HR K H' ι' S' → ER K H' ι' σ' ρ' → wipe σ' vs = wipe σ vs → Q σ' H'
def tGs (K : Fg) (ws : List Nat) (m : MGs) : TGs := fun vs σ H Q => ∃ ι ρ S ds ρ' S', HR K H ι S ∧ ER K H ι σ ρ ∧ RDs K H ι vs ds ∧ m ds ρ S = some (ρ', S') ∧ ∀ ι' σ' H', Ext ι H ι' H' → HR K H' ι' S' → ER K H' ι' σ' ρ' → wipe σ' ws = wipe σ ws → Q σ' H'
theorem PG.imp {X : Cx} {e : Expr} {t u : TG} (h : PG X e t) (i : ∀ v σ H Q, u v σ H Q → t v σ H Q) : PG X e u := ⟨fun pins s σ H v u Q I r q => h.run pins s σ H v u Q I r (i v σ H Q q)⟩
theorem PGs.imp {X : Cx} {e : List Expr} {t u : TGs} (h : PGs X e t) (i : ∀ v σ H Q, u v σ H Q → t v σ H Q) : PGs X e u := ⟨fun pins s σ H v u Q I r q => h.run pins s σ H v u Q I r (i v σ H Q q)⟩

def msNil : MS := fun ρ S => some (.nx ρ, S)
def msSeq (a b : MS) : MS := fun ρ S => match a ρ S with
  | some (.nx ρ1, S1) => b ρ1 S1
  | r => r
def msIf (c : MB) (a b : MS) : MS := fun ρ S => match c ρ S with
  | some (true, S1) => a ρ S1
  | some (false, S1) => b ρ S1
  | none => none
def msRet (a : M) : MS := fun ρ S => match a ρ S with
  | some (d, S1) => some (.rt d, S1)
  | none => none
def msExpr (a : M) : MS := fun ρ S => match a ρ S with
  | some (_, S1) => some (.nx ρ, S1)
  | none => none
def msBreak : MS := fun ρ S => some (.bk ρ, S)
def msCont : MS := fun ρ S => some (.ct ρ, S)
def msNever : MS := fun _ _ => none
def msAsg (a : M) (g : MG) : MS := fun ρ S => match a ρ S with
  | some (d, S1) => (match g (.one d) ρ S1 with
    | some (ρ', S2) => some (.nx ρ', S2)
    | none => none)
  | none => none
/-- a, b = x, y -/
def msPar (as : MA) (g : MGs) : MS := fun ρ S => match as ρ S with
  | some (ds, S1) => (match g ds ρ S1 with
    | some (ρ', S2) => some (.nx ρ', S2)
    | none => none)
  | none => none
def gNm (i : Nat) : MG := fun d ρ S => match d with
  | .one d => some (ρ.set i (some d), S)
  | .row _ => none
def gNl : MGs := fun ds ρ S => match ds with
  | [] => some (ρ, S)
  | _ => none
def gCs (g : MG) (r : MGs) : MGs := fun ds ρ S => match ds with
  | d :: ds => (match g (.one d) ρ S with
    | some (ρ1, S1) => r ds ρ1 S1
    | none => none)
  | [] => none
/-- the items of a list or tuple -/
def itemsOf (d : D) (S : Sto) : Option (List PyData) := match d with
  | .p (.tuple xs) => some xs
  | .p (.list xs) => some xs
  | .r n => (match S[n]? with
    | some (.lst xs) => some xs
    | _ => none)
  | _ => none
def gTp (n : Nat) (r : MGs) : MG := fun d ρ S => match d with
  | .one d => (match itemsOf d S with
    | some xs => if xs.length = n then r (xs.map .p) ρ S else none
    | none => none)
  | .row ds => if ds.length = n then r ds ρ S else none
/-- o[i] = v -/
def gSb (f : D → D → D → Sto → Option Sto) (o i : M) : MG := fun d ρ S => match d with
  | .one d => (match o ρ S with
    | some (x, S1) => (match i ρ S1 with
      | some (y, S2) => (match f x y d S2 with
        | some S3 => some (ρ, S3)
        | none => none)
      | none => none)
    | none => none)
  | .row _ => none
/-- loops -/
def forL (g : MG) (b : MS) : List Itm → MS
  | [], ρ, S => some (.nx ρ, S)
  | d :: ds, ρ, S => match g d ρ S with
    | some (ρ1, S1) => (match b ρ1 S1 with
      | some (.nx ρ2, S2) => forL g b ds ρ2 S2
      | some (.ct ρ2, S2) => forL g b ds ρ2 S2
      | some (.bk ρ2, S2) => some (.nx ρ2, S2)
      | some (.rt x, S2) => some (.rt x, S2)
      | none => none)
    | none => none
/-- what a for or a comprehension walks: items that stand by themselves, or the list of the store as it stands at each turn -/
inductive Src where
  | its (xs : List Itm)
  | lst (n : Nat)
abbrev MI := Ev → Sto → Rs Src
def cap : Nat := 1000000
def forR (g : MG) (b : MS) (n : Nat) : Nat → Nat → MS
  | 0, _, _, _ => none
  | f + 1, i, ρ, S => match S[n]? with
    | some (.lst xs) => (match xs[i]? with
      | none => some (.nx ρ, S)
      | some d => (match g (.one (.p d)) ρ S with
        | some (ρ1, S1) => (match b ρ1 S1 with
          | some (.nx ρ2, S2) => forR g b n f (i + 1) ρ2 S2
          | some (.ct ρ2, S2) => forR g b n f (i + 1) ρ2 S2
          | some (.bk ρ2, S2) => some (.nx ρ2, S2)
          | some (.rt x, S2) => some (.rt x, S2)
          | none => none)
        | none => none))
    | _ => none
def msFor (it : MI) (g : MG) (b : MS) : MS := fun ρ S => match it ρ S with
  | some (.its xs, S1) => forL g b xs ρ S1
  | some (.lst n, S1) => forR g b n cap 0 ρ S1
  | none => none
def whileN (c : MB) (b : MS) : Nat → MS
  | 0, _, _ => none
  | f + 1, ρ, S => match c ρ S with
    | some (false, S1) => some (.nx ρ, S1)
    | some (true, S1) => (match b ρ S1 with
      | some (.nx ρ2, S2) => whileN c b f ρ2 S2
      | some (.ct ρ2, S2) => whileN c b f ρ2 S2
      | some (.bk ρ2, S2) => some (.nx ρ2, S2)
      | some (.rt x, S2) => some (.rt x, S2)
      | none => none)
    | none => none
def msWhile (c : MB) (b : MS) : MS := whileN c b cap

section
variable {X : Cx} {a b c e : Expr} {es : List Expr} {ma mb mc : M} {ba bb : MB} {mas : MA} {pos p : Pos} {st : Stmt} {sts ss : List Stmt} {m m' : MS} {g : MG} {gs : MGs}
theorem ss_nil : PSs X [] (tS X.K msNil) := PSs.imp pss_nil fun E σ H ⟨ι, ρ, S, o, S', hH, hE, e, q⟩ => by
  cases e
  exact q ι σ H (Ext.refl _ _) hH hE
theorem ss_cons (h1 : PS X st (tS X.K m)) (h2 : PSs X sts (tS X.K m')) : PSs X (st :: sts) (tS X.K (msSeq m m')) := by
  refine PSs.imp (pss_cons h1 h2) fun E σ H ⟨ι, ρ, S, o, S', hH, hE, e, q⟩ => ?_
  unfold msSeq at e
  split at e
  · rename_i ρ1 S1 h
    exact ⟨ι, ρ, S, _, S1, hH, hE, h, fun ι1 σ1 H1 w1 hH1 hE1 => ⟨ι1, ρ1, S1, o, S', hH1, hE1, e, q.of w1⟩⟩
  · rename_i hne
    refine ⟨ι, ρ, S, o, S', hH, hE, e, ?_⟩
    cases o with
    | nx ρ1 => exact absurd e (hne _ _)
    | rt d => exact q
    | bk _ => exact q
    | ct _ => exact q
theorem ss_pass : PS X (.Pass pos) (tS X.K msNil) := PS.imp ps_pass fun E σ H ⟨ι, ρ, S, o, S', hH, hE, e, q⟩ => by
  cases e
  exact q ι σ H (Ext.refl _ _) hH hE
theorem ss_break : PS X (.Break pos) (tS X.K msBreak) := PS.imp ps_break fun E σ H ⟨ι, ρ, S, o, S', hH, hE, e, q⟩ => by
  cases e
  exact q ι σ H (Ext.refl _ _) hH hE
theorem ss_cont : PS X (.Continue pos) (tS X.K msCont) := PS.imp ps_continue fun E σ H ⟨ι, ρ, S, o, S', hH, hE, e, q⟩ => by
  cases e
  exact q ι σ H (Ext.refl _ _) hH hE
theorem ss_never : PS X st (tS X.K msNever) := PS.imp ps_never fun E σ H ⟨ι, ρ, S, o, S', hH, hE, e, q⟩ => by cases e
theorem ss_if (hc : PT X c (tB' X.K ba)) (ha : PSs X sts (tS X.K m)) (hb : PSs X ss (tS X.K m')) : PS X (.If c sts ss pos) (tS X.K (msIf ba m m')) := by
  refine PS.imp (ps_if hc ha hb) fun E σ H ⟨ι, ρ, S, o, S', hH, hE, e, q⟩ => ?_
  unfold msIf at e
  split at e
  · rename_i S1 h1
    refine ⟨ι, ρ, S, _, S1, hH, hE, h1, fun ι1 H1 w1 hH1 => ?_⟩
    exact iteT ⟨ι1, ρ, S1, o, S', hH1, hE.mono w1, e, q.of w1⟩
  · rename_i S1 h1
    refine ⟨ι, ρ, S, _, S1, hH, hE, h1, fun ι1 H1 w1 hH1 => ?_⟩
    exact iteF ⟨ι1, ρ, S1, o, S', hH1, hE.mono w1, e, q.of w1⟩
  · cases e
theorem ss_ret (ha : PE X a (tE X.K ma)) : PS X (.Return (some a) pos) (tS X.K (msRet ma)) := by
  refine PS.imp (ps_ret ha) fun E σ H ⟨ι, ρ, S, o, S', hH, hE, e, q⟩ => ?_
  unfold msRet at e
  split at e
  · rename_i d S1 h1
    cases e
    exact ⟨ι, ρ, S, d, _, hH, hE, h1, q⟩
  · cases e
theorem ss_expr (ha : PE X a (tE X.K ma)) (hs : swapsWith a none pos.line X.env = pure false) : PS X (.Expr a pos) (tS X.K (msExpr ma)) := by
  refine PS.imp (ps_expr ha hs) fun E σ H ⟨ι, ρ, S, o, S', hH, hE, e, q⟩ => ?_
  unfold msExpr at e
  split at e
  · rename_i d S1 h1
    cases e
    exact ⟨ι, ρ, S, d, _, hH, hE, h1, fun ι1 v H1 w1 hH1 _ => q ι1 σ H1 w1 hH1 (hE.mono w1)⟩
  · cases e
theorem impAsg {K : Fg} {ws : List Nat} {ma : M} {g : MG} {E : Ends} {σ : L2.St} {H : Hp} (h : tS K (msAsg ma g) E σ H) : tAsg (tE K ma) (tG K ws g) E σ H := by
  obtain ⟨ι, ρ, S, o, S', hH, hE, e, q⟩ := h
  unfold msAsg at e
  split at e
  · rename_i d S1 h1
    split at e
    · rename_i ρ' S2 h2
      cases e
      exact ⟨ι, ρ, S, d, S1, hH, hE, h1, fun ι1 v H1 w1 hH1 rv => ⟨ι1, ρ, S1, .one d, ρ', _, hH1, hE.mono w1, rv, h2, fun ι2 σ2 H2 w2 hH2 hE2 _ => q ι2 σ2 H2 (w1.trans w2) hH2 hE2⟩⟩
    · cases e
  · cases e
theorem ss_asg {ws : List Nat} (ha : PE X a (tE X.K ma)) (hg : PG X c (tG X.K ws g)) (hs : swapsWithSole [c] a pos.line X.env = pure false) (hw : swappedStores [c] a X.env = pure none)
    (h1 : (assignEach [c] X.env).map (·.2) = [assign c X.env]) : PS X (.Assign [c] a pos) (tS X.K (msAsg ma g)) :=
  PS.imp (ps_asg ha hg hs hw h1) fun _ _ _ h => impAsg h
theorem sg_name {ws : List Nat} {i : Nat} (hi : i ∈ ws) (h : PG X c (gName i)) : PG X c (tG X.K ws (gNm i)) := by
  refine PG.imp h fun v σ H Q ⟨ι, ρ, S, d, ρ', S', hH, hE, rv, e, q⟩ => ?_
  cases d with
  | one d =>
    cases e
    exact q ι _ H (Ext.refl _ _) hH (hE.set i rv) (wipe_set hi)
  | row _ => cases e
theorem sg_nil {ws : List Nat} : PGs X [] (tGs X.K ws gNl) := by
  refine PGs.imp pgs_nil fun v σ H Q ⟨ι, ρ, S, ds, ρ', S', hH, hE, rv, e, q⟩ => ?_
  unfold gNl at e
  split at e
  · cases e
    cases v with
    | nil => exact ⟨rfl, q ι σ H (Ext.refl _ _) hH hE rfl⟩
    | cons _ _ => exact rv.elim
  · cases e
theorem sg_cons {ws : List Nat} (h1 : PG X e (tG X.K ws g)) (h2 : PGs X es (tGs X.K ws gs)) (hs : (assignEach (e :: es) X.env).map (·.2) = assign e X.env :: (assignEach es X.env).map (·.2)) : PGs X (e :: es) (tGs X.K ws (gCs g gs)) := by
  refine PGs.imp (pgs_cons h1 h2 hs) fun v σ H Q ⟨ι, ρ, S, ds, ρ', S', hH, hE, rv, e, q⟩ => ?_
  unfold gCs at e
  split at e
  · rename_i d ds'
    split at e
    · rename_i ρ1 S1 h1
      cases v with
      | nil => exact rv.elim
      | cons v vs =>
        exact ⟨v, vs, rfl, ι, ρ, S, .one d, ρ1, S1, hH, hE, rv.1, h1, fun ι1 σ1 H1 w1 hH1 hE1 z1 => ⟨ι1, ρ1, S1, ds', ρ', S', hH1, hE1, rv.2.mono w1, e, fun ι2 σ2 H2 w2 hH2 hE2 z2 => q ι2 σ2 H2 (w1.trans w2) hH2 hE2 (z2.trans z1)⟩⟩
    · cases e
  · cases e
theorem RDs.of {K : Fg} {H : Hp} {ι : List Addr} : ∀ {xs : List V} {ds : List PyData}, RpA K H xs ds → RDs K H ι xs (ds.map .p)
  | _, _, .nil => trivial
  | _, _, .cons r t => ⟨r, RDs.of t⟩
theorem items_of {K : Fg} {H : Hp} {ι : List Addr} {S : Sto} {v : V} {d : D} {ds : List PyData} (hH : HR K H ι S) (r : RD K H ι v d) (h : itemsOf d S = some ds) : ∃ a xs, v = .ref a ∧ (SqT K H a xs ∨ SqL K H a xs) ∧ RpA K H xs ds := by
  unfold itemsOf at h
  split at h
  · cases h
    cases r with
    | tup h1 h2 => exact ⟨_, _, rfl, .inl h1.sq, h2⟩
  · cases h
    cases r with
    | lst h1 h2 => exact ⟨_, _, rfl, .inr h1.rd.sq, h2⟩
  · rename_i n
    split at h
    · rename_i xs e
      cases h
      obtain ⟨a, ha, rfl⟩ := r
      obtain ⟨xs, h1, h2⟩ := hH.at_ n a _ ha e
      exact ⟨a, xs, rfl, .inr (.inl (.inl h1)), h2⟩
    · cases h
  · cases h
/-- (a, b, ..) = a tuple or a list -/
theorem sg_tup {ws : List Nat} {k n : Nat} (hc : X.calm = true) (h : PGs X es (tGs X.K ws gs)) (hn : (assignEach es X.env).length = n) (hst : (assignEach es X.env).findIdx? (·.1) = none) : PG X (.Tuple es k pos) (tG X.K ws (gTp n gs)) := by
  have t1 := pg_tup (k := k) (pos := pos) hc h hn hst
  have t2 := pg_unl (k := k) (pos := pos) hc h hn hst
  refine ⟨fun pins s σ H v u Q I r ⟨ι, ρ, S, d, ρ', S', hH, hE, rv, e, q⟩ => ?_⟩
  unfold gTp at e
  split at e
  · split at e
    · rename_i ds hi
      split at e
      · rename_i hl
        obtain ⟨a, xs, rfl, hq, hr⟩ := items_of hH rv hi
        have hx : xs.length = n := hr.length.trans hl
        rcases hq with hq | hq
        · exact t1.run pins s σ H _ u Q I r ⟨a, xs, rfl, hq, hx, ι, ρ, S, _, ρ', S', hH, hE, RDs.of hr, e, q⟩
        · exact t2.run pins s σ H _ u Q I r ⟨a, xs, rfl, hq, hx, ι, ρ, S, _, ρ', S', hH, hE, RDs.of hr, e, q⟩
      · cases e
    · cases e
  · rename_i ds
    split at e
    · rename_i hl
      obtain ⟨a, xs, rfl, hq, hr⟩ := rv
      exact t1.run pins s σ H _ u Q I r ⟨a, xs, rfl, hq, hr.length.trans hl, ι, ρ, S, _, ρ', S', hH, hE, hr, e, q⟩
    · cases e
/-- o[i] = v -/
def rSet (K : Fg) (f : D → D → D → Sto → Option Sto) : TSet := fun o i v H Q => ∃ ι S x y d S', HR K H ι S ∧ RD K H ι o x ∧ RD K H ι i y ∧ RD K H ι v d ∧ f x y d S = some S' ∧ ∀ ι' H', Ext ι H ι' H' → HR K H' ι' S' → Q H'
theorem sg_sub {ws : List Nat} {f : D → D → D → Sto → Option Sto} {o i : Expr} {mo mi : M} (ho : PE X o (tE X.K mo)) (hi : PE X i (tE X.K mi)) (hs : PSet X (rSet X.K f))
    (ha : ∀ v, assign (.Subscript o i pos) X.env v = (do
      let ov ← holding [v] (eval o X.env)
      let iv ← holding [v, ov] (eval i X.env)
      standAt pos
      holding [v, ov, iv] (setItem ov iv v)
      release [v, ov, iv] [])) : PG X (.Subscript o i pos) (tG X.K ws (gSb f mo mi)) := by
  refine PG.imp (pg_sub ho hi hs ha) fun v σ H Q ⟨ι, ρ, S, d, ρ', S', hH, hE, rv, e, q⟩ => ?_
  unfold gSb at e
  split at e
  · rename_i d
    have rv : RD X.K H ι v d := rv
    split at e
    · rename_i x S1 h1
      split at e
      · rename_i y S2 h2
        split at e
        · rename_i S3 h3
          cases e
          exact ⟨ι, ρ, S, x, S1, hH, hE, h1, fun ι1 vx H1 w1 hH1 rx => ⟨ι1, ρ, S1, y, S2, hH1, hE.mono w1, h2, fun ι2 vy H2 w2 hH2 ry =>
            ⟨ι2, S2, x, y, d, _, hH2, rx.mono w2, ry, (rv.mono w1).mono w2, h3, fun ι3 H3 w3 hH3 => q ι3 σ H3 ((w1.trans w2).trans w3) hH3 (((hE.mono w1).mono w2).mono w3) rfl⟩⟩⟩
        · cases e
      · cases e
    · cases e
  · cases e
/-- a, b = x, y: the pair is made and taken apart -/
theorem ss_par {ws : List Nat} {ss' : List Expr} {k k2 n : Nat} {pt pt2 : Pos} (hc : X.calm = true) (ha : PA X ss' (tAs X.K mas)) (h : PGs X es (tGs X.K ws gs)) (hn : (assignEach es X.env).length = n) (hst : (assignEach es X.env).findIdx? (·.1) = none) (hz : n ≤ sizeLine)
    (hs : swapsWithSole [.Tuple es k pt] (.Tuple ss' k2 pt2) pos.line X.env = pure false) (hw : swappedStores [.Tuple es k pt] (.Tuple ss' k2 pt2) X.env = pure none)
    (h1 : (assignEach [.Tuple es k pt] X.env).map (·.2) = [assign (.Tuple es k pt) X.env]) (hl : ∀ ρ S ds S', mas ρ S = some (ds, S') → ds.length = n) :
    PS X (.Assign [.Tuple es k pt] (.Tuple ss' k2 pt2) pos) (tS X.K (msPar mas gs)) := by
  refine PS.imp (ps_asg (pe_tup ha) (pg_tup (k := k) (pos := pt) hc h hn hst) hs hw h1) fun E σ H ⟨ι, ρ, S, o, S', hH, hE, e, q⟩ => ?_
  unfold msPar at e
  split at e
  · rename_i ds S1 h1
    split at e
    · rename_i ρ' S2 h2
      cases e
      have hd := hl _ _ _ _ h1
      refine ⟨ι, ρ, S, ds, S1, hH, hE, h1, fun ι1 vs H1 w1 hH1 rv => ⟨?_, fun t nt => ?_⟩⟩
      · rw [rv.length, hd]; exact hz
      · have xt : Ext ι1 H1 ι1 (upd H1 t (.tup vs)) := Ext.put nt
        exact ⟨t, vs, rfl, SqT.of upd_same, rv.length.trans hd, ι1, ρ, S1, ds, ρ', _, hH1.same (Same.put nt), (hE.mono w1).mono xt, rv.mono xt, h2, fun ι2 σ2 H2 w2 hH2 hE2 _ => q ι2 σ2 H2 ((w1.trans xt).trans w2) hH2 hE2⟩
    · cases e
  · cases e

/-! ## what is walked -/
/-- J gives out the items xs, whatever stands beside -/
structure ItS (K : Fg) (ι0 : List Addr) (H0 : Hp) (J : It) (xs : List Itm) : Prop where
  len : xs.length ≤ sizeLine
  go : ∀ i H, i < xs.length → Keep H0 H → J.go i H
  stop : ∀ H, Keep H0 H → J.stop xs.length H
  yld : ∀ (i : Nat) (H : Hp) (x : V) (H' : Hp), i < xs.length → Keep H0 H → J.yld i H x H' → Same H H' ∧ ∀ d, xs[i]? = some d → ∀ ι, ι0 <+: ι → RI K H' ι x d
def ItR (K : Fg) (ι : List Addr) (H : Hp) (J : It) : Src → Prop
  | .its xs => ItS K ι H J xs
  | .lst n => ∃ a, ι[n]? = some a ∧ J = Itl K a
def tI (K : Fg) (mi : MI) : TI := fun σ H R => ∃ ι ρ S src S', HR K H ι S ∧ ER K H ι σ ρ ∧ mi ρ S = some (src, S') ∧ ∀ ι' J H', Ext ι H ι' H' → HR K H' ι' S' → ItR K ι' H' J src → R J H'
theorem drop_eq {α : Type} {xs : List α} {i : Nat} (h : i < xs.length) : ∃ d, xs[i]? = some d ∧ xs.drop i = d :: xs.drop (i + 1) := ⟨xs[i], List.getElem?_eq_getElem h, List.drop_eq_getElem_cons h⟩
/-- one turn of a for, at the plain side's state -/
theorem for_turn {K : Fg} {ws : List Nat} {g : MG} {b : MS} {E : Ends} {N : L2.St → Hp → Prop} {ι : List Addr} {H : Hp} {σ : L2.St} {ρ ρ1 : Ev} {S S1 S2 : Sto} {d : Itm} {o : Out} {x : V}
    (hH : HR K H ι S) (hE : ER K H ι σ ρ) (rx : RI K H ι x d) (h1 : g d ρ S = some (ρ1, S1)) (h2 : b ρ1 S1 = some (o, S2))
    (hN : ∀ ρ2, (o = .nx ρ2 ∨ o = .ct ρ2) → ∀ ι' σ' H', Ext ι H ι' H' → HR K H' ι' S2 → ER K H' ι' σ' ρ2 → N σ' H')
    (hB : ∀ ρ2, o = .bk ρ2 → ∀ ι' σ' H', Ext ι H ι' H' → HR K H' ι' S2 → ER K H' ι' σ' ρ2 → E.nx σ' H')
    (hR : ∀ z, o = .rt z → Aft K H ι z S2 E.rt) : tG K ws g x σ H fun σ2 H2 => tS K b { E with nx := N, ct := N, bk := E.nx } σ2 H2 := by
  refine ⟨ι, ρ, S, d, ρ1, S1, hH, hE, rx, h1, fun ι2 σ2 H2 w2 hH2 hE2 _ => ⟨ι2, ρ1, S1, o, S2, hH2, hE2, h2, ?_⟩⟩
  cases o with
  | nx ρ2 => exact fun ι' σ' H' w hh he => hN ρ2 (.inl rfl) ι' σ' H' (w2.trans w) hh he
  | ct ρ2 => exact fun ι' σ' H' w hh he => hN ρ2 (.inr rfl) ι' σ' H' (w2.trans w) hh he
  | bk ρ2 => exact fun ι' σ' H' w hh he => hB ρ2 rfl ι' σ' H' (w2.trans w) hh he
  | rt z => exact (hR z rfl).of w2
theorem ss_for {ws : List Nat} {tg iter : Expr} {mi : MI} (hp : PassesOwn (model X.prog X.w) X.A X.env X.xe) (hc : X.calm = true) (hi : PI X tg iter (tI X.K mi)) (hg : PG X tg (tG X.K ws g)) (hb : PSs X sts (tS X.K m))
    (hs : ∀ x, foldedSetIterable iter X.env x = pure x) : PS X (.For tg iter sts [] pos) (tS X.K (msFor mi g m)) := by
  refine PS.imp (ps_for hp hc hi hg hb hs) fun E σ H ⟨ι, ρ, S, o, S', hH, hE, e, q⟩ => ?_
  unfold msFor at e
  split at e
  · rename_i xs S1 h1
    refine ⟨ι, ρ, S, _, S1, hH, hE, h1, fun ι1 J H1 w1 hH1 hJ => ?_⟩
    have hJ : ItS X.K ι1 H1 J xs := hJ
    refine ⟨fun i n σ' H' => n = xs.length - i ∧ i ≤ xs.length ∧ ∃ ι' ρ' S', Ext ι1 H1 ι' H' ∧ HR X.K H' ι' S' ∧ ER X.K H' ι' σ' ρ' ∧ ∃ o Sf, forL g m (xs.drop i) ρ' S' = some (o, Sf) ∧ OutR X.K H' ι' Sf E o,
      ⟨_, rfl, Nat.zero_le _, ι1, ρ, S1, Ext.refl _ _, hH1, hE.mono w1, o, S', by rw [List.drop_zero]; exact e, q.of w1⟩, ?_⟩
    rintro i n σ' H' ⟨rfl, hil, ι', ρ', S3, w', hH', hE', o', Sf, hf, q'⟩
    by_cases hlt : i < xs.length
    · obtain ⟨d, hd, hdr⟩ := drop_eq hlt
      rw [hdr] at hf
      unfold forL at hf
      split at hf
      · rename_i ρ1 S4 hg1
        refine .inr ⟨hJ.go i H' hlt w'.keep, fun σ2 H2 => ∃ ι2 ρ2 S2, Ext ι1 H1 ι2 H2 ∧ HR X.K H2 ι2 S2 ∧ ER X.K H2 ι2 σ2 ρ2 ∧ ∃ o Sf, forL g m (xs.drop (i + 1)) ρ2 S2 = some (o, Sf) ∧ OutR X.K H2 ι2 Sf E o,
          fun σ2 H2 z => ⟨xs.length - (i + 1), by omega, rfl, hlt, z⟩, fun x H3 hy => ?_⟩
        obtain ⟨sm, hrd⟩ := hJ.yld i H' x H3 hlt w'.keep hy
        have w3 : Ext ι' H' ι' H3 := Ext.same sm
        have rx := hrd d hd ι' w'.pre
        split at hf
        · rename_i ρ2 S5 hb2
          refine for_turn (hH'.same sm) (hE'.mono w3) rx hg1 hb2 (fun ρ2' e2 ι4 σ4 H4 w4 hH4 hE4 => ?_) (fun _ z => by cases z) (fun _ z => by cases z)
          have e2 : ρ2' = ρ2 := by rcases e2 with z | z <;> cases z; rfl
          subst e2
          exact ⟨ι4, _, S5, (w'.trans w3).trans w4, hH4, hE4, o', Sf, hf, q'.of (w3.trans w4)⟩
        · rename_i ρ2 S5 hb2
          refine for_turn (hH'.same sm) (hE'.mono w3) rx hg1 hb2 (fun ρ2' e2 ι4 σ4 H4 w4 hH4 hE4 => ?_) (fun _ z => by cases z) (fun _ z => by cases z)
          have e2 : ρ2' = ρ2 := by rcases e2 with z | z <;> cases z; rfl
          subst e2
          exact ⟨ι4, _, S5, (w'.trans w3).trans w4, hH4, hE4, o', Sf, hf, q'.of (w3.trans w4)⟩
        · rename_i ρ2 S5 hb2
          cases hf
          exact for_turn (hH'.same sm) (hE'.mono w3) rx hg1 hb2 (fun ρ2' e2 => by rcases e2 with z | z <;> cases z) (fun ρ2' z ι4 σ4 H4 w4 hH4 hE4 => by cases z; exact q' ι4 σ4 H4 (w3.trans w4) hH4 hE4) (fun _ z => by cases z)
        · rename_i z2 S5 hb2
          cases hf
          exact for_turn (hH'.same sm) (hE'.mono w3) rx hg1 hb2 (fun ρ2' e2 => by rcases e2 with z | z <;> cases z) (fun _ z => by cases z) (fun z ez => by cases ez; exact Aft.of q' w3)
        · cases hf
      · cases hf
    · have ei : i = xs.length := by omega
      subst ei
      rw [List.drop_length] at hf
      cases hf
      exact .inl ⟨hJ.stop H' w'.keep, q' ι' σ' H' (Ext.refl _ _) hH' hE'⟩
  · rename_i n S1 h1
    refine ⟨ι, ρ, S, _, S1, hH, hE, h1, fun ι1 J H1 w1 hH1 hJ => ?_⟩
    obtain ⟨a, ha, rfl⟩ : ∃ a, ι1[n]? = some a ∧ J = Itl X.K a := hJ
    refine ⟨fun i f σ' H' => ∃ ι' ρ' S', Ext ι1 H1 ι' H' ∧ HR X.K H' ι' S' ∧ ER X.K H' ι' σ' ρ' ∧ ∃ o Sf, forR g m n f i ρ' S' = some (o, Sf) ∧ OutR X.K H' ι' Sf E o,
      ⟨cap, ι1, ρ, S1, Ext.refl _ _, hH1, hE.mono w1, o, S', e, q.of w1⟩, ?_⟩
    rintro i f σ' H' ⟨ι', ρ', S3, w', hH', hE', o', Sf, hf, q'⟩
    have ha' : ι'[n]? = some a := by obtain ⟨t, ht⟩ := w'.pre; rw [← ht, List.getElem?_append_left (List.getElem?_eq_some_iff.mp ha).1]; exact ha
    cases f with
    | zero => cases hf
    | succ f =>
      unfold forR at hf
      split at hf
      · rename_i xs hn
        obtain ⟨vs, hv, rv⟩ := hH'.at_ n a _ ha' hn
        split at hf
        · rename_i hx
          cases hf
          refine .inl ⟨⟨vs, SqL.of hv, ?_⟩, q' ι' σ' H' (Ext.refl _ _) hH' hE'⟩
          rw [rv.length]
          exact List.getElem?_eq_none_iff.mp hx
        · rename_i d hx
          obtain ⟨v, hvi, rd⟩ := rv.get hx
          split at hf
          · rename_i ρ1 S4 hg1
            refine .inr ⟨⟨vs, v, SqL.of hv, hvi⟩, fun σ2 H2 => ∃ ι2 ρ2 S2, Ext ι1 H1 ι2 H2 ∧ HR X.K H2 ι2 S2 ∧ ER X.K H2 ι2 σ2 ρ2 ∧ ∃ o Sf, forR g m n f (i + 1) ρ2 S2 = some (o, Sf) ∧ OutR X.K H2 ι2 Sf E o,
              fun σ2 H2 z => ⟨f, Nat.lt_succ_self _, z⟩, fun x H3 hy => ?_⟩
            obtain ⟨rfl, hy⟩ := hy
            have ex : x = v := Option.some.inj ((hy vs (SqL.of hv)).symm.trans hvi)
            subst ex
            have rx : RI X.K H3 ι' x (.one (.p d)) := rd
            split at hf
            · rename_i ρ2 S5 hb2
              refine for_turn hH' hE' rx hg1 hb2 (fun ρ2' e2 ι4 σ4 H4 w4 hH4 hE4 => ?_) (fun _ z => by cases z) (fun _ z => by cases z)
              have e2 : ρ2' = ρ2 := by rcases e2 with z | z <;> cases z; rfl
              subst e2
              exact ⟨ι4, _, S5, w'.trans w4, hH4, hE4, o', Sf, hf, q'.of w4⟩
            · rename_i ρ2 S5 hb2
              refine for_turn hH' hE' rx hg1 hb2 (fun ρ2' e2 ι4 σ4 H4 w4 hH4 hE4 => ?_) (fun _ z => by cases z) (fun _ z => by cases z)
              have e2 : ρ2' = ρ2 := by rcases e2 with z | z <;> cases z; rfl
              subst e2
              exact ⟨ι4, _, S5, w'.trans w4, hH4, hE4, o', Sf, hf, q'.of w4⟩
            · rename_i ρ2 S5 hb2
              cases hf
              exact for_turn hH' hE' rx hg1 hb2 (fun ρ2' e2 => by rcases e2 with z | z <;> cases z) (fun ρ2' z ι4 σ4 H4 w4 hH4 hE4 => by cases z; exact q' ι4 σ4 H4 w4 hH4 hE4) (fun _ z => by cases z)
            · rename_i z2 S5 hb2
              cases hf
              exact for_turn hH' hE' rx hg1 hb2 (fun ρ2' e2 => by rcases e2 with z | z <;> cases z) (fun _ z => by cases z) (fun z ez => by cases ez; exact q')
            · cases hf
          · cases hf
      · cases hf
  · cases e
theorem ss_while (hp : PassesOwn (model X.prog X.w) X.A X.env X.xe) (hc : PT X c (tB' X.K ba)) (hb : PSs X sts (tS X.K m)) : PS X (.While c sts [] pos) (tS X.K (msWhile ba m)) := by
  refine PS.imp (ps_while hp hc hb) fun E σ H ⟨ι, ρ, S, o, S', hH, hE, e, q⟩ => ?_
  unfold msWhile at e
  refine ⟨fun f σ' H' => ∃ ι' ρ' S', HR X.K H' ι' S' ∧ ER X.K H' ι' σ' ρ' ∧ ∃ o Sf, whileN ba m f ρ' S' = some (o, Sf) ∧ OutR X.K H' ι' Sf E o, ⟨cap, ι, ρ, S, hH, hE, o, S', e, q⟩, ?_⟩
  rintro f σ' H' ⟨ι', ρ', S3, hH', hE', o', Sf, hf, q'⟩
  cases f with
  | zero => cases hf
  | succ f =>
    unfold whileN at hf
    split at hf
    · rename_i S1 h1
      cases hf
      exact ⟨ι', ρ', S3, false, Sf, hH', hE', h1, fun ι1 H1 w1 hH1 => iteF (q' ι1 σ' H1 w1 hH1 (hE'.mono w1))⟩
    · rename_i S1 h1
      refine ⟨ι', ρ', S3, true, S1, hH', hE', h1, fun ι1 H1 w1 hH1 => iteT ?_⟩
      refine ⟨fun σ2 H2 => ∃ ι2 ρ2 S2, HR X.K H2 ι2 S2 ∧ ER X.K H2 ι2 σ2 ρ2 ∧ ∃ o Sf, whileN ba m f ρ2 S2 = some (o, Sf) ∧ OutR X.K H2 ι2 Sf E o, fun σ2 H2 z => ⟨f, Nat.lt_succ_self _, z⟩, ?_⟩
      split at hf
      · rename_i ρ2 S5 hb2
        exact ⟨ι1, ρ', S1, .nx ρ2, S5, hH1, hE'.mono w1, hb2, fun ι4 σ4 H4 w4 hH4 hE4 => ⟨ι4, ρ2, S5, hH4, hE4, o', Sf, hf, q'.of (w1.trans w4)⟩⟩
      · rename_i ρ2 S5 hb2
        exact ⟨ι1, ρ', S1, .ct ρ2, S5, hH1, hE'.mono w1, hb2, fun ι4 σ4 H4 w4 hH4 hE4 => ⟨ι4, ρ2, S5, hH4, hE4, o', Sf, hf, q'.of (w1.trans w4)⟩⟩
      · rename_i ρ2 S5 hb2
        cases hf
        exact ⟨ι1, ρ', S1, .bk ρ2, Sf, hH1, hE'.mono w1, hb2, fun ι4 σ4 H4 w4 hH4 hE4 => q' ι4 σ4 H4 (w1.trans w4) hH4 hE4⟩
      · rename_i z2 S5 hb2
        cases hf
        exact ⟨ι1, ρ', S1, .rt z2, Sf, hH1, hE'.mono w1, hb2, Aft.of q' w1⟩
      · cases hf
    · cases hf
end
end Tm
namespace Tm
open PySem L2

/-! ## a list is laid for good -/
theorem freeze {X : Cx} {pins : List (Addr × Obj)} {σ : L2.St} {H : Hp} {s : Shared} {a : Addr} {xs : List V} (I : Inv X pins σ H s) (h : H a = some (.lst xs)) : ∃ o, Inv X pins σ (upd H a (.frz o (.lst xs))) s := by
  have ok := I.hok a _ h
  obtain ⟨hz, its, n, ri, e⟩ := id ok
  refine ⟨{ cls := .type "list", data := .seq its.toArray n }, ?_⟩
  have ne : ∀ b u, H b = some u → (∀ ys, u ≠ .lst ys) → b ≠ a := fun b u hb hu z => by subst z; rw [h] at hb; cases hb; exact hu xs rfl
  have hn : ∀ b, H b = none → b ≠ a := fun b hb z => by subst z; rw [h] at hb; cases hb
  have u : Un X.fs [] H (upd H a (.frz { cls := .type "list", data := .seq its.toArray n } (.lst xs))) s.heap s.heap :=
    ⟨fun b o q _ _ _ => q, fun b o q _ _ _ => ⟨o.slots, q⟩, fun b o q z _ => by rw [upd_ne (hn b z)]; exact z, fun b o q _ => ⟨o, q⟩,
      fun b ys q => by rw [upd_ne (ne b _ q (fun _ z => by cases z))]; exact q, fun b o y q => by rw [upd_ne (ne b _ q (fun _ z => by cases z))]; exact q, fun b ps q => ⟨#[], by rw [upd_ne (ne b _ q (fun _ z => by cases z)), q]; simp⟩⟩
  have hok : HOk X.prog X.w (upd H a (.frz { cls := .type "list", data := .seq its.toArray n } (.lst xs))) s.heap := fun b y q => by
    by_cases c : b = a
    · subst c
      rw [upd_same] at q
      cases q
      exact ⟨e, hz, its, n, ri, e⟩
    · rw [upd_ne c] at q
      exact (I.hok b y q).stay (fun _ _ _ z => z) (fun b' z => by rw [upd_ne (ne b' _ z (fun _ z => by cases z))]; exact z) fun b' ys z => by rw [upd_ne (ne b' _ z (fun _ z => by cases z))]; exact z
  exact I.un (t' := s.toks) u hok
/-- what follows where the new list is laid for good -/
def fzQ (Q : VK) : VK := fun v H => ∃ a xs, v = .ref a ∧ H a = some (.lst xs) ∧ ∀ o, Q v (upd H a (.frz o (.lst xs)))
theorem EP.freeze {X : Cx} {pins : List (Addr × Obj)} {σ : L2.St} {Q : VK} {u : Value} {s : Shared} (h : EP X pins σ (fzQ Q) u s) : EP X pins σ Q u s := by
  obtain ⟨v, H, I, r, a, xs, rfl, e, q⟩ := h
  obtain ⟨o, I'⟩ := Tm.freeze I e
  exact ⟨_, _, I', r, q o⟩
theorem PE.freeze {X : Cx} {e : Expr} {t : TE} (h : PE X e t) : PE X e (fun σ H Q => t σ H (fzQ Q)) :=
  ⟨fun pins s σ H Q I q => thn (h.run pins s σ H _ I q) fun _ _ z => EP.freeze z⟩
/-- the new list at p, laid for good, stands for ds -/
theorem fz_aft {K : Fg} {H H1 : Hp} {ι ι1 : List Addr} {S : Sto} {Q : VK} {p : Addr} {xs : List V} {ds : List PyData} (q : Aft K H ι (.p (.list ds)) S Q) (w : Ext ι H ι1 H1) (hp : H1 p = none) (hH : HR K H1 ι1 S) (hr : RpA K H1 xs ds) : fzQ Q (.ref p) (upd H1 p (.lst xs)) := by
  refine ⟨p, xs, rfl, upd_same, fun o => ?_⟩
  rw [upd_upd]
  have w1 : Ext ι1 H1 ι1 (upd H1 p (.frz o (.lst xs))) := Ext.put hp
  exact q ι1 _ _ (w.trans w1) (hH.same (Same.put hp)) (.lst (.inl ⟨o, upd_same⟩) (RpA.mono w1.keep _ _ hr))
/-- .. or it is a new object of the store -/
theorem mk_aft {K : Fg} {H H1 : Hp} {ι ι1 : List Addr} {S : Sto} {Q : VK} {p : Addr} {xs : List V} {ds : List PyData} (q : Aft K H ι (.r S.length) (S ++ [.lst ds]) Q) (w : Ext ι H ι1 H1) (hp : H1 p = none) (hH : HR K H1 ι1 S) (hr : RpA K H1 xs ds) : Q (.ref p) (upd H1 p (.lst xs)) := by
  have w1 : Ext ι1 H1 (ι1 ++ [p]) (upd H1 p (.lst xs)) := Ext.grow hp
  refine q _ _ _ (w.trans w1) (hH.grow hp ⟨xs, upd_same, RpA.mono w1.keep _ _ hr⟩) ⟨p, ?_, rfl⟩
  rw [← hH.len, List.getElem?_append_right (Nat.le_refl _)]
  simp

/-! ## displays -/
/-- all of them data -/
def datas : List D → Option (List PyData)
  | [] => some []
  | .p d :: r => (match datas r with
    | some ds => some (d :: ds)
    | none => none)
  | .r _ :: _ => none
theorem datas_of {K : Fg} {H : Hp} {ι : List Addr} : ∀ {vs : List V} {es : List D} {ds : List PyData}, RDs K H ι vs es → datas es = some ds → RpA K H vs ds
  | [], [], _, _, h => by cases h; exact .nil
  | v :: vs, .p d :: r, ds, ⟨h1, h2⟩, h => by
    unfold datas at h
    split at h
    · rename_i ds' e
      cases h
      exact .cons h1 (datas_of h2 e)
    · cases h
  | _ :: _, .r _ :: _, _, _, h => by cases h
  | [], _ :: _, _, h, _ => h.elim
  | _ :: _, [], _, h, _ => h.elim
theorem datas_len : ∀ {es : List D} {ds : List PyData}, datas es = some ds → ds.length = es.length
  | [], _, h => by cases h; rfl
  | .p d :: r, ds, h => by
    unfold datas at h
    split at h
    · rename_i ds' e
      cases h
      exact congrArg Nat.succ (datas_len e)
    · cases h
  | .r _ :: _, _, h => by cases h
def gTuple : List D → Sto → Rs D := fun es S => match datas es with
  | some ds => if ds.length ≤ 1000 then some (.p (.tuple ds), S) else none
  | none => none
def gList : List D → Sto → Rs D := fun es S => match datas es with
  | some ds => if ds.length ≤ 1000 then some (.p (.list ds), S) else none
  | none => none
def gListM : List D → Sto → Rs D := fun es S => match datas es with
  | some ds => if ds.length ≤ 1000 then some (.r S.length, S ++ [.lst ds]) else none
  | none => none
section
variable {X : Cx} {es : List Expr} {mas : MA} {pos : Pos}
/-- a new tuple, locked -/
theorem new_tup {pins : List (Addr × Obj)} {σ : L2.St} {H : Hp} {s : Shared} {us : List Value} {xs : List V} {Q : VK} {tk : Nat} (I : Inv X pins σ H s) (r : Vals xs us) (z : xs.length ≤ sizeLine)
    (q : ∀ p o, H p = none → o.dict = none → Q (.ref p) (upd H p (.frz o (.tup xs)))) : EP X pins σ Q (.ref s.heap.objs.size) { s with heap := s.heap.push { cls := .type "tuple", data := .seq us.toArray }, toks := tk } := by
  have hf : H s.heap.objs.size = none := I.hok.fresh (Nat.le_refl _)
  refine ⟨.ref s.heap.objs.size, upd H s.heap.objs.size (.frz { cls := .type "tuple", data := .seq us.toArray } (.tup xs)), I.laid (t' := tk) (fun b u e => Heap.get?_push_of_some _ e) (Nat.le_refl _) ?_, rfl, q _ _ hf rfl⟩
  exact ⟨Heap.get?_push_size _ rfl, z, us, r, ⟨_, Heap.get?_push_size _ rfl, rfl, _, rfl⟩⟩
theorem tup_aft {K : Fg} {H H1 : Hp} {ι ι1 : List Addr} {S : Sto} {Q : VK} {p : Addr} {o : Obj} {xs : List V} {ds : List PyData} (q : Aft K H ι (.p (.tuple ds)) S Q) (w : Ext ι H ι1 H1) (hp : H1 p = none) (ho : o.dict = none) (hH : HR K H1 ι1 S) (hr : RpA K H1 xs ds) : Q (.ref p) (upd H1 p (.frz o (.tup xs))) := by
  have w1 : Ext ι1 H1 ι1 (upd H1 p (.frz o (.tup xs))) := Ext.put hp
  exact q ι1 _ _ (w.trans w1) (hH.same (Same.put hp)) (.tup (.inl ⟨o, upd_same, ho⟩) (RpA.mono w1.keep _ _ hr))
theorem pe_tupF {t : TA} {x1} (h : PA X es t) : PE X (.Tuple es x1 pos) (fun σ H Q => t σ H fun xs H1 => xs.length ≤ sizeLine ∧ ∀ p o, H1 p = none → o.dict = none → Q (.ref p) (upd H1 p (.frz o (.tup xs)))) := by
  refine ⟨fun pins s σ H Q I hq => ?_⟩
  exact wpAny_Tuple_spliced (thn (h.run pos pins s σ H _ I hq) fun us s1 ⟨xs, H1, I1, r, z, q⟩ => ⟨by rw [← r.length]; exact z, new_tup (tk := s1.toks) I1 r z q⟩)
theorem s_tuple {k : Nat} (h : PA X es (tAs X.K mas)) : PE X (.Tuple es k pos) (tE X.K (mN gTuple mas)) := by
  refine PE.imp (pe_tupF h) fun σ H Q ⟨ι, ρ, S, z, S', hH, hE, e, q⟩ => ?_
  unfold mN at e
  split at e
  · rename_i ds S1 h1
    unfold gTuple at e
    split at e
    · rename_i xs hx
      split at e
      · rename_i hl
        cases e
        refine ⟨ι, ρ, S, ds, _, hH, hE, h1, fun ι1 vs H1 w1 hH1 rv => ?_⟩
        have hr := datas_of rv hx
        refine ⟨?_, fun p o hp ho => tup_aft q w1 hp ho hH1 hr⟩
        rw [hr.length]; exact Nat.le_of_lt (small1000 hl)
      · cases e
    · cases e
  · cases e
theorem s_list (h : PA X es (tAs X.K mas)) : PE X (.List es pos) (tE X.K (mN gList mas)) := by
  refine PE.imp (PE.freeze (pe_lst h)) fun σ H Q ⟨ι, ρ, S, z, S', hH, hE, e, q⟩ => ?_
  unfold mN at e
  split at e
  · rename_i ds S1 h1
    unfold gList at e
    split at e
    · rename_i xs hx
      split at e
      · rename_i hl
        cases e
        refine ⟨ι, ρ, S, ds, _, hH, hE, h1, fun ι1 vs H1 w1 hH1 rv => ?_⟩
        have hr := datas_of rv hx
        refine ⟨?_, fun p hp => fz_aft q w1 hp hH1 hr⟩
        rw [hr.length]; exact Nat.le_of_lt (small1000 hl)
      · cases e
    · cases e
  · cases e
theorem s_listM (h : PA X es (tAs X.K mas)) : PE X (.List es pos) (tE X.K (mN gListM mas)) := by
  refine PE.imp (pe_lst h) fun σ H Q ⟨ι, ρ, S, z, S', hH, hE, e, q⟩ => ?_
  unfold mN at e
  split at e
  · rename_i ds S1 h1
    unfold gListM at e
    split at e
    · rename_i xs hx
      split at e
      · rename_i hl
        cases e
        refine ⟨ι, ρ, S, ds, _, hH, hE, h1, fun ι1 vs H1 w1 hH1 rv => ?_⟩
        have hr := datas_of rv hx
        refine ⟨?_, fun p hp => mk_aft q w1 hp hH1 hr⟩
        rw [hr.length]; exact Nat.le_of_lt (small1000 hl)
      · cases e
    · cases e
  · cases e
end

/-! ## comprehensions -/
def wipeE (ρ : Ev) : List Nat → Ev
  | [] => ρ
  | v :: vs => (wipeE ρ vs).set v none
theorem wipeE_len (ρ : Ev) : ∀ vs : List Nat, (wipeE ρ vs).length = ρ.length
  | [] => rfl
  | v :: vs => by unfold wipeE; rw [List.length_set, wipeE_len ρ vs]
theorem ER.wipe {K : Fg} {H : Hp} {ι : List Addr} {σ : L2.St} {ρ : Ev} (h : ER K H ι σ ρ) : ∀ vs : List Nat, ER K H ι (L2.wipe σ vs) (wipeE ρ vs)
  | [] => h
  | v :: vs => by
    have ih := ER.wipe h vs
    unfold L2.wipe wipeE
    refine ⟨by simp [ih.len], fun i d e => ?_⟩
    by_cases c : v = i
    · subst c
      by_cases hv : v < (wipeE ρ vs).length
      · rw [List.getElem?_set_self hv] at e; cases e
      · rw [List.getElem?_eq_none (by simpa using hv)] at e; cases e
    · rw [List.getElem?_set_ne c] at e
      obtain ⟨w, h1, h2⟩ := ih.at_ i d e
      exact ⟨w, by rw [List.getElem?_set_ne c]; exact h1, h2⟩
def compL (g : MG) (t : MB) (e : M) (ρ : Ev) : List Itm → List PyData → Sto → Rs (List PyData)
  | [], acc, S => some (acc, S)
  | d :: ds, acc, S => match g d ρ S with
    | some (ρ1, S1) => (match t ρ1 S1 with
      | some (true, S2) => (match e ρ1 S2 with
        | some (.p x, S3) => compL g t e ρ ds (acc ++ [x]) S3
        | _ => none)
      | some (false, S2) => compL g t e ρ ds acc S2
      | none => none)
    | none => none
def compR (g : MG) (t : MB) (e : M) (ρ : Ev) (n : Nat) : Nat → Nat → List PyData → Sto → Rs (List PyData)
  | 0, _, _, _ => none
  | f + 1, i, acc, S => match S[n]? with
    | some (.lst xs) => (match xs[i]? with
      | none => some (acc, S)
      | some d => (match g (.one (.p d)) ρ S with
        | some (ρ1, S1) => (match t ρ1 S1 with
          | some (true, S2) => (match e ρ1 S2 with
            | some (.p x, S3) => compR g t e ρ n f (i + 1) (acc ++ [x]) S3
            | _ => none)
          | some (false, S2) => compR g t e ρ n f (i + 1) acc S2
          | none => none)
        | none => none))
    | _ => none
def compA (it : MI) (g : MG) (t : MB) (e : M) (vs : List Nat) : Ev → Sto → Rs (List PyData) := fun ρ S => match it ρ S with
  | some (.its xs, S1) => compL g t e (wipeE ρ vs) xs [] S1
  | some (.lst n, S1) => compR g t e (wipeE ρ vs) n cap 0 [] S1
  | none => none
def mComp (it : MI) (g : MG) (t : MB) (e : M) (vs : List Nat) : M := fun ρ S => match compA it g t e vs ρ S with
  | some (acc, S1) => some (.p (.list acc), S1)
  | none => none
def mCompM (it : MI) (g : MG) (t : MB) (e : M) (vs : List Nat) : M := fun ρ S => match compA it g t e vs ρ S with
  | some (acc, S1) => some (.r S1.length, S1 ++ [.lst acc])
  | none => none
def bYes : MB := fun _ S => some (true, S)
theorem PTs.imp {X : Cx} {e : List Expr} {t u : TT} (h : PTs X e t) (i : ∀ σ H Q, u σ H Q → t σ H Q) : PTs X e u := ⟨fun pins s σ H Q I q => h.run pins s σ H Q I (i σ H Q q)⟩
theorem st_nil {X : Cx} : PTs X [] (tB' X.K bYes) := PTs.imp pts_nil fun σ H Q ⟨ι, ρ, S, b, S', hH, hE, e, q⟩ => by
  cases e
  exact q ι H (Ext.refl _ _) hH
theorem st_one {X : Cx} {c : Expr} {b : MB} (h : PT X c (tB' X.K b)) : PTs X [c] (tB' X.K b) := pts_one h
/-- one turn -/
theorem comp_turn {K : Fg} {ws : List Nat} {g : MG} {t : MB} {e : M} {σ : L2.St} {ρ ρ1 : Ev} {ι : List Addr} {H : Hp} {S S1 : Sto} {x : V} {d : Itm} {D0 : Addr} {acc : List V} {Nx : Hp → Prop}
    (hH : HR K H ι S) (hE : ER K H ι (wipe σ ws) (wipeE ρ ws)) (rx : RI K H ι x d) (hD : H D0 = some (.lst acc)) (nD : D0 ∉ ι) (hz : acc.length < sizeLine)
    (h1 : g d (wipeE ρ ws) S = some (ρ1, S1))
    (h : (∃ S2, t ρ1 S1 = some (false, S2) ∧ ∀ ι' H', Ext ι H ι' H' → HR K H' ι' S2 → H' D0 = some (.lst acc) → Nx H') ∨
      ∃ S2 y S3, t ρ1 S1 = some (true, S2) ∧ e ρ1 S2 = some (.p y, S3) ∧ ∀ ι' H' v, Ext ι H ι' H' → HR K H' ι' S3 → H' D0 = some (.lst acc) → Rp K H' v y → D0 ∉ ι' → Nx (upd H' D0 (.lst (acc ++ [v])))) :
    tG K ws g x (wipe σ ws) H fun σ2 H2 => wipe σ2 ws = wipe σ ws ∧ tB' K t σ2 H2 fun b H3 =>
      if b = true then tE K e σ2 H3 fun y H4 => ∃ acc, H4 D0 = some (.lst acc) ∧ acc.length < sizeLine ∧ Nx (upd H4 D0 (.lst (acc ++ [y]))) else Nx H3 := by
  have ww : wipe (wipe σ ws) ws = wipe σ ws := by
    refine wipe_ext (wipe_length _ _) fun i hi => wipe_get hi
  refine ⟨ι, wipeE ρ ws, S, d, ρ1, S1, hH, hE, rx, h1, fun ι2 σ2 H2 w2 hH2 hE2 z2 => ⟨z2.trans ww, ?_⟩⟩
  have hD2 : H2 D0 = some (.lst acc) := w2.stay _ _ hD (.inr nD)
  have nD2 : D0 ∉ ι2 := fun z => by rcases w2.new _ z with z | z; exact nD z; rw [hD] at z; cases z
  rcases h with ⟨S2, ht, k⟩ | ⟨S2, y, S3, ht, he, k⟩
  · exact ⟨ι2, ρ1, S1, false, S2, hH2, hE2, ht, fun ι3 H3 w3 hH3 => iteF (k ι3 H3 (w2.trans w3) hH3 (w3.stay _ _ hD2 (.inr nD2)))⟩
  · refine ⟨ι2, ρ1, S1, true, S2, hH2, hE2, ht, fun ι3 H3 w3 hH3 => iteT ⟨ι3, ρ1, S2, _, S3, hH3, hE2.mono w3, he, fun ι4 v H4 w4 hH4 rv => ?_⟩⟩
    have w := (w2.trans w3).trans w4
    have hD4 := w.stay _ _ hD (.inr nD)
    refine ⟨acc, hD4, hz, k ι4 H4 v w hH4 hD4 rv fun z => ?_⟩
    rcases w.new _ z with z | z
    · exact nD z
    · rw [hD] at z; cases z
/-- the list at D0 grown -/
theorem HR.side {K : Fg} {H : Hp} {ι : List Addr} {S : Sto} {p : Addr} {o u : HO} (h : HR K H ι S) (hp : H p = some u) (fu : ¬ Firm u) (np : p ∉ ι) : HR K (upd H p o) ι S := by
  have k : Keep H (upd H p o) := Keep.mut hp fu
  refine ⟨h.len, h.nd, fun n a ob e1 e2 => ?_⟩
  have y := h.at_ n a ob e1 e2
  have na : a ≠ p := fun z => by subst z; exact np (List.mem_of_getElem? e1)
  cases ob with
  | lst ds =>
    obtain ⟨xs, y1, y2⟩ := y
    exact ⟨xs, by rw [upd_ne na]; exact y1, RpA.mono k _ _ y2⟩
  | dct _ => exact y
structure CompR (K : Fg) (ι : List Addr) (H : Hp) (ι' : List Addr) (H' : Hp) (D0 : Addr) : Prop where
  pre : ι <+: ι'
  new : ∀ a ∈ ι', a ∈ ι ∨ H a = none
  stay : ∀ a o, a ≠ D0 → H a = some o → (Firm o ∨ a ∉ ι) → H' a = some o
theorem comp_loop {K : Fg} {ws : List Nat} {mi : MI} {g : MG} {t : MB} {e : M} {σ : L2.St} {H : Hp} {ρ : Ev} {S S' : Sto} {ι : List Addr} {ds : List PyData} {Q : VK} (hH : HR K H ι S) (hE : ER K H ι σ ρ) (he : compA mi g t e ws ρ S = some (ds, S'))
    (q : ∀ ι' H' p xs, Ext ι H ι' H' → HR K H' ι' S' → H' p = none → RpA K H' xs ds → Q (.ref p) (upd H' p (.lst xs))) : tLc (tI K mi) (tG K ws g) (tB' K t) (tE K e) ws σ H Q := by
  unfold compA at he
  -- the heap without the list at D0
  have back : ∀ {ι1 ι' : List Addr} {H1 H' : Hp} {D0 : Addr} {acc : List V} {Sx : Sto}, H1 D0 = none → Ext ι1 (upd H1 D0 (.lst [])) ι' H' ∨ True → CompR K ι1 H1 ι' H' D0 → H' D0 = some (.lst acc) → D0 ∉ ι' → HR K H' ι' Sx → RpA K H' acc ds → Sx = S' → Ext ι H ι1 H1 → Q (.ref D0) H' := by
    intro ι1 ι' H1 H' D0 acc Sx hD _ c hD' nD' hH' hr eS w1
    subst eS
    have e1 : H' = upd (fun b => if b = D0 then none else H' b) D0 (.lst acc) := by
      funext b
      unfold upd
      by_cases z : b = D0
      · subst z; rw [if_pos rfl]; exact hD'
      · rw [if_neg z]; show H' b = if b = D0 then none else H' b; rw [if_neg z]
    have k : Keep H' (fun b => if b = D0 then none else H' b) := fun a o h f => by
      have na : a ≠ D0 := fun z => by subst z; rw [hD'] at h; cases h; exact f
      show (if a = D0 then none else H' a) = some o
      rw [if_neg na]; exact h
    rw [e1]
    refine q ι' _ D0 acc (w1.trans ⟨c.pre, c.new, fun a o h f => ?_⟩) ⟨hH'.len, hH'.nd, fun n a ob f1 f2 => ?_⟩ (if_pos rfl) (RpA.mono k _ _ hr)
    · have na : a ≠ D0 := fun z => by subst z; rw [hD] at h; cases h
      show (if a = D0 then none else H' a) = some o
      rw [if_neg na]
      exact c.stay a o na h f
    · have y := hH'.at_ n a ob f1 f2
      have na : a ≠ D0 := fun z => by subst z; exact nD' (List.mem_of_getElem? f1)
      cases ob with
      | lst ds =>
        obtain ⟨xs, y1, y2⟩ := y
        exact ⟨xs, by show (if a = D0 then none else H' a) = _; rw [if_neg na]; exact y1, RpA.mono k _ _ y2⟩
      | dct _ => exact y
  -- a turn's step, in CompR
  have stepR : ∀ {ι1 ι2 ι3 : List Addr} {H1 H2 H3 : Hp} {D0 : Addr}, H1 D0 = none → CompR K ι1 H1 ι2 H2 D0 → Ext ι2 H2 ι3 H3 → H2 D0 ≠ none → CompR K ι1 H1 ι3 H3 D0 := by
    intro ι1 ι2 ι3 H1 H2 H3 D0 hD c w hn
    refine ⟨c.pre.trans w.pre, fun a ha => ?_, fun a o na h f => ?_⟩
    · rcases w.new a ha with z | z
      · exact c.new a z
      · by_cases m : a ∈ ι1
        · exact .inl m
        · cases r : H1 a with
          | none => exact .inr rfl
          | some o =>
            have na : a ≠ D0 := fun z => by subst z; rw [hD] at r; cases r
            rw [c.stay a o na r (.inr m)] at z; cases z
    · refine w.stay a o (c.stay a o na h f) ?_
      rcases f with f | f
      · exact .inl f
      · refine .inr fun m => ?_
        rcases c.new a m with z | z
        · exact f z
        · rw [z] at h; cases h
  have putR : ∀ {ι1 ι2 : List Addr} {H1 H2 : Hp} {D0 : Addr} {o : HO}, CompR K ι1 H1 ι2 H2 D0 → CompR K ι1 H1 ι2 (upd H2 D0 o) D0 := by
    intro ι1 ι2 H1 H2 D0 o c
    exact ⟨c.pre, c.new, fun a u na h f => by rw [upd_ne na]; exact c.stay a u na h f⟩
  have keepR : ∀ {ι1 ι2 : List Addr} {H1 H2 : Hp} {D0 : Addr}, H1 D0 = none → CompR K ι1 H1 ι2 H2 D0 → Keep H1 H2 := by
    intro ι1 ι2 H1 H2 D0 hD c a o h f
    exact c.stay a o (fun z => by subst z; rw [hD] at h; cases h) h (.inl f)
  have erR : ∀ {ι1 ι2 : List Addr} {H1 H2 : Hp} {D0 : Addr} {σ : L2.St} {ρ : Ev}, H1 D0 = none → CompR K ι1 H1 ι2 H2 D0 → ER K H1 ι1 σ ρ → ER K H2 ι2 σ ρ := by
    intro ι1 ι2 H1 H2 D0 σ ρ hD c h
    refine ⟨h.len, fun i d e => ?_⟩
    obtain ⟨v, e1, e2⟩ := h.at_ i d e
    refine ⟨v, e1, ?_⟩
    cases d with
    | p d => exact Rp.mono (keepR hD c) d v e2
    | r n =>
      obtain ⟨a, h1, h2⟩ := e2
      exact ⟨a, by obtain ⟨t, ht⟩ := c.pre; rw [← ht, List.getElem?_append_left (List.getElem?_eq_some_iff.mp h1).1]; exact h1, h2⟩
  split at he
  · rename_i xs S1 h1
    refine ⟨ι, ρ, S, _, S1, hH, hE, h1, fun ι1 J H1 w1 hH1 hJ => fun D0 hD => ?_⟩
    have hJ : ItS K ι1 H1 J xs := hJ
    have nD1 : D0 ∉ ι1 := fun z => by obtain ⟨u, z1, _⟩ := hH1.mem z; rw [hD] at z1; cases z1
    have hEw : ER K H1 ι1 (wipe σ ws) (wipeE ρ ws) := (hE.mono w1).wipe ws
    refine ⟨fun i n H' => n = xs.length - i ∧ i ≤ xs.length ∧ ∃ ι' S2 acc va, CompR K ι1 H1 ι' H' D0 ∧ D0 ∉ ι' ∧ HR K H' ι' S2 ∧ H' D0 = some (.lst va) ∧ va.length ≤ i ∧ RpA K H' va acc ∧ compL g t e (wipeE ρ ws) (xs.drop i) acc S2 = some (ds, S'),
      ⟨_, rfl, Nat.zero_le _, ι1, S1, [], [], ⟨List.prefix_refl _, fun _ z => .inl z, fun a o na h _ => by rw [upd_ne na]; exact h⟩, nD1, hH1.same (Same.put hD), upd_same, Nat.le_refl _, .nil, by rw [List.drop_zero]; exact he⟩, ?_⟩
    rintro i n H' ⟨rfl, hil, ι', S2, acc, va, c, nD', hH', hD', hva, hra, hf⟩
    have kk : Keep H1 H' := keepR hD c
    by_cases hlt : i < xs.length
    · obtain ⟨d, hd, hdr⟩ := drop_eq hlt
      rw [hdr] at hf
      refine .inr ⟨hJ.go i H' hlt kk, fun H2 => ∃ ι2 S3 acc va, CompR K ι1 H1 ι2 H2 D0 ∧ D0 ∉ ι2 ∧ HR K H2 ι2 S3 ∧ H2 D0 = some (.lst va) ∧ va.length ≤ i + 1 ∧ RpA K H2 va acc ∧ compL g t e (wipeE ρ ws) (xs.drop (i + 1)) acc S3 = some (ds, S'),
        fun H2 z => ⟨xs.length - (i + 1), by omega, rfl, hlt, z⟩, fun x H3 hy => ?_⟩
      obtain ⟨sm, hrd⟩ := hJ.yld i H' x H3 hlt kk hy
      have w3 : Ext ι' H' ι' H3 := Ext.same sm
      have c3 : CompR K ι1 H1 ι' H3 D0 := stepR hD c w3 (by rw [hD']; exact fun z => by cases z)
      have hD3 : H3 D0 = some (.lst va) := sm _ _ hD'
      have rx := hrd d hd ι' c.pre
      unfold compL at hf
      split at hf
      · rename_i ρ1 S4 hg1
        refine comp_turn (hH'.same sm) (erR hD c3 hEw) rx hD3 nD' (by have := hJ.len; omega) hg1 ?_
        split at hf
        · rename_i S5 ht1
          split at hf
          · rename_i y S6 he1
            refine .inr ⟨S5, y, S6, ht1, he1, fun ι4 H4 v w4 hH4 hD4 rv nD4 => ?_⟩
            have c4 := stepR hD c3 w4 (by rw [hD3]; exact fun z => by cases z)
            have ku : Keep H4 (upd H4 D0 (.lst (va ++ [v]))) := Keep.mut hD4 (fun z => z)
            exact ⟨ι4, S6, acc ++ [y], va ++ [v], putR c4, nD4, hH4.side hD4 (fun z => z) nD4, upd_same, by simp; omega, (RpA.mono ku _ _ (RpA.mono w4.keep _ _ (RpA.mono w3.keep _ _ hra))).append (.cons (Rp.mono ku _ _ rv) .nil), hf⟩
          · cases hf
        · rename_i S5 ht1
          refine .inl ⟨S5, ht1, fun ι4 H4 w4 hH4 hD4 => ?_⟩
          have c4 := stepR hD c3 w4 (by rw [hD3]; exact fun z => by cases z)
          refine ⟨ι4, S5, acc, va, c4, fun z => ?_, hH4, hD4, by omega, RpA.mono w4.keep _ _ (RpA.mono w3.keep _ _ hra), hf⟩
          rcases w4.new _ z with z | z
          · exact nD' z
          · rw [hD3] at z; cases z
        · cases hf
      · cases hf
    · have ei : i = xs.length := by omega
      subst ei
      rw [List.drop_length] at hf
      unfold compL at hf
      cases hf
      exact .inl ⟨hJ.stop H' kk, back hD (.inr trivial) c hD' nD' hH' hra rfl w1⟩
  · rename_i n S1 h1
    refine ⟨ι, ρ, S, _, S1, hH, hE, h1, fun ι1 J H1 w1 hH1 hJ => fun D0 hD => ?_⟩
    obtain ⟨a, ha, rfl⟩ : ∃ a, ι1[n]? = some a ∧ J = Itl K a := hJ
    have nD1 : D0 ∉ ι1 := fun z => by obtain ⟨u, z1, _⟩ := hH1.mem z; rw [hD] at z1; cases z1
    have hEw : ER K H1 ι1 (wipe σ ws) (wipeE ρ ws) := (hE.mono w1).wipe ws
    refine ⟨fun i f H' => i + f = cap ∧ ∃ ι' S2 acc va, CompR K ι1 H1 ι' H' D0 ∧ D0 ∉ ι' ∧ HR K H' ι' S2 ∧ H' D0 = some (.lst va) ∧ va.length ≤ i ∧ RpA K H' va acc ∧ compR g t e (wipeE ρ ws) n f i acc S2 = some (ds, S'),
      ⟨cap, by omega, ι1, S1, [], [], ⟨List.prefix_refl _, fun _ z => .inl z, fun a o na h _ => by rw [upd_ne na]; exact h⟩, nD1, hH1.same (Same.put hD), upd_same, Nat.le_refl _, .nil, he⟩, ?_⟩
    rintro i f H' ⟨hif, ι', S2, acc, va, c, nD', hH', hD', hva, hra, hf⟩
    have ha' : ι'[n]? = some a := by obtain ⟨t, ht⟩ := c.pre; rw [← ht, List.getElem?_append_left (List.getElem?_eq_some_iff.mp ha).1]; exact ha
    cases f with
    | zero => cases hf
    | succ f =>
      unfold compR at hf
      split at hf
      · rename_i xs hn
        obtain ⟨vs, hv, rv⟩ := hH'.at_ n a _ ha' hn
        split at hf
        · rename_i hx
          cases hf
          refine .inl ⟨⟨vs, SqL.of hv, ?_⟩, back hD (.inr trivial) c hD' nD' hH' hra rfl w1⟩
          rw [rv.length]
          exact List.getElem?_eq_none_iff.mp hx
        · rename_i d hx
          obtain ⟨v, hvi, rd⟩ := rv.get hx
          refine .inr ⟨⟨vs, v, SqL.of hv, hvi⟩, fun H2 => ∃ ι2 S3 acc va, CompR K ι1 H1 ι2 H2 D0 ∧ D0 ∉ ι2 ∧ HR K H2 ι2 S3 ∧ H2 D0 = some (.lst va) ∧ va.length ≤ i + 1 ∧ RpA K H2 va acc ∧ compR g t e (wipeE ρ ws) n f (i + 1) acc S3 = some (ds, S'),
            fun H2 z => ⟨f, Nat.lt_succ_self _, by omega, z⟩, fun x H3 hy => ?_⟩
          obtain ⟨rfl, hy⟩ := hy
          have ex : x = v := Option.some.inj ((hy vs (SqL.of hv)).symm.trans hvi)
          subst ex
          split at hf
          · rename_i ρ1 S4 hg1
            have hcap : cap < sizeLine := by decide
            refine comp_turn hH' (erR hD c hEw) (show RI K H3 ι' x (.one (.p d)) from rd) hD' nD' (by omega) hg1 ?_
            split at hf
            · rename_i S5 ht1
              split at hf
              · rename_i y S6 he1
                refine .inr ⟨S5, y, S6, ht1, he1, fun ι4 H4 v w4 hH4 hD4 rv nD4 => ?_⟩
                have c4 := stepR hD c w4 (by rw [hD']; exact fun z => by cases z)
                have ku : Keep H4 (upd H4 D0 (.lst (va ++ [v]))) := Keep.mut hD4 (fun z => z)
                exact ⟨ι4, S6, acc ++ [y], va ++ [v], putR c4, nD4, hH4.side hD4 (fun z => z) nD4, upd_same, by simp; omega, (RpA.mono ku _ _ (RpA.mono w4.keep _ _ hra)).append (.cons (Rp.mono ku _ _ rv) .nil), hf⟩
              · cases hf
            · rename_i S5 ht1
              refine .inl ⟨S5, ht1, fun ι4 H4 w4 hH4 hD4 => ?_⟩
              have c4 := stepR hD c w4 (by rw [hD']; exact fun z => by cases z)
              refine ⟨ι4, S5, acc, va, c4, fun z => ?_, hH4, hD4, by omega, RpA.mono w4.keep _ _ hra, hf⟩
              rcases w4.new _ z with z | z
              · exact nD' z
              · rw [hD'] at z; cases z
            · cases hf
          · cases hf
      · cases hf
  · cases he
theorem imp_comp {K : Fg} {ws : List Nat} {mi : MI} {g : MG} {t : MB} {e : M} {σ : L2.St} {H : Hp} {Q : VK} (h : tE K (mComp mi g t e ws) σ H Q) : tLc (tI K mi) (tG K ws g) (tB' K t) (tE K e) ws σ H (fzQ Q) := by
  obtain ⟨ι, ρ, S, z, S', hH, hE, e, q⟩ := h
  unfold mComp at e
  split at e
  · rename_i acc S1 h1
    cases e
    exact comp_loop hH hE h1 fun ι' H' p xs w hH' hp hr => fz_aft q w hp hH' hr
  · cases e
theorem imp_compM {K : Fg} {ws : List Nat} {mi : MI} {g : MG} {t : MB} {e : M} {σ : L2.St} {H : Hp} {Q : VK} (h : tE K (mCompM mi g t e ws) σ H Q) : tLc (tI K mi) (tG K ws g) (tB' K t) (tE K e) ws σ H Q := by
  obtain ⟨ι, ρ, S, z, S', hH, hE, e, q⟩ := h
  unfold mCompM at e
  split at e
  · rename_i acc S1 h1
    cases e
    exact comp_loop hH hE h1 fun ι' H' p xs w hH' hp hr => mk_aft q w hp hH' hr
  · cases e
end Tm
namespace Tm
open PySem L2

/-! ## primitives: numbers, comparisons -/
abbrev I64 (i : Int) : Prop := -(2 ^ 64) < i ∧ i < 2 ^ 64
def ok (d : PyData) (S : Sto) : Rs D := some (.p d, S)
theorem fin {K : Fg} {H : Hp} {ι : List Addr} {v : V} {z : D} {S : Sto} {Q : VK} (q : Aft K H ι z S Q) (hH : HR K H ι S) (r : RD K H ι v z) : Q v H := q ι v H (Ext.refl _ _) hH r
theorem int_of {K : Fg} {H : Hp} {ι : List Addr} {v : V} {i : Int} (h : RD K H ι v (.p (.int i))) : v = .int i := by cases h; rfl
theorem str_of {K : Fg} {H : Hp} {ι : List Addr} {v : V} {i : Str} (h : RD K H ι v (.p (.str i))) : v = .str i := by cases h; rfl
/-- the items of a list (not of a tuple) -/
def listOf (d : D) (S : Sto) : Option (List PyData) := match d with
  | .p (.list xs) => some xs
  | .r n => (match S[n]? with
    | some (.lst xs) => some xs
    | _ => none)
  | _ => none
theorem list_of {K : Fg} {H : Hp} {ι : List Addr} {S : Sto} {v : V} {d : D} {ds : List PyData} (hH : HR K H ι S) (r : RD K H ι v d) (h : listOf d S = some ds) : ∃ a xs, v = .ref a ∧ LstR K H a xs ∧ RpA K H xs ds := by
  unfold listOf at h
  split at h
  · cases h
    cases r with
    | lst h1 h2 => exact ⟨_, _, rfl, h1.rd, h2⟩
  · rename_i n
    split at h
    · rename_i xs e
      cases h
      obtain ⟨a, ha, rfl⟩ := r
      obtain ⟨xs, h1, h2⟩ := hH.at_ n a _ ha e
      exact ⟨a, xs, rfl, .inl (.inl h1), h2⟩
    · cases h
  · cases h
theorem tup_of {K : Fg} {H : Hp} {ι : List Addr} {v : V} {ds : List PyData} (r : RD K H ι v (.p (.tuple ds))) : ∃ a xs, v = .ref a ∧ TupS K H a xs ∧ RpA K H xs ds := by
  cases r with
  | tup h1 h2 => exact ⟨_, _, rfl, h1, h2⟩
/-- the data of a value, a list of the store read -/
def dataOf (d : D) (S : Sto) : Option PyData := match d with
  | .p d => some d
  | .r n => (match S[n]? with
    | some (.lst xs) => some (.list xs)
    | _ => none)
theorem data_of {K : Fg} {H : Hp} {ι : List Addr} {S : Sto} {v : V} {d : D} {e : PyData} (hH : HR K H ι S) (r : RD K H ι v d) (h : dataOf d S = some e) : Dp K H v e := by
  unfold dataOf at h
  split at h
  · cases h
    exact Rp.dp _ _ r
  · rename_i n
    split at h
    · rename_i xs e
      cases h
      obtain ⟨a, ha, rfl⟩ := r
      obtain ⟨ys, h1, h2⟩ := hH.at_ n a _ ha e
      exact .lst (SqL.of h1) (RpA.dp _ _ h2)
    · cases h

def Lim : Nat := 16777216
def gAdd : D → D → Sto → Rs D := fun a b S => match a, b with
  | .p (.int i), .p (.int j) => ok (.int (i + j)) S
  | .p (.str x), .p (.str y) => if x.length + y.length ≤ Lim then ok (.str (x ++ y)) S else none
  | .p (.tuple xs), .p (.tuple ys) => if xs.length + ys.length ≤ Lim then ok (.tuple (xs ++ ys)) S else none
  | a, b => (match listOf a S, listOf b S with
    | some xs, some ys => if xs.length + ys.length ≤ Lim then ok (.list (xs ++ ys)) S else none
    | _, _ => none)
def gSub : D → D → Sto → Rs D := fun a b S => match a, b with
  | .p (.int i), .p (.int j) => ok (.int (i - j)) S
  | _, _ => none
def small (i : Int) : Bool := decide (-(2 ^ 64) < i) && decide (i < 2 ^ 64)
def gMul : D → D → Sto → Rs D := fun a b S => match a, b with
  | .p (.int i), .p (.int j) => if small i || small j then ok (.int (i * j)) S else none
  | _, _ => none
def gDiv : D → D → Sto → Rs D := fun a b S => match a, b with
  | .p (.int i), .p (.int j) => if 0 < j ∧ j < 1073741824 then ok (.int (i / j)) S else none
  | _, _ => none
def gMod : D → D → Sto → Rs D := fun a b S => match a, b with
  | .p (.int i), .p (.int j) => if 0 < j then ok (.int (i % j)) S else none
  | _, _ => none
def gPow : D → D → Sto → Rs D := fun a b S => match a, b with
  | .p (.int i), .p (.int j) => if 0 ≤ j ∧ j ≤ 1000 ∧ i.natAbs < 1000 then ok (.int (i ^ j.toNat)) S else none
  | _, _ => none
def gNeg : D → Sto → Rs D := fun a S => match a with
  | .p (.int i) => ok (.int (-i)) S
  | _ => none
section
variable {X : Cx}
theorem OpR.imp {f : Value → Value → Sem Value} {r u : R2} (h : OpR X f r) (i : ∀ x y H Q, u x y H Q → r x y H Q) : OpR X f u := fun pins s σ H x y v w Q I rx ry q => h pins s σ H x y v w Q I rx ry (i x y H Q q)
theorem o_sub : OpR X (binaryOp .Sub) (r2 X.K gSub) := OpR.imp op_sub fun x y H Q ⟨ι, S, d, e, z, S', hH, rd, re, h, q⟩ => by
  unfold gSub ok at h
  split at h
  · cases h; exact ⟨_, _, int_of rd, int_of re, fin q hH (.int _)⟩
  · cases h
theorem o_mul : OpR X (binaryOp .Mult) (r2 X.K gMul) := OpR.imp op_mul fun x y H Q ⟨ι, S, d, e, z, S', hH, rd, re, h, q⟩ => by
  unfold gMul ok small at h
  split at h
  · split at h
    · rename_i hs
      cases h
      refine ⟨_, _, int_of rd, int_of re, ?_, fin q hH (.int _)⟩
      simpa [CMul] using hs
    · cases h
  · cases h
theorem o_div : OpR X (binaryOp .FloorDiv) (r2 X.K gDiv) := OpR.imp op_fdiv fun x y H Q ⟨ι, S, d, e, z, S', hH, rd, re, h, q⟩ => by
  unfold gDiv ok at h
  split at h
  · split at h
    · rename_i hs
      cases h
      exact ⟨_, _, int_of rd, int_of re, hs, fin q hH (.int _)⟩
    · cases h
  · cases h
theorem o_mod : OpR X (binaryOp .Mod) (r2 X.K gMod) := OpR.imp op_mod fun x y H Q ⟨ι, S, d, e, z, S', hH, rd, re, h, q⟩ => by
  unfold gMod ok at h
  split at h
  · split at h
    · rename_i hs
      cases h
      exact ⟨_, _, int_of rd, int_of re, hs, fin q hH (.int _)⟩
    · cases h
  · cases h
theorem o_pow : OpR X (binaryOp .Pow) (r2 X.K gPow) := OpR.imp op_pow fun x y H Q ⟨ι, S, d, e, z, S', hH, rd, re, h, q⟩ => by
  unfold gPow ok at h
  split at h
  · split at h
    · rename_i hs
      cases h
      exact ⟨_, _, int_of rd, int_of re, ⟨hs.1, by omega, Nat.lt_trans hs.2.2 (by decide)⟩, fin q hH (.int _)⟩
    · cases h
  · cases h
theorem o_neg : UnR X (unaryOp .USub) (r1 X.K gNeg) := fun pins s σ H x v Q I rx ⟨ι, S, d, z, S', hH, rd, h, q⟩ => by
  refine un_neg pins s σ H x v Q I rx ?_
  unfold gNeg ok at h
  split at h
  · cases h; exact ⟨_, int_of rd, fin q hH (.int _)⟩
  · cases h
/-- two lists put together, wherever they stand -/
theorem op_catL : OpR X (binaryOp .Add) (fun x y H Q => ∃ l b xs zs, x = .ref l ∧ y = .ref b ∧ LstR X.K H l xs ∧ LstR X.K H b zs ∧ xs.length + zs.length ≤ sizeLine ∧ ∀ p, H p = none → fzQ Q (.ref p) (upd H p (.lst (xs ++ zs)))) := by
  intro pins s σ H x y v u Q I rx ry h
  obtain ⟨l, b, xs, zs, rfl, rfl, hH, hB, hz, q⟩ := h
  cases rx
  cases ry
  obtain ⟨its, n, r, e, hl⟩ := hH.obj I
  obtain ⟨its2, n2, r2, e2, hl2⟩ := hB.obj I
  have h1 := r.length
  have h2 := r2.length
  refine PySem.P.add_list e e2 ?_ (by rw [List.size_toArray, List.size_toArray]; omega)
  have ea : its.toArray ++ its2.toArray = (its ++ its2).toArray := by simp
  rw [ea]
  exact EP.freeze ⟨.ref _, _, I.lnew (t' := s.toks) (r.append r2) (by rw [List.length_append]; omega), rfl, q _ I.fresh⟩
/-- two tuples put together -/
theorem op_catF : OpR X (binaryOp .Add) (fun x y H Q => ∃ a b xs ys, x = .ref a ∧ y = .ref b ∧ SqT X.K H a xs ∧ SqT X.K H b ys ∧ xs.length + ys.length ≤ sizeLine ∧
    (xs = [] → Q (.ref b) H) ∧ (xs ≠ [] → ys = [] → Q (.ref a) H) ∧ (xs ≠ [] → ys ≠ [] → ∀ p o, H p = none → o.dict = none → Q (.ref p) (upd H p (.frz o (.tup (xs ++ ys)))))) := by
  intro pins s σ H x y v u Q I rx ry h
  obtain ⟨a, b, xs, ys, rfl, rfl, ha, hb, hz, q0, q1, q2⟩ := h
  by_cases hx : xs = []
  · subst hx
    exact op_catA pins s σ H _ _ v u Q I rx ry ⟨a, b, [], ys, rfl, rfl, ha, hb, hz, q0, fun z => absurd rfl z, fun z => absurd rfl z⟩
  · cases rx
    cases ry
    obtain ⟨its, r1, p1, _⟩ := I.tuple ha
    obtain ⟨its2, r2, p2, _⟩ := I.tuple hb
    refine HT.cat_tup p1 p2 (fun z => hx (r1.nil_iff.mp z)) (fun z => ⟨.ref a, H, I, rfl, q1 hx (r2.nil_iff.mp z)⟩) (fun z => ?_) (by rw [← r1.length, ← r2.length]; exact hz)
    exact new_tup (tk := s.toks) I (r1.append r2) (by rw [List.length_append]; exact hz) (q2 hx fun w => z (r2.nil_iff.mpr w))
theorem Lim_le : Lim ≤ sizeLine := by decide
theorem o_add : OpR X (binaryOp .Add) (r2 X.K gAdd) := fun pins s σ H x y v u Q I rx ry ⟨ι, S, d, e, z, S', hH, rd, re, h, q⟩ => by
  have L := Lim_le
  unfold gAdd ok at h
  split at h
  · cases h
    exact op_add pins s σ H x y v u Q I rx ry ⟨_, _, int_of rd, int_of re, fin q hH (.int _)⟩
  · split at h
    · cases h
      exact op_add_str pins s σ H x y v u Q I rx ry ⟨_, _, str_of rd, str_of re, by omega, fin q hH (.str _)⟩
    · cases h
  · split at h
    · rename_i hl
      cases h
      obtain ⟨a, xs, rfl, h1, h2⟩ := tup_of rd
      obtain ⟨b, ys, rfl, h3, h4⟩ := tup_of re
      have l1 := h2.length
      have l2 := h4.length
      refine op_catF pins s σ H _ _ v u Q I rx ry ⟨a, b, xs, ys, rfl, rfl, h1.sq, h3.sq, by omega, fun hx => ?_, fun hx hy => ?_, fun hx hy p o hp ho => tup_aft q (Ext.refl _ _) hp ho hH (h2.append h4)⟩
      · subst hx
        cases h2
        exact fin q hH (.tup h3 h4)
      · subst hy
        cases h4
        rw [List.append_nil] at q
        exact fin q hH (.tup h1 h2)
    · cases h
  · split at h
    · rename_i xs ys e1 e2
      split at h
      · cases h
        obtain ⟨a, xs, rfl, h1, h2⟩ := list_of hH rd e1
        obtain ⟨b, ys, rfl, h3, h4⟩ := list_of hH re e2
        have l1 := h2.length
        have l2 := h4.length
        exact op_catL pins s σ H _ _ v u Q I rx ry ⟨a, b, xs, ys, rfl, rfl, h1, h3, by omega, fun p hp => fz_aft q (Ext.refl _ _) hp hH (h2.append h4)⟩
      · cases h
    · cases h
end
/-! ## comparisons -/
def scalD : PyData → PyData → Bool
  | .none, .none => true | .none, .int _ => true | .int _, .none => true | .none, .bool _ => true | .bool _, .none => true | .none, .str _ => true | .str _, .none => true
  | .int _, .int _ => true | .bool _, .bool _ => true | .str _, .str _ => true
  | .int _, .str _ => true | .str _, .int _ => true | .bool _, .str _ => true | .str _, .bool _ => true
  | _, _ => false
def eqD (a b : D) (S : Sto) : Option Bool := match dataOf a S, dataOf b S with
  | some x, some y => if scalD x y || (SeqAt.shaped x && SeqAt.shaped y) then some (PyData.eqv x y) else none
  | _, _ => none
def gEq : D → D → Sto → Rs D := fun a b S => match eqD a b S with
  | some k => ok (.bool k) S
  | none => none
def gNe : D → D → Sto → Rs D := fun a b S => match eqD a b S with
  | some k => ok (.bool (!k)) S
  | none => none
def gLt : D → D → Sto → Rs D := fun a b S => match a, b with
  | .p (.int i), .p (.int j) => ok (.bool (decide (i < j))) S
  | .p (.str i), .p (.str j) => ok (.bool (decide (i.cps.toList < j.cps.toList))) S
  | _, _ => none
def gLe : D → D → Sto → Rs D := fun a b S => match a, b with
  | .p (.int i), .p (.int j) => ok (.bool (decide (i ≤ j))) S
  | _, _ => none
def gGt : D → D → Sto → Rs D := fun a b S => match a, b with
  | .p (.int i), .p (.int j) => ok (.bool (decide (j < i))) S
  | _, _ => none
def gGe : D → D → Sto → Rs D := fun a b S => match a, b with
  | .p (.int i), .p (.int j) => ok (.bool (decide (j ≤ i))) S
  | _, _ => none
def inD (a b : D) (S : Sto) : Option Bool := match dataOf a S, dataOf b S with
  | some (.str x), some (.str z) => (match x.cps.toList with
    | [c] => some (decide (c ∈ z.cps.toList))
    | _ => none)
  | some x, some (.list ys) => if SeqAt.shaped x && SeqAt.shaped (.list ys) then some (ys.any fun z => PyData.eqv z x) else none
  | some x, some (.tuple ys) => if SeqAt.shaped x && SeqAt.shaped (.tuple ys) then some (ys.any fun z => PyData.eqv z x) else none
  | _, _ => none
def gIn : D → D → Sto → Rs D := fun a b S => match inD a b S with
  | some k => ok (.bool k) S
  | none => none
def gNotIn : D → D → Sto → Rs D := fun a b S => match inD a b S with
  | some k => ok (.bool (!k)) S
  | none => none
def isD (a b : D) : Option Bool := match a, b with
  | .p (.bool x), .p (.bool y) => some (decide (x = y))
  | .p x, .p .none => (match x with
    | .none => some true
    | _ => some false)
  | .r _, .p .none => some false
  | _, _ => none
def gIs : D → D → Sto → Rs D := fun a b S => match isD a b with
  | some k => ok (.bool k) S
  | none => none
def gIsNot : D → D → Sto → Rs D := fun a b S => match isD a b with
  | some k => ok (.bool (!k)) S
  | none => none
section
variable {X : Cx}
theorem eqv_scal {K : Fg} {H : Hp} {x y : V} {d e : PyData} (h : scalD d e = true) (hx : Dp K H x d) (hy : Dp K H y e) : scal x y = true ∧ decide (x = y) = PyData.eqv d e := by
  unfold scalD at h
  split at h <;> first | (cases h; done) | (cases hx; cases hy; refine ⟨rfl, ?_⟩; simp [PyData.eqv]; done) | (cases hx; cases hy; refine ⟨rfl, ?_⟩; simp only [PyData.eqv]; first | exact dec_int | exact dec_bl | exact dec_str)
theorem eq_road (hu : X.A.units + 64 < cLine) {a b : D} {S : Sto} {k : Bool} {pins : List (Addr × Obj)} {s : Shared} {σ : L2.St} {H : Hp} {ι : List Addr} {x y : V} {v u : Value} {Q : VK} (I : Inv X pins σ H s) (rx : RelV x v) (ry : RelV y u) (hH : HR X.K H ι S) (rd : RD X.K H ι x a) (re : RD X.K H ι y b)
    (h : eqD a b S = some k) : (Q (.bl k) H → wpAny (model X.prog X.w) X.A (compareOp .Eq v u) (EP X pins σ Q) X.xe s) ∧ (Q (.bl (!k)) H → wpAny (model X.prog X.w) X.A (compareOp .NotEq v u) (EP X pins σ Q) X.xe s) := by
  unfold eqD at h
  split at h
  · rename_i d e e1 e2
    have hd := data_of hH rd e1
    have he := data_of hH re e2
    split at h
    · rename_i hs
      cases h
      rcases Bool.or_eq_true_iff.mp hs with hs | hs
      · obtain ⟨h1, h2⟩ := eqv_scal hs hd he
        rw [← h2]
        exact ⟨fun q => op_eq pins s σ H x y v u Q I rx ry ⟨h1, q⟩, fun q => op_ne pins s σ H x y v u Q I rx ry ⟨h1, q⟩⟩
      · obtain ⟨h1, h2⟩ := Bool.and_eq_true_iff.mp hs
        exact ⟨fun q => op_eqD hu pins s σ H x y v u Q I rx ry ⟨_, _, hd, he, h1, h2, q⟩, fun q => op_neD hu pins s σ H x y v u Q I rx ry ⟨_, _, hd, he, h1, h2, q⟩⟩
    · cases h
  · cases h
theorem o_eq (hu : X.A.units + 64 < cLine) : OpR X (compareOp .Eq) (r2 X.K gEq) := fun pins s σ H x y v u Q I rx ry ⟨ι, S, d, e, z, S', hH, rd, re, h, q⟩ => by
  unfold gEq ok at h
  split at h
  · rename_i k hk
    cases h
    exact (eq_road hu I rx ry hH rd re hk).1 (fin q hH (.bl _))
  · cases h
theorem o_ne (hu : X.A.units + 64 < cLine) : OpR X (compareOp .NotEq) (r2 X.K gNe) := fun pins s σ H x y v u Q I rx ry ⟨ι, S, d, e, z, S', hH, rd, re, h, q⟩ => by
  unfold gNe ok at h
  split at h
  · rename_i k hk
    cases h
    exact (eq_road hu I rx ry hH rd re hk).2 (fin q hH (.bl _))
  · cases h
theorem o_lt : OpR X (compareOp .Lt) (r2 X.K gLt) := fun pins s σ H x y v u Q I rx ry ⟨ι, S, d, e, z, S', hH, rd, re, h, q⟩ => by
  unfold gLt ok at h
  split at h
  · cases h; exact op_lt pins s σ H x y v u Q I rx ry ⟨_, _, int_of rd, int_of re, fin q hH (.bl _)⟩
  · cases h; exact op_lt_str pins s σ H x y v u Q I rx ry ⟨_, _, str_of rd, str_of re, fin q hH (.bl _)⟩
  · cases h
theorem o_le : OpR X (compareOp .LtE) (r2 X.K gLe) := OpR.imp op_le fun x y H Q ⟨ι, S, d, e, z, S', hH, rd, re, h, q⟩ => by
  unfold gLe ok at h
  split at h
  · cases h; exact ⟨_, _, int_of rd, int_of re, fin q hH (.bl _)⟩
  · cases h
theorem o_gt : OpR X (compareOp .Gt) (r2 X.K gGt) := OpR.imp op_gt fun x y H Q ⟨ι, S, d, e, z, S', hH, rd, re, h, q⟩ => by
  unfold gGt ok at h
  split at h
  · cases h; exact ⟨_, _, int_of rd, int_of re, fin q hH (.bl _)⟩
  · cases h
theorem o_ge : OpR X (compareOp .GtE) (r2 X.K gGe) := OpR.imp op_ge fun x y H Q ⟨ι, S, d, e, z, S', hH, rd, re, h, q⟩ => by
  unfold gGe ok at h
  split at h
  · cases h; exact ⟨_, _, int_of rd, int_of re, fin q hH (.bl _)⟩
  · cases h
theorem in_road (hu : X.A.units + 65 < cLine) {a b : D} {S : Sto} {k : Bool} {pins : List (Addr × Obj)} {s : Shared} {σ : L2.St} {H : Hp} {ι : List Addr} {x y : V} {v u : Value} {Q : VK} (I : Inv X pins σ H s) (rx : RelV x v) (ry : RelV y u) (hH : HR X.K H ι S) (rd : RD X.K H ι x a) (re : RD X.K H ι y b)
    (h : inD a b S = some k) : (Q (.bl k) H → wpAny (model X.prog X.w) X.A (compareOp .In v u) (EP X pins σ Q) X.xe s) ∧ (Q (.bl (!k)) H → wpAny (model X.prog X.w) X.A (compareOp .NotIn v u) (EP X pins σ Q) X.xe s) := by
  unfold inD at h
  split at h
  · rename_i c z e1 e2
    have hd := data_of hH rd e1
    have he := data_of hH re e2
    cases hd
    cases he
    split at h
    · rename_i c' hc
      cases h
      have ec : c = ⟨#[c']⟩ := by
        cases c with
        | mk cs =>
          have : cs = #[c'] := by rw [← Array.toArray_toList (xs := cs), hc]
          rw [this]
      subst ec
      exact ⟨fun q => op_in_sign pins s σ H _ _ v u Q I rx ry ⟨c', _, rfl, rfl, q⟩, fun q => op_notIn_sign pins s σ H _ _ v u Q I rx ry ⟨c', _, rfl, rfl, q⟩⟩
    · cases h
  · rename_i d ys _ e1 e2
    have hd := data_of hH rd e1
    have he := data_of hH re e2
    split at h
    · rename_i hs
      cases h
      obtain ⟨h1, h2⟩ := Bool.and_eq_true_iff.mp hs
      exact ⟨fun q => op_inD hu pins s σ H x y v u Q I rx ry ⟨_, _, hd, he, h1, h2, q⟩, fun q => op_notInD hu pins s σ H x y v u Q I rx ry ⟨_, _, hd, he, h1, h2, q⟩⟩
    · cases h
  · rename_i d ys e1 e2
    have hd := data_of hH rd e1
    have he := data_of hH re e2
    split at h
    · rename_i hs
      cases h
      obtain ⟨h1, h2⟩ := Bool.and_eq_true_iff.mp hs
      obtain ⟨as, r1⟩ := Dp.reads I _ x v hd rx
      obtain ⟨bs, r2⟩ := Dp.reads I _ y u he ry
      have h2' : PyData.canLayAll0 ys = true := SeqAt.canLay_of_shaped h2
      exact ⟨fun q => SeqAt.in_tuple_reads r2 r1 h2' (SeqAt.canLay_of_shaped h1) (PyProof.Rows.room_in_shaped h1 hu) ⟨.bl _, H, I, rfl, q⟩, fun q => SeqAt.notIn_tuple_reads r2 r1 h2' (SeqAt.canLay_of_shaped h1) (PyProof.Rows.room_in_shaped h1 hu) ⟨.bl _, H, I, rfl, q⟩⟩
    · cases h
  · cases h
theorem o_in (hu : X.A.units + 65 < cLine) : OpR X (compareOp .In) (r2 X.K gIn) := fun pins s σ H x y v u Q I rx ry ⟨ι, S, d, e, z, S', hH, rd, re, h, q⟩ => by
  unfold gIn ok at h
  split at h
  · rename_i k hk
    cases h
    exact (in_road hu I rx ry hH rd re hk).1 (fin q hH (.bl _))
  · cases h
theorem o_notIn (hu : X.A.units + 65 < cLine) : OpR X (compareOp .NotIn) (r2 X.K gNotIn) := fun pins s σ H x y v u Q I rx ry ⟨ι, S, d, e, z, S', hH, rd, re, h, q⟩ => by
  unfold gNotIn ok at h
  split at h
  · rename_i k hk
    cases h
    exact (in_road hu I rx ry hH rd re hk).2 (fin q hH (.bl _))
  · cases h
theorem is_road {a b : D} {S : Sto} {k : Bool} {pins : List (Addr × Obj)} {s : Shared} {σ : L2.St} {H : Hp} {ι : List Addr} {x y : V} {v u : Value} {Q : VK} (I : Inv X pins σ H s) (rx : RelV x v) (ry : RelV y u) (hH : HR X.K H ι S) (rd : RD X.K H ι x a) (re : RD X.K H ι y b)
    (h : isD a b = some k) : (Q (.bl k) H → wpAny (model X.prog X.w) X.A (compareOp .Is v u) (EP X pins σ Q) X.xe s) ∧ (Q (.bl (!k)) H → wpAny (model X.prog X.w) X.A (compareOp .IsNot v u) (EP X pins σ Q) X.xe s) := by
  unfold isD at h
  split at h
  · cases h
    exact ⟨fun q => op_isBl pins s σ H x y v u Q I rx ry ⟨_, _, bl_of rd, bl_of re, q⟩, fun q => op_notBl pins s σ H x y v u Q I rx ry ⟨_, _, bl_of rd, bl_of re, q⟩⟩
  · rename_i d
    have hy : y = .non := by cases re; rfl
    have hk : k = decide (x = .non) := by
      split at h
      · cases h
        have : x = .non := by cases rd; rfl
        subst this; rfl
      · rename_i hn
        cases h
        refine (decide_eq_false fun hx => ?_).symm
        subst hx
        cases rd
        exact hn rfl
    subst hk
    exact ⟨fun q => op_isN pins s σ H x y v u Q I rx ry ⟨hy, q⟩, fun q => op_notN pins s σ H x y v u Q I rx ry ⟨hy, q⟩⟩
  · rename_i n
    have hy : y = .non := by cases re; rfl
    cases h
    obtain ⟨a, _, rfl⟩ := rd
    exact ⟨fun q => op_isN pins s σ H _ y v u Q I rx ry ⟨hy, q⟩, fun q => op_notN pins s σ H _ y v u Q I rx ry ⟨hy, q⟩⟩
  · cases h
theorem o_is : OpR X (compareOp .Is) (r2 X.K gIs) := fun pins s σ H x y v u Q I rx ry ⟨ι, S, d, e, z, S', hH, rd, re, h, q⟩ => by
  unfold gIs ok at h
  split at h
  · rename_i k hk
    cases h
    exact (is_road I rx ry hH rd re hk).1 (fin q hH (.bl _))
  · cases h
theorem o_isNot : OpR X (compareOp .IsNot) (r2 X.K gIsNot) := fun pins s σ H x y v u Q I rx ry ⟨ι, S, d, e, z, S', hH, rd, re, h, q⟩ => by
  unfold gIsNot ok at h
  split at h
  · rename_i k hk
    cases h
    exact (is_road I rx ry hH rd re hk).2 (fin q hH (.bl _))
  · cases h
end
end Tm
namespace Tm
open PySem L2

/-! ## built-in calls -/
def gLen : List D → Sto → Rs D := fun ds S => match ds with
  | [d] => (match dataOf d S with
    | some (.list xs) => ok (.int xs.length) S
    | some (.tuple xs) => ok (.int xs.length) S
    | some (.str x) => if x.length ≤ Lim then ok (.int x.length) S else none
    | _ => none)
  | _ => none
def gMax : List D → Sto → Rs D := fun ds S => match ds with
  | [.p (.int i), .p (.int j)] => ok (.int (if j > i then j else i)) S
  | _ => none
def gMin : List D → Sto → Rs D := fun ds S => match ds with
  | [.p (.int i), .p (.int j)] => ok (.int (if j < i then j else i)) S
  | _ => none
def gInt : List D → Sto → Rs D := fun ds S => match ds with
  | [.p (.int i)] => ok (.int i) S
  | [.p (.bool b)] => ok (.int (if b then 1 else 0)) S
  | _ => none
def boolsD : List PyData → Option (List Bool)
  | [] => some []
  | .bool b :: r => (match boolsD r with
    | some bs => some (b :: bs)
    | none => none)
  | _ :: _ => none
def intsD : List PyData → Option (List Int)
  | [] => some []
  | .int b :: r => (match intsD r with
    | some bs => some (b :: bs)
    | none => none)
  | _ :: _ => none
def strsD : List PyData → Option (List Str)
  | [] => some []
  | .str b :: r => (match strsD r with
    | some bs => some (b :: bs)
    | none => none)
  | _ :: _ => none
theorem bools_eq : ∀ {xs : List PyData} {bs : List Bool}, boolsD xs = some bs → xs = bs.map .bool
  | [], _, h => by cases h; rfl
  | .bool b :: r, bs, h => by
    unfold boolsD at h
    split at h
    · rename_i e; cases h; rw [bools_eq e]; rfl
    · cases h
  | .none :: _, _, h | .int _ :: _, _, h | .str _ :: _, _, h | .list _ :: _, _, h | .tuple _ :: _, _, h | .dict _ :: _, _, h => by cases h
theorem ints_eq : ∀ {xs : List PyData} {bs : List Int}, intsD xs = some bs → xs = bs.map .int
  | [], _, h => by cases h; rfl
  | .int b :: r, bs, h => by
    unfold intsD at h
    split at h
    · rename_i e; cases h; rw [ints_eq e]; rfl
    · cases h
  | .none :: _, _, h | .bool _ :: _, _, h | .str _ :: _, _, h | .list _ :: _, _, h | .tuple _ :: _, _, h | .dict _ :: _, _, h => by cases h
theorem strs_eq : ∀ {xs : List PyData} {bs : List Str}, strsD xs = some bs → xs = bs.map .str
  | [], _, h => by cases h; rfl
  | .str b :: r, bs, h => by
    unfold strsD at h
    split at h
    · rename_i e; cases h; rw [strs_eq e]; rfl
    · cases h
  | .none :: _, _, h | .bool _ :: _, _, h | .int _ :: _, _, h | .list _ :: _, _, h | .tuple _ :: _, _, h | .dict _ :: _, _, h => by cases h
theorem rpA_bools {K : Fg} {H : Hp} : ∀ {vs : List V} {bs : List Bool}, RpA K H vs (bs.map .bool) → vs = bs.map V.bl
  | _, [], h => by cases h; rfl
  | _, b :: bs, h => by
    cases h with
    | cons h1 h2 => cases h1; rw [rpA_bools h2]; rfl
theorem rpA_ints {K : Fg} {H : Hp} : ∀ {vs : List V} {bs : List Int}, RpA K H vs (bs.map .int) → vs = bs.map V.int
  | _, [], h => by cases h; rfl
  | _, b :: bs, h => by
    cases h with
    | cons h1 h2 => cases h1; rw [rpA_ints h2]; rfl
theorem rpA_strs {K : Fg} {H : Hp} : ∀ {vs : List V} {bs : List Str}, RpA K H vs (bs.map .str) → vs = bs.map V.str
  | _, [], h => by cases h; rfl
  | _, b :: bs, h => by
    cases h with
    | cons h1 h2 => cases h1; rw [rpA_strs h2]; rfl
def gAll : List D → Sto → Rs D := fun ds S => match ds with
  | [d] => (match listOf d S with
    | some xs => (match boolsD xs with
      | some bs => ok (.bool (bs.all id)) S
      | none => none)
    | none => none)
  | _ => none
def gAny : List D → Sto → Rs D := fun ds S => match ds with
  | [d] => (match listOf d S with
    | some xs => (match boolsD xs with
      | some bs => ok (.bool (bs.any id)) S
      | none => none)
    | none => none)
  | _ => none
def gSum : List D → Sto → Rs D := fun ds S => match ds with
  | [d] => (match listOf d S with
    | some xs => (match intsD xs with
      | some bs => ok (.int bs.sum) S
      | none => none)
    | none => none)
  | _ => none
/-- tuple(x) -/
def gTupleOf : List D → Sto → Rs D := fun ds S => match ds with
  | [.p (.tuple xs)] => ok (.tuple xs) S
  | [d] => (match listOf d S with
    | some xs => ok (.tuple xs) S
    | none => none)
  | _ => none
/-- list(x), laid for good -/
def gListOf : List D → Sto → Rs D := fun ds S => match ds with
  | [d] => (match itemsOf d S with
    | some xs => ok (.list xs) S
    | none => none)
  | _ => none
/-- list(x), of the store -/
def gListOfM : List D → Sto → Rs D := fun ds S => match ds with
  | [d] => (match itemsOf d S with
    | some xs => some (.r S.length, S ++ [.lst xs])
    | none => none)
  | _ => none
/-- sorted -/
def allAlike (xs : List PyData) : Bool := xs.all fun x => xs.all fun y => PySem.W.alike x y
def isTup1 : PyData → Bool
  | .tuple (_ :: _) => true
  | _ => false
def noTup : PyData → Bool
  | .tuple _ => false
  | .none => false
  | _ => true
def sortable (xs : List PyData) : Bool := allAlike xs && (xs.all isTup1 || xs.all noTup) && xs.all fun x => decide (x.depth ≤ 64)
def sortD (xs : List PyData) : List PyData := xs.mergeSort (PySem.W.dataLe false id)
def gSorted : List D → Sto → Rs D := fun ds S => match ds with
  | [d] => (match listOf d S with
    | some xs => if sortable xs then ok (.list (sortD xs)) S else none
    | none => none)
  | _ => none
def gSortedM : List D → Sto → Rs D := fun ds S => match ds with
  | [d] => (match listOf d S with
    | some xs => if sortable xs then some (.r S.length, S ++ [.lst (sortD xs)]) else none
    | none => none)
  | _ => none
def gRepr : List D → Sto → Rs D := fun ds S => match ds with
  | [d] => (match dataOf d S with
    | some x => if x.showable && decide (x.shown.length ≤ Lim) && decide (x.depth ≤ 64) then ok (.str x.shown) S else none
    | none => none)
  | _ => none
/-- min(t), max(t) of a tuple of whole numbers -/
def gMin1 : List D → Sto → Rs D := fun ds S => match ds with
  | [.p (.tuple xs)] => (match intsD xs with
    | some (n :: ns) => ok (.int (ns.foldl min n)) S
    | _ => none)
  | _ => none
def gMax1 : List D → Sto → Rs D := fun ds S => match ds with
  | [.p (.tuple xs)] => (match intsD xs with
    | some (n :: ns) => ok (.int (ns.foldl max n)) S
    | _ => none)
  | _ => none
theorem RDs.one {K : Fg} {H : Hp} {ι : List Addr} {vs : List V} {d : D} (h : RDs K H ι vs [d]) : ∃ v, vs = [v] ∧ RD K H ι v d := by
  match vs, h with
  | [v], ⟨h, _⟩ => exact ⟨v, rfl, h⟩
  | [], h => exact h.elim
  | _ :: _ :: _, ⟨_, h⟩ => exact h.elim
theorem RDs.two {K : Fg} {H : Hp} {ι : List Addr} {vs : List V} {d e : D} (h : RDs K H ι vs [d, e]) : ∃ v w, vs = [v, w] ∧ RD K H ι v d ∧ RD K H ι w e := by
  match vs, h with
  | [v, w], ⟨h, h', _⟩ => exact ⟨v, w, rfl, h, h'⟩
  | [], h => exact h.elim
  | [_], ⟨_, h⟩ => exact h.elim
  | _ :: _ :: _ :: _, ⟨_, _, h⟩ => exact h.elim
theorem CallR.imp {X : Cx} {f : Value} {r u : List V → Hp → VK → Prop} (h : CallR X f r) (i : ∀ vs H Q, u vs H Q → r vs H Q) : CallR X f u := fun pins s σ H vs us Q I rv q => h pins s σ H vs us Q I rv (i vs H Q q)
theorem dpAll_len {K : Fg} {H : Hp} : ∀ {vs : List V} {ds : List PyData}, DpAll K H vs ds → vs.length = ds.length
  | _, _, .nil => rfl
  | _, _, .cons _ t => congrArg Nat.succ (dpAll_len t)
section
variable {X : Cx}
theorem c_len : CallR X (.builtin "len") (rN X.K gLen) := CallR.imp call_len fun vs H Q ⟨ι, S, ds, z, S', hH, rv, h, q⟩ => by
  have L := Lim_le
  unfold gLen ok at h
  split at h
  · rename_i d
    obtain ⟨v, rfl, rd⟩ := rv.one
    split at h
    · rename_i xs e
      cases h
      cases data_of hH rd e with
      | lst h1 h2 => exact ⟨_, xs.length, rfl, .inl ⟨_, h1, (dpAll_len h2).symm⟩, fin q hH (.int _)⟩
    · rename_i xs e
      cases h
      cases data_of hH rd e with
      | tup h1 h2 => exact ⟨_, xs.length, rfl, .inr ⟨_, h1, (dpAll_len h2).symm⟩, fin q hH (.int _)⟩
    · rename_i x e
      split at h
      · cases h
        cases data_of hH rd e
        exact ⟨_, x.length, rfl, ⟨by omega, rfl⟩, fin q hH (.int _)⟩
      · cases h
    · cases h
  · cases h
theorem c_max (hc : X.calm = true) : CallR X (.builtin "max") (rN X.K gMax) := CallR.imp (call_max2 hc) fun vs H Q ⟨ι, S, ds, z, S', hH, rv, h, q⟩ => by
  unfold gMax ok at h
  split at h
  · cases h
    obtain ⟨v, w, rfl, r1, r2⟩ := rv.two
    exact ⟨_, _, by rw [int_of r1, int_of r2], fin q hH (.int _)⟩
  · cases h
theorem c_min (hc : X.calm = true) : CallR X (.builtin "min") (rN X.K gMin) := CallR.imp (call_min2 hc) fun vs H Q ⟨ι, S, ds, z, S', hH, rv, h, q⟩ => by
  unfold gMin ok at h
  split at h
  · cases h
    obtain ⟨v, w, rfl, r1, r2⟩ := rv.two
    exact ⟨_, _, by rw [int_of r1, int_of r2], fin q hH (.int _)⟩
  · cases h
theorem c_int : CallR X (.type "int") (rN X.K gInt) := CallR.imp call_int1 fun vs H Q ⟨ι, S, ds, z, S', hH, rv, h, q⟩ => by
  unfold gInt ok at h
  split at h
  · cases h
    obtain ⟨v, rfl, r1⟩ := rv.one
    exact .inl ⟨_, by rw [int_of r1], fin q hH (.int _)⟩
  · cases h
    obtain ⟨v, rfl, r1⟩ := rv.one
    exact .inr ⟨_, by rw [bl_of r1], fin q hH (.int _)⟩
  · cases h
theorem c_all (hc : X.calm = true) : CallR X (.builtin "all") (rN X.K gAll) := CallR.imp (cr_all hc) fun vs H Q ⟨ι, S, ds, z, S', hH, rv, h, q⟩ => by
  unfold gAll ok at h
  split at h
  · obtain ⟨v, rfl, rd⟩ := rv.one
    split at h
    · rename_i xs e
      split at h
      · rename_i bs eb
        cases h
        obtain ⟨a, ys, rfl, h1, h2⟩ := list_of hH rd e
        rw [bools_eq eb] at h2
        have := rpA_bools h2
        subst this
        exact ⟨a, bs, rfl, h1.sq, fin q hH (.bl _)⟩
      · cases h
    · cases h
  · cases h
theorem c_any (hc : X.calm = true) : CallR X (.builtin "any") (rN X.K gAny) := CallR.imp (cr_any hc) fun vs H Q ⟨ι, S, ds, z, S', hH, rv, h, q⟩ => by
  unfold gAny ok at h
  split at h
  · obtain ⟨v, rfl, rd⟩ := rv.one
    split at h
    · rename_i xs e
      split at h
      · rename_i bs eb
        cases h
        obtain ⟨a, ys, rfl, h1, h2⟩ := list_of hH rd e
        rw [bools_eq eb] at h2
        have := rpA_bools h2
        subst this
        exact ⟨a, bs, rfl, h1.sq, fin q hH (.bl _)⟩
      · cases h
    · cases h
  · cases h
theorem c_tuple : CallR X (.type "tuple") (rN X.K gTupleOf) := fun pins s σ H vs us Q I rv ⟨ι, S, ds, z, S', hH, rd, h, q⟩ => by
  unfold gTupleOf ok at h
  split at h
  · cases h
    obtain ⟨v, rfl, r1⟩ := rd.one
    obtain ⟨a, xs, rfl, h1, h2⟩ := tup_of r1
    exact call_tupleT pins s σ H _ us Q I rv ⟨a, xs, rfl, h1.sq, fin q hH r1⟩
  · split at h
    · rename_i xs e
      cases h
      obtain ⟨v, rfl, r1⟩ := rd.one
      obtain ⟨a, ys, rfl, h1, h2⟩ := list_of hH r1 e
      obtain ⟨u, rfl, rx⟩ := vals1 rv
      cases rx
      obtain ⟨its, r', pl, hz⟩ := I.list h1.sq
      have hlen := r'.length
      refine call_tuple_list pl.isList (fun h' kp => ?_) (by simp only [List.size_toArray] <;> omega)
      have I1 : Inv X pins σ H { s with heap := h' } := I.kept (t' := s.toks) kp
      exact new_tup (tk := s.toks) I1 r' hz fun p o hp ho => tup_aft q (Ext.refl _ _) hp ho hH h2
    · cases h
  · cases h
theorem c_list : CallR X (.type "list") (rN X.K gListOf) := fun pins s σ H vs us Q I rv ⟨ι, S, ds, z, S', hH, rd, h, q⟩ => by
  unfold gListOf ok at h
  split at h
  · split at h
    · rename_i xs e
      cases h
      obtain ⟨v, rfl, r1⟩ := rd.one
      obtain ⟨a, ys, rfl, h1, h2⟩ := items_of hH r1 e
      exact thn (call_list_of pins s σ H _ us (fzQ Q) I rv ⟨a, ys, rfl, h1.symm, fun p hp => fz_aft q (Ext.refl _ _) hp hH h2⟩) fun _ _ z => EP.freeze z
    · cases h
  · cases h
theorem c_listM : CallR X (.type "list") (rN X.K gListOfM) := fun pins s σ H vs us Q I rv ⟨ι, S, ds, z, S', hH, rd, h, q⟩ => by
  unfold gListOfM at h
  split at h
  · split at h
    · rename_i xs e
      cases h
      obtain ⟨v, rfl, r1⟩ := rd.one
      obtain ⟨a, ys, rfl, h1, h2⟩ := items_of hH r1 e
      exact call_list_of pins s σ H _ us Q I rv ⟨a, ys, rfl, h1.symm, fun p hp => mk_aft q (Ext.refl _ _) hp hH h2⟩
    · cases h
  · cases h
theorem c_sum (hc : X.calm = true) : CallR X (.builtin "sum") (rN X.K gSum) := CallR.imp (cr_sum hc) fun vs H Q ⟨ι, S, ds, z, S', hH, rv, h, q⟩ => by
  unfold gSum ok at h
  split at h
  · obtain ⟨v, rfl, rd⟩ := rv.one
    split at h
    · rename_i xs e
      split at h
      · rename_i bs eb
        cases h
        obtain ⟨a, ys, rfl, h1, h2⟩ := list_of hH rd e
        rw [ints_eq eb] at h2
        have := rpA_ints h2
        subst this
        exact ⟨a, bs, rfl, h1.sq, fin q hH (.int _)⟩
      · cases h
    · cases h
  · cases h
theorem c_repr (hg : X.A.guards = some []) (hu : X.A.units + 65 < cLine) : CallR X (.builtin "repr") (rN X.K gRepr) := fun pins s σ H vs us Q I rv ⟨ι, S, ds, z, S', hH, rd, h, q⟩ => by
  have L := Lim_le
  unfold gRepr ok at h
  split at h
  · split at h
    · rename_i x e
      split at h
      · rename_i hs
        cases h
        simp only [Bool.and_eq_true, decide_eq_true_eq] at hs
        obtain ⟨⟨s1, s2⟩, s3⟩ := hs
        obtain ⟨v, rfl, r1⟩ := rd.one
        obtain ⟨u, rfl, ru⟩ := vals1 rv
        have hd := data_of hH r1 e
        obtain ⟨as, hr⟩ := Dp.reads I x v u hd ru
        have qq : ∀ t s', Inv X pins σ H s' → EP X pins σ Q (.str x.shown t) s' := fun t s' I' => ⟨.str x.shown, H, I', ⟨t, rfl⟩, fin q hH (.str _)⟩
        have nd : x.hasDict = false := by
          clear q qq e hr s1 s2 s3 r1
          have key : (∀ (d : PyData) (v : V), Dp X.K H v d → d.hasDict = false) := by
            intro d
            refine PyData.rec (motive_1 := fun d => ∀ v, Dp X.K H v d → d.hasDict = false) (motive_2 := fun ds => ∀ vs, DpAll X.K H vs ds → PyData.hasDictAll ds = false) (motive_3 := fun _ => True) (motive_4 := fun _ => True)
              ?_ ?_ ?_ ?_ ?_ ?_ ?_ ?_ ?_ ?_ ?_ ?_ d
            · intro v h; simp [PyData.hasDict]
            · intro b v h; simp [PyData.hasDict]
            · intro i v h; simp [PyData.hasDict]
            · intro i v h; simp [PyData.hasDict]
            · intro xs ih v h
              cases h with
              | lst h1 h2 => simpa [PyData.hasDict] using ih _ h2
            · intro xs ih v h
              cases h with
              | tup h1 h2 => simpa [PyData.hasDict] using ih _ h2
            · intro kvs _ v h; cases h
            · intro vs h; simp [PyData.hasDictAll]
            · intro d ds ih1 ih2 vs h
              cases h with
              | cons h1 h2 => simp [PyData.hasDictAll, ih1 _ h1, ih2 _ h2]
            · trivial
            · intros; trivial
            · intros; trivial
          exact key x v hd
        cases hd with
        | non => cases ru; exact P.repr_of_none (qq _ _ (I.tok _))
        | bl b =>
          cases ru
          have : (PyData.bool b).shown = (if b then "True" else "False" : Str) := by simp [PyData.shown]
          rw [this] at qq
          exact P.repr_of_bool (qq _ _ (I.tok _))
        | int i =>
          obtain ⟨t, rfl⟩ := ru
          have : (PyData.int i).shown = (toString i : Str) := by simp [PyData.shown]
          rw [this] at qq
          exact P.repr_of_int (by simpa [PyData.showable] using s1) (qq _ _ (I.tok _))
        | str y =>
          obtain ⟨t, rfl⟩ := ru
          have e2 : (PyData.str y).shown = reprText y := by simp [PyData.shown]
          rw [e2] at qq s2
          exact P.repr_of_str (qq _ _ (I.tok _)) (by omega)
        | lst h1 h2 =>
          cases ru
          exact repr_of_reads' hr s1 (PyData.noDict_hsm nd) hg (by omega) (fun _ _ e => e) (fun h' u tk hk => qq u _ (I.kept hk)) (by omega)
        | tup h1 h2 =>
          cases ru
          exact repr_of_reads' hr s1 (PyData.noDict_hsm nd) hg (by omega) (fun _ _ e => e) (fun h' u tk hk => qq u _ (I.kept hk)) (by omega)
      · cases h
    · cases h
  · cases h
end
end Tm
namespace Tm
open PySem L2

/-! ## sorted, min, max, isinstance -/
theorem alike_of {xs : List PyData} (h : allAlike xs = true) : PySem.W.AllAlike xs := fun d hd d' hd' => by
  unfold allAlike at h
  exact List.all_eq_true.mp (List.all_eq_true.mp h d hd) d' hd'
theorem sortable_of {xs : List PyData} (h : sortable xs = true) : PySem.W.AllAlike xs ∧ PySem.W.Sortable xs ∧ ∀ x ∈ xs, x.depth ≤ 64 := by
  unfold sortable at h
  simp only [Bool.and_eq_true, Bool.or_eq_true, List.all_eq_true, decide_eq_true_eq] at h
  obtain ⟨⟨h1, h2⟩, h3⟩ := h
  refine ⟨alike_of h1, ?_, h3⟩
  rcases h2 with h2 | h2
  · refine .inl fun d hd => ?_
    have := h2 d hd
    unfold isTup1 at this
    split at this
    · exact ⟨_, _, rfl⟩
    · cases this
  · refine .inr fun d hd => ?_
    have := h2 d hd
    unfold noTup at this
    refine ⟨fun e => ?_, fun ys e => ?_⟩
    · subst e; cases this
    · subst e; cases this
/-- values beside their data -/
def RelD (K : Fg) (H : Hp) (u : Value) (d : PyData) : Prop := ∃ v, RelV v u ∧ Rp K H v d
theorem each_of {K : Fg} {H : Hp} : ∀ {vs : List V} {us : List Value} {ds : List PyData}, Vals vs us → RpA K H vs ds → PySem.W.EachIs (RelD K H) us ds
  | _, _, _, .nil, .nil => .nil
  | _, _, _, .cons r t, .cons q s => .cons ⟨_, r, q⟩ (each_of t s)
theorem of_each {K : Fg} {H : Hp} : ∀ {us : List Value} {ds : List PyData}, PySem.W.EachIs (RelD K H) us ds → ∃ vs, Vals vs us ∧ RpA K H vs ds
  | _, _, .nil => ⟨[], .nil, .nil⟩
  | _, _, .cons ⟨v, r, q⟩ t => let ⟨vs, a, b⟩ := of_each t; ⟨v :: vs, .cons r a, .cons q b⟩
theorem each_mono {α β : Type} {R R' : α → β → Prop} (f : ∀ a b, R a b → R' a b) : ∀ {as : List α} {bs : List β}, PySem.W.EachIs R as bs → PySem.W.EachIs R' as bs
  | _, _, .nil => .nil
  | _, _, .cons r t => .cons (f _ _ r) (each_mono f t)
section
variable {X : Cx}
theorem sorted_road (hu : X.A.units + 70 < cLine) {pins : List (Addr × Obj)} {s : Shared} {σ : L2.St} {H : Hp} {Q : VK} {a : Addr} {ys : List V} {xs : List PyData} (I : Inv X pins σ H s) (h1 : LstR X.K H a ys) (h2 : RpA X.K H ys xs) (hs : sortable xs = true)
    (q : ∀ p zs, H p = none → RpA X.K H zs (sortD xs) → Q (.ref p) (upd H p (.lst zs))) : wpAny (model X.prog X.w) X.A (call (.builtin "sorted") [.ref a]) (EP X pins σ Q) X.xe s := by
  obtain ⟨al, so, dp⟩ := sortable_of hs
  obtain ⟨its, n, r, e, hz⟩ := h1.obj I
  have ev := each_of r h2
  have hm : xs.map id = xs := List.map_id xs
  have hlx : xs.length = its.length := by rw [← h2.length, r.length]
  have hn0 : H (s.heap.objs.size + 1) = none := I.hok.fresh (Nat.le_succ _)
  have er : PySem.W.EachIs (fun v b => ∃ as, Reads s.heap v (id b) as) its xs := each_mono (fun u d ⟨v, rv, rd⟩ => Dp.reads I d v u (Rp.dp _ _ rd) rv) ev
  refine PySem.W.sorted_data (enc := id) (bs := xs) (R := RelD X.K H) ⟨_, e, rfl, n, rfl⟩ ev er (by rw [hm]; exact al) (by rw [hm]; exact so) (by rw [← h2.length]; exact hz) (fun b hb => by have := dp b hb; show X.A.units + 2 + b.depth < cLine; omega) ?_
  intro out hl ho
  obtain ⟨zs, z1, z2⟩ := of_each ho
  have hlz : zs.length ≤ sizeLine := by rw [z1.length, hl, ← h2.length]; exact hz
  refine ⟨.ref (s.heap.objs.size + 1), upd H (s.heap.objs.size + 1) (.lst zs), ?_, rfl, q _ zs hn0 z2⟩
  obtain ⟨c, hc⟩ := PyProof.Rows.sortedAll_at s.heap its out.toArray
  exact I.laid (t' := s.toks) (fun b u eb => PyProof.Rows.sortedAll_old eb) (Nat.le_succ _) ⟨hlz, out, c, z1, hc⟩
theorem c_sorted (hu : X.A.units + 70 < cLine) : CallR X (.builtin "sorted") (rN X.K gSorted) := fun pins s σ H vs us Q I rv ⟨ι, S, ds, z, S', hH, rd, h, q⟩ => by
  unfold gSorted ok at h
  split at h
  · split at h
    · rename_i xs e
      split at h
      · rename_i hs
        cases h
        obtain ⟨v, rfl, r1⟩ := rd.one
        obtain ⟨a, ys, rfl, h1, h2⟩ := list_of hH r1 e
        obtain ⟨u, rfl, ru⟩ := vals1 rv
        cases ru
        exact thn (sorted_road (Q := fzQ Q) hu I h1 h2 hs fun p zs hp hr => fz_aft q (Ext.refl _ _) hp hH hr) fun _ _ z => EP.freeze z
      · cases h
    · cases h
  · cases h
theorem c_sortedM (hu : X.A.units + 70 < cLine) : CallR X (.builtin "sorted") (rN X.K gSortedM) := fun pins s σ H vs us Q I rv ⟨ι, S, ds, z, S', hH, rd, h, q⟩ => by
  unfold gSortedM at h
  split at h
  · split at h
    · rename_i xs e
      split at h
      · rename_i hs
        cases h
        obtain ⟨v, rfl, r1⟩ := rd.one
        obtain ⟨a, ys, rfl, h1, h2⟩ := list_of hH r1 e
        obtain ⟨u, rfl, ru⟩ := vals1 rv
        cases ru
        exact sorted_road hu I h1 h2 hs fun p zs hp hr => mk_aft q (Ext.refl _ _) hp hH hr
      · cases h
    · cases h
  · cases h
theorem alike_ints2 (ns : List Int) : (∀ x ∈ ns.map PyData.int, ∀ y ∈ ns.map PyData.int, PySem.W.alike x y = true) ∧ ∀ x ∈ ns.map PyData.int, x ≠ .none := by
  refine ⟨fun x hx y hy => ?_, fun x hx => ?_⟩
  · obtain ⟨a, _, rfl⟩ := List.mem_map.mp hx
    obtain ⟨b, _, rfl⟩ := List.mem_map.mp hy
    simp [PySem.W.alike]
  · obtain ⟨a, _, rfl⟩ := List.mem_map.mp hx
    exact fun z => by cases z
theorem c_min1 (hc : X.calm = true) (hu : X.A.units + 65 < cLine) : CallR X (.builtin "min") (rN X.K gMin1) := fun pins s σ H vs us Q I rv ⟨ι, S, ds, z, S', hH, rd, h, q⟩ => by
  unfold gMin1 ok at h
  split at h
  · split at h
    · rename_i n ns e
      cases h
      obtain ⟨v, rfl, r1⟩ := rd.one
      obtain ⟨a, ys, rfl, h1, h2⟩ := tup_of r1
      obtain ⟨u, rfl, ru⟩ := vals1 rv
      cases ru
      rw [ints_eq e] at h2
      obtain ⟨its, r', pl, hz⟩ := I.tuple h1.sq
      obtain ⟨as, hr⟩ := Dp.readsAll I _ ys its (RpA.dp _ _ h2) r'
      have hd : PyData.depthAll ((n :: ns).map .int) = 0 := PySem.W.depth_ints _
      refine PySem.W.min_tuple_data (x := .int n) (xs := ns.map .int) (as := as) (I.ok.hd hc) (show s.heap.IsTuple a its.toArray from pl) (by simpa using hr) (alike_ints2 (n :: ns)) (by rw [show PyData.int n :: ns.map .int = (n :: ns).map .int from rfl, hd]; omega) ?_
      intro i v h' tk bs hi hrd hk
      rw [PySem.W.minD_ints] at hrd
      cases hrd with
      | int _ t => exact ⟨.int _, H, I.kept hk, ⟨t, rfl⟩, fin q hH (.int _)⟩
    · cases h
  · cases h
theorem c_max1 (hc : X.calm = true) (hu : X.A.units + 65 < cLine) : CallR X (.builtin "max") (rN X.K gMax1) := fun pins s σ H vs us Q I rv ⟨ι, S, ds, z, S', hH, rd, h, q⟩ => by
  unfold gMax1 ok at h
  split at h
  · split at h
    · rename_i n ns e
      cases h
      obtain ⟨v, rfl, r1⟩ := rd.one
      obtain ⟨a, ys, rfl, h1, h2⟩ := tup_of r1
      obtain ⟨u, rfl, ru⟩ := vals1 rv
      cases ru
      rw [ints_eq e] at h2
      obtain ⟨its, r', pl, hz⟩ := I.tuple h1.sq
      obtain ⟨as, hr⟩ := Dp.readsAll I _ ys its (RpA.dp _ _ h2) r'
      have hd : PyData.depthAll ((n :: ns).map .int) = 0 := PySem.W.depth_ints _
      refine PySem.W.max_tuple_data (x := .int n) (xs := ns.map .int) (as := as) (I.ok.hd hc) (show s.heap.IsTuple a its.toArray from pl) (by simpa using hr) (alike_ints2 (n :: ns)) (by rw [show PyData.int n :: ns.map .int = (n :: ns).map .int from rfl, hd]; omega) ?_
      intro i v h' tk bs hi hrd hk
      rw [PySem.W.maxD_ints] at hrd
      cases hrd with
      | int _ t => exact ⟨.int _, H, I.kept hk, ⟨t, rfl⟩, fin q hH (.int _)⟩
    · cases h
  · cases h
/-! isinstance -/
def tyName : PyData → String
  | .none => "NoneType"
  | .bool _ => "bool"
  | .int _ => "int"
  | .str _ => "str"
  | .list _ => "list"
  | .tuple _ => "tuple"
  | .dict _ => "dict"
/-- what is asked, by the classes' names -/
def isaB (a T : String) : Bool := a == T || (a == "bool" && T == "int")
def isTys : List String := ["bool", "int", "str", "list", "tuple", "dict"]
theorem isa_ok : (["NoneType", "bool", "int", "str", "list", "tuple"].all fun a => isTys.all fun T => decide (kitB a T = some (isaB a T))) = true := by decide +kernel
def gIsa (T : String) : D → Sto → Rs D := fun d S => match dataOf d S with
  | some x => ok (.bool (isaB (tyName x) T)) S
  | none => none
theorem isa_kit {x : PyData} {T : String} (hT : T ∈ isTys) (hx : ∀ kvs, x ≠ .dict kvs) : kitB (tyName x) T = some (isaB (tyName x) T) := by
  have h := isa_ok
  simp only [List.all_eq_true, decide_eq_true_eq] at h
  refine h _ ?_ T hT
  cases x <;> first | simp [tyName]; done | exact absurd rfl (hx _)
theorem dp_ty {K : Fg} {H : Hp} {v : V} {x : PyData} (h : Dp K H v x) : TyX K H v (.type (tyName x)) ∧ ∀ kvs, x ≠ .dict kvs := by
  cases h with
  | non => exact ⟨.base .non, fun _ z => by cases z⟩
  | bl b => exact ⟨.base (.bl b), fun _ z => by cases z⟩
  | int b => exact ⟨.base (.int b), fun _ z => by cases z⟩
  | str b => exact ⟨.base (.str b), fun _ z => by cases z⟩
  | lst h1 h2 =>
    refine ⟨?_, fun _ z => by cases z⟩
    rcases h1 with (h1 | ⟨o, h1⟩) | ⟨o, its, n, h1, h2, _⟩
    · exact .base (.lst h1)
    · exact .base (.frz h1)
    · exact .kList h1 h2
  | tup h1 h2 =>
    refine ⟨?_, fun _ z => by cases z⟩
    rcases h1 with (h1 | ⟨o, h1⟩) | ⟨o, its, n, h1, h2, _⟩
    · exact .base (.tup h1)
    · exact .fTuple h1
    · exact .kTuple h1 h2
end
/-! a < b, tuples of ints too -/
def gLess : D → D → Sto → Rs D := fun a b S => match a, b with
  | .p (.tuple xs), .p (.tuple ys) => (match intsD xs, intsD ys with
    | some ns, some ms => ok (.bool (HT.lexLt ns ms)) S
    | _, _ => none)
  | a, b => gLt a b S
theorem o_less {X : Cx} (hu : X.A.units < cLine) : OpR X (compareOp .Lt) (r2 X.K gLess) := fun pins s σ H x y v u Q I rx ry ⟨ι, S, d, e, z, S', hH, rd, re, h, q⟩ => by
  unfold gLess ok at h
  split at h
  · split at h
    · rename_i ns ms hn hm
      cases h
      obtain ⟨a, vs, rfl, t1, t2⟩ := tup_of rd
      obtain ⟨b, ws, rfl, t3, t4⟩ := tup_of re
      rw [ints_eq hn] at t2
      rw [ints_eq hm] at t4
      have e1 := rpA_ints t2
      have e2 := rpA_ints t4
      subst e1; subst e2
      exact op_ltT hu pins s σ H _ _ v u Q I rx ry ⟨a, b, ns, ms, rfl, rfl, t1.sq, t3.sq, fin q hH (.bl _)⟩
    · cases h
  · exact o_lt pins s σ H x y v u Q I rx ry ⟨ι, S, d, e, z, S', hH, rd, re, h, q⟩
end Tm
namespace Tm
open PySem L2

/-! ## subscripts -/
def gIx : D → D → Sto → Rs D := fun a b S => match dataOf a S, b with
  | some (.list xs), .p (.int i) => (match atI xs i with
    | some d => ok d S
    | none => none)
  | some (.tuple xs), .p (.int i) => (match atI xs i with
    | some d => ok d S
    | none => none)
  | some (.str z), .p (.int i) => if z.length ≤ Lim then (match atI z.cps.toList i with
    | some c => ok (.str ⟨#[c]⟩) S
    | none => none) else none
  | _, _ => none
theorem atI_rp {K : Fg} {H : Hp} {vs : List V} {ds : List PyData} {i : Int} {d : PyData} (r : RpA K H vs ds) (h : atI ds i = some d) : ∃ v, atI vs i = some v ∧ Rp K H v d := by
  unfold atI at h ⊢
  rw [r.length]
  cases e : ixN ds.length i with
  | none => rw [e] at h; cases h
  | some j =>
    rw [e] at h
    obtain ⟨v, h1, h2⟩ := r.get (i := j) (d := d) h
    exact ⟨v, h1, h2⟩
section
variable {X : Cx}
theorem items2 {ι : List Addr} {S : Sto} {H : Hp} {v : V} {d : D} {xs : List PyData} (hH : HR X.K H ι S) (r : RD X.K H ι v d) (h : dataOf d S = some (.list xs)) : ∃ a ys, v = .ref a ∧ LstR X.K H a ys ∧ RpA X.K H ys xs := by
  refine list_of hH r ?_
  unfold dataOf at h
  unfold listOf
  split at h
  · cases h; rfl
  · split at h
    · rename_i e; cases h; simp only [e]
    · cases h
theorem tup2 {ι : List Addr} {S : Sto} {H : Hp} {v : V} {d : D} {xs : List PyData} (r : RD X.K H ι v d) (h : dataOf d S = some (.tuple xs)) : ∃ a ys, v = .ref a ∧ TupS X.K H a ys ∧ RpA X.K H ys xs := by
  unfold dataOf at h
  split at h
  · cases h; exact tup_of r
  · split at h <;> cases h
theorem str2 {ι : List Addr} {S : Sto} {H : Hp} {v : V} {d : D} {x : Str} (r : RD X.K H ι v d) (h : dataOf d S = some (.str x)) : v = .str x := by
  unfold dataOf at h
  split at h
  · cases h; exact str_of r
  · split at h <;> cases h
theorem i_ix : IxR X (r2 X.K gIx) := fun value slice pins s σ H x y v u Q I rx ry ⟨ι, S, d, e, z, S', hH, rd, re, h, q⟩ hs => by
  have L := Lim_le
  unfold gIx ok at h
  split at h
  · rename_i xs i e1
    split at h
    · rename_i dd ha
      cases h
      obtain ⟨a, ys, rfl, h1, h2⟩ := items2 hH rd e1
      obtain ⟨w, hw, rw'⟩ := atI_rp h2 ha
      exact ix_list value slice pins s σ H _ _ v u Q I rx ry ⟨a, ys, i, w, rfl, int_of re, h1.sq, hw, fin q hH rw'⟩ hs
    · cases h
  · rename_i xs i e1
    split at h
    · rename_i dd ha
      cases h
      obtain ⟨a, ys, rfl, h1, h2⟩ := tup2 rd e1
      obtain ⟨w, hw, rw'⟩ := atI_rp h2 ha
      exact ix_tup value slice pins s σ H _ _ v u Q I rx ry ⟨a, ys, i, w, rfl, int_of re, h1.sq, hw, fin q hH rw'⟩ hs
    · cases h
  · rename_i zz i e1
    split at h
    · split at h
      · rename_i c hc
        cases h
        exact ix_str value slice pins s σ H _ _ v u Q I rx ry ⟨zz, i, c, str2 rd e1, int_of re, by omega, hc, fin q hH (.str _)⟩ hs
      · cases h
    · cases h
  · cases h
theorem s_ix {a b : Expr} {ma mb : M} {pos : Pos} (ha : PE X a (tE X.K ma)) (hb : PE X b (tE X.K mb)) (hs : PlainIx b) : PE X (.Subscript a b pos) (tE X.K (m2 gIx ma mb)) :=
  PE.imp (pe_ix i_ix ha hb hs) fun _ _ _ h => imp2 h
end
/-! ## slices -/
def cutD {α : Type} (xs : List α) (lo hi : Option Int) : List α := (xs.drop (HT.sIx xs.length 0 lo)).take (HT.sIx xs.length xs.length hi - HT.sIx xs.length 0 lo)
def gSl (d : D) (lo hi : Option Int) (S : Sto) : Rs D := match dataOf d S with
  | some (.list xs) => ok (.list (cutD xs lo hi)) S
  | some (.tuple xs) => ok (.tuple (cutD xs lo hi)) S
  | some (.str z) => if z.length ≤ Lim then ok (.str (cutS z lo hi)) S else none
  | _ => none
/-- a part of a slice: left out, or an int -/
abbrev MO := Ev → Sto → Rs (Option Int)
def moNone : MO := fun _ S => some (none, S)
def moSome (a : M) : MO := fun ρ S => match a ρ S with
  | some (.p (.int i), S1) => some (some i, S1)
  | _ => none
def mSl (a : M) (lo hi : MO) : M := fun ρ S => match a ρ S with
  | some (d, S1) => (match lo ρ S1 with
    | some (l, S2) => (match hi ρ S2 with
      | some (h, S3) => gSl d l h S3
      | none => none)
    | none => none)
  | none => none
def tO (K : Fg) (m : MO) : TO := fun σ H Q => ∃ ι ρ S o S', HR K H ι S ∧ ER K H ι σ ρ ∧ m ρ S = some (o, S') ∧ ∀ ι' H', Ext ι H ι' H' → HR K H' ι' S' → Q o H'
theorem PO.imp {X : Cx} {e : Option Expr} {t u : TO} (h : PO X e t) (i : ∀ σ H Q, u σ H Q → t σ H Q) : PO X e u := ⟨fun pins s σ H Q I q => h.run pins s σ H Q I (i σ H Q q)⟩
theorem RpA.cut {K : Fg} {H : Hp} {vs : List V} {ds : List PyData} (r : RpA K H vs ds) (lo hi : Option Int) : RpA K H (cutV vs lo hi) (cutD ds lo hi) := by
  unfold cutV cutD
  rw [r.length]
  exact (r.drop _).take _
section
variable {X : Cx}
theorem so_none : PO X none (tO X.K moNone) := PO.imp po_none fun σ H Q ⟨ι, ρ, S, o, S', hH, hE, e, q⟩ => by
  cases e
  exact q ι H (Ext.refl _ _) hH
theorem so_some {e : Expr} {m : M} (h : PE X e (tE X.K m)) : PO X (some e) (tO X.K (moSome m)) := PO.imp (po_some h) fun σ H Q ⟨ι, ρ, S, o, S', hH, hE, e, q⟩ => by
  unfold moSome at e
  split at e
  · rename_i i S1 h1
    cases e
    exact ⟨ι, ρ, S, _, _, hH, hE, h1, fun ι1 v H1 w1 hH1 r => ⟨i, int_of r, q ι1 H1 w1 hH1⟩⟩
  · cases e
/-- t[lo:hi] -/
theorem sl_tupF : SlR X (fun x lo hi H Q => ∃ a xs, x = .ref a ∧ SqT X.K H a xs ∧
    (HT.sIx xs.length 0 lo = 0 ∧ HT.sIx xs.length xs.length hi = xs.length → Q (.ref a) H) ∧
    (¬ (HT.sIx xs.length 0 lo = 0 ∧ HT.sIx xs.length xs.length hi = xs.length) → ∀ p o, H p = none → o.dict = none → Q (.ref p) (upd H p (.frz o (.tup (cutV xs lo hi)))))) := by
  intro pins s σ H x v vl vu lo hi sl Q I rx hs pl pu h
  obtain ⟨a, xs, rfl, hx, q1, q2⟩ := h
  by_cases hw : HT.sIx xs.length 0 lo = 0 ∧ HT.sIx xs.length xs.length hi = xs.length
  · exact sl_tupA pins s σ H _ v vl vu lo hi sl Q I rx hs pl pu ⟨a, xs, rfl, hx, q1, fun z => absurd hw z⟩
  · cases rx
    obtain ⟨its, r, ht, hz⟩ := I.tuple hx
    have hlen : its.toArray.size = xs.length := by rw [List.size_toArray]; exact r.length.symm
    refine ⟨"tuple", _, PyProof.Rows.slot_tuple_getitem.lookup, ht.typeIs, ?_⟩
    refine HT.getItem_tuple_cut ht hs pl pu (by rw [hlen]; exact hw) ?_ (by rw [hlen]; exact hz)
    rw [hlen]
    exact new_tup (tk := s.toks) I ((r.drop (HT.sIx xs.length 0 lo)).take (HT.sIx xs.length xs.length hi - HT.sIx xs.length 0 lo)) (Nat.le_trans (cutV_length xs lo hi) hz) (q2 hw)
def rSl (K : Fg) : V → Option Int → Option Int → Hp → VK → Prop := fun x lo hi H Q => ∃ ι S d z S', HR K H ι S ∧ RD K H ι x d ∧ gSl d lo hi S = some (z, S') ∧ Aft K H ι z S' Q
theorem sl_all : SlR X (rSl X.K) := by
  intro pins s σ H x v vl vu lo hi sl Q I rx hs pl pu ⟨ι, S, d, z, S', hH, rd, h, q⟩
  have L := Lim_le
  unfold gSl ok at h
  split at h
  · rename_i xs e
    cases h
    obtain ⟨a, ys, rfl, h1, h2⟩ := items2 hH rd e
    obtain ⟨T, id, e1, e2, e3⟩ := sl_list pins s σ H _ v vl vu lo hi sl (fzQ Q) I rx hs pl pu ⟨a, ys, rfl, h1.sq, fun p hp => fz_aft q (Ext.refl _ _) hp hH (h2.cut lo hi)⟩
    exact ⟨T, id, e1, e2, thn e3 fun _ _ z => EP.freeze z⟩
  · rename_i xs e
    cases h
    obtain ⟨a, ys, rfl, h1, h2⟩ := tup2 rd e
    refine sl_tupF pins s σ H _ v vl vu lo hi sl Q I rx hs pl pu ⟨a, ys, rfl, h1.sq, fun w => ?_, fun w p o hp ho => tup_aft q (Ext.refl _ _) hp ho hH (h2.cut lo hi)⟩
    have ec : cutD xs lo hi = xs := by
      unfold cutD
      rw [← h2.length, w.1, w.2, List.drop_zero, h2.length, Nat.sub_zero, List.take_length]
    rw [ec] at q
    exact fin q hH (.tup h1 h2)
  · rename_i zz e
    split at h
    · cases h
      exact sl_str pins s σ H _ v vl vu lo hi sl Q I rx hs pl pu ⟨zz, str2 rd e, by omega, fin q hH (.str _)⟩
    · cases h
  · cases h
theorem s_sl {a : Expr} {ma : M} {lo hi : Option Expr} {ml mh : MO} {pos p2 : Pos} (ha : PE X a (tE X.K ma)) (hl : PO X lo (tO X.K ml)) (hh : PO X hi (tO X.K mh)) : PE X (.Subscript a (.Slice lo hi none p2) pos) (tE X.K (mSl ma ml mh)) := by
  refine PE.imp (pe_slice sl_all ha hl hh) fun σ H Q ⟨ι, ρ, S, z, S', hH, hE, e, q⟩ => ?_
  unfold mSl at e
  split at e
  · rename_i d S1 h1
    split at e
    · rename_i l S2 h2
      split at e
      · rename_i h S3 h3
        exact ⟨ι, ρ, S, d, S1, hH, hE, h1, fun ι1 v H1 w1 hH1 rd => ⟨ι1, ρ, S1, l, S2, hH1, hE.mono w1, h2, fun ι2 H2 w2 hH2 => ⟨ι2, ρ, S2, h, S3, hH2, (hE.mono w1).mono w2, h3, fun ι3 H3 w3 hH3 =>
          ⟨ι3, S3, d, z, S', hH3, (rd.mono w2).mono w3, e, q.of ((w1.trans w2).trans w3)⟩⟩⟩⟩
      · cases e
    · cases e
  · cases e
end
/-! ## stores: xs[i] = v -/
def fSet : D → D → D → Sto → Option Sto := fun o i v S => match o, i, v with
  | .r n, .p (.int k), .p d => (match S[n]? with
    | some (.lst xs) => (match ixN xs.length k with
      | some j => some (S.set n (.lst (xs.set j d)))
      | none => none)
    | _ => none)
  | _, _, _ => none
section
variable {X : Cx}
theorem p_set : PSet X (rSet X.K fSet) := fun pins s σ H o i v ov iv u Q I ro ri rv ⟨ι, S, x, y, d, S', hH, rx, ry, rd, h, q⟩ => by
  unfold fSet at h
  split at h
  · rename_i n k d
    split at h
    · rename_i xs hn
      split at h
      · rename_i j hj
        cases h
        obtain ⟨a, ha, rfl⟩ := rx
        obtain ⟨ys, h1, h2⟩ := hH.at_ n a _ ha hn
        have hk := int_of ry
        subst hk
        refine set_list pins s σ H _ _ v ov iv u Q I ro ri rv ⟨a, ys, k, j, rfl, rfl, h1, by rw [h2.length]; exact hj, ?_⟩
        have w : Ext ι H ι (upd H a (.lst (ys.set j v))) := Ext.turn h1 (fun z => z) (List.mem_of_getElem? ha)
        exact q ι _ w (hH.turn ha hn ⟨_, upd_same, (RpA.mono w.keep _ _ h2).set (Rp.mono w.keep _ _ rd) j⟩)
      · cases h
    · cases h
  · cases h
end
/-! ## methods of lists -/
def gAppend : D → List D → Sto → Rs D := fun o ds S => match o, ds with
  | .r n, [.p d] => (match S[n]? with
    | some (.lst xs) => if xs.length < Lim then some (.p .none, S.set n (.lst (xs ++ [d]))) else none
    | _ => none)
  | _, _ => none
def gExtend : D → List D → Sto → Rs D := fun o ds S => match o, ds with
  | .r n, [.p (.list ys)] => (match S[n]? with
    | some (.lst xs) => if xs.length + ys.length ≤ Lim then some (.p .none, S.set n (.lst (xs ++ ys))) else none
    | _ => none)
  | _, _ => none
def gPop : D → List D → Sto → Rs D := fun o ds S => match o, ds with
  | .r n, [] => (match S[n]? with
    | some (.lst xs) => (match xs[xs.length - 1]? with
      | some d => some (.p d, S.set n (.lst xs.dropLast))
      | none => none)
    | _ => none)
  | _, _ => none
section
variable {X : Cx}
theorem t_append : MtR X "list.append" (rM X.K gAppend) := fun pins s σ H x xs v us Q I rx rs ⟨ι, S, d, ds, z, S', hH, rd, rds, h, q⟩ => by
  have L := Lim_le
  unfold gAppend at h
  split at h
  · rename_i n d
    split at h
    · rename_i xs hn
      split at h
      · cases h
        obtain ⟨y, rfl, ry⟩ := rds.one
        obtain ⟨a, ha, rfl⟩ := rd
        obtain ⟨ys, h1, h2⟩ := hH.at_ n a _ ha hn
        have hl := h2.length
        refine mt_append pins s σ H _ _ v us Q I rx rs ⟨a, ys, y, rfl, rfl, h1, by omega, ?_⟩
        have w : Ext ι H ι (upd H a (.lst (ys ++ [y]))) := Ext.turn h1 (fun z => z) (List.mem_of_getElem? ha)
        exact q ι _ _ w (hH.turn ha hn ⟨_, upd_same, (RpA.mono w.keep _ _ h2).append (.cons (Rp.mono w.keep _ _ ry) .nil)⟩) .non
      · cases h
    · cases h
  · cases h
theorem t_pop : MtR X "list.pop" (rM X.K gPop) := fun pins s σ H x xs v us Q I rx rs ⟨ι, S, d, ds, z, S', hH, rd, rds, h, q⟩ => by
  unfold gPop at h
  split at h
  · rename_i n
    split at h
    · rename_i xs hn
      split at h
      · rename_i d hd
        cases h
        cases xs' : (show List V from ‹List V›) with
        | cons _ _ => subst xs'; exact rds.elim
        | nil =>
          subst xs'
          obtain ⟨a, ha, rfl⟩ := rd
          obtain ⟨ys, h1, h2⟩ := hH.at_ n a _ ha hn
          have hl := h2.length
          obtain ⟨y, hy, ry⟩ := h2.get hd
          refine mt_pop pins s σ H _ _ v us Q I rx rs ⟨a, ys, y, rfl, rfl, h1, by rw [hl]; exact hy, ?_⟩
          have w : Ext ι H ι (upd H a (.lst ys.dropLast)) := Ext.turn h1 (fun z => z) (List.mem_of_getElem? ha)
          exact q ι _ _ w (hH.turn ha hn ⟨_, upd_same, RpA.mono w.keep _ _ h2.dropLast⟩) (Rp.mono w.keep _ _ ry)
      · cases h
    · cases h
  · cases h
theorem t_extend : MtR X "list.extend" (rM X.K gExtend) := fun pins s σ H x xs v us Q I rx rs ⟨ι, S, d, ds, z, S', hH, rd, rds, h, q⟩ => by
  have L := Lim_le
  unfold gExtend at h
  split at h
  · rename_i n ys
    split at h
    · rename_i xs hn
      split at h
      · rename_i hlen
        cases h
        obtain ⟨y, rfl, ry⟩ := rds.one
        obtain ⟨a, ha, rfl⟩ := rd
        obtain ⟨ws, h1, h2⟩ := hH.at_ n a _ ha hn
        obtain ⟨b, zs, rfl, h3, h4⟩ := list_of (S := S) hH ry rfl
        have hl := h2.length
        have hl4 := h4.length
        cases rx
        obtain ⟨u, rfl, ru⟩ := rs.one
        cases ru
        obtain ⟨z1, its, m, r, hlt, e⟩ := I.lstM h1
        obtain ⟨its2, m2, r2, e2, z2⟩ := h3.obj I
        have k1 := r.length
        have k2 := r2.length
        have hsz : its.toArray.size + its2.toArray.size ≤ sizeLine := by rw [List.size_toArray, List.size_toArray]; omega
        have hlong : ¬ (!its.toArray.isEmpty && Builtin.List.listTooLong (its.toArray.size + its2.toArray.size)) = true := by
          rw [notLongL hsz, Bool.and_false]; exact fun z => by cases z
        refine call_meets PySem.F.slot_list_extend ⟨_, e, rfl⟩ PySem.F.entry_list_extend (PySem.F.args_list_extend_2 _ _) (AutoSeq1.list_extend_list_list_0 a its.toArray m b its2.toArray m2 hlong (by rw [List.size_toArray]; omega) (by rw [List.size_toArray] at *; omega)) ⟨e, e2, ?_⟩
        have w : Ext ι H ι (upd H a (.lst (ws ++ zs))) := Ext.turn h1 (fun z => z) (List.mem_of_getElem? ha)
        refine ⟨.non, _, I.lset (its' := its ++ its2) h1 e (by simp) (r.append r2) (by rw [List.length_append]; omega), rfl, ?_⟩
        exact q ι _ _ w (hH.turn ha hn ⟨_, upd_same, (RpA.mono w.keep _ _ h2).append (RpA.mono w.keep _ _ h4)⟩) .non
      · cases h
    · cases h
  · cases h
end
end Tm
namespace Tm
open PySem L2

/-! ## o.m(..) of built-in types -/
def recvB (T : String) (d : D) (S : Sto) : Bool := match dataOf d S with
  | some (.list _) => T == "list"
  | some (.tuple _) => T == "tuple"
  | some (.str _) => T == "str"
  | _ => false
def mMt (T : String) (f : D → List D → Sto → Rs D) (o : M) (as : MA) : M := fun ρ S => match o ρ S with
  | some (x, S1) => if recvB T x S1 then (match as ρ S1 with
    | some (ds, S2) => f x ds S2
    | none => none) else none
  | none => none
def RecvR (X : Cx) (T : String) (x : V) (H : Hp) : Prop := ∀ (pins : List (Addr × Obj)) (s : Shared) (σ : L2.St) (v : Value), Inv X pins σ H s → RelV x v → s.TypeIs v T ∧ ∀ a, v = .ref a → ∃ ob, s.heap.get? a = some ob ∧ ob.dict = none
section
variable {X : Cx}
theorem recv_of {T : String} {d : D} {S : Sto} {H : Hp} {ι : List Addr} {x : V} (hH : HR X.K H ι S) (rd : RD X.K H ι x d) (h : recvB T d S = true) : RecvR X T x H := by
  unfold recvB at h
  intro pins s σ v I rx
  split at h
  · rename_i xs e
    have hT : T = "list" := by simpa using h
    subst hT
    obtain ⟨a, ys, rfl, h1, h2⟩ := items2 hH rd e
    cases rx
    obtain ⟨its, n, r, eo, hz⟩ := h1.obj I
    exact ⟨⟨_, eo, rfl⟩, fun b hb => by cases hb; exact ⟨_, eo, rfl⟩⟩
  · rename_i xs e
    have hT : T = "tuple" := by simpa using h
    subst hT
    obtain ⟨a, ys, rfl, h1, h2⟩ := tup2 rd e
    cases rx
    rcases h1 with ⟨o, h1, ho⟩ | ⟨o, its, n, h1, hc, ho, _⟩
    · obtain ⟨e1, _, its, r, o', e2, hc, _⟩ := I.hok a _ h1
      rw [e1] at e2; cases e2
      exact ⟨⟨o, e1, hc⟩, fun b hb => by cases hb; exact ⟨o, e1, ho⟩⟩
    · exact ⟨⟨o, I.kIn a o h1, hc⟩, fun b hb => by cases hb; exact ⟨o, I.kIn _ o h1, ho⟩⟩
  · rename_i z e
    have hT : T = "str" := by simpa using h
    subst hT
    have := str2 rd e
    subst this
    obtain ⟨t, rfl⟩ := rx
    exact ⟨typeIs_str s _ t, fun _ z => by cases z⟩
  · cases h
variable {o e : Expr} {es : List Expr} {name : Str} {apos cpos : Pos} {T id : String} {mo : M} {mas : MA} {g : D → List D → Sto → Rs D}
theorem s_meth0 (pa : PlainAttrs T) (slot : Slot T name id) (hty : typeOf (.builtin id) = pure (.type "method_descriptor")) (hm : MtR X id (rM X.K g)) (ho : PE X o (tE X.K mo))
    (hbase : attributeBase o name X.env (eval o X.env) = eval o X.env) (hline : (apos.endLine == cpos.line) = true) : PE X (.Call (.Attribute o name apos) [] [] cpos) (tE X.K (mMt T g mo maNil)) := by
  refine ⟨fun pins s σ H Q I ⟨ι, ρ, S, z, S', hH, hE, e, q⟩ => ?_⟩
  unfold mMt at e
  split at e
  · rename_i x S1 h1
    split at e
    · rename_i hr
      have e : g x [] S1 = some (z, S') := e
      refine wpAny_Call_method0_late hbase hline (thn (ho.run pins s σ H (fun v H1 => RecvR X T v H1 ∧ rM X.K g v [] H1 Q) I ⟨ι, ρ, S, x, S1, hH, hE, h1, fun ι1 v H1 w1 hH1 rd => ⟨recv_of hH1 rd hr, ι1, S1, x, [], z, S', hH1, rd, trivial, e, q.of w1⟩⟩) fun v s1 ⟨y, H1, I1, r1, ty, q1⟩ => ?_)
      obtain ⟨t1, t2⟩ := ty pins s1 σ v I1 r1
      exact ⟨T, id, pa, slot, hty, t1, t2, Calls.callWith_builtin rfl (PySem.evalArgs_none (hm pins s1 σ H1 y [] v [] Q I1 r1 .nil q1))⟩
    · cases e
  · cases e
theorem s_meth (pa : PlainAttrs T) (slot : Slot T name id) (hty : typeOf (.builtin id) = pure (.type "method_descriptor")) (hm : MtR X id (rM X.K g)) (ho : PE X o (tE X.K mo)) (ha : PA X (e :: es) (tAs X.K mas))
    (hbase : attributeBase o name X.env (eval o X.env) = eval o X.env)
    (hfew : ((backTo cpos (starEach (e :: es) X.env)).all (fun x => !x.1) && (backToKw cpos (keywordEach [] X.env)).all (fun x => x.1.isSome)
      && decide ((e :: es).length + ([] : List Keyword).length + (if ([] : List Keyword).isEmpty then 0 else 1) < 30)) = true)
    (hline : (apos.endLine == cpos.line) = true) (hs : starEach (e :: es) X.env = (false, eval e X.env) :: starEach es X.env) (hplain : (backTo cpos (starEach es X.env)).any (·.1) = false) :
    PE X (.Call (.Attribute o name apos) (e :: es) [] cpos) (tE X.K (mMt T g mo mas)) := by
  refine ⟨fun pins s σ H Q I ⟨ι, ρ, S, z, S', hH, hE, e', q⟩ => ?_⟩
  unfold mMt at e'
  split at e'
  · rename_i x S1 h1
    split at e'
    · rename_i hr
      split at e'
      · rename_i ds S2 h2
        refine wpAny_Call_method_late hbase hfew hline rfl (thn (ho.run pins s σ H (fun v H1 => RecvR X T v H1 ∧ tAs X.K mas σ H1 fun vs H2 => rM X.K g v vs H2 Q) I
          ⟨ι, ρ, S, x, S1, hH, hE, h1, fun ι1 v H1 w1 hH1 rd => ⟨recv_of hH1 rd hr, ι1, ρ, S1, ds, S2, hH1, hE.mono w1, h2, fun ι2 vs H2 w2 hH2 rs => ⟨ι2, S2, x, ds, z, S', hH2, rd.mono w2, rs, e', q.of (w1.trans w2)⟩⟩⟩) fun v s1 ⟨y, H1, I1, r1, ty, q1⟩ => ?_)
        obtain ⟨t1, t2⟩ := ty pins s1 σ v I1 r1
        refine ⟨T, id, pa, slot, hty, t1, t2, ?_⟩
        have hA := ha.run cpos pins s1 σ H1 _ I1 q1
        rw [hs] at hA ⊢
        refine Calls.callWith_builtin ?_ (Calls.evalArgs_plain (thn hA fun us s2 ⟨vs, H2, I2, r2, q2⟩ => hm pins s2 σ H2 y vs v us Q I2 r1 r2 q2))
        show (false || (backTo cpos (starEach es X.env)).any (·.1)) = false
        rw [hplain]
        rfl
      · cases e'
    · cases e'
  · cases e'
end
/-! ## index, join -/
/-- the first place of an equal one -/
def firstAt (d : PyData) : List PyData → Nat → Option Nat
  | [], _ => none
  | x :: xs, i => if PyData.eqv x d then some i else firstAt d xs (i + 1)
theorem firstAt_get {d : PyData} : ∀ {xs : List PyData} {i j : Nat}, firstAt d xs i = some j → i ≤ j ∧ (∃ z, xs[j - i]? = some z ∧ PyData.eqv z d = true) ∧ ∀ m z, m < j - i → xs[m]? = some z → PyData.eqv z d = false
  | [], _, _, h => by cases h
  | x :: xs, i, j, h => by
    unfold firstAt at h
    split at h
    · rename_i hx
      cases h
      exact ⟨Nat.le_refl _, ⟨x, by simp, hx⟩, fun m z hm => by omega⟩
    · rename_i hx
      obtain ⟨h1, ⟨z, h2, h3⟩, h4⟩ := firstAt_get h
      refine ⟨by omega, ⟨z, ?_, h3⟩, fun m w hm hw => ?_⟩
      · have : j - i = (j - (i + 1)) + 1 := by omega
        rw [this]; simpa using h2
      · cases m with
        | zero => simp at hw; subst hw; simpa using hx
        | succ m => exact h4 m w (by omega) (by simpa using hw)
def gIndex : D → List D → Sto → Rs D := fun o ds S => match dataOf o S, ds with
  | some (.list xs), [.p d] => if SeqAt.shaped (.list xs) && SeqAt.shaped d then (match firstAt d xs 0 with
    | some j => ok (.int j) S
    | none => none) else none
  | _, _ => none
def gIndexT : D → List D → Sto → Rs D := fun o ds S => match dataOf o S, ds with
  | some (.tuple xs), [.p d] => if SeqAt.shaped (.tuple xs) && SeqAt.shaped d then (match firstAt d xs 0 with
    | some j => ok (.int j) S
    | none => none) else none
  | _, _ => none
def gJoin : D → List D → Sto → Rs D := fun o ds S => match o, ds with
  | .p (.str a), [d] => (match itemsOf d S with
    | some xs => (match strsD xs with
      | some ys => if (ys.map (·.length)).sum + ys.length * a.length ≤ Lim then ok (.str (Txt.join a ys)) S else none
      | none => none)
    | none => none)
  | _, _ => none
section
variable {X : Cx}
theorem t_index (hu : X.A.units + 65 < cLine) : MtR X "list.index" (rM X.K gIndex) := fun pins s σ H x xs v us Q I rx rs ⟨ι, S, d, ds, z, S', hH, rd, rds, h, q⟩ => by
  unfold gIndex ok at h
  split at h
  · rename_i ys d e
    split at h
    · rename_i hs
      split at h
      · rename_i j hj
        cases h
        obtain ⟨s1, s2⟩ := Bool.and_eq_true_iff.mp hs
        obtain ⟨y, rfl, ry⟩ := rds.one
        obtain ⟨_, ⟨w, h2, h3⟩, h4⟩ := firstAt_get hj
        have hd := data_of hH rd e
        obtain ⟨a, zs, rfl, _, _⟩ := items2 hH rd e
        exact mt_indexD hu pins s σ H _ _ v us Q I rx rs ⟨a, y, d, ys, j, w, rfl, rfl, hd, Rp.dp _ _ ry, s1, s2, by simpa using h2, h3, fun m z' hm hz => h4 m z' (by omega) hz, fin q hH (.int _)⟩
      · cases h
    · cases h
  · cases h
theorem t_indexT (hu : X.A.units + 65 < cLine) : MtR X "tuple.index" (rM X.K gIndexT) := fun pins s σ H x xs v us Q I rx rs ⟨ι, S, d, ds, z, S', hH, rd, rds, h, q⟩ => by
  unfold gIndexT ok at h
  split at h
  · rename_i ys d e
    split at h
    · rename_i hs
      split at h
      · rename_i j hj
        cases h
        obtain ⟨sl, sd⟩ := Bool.and_eq_true_iff.mp hs
        obtain ⟨y, rfl, ry⟩ := rds.one
        obtain ⟨_, ⟨w, hz, hzj⟩, hno⟩ := firstAt_get hj
        obtain ⟨a, zs, rfl, h1, h2⟩ := tup2 rd e
        cases rx
        obtain ⟨u, rfl, ru⟩ := vals1 rs
        obtain ⟨bs, r1⟩ := Dp.reads I d y u (Rp.dp _ _ ry) ru
        have hxs : PyData.canLayAll0 ys = true := SeqAt.canLay_of_shaped sl
        have hroom : X.A.units + 1 + min (PyData.depthAll ys) d.depth < cLine := PyProof.Rows.room_in_shaped sd hu
        obtain ⟨its, rv, ⟨⟨cls, dd, data, sls⟩, ho, hc, n, hdt⟩, hlen⟩ := I.tuple h1.sq
        simp only at hc hdt
        subst hc hdt
        obtain ⟨as, h4⟩ := Dp.readsAll I ys _ its (RpA.dp _ _ h2) rv
        have hn : its.length = ys.length := SeqAt.ReadsAll.length ys its as h4
        have hmap : its.map (SeqAt.readOf s.heap) = ys := SeqAt.readsAll_map ys its as hxs h4
        have hjd : j < ys.length := by
          obtain ⟨hjd, _⟩ := List.getElem?_eq_some_iff.mp hz
          omega
        have hjA : j < its.toArray.size := by rw [List.size_toArray]; omega
        have at_ : ∀ (m : Nat) (hm : m < its.toArray.size) (z' : PyData), ys[m]? = some z' → SeqAt.readOf s.heap its.toArray[m] = z' := by
          intro m hm z' hz'
          have hml : m < its.length := by simpa using hm
          rw [← hmap, List.getElem?_map, List.getElem?_eq_getElem hml] at hz'
          have e1 : SeqAt.readOf s.heap its[m] = z' := Option.some.inj (show some (SeqAt.readOf s.heap its[m]) = some z' from hz')
          simpa using e1
        refine call_meets PySem.F.slot_tuple_index ⟨_, ho, rfl⟩ PySem.F.entry_tuple_index (PySem.F.args_tuple_index_2 _ _)
          (TI.tuple_indexAt a its.toArray n dd sls u (fun w => PyData.eqv (SeqAt.readOf s.heap w) d) j hjA ?_ ?_) ⟨ho, SeqAt.items_eqAt (vs := its.toArray) (show ReadsAll s.heap its.toArray.toList ys as from h4) r1 hxs (SeqAt.canLay_of_shaped sd) hroom, ?_⟩
        · show PyData.eqv (SeqAt.readOf s.heap its.toArray[j]) d = true
          rw [at_ j hjA w (by simpa using hz)]
          exact hzj
        · intro m hm hmj
          have hmd : m < ys.length := by omega
          show PyData.eqv (SeqAt.readOf s.heap its.toArray[m]) d = false
          rw [at_ m hm _ (List.getElem?_eq_getElem hmd)]
          exact hno m _ (by omega) (List.getElem?_eq_getElem hmd)
        · exact ⟨.int (j : Nat), H, I.tok _, ⟨_, rfl⟩, fin q hH (.int _)⟩
      · cases h
    · cases h
  · cases h
theorem t_join : MtR X "str.join" (rM X.K gJoin) := fun pins s σ H x xs v us Q I rx rs ⟨ι, S, d, ds, z, S', hH, rd, rds, h, q⟩ => by
  unfold gJoin ok at h
  split at h
  · rename_i a d
    split at h
    · rename_i ys e
      split at h
      · rename_i zs ez
        split at h
        · rename_i hl
          cases h
          obtain ⟨y, rfl, ry⟩ := rds.one
          obtain ⟨p, ws, rfl, h1, h2⟩ := items_of hH ry e
          rw [strs_eq ez] at h2
          have := rpA_strs h2
          subst this
          exact mt_join pins s σ H _ _ v us Q I rx rs ⟨a, p, zs, str_of rd, rfl, h1.symm, hl, fin q hH (.str _)⟩
        · cases h
      · cases h
    · cases h
  · cases h
/-! text.index -/
def gIndexS : D → List D → Sto → Rs D := fun o ds S => match o, ds with
  | .p (.str a), [.p (.str b)] => (match Builtin.Str.occurrences a b 0 a.length 1 with
    | i :: _ => ok (.int (i : Nat)) S
    | [] => none)
  | _, _ => none
theorem t_indexS : MtR X "str.index" (rM X.K gIndexS) := fun pins s σ H x xs v us Q I rx rs ⟨ι, S, d, ds, z, S', hH, rd, rds, h, q⟩ => by
  unfold gIndexS ok at h
  split at h
  · split at h
    · rename_i i rest ho
      cases h
      obtain ⟨y, rfl, ry⟩ := rds.one
      exact mt_sindex pins s σ H _ _ v us Q I rx rs ⟨_, _, i, rest, str_of rd, by rw [str_of ry], ho, fin q hH (.int _)⟩
    · cases h
  · cases h
end
end Tm
namespace Tm
open PySem L2

/-! ## what is walked -/
def rowOf (xs : List PyData) : List Itm := xs.map fun d => .one (.p d)
def signs (z : Str) : List PyData := z.cps.toList.map fun c => .str ⟨#[c]⟩
def iVal (m : M) : MI := fun ρ S => match m ρ S with
  | some (.p (.list xs), S1) => some (.its (rowOf xs), S1)
  | some (.p (.tuple xs), S1) => some (.its (rowOf xs), S1)
  | some (.p (.str z), S1) => if z.length ≤ Lim then some (.its (rowOf (signs z)), S1) else none
  | some (.r n, S1) => some (.lst n, S1)
  | _ => none
def rangeD (lo : Int) (n : Nat) : List PyData := (List.range n).map fun i => .int (lo + (i : Nat))
def iRange1 (as : MA) : MI := fun ρ S => match as ρ S with
  | some ([.p (.int j)], S1) => if -Lim ≤ j ∧ j ≤ Lim then some (.its (rowOf (rangeD 0 j.toNat)), S1) else none
  | _ => none
def iRange2 (as : MA) : MI := fun ρ S => match as ρ S with
  | some ([.p (.int i), .p (.int j)], S1) => if -Lim ≤ i ∧ i ≤ Lim ∧ -Lim ≤ j ∧ j ≤ Lim ∧ j - i ≤ Lim then some (.its (rowOf (rangeD i (j - i).toNat)), S1) else none
  | _ => none
/-- enumerate -/
def numbered (xs : List PyData) : List Itm := (xs.zipIdx).map fun (d, i) => .row [.p (.int (i : Nat)), .p d]
def iEnumS (m : M) : MI := fun ρ S => match m ρ S with
  | some (.p (.str z), S1) => if z.length ≤ Lim then some (.its (numbered (signs z)), S1) else none
  | some (.p (.list xs), S1) => some (.its (numbered xs), S1)
  | _ => none
/-- zip of two tuples -/
def paired (xs ys : List PyData) : List Itm := (xs.zip ys).map fun (a, b) => .row [.p a, .p b]
def iZipT (as : MA) : MI := fun ρ S => match as ρ S with
  | some ([.p (.tuple xs), .p (.tuple ys)], S1) => some (.its (paired xs ys), S1)
  | _ => none
theorem rowOf_len (xs : List PyData) : (rowOf xs).length = xs.length := List.length_map _
theorem rowOf_get {xs : List PyData} {i : Nat} {d : Itm} (h : (rowOf xs)[i]? = some d) : ∃ x, xs[i]? = some x ∧ d = .one (.p x) := by
  unfold rowOf at h
  rw [List.getElem?_map] at h
  cases e : xs[i]? with
  | none => rw [e] at h; cases h
  | some x => rw [e] at h; cases h; exact ⟨x, rfl, rfl⟩
section
variable {X : Cx} {tg e : Expr} {m : M}
theorem PI.imp {X : Cx} {tg e : Expr} {t u : TI} (h : PI X tg e t) (i : ∀ σ H R, u σ H R → t σ H R) : PI X tg e u := ⟨fun pins s σ H R I q => h.run pins s σ H R I (i σ H R q)⟩
theorem its_list {K : Fg} {H : Hp} {ι : List Addr} {a : Addr} {ys : List V} {xs : List PyData} (h1 : LstS K H a ys) (h2 : RpA K H ys xs) (hz : xs.length ≤ sizeLine) : ItS K ι H (Itl K a) (rowOf xs) := by
  have hl := h2.length
  refine ⟨by rw [rowOf_len]; exact hz, fun i H' hi k => ?_, fun H' k => ?_, fun i H' x H2 hi k hy => ?_⟩
  · rw [rowOf_len] at hi
    exact ⟨ys, ys[i], (k.lstS h1).rd.sq, List.getElem?_eq_getElem (by omega)⟩
  · rw [rowOf_len]; exact ⟨ys, (k.lstS h1).rd.sq, by omega⟩
  · obtain ⟨rfl, hy⟩ := hy
    refine ⟨fun _ _ z => z, fun d hd ι' _ => ?_⟩
    obtain ⟨x', hx', rfl⟩ := rowOf_get hd
    obtain ⟨v, hv, rv⟩ := h2.get hx'
    have : x = v := Option.some.inj ((hy ys (k.lstS h1).rd.sq).symm.trans hv)
    subst this
    exact Rp.mono k _ _ rv
theorem its_tup {K : Fg} {H : Hp} {ι : List Addr} {a : Addr} {ys : List V} {xs : List PyData} (h1 : TupS K H a ys) (h2 : RpA K H ys xs) (hz : xs.length ≤ sizeLine) : ItS K ι H (Itt K a) (rowOf xs) := by
  have hl := h2.length
  refine ⟨by rw [rowOf_len]; exact hz, fun i H' hi k => ?_, fun H' k => ?_, fun i H' x H2 hi k hy => ?_⟩
  · rw [rowOf_len] at hi
    exact ⟨ys, ys[i], (k.tupS h1).sq, List.getElem?_eq_getElem (by omega)⟩
  · rw [rowOf_len]; exact ⟨ys, (k.tupS h1).sq, by omega⟩
  · obtain ⟨rfl, hy⟩ := hy
    refine ⟨fun _ _ z => z, fun d hd ι' _ => ?_⟩
    obtain ⟨x', hx', rfl⟩ := rowOf_get hd
    obtain ⟨v, hv, rv⟩ := h2.get hx'
    have : x = v := Option.some.inj ((hy ys (k.tupS h1).sq).symm.trans hv)
    subst this
    exact Rp.mono k _ _ rv
theorem signs_len (z : Str) : (signs z).length = z.cps.size := by unfold signs; simp
theorem its_str {K : Fg} {H : Hp} {ι : List Addr} {z : Str} (hz : z.length ≤ Lim) : ItS K ι H (Its z) (rowOf (signs z)) := by
  have L := Lim_le
  have hz' : z.cps.size ≤ Lim := hz
  refine ⟨by rw [rowOf_len, signs_len]; omega, fun i H' hi k => ?_, fun H' k => ?_, fun i H' x H2 hi k hy => ?_⟩
  · rw [rowOf_len, signs_len] at hi; exact hi
  · rw [rowOf_len, signs_len]; exact Nat.le_refl _
  · obtain ⟨rfl, c, hc, rfl⟩ := hy
    refine ⟨fun _ _ z => z, fun d hd ι' _ => ?_⟩
    obtain ⟨x', hx', rfl⟩ := rowOf_get hd
    unfold signs at hx'
    rw [List.getElem?_map, Array.getElem?_toList, hc] at hx'
    cases hx'
    exact .str _
theorem its_range {K : Fg} {H : Hp} {ι : List Addr} {lo : Int} {n : Nat} (hn : n ≤ Lim) : ItS K ι H (Itr lo n) (rowOf (rangeD lo n)) := by
  have L := Lim_le
  have hl : (rangeD lo n).length = n := by unfold rangeD; simp
  refine ⟨by rw [rowOf_len, hl]; omega, fun i H' hi k => ?_, fun H' k => ?_, fun i H' x H2 hi k hy => ?_⟩
  · rw [rowOf_len, hl] at hi; exact hi
  · rw [rowOf_len, hl]; exact Nat.le_refl _
  · rw [rowOf_len, hl] at hi
    obtain ⟨rfl, rfl⟩ := hy
    refine ⟨fun _ _ z => z, fun d hd ι' _ => ?_⟩
    obtain ⟨x', hx', rfl⟩ := rowOf_get hd
    unfold rangeD at hx'
    rw [List.getElem?_map, List.getElem?_range hi] at hx'
    cases hx'
    exact .int _
/-- how long a list or tuple may be at the most -/
def LenOk (K : Fg) (v : V) (H : Hp) : Prop := ∀ a xs, v = .ref a → (SqL K H a xs ∨ SqT K H a xs) → xs.length ≤ sizeLine
theorem PE.len {t : TE} (h : PE X e t) : PE X e (fun σ H Q => t σ H fun v H1 => LenOk X.K v H1 → Q v H1) :=
  ⟨fun pins s σ H Q I q => thn (h.run pins s σ H _ I q) fun u s1 ⟨v, H1, I1, r, q1⟩ => ⟨v, H1, I1, r, q1 fun a xs _ hq => by
    rcases hq with hq | hq
    · obtain ⟨_, _, _, z⟩ := I1.list hq; exact z
    · obtain ⟨_, _, _, z⟩ := I1.tuple hq; exact z⟩⟩
theorem si_val (he : PE X e (tE X.K m)) : PI X tg e (tI X.K (iVal m)) := by
  refine ⟨fun pins s σ H R I ⟨ι, ρ, S, src, S', hH, hE, h, q⟩ => ?_⟩
  unfold iVal at h
  split at h
  · rename_i xs S1 h1
    cases h
    refine (pi_list (PE.len he)).run pins s σ H R I ⟨ι, ρ, S, _, _, hH, hE, h1, fun ι1 v H1 w1 hH1 rd lk => ?_⟩
    cases rd with
    | lst a1 a2 => exact ⟨_, rfl, ⟨_, a1.rd.sq⟩, q ι1 _ H1 w1 hH1 (its_list a1 a2 (by rw [← a2.length]; exact lk _ _ rfl (.inl a1.rd.sq)))⟩
  · rename_i xs S1 h1
    cases h
    refine (pi_tup (PE.len he)).run pins s σ H R I ⟨ι, ρ, S, _, _, hH, hE, h1, fun ι1 v H1 w1 hH1 rd lk => ?_⟩
    cases rd with
    | tup a1 a2 => exact ⟨_, rfl, ⟨_, a1.sq⟩, q ι1 _ H1 w1 hH1 (its_tup a1 a2 (by rw [← a2.length]; exact lk _ _ rfl (.inr a1.sq)))⟩
  · rename_i z S1 h1
    split at h
    · rename_i hz
      cases h
      exact (pi_str he).run pins s σ H R I ⟨ι, ρ, S, _, _, hH, hE, h1, fun ι1 v H1 w1 hH1 rd => ⟨z, str_of rd, q ι1 _ H1 w1 hH1 (its_str hz)⟩⟩
    · cases h
  · rename_i n S1 h1
    cases h
    refine (pi_list he).run pins s σ H R I ⟨ι, ρ, S, _, _, hH, hE, h1, fun ι1 v H1 w1 hH1 rd => ?_⟩
    obtain ⟨a, ha, rfl⟩ := rd
    refine ⟨a, rfl, ?_, q ι1 _ H1 w1 hH1 ⟨a, ha, rfl⟩⟩
    have hn : n < S'.length := by rw [← hH1.len]; exact (List.getElem?_eq_some_iff.mp ha).1
    have z := hH1.at_ n a _ ha (List.getElem?_eq_getElem hn)
    revert z
    cases S'[n] with
    | lst ds => exact fun ⟨xs, h1, _⟩ => ⟨xs, SqL.of h1⟩
    | dct _ => exact fun z => z.elim
  · cases h
variable {a b : Expr} {as : MA} {p pos : Pos}
theorem si_range1 (hg : Gl X "range") (hm : X.mg "range" = none) (ha : PA X [a] (tAs X.K as)) (hs : starEach [a] X.env = [(false, eval a X.env)]) : PI X tg (.Call (.Name "range" p) [a] [] pos) (tI X.K (iRange1 as)) := by
  refine PI.imp (pi_range1 hg hm ha hs) fun σ H R ⟨ι, ρ, S, src, S', hH, hE, h, q⟩ => ?_
  unfold iRange1 at h
  split at h
  · rename_i j S1 h1
    split at h
    · rename_i hj
      cases h
      refine ⟨ι, ρ, S, _, _, hH, hE, h1, fun ι1 vs H1 w1 hH1 rv => ?_⟩
      obtain ⟨v, rfl, rd⟩ := rv.one
      have hL : (Lim : Int) = 16777216 := rfl
      exact ⟨j, by rw [int_of rd], by omega, by omega, q ι1 _ H1 w1 hH1 (its_range (by omega))⟩
    · cases h
  · cases h
theorem si_range2 (hg : Gl X "range") (hm : X.mg "range" = none) (ha : PA X [a, b] (tAs X.K as)) (hs : starEach [a, b] X.env = [(false, eval a X.env), (false, eval b X.env)]) (hs2 : starEach [b] X.env = [(false, eval b X.env)]) : PI X tg (.Call (.Name "range" p) [a, b] [] pos) (tI X.K (iRange2 as)) := by
  refine PI.imp (pi_range2 hg hm ha hs hs2) fun σ H R ⟨ι, ρ, S, src, S', hH, hE, h, q⟩ => ?_
  unfold iRange2 at h
  split at h
  · rename_i i j S1 h1
    split at h
    · rename_i hj
      cases h
      refine ⟨ι, ρ, S, _, _, hH, hE, h1, fun ι1 vs H1 w1 hH1 rv => ?_⟩
      obtain ⟨v, w, rfl, rd, re⟩ := rv.two
      have hL : (Lim : Int) = 16777216 := rfl
      exact ⟨i, j, by rw [int_of rd, int_of re], ⟨by omega, by omega, by omega, by omega⟩, q ι1 _ H1 w1 hH1 (its_range (by omega))⟩
    · cases h
  · cases h
/-- pairs taken from what stands still -/
theorem row2 {K : Fg} {H : Hp} {ι : List Addr} {T : Addr} {x y : V} {dx dy : PyData} (hx : Rp K H x dx) (hy : Rp K H y dy) (hT : H T = none) : RI K (upd H T (.tup [x, y])) ι (.ref T) (.row [.p dx, .p dy]) := by
  have k : Keep H (upd H T (.tup [x, y])) := Keep.new hT
  exact ⟨T, [x, y], rfl, SqT.of upd_same, Rp.mono k _ _ hx, Rp.mono k _ _ hy, trivial⟩
theorem paired_get {xs ys : List PyData} {i : Nat} {d : Itm} (h : (paired xs ys)[i]? = some d) : ∃ x y, xs[i]? = some x ∧ ys[i]? = some y ∧ d = .row [.p x, .p y] := by
  unfold paired at h
  rw [List.getElem?_map] at h
  cases e : (xs.zip ys)[i]? with
  | none => rw [e] at h; cases h
  | some z =>
    rw [e] at h
    cases h
    obtain ⟨h1, h2⟩ := List.getElem?_zip_eq_some.mp e
    exact ⟨z.1, z.2, h1, h2, rfl⟩
theorem numbered_get {xs : List PyData} {i : Nat} {d : Itm} (h : (numbered xs)[i]? = some d) : ∃ x, xs[i]? = some x ∧ d = .row [.p (.int (i : Nat)), .p x] := by
  unfold numbered at h
  rw [List.getElem?_map, List.getElem?_zipIdx] at h
  cases e : xs[i]? with
  | none => rw [e] at h; cases h
  | some z =>
    rw [e] at h
    simp only [Option.map_some, Nat.zero_add, Option.some.injEq] at h
    exact ⟨z, rfl, h.symm⟩
theorem paired_len (xs ys : List PyData) : (paired xs ys).length = min xs.length ys.length := by unfold paired; rw [List.length_map, List.length_zip]
theorem numbered_len (xs : List PyData) : (numbered xs).length = xs.length := by unfold numbered; rw [List.length_map, List.length_zipIdx]
theorem its_zipT {K : Fg} {H : Hp} {ι : List Addr} {a b : Addr} {vs ws : List V} {xs ys : List PyData} (h1 : TupS K H a vs) (h2 : RpA K H vs xs) (h3 : TupS K H b ws) (h4 : RpA K H ws ys) (hz : xs.length ≤ sizeLine) : ItS K ι H (RZ.ItzT K a b) (paired xs ys) := by
  have l1 := h2.length
  have l2 := h4.length
  have ln := paired_len xs ys
  refine ⟨by omega, fun i H' hi k => ?_, fun H' k => ?_, fun i H' x H2 hi k hy => ?_⟩
  · exact ⟨vs, ws, vs[i], ws[i], (k.tupS h1).sq, (k.tupS h3).sq, List.getElem?_eq_getElem (by omega), List.getElem?_eq_getElem (by omega)⟩
  · exact ⟨vs, ws, (k.tupS h1).sq, (k.tupS h3).sq, by omega⟩
  · obtain ⟨T, x1, x2, rfl, hT, rfl, f1, f2⟩ := hy
    refine ⟨Same.put hT, fun d hd ι' _ => ?_⟩
    obtain ⟨dx, dy, ex, ey, rfl⟩ := paired_get hd
    obtain ⟨v, hv, rv⟩ := h2.get ex
    obtain ⟨w, hw, rw'⟩ := h4.get ey
    have e1 : x1 = v := Option.some.inj ((f1 vs (k.tupS h1).sq).symm.trans hv)
    have e2 : x2 = w := Option.some.inj ((f2 ws (k.tupS h3).sq).symm.trans hw)
    subst e1 e2
    exact row2 (Rp.mono k _ _ rv) (Rp.mono k _ _ rw') hT
theorem its_enumL {K : Fg} {H : Hp} {ι : List Addr} {a : Addr} {vs : List V} {xs : List PyData} (h1 : LstS K H a vs) (h2 : RpA K H vs xs) (hz : xs.length ≤ sizeLine) : ItS K ι H (Ite K a) (numbered xs) := by
  have l1 := h2.length
  have ln := numbered_len xs
  refine ⟨by omega, fun i H' hi k => ?_, fun H' k => ?_, fun i H' x H2 hi k hy => ?_⟩
  · exact ⟨vs, vs[i], (k.lstS h1).rd.sq, List.getElem?_eq_getElem (by omega)⟩
  · exact ⟨vs, (k.lstS h1).rd.sq, by omega⟩
  · obtain ⟨T, x1, rfl, hT, rfl, f1⟩ := hy
    refine ⟨Same.put hT, fun d hd ι' _ => ?_⟩
    obtain ⟨dx, ex, rfl⟩ := numbered_get hd
    obtain ⟨v, hv, rv⟩ := h2.get ex
    have e1 : x1 = v := Option.some.inj ((f1 vs (k.lstS h1).rd.sq).symm.trans hv)
    subst e1
    exact row2 (.int _) (Rp.mono k _ _ rv) hT
/-- all lengths of the arguments -/
theorem PA.len {es : List Expr} {t : TA} (h : PA X es t) : PA X es (fun σ H Q => t σ H fun vs H1 => (∀ v ∈ vs, LenOk X.K v H1) → Q vs H1) :=
  ⟨fun pos pins s σ H Q I q => thn (h.run pos pins s σ H _ I q) fun u s1 ⟨v, H1, I1, r, q1⟩ => ⟨v, H1, I1, r, q1 fun _ _ a xs _ hq => by
    rcases hq with hq | hq
    · obtain ⟨_, _, _, z⟩ := I1.list hq; exact z
    · obtain ⟨_, _, _, z⟩ := I1.tuple hq; exact z⟩⟩
variable {elts : List Expr} {kk : Nat} {tpos : Pos}
theorem si_zipT (hg : Gl X "zip") (hm : X.mg "zip" = none) (ha : PA X [a, b] (tAs X.K as)) (hs : starEach [a, b] X.env = (false, eval a X.env) :: starEach [b] X.env) (hpl : (backTo pos (starEach [b] X.env)).any (·.1) = false) :
    PI X (.Tuple elts kk tpos) (.Call (.Name "zip" p) [a, b] [] pos) (tI X.K (iZipT as)) := by
  refine PI.imp (RZ.pi_zipA hg hm (PA.len ha) hs hpl) fun σ H R ⟨ι, ρ, S, src, S', hH, hE, h, q⟩ => ?_
  unfold iZipT at h
  split at h
  · rename_i xs ys S1 h1
    cases h
    refine ⟨ι, ρ, S, _, _, hH, hE, h1, fun ι1 vs H1 w1 hH1 rv lk => ?_⟩
    obtain ⟨v, w, rfl, rd, re⟩ := rv.two
    obtain ⟨a1, vs, rfl, t1, t2⟩ := tup_of rd
    obtain ⟨a2, ws, rfl, t3, t4⟩ := tup_of re
    exact ⟨a1, a2, vs, ws, rfl, .inr ⟨t1.sq, t3.sq, q ι1 _ H1 w1 hH1 (its_zipT t1 t2 t3 t4 (by rw [← t2.length]; exact lk _ (by simp) _ _ rfl (.inr t1.sq)))⟩⟩
  · cases h
/-! enumerate of a text -/
def ItS' (x : Str) : It := ⟨fun i _ => i < x.cps.size, fun i H v H' => ∃ T c, v = .ref T ∧ H T = none ∧ H' = upd H T (.tup [.int (i : Nat), .str ⟨#[c]⟩]) ∧ x.cps[i]? = some c, fun i _ => i = x.cps.size⟩
theorem turn_enumS {P : Program} {w : World} {K : Fg} {x : Str} {t : Tok} (e it : Addr) :
    Turn P w K (.Tuple elts kk tpos) (ItS' x) [e, it] e (fun i h => (∃ old, IsEnum h e it ((i : Nat) : Int) old) ∧ h.IsStrIter it (strIterType x) x t i ∧ e ≠ it) where
  mem := by simp
  obj := fun i h st b hb => by
    obtain ⟨⟨old, he⟩, ⟨o, ho, hc, hd⟩, _⟩ := st
    have e' : b = e ∨ b = it := by simpa using hb
    rcases e' with z | z
    · rw [z]; exact ⟨_, he, fun v q => nomatch q⟩
    · rw [z]; exact ⟨o, ho, fun v q => by rw [hd] at q; cases q⟩
  keep := fun i h h' st k => let ⟨⟨old, he⟩, ⟨o, ho, r⟩, hne⟩ := st; ⟨⟨old, k e (by simp) _ he⟩, ⟨o, k it (by simp) o ho, r⟩, hne⟩
  item := by
    intro X hP hw hK hc i pins s σ H E I hf st hg
    subst hP hw hK
    obtain ⟨he, hit, hne⟩ := st
    have hlt : i < x.cps.size := hg
    have G := GoesN.enumFrom (A := X.A) (elts := elts) (x1 := kk) (pos := tpos) 0 (Draws.text (prog := X.prog) (w := X.w) (A := X.A.in1) (I.ok.hd hc) it x t) e hne (by simpa using hne) (by simp)
    have st0 : (∃ old, IsEnum s.heap e it (0 + (i : Int)) old) ∧ s.heap.IsStrIter it (strIterType x) x t i := ⟨by rw [Int.zero_add]; exact he, hit⟩
    refine G.goes i s _ E hlt st0 fun v h' tk hY st' hk htk => ?_
    obtain ⟨T, tt, y, rfl, hT, ⟨c, u, hc', rfl⟩, hTup⟩ := hY
    have hTn : H T = none := I.hok.fresh hT
    have new : ObjOk X.prog X.w (upd H T (.tup [.int (i : Nat), .str ⟨#[c]⟩])) h' T (.tup [.int (i : Nat), .str ⟨#[c]⟩]) :=
      ⟨by show 2 ≤ sizeLine; decide, [.int (0 + (i : Int)) tt, .str ⟨#[c]⟩ u], .cons ⟨_, by rw [Int.zero_add]⟩ (.cons ⟨_, rfl⟩ .nil), hTup⟩
    have I1 : Inv X pins σ (upd H T (.tup [.int (i : Nat), .str ⟨#[c]⟩])) { s with heap := h', toks := tk } := I.turnedNew (ch := [e, it]) hk hf hT new
    refine ⟨.ref T, _, I1, rfl, ⟨T, c, rfl, hTn, rfl, hc'⟩, ⟨?_, st'.2, hne⟩, fun b hb => ?_⟩
    · have := st'.1
      rw [Int.zero_add] at this
      exact this
    · have hb' : b < s.heap.objs.size := by
        have e' : b = e ∨ b = it := by simpa using hb
        rcases e' with z | z
        · rw [z]; obtain ⟨old, q⟩ := he; exact Heap.lt_size q
        · rw [z]; obtain ⟨o, q, _⟩ := hit; exact Heap.lt_size q
      rw [upd_ne (Nat.ne_of_lt (Nat.lt_of_lt_of_le hb' hT))]
      exact (hf b hb).1
  done := by
    intro X hP hw hK hc i pins s σ H E I hf st hg
    subst hP hw hK
    obtain ⟨he, hit, hne⟩ := st
    have hi : i = x.cps.size := hg
    subst hi
    have G := GoesN.enumFrom (A := X.A) (elts := elts) (x1 := kk) (pos := tpos) 0 (Draws.text (prog := X.prog) (w := X.w) (A := X.A.in1) (I.ok.hd hc) it x t) e hne (by simpa using hne) (by simp)
    refine G.stops s _ E ⟨by rw [Int.zero_add]; exact he, hit⟩ fun h' tk hk htk => ?_
    have nT : ∀ b u, H b = some u → b ∉ [e, it] := fun b u hb hm => by rw [(hf b hm).1] at hb; cases hb
    refine I.step (g' := s.gens) (d' := s.drawn) (ch := [e, it]) (fun b hb => ⟨(hf b hb).2.2.2.1, (hf b hb).2.1, (hf b hb).2.2.2.2.1, (hf b hb).2.2.2.2.2⟩) (fun b o _ _ hc e _ => hk b o hc e) (fun b o _ _ hc e _ => ⟨o.slots, hk b o hc e⟩)
      (fun b o _ _ n => n) (fun b o hc e => ⟨o, hk b o hc e⟩) (fun b xs e => e) (fun b o u e => e) (fun b ps e => ⟨#[], by rw [e]; simp⟩) (fun m hm => ?_) (fun b u hb => ?_) I.bare
    · obtain ⟨o, es, ep, ho, r⟩ := hm
      refine ⟨o, es, ep, hk _ o (fun z => ?_) ho, r⟩
      exact (hf _ z).2.1 rfl
    · refine (I.hok b u hb).stay (fun c v hc q => hk c v (fun z => ?_) q) (fun _ q => q) fun _ _ q => q
      rcases hc with rfl | hc
      · exact nT _ _ hb z
      · exact nT _ _ hc z
  self := fun A i s Q E st h => let ⟨⟨_, he⟩, _⟩ := st; wpAny_pyIter_enum he h
theorem its_enumS {K : Fg} {H : Hp} {ι : List Addr} {z : Str} (hz : z.length ≤ Lim) : ItS K ι H (ItS' z) (numbered (signs z)) := by
  have L := Lim_le
  have hz' : z.cps.size ≤ Lim := hz
  have ln := numbered_len (signs z)
  have l2 := signs_len z
  refine ⟨by omega, fun i H' hi k => ?_, fun H' k => ?_, fun i H' x H2 hi k hy => ?_⟩
  · show i < z.cps.size; omega
  · show _ = z.cps.size; omega
  · obtain ⟨T, c, rfl, hT, rfl, hc⟩ := hy
    refine ⟨Same.put hT, fun d hd ι' _ => ?_⟩
    obtain ⟨dx, ex, rfl⟩ := numbered_get hd
    unfold signs at ex
    rw [List.getElem?_map, Array.getElem?_toList, hc] at ex
    cases ex
    exact row2 (.int _) (.str _) hT
theorem si_enum (hg : Gl X "enumerate") (hm : X.mg "enumerate" = none) (ha : PE X a (tE X.K m)) (hs : starEach [a] X.env = [(false, eval a X.env)]) :
    PI X (.Tuple elts kk tpos) (.Call (.Name "enumerate" p) [a] [] pos) (tI X.K (iEnumS m)) := by
  have hs' : starEach (a :: []) X.env = (false, eval a X.env) :: starEach [] X.env := hs
  refine ⟨fun pins s σ H R I ⟨ι, ρ, S, src, S', hH, hE, h, q⟩ => ?_⟩
  unfold iEnumS at h
  split at h
  · rename_i z S1 h1
    split at h
    · rename_i hz
      cases h
      refine PyProof.Rows.Call_ (ld_blt I hg hm PyProof.Rows.boot_enumerate (PyProof.Rows.callWith_type1 (thn ((pa_cons ha pa_nil hs').run pos pins s σ H (fun vs H1 => ∃ ι1, vs = [.str z] ∧ Ext ι H ι1 H1 ∧ HR X.K H1 ι1 S') I ?_) fun us s1 ⟨vs, H1, I1, r1, ι1, ev, w1, hH1⟩ => ?_) hs rfl))
      · exact ⟨ι, ρ, S, _, _, hH, hE, h1, fun ι1 v H1 w1 hH1 rd => ⟨ι1, by rw [str_of rd], w1, hH1⟩⟩
      · subst ev
        obtain ⟨u, rfl, t, rfl⟩ := vals1 r1
        refine call_enumerate_str fun h' he hit hsz hk => wpAny_pyIter_enum he ?_
        have I2 : Inv X pins σ H1 { s1 with heap := h' } := I1.kept (t' := s1.toks) hk
        refine ⟨s1.heap.objs.size + 1, [s1.heap.objs.size + 1, s1.heap.objs.size], _, ItS' z, H1, rfl, I2, turn_enumS (t := t) (s1.heap.objs.size + 1) s1.heap.objs.size, ⟨⟨.none, he⟩, hit, Nat.succ_ne_self _⟩, fun b hb => ?_, q ι1 _ H1 w1 hH1 (its_enumS hz)⟩
        have e' : b = s1.heap.objs.size + 1 ∨ b = s1.heap.objs.size := by simpa using hb
        have hle : s1.heap.objs.size ≤ b := by
          rcases e' with z | z
          · rw [z]; exact Nat.le_add_right _ _
          · rw [z]; exact Nat.le_refl _
        exact I1.fpOk hle (I1.hok.fresh hle)
    · cases h
  · rename_i xs S1 h1
    cases h
    refine (pi_enum hg hm (PA.len (pa_cons ha pa_nil hs')) hs).run pins s σ H R I ⟨ι, ρ, S, _, _, hH, hE, h1, fun ι1 v H1 w1 hH1 rd lk => ?_⟩
    cases rd with
    | lst a1 a2 => exact ⟨_, _, rfl, a1.rd.sq, q ι1 _ H1 w1 hH1 (its_enumL a1 a2 (by rw [← a2.length]; exact lk _ (by simp) _ _ rfl (.inl a1.rd.sq)))⟩
  · cases h
end
end Tm
namespace Tm
open PySem L2

/-! ## defs: as FnOk, where nothing is being shown (guards) -/
structure FnG (P : Program) (w : World) (K : Fg) (mg : Str → Option Value) (base : Heap) (k : Nat) (f : Addr) (fd : FuncData) (ps : List Str) (sp : Sp) : Prop where
  len : ∀ vs H Q E, sp vs H Q E → vs.length = ps.length
  run : ∀ (A : Around) (outer : List Env) (s : Shared) (H : Hp) (args : Args) (us : List Value) (vs : List V) (Q : VK) (E : XK),
    A.guards = some [] → Room k A → Env0 P w K mg base A outer s H → BindsTo s fd args (ps.zip us) → Vals vs us → sp vs H Q E →
      codeAny (model P w) A (.call (.ref f) args) (CR CX0 outer P w H s Q E) s
section
variable {P : Program} {w : World} {K : Fg} {mg : Str → Option Value} {base : Heap} {k : Nat} {f : Addr} {fd : FuncData} {ps : List Str} {sp : Sp}
theorem FnG.up {j : Nat} (F : FnG P w K mg base j f fd ps sp) (h : j ≤ k) : FnG P w K mg base k f fd ps sp :=
  ⟨F.len, fun A outer s H args us vs Q E hg hr => F.run A outer s H args us vs Q E hg (hr.mono h)⟩
theorem fnG_of {x qual : Str} {st : Stmt} {N : List Str} (F : Fun K x qual st f fd) (S : FnScope N ps (defScope st)) (len : ∀ vs H Q E, sp vs H Q E → vs.length = ps.length)
    (hbody : ∀ (cdv : Value) (A : Around) (outer : List Env) (s : Shared) (H : Hp) (vs : List V) (Q : VK) (E : XK), A.guards = some [] → Room k (A.deeper (PyProof.Rows.envOfC qual (defScope st) s.heap.objs.size f cdv)) → sp vs H Q E →
      ∃ t, PSs (cxOf CX0 P w K mg base N qual (defScope st) f cdv A outer s H E).nox (defBody st) t ∧ t { nx := fun _ H' => Q .non H', rt := Q } (L2.start N vs) H) : FnG P w K mg base (k + 1) f fd ps sp := by
  obtain ⟨oc, od, kV, doc, pm, an, cd, ct, osl, rfl, lk, hcd⟩ := F.ex
  refine ⟨len, fun A outer s H args us vs Q E hg hr e0 hb r hsp => ?_⟩
  have hl := len _ _ _ _ hsp
  have inK : K.In s.heap := e0.mod.kin.keeps fun b o e => (e0.bs b o e).1
  have lim : s.heap.NoLimit := e0.mod.nolimit.keeps fun b o e => (e0.bs b o e).1
  refine codeAny_call_function hr.depth (inK _ _ lk) rfl S.co S.gen rfl (PySem.W.codeRec_of inK hcd) (hb _ _ _ _ ?_)
  refine wpAny_newFunctionEnv_cells S.kind ?_ fun env he s1 y => ?_
  · rintro ⟨n, v⟩ hy
    rcases S.par n (List.of_mem_zip hy).1 with q | q
    · exact .inl q
    · exact .inr ⟨q, PySem.W.cellsFrom_some _ _ _ (.inl q)⟩
  · subst he
    refine ⟨lim.keeps y.toInCall.keep, codeAny_func ?_⟩
    obtain ⟨t, ht, hq⟩ := hbody cd A outer s H vs Q E hg (hr.deeper _) hsp
    have J := inv_start (CX := CX0) (E := E) (mg := mg) (base := base) S hr.hd e0 hl r y
    have ends : ∀ {σ' : L2.St} {H' : Hp} {v : V} {u : Value} {s' : Shared}, Inv (cxOf CX0 P w K mg base N qual (defScope st) f cd A outer s H E) [] σ' H' s' → RelV v u → Q v H' → CE outer P w H s Q u s' :=
      fun {_ H' v _ _} I rv q => ⟨v, H', I.os, I.bare, I.base, I.hok, rv, q⟩
    refine wpAny_mono (ht.nox.run [] s1 (L2.start N vs) H _ J hq) (fun fl s' hs => ?_) fun e s' hs => hs
    cases fl with
    | ret u => obtain ⟨v, σ', H', I, rv, q⟩ := hs; exact ends I rv q
    | next => obtain ⟨σ', H', I, q⟩ := hs; exact ends (v := V.non) (u := Value.none) I rfl q
    | brk => obtain ⟨_, _, _, q⟩ := hs; exact q.elim
    | cont => obtain ⟨_, _, _, q⟩ := hs; exact q.elim
end
section
variable {X : Cx} {k : Nat} {f : Addr} {fd : FuncData} {ps : List Str} {n : Nat} {F : List D → Sto → Rs D} {x : Str} {p pos : Pos} {e : Expr} {es : List Expr} {mas : MA}
theorem run_G (G : FnG X.prog X.w X.K X.mg X.base k f fd ps (spF X.K n F)) (hg : X.A.guards = some []) (hr : Room k X.A) (hb : Binds X.K fd ps []) {pins : List (Addr × Obj)} {σ : L2.St} {H : Hp} {s : Shared} {Q : VK} {us : List Value} {vs : List V}
    (I : Inv X pins σ H s) (r : Vals vs us) (h : spF X.K n F vs H Q E0) : wpAny (model X.prog X.w) X.A (call (.ref f) us) (EP X pins σ Q) X.xe s := by
  have hl : (us ++ []).length = ps.length := by rw [List.append_nil, ← r.length]; exact G.len _ _ _ _ h
  have hb' := hb s us I.kIn hl
  rw [List.append_nil] at hb'
  refine wpAny_call (codeAny_mono (G.run X.A X.stack s H ⟨us, []⟩ us vs Q E0 hg hr I.env0 hb' r h) fun z s' hq => ?_)
  cases z with
  | error e => exact hq.elim
  | ok fl =>
    cases fl with
    | ret u => exact I.after hq
    | next => exact hq.elim
    | brk => exact hq.elim
    | cont => exact hq.elim
theorem s_call (G : FnG X.prog X.w X.K X.mg X.base k f fd ps (spF X.K n F)) (hg' : X.A.guards = some []) (hr : Room k X.A) (hg : Gl X x) (hm : X.mg x = some (.ref f)) (hk : PySem.W.keepIn X.K (.ref f) = true) (hb : Binds X.K fd ps []) (hn : ∀ ds S z, F ds S = some z → ds.length = n)
    (ha : PA X (e :: es) (tAs X.K mas)) (hdb : (x == ("__debug__" : Str)) = false) (he : starEach (e :: es) X.env = (false, eval e X.env) :: starEach es X.env) (hpl : (backTo pos (starEach es X.env)).any (·.1) = false) :
    PE X (.Call (.Name x p) (e :: es) [] pos) (tE X.K (mN F mas)) := by
  refine ⟨fun pins s σ H Q I ⟨ι, ρ, S, z, S', hH, hE, e', q⟩ => ?_⟩
  unfold mN at e'
  split at e'
  · rename_i ds S1 h1
    refine wpAny_Call_Name_kw (ld_glob I hg hm ?_ hdb)
    refine PySem.W.callWith_K (h₀ := X.base) I.ok.mod.kin hk (thn (ha.run pos pins s σ H (fun vs H1 => spF X.K n F vs H1 Q E0) I ⟨ι, ρ, S, ds, S1, hH, hE, h1, fun ι1 vs H1 w1 hH1 rv => ⟨ι1, S1, ds, z, S', hH1, rv, hn _ _ _ e', e', q.of w1⟩⟩) fun us s1 ⟨vs, H1, I1, r, qq⟩ => ⟨I1.kIn, ?_⟩) he hpl
    exact run_G G hg' hr hb I1 r qq
  · cases e'
theorem s_call0 (G : FnG X.prog X.w X.K X.mg X.base k f fd ps (spF X.K n F)) (hg' : X.A.guards = some []) (hr : Room k X.A) (hg : Gl X x) (hm : X.mg x = some (.ref f)) (hk : PySem.W.keepIn X.K (.ref f) = true) (hb : Binds X.K fd ps []) (hn : ∀ ds S z, F ds S = some z → ds.length = n)
    (hdb : (x == ("__debug__" : Str)) = false) : PE X (.Call (.Name x p) [] [] pos) (tE X.K (mN F maNil)) := by
  refine ⟨fun pins s σ H Q I ⟨ι, ρ, S, z, S', hH, hE, e', q⟩ => ?_⟩
  have e' : F [] S = some (z, S') := e'
  refine wpAny_Call_Name_kw (ld_glob I hg hm ?_ hdb)
  exact PySem.W.callWith_K0 I.kIn hk (run_G (us := []) G hg' hr hb I .nil ⟨ι, S, [], z, S', hH, trivial, hn _ _ _ e', e', q⟩)
end
/-! ## a def of the plain side -/
/-- its body, run with the arguments in the first slots -/
def runF (n N : Nat) (b : MS) : List D → Sto → Rs D := fun ds S => if ds.length = n then (match b (ds.map some ++ List.replicate (N - n) none) S with
  | some (.rt d, S1) => some (d, S1)
  | some (.nx _, S1) => some (.p .none, S1)
  | _ => none) else none
theorem runF_len {n N : Nat} {b : MS} {ds : List D} {S : Sto} {z : D × Sto} (h : runF n N b ds S = some z) : ds.length = n := by
  unfold runF at h
  split at h
  · assumption
  · cases h
theorem er_start {K : Fg} {H : Hp} {ι : List Addr} : ∀ {vs : List V} {ds : List D} (m : Nat), RDs K H ι vs ds → ER K H ι (vs.map some ++ List.replicate m none) (ds.map some ++ List.replicate m none)
  | [], [], m, _ => ⟨by simp, fun i d e => by
    rw [List.map_nil, List.nil_append, List.getElem?_replicate] at e
    split at e <;> cases e⟩
  | v :: vs, d :: ds, m, ⟨h1, h2⟩ => by
    have ih := er_start m h2
    refine ⟨by have := ih.len; simp at this ⊢; omega, fun i d' e => ?_⟩
    cases i with
    | zero => simp at e; subst e; exact ⟨v, rfl, h1⟩
    | succ i => exact ih.at_ i d' (by simpa using e)
theorem fn_plain {P : Program} {w : World} {K : Fg} {mg : Str → Option Value} {base : Heap} {k : Nat} {f : Addr} {fd : FuncData} {x qual : Str} {st : Stmt} {N ps : List Str} {b : MS} (F : Fun K x qual st f fd) (S : FnScope N ps (defScope st)) (hN : ps.length ≤ N.length)
    (hb : ∀ (cdv : Value) (A : Around) (outer : List Env) (s : Shared) (H : Hp) (E : XK), A.guards = some [] → Room k (A.deeper (PyProof.Rows.envOfC qual (defScope st) s.heap.objs.size f cdv)) →
      PSs (cxOf CX0 P w K mg base N qual (defScope st) f cdv A outer s H E).nox (defBody st) (tS K b)) : FnG P w K mg base (k + 1) f fd ps (spF K ps.length (runF ps.length N.length b)) := by
  refine fnG_of F S (fun vs H Q E ⟨ι, S, ds, z, S', _, rv, hl, _⟩ => by rw [rv.length, hl]) fun cdv A outer s H vs Q E hg hr ⟨ι, S0, ds, z, S', hH, rv, hl, e, q⟩ => ⟨_, hb cdv A outer s H E hg hr, ?_⟩
  unfold runF at e
  rw [if_pos hl] at e
  have hv : vs.length = ps.length := by rw [rv.length, hl]
  have er : ER K H ι (L2.start N vs) (ds.map some ++ List.replicate (N.length - ps.length) none) := by
    unfold L2.start
    rw [hv]
    exact er_start _ rv
  split at e
  · rename_i d S1 h1
    cases e
    exact ⟨ι, _, S0, _, _, hH, er, h1, q⟩
  · rename_i ρ S1 h1
    cases e
    exact ⟨ι, _, S0, _, _, hH, er, h1, fun ι' σ' H' w hH' _ => q ι' .non H' w hH' .non⟩
  · cases e
/-! ## further expressions: a module's constant, isinstance, a written dict -/
def GlobOk (K : Fg) (mg : Str → Option Value) (x : Str) (d : PyData) : Prop := ∃ v u, mg x = some u ∧ RelV v u ∧ ∀ H, Rp K H v d
def DictOk (K : Fg) (w : World) (mg : Str → Option Value) (x : Str) (tbl : List (Str × PyData)) : Prop := ∃ a, mg x = some (.ref a) ∧ ∀ y d, tbl.lookup y = some d → ∃ v, KDct K w a y v ∧ ∀ H, Rp K H v d
def gDix (tbl : List (Str × PyData)) : D → Sto → Rs D := fun b S => match b with
  | .p (.str z) => (match tbl.lookup z with
    | some d => ok d S
    | none => none)
  | _ => none
section
variable {X : Cx} {x : Str} {p pos : Pos} {a b : Expr} {m : M}
theorem s_glob {d : PyData} (hg : Gl X x) (h : GlobOk X.K X.mg x d) (hd : (x == ("__debug__" : Str)) = false) : PE X (.Name x pos) (tE X.K (mC d)) := by
  obtain ⟨v, u, hm, r, hr⟩ := h
  exact s_c (pe_glob hg hm r hd) hr
theorem s_dix {tbl : List (Str × PyData)} (hg : Gl X x) (h : DictOk X.K X.w X.mg x tbl) (hd : (x == ("__debug__" : Str)) = false) (hb : PE X b (tE X.K m)) (hs : PlainIx b) : PE X (.Subscript (.Name x p) b pos) (tE X.K (m1 (gDix tbl) m)) := by
  obtain ⟨ad, hm, ht⟩ := h
  refine PE.imp (pe_ix ix_kdict (pe_glob (v := .ref ad) hg hm rfl hd) hb hs) fun σ H Q ⟨ι, ρ, S, z, S', hH, hE, e, q⟩ => ?_
  unfold m1 at e
  split at e
  · rename_i y S1 h1
    unfold gDix ok at e
    split at e
    · rename_i s
      split at e
      · rename_i d hl
        cases e
        obtain ⟨v, kd, hr⟩ := ht _ _ hl
        exact ⟨ι, ρ, S, _, _, hH, hE, h1, fun ι1 w H1 w1 hH1 rw' => ⟨ad, _, v, rfl, str_of rw', kd, q ι1 v H1 w1 hH1 (hr H1)⟩⟩
      · cases e
    · cases e
  · cases e
theorem s_isa {T : String} {y : Str} {py : Pos} (hT : T ∈ isTys) (hg : Gl X "isinstance") (hm : X.mg "isinstance" = none) (hgT : Gl X y) (hmT : X.mg y = none) (hvT : bootBuiltins y = some (.type T)) (hnT : y ≠ "__name__") (hdT : (y == ("__debug__" : Str)) = false)
    (ha : PE X a (tE X.K m)) (he : starEach [a, .Name y py] X.env = (false, eval a X.env) :: starEach [.Name y py] X.env) (hpl : (backTo pos (starEach [.Name y py] X.env)).any (·.1) = false) :
    PE X (.Call (.Name "isinstance" p) [a, .Name y py] [] pos) (tE X.K (m1 (gIsa T) m)) := by
  have hty : PE X (.Name y py) (tC (.ty T)) := pe_bltn hgT hmT hvT rfl hnT hdT
  refine PE.imp (pe_callB call_isi hg hm (by decide +kernel) (pa_cons ha (pa_cons hty pa_nil) he) (by decide) (by decide) he hpl) fun σ H Q ⟨ι, ρ, S, z, S', hH, hE, e, q⟩ => ?_
  unfold m1 at e
  split at e
  · rename_i y S1 h1
    unfold gIsa ok at e
    split at e
    · rename_i d hd
      cases e
      refine ⟨ι, ρ, S, _, _, hH, hE, h1, fun ι1 w H1 w1 hH1 rw' => ?_⟩
      obtain ⟨t1, t2⟩ := dp_ty (data_of hH1 rw' hd)
      exact ⟨w, .ty T, _, _, isaB (tyName d) T, rfl, .ty T, t1, kit_ty (isa_kit hT t2), q ι1 _ H1 w1 hH1 (.bl _)⟩
    · cases e
  · cases e
end
/-! ## x[::-1] -/
def strRev (x : Str) : Str := ⟨x.cps.toList.reverse.toArray⟩
theorem strRev_eq (x : Str) (u : Tok) : Txt.sliceBy x none none (-1, u) = strRev x := by
  have h := PyProof.Rows.step_rev_list x u
  refine PySem.W.str_of_cps ?_
  rw [h]
  unfold strRev
  refine List.ext_getElem? fun i => ?_
  simp only [List.getElem?_map, List.getElem?_range', Str.length]
  by_cases c : i < x.cps.size
  · rw [List.getElem?_range c]
    have c2 : x.cps.size - 1 - i < x.cps.size := by omega
    simp [Array.getD, c2, List.getElem?_reverse, c, Array.getElem?_eq_getElem]
  · rw [List.getElem?_eq_none (by simp; omega), List.getElem?_eq_none (by simp; omega)]; rfl
def gRev : D → Sto → Rs D := fun d S => match dataOf d S with
  | some (.list xs) => ok (.list xs.reverse) S
  | some (.str x) => if x.length ≤ Lim then ok (.str (strRev x)) S else none
  | _ => none
section
variable {X : Cx} {a : Expr} {m : M} {k : Nat} {p1 p2 p3 pos : Pos}
def tRevS (te : TE) : TE := fun σ H Q => te σ H fun x H1 => ∃ z : Str, x = .str z ∧ z.length ≤ sizeLine ∧ Q (.str (strRev z)) H1
theorem pe_revS {e : Expr} {te : TE} (he : PE X e te) : PE X (.Subscript e (.Slice none none (some (.UnaryOp .USub (.Constant (.int 1) k p1) p2)) p3) pos) (tRevS te) := by
  refine ⟨fun pins s σ H Q I h => ?_⟩
  refine PyProof.Rows.Subscript_ (thn (he.run pins s σ H _ I h) fun v s1 ⟨x, H1, I1, r1, z, ex, hz, q⟩ => ?_)
  subst ex
  obtain ⟨t, rfl⟩ := r1
  have step : PO X (some (.UnaryOp .USub (.Constant (.int 1) k p1) p2)) (tPart (tUn (rU fun i => .int (-i)) (tC (.int 1)))) := po_some (pe_un un_neg pe_int)
  refine wpAny_Slice (thn (po_none.run pins s1 σ H1 (fun o H2 => o = none ∧ H2 = H1) I1 ⟨rfl, rfl⟩) fun vl s2 ⟨l, H2, I2, pl, el, e2⟩ => ?_)
  subst el e2
  refine thn (po_none.run pins s2 σ H2 (fun o H3 => o = none ∧ H3 = H2) I2 ⟨rfl, rfl⟩) fun vu s3 ⟨u, H3, I3, pu, eu, e3⟩ => ?_
  subst eu e3
  refine thn (step.run pins s3 σ H3 (fun o H4 => o = some (-1) ∧ H4 = H3) I3 ⟨1, rfl, -1, rfl, rfl, rfl⟩) fun vs s4 ⟨o, H4, I4, ps, eo, e4⟩ => ?_
  subst eo e4
  cases pl
  cases pu
  obtain ⟨uk, rfl⟩ : ∃ uk, vs = .int (-1) uk := by cases ps; exact ⟨_, rfl⟩
  have I5 : Inv X pins σ H4 { s4 with heap := s4.heap.push { cls := .type "slice", data := .fields #[.none, .none, .int (-1) uk] } } := I4.kept (t' := s4.toks) fun b ob q => Heap.get?_push_of_some _ q
  refine PyProof.Rows.tail_any (ops := [.ref s4.heap.objs.size, .str z t]) (PySem.typeIs_str _ _ _) PySem.F.slot_str_getitem.lookup ?_ (by with_unfolding_all rfl)
  refine PySem.wpAny_getItem_str_slice (l := none) (u := none) (st := some (-1, uk)) ⟨_, Heap.get?_push_size _ rfl, rfl, rfl⟩ rfl ?_
  refine PySem.post_val_or_str ⟨Nat.le_trans (Txt.sliceBy_le z none none (-1, uk) (show (-1 : Int) ≠ 0 by decide)) hz, fun t' c => ?_⟩
  refine ⟨.str (strRev z), H4, I5.tok c, ⟨t', ?_⟩, q⟩
  rw [← strRev_eq z uk]; rfl
theorem s_revL (ha : PE X a (tE X.K m)) : PE X (.Subscript a (.Slice none none (some (.UnaryOp .USub (.Constant (.int 1) k p1) p2)) p3) pos) (tE X.K (m1 gRev m)) := by
  have L := Lim_le
  refine ⟨fun pins s σ H Q I ⟨ι, ρ, S, z, S', hH, hE, e, q⟩ => ?_⟩
  unfold m1 at e
  split at e
  · rename_i y S1 h1
    unfold gRev ok at e
    split at e
    · rename_i xs hd
      cases e
      refine (PE.freeze (pe_revL ha)).run pins s σ H Q I ⟨ι, ρ, S, _, _, hH, hE, h1, fun ι1 w H1 w1 hH1 rw' => ?_⟩
      obtain ⟨b, ys, rfl, t1, t2⟩ := items2 hH1 rw' hd
      exact ⟨b, ys, rfl, t1.sq, fun p hp => fz_aft q w1 hp hH1 t2.reverse⟩
    · rename_i x hd
      split at e
      · rename_i hl
        cases e
        refine (pe_revS ha).run pins s σ H Q I ⟨ι, ρ, S, _, _, hH, hE, h1, fun ι1 w H1 w1 hH1 rw' => ?_⟩
        exact ⟨x, str2 rw' hd, Nat.le_trans hl L, q ι1 _ H1 w1 hH1 (.str _)⟩
      · cases e
    · cases e
  · cases e
end
end Tm
namespace Tm
open PySem L2

/-! ## the text, in plain words -/
inductive Bin where
  | add | sub | mul | div | mod | pow
def Bin.op : Bin → Operator
  | .add => .Add | .sub => .Sub | .mul => .Mult | .div => .FloorDiv | .mod => .Mod | .pow => .Pow
def Bin.fn : Bin → D → D → Sto → Rs D
  | .add => gAdd | .sub => gSub | .mul => gMul | .div => gDiv | .mod => gMod | .pow => gPow
def Bin.is : Bin → Operator → Bool
  | .add, .Add => true | .sub, .Sub => true | .mul, .Mult => true | .div, .FloorDiv => true | .mod, .Mod => true | .pow, .Pow => true
  | _, _ => false
inductive Cm where
  | eq | ne | lt | le | gt | ge | is | isnot | isin | notin
def Cm.op : Cm → CmpOp
  | .eq => .Eq | .ne => .NotEq | .lt => .Lt | .le => .LtE | .gt => .Gt | .ge => .GtE | .is => .Is | .isnot => .IsNot | .isin => .In | .notin => .NotIn
def Cm.fn : Cm → D → D → Sto → Rs D
  | .eq => gEq | .ne => gNe | .lt => gLess | .le => gLe | .gt => gGt | .ge => gGe | .is => gIs | .isnot => gIsNot | .isin => gIn | .notin => gNotIn
def Cm.ok : Cm → CmpOp → Bool
  | .eq, .Eq => true | .ne, .NotEq => true | .lt, .Lt => true | .le, .LtE => true | .gt, .Gt => true | .ge, .GtE => true | .is, .Is => true | .isnot, .IsNot => true | .isin, .In => true | .notin, .NotIn => true
  | _, _ => false
/-- built-ins called by their name -/
inductive Pr where
  | len | max2 | min2 | max1 | min1 | int | all | any | sum | tuple | list | listM | sorted | sortedM | repr
def Pr.name : Pr → String
  | .len => "len" | .max2 => "max" | .min2 => "min" | .max1 => "max" | .min1 => "min" | .int => "int" | .all => "all" | .any => "any" | .sum => "sum"
  | .tuple => "tuple" | .list => "list" | .listM => "list" | .sorted => "sorted" | .sortedM => "sorted" | .repr => "repr"
def Pr.fn : Pr → List D → Sto → Rs D
  | .len => gLen | .max2 => gMax | .min2 => gMin | .max1 => gMax1 | .min1 => gMin1 | .int => gInt | .all => gAll | .any => gAny | .sum => gSum
  | .tuple => gTupleOf | .list => gListOf | .listM => gListOfM | .sorted => gSorted | .sortedM => gSortedM | .repr => gRepr
/-- methods of built-ins -/
inductive Mt where
  | append | pop | extend | index | indexT | indexS | join
def Mt.ty : Mt → String
  | .append => "list" | .pop => "list" | .extend => "list" | .indexS => "str" | .index => "list" | .indexT => "tuple" | .join => "str"
def Mt.name : Mt → String
  | .append => "append" | .pop => "pop" | .extend => "extend" | .indexS => "index" | .index => "index" | .indexT => "index" | .join => "join"
def Mt.fn : Mt → D → List D → Sto → Rs D
  | .append => gAppend | .pop => gPop | .extend => gExtend | .indexS => gIndexS | .index => gIndex | .indexT => gIndexT | .join => gJoin
mutual
inductive E where
  | var (i : Nat) | int (i : Int) | bl (b : Bool) | non | str (x : Str)
  | glob (x : Str) (d : PyData)
  | bin (o : Bin) (a b : E)
  | cmp (o : Cm) (a b : E)
  | chn (o p : Cm) (a b c : E)
  | neg (a : E) | not (a : E)
  | and (as : Es) | or (as : Es)
  | ife (c a b : E)
  | call (x : Str) (n : Nat) (F : List D → Sto → Rs D) (as : Es)
  | prim (p : Pr) (as : Es)
  | isa (a : E) (T : String)
  | meth (m : Mt) (o : E) (as : Es)
  | ix (a b : E) | sl (a : E) (lo hi : Op) | rev (a : E)
  | dix (x : Str) (tbl : List (Str × PyData)) (b : E)
  | tup (as : Es) | lst (mt : Bool) (as : Es)
  | comp (mt : Bool) (it : Wk) (tg : Tg) (c : Op) (e : E) (own : List (Str × Nat))
inductive Es where
  | nil | cons (a : E) (as : Es)
inductive Op where
  | no | yes (a : E)
inductive Wk where
  | val (a : E) | r1 (as : Es) | r2 (as : Es) | enum (a : E) | zip (as : Es)
inductive Tg where
  | nm (i : Nat) | tup (n : Nat) (ts : Tgs) | sub (o i : E)
inductive Tgs where
  | nil | cons (t : Tg) (ts : Tgs)
end
mutual
inductive St' where
  | pass | brk | cont | never
  | ret (e : E) | expr (e : E)
  | asg (t : Tg) (e : E)
  | par (ts : Tgs) (es : Es)
  | ife (c : E) (a b : Ss)
  | loop (tg : Tg) (it : Wk) (b : Ss)
  | whl (c : E) (b : Ss)
inductive Ss where
  | nil | cons (s : St') (ss : Ss)
end
/-! ### what it means -/
mutual
def den : E → M
  | .var i => mVar i
  | .int i => mC (.int i)
  | .bl b => mC (.bool b)
  | .non => mC .none
  | .str x => mC (.str x)
  | .glob _ d => mC d
  | .bin o a b => m2 o.fn (den a) (den b)
  | .cmp o a b => m2 o.fn (den a) (den b)
  | .chn o p a b c => mChain o.fn p.fn (den a) (den b) (den c)
  | .neg a => m1 gNeg (den a)
  | .not a => m1 gNot (den a)
  | .and as => denAnd as
  | .or as => denOr as
  | .ife c a b => mIf (denT c) (den a) (den b)
  | .call _ _ F as => mN F (dens as)
  | .prim p as => mN p.fn (dens as)
  | .isa a T => m1 (gIsa T) (den a)
  | .meth m o as => mMt m.ty m.fn (den o) (dens as)
  | .ix a b => m2 gIx (den a) (den b)
  | .sl a lo hi => mSl (den a) (denO lo) (denO hi)
  | .rev a => m1 gRev (den a)
  | .dix _ tbl b => m1 (gDix tbl) (den b)
  | .tup as => mN gTuple (dens as)
  | .lst mt as => mN (if mt then gListM else gList) (dens as)
  | .comp mt it tg c e own => (if mt then mCompM else mComp) (denI it) (denG tg) (denC c) (den e) (own.map (·.2))
def dens : Es → MA
  | .nil => maNil
  | .cons a as => maCons (den a) (dens as)
def denAnd : Es → M
  | .nil => fun _ _ => none
  | .cons a as => match as with
    | .nil => den a
    | .cons _ _ => mAnd (den a) (denAnd as)
def denOr : Es → M
  | .nil => fun _ _ => none
  | .cons a as => match as with
    | .nil => den a
    | .cons _ _ => mOr (den a) (denOr as)
/-- as a test -/
def denT : E → MB
  | .not a => bNot (denT a)
  | .and as => denAndT as
  | .or as => denOrT as
  | .var i => bV (mVar i)
  | .bl b => bV (mC (.bool b))
  | .glob _ d => bV (mC d)
  | .cmp o a b => bV (m2 o.fn (den a) (den b))
  | .chn o p a b c => bV (mChain o.fn p.fn (den a) (den b) (den c))
  | .call _ _ F as => bV (mN F (dens as))
  | .prim p as => bV (mN p.fn (dens as))
  | .isa a T => bV (m1 (gIsa T) (den a))
  | .ix a b => bV (m2 gIx (den a) (den b))
  | _ => fun _ _ => none
def denAndT : Es → MB
  | .nil => fun _ _ => none
  | .cons a as => match as with
    | .nil => denT a
    | .cons _ _ => bAnd (denT a) (denAndT as)
def denOrT : Es → MB
  | .nil => fun _ _ => none
  | .cons a as => match as with
    | .nil => denT a
    | .cons _ _ => bOr (denT a) (denOrT as)
def denO : Op → MO
  | .no => moNone
  | .yes a => moSome (den a)
/-- a comprehension's if -/
def denC : Op → MB
  | .no => bYes
  | .yes a => denT a
def denI : Wk → MI
  | .val a => iVal (den a)
  | .r1 as => iRange1 (dens as)
  | .r2 as => iRange2 (dens as)
  | .enum a => iEnumS (den a)
  | .zip as => iZipT (dens as)
def denG : Tg → MG
  | .nm i => gNm i
  | .tup n ts => gTp n (denGs ts)
  | .sub o i => gSb fSet (den o) (den i)
def denGs : Tgs → MGs
  | .nil => gNl
  | .cons t ts => gCs (denG t) (denGs ts)
end
mutual
def denS : St' → MS
  | .pass => msNil
  | .brk => msBreak
  | .cont => msCont
  | .never => msNever
  | .ret e => msRet (den e)
  | .expr e => msExpr (den e)
  | .asg t e => msAsg (den e) (denG t)
  | .par ts es => msPar (dens es) (denGs ts)
  | .ife c a b => msIf (denT c) (denSs a) (denSs b)
  | .loop tg it b => msFor (denI it) (denG tg) (denSs b)
  | .whl c b => msWhile (denT c) (denSs b)
def denSs : Ss → MS
  | .nil => msNil
  | .cons s ss => msSeq (denS s) (denSs ss)
end
/-! ### does it fit the row's text? -/
structure Ck where
  N : List Str
  sc : Scope
  fn : Str → Bool
def Ck.vis (c : Ck) (x : Str) : Bool := match c.sc.names.lookup x with
  | some .local => true
  | some .cell => true
  | some .free => true
  | _ => false
def Ck.loc (c : Ck) (x : Str) : Bool := match c.sc.names.lookup x with
  | some .local => true
  | some .cell => c.fn x
  | _ => false
def Ck.gl (c : Ck) (x : Str) : Bool := match c.sc.names.lookup x with
  | some .globalImplicit => true
  | _ => false
def plainN (x : Str) : Bool := !(x == ("__debug__" : Str)) && !(x == ("__classdict__" : Str)) && !(x == ("__name__" : Str))
def notStar : Expr → Bool
  | .Starred _ _ => false
  | _ => true
def notComp : Expr → Bool
  | .ListComp _ _ _ _ => false
  | .SetComp _ _ _ _ => false
  | .DictComp _ _ _ _ _ => false
  | _ => true
def notSlice : Expr → Bool
  | .Slice _ _ _ _ => false
  | _ => true
def notSet : Expr → Bool
  | .Set _ _ _ => false
  | _ => true
def notName : Expr → Bool
  | .Name _ _ => false
  | _ => true
def notList : Expr → Bool
  | .List _ _ => false
  | _ => true
def notTuple : Expr → Bool
  | .Tuple _ _ _ => false
  | _ => true
/-- no call of nothing by a name (super) -/
def notCall0 : Expr → Bool
  | .Call _ [] [] _ => false
  | _ => true
/-- may stand as a test -/
def okT : E → Bool
  | .not _ => true | .and _ => true | .or _ => true | .var _ => true | .bl _ => true | .glob _ _ => true | .cmp _ _ _ => true | .chn _ _ _ _ _ => true
  | .call _ _ _ _ => true | .prim _ _ => true | .isa _ _ => true | .ix _ _ => true
  | _ => false
def Es.len : Es → Nat
  | .nil => 0
  | .cons _ as => as.len + 1
def Tgs.len : Tgs → Nat
  | .nil => 0
  | .cons _ as => as.len + 1
def prOk (p : Pr) (n : Nat) : Bool := match p with
  | .max2 => n == 2
  | .min2 => n == 2
  | _ => n == 1
mutual
def chk (c : Ck) : E → Expr → Bool
  | .var i, e => (match e with
    | .Name x _ => decide (c.N[i]? = some x) && c.vis x && plainN x
    | _ => false)
  | .int i, e => (match e with
    | .Constant (.int j) _ _ => decide (i = j)
    | _ => false)
  | .bl b, e => (match e with
    | .Constant (.bool j) _ _ => decide (b = j)
    | _ => false)
  | .non, e => (match e with
    | .Constant .none _ _ => true
    | _ => false)
  | .str x, e => (match e with
    | .Constant (.str y) _ _ => decide (x = y)
    | _ => false)
  | .glob x _, e => (match e with
    | .Name y _ => decide (x = y) && c.gl y && plainN y
    | _ => false)
  | .bin o a b, e => (match e with
    | .BinOp l op r _ => o.is op && chk c a l && chk c b r
    | _ => false)
  | .cmp o a b, e => (match e with
    | .Compare l [op] [r] _ => o.ok op && chk c a l && chk c b r && notSet r
    | _ => false)
  | .chn o p a b d, e => (match e with
    | .Compare l [op, op'] [m, r] _ => o.ok op && p.ok op' && chk c a l && chk c b m && chk c d r && notSet r
    | _ => false)
  | .neg a, e => (match e with
    | .UnaryOp .USub x _ => chk c a x
    | _ => false)
  | .not a, e => (match e with
    | .UnaryOp .Not x _ => okT a && chk c a x
    | _ => false)
  | .and as, e => (match e with
    | .BoolOp .And es _ => chks c as es && chksT as && decide (0 < as.len)
    | _ => false)
  | .or as, e => (match e with
    | .BoolOp .Or es _ => chks c as es && chksT as && decide (0 < as.len)
    | _ => false)
  | .ife t a b, e => (match e with
    | .IfExp t' a' b' _ => okT t && chk c t t' && chk c a a' && chk c b b'
    | _ => false)
  | .call x n _ as, e => (match e with
    | .Call (.Name y _) es [] _ => decide (x = y) && c.gl y && plainN y && chks c as es && decide (as.len = n)
    | _ => false)
  | .prim p as, e => (match e with
    | .Call (.Name y _) es [] _ => decide (y = Str.ofString p.name) && c.gl y && chks c as es && prOk p as.len
    | _ => false)
  | .isa a T, e => (match e with
    | .Call (.Name y _) [b, .Name z _] [] _ => decide (y = Str.ofString "isinstance") && c.gl y && decide (z = Str.ofString T) && c.gl z && isTys.contains T && chk c a b && notStar b
    | _ => false)
  | .meth m o as, e => (match e with
    | .Call (.Attribute o' y ap) es [] cp => decide (y = Str.ofString m.name) && chk c o o' && chks c as es && notCall0 o' && (ap.endLine == cp.line) && decide (as.len < 20) && (match m with | .pop => as.len == 0 | _ => as.len == 1)
    | _ => false)
  | .ix a b, e => (match e with
    | .Subscript x y _ => chk c a x && chk c b y && notSlice y
    | _ => false)
  | .sl a lo hi, e => (match e with
    | .Subscript x (.Slice l h none _) _ => chk c a x && chkO c lo l && chkO c hi h
    | _ => false)
  | .rev a, e => (match e with
    | .Subscript x (.Slice none none (some (.UnaryOp .USub (.Constant (.int j) _ _) _)) _) _ => decide (j = 1) && chk c a x
    | _ => false)
  | .dix x _ b, e => (match e with
    | .Subscript (.Name y _) z _ => decide (x = y) && c.gl y && plainN y && chk c b z && notSlice z
    | _ => false)
  | .tup as, e => (match e with
    | .Tuple es _ _ => chks c as es
    | _ => false)
  | .lst _ as, e => (match e with
    | .List es _ => chks c as es
    | _ => false)
  | .comp _ it tg cd el own, e => (match e with
    | .ListComp elt [⟨tg', iter, ifs, a⟩] scope _ => decide (a = 0) && chkI c it tg' iter && notSet iter && blkC c.N c.sc scope own
        && chkG ⟨c.N, relS scope c.sc, fun x => scope.names.lookup x == some .cell⟩ (own.map (·.2)) tg tg'
        && chkC ⟨c.N, relS scope c.sc, fun x => scope.names.lookup x == some .cell⟩ cd ifs
        && chk ⟨c.N, relS scope c.sc, fun x => scope.names.lookup x == some .cell⟩ el elt
    | _ => false)
def chks (c : Ck) : Es → List Expr → Bool
  | .nil, es => (match es with
    | [] => true
    | _ => false)
  | .cons a as, es => (match es with
    | e :: r => chk c a e && notStar e && chks c as r
    | [] => false)
def chksT : Es → Bool
  | .nil => true
  | .cons a as => okT a && chksT as
def chkO (c : Ck) : Op → Option Expr → Bool
  | .no, e => (match e with
    | none => true
    | some _ => false)
  | .yes a, e => (match e with
    | some e => chk c a e
    | none => false)
def chkC (c : Ck) : Op → List Expr → Bool
  | .no, e => (match e with
    | [] => true
    | _ => false)
  | .yes a, e => (match e with
    | [e] => okT a && chk c a e
    | _ => false)
def chkI (c : Ck) : Wk → Expr → Expr → Bool
  | .val a, _, e => chk c a e
  | .r1 as, _, e => (match e with
    | .Call (.Name y _) es [] _ => decide (y = Str.ofString "range") && c.gl y && chks c as es && decide (as.len = 1)
    | _ => false)
  | .r2 as, _, e => (match e with
    | .Call (.Name y _) es [] _ => decide (y = Str.ofString "range") && c.gl y && chks c as es && decide (as.len = 2)
    | _ => false)
  | .enum a, t, e => (match t, e with
    | .Tuple _ _ _, .Call (.Name y _) [x] [] _ => decide (y = Str.ofString "enumerate") && c.gl y && chk c a x && notStar x
    | _, _ => false)
  | .zip as, t, e => (match t, e with
    | .Tuple _ _ _, .Call (.Name y _) es [] _ => decide (y = Str.ofString "zip") && c.gl y && chks c as es && decide (as.len = 2)
    | _, _ => false)
def chkG (c : Ck) (ws : List Nat) : Tg → Expr → Bool
  | .nm i, e => (match e with
    | .Name x _ => decide (c.N[i]? = some x) && c.loc x && ws.contains i
    | _ => false)
  | .tup n ts, e => (match e with
    | .Tuple es _ _ => chkGs c ws ts es && decide (es.length = n)
    | _ => false)
  | .sub o i, e => (match e with
    | .Subscript x y _ => chk c o x && chk c i y && notSlice y
    | _ => false)
def chkGs (c : Ck) (ws : List Nat) : Tgs → List Expr → Bool
  | .nil, es => (match es with
    | [] => true
    | _ => false)
  | .cons t ts, es => (match es with
    | e :: r => chkG c ws t e && notStar e && chkGs c ws ts r
    | [] => false)
end
def isStarred : Expr → Bool
  | .Starred .. => true
  | _ => false
def swpNames (sc : Scope) (ts : List Expr) : List Str := ts.filterMap fun
  | .Name id pos => if sc.names.lookup id == some .local && pos.line == (ts.head?.map (·.pos.line)).getD 0 then some id else none
  | _ => none
/-- how a, b = x, y is stored: none: not known; some none: in order; some names: from the right -/
def swp (sc : Scope) (ts vs : List Expr) : Option (Option (List Str)) :=
  if !(ts.length == 2 || ts.length == 3) || vs.length != ts.length then some none
  else if vs.any isStarred then some none
  else if (swpNames sc ts).length != ts.length || (swpNames sc ts).eraseDups.length != (swpNames sc ts).length then some none
  else if vs.all (foldedForSure 8) then some none
  else if vs.all (constantsAlone 8) then none
  else some (some (swpNames sc ts))
def allNm (c : Ck) : Tgs → List Expr → Bool
  | .nil, [] => true
  | .cons (.nm i) ts, .Name x _ :: es => decide (c.N[i]? = some x) && (match c.sc.names.lookup x with | some .local => true | _ => false) && allNm c ts es
  | _, _ => false
def nms : Tgs → List Nat
  | .cons (.nm i) ts => i :: nms ts
  | _ => []
mutual
def chkS (c : Ck) : St' → Stmt → Bool
  | .pass, s => (match s with
    | .Pass _ => true
    | _ => false)
  | .brk, s => (match s with
    | .Break _ => true
    | _ => false)
  | .cont, s => (match s with
    | .Continue _ => true
    | _ => false)
  | .never, _ => true
  | .ret e, s => (match s with
    | .Return (some e') _ => chk c e e'
    | _ => false)
  | .expr e, s => (match s with
    | .Expr e' _ => chk c e e' && notComp e'
    | _ => false)
  | .asg t e, s => (match s with
    | .Assign [t'] e' _ => chkG c (List.range c.N.length) t t' && notStar t' && chk c e e' && (notTuple t' || notTuple e')
    | _ => false)
  | .par ts es, s => (match s with
    | .Assign [.Tuple ts' _ _] (.Tuple es' _ _) _ => chkGs c (List.range c.N.length) ts ts' && chks c es es' && decide (es.len = ts.len) && decide (ts.len < 20)
        && (match swp c.sc ts' es' with
          | some none => true
          | some (some _) => allNm c ts ts' && decide (nms ts).Nodup && (es.len == 2 || es.len == 3)
          | none => false)
    | _ => false)
  | .ife t a b, s => (match s with
    | .If t' a' b' _ => okT t && chk c t t' && chkSs c a a' && chkSs c b b'
    | _ => false)
  | .loop tg it b, s => (match s with
    | .For tg' it' b' [] _ => chkG c (List.range c.N.length) tg tg' && chkI c it tg' it' && notSet it' && chkSs c b b'
    | _ => false)
  | .whl t b, s => (match s with
    | .While t' b' [] _ => okT t && chk c t t' && chkSs c b b'
    | _ => false)
def chkSs (c : Ck) : Ss → List Stmt → Bool
  | .nil, ss => (match ss with
    | [] => true
    | _ => false)
  | .cons s ss, l => (match l with
    | s' :: l' => chkS c s s' && chkSs c ss l'
    | [] => false)
end
/-! ### what it calls, which names of the module it reads -/
inductive Use where
  | fn (x : Str) (n : Nat) (F : List D → Sto → Rs D)
  | con (x : Str) (d : PyData)
  | dic (x : Str) (tbl : List (Str × PyData))
  | blt (x : String)
mutual
def uses : E → List Use
  | .glob x d => [.con x d]
  | .bin _ a b => uses a ++ uses b
  | .cmp _ a b => uses a ++ uses b
  | .chn _ _ a b c => uses a ++ (uses b ++ uses c)
  | .neg a => uses a
  | .not a => uses a
  | .and as => usess as
  | .or as => usess as
  | .ife c a b => uses c ++ (uses a ++ uses b)
  | .call x n F as => .fn x n F :: usess as
  | .prim p as => .blt p.name :: usess as
  | .isa a T => .blt "isinstance" :: .blt T :: uses a
  | .meth _ o as => uses o ++ usess as
  | .ix a b => uses a ++ uses b
  | .sl a lo hi => uses a ++ (usesO lo ++ usesO hi)
  | .rev a => uses a
  | .dix x tbl b => .dic x tbl :: uses b
  | .tup as => usess as
  | .lst _ as => usess as
  | .comp _ it tg c e _ => usesI it ++ (usesG tg ++ (usesO c ++ uses e))
  | _ => []
def usess : Es → List Use
  | .nil => []
  | .cons a as => uses a ++ usess as
def usesO : Op → List Use
  | .no => []
  | .yes a => uses a
def usesI : Wk → List Use
  | .val a => uses a
  | .r1 as => .blt "range" :: usess as
  | .r2 as => .blt "range" :: usess as
  | .enum a => .blt "enumerate" :: uses a
  | .zip as => .blt "zip" :: usess as
def usesG : Tg → List Use
  | .nm _ => []
  | .tup _ ts => usesGs ts
  | .sub o i => uses o ++ uses i
def usesGs : Tgs → List Use
  | .nil => []
  | .cons t ts => usesG t ++ usesGs ts
end
mutual
def usesS : St' → List Use
  | .ret e => uses e
  | .expr e => uses e
  | .asg t e => usesG t ++ uses e
  | .par ts es => usesGs ts ++ usess es
  | .ife c a b => uses c ++ (usesSs a ++ usesSs b)
  | .loop tg it b => usesG tg ++ (usesI it ++ usesSs b)
  | .whl c b => uses c ++ usesSs b
  | _ => []
def usesSs : Ss → List Use
  | .nil => []
  | .cons s ss => usesS s ++ usesSs ss
end
end Tm
namespace Tm
open PySem L2

/-! ## soundness of the checker -/
structure Gd (X : Cx) (c : Ck) (k : Nat) : Prop where
  calm : X.calm = true
  N : X.N = c.N
  nd : X.N.Nodup
  sc : X.env.scope = c.sc
  fn : X.fn = c.fn
  guards : X.A.guards = some []
  room : Room k X.A
  xe : X.xe = fun _ _ => False
  kind : c.sc.kind = .function
def Kn (X : Cx) (k : Nat) : Use → Prop
  | .fn x n F => ∃ f fd ps j, X.mg x = some (.ref f) ∧ PySem.W.keepIn X.K (.ref f) = true ∧ Binds X.K fd ps [] ∧ j ≤ k ∧ FnG X.prog X.w X.K X.mg X.base j f fd ps (spF X.K n F) ∧ ∀ ds S z, F ds S = some z → ds.length = n
  | .con x d => GlobOk X.K X.mg x d
  | .dic x tbl => DictOk X.K X.w X.mg x tbl
  | .blt x => X.mg (Str.ofString x) = none
section
variable {X : Cx} {c : Ck} {k : Nat}
theorem Gd.vis (g : Gd X c k) {x : Str} (h : c.vis x = true) : Vis X.env.scope x := by
  unfold Ck.vis at h
  rw [g.sc]
  split at h
  · exact .inl (by assumption)
  · exact .inr (.inl (by assumption))
  · exact .inr (.inr (by assumption))
  · cases h
theorem Gd.loc (g : Gd X c k) {x : Str} (h : c.loc x = true) : Loc X.env.scope x ∧ (X.fn x = true ∨ X.env.scope.names.lookup x = some .local) := by
  unfold Ck.loc at h
  rw [g.sc, g.fn]
  split at h
  · rename_i e; exact ⟨.inl e, .inr e⟩
  · rename_i e; exact ⟨.inr e, .inl h⟩
  · cases h
theorem Gd.gl (g : Gd X c k) {x : Str} (h : c.gl x = true) : Gl X x := by
  unfold Ck.gl at h
  show X.env.scope.names.lookup x = some .globalImplicit
  rw [g.sc]
  split at h
  · assumption
  · cases h
theorem plain1 {x : Str} (h : plainN x = true) : (x == ("__debug__" : Str)) = false ∧ (x == ("__classdict__" : Str)) = false ∧ x ≠ "__name__" := by
  unfold plainN at h
  simp only [Bool.and_eq_true, Bool.not_eq_true'] at h
  exact ⟨h.1.1, h.1.2, beq_eq_false_iff_ne.mp h.2⟩
theorem star1 {e : Expr} {es : List Expr} {env : Env} (h : notStar e = true) : starEach (e :: es) env = (false, eval e env) :: starEach es env := by
  cases e <;> first | rfl | cases h
theorem asn1 {e : Expr} {es : List Expr} {env : Env} (h : notStar e = true) : assignEach (e :: es) env = (false, assign e env) :: assignEach es env := by
  cases e <;> first | rfl | cases h
theorem units65 (g : Gd X c k) : X.A.units + 70 < cLine := by have := g.room.un; omega
/-- the parts of a list of expressions -/
inductive AllP (X : Cx) : List Expr → Es → Prop
  | nil : AllP X [] .nil
  | cons {e : Expr} {es : List Expr} {a : E} {as : Es} : PE X e (tE X.K (den a)) → (okT a = true → PT X e (tB' X.K (denT a))) → notStar e = true → AllP X es as → AllP X (e :: es) (.cons a as)
theorem AllP.pa : ∀ {es : List Expr} {as : Es}, AllP X es as → PA X es (tAs X.K (dens as))
  | _, _, .nil => by simp only [dens]; exact s_nil
  | _, _, .cons h _ n t => by simp only [dens]; exact s_cons h t.pa (star1 n)
theorem AllP.plain {pos : Pos} : ∀ {es : List Expr} {as : Es}, AllP X es as → (backTo pos (starEach es X.env)).any (·.1) = false
  | _, _, .nil => rfl
  | _, _, .cons _ _ n t => by
    rw [star1 n]
    show (false || (backTo pos (starEach _ X.env)).any (·.1)) = false
    rw [t.plain]; rfl
theorem AllP.plain2 {pos : Pos} : ∀ {es : List Expr} {as : Es}, AllP X es as → (backTo pos (starEach es X.env)).all (fun x => !x.1) = true
  | _, _, .nil => rfl
  | _, _, .cons _ _ n t => by
    rw [star1 n]
    show (!false && (backTo pos (starEach _ X.env)).all (fun x => !x.1)) = true
    rw [t.plain2]; rfl
theorem AllP.len : ∀ {es : List Expr} {as : Es}, AllP X es as → es.length = as.len
  | _, _, .nil => rfl
  | _, _, .cons _ _ _ t => congrArg Nat.succ t.len
theorem AllP.and {pos : Pos} : ∀ {e : Expr} {es : List Expr} {as : Es}, AllP X (e :: es) as → PE X (.BoolOp .And (e :: es) pos) (tE X.K (denAnd as))
  | _, _, _, .cons h _ _ .nil => by simp only [denAnd]; exact pe_one h
  | _, _, _, .cons h _ _ (.cons h2 h3 h4 h5) => by
    simp only [denAnd]
    have ih := AllP.and (pos := pos) (AllP.cons h2 h3 h4 h5)
    simp only [denAnd] at ih
    exact s_and h ih
theorem AllP.or {pos : Pos} : ∀ {e : Expr} {es : List Expr} {as : Es}, AllP X (e :: es) as → PE X (.BoolOp .Or (e :: es) pos) (tE X.K (denOr as))
  | _, _, _, .cons h _ _ .nil => by simp only [denOr]; exact pe_one h
  | _, _, _, .cons h _ _ (.cons h2 h3 h4 h5) => by
    simp only [denOr]
    have ih := AllP.or (pos := pos) (AllP.cons h2 h3 h4 h5)
    simp only [denOr] at ih
    exact s_or h ih
theorem AllP.andT {pos : Pos} : ∀ {e : Expr} {es : List Expr} {as : Es}, AllP X (e :: es) as → chksT as = true → PW X (.BoolOp .And (e :: es) pos) (tB' X.K (denAndT as))
  | _, _, _, .cons h t _ .nil, c => by
    simp only [chksT, Bool.and_eq_true] at c
    simp only [denAndT]; exact pw_and1 (t c.1)
  | _, _, _, .cons h t _ (.cons h2 h3 h4 h5), c => by
    simp only [chksT, Bool.and_eq_true] at c
    simp only [denAndT]
    have ih := AllP.andT (pos := pos) (AllP.cons h2 h3 h4 h5) (by simp only [chksT, Bool.and_eq_true]; exact c.2)
    simp only [denAndT] at ih
    exact s_andT (t c.1) ih
theorem AllP.orT {pos : Pos} : ∀ {e : Expr} {es : List Expr} {as : Es}, AllP X (e :: es) as → chksT as = true → PW X (.BoolOp .Or (e :: es) pos) (tB' X.K (denOrT as))
  | _, _, _, .cons h t _ .nil, c => by
    simp only [chksT, Bool.and_eq_true] at c
    simp only [denOrT]; exact pw_or1 (t c.1)
  | _, _, _, .cons h t _ (.cons h2 h3 h4 h5), c => by
    simp only [chksT, Bool.and_eq_true] at c
    simp only [denOrT]
    have ih := AllP.orT (pos := pos) (AllP.cons h2 h3 h4 h5) (by simp only [chksT, Bool.and_eq_true]; exact c.2)
    simp only [denOrT] at ih
    exact s_orT (t c.1) ih
/-! operators -/
theorem bin_ok (o : Bin) {op : Operator} (h : o.is op = true) : OpR X (binaryOp op) (r2 X.K o.fn) := by
  cases o with
  | add => cases op <;> first | exact absurd h (by decide) | exact o_add
  | sub => cases op <;> first | exact absurd h (by decide) | exact o_sub
  | mul => cases op <;> first | exact absurd h (by decide) | exact o_mul
  | div => cases op <;> first | exact absurd h (by decide) | exact o_div
  | mod => cases op <;> first | exact absurd h (by decide) | exact o_mod
  | pow => cases op <;> first | exact absurd h (by decide) | exact o_pow
theorem cm_ok (g : Gd X c k) (o : Cm) {op : CmpOp} (h : o.ok op = true) : OpR X (compareOp op) (r2 X.K o.fn) := by
  have u := units65 g
  cases o with
  | eq => cases op <;> first | exact absurd h (by decide) | exact o_eq (by omega)
  | ne => cases op <;> first | exact absurd h (by decide) | exact o_ne (by omega)
  | lt => cases op <;> first | exact absurd h (by decide) | exact o_less (by omega)
  | le => cases op <;> first | exact absurd h (by decide) | exact o_le
  | gt => cases op <;> first | exact absurd h (by decide) | exact o_gt
  | ge => cases op <;> first | exact absurd h (by decide) | exact o_ge
  | is => cases op <;> first | exact absurd h (by decide) | exact o_is
  | isnot => cases op <;> first | exact absurd h (by decide) | exact o_isNot
  | isin => cases op <;> first | exact absurd h (by decide) | exact o_in (by omega)
  | notin => cases op <;> first | exact absurd h (by decide) | exact o_notIn (by omega)
theorem mark1 {op : CmpOp} {r : Expr} (h : notSet r = true) : behindInMarks op r = false := by
  cases r <;> first | rfl | cases h
theorem mark2 {op op' : CmpOp} {m r : Expr} (h : notSet r = true) : lastMarks [op, op'] [m, r] = false := by
  show behindInMarks op' r = false
  exact mark1 h
/-! built-ins -/
inductive PrR (X : Cx) (p : Pr) : Prop
  | fn (h : CallR X (.builtin p.name) (rN X.K p.fn)) (b : bootBuiltins (Str.ofString p.name) = some (.builtin p.name)) : PrR X p
  | ty (h : CallR X (.type p.name) (rN X.K p.fn)) (b : bootBuiltins (Str.ofString p.name) = some (.type p.name)) : PrR X p
theorem pr_ok (g : Gd X c k) (p : Pr) : PrR X p := by
  have u := units65 g
  cases p with
  | len => exact .fn c_len (by decide +kernel)
  | max2 => exact .fn (c_max g.calm) (by decide +kernel)
  | min2 => exact .fn (c_min g.calm) (by decide +kernel)
  | max1 => exact .fn (c_max1 g.calm (by omega)) (by decide +kernel)
  | min1 => exact .fn (c_min1 g.calm (by omega)) (by decide +kernel)
  | int => exact .ty c_int (by decide +kernel)
  | all => exact .fn (c_all g.calm) (by decide +kernel)
  | any => exact .fn (c_any g.calm) (by decide +kernel)
  | sum => exact .fn (c_sum g.calm) (by decide +kernel)
  | tuple => exact .ty c_tuple (by decide +kernel)
  | list => exact .ty c_list (by decide +kernel)
  | listM => exact .ty c_listM (by decide +kernel)
  | sorted => exact .fn (c_sorted (by omega)) (by decide +kernel)
  | sortedM => exact .fn (c_sortedM (by omega)) (by decide +kernel)
  | repr => exact .fn (c_repr g.guards (by omega)) (by decide +kernel)
theorem pr_plain (p : Pr) : (Str.ofString p.name) ≠ "__name__" ∧ ((Str.ofString p.name) == ("__debug__" : Str)) = false := by
  cases p <;> exact ⟨by decide +kernel, by decide +kernel⟩
theorem ty_boot {T : String} (h : T ∈ isTys) : bootBuiltins (Str.ofString T) = some (.type T) ∧ (Str.ofString T) ≠ "__name__" ∧ ((Str.ofString T) == ("__debug__" : Str)) = false := by
  have key : (isTys.all fun T => decide (bootBuiltins (Str.ofString T) = some (.type T)) && decide ((Str.ofString T) ≠ "__name__") && decide (((Str.ofString T) == ("__debug__" : Str)) = false)) = true := by decide +kernel
  have := List.all_eq_true.mp key T h
  simp only [Bool.and_eq_true, decide_eq_true_eq] at this
  exact ⟨this.1.1, this.1.2, this.2⟩
structure MtOk (X : Cx) (m : Mt) (id : String) : Prop where
  pa : PlainAttrs m.ty
  slot : Slot m.ty (Str.ofString m.name) id
  ty : typeOf (.builtin id) = pure (.type "method_descriptor")
  rule : MtR X id (rM X.K m.fn)
theorem mt_ok (g : Gd X c k) (m : Mt) : ∃ id, MtOk X m id := by
  have u := units65 g
  cases m with
  | append => exact ⟨_, PySem.F.plainAttrs_list, PySem.F.slot_list_append, PySem.F.type_list_append, t_append⟩
  | pop => exact ⟨_, PySem.F.plainAttrs_list, PySem.F.slot_list_pop, PySem.F.type_list_pop, t_pop⟩
  | extend => exact ⟨_, PySem.F.plainAttrs_list, PySem.F.slot_list_extend, PySem.F.type_list_extend, t_extend⟩
  | indexS => exact ⟨_, PySem.F.plainAttrs_str, PySem.F.slot_str_index, PySem.F.type_str_index, t_indexS⟩
  | index => exact ⟨_, PySem.F.plainAttrs_list, PySem.F.slot_list_index, PySem.F.type_list_index, t_index (by omega)⟩
  | indexT => exact ⟨_, PySem.F.plainAttrs_tuple, PySem.F.slot_tuple_index, PySem.F.type_tuple_index, t_indexT (by omega)⟩
  | join => exact ⟨_, PySem.F.plainAttrs_str, PySem.F.slot_str_join, PySem.F.type_str_join, t_join⟩
theorem base1 {o : Expr} {name : Str} {env : Env} (h : notCall0 o = true) : attributeBase o name env (eval o env) = eval o env := by
  cases o with
  | Call f as ks p =>
    cases as with
    | nil =>
      cases ks with
      | nil => cases h
      | cons _ _ => cases f <;> rfl
    | cons _ _ => cases f <;> rfl
  | _ => rfl
theorem ix1 {b : Expr} (h : notSlice b = true) : PlainIx b := fun o i => by
  cases b <;> first | rfl | cases h
theorem set1 {e : Expr} {env : Env} (h : notSet e = true) : ∀ x, foldedSetIterable e env x = pure x := fun x => by
  cases e <;> first | rfl | cases h
end
end Tm
namespace Tm
open PySem L2

theorem Gd.blk {X : Cx} {c : Ck} {k : Nat} (g : Gd X c k) {scope : Scope} (hk : scope.kind = .function) (s : Shared) (H : Hp) (C : Addr) (cl : List (Str × Addr)) (fp : List Addr) :
    Gd (X.blk s H scope (PySem.compEnvC scope cl C X.env) fp) ⟨c.N, relS scope c.sc, fun x => scope.names.lookup x == some .cell⟩ k :=
  ⟨g.calm, g.N, g.nd, by rw [← g.sc]; rfl, rfl, g.guards, g.room, rfl, hk⟩
theorem us1 {P : Use → Prop} {a b : List Use} (h : ∀ u ∈ a ++ b, P u) : ∀ u ∈ a, P u := fun u hu => h u (List.mem_append.mpr (.inl hu))
theorem us2 {P : Use → Prop} {a b : List Use} (h : ∀ u ∈ a ++ b, P u) : ∀ u ∈ b, P u := fun u hu => h u (List.mem_append.mpr (.inr hu))
theorem us3 {P : Use → Prop} {a : Use} {b : List Use} (h : ∀ u ∈ a :: b, P u) : P a := h a (List.mem_cons_self ..)
theorem us4 {P : Use → Prop} {a : Use} {b : List Use} (h : ∀ u ∈ a :: b, P u) : ∀ u ∈ b, P u := fun u hu => h u (List.mem_cons_of_mem _ hu)
/-- what is shown of an expression -/
def SE (X : Cx) (a : E) (e : Expr) : Prop := PE X e (tE X.K (den a)) ∧ (okT a = true → PT X e (tB' X.K (denT a)))
section
variable {X : Cx} {c : Ck} {k : Nat}
theorem se_call {x : Str} {n : Nat} {F : List D → Sto → Rs D} {as : Es} {es : List Expr} {p pos : Pos} (g : Gd X c k) (hg : c.gl x = true) (hp : plainN x = true) (ha : AllP X es as) (hk : Kn X k (.fn x n F)) :
    PE X (.Call (.Name x p) es [] pos) (tE X.K (mN F (dens as))) := by
  obtain ⟨f, fd, ps, j, h1, h2, h3, h4, h5, h6⟩ := hk
  cases ha with
  | nil =>
    have := s_call0 (p := p) (pos := pos) h5 g.guards (g.room.mono h4) (g.gl hg) h1 h2 h3 h6 (plain1 hp).1
    simp only [dens]
    exact this
  | cons a1 a2 a3 a4 =>
    exact s_call h5 g.guards (g.room.mono h4) (g.gl hg) h1 h2 h3 h6 (AllP.cons a1 a2 a3 a4).pa (plain1 hp).1 (star1 a3) a4.plain
theorem se_prim {q : Pr} {as : Es} {es : List Expr} {p pos : Pos} (g : Gd X c k) (hg : c.gl (Str.ofString q.name) = true) (ha : AllP X es as) (hn : prOk q as.len = true) (hk : Kn X k (.blt q.name)) :
    PE X (.Call (.Name (Str.ofString q.name) p) es [] pos) (tE X.K (mN q.fn (dens as))) := by
  cases ha with
  | nil => cases q <;> exact absurd hn (by decide)
  | cons a1 a2 a3 a4 =>
    have n1 := pr_plain q
    rcases pr_ok g q with ⟨h, b⟩ | ⟨h, b⟩
    · exact PE.imp (pe_callB h (g.gl hg) hk b (AllP.cons a1 a2 a3 a4).pa n1.1 n1.2 (star1 a3) a4.plain) fun _ _ _ z => impN z
    · exact PE.imp (pe_callTy h (g.gl hg) hk b (AllP.cons a1 a2 a3 a4).pa n1.1 n1.2 (star1 a3) a4.plain) fun _ _ _ z => impN z
theorem se_meth {m : Mt} {o : E} {o' : Expr} {as : Es} {es : List Expr} {ap cp : Pos} (g : Gd X c k) (ho : PE X o' (tE X.K (den o))) (ha : AllP X es as) (hb : notCall0 o' = true) (hl : (ap.endLine == cp.line) = true) (hn : as.len < 20) :
    PE X (.Call (.Attribute o' (Str.ofString m.name) ap) es [] cp) (tE X.K (mMt m.ty m.fn (den o) (dens as))) := by
  obtain ⟨id, h⟩ := mt_ok g m
  cases ha with
  | nil =>
    simp only [dens]
    exact s_meth0 h.pa h.slot h.ty h.rule ho (base1 hb) hl
  | cons a1 a2 a3 a4 =>
    have A := AllP.cons a1 a2 a3 a4
    refine s_meth h.pa h.slot h.ty h.rule ho A.pa (base1 hb) ?_ hl (star1 a3) a4.plain
    rw [A.plain2, A.len]
    show (true && true && decide (_ + 0 + 0 < 30)) = true
    simp only [Bool.true_and, decide_eq_true_eq]
    omega
theorem both {a : E} {e : Expr} {m : M} (hp : PE X e (tE X.K m)) (he : ∀ whole, isTrue e X.env whole = (do let v ← whole; standAt e.pos; holding [v] (truthy v))) (h1 : den a = m) (h2 : denT a = bV m) : SE X a e := by
  refine ⟨by rw [h1]; exact hp, fun _ => ?_⟩
  rw [h2]
  exact s_val hp he
theorem set2 {o i : Expr} {pos : Pos} (h : notSlice i = true) : ∀ v, assign (.Subscript o i pos) X.env v = (do
      let ov ← holding [v] (eval o X.env)
      let iv ← holding [v, ov] (eval i X.env)
      standAt pos
      holding [v, ov, iv] (setItem ov iv v)
      release [v, ov, iv] []) := fun v => by
  cases i <;> first | rfl | cases h
end
mutual
theorem sE : ∀ (a : E) {X : Cx} {c : Ck} {k : Nat} {e : Expr}, Gd X c k → chk c a e = true → (∀ u ∈ uses a, Kn X k u) → SE X a e
  | .var i, X, c, k, e, g, h, u => by
    simp only [chk] at h
    split at h
    · simp only [Bool.and_eq_true, decide_eq_true_eq] at h
      have p := plain1 h.2
      exact both (s_var (pe_var (by rw [g.N]; exact h.1.1) (g.vis h.1.2) p.1 p.2.1)) (fun _ => rfl) (by simp only [den]) (by simp only [denT])
    · cases h
  | .int i, X, c, k, e, g, h, u => by
    simp only [chk] at h
    split at h
    · simp only [decide_eq_true_eq] at h
      subst h
      refine ⟨by simp only [den]; exact s_c pe_int fun H => .int _, fun z => by cases z⟩
    · cases h
  | .bl b, X, c, k, e, g, h, u => by
    simp only [chk] at h
    split at h
    · simp only [decide_eq_true_eq] at h
      subst h
      exact both (s_c pe_bl fun H => Rp.bl _) (fun _ => rfl) (by simp only [den]) (by simp only [denT])
    · cases h
  | .non, X, c, k, e, g, h, u => by
    simp only [chk] at h
    split at h
    · refine ⟨by simp only [den]; exact s_c pe_non fun H => .non, fun z => by cases z⟩
    · cases h
  | .str x, X, c, k, e, g, h, u => by
    simp only [chk] at h
    split at h
    · simp only [decide_eq_true_eq] at h
      subst h
      refine ⟨by simp only [den]; exact s_c pe_str fun H => .str _, fun z => by cases z⟩
    · cases h
  | .glob x d, X, c, k, e, g, h, u => by
    simp only [chk] at h
    simp only [uses] at u
    split at h
    · simp only [Bool.and_eq_true, decide_eq_true_eq] at h
      obtain ⟨⟨rfl, h2⟩, h3⟩ := h
      exact both (s_glob (g.gl h2) (us3 u) (plain1 h3).1) (fun _ => rfl) (by simp only [den]) (by simp only [denT])
    · cases h
  | .bin o a b, X, c, k, e, g, h, u => by
    simp only [chk] at h
    simp only [uses] at u
    split at h
    · simp only [Bool.and_eq_true] at h
      have ha := sE a g h.1.2 (us1 u)
      have hb := sE b g h.2 (us2 u)
      refine ⟨by simp only [den]; exact s_op2 (bin_ok o h.1.1) ha.1 hb.1, fun z => by cases z⟩
    · cases h
  | .cmp o a b, X, c, k, e, g, h, u => by
    simp only [chk] at h
    simp only [uses] at u
    split at h
    · simp only [Bool.and_eq_true] at h
      have ha := sE a g h.1.1.2 (us1 u)
      have hb := sE b g h.1.2 (us2 u)
      refine ⟨by simp only [den]; exact s_cmp (cm_ok g o h.1.1.1) ha.1 hb.1 (mark1 h.2), fun z => ?_⟩
      simp only [denT]
      exact s_cmpT (cm_ok g o h.1.1.1) ha.1 hb.1 (mark1 h.2)
    · cases h
  | .chn o p a b d, X, c, k, e, g, h, u => by
    simp only [chk] at h
    simp only [uses] at u
    split at h
    · simp only [Bool.and_eq_true] at h
      have ha := sE a g h.1.1.1.2 (us1 u)
      have hb := sE b g h.1.1.2 (us1 (us2 u))
      have hd := sE d g h.1.2 (us2 (us2 u))
      have o1 := cm_ok g o h.1.1.1.1.1
      have o2 := cm_ok g p h.1.1.1.1.2
      refine ⟨by simp only [den]; exact s_chain o1 o2 ha.1 hb.1 hd.1 (pe_chain o1 o2 ha.1 hb.1 hd.1 (mark2 h.2)), fun z => ?_⟩
      simp only [denT]
      exact s_chainT (pt_chain o1 o2 ha.1 hb.1 hd.1 (mark2 h.2))
    · cases h
  | .neg a, X, c, k, e, g, h, u => by
    simp only [chk] at h
    simp only [uses] at u
    split at h
    · have ha := sE a g h u
      refine ⟨by simp only [den]; exact s_op1 o_neg ha.1, fun z => by cases z⟩
    · cases h
  | .not a, X, c, k, e, g, h, u => by
    simp only [chk] at h
    simp only [uses] at u
    split at h
    · simp only [Bool.and_eq_true] at h
      have ha := sE a g h.2 u
      refine ⟨by simp only [den]; exact s_not ha.1, fun z => ?_⟩
      simp only [denT]
      exact s_notT (ha.2 h.1)
    · cases h
  | .and as, X, c, k, e, g, h, u => by
    simp only [chk] at h
    simp only [uses] at u
    split at h
    · simp only [Bool.and_eq_true] at h
      have ha := sEs as g h.1.1 u
      cases ha with
      | nil => cases h.2
      | cons a1 a2 a3 a4 =>
        have A := AllP.cons a1 a2 a3 a4
        refine ⟨by simp only [den]; exact A.and, fun _ => ?_⟩
        simp only [denT]
        exact (A.andT h.1.2).pt
    · cases h
  | .or as, X, c, k, e, g, h, u => by
    simp only [chk] at h
    simp only [uses] at u
    split at h
    · simp only [Bool.and_eq_true] at h
      have ha := sEs as g h.1.1 u
      cases ha with
      | nil => cases h.2
      | cons a1 a2 a3 a4 =>
        have A := AllP.cons a1 a2 a3 a4
        refine ⟨by simp only [den]; exact A.or, fun _ => ?_⟩
        simp only [denT]
        exact (A.orT h.1.2).pt
    · cases h
  | .ife t a b, X, c, k, e, g, h, u => by
    simp only [chk] at h
    simp only [uses] at u
    split at h
    · simp only [Bool.and_eq_true] at h
      have ht := sE t g h.1.1.2 (us1 u)
      have ha := sE a g h.1.2 (us1 (us2 u))
      have hb := sE b g h.2 (us2 (us2 u))
      refine ⟨by simp only [den]; exact s_if (ht.2 h.1.1.1) ha.1 hb.1, fun z => by cases z⟩
    · cases h
  | .call x n F as, X, c, k, e, g, h, u => by
    simp only [chk] at h
    simp only [uses] at u
    split at h
    · simp only [Bool.and_eq_true, decide_eq_true_eq] at h
      obtain ⟨⟨⟨⟨rfl, h2⟩, h3⟩, h4⟩, h5⟩ := h
      have ha := sEs as g h4 (us4 u)
      exact both (se_call g h2 h3 ha (us3 u)) (fun _ => rfl) (by simp only [den]) (by simp only [denT])
    · cases h
  | .prim p as, X, c, k, e, g, h, u => by
    simp only [chk] at h
    simp only [uses] at u
    split at h
    · simp only [Bool.and_eq_true, decide_eq_true_eq] at h
      obtain ⟨⟨⟨rfl, h2⟩, h3⟩, h4⟩ := h
      have ha := sEs as g h3 (us4 u)
      exact both (se_prim g h2 ha h4 (us3 u)) (fun _ => rfl) (by simp only [den]) (by simp only [denT])
    · cases h
  | .isa a T, X, c, k, e, g, h, u => by
    simp only [chk] at h
    simp only [uses] at u
    split at h
    · simp only [Bool.and_eq_true, decide_eq_true_eq] at h
      obtain ⟨⟨⟨⟨⟨⟨rfl, h2⟩, rfl⟩, h3⟩, h4⟩, h5⟩, h6⟩ := h
      have ha := sE a g h5 (us4 (us4 u))
      have hT : T ∈ isTys := List.contains_iff_mem.mp h4
      have tb := ty_boot hT
      exact both (s_isa hT (g.gl h2) (us3 u) (g.gl h3) (us3 (us4 u)) tb.1 tb.2.1 tb.2.2 ha.1 (star1 h6) rfl) (fun _ => rfl) (by simp only [den]) (by simp only [denT])
    · cases h
  | .meth m o as, X, c, k, e, g, h, u => by
    simp only [chk] at h
    simp only [uses] at u
    split at h
    · simp only [Bool.and_eq_true, decide_eq_true_eq] at h
      obtain ⟨⟨⟨⟨⟨⟨rfl, h2⟩, h3⟩, h4⟩, h5⟩, h6⟩, h7⟩ := h
      have ho := sE o g h2 (us1 u)
      have ha := sEs as g h3 (us2 u)
      refine ⟨by simp only [den]; exact se_meth g ho.1 ha h4 h5 h6, fun z => by cases z⟩
    · cases h
  | .ix a b, X, c, k, e, g, h, u => by
    simp only [chk] at h
    simp only [uses] at u
    split at h
    · simp only [Bool.and_eq_true] at h
      have ha := sE a g h.1.1 (us1 u)
      have hb := sE b g h.1.2 (us2 u)
      exact both (s_ix ha.1 hb.1 (ix1 h.2)) (fun _ => rfl) (by simp only [den]) (by simp only [denT])
    · cases h
  | .sl a lo hi, X, c, k, e, g, h, u => by
    simp only [chk] at h
    simp only [uses] at u
    split at h
    · simp only [Bool.and_eq_true] at h
      have ha := sE a g h.1.1 (us1 u)
      have hl := sO lo g h.1.2 (us1 (us2 u))
      have hh := sO hi g h.2 (us2 (us2 u))
      refine ⟨by simp only [den]; exact s_sl ha.1 hl hh, fun z => by cases z⟩
    · cases h
  | .rev a, X, c, k, e, g, h, u => by
    simp only [chk] at h
    simp only [uses] at u
    split at h
    · simp only [Bool.and_eq_true, decide_eq_true_eq] at h
      obtain ⟨rfl, h2⟩ := h
      have ha := sE a g h2 u
      refine ⟨by simp only [den]; exact s_revL ha.1, fun z => by cases z⟩
    · cases h
  | .dix x tbl b, X, c, k, e, g, h, u => by
    simp only [chk] at h
    simp only [uses] at u
    split at h
    · simp only [Bool.and_eq_true, decide_eq_true_eq] at h
      obtain ⟨⟨⟨⟨rfl, h2⟩, h3⟩, h4⟩, h5⟩ := h
      have hb := sE b g h4 (us4 u)
      refine ⟨by simp only [den]; exact s_dix (g.gl h2) (us3 u) (plain1 h3).1 hb.1 (ix1 h5), fun z => by cases z⟩
    · cases h
  | .tup as, X, c, k, e, g, h, u => by
    simp only [chk] at h
    simp only [uses] at u
    split at h
    · have ha := sEs as g h u
      refine ⟨by simp only [den]; exact s_tuple ha.pa, fun z => by cases z⟩
    · cases h
  | .lst mt as, X, c, k, e, g, h, u => by
    simp only [chk] at h
    simp only [uses] at u
    split at h
    · have ha := sEs as g h u
      refine ⟨by
        simp only [den]
        cases mt
        · exact s_list ha.pa
        · exact s_listM ha.pa, fun z => by cases z⟩
    · cases h
  | .comp mt it tg cd el own, X, c, k, e, g, h, u => by
    simp only [chk] at h
    simp only [uses] at u
    split at h
    · rename_i elt tg' iter ifs a scope pos
      simp only [Bool.and_eq_true, decide_eq_true_eq] at h
      obtain ⟨⟨⟨⟨⟨⟨rfl, h1⟩, h2⟩, h3⟩, h4⟩, h5⟩, h6⟩ := h
      have bk : BlkOk X.N X.env.scope scope own := by rw [g.N, g.sc]; exact blkOk_by h3
      have hi := sI it g h1 (us1 u)
      have hg : ∀ (s : Shared) (H : Hp) (C : Addr) (cl : List (Str × Addr)) (fp : List Addr), PG (X.blk s H scope (compEnvC scope cl C X.env) fp) tg' (tG X.K (own.map (·.2)) (denG tg)) := fun s H C cl fp => sG tg (g.blk bk.kind s H C cl fp) h4 (us1 (us2 u))
      have he : ∀ (s : Shared) (H : Hp) (C : Addr) (cl : List (Str × Addr)) (fp : List Addr), PE (X.blk s H scope (compEnvC scope cl C X.env) fp) elt (tE X.K (den el)) := fun s H C cl fp => (sE el (g.blk bk.kind s H C cl fp) h6 (us2 (us2 (us2 u)))).1
      have ht : ∀ (s : Shared) (H : Hp) (C : Addr) (cl : List (Str × Addr)) (fp : List Addr), PTs (X.blk s H scope (compEnvC scope cl C X.env) fp) ifs (tB' X.K (denC cd)) := fun s H C cl fp => sC cd (g.blk bk.kind s H C cl fp) h5 (us1 (us2 (us2 u)))
      have key := pe_lc (pos := pos) g.calm g.nd hi bk hg ht he (set1 h2)
      refine ⟨by
        simp only [den]
        cases mt
        · exact PE.imp (PE.freeze key) fun _ _ _ z => imp_comp z
        · exact PE.imp key fun _ _ _ z => imp_compM z, fun z => by cases z⟩
    · cases h
theorem sEs : ∀ (as : Es) {X : Cx} {c : Ck} {k : Nat} {es : List Expr}, Gd X c k → chks c as es = true → (∀ u ∈ usess as, Kn X k u) → AllP X es as
  | .nil, X, c, k, es, g, h, u => by
    simp only [chks] at h
    split at h
    · exact .nil
    · cases h
  | .cons a as, X, c, k, es, g, h, u => by
    simp only [chks] at h
    simp only [usess] at u
    split at h
    · simp only [Bool.and_eq_true] at h
      have ha := sE a g h.1.1 (us1 u)
      exact .cons ha.1 ha.2 h.1.2 (sEs as g h.2 (us2 u))
    · cases h
theorem sO : ∀ (o : Op) {X : Cx} {c : Ck} {k : Nat} {e : Option Expr}, Gd X c k → chkO c o e = true → (∀ u ∈ usesO o, Kn X k u) → PO X e (tO X.K (denO o))
  | .no, X, c, k, e, g, h, u => by
    simp only [chkO] at h
    split at h
    · simp only [denO]; exact so_none
    · cases h
  | .yes a, X, c, k, e, g, h, u => by
    simp only [chkO] at h
    simp only [usesO] at u
    split at h
    · simp only [denO]; exact so_some (sE a g h u).1
    · cases h
theorem sC : ∀ (o : Op) {X : Cx} {c : Ck} {k : Nat} {es : List Expr}, Gd X c k → chkC c o es = true → (∀ u ∈ usesO o, Kn X k u) → PTs X es (tB' X.K (denC o))
  | .no, X, c, k, e, g, h, u => by
    simp only [chkC] at h
    split at h
    · simp only [denC]; exact st_nil
    · cases h
  | .yes a, X, c, k, e, g, h, u => by
    simp only [chkC] at h
    simp only [usesO] at u
    split at h
    · simp only [Bool.and_eq_true] at h
      simp only [denC]; exact st_one ((sE a g h.2 u).2 h.1)
    · cases h
theorem sI : ∀ (w : Wk) {X : Cx} {c : Ck} {k : Nat} {t e : Expr}, Gd X c k → chkI c w t e = true → (∀ u ∈ usesI w, Kn X k u) → PI X t e (tI X.K (denI w))
  | .val a, X, c, k, t, e, g, h, u => by
    simp only [chkI] at h
    simp only [usesI] at u
    simp only [denI]
    exact si_val (sE a g h u).1
  | .r1 as, X, c, k, t, e, g, h, u => by
    simp only [chkI] at h
    simp only [usesI] at u
    simp only [denI]
    split at h
    · simp only [Bool.and_eq_true, decide_eq_true_eq] at h
      obtain ⟨⟨⟨rfl, h2⟩, h3⟩, h4⟩ := h
      have ha := sEs as g h3 (us4 u)
      cases ha with
      | nil => cases h4
      | cons a1 a2 a3 a4 =>
        cases a4 with
        | nil => exact si_range1 (g.gl h2) (us3 u) (AllP.cons a1 a2 a3 .nil).pa (star1 a3)
        | cons b1 b2 b3 b4 => simp only [Es.len] at h4; omega
    · cases h
  | .r2 as, X, c, k, t, e, g, h, u => by
    simp only [chkI] at h
    simp only [usesI] at u
    simp only [denI]
    split at h
    · simp only [Bool.and_eq_true, decide_eq_true_eq] at h
      obtain ⟨⟨⟨rfl, h2⟩, h3⟩, h4⟩ := h
      have ha := sEs as g h3 (us4 u)
      cases ha with
      | nil => cases h4
      | cons a1 a2 a3 a4 =>
        cases a4 with
        | nil => simp only [Es.len] at h4; omega
        | cons b1 b2 b3 b4 =>
          cases b4 with
          | nil => exact si_range2 (g.gl h2) (us3 u) (AllP.cons a1 a2 a3 (.cons b1 b2 b3 .nil)).pa (by rw [star1 a3, star1 b3]; rfl) (star1 b3)
          | cons d1 d2 d3 d4 => simp only [Es.len] at h4; omega
    · cases h
  | .enum a, X, c, k, t, e, g, h, u => by
    simp only [chkI] at h
    simp only [usesI] at u
    simp only [denI]
    split at h
    · simp only [Bool.and_eq_true, decide_eq_true_eq] at h
      obtain ⟨⟨⟨rfl, h2⟩, h3⟩, h4⟩ := h
      exact si_enum (g.gl h2) (us3 u) (sE a g h3 (us4 u)).1 (star1 h4)
    · cases h
  | .zip as, X, c, k, t, e, g, h, u => by
    simp only [chkI] at h
    simp only [usesI] at u
    simp only [denI]
    split at h
    · simp only [Bool.and_eq_true, decide_eq_true_eq] at h
      obtain ⟨⟨⟨rfl, h2⟩, h3⟩, h4⟩ := h
      have ha := sEs as g h3 (us4 u)
      cases ha with
      | nil => cases h4
      | cons a1 a2 a3 a4 =>
        cases a4 with
        | nil => simp only [Es.len] at h4; omega
        | cons b1 b2 b3 b4 =>
          cases b4 with
          | nil => exact si_zipT (g.gl h2) (us3 u) (AllP.cons a1 a2 a3 (.cons b1 b2 b3 .nil)).pa (star1 a3) (AllP.cons b1 b2 b3 .nil).plain
          | cons d1 d2 d3 d4 => simp only [Es.len] at h4; omega
    · cases h
theorem sG : ∀ (t : Tg) {X : Cx} {c : Ck} {k : Nat} {ws : List Nat} {e : Expr}, Gd X c k → chkG c ws t e = true → (∀ u ∈ usesG t, Kn X k u) → PG X e (tG X.K ws (denG t))
  | .nm i, X, c, k, ws, e, g, h, u => by
    simp only [chkG] at h
    simp only [denG]
    split at h
    · simp only [Bool.and_eq_true, decide_eq_true_eq] at h
      have l := g.loc h.1.2
      exact sg_name (List.contains_iff_mem.mp h.2) (pg_name g.nd (by rw [g.N]; exact h.1.1) l.1 l.2)
    · cases h
  | .tup n ts, X, c, k, ws, e, g, h, u => by
    simp only [chkG] at h
    simp only [usesG] at u
    simp only [denG]
    split at h
    · simp only [Bool.and_eq_true, decide_eq_true_eq] at h
      have ht := sGs ts g h.1 u
      exact sg_tup g.calm ht.1 (by rw [ht.2.1, h.2]) ht.2.2
    · cases h
  | .sub o i, X, c, k, ws, e, g, h, u => by
    simp only [chkG] at h
    simp only [usesG] at u
    simp only [denG]
    split at h
    · simp only [Bool.and_eq_true] at h
      exact sg_sub (sE o g h.1.1 (us1 u)).1 (sE i g h.1.2 (us2 u)).1 p_set (set2 h.2)
    · cases h
theorem sGs : ∀ (ts : Tgs) {X : Cx} {c : Ck} {k : Nat} {ws : List Nat} {es : List Expr}, Gd X c k → chkGs c ws ts es = true → (∀ u ∈ usesGs ts, Kn X k u) → PGs X es (tGs X.K ws (denGs ts)) ∧ (assignEach es X.env).length = es.length ∧ (assignEach es X.env).findIdx? (·.1) = none
  | .nil, X, c, k, ws, es, g, h, u => by
    simp only [chkGs] at h
    simp only [denGs]
    split at h
    · exact ⟨sg_nil, rfl, rfl⟩
    · cases h
  | .cons t ts, X, c, k, ws, es, g, h, u => by
    simp only [chkGs] at h
    simp only [usesGs] at u
    simp only [denGs]
    split at h
    · simp only [Bool.and_eq_true] at h
      have h1 := sG t g h.1.1 (us1 u)
      have h2 := sGs ts g h.2 (us2 u)
      refine ⟨sg_cons h1 h2.1 (by rw [asn1 h.1.2]; rfl), by rw [asn1 h.1.2]; simp [h2.2.1], ?_⟩
      rw [asn1 h.1.2, List.findIdx?_cons, h2.2.2]; rfl
    · cases h
end
end Tm
namespace Tm
open PySem L2

/-! ## statements -/
section
variable {X : Cx} {c : Ck} {k : Nat}
theorem Gd.bk (g : Gd X c k) : X.env.blockKind = .function := by
  unfold Env.blockKind
  rw [g.sc, g.kind]; rfl
theorem sw0 {e : Expr} {t : Option Expr} {n : Nat} {env : Env} (h : notComp e = true) : swapsWith e t n env = pure false := by
  cases e <;> first | rfl | cases h
theorem sw1 {e t : Expr} {n : Nat} {env : Env} (h : notName t = true) (he : notComp e = true ∨ ∃ a b s p, e = .ListComp a b s p) : swapsWith e (some t) n env = pure false := by
  rcases he with he | ⟨a, b, s, p, rfl⟩
  · exact sw0 he
  · cases t <;> first | rfl | cases h
theorem sw2 {t e : Expr} {env : Env} (h : (notTuple t || notTuple e) = true) (hl : notList t = true) : swappedStores [t] e env = pure none := by
  cases t <;> first | (cases hl; done) | (cases e <;> first | rfl | cases h)
theorem swp_of {env : Env} {ts vs : List Expr} {r : Option (List Str)} {a b : Nat} {p q : Pos} (hk : env.blockKind = .function) (h : swp env.scope ts vs = some r) : swappedStores [.Tuple ts a p] (.Tuple vs b q) env = pure r := by
  unfold swp at h
  unfold swappedStores
  simp only [hk]
  show (if (!(ts.length == 2 || ts.length == 3) || vs.length != ts.length || (ScopeKind.function != ScopeKind.function)) = true then pure none else if (vs.any isStarred) = true then pure none else
    if ((swpNames env.scope ts).length != ts.length || (swpNames env.scope ts).eraseDups.length != (swpNames env.scope ts).length) = true then pure none else if vs.all (foldedForSure 8) = true then pure none else
    if vs.all (constantsAlone 8) = true then _ else pure (some (swpNames env.scope ts))) = _
  have e0 : (ScopeKind.function != ScopeKind.function) = false := rfl
  rw [e0, Bool.or_false]
  split at h
  · rename_i h1
    cases h
    rw [if_pos h1]
  · rename_i h1
    rw [if_neg h1]
    split at h
    · rename_i h2
      cases h
      rw [if_pos h2]
    · rename_i h2
      rw [if_neg h2]
      split at h
      · rename_i h3
        cases h
        rw [if_pos h3]
      · rename_i h3
        rw [if_neg h3]
        split at h
        · rename_i h4
          cases h
          rw [if_pos h4]
        · rename_i h4
          rw [if_neg h4]
          split at h
          · cases h
          · rename_i h5
            rw [if_neg h5]
            cases h; rfl
/-- a statement whose new list is laid for good -/
def fzS (t : TS) : TS := fun E σ H => t { E with nx := fun σ' H' => ∃ a xs, H' a = some (.lst xs) ∧ ∀ o, E.nx σ' (upd H' a (.frz o (.lst xs))) } σ H
theorem PS.freeze {st : Stmt} {t : TS} (h : PS X st t) : PS X st (fzS t) := by
  refine ⟨fun pins s σ H E I q => thn (h.run pins s σ H _ I q) fun fl s' z => ?_⟩
  cases fl with
  | next =>
    obtain ⟨σ', H', I', a, xs, e, q⟩ := z
    obtain ⟨o, I2⟩ := Tm.freeze I' e
    exact ⟨σ', _, I2, q o⟩
  | brk => exact z
  | cont => exact z
  | ret u => exact z
theorem ss_setLc {i : Nat} {y : Str} {py : Pos} {elt tg iter : Expr} {ifs : List Expr} {scope : Scope} {own : List (Str × Nat)} {pos spos : Pos} {mi : MI} {mg' : MG} {mt : MB} {me : M} (mut' : Bool) (g : Gd X c k) (hy : X.N[i]? = some y) (hyl : X.env.scope.names.lookup y = some .local)
    (hsw : swapsWith (.ListComp elt [⟨tg, iter, ifs, 0⟩] scope pos) (some (.Name y py)) spos.line X.env = pure true) (hi : PI X tg iter (tI X.K mi)) (ok : BlkOk X.N X.env.scope scope own)
    (hg : ∀ (s : Shared) (H : Hp) (C : Addr) (cl : List (Str × Addr)) (fp : List Addr), PG (X.blk s H scope (compEnvC scope cl C X.env) fp) tg (tG X.K (own.map (·.2)) mg')) (ht : ∀ (s : Shared) (H : Hp) (C : Addr) (cl : List (Str × Addr)) (fp : List Addr), PTs (X.blk s H scope (compEnvC scope cl C X.env) fp) ifs (tB' X.K mt))
    (he : ∀ (s : Shared) (H : Hp) (C : Addr) (cl : List (Str × Addr)) (fp : List Addr), PE (X.blk s H scope (compEnvC scope cl C X.env) fp) elt (tE X.K me)) (hs : ∀ x, foldedSetIterable iter X.env x = pure x) :
    PS X (.Assign [.Name y py] (.ListComp elt [⟨tg, iter, ifs, 0⟩] scope pos) spos) (tS X.K (msAsg ((if mut' then mCompM else mComp) mi mg' mt me (own.map (·.2))) (gNm i))) := by
  have key := ps_setLc g.calm g.nd hy hyl hsw hi ok hg ht he hs
  cases mut' with
  | true =>
    refine PS.imp key fun E σ H ⟨ι, ρ, S, o, S', hH, hE, e, q⟩ => ?_
    unfold msAsg at e
    split at e
    · rename_i d S1 h1
      have h1 : mCompM mi mg' mt me (own.map (·.2)) ρ S = some (d, S1) := h1
      unfold mCompM at h1
      split at h1
      · rename_i acc S2 h2
        cases h1
        cases e
        exact comp_loop hH hE h2 fun ι' H' p xs w hH' hp hr => mk_aft (Q := fun x H1 => E.nx (σ.set i (some x)) H1) (fun ι2 v H2 w2 hH2 rv => q ι2 _ H2 w2 hH2 ((hE.mono w2).set i rv)) w hp hH' hr
      · cases h1
    · cases e
  | false =>
    refine PS.imp (PS.freeze key) fun E σ H ⟨ι, ρ, S, o, S', hH, hE, e, q⟩ => ?_
    unfold msAsg at e
    split at e
    · rename_i d S1 h1
      have h1 : mComp mi mg' mt me (own.map (·.2)) ρ S = some (d, S1) := h1
      unfold mComp at h1
      split at h1
      · rename_i acc S2 h2
        cases h1
        cases e
        show tLc (tI X.K mi) (tG X.K (own.map (·.2)) mg') (tB' X.K mt) (tE X.K me) (own.map (·.2)) σ H (fun x H1 => ∃ a xs, H1 a = some (.lst xs) ∧ ∀ o, E.nx (σ.set i (some x)) (upd H1 a (.frz o (.lst xs))))
        refine comp_loop hH hE h2 fun ι' H' p xs w hH' hp hr => ?_
        obtain ⟨a, ys, ea, eh, eq'⟩ := fz_aft (Q := fun x H1 => E.nx (σ.set i (some x)) H1) (fun ι2 v H2 w2 hH2 rv => q ι2 _ H2 w2 hH2 ((hE.mono w2).set i rv)) w hp hH' hr
        exact ⟨a, ys, eh, eq'⟩
      · cases h1
    · cases e
theorem notList_of {t : Tg} {ws : List Nat} {t' : Expr} (h : chkG c ws t t' = true) : notList t' = true := by
  cases t <;> cases t' <;> first | rfl | (simp only [chkG] at h; cases h)
theorem ss_asgAny {t : Tg} {e : E} {t' e' : Expr} {pos : Pos} (g : Gd X c k) (h1 : chkG c (List.range c.N.length) t t' = true) (h2 : notStar t' = true) (h3 : chk c e e' = true) (h4 : (notTuple t' || notTuple e') = true) (u : ∀ u ∈ usesG t ++ uses e, Kn X k u) :
    PS X (.Assign [t'] e' pos) (tS X.K (msAsg (den e) (denG t))) := by
  have ha := (sE e g h3 (us2 u)).1
  have hg := sG t g h1 (us1 u)
  have hw := sw2 (env := X.env) h4 (notList_of h1)
  have h1' : (assignEach [t'] X.env).map (·.2) = [assign t' X.env] := by rw [asn1 h2]; rfl
  by_cases hc : notComp e' = true
  · exact ss_asg ha hg (sw0 hc) hw h1'
  · cases e' with
    | ListComp elt gens scope lpos =>
      by_cases hn : notName t' = true
      · exact ss_asg ha hg (sw1 hn (.inr ⟨_, _, _, _, rfl⟩)) hw h1'
      · cases t' with
        | Name y py =>
          have hs : swapsWithSole [.Name y py] (.ListComp elt gens scope lpos) pos.line X.env = pure (X.env.blockKind == .function && X.env.kindOf y == some .local && py.line == lpos.line && !(scope.names.any fun (n, k) => n == y && (k == .local || k == .cell))) := rfl
          cases hb : (X.env.blockKind == .function && X.env.kindOf y == some .local && py.line == lpos.line && !(scope.names.any fun (n, k) => n == y && (k == .local || k == .cell))) with
          | false => rw [hb] at hs; exact ss_asg ha hg hs hw h1'
          | true =>
            rw [hb] at hs
            simp only [Bool.and_eq_true] at hb
            have hyl : X.env.scope.names.lookup y = some .local := by
              have z := hb.1.1.2
              have z' : (X.env.scope.names.lookup y == some NameKind.local) = true := z
              revert z'
              cases X.env.scope.names.lookup y with
              | none => exact fun z => by cases z
              | some kd => cases kd <;> first | exact fun _ => rfl | exact fun z => by cases z
            cases t with
            | nm i =>
              simp only [chkG, Bool.and_eq_true, decide_eq_true_eq] at h1
              cases e with
              | comp mt it tg cd el own =>
                simp only [chk] at h3
                simp only [uses] at u
                have u := us2 u
                split at h3
                · rename_i elt tg' iter ifs a scope pos heq
                  cases heq
                  simp only [Bool.and_eq_true, decide_eq_true_eq] at h3
                  obtain ⟨⟨⟨⟨⟨⟨rfl, k1⟩, k2⟩, k3⟩, k4⟩, k5⟩, k6⟩ := h3
                  have bk : BlkOk X.N X.env.scope scope own := by rw [g.N, g.sc]; exact blkOk_by k3
                  have q1 := sI it g k1 (us1 u)
                  have q2 : ∀ (s : Shared) (H : Hp) (C : Addr) (cl : List (Str × Addr)) (fp : List Addr), PG (X.blk s H scope (compEnvC scope cl C X.env) fp) tg' (tG X.K (own.map (·.2)) (denG tg)) := fun s H C cl fp => sG tg (g.blk bk.kind s H C cl fp) k4 (us1 (us2 u))
                  have q3 : ∀ (s : Shared) (H : Hp) (C : Addr) (cl : List (Str × Addr)) (fp : List Addr), PE (X.blk s H scope (compEnvC scope cl C X.env) fp) elt (tE X.K (den el)) := fun s H C cl fp => (sE el (g.blk bk.kind s H C cl fp) k6 (us2 (us2 (us2 u)))).1
                  have q4 : ∀ (s : Shared) (H : Hp) (C : Addr) (cl : List (Str × Addr)) (fp : List Addr), PTs (X.blk s H scope (compEnvC scope cl C X.env) fp) ifs (tB' X.K (denC cd)) := fun s H C cl fp => sC cd (g.blk bk.kind s H C cl fp) k5 (us1 (us2 (us2 u)))
                  simp only [den, denG]
                  exact ss_setLc mt g (by rw [g.N]; exact h1.1.1) hyl hs q1 bk q2 q4 q3 (set1 k2)
                · cases h3
              | _ => simp only [chk] at h3; cases h3
            | _ => simp only [chkG] at h1; cases h1
        | _ => exact absurd rfl hn
    | SetComp _ _ _ _ => cases e <;> (simp only [chk] at h3; cases h3)
    | DictComp _ _ _ _ _ => cases e <;> (simp only [chk] at h3; cases h3)
    | _ => exact absurd rfl hc
theorem dens_len {ρ : Ev} : ∀ {as : Es} {S : Sto} {ds : List D} {S' : Sto}, dens as ρ S = some (ds, S') → ds.length = as.len
  | .nil, S, ds, S', h => by
    simp only [dens, maNil] at h
    cases h; rfl
  | .cons a as, S, ds, S', h => by
    simp only [dens, maCons] at h
    split at h
    · split at h
      · rename_i h2
        cases h
        simp only [List.length_cons, Es.len]
        rw [dens_len h2]
      · cases h
    · cases h
theorem chkGs_len {ws : List Nat} : ∀ {ts : Tgs} {es : List Expr}, chkGs c ws ts es = true → es.length = ts.len
  | .nil, es, h => by
    simp only [chkGs] at h
    split at h
    · rfl
    · cases h
  | .cons t ts, es, h => by
    simp only [chkGs] at h
    split at h
    · simp only [Bool.and_eq_true] at h
      simp only [List.length_cons, Tgs.len]
      rw [chkGs_len h.2]
    · cases h
end
end Tm
namespace Tm
open PySem L2

section
variable {X : Cx} {c : Ck} {k : Nat}
theorem lk_local {sc : Scope} {x : Str} (h : (match sc.names.lookup x with | some .local => true | _ => false) = true) : sc.names.lookup x = some .local := by
  split at h
  · assumption
  · cases h
theorem swpNames_of {sc : Scope} {ts vs : List Expr} {ns : List Str} (h : swp sc ts vs = some (some ns)) : ns = swpNames sc ts ∧ (swpNames sc ts).length = ts.length ∧ vs.length = ts.length := by
  unfold swp at h
  split at h
  · cases h
  · rename_i h1
    split at h
    · cases h
    · split at h
      · cases h
      · rename_i h3
        split at h
        · cases h
        · split at h
          · cases h
          · cases h
            simp only [Bool.or_eq_true, not_or, bne_iff_ne, ne_eq, Decidable.not_not] at h1 h3
            exact ⟨rfl, h3.1, h1.2⟩
theorem swpNames_two {sc : Scope} {x y : Str} {px py : Pos} (h : (swpNames sc [.Name x px, .Name y py]).length = 2) : swpNames sc [.Name x px, .Name y py] = [x, y] := by
  unfold swpNames at h ⊢
  simp only [List.filterMap_cons, List.filterMap_nil] at h ⊢
  split at h <;> split at h <;> first | (simp at h; done) | skip
  all_goals simp_all
theorem swpNames_three {sc : Scope} {x y z : Str} {px py pz : Pos} (h : (swpNames sc [.Name x px, .Name y py, .Name z pz]).length = 3) : swpNames sc [.Name x px, .Name y py, .Name z pz] = [x, y, z] := by
  unfold swpNames at h ⊢
  simp only [List.filterMap_cons, List.filterMap_nil] at h ⊢
  split at h <;> split at h <;> split at h <;> first | (simp at h; done) | skip
  all_goals simp_all
theorem ss_parS {ts : Tgs} {es : Es} {ts' es' : List Expr} {kt k2 : Nat} {pt pt2 pos : Pos} {ns : List Str} (g : Gd X c k) (ha : AllP X es' es) (hn : allNm c ts ts' = true) (hd : (nms ts).Nodup) (hl : es.len = ts.len) (h23 : (es.len == 2 || es.len == 3) = true)
    (hw : swp c.sc ts' es' = some (some ns)) : PS X (.Assign [.Tuple ts' kt pt] (.Tuple es' k2 pt2) pos) (tS X.K (msPar (dens es) (denGs ts))) := by
  obtain ⟨rfl, hz, hv⟩ := swpNames_of hw
  have hw' := swp_of (a := kt) (b := k2) (p := pt) (q := pt2) g.bk (by rw [g.sc]; exact hw)
  simp only [Bool.or_eq_true, beq_iff_eq] at h23
  cases ts with
  | nil => rcases h23 with z | z <;> (rw [hl] at z; cases z)
  | cons t1 ts =>
    cases ts' with
    | nil => cases t1 <;> cases hn
    | cons e1 ts' =>
    cases t1 with
    | nm i =>
      cases e1 with
      | Name x px =>
        simp only [allNm, Bool.and_eq_true, decide_eq_true_eq] at hn
        obtain ⟨⟨hi, hx⟩, hn⟩ := hn
        cases ts with
        | nil => simp only [Tgs.len] at hl; rcases h23 with z | z <;> omega
        | cons t2 ts =>
          cases ts' with
          | nil => cases t2 <;> cases hn
          | cons e2 ts' =>
          cases t2 with
          | nm j =>
            cases e2 with
            | Name y py =>
              simp only [allNm, Bool.and_eq_true, decide_eq_true_eq] at hn
              obtain ⟨⟨hj, hy⟩, hn⟩ := hn
              cases ts with
              | nil =>
                cases ts' with
                | cons _ _ => cases hn
                | nil =>
                  have hij : i ≠ j := by simp [nms] at hd; exact hd
                  rw [swpNames_two hz] at hw'
                  match es', es, ha, hl with
                  | [a, b], .cons ea (.cons eb .nil), ha, hl =>
                    refine PS.imp (ps_par g.calm g.nd (by rw [g.N]; exact hi) (by rw [g.N]; exact hj) hij (by rw [g.sc]; exact lk_local hx) (by rw [g.sc]; exact lk_local hy) ha.pa hw') fun E σ H ⟨ι, ρ, S, o, S', hH, hE, e, q⟩ => ?_
                    unfold msPar at e
                    split at e
                    · rename_i ds S1 h1
                      split at e
                      · rename_i ρ' S2 h2
                        cases e
                        refine ⟨ι, ρ, S, ds, S1, hH, hE, h1, fun ι1 vs H1 w1 hH1 rv => ?_⟩
                        have hdl := dens_len h1
                        match ds, hdl, rv, h2 with
                        | [d1, d2], _, rv, h2 =>
                          obtain ⟨v, w, rfl, r1, r2⟩ := rv.two
                          simp only [denGs, denG, gCs, gNm, gNl] at h2
                          cases h2
                          exact ⟨v, w, rfl, q ι1 _ H1 w1 hH1 (((hE.mono w1).set i r1).set j r2)⟩
                        | [], z, _, _ => cases z
                        | [_], z, _, _ => cases z
                        | _ :: _ :: _ :: _, z, _, _ => cases z
                      · cases e
                    · cases e
                  | _, .nil, _, hl => cases hl
                  | _, .cons _ .nil, _, hl => cases hl
                  | _, .cons _ (.cons _ (.cons _ _)), _, hl => simp [Es.len, Tgs.len] at hl
              | cons t3 ts =>
                cases ts' with
                | nil => cases t3 <;> cases hn
                | cons e3 ts' =>
                cases t3 with
                | nm l =>
                  cases e3 with
                  | Name zz pz =>
                    simp only [allNm, Bool.and_eq_true, decide_eq_true_eq] at hn
                    obtain ⟨⟨hll, hzz⟩, hn⟩ := hn
                    cases ts with
                    | nil =>
                      cases ts' with
                      | cons _ _ => cases hn
                      | nil =>
                        have hij : i ≠ j ∧ i ≠ l ∧ j ≠ l := by simp [nms] at hd; exact ⟨hd.1.1, hd.1.2, hd.2⟩
                        rw [swpNames_three hz] at hw'
                        match es', es, ha, hl with
                        | [a, b, c'], .cons ea (.cons eb (.cons ec .nil)), ha, hl =>
                          refine PS.imp (ps_par3 g.calm g.nd (by rw [g.N]; exact hi) (by rw [g.N]; exact hj) (by rw [g.N]; exact hll) hij.1 hij.2.1 hij.2.2 (by rw [g.sc]; exact lk_local hx) (by rw [g.sc]; exact lk_local hy) (by rw [g.sc]; exact lk_local hzz) ha.pa hw') fun E σ H ⟨ι, ρ, S, o, S', hH, hE, e, q⟩ => ?_
                          unfold msPar at e
                          split at e
                          · rename_i ds S1 h1
                            split at e
                            · rename_i ρ' S2 h2
                              cases e
                              refine ⟨ι, ρ, S, ds, S1, hH, hE, h1, fun ι1 vs H1 w1 hH1 rv => ?_⟩
                              have hdl := dens_len h1
                              match ds, hdl, vs, rv, h2 with
                              | [d1, d2, d3], _, [v, w, u], ⟨r1, r2, r3, _⟩, h2 =>
                                simp only [denGs, denG, gCs, gNm, gNl] at h2
                                cases h2
                                exact ⟨v, w, u, rfl, q ι1 _ H1 w1 hH1 ((((hE.mono w1).set i r1).set j r2).set l r3)⟩
                              | [], z, _, _, _ => cases z
                              | [_], z, _, _, _ => cases z
                              | [_, _], z, _, _, _ => cases z
                              | _ :: _ :: _ :: _ :: _, z, _, _, _ => cases z
                              | [_, _, _], _, [], rv, _ => exact rv.elim
                              | [_, _, _], _, [_], ⟨_, rv⟩, _ => exact rv.elim
                              | [_, _, _], _, [_, _], ⟨_, _, rv⟩, _ => exact rv.elim
                              | [_, _, _], _, _ :: _ :: _ :: _ :: _, ⟨_, _, _, rv⟩, _ => exact rv.elim
                            · cases e
                          · cases e
                        | _, .nil, _, hl => cases hl
                        | _, .cons _ .nil, _, hl => cases hl
                        | _, .cons _ (.cons _ .nil), _, hl => cases hl
                        | _, .cons _ (.cons _ (.cons _ (.cons _ _))), _, hl => simp [Es.len, Tgs.len] at hl
                    | cons _ _ => simp only [Tgs.len] at hl; rcases h23 with z | z <;> omega
                  | _ => cases hn
                | _ => cases hn
            | _ => cases hn
          | _ => cases hn
      | _ => cases hn
    | _ => cases hn
end
mutual
theorem sS : ∀ (a : St') {X : Cx} {c : Ck} {k : Nat} {s : Stmt}, Gd X c k → chkS c a s = true → (∀ u ∈ usesS a, Kn X k u) → PS X s (tS X.K (denS a))
  | .pass, X, c, k, s, g, h, u => by
    simp only [chkS] at h
    simp only [denS]
    split at h
    · exact ss_pass
    · cases h
  | .brk, X, c, k, s, g, h, u => by
    simp only [chkS] at h
    simp only [denS]
    split at h
    · exact ss_break
    · cases h
  | .cont, X, c, k, s, g, h, u => by
    simp only [chkS] at h
    simp only [denS]
    split at h
    · exact ss_cont
    · cases h
  | .never, X, c, k, s, g, h, u => by
    simp only [denS]
    exact ss_never
  | .ret e, X, c, k, s, g, h, u => by
    simp only [chkS] at h
    simp only [usesS] at u
    simp only [denS]
    split at h
    · exact ss_ret (sE e g h u).1
    · cases h
  | .expr e, X, c, k, s, g, h, u => by
    simp only [chkS] at h
    simp only [usesS] at u
    simp only [denS]
    split at h
    · simp only [Bool.and_eq_true] at h
      exact ss_expr (sE e g h.1 u).1 (sw0 h.2)
    · cases h
  | .asg t e, X, c, k, s, g, h, u => by
    simp only [chkS] at h
    simp only [usesS] at u
    simp only [denS]
    split at h
    · simp only [Bool.and_eq_true] at h
      exact ss_asgAny g h.1.1.1 h.1.1.2 h.1.2 h.2 u
    · cases h
  | .par ts es, X, c, k, s, g, h, u => by
    simp only [chkS] at h
    simp only [usesS] at u
    simp only [denS]
    split at h
    · simp only [Bool.and_eq_true, decide_eq_true_eq] at h
      obtain ⟨⟨⟨⟨h1, h2⟩, h3⟩, h4⟩, h5⟩ := h
      have ha := sEs es g h2 (us2 u)
      have ht := sGs ts g h1 (us1 u)
      split at h5
      · rename_i hw
        have hn : _ = ts.len := chkGs_len h1
        exact ss_par (n := ts.len) g.calm ha.pa ht.1 (by rw [ht.2.1, hn]) ht.2.2 (by have : 20 ≤ sizeLine := by decide
                                                                                     omega) rfl (swp_of g.bk (by rw [g.sc]; exact hw)) rfl fun ρ S ds S' hd => by rw [dens_len hd, h3]
      · rename_i hw
        simp only [Bool.and_eq_true, decide_eq_true_eq] at h5
        exact ss_parS g ha h5.1.1 h5.1.2 h3 h5.2 hw
      · cases h5
    · cases h
  | .ife t a b, X, c, k, s, g, h, u => by
    simp only [chkS] at h
    simp only [usesS] at u
    simp only [denS]
    split at h
    · simp only [Bool.and_eq_true] at h
      exact ss_if ((sE t g h.1.1.2 (us1 u)).2 h.1.1.1) (sSs a g h.1.2 (us1 (us2 u))) (sSs b g h.2 (us2 (us2 u)))
    · cases h
  | .loop tg it b, X, c, k, s, g, h, u => by
    simp only [chkS] at h
    simp only [usesS] at u
    simp only [denS]
    split at h
    · simp only [Bool.and_eq_true] at h
      exact ss_for (by rw [g.xe]; exact PassesOwn.never) g.calm (sI it g h.1.1.2 (us1 (us2 u))) (sG tg g h.1.1.1 (us1 u)) (sSs b g h.2 (us2 (us2 u))) (set1 h.1.2)
    · cases h
  | .whl t b, X, c, k, s, g, h, u => by
    simp only [chkS] at h
    simp only [usesS] at u
    simp only [denS]
    split at h
    · simp only [Bool.and_eq_true] at h
      exact ss_while (by rw [g.xe]; exact PassesOwn.never) ((sE t g h.1.2 (us1 u)).2 h.1.1) (sSs b g h.2 (us2 u))
    · cases h
theorem sSs : ∀ (a : Ss) {X : Cx} {c : Ck} {k : Nat} {s : List Stmt}, Gd X c k → chkSs c a s = true → (∀ u ∈ usesSs a, Kn X k u) → PSs X s (tS X.K (denSs a))
  | .nil, X, c, k, s, g, h, u => by
    simp only [chkSs] at h
    simp only [denSs]
    split at h
    · exact ss_nil
    · cases h
  | .cons a as, X, c, k, s, g, h, u => by
    simp only [chkSs] at h
    simp only [usesSs] at u
    simp only [denSs]
    split at h
    · simp only [Bool.and_eq_true] at h
      exact ss_cons (sS a g h.1 (us1 u)) (sSs as g h.2 (us2 u))
    · cases h
end
end Tm
namespace Tm
open PySem L2

/-! ## defs -/
/-- what is known of a name of the module -/
def Kw (P : Program) (w : World) (K : Fg) (mg : Str → Option Value) (base : Heap) (k : Nat) : Use → Prop
  | .fn x n F => ∃ f fd ps j, mg x = some (.ref f) ∧ PySem.W.keepIn K (.ref f) = true ∧ Binds K fd ps [] ∧ j ≤ k ∧ FnG P w K mg base j f fd ps (spF K n F) ∧ ∀ ds S z, F ds S = some z → ds.length = n
  | .con x d => GlobOk K mg x d
  | .dic x tbl => DictOk K w mg x tbl
  | .blt x => mg (Str.ofString x) = none
section
variable {P : Program} {w : World} {K : Fg} {mg : Str → Option Value} {base : Heap} {k : Nat}
theorem Kw.up {j : Nat} {u : Use} (h : j ≤ k) (z : Kw P w K mg base j u) : Kw P w K mg base k u := by
  cases u with
  | fn x n F =>
    obtain ⟨f, fd, ps, i, h1, h2, h3, h4, h5, h6⟩ := z
    exact ⟨f, fd, ps, i, h1, h2, h3, Nat.le_trans h4 h, h5, h6⟩
  | con _ _ => exact z
  | dic _ _ => exact z
  | blt _ => exact z
theorem usn {Q : Use → Prop} : ∀ u ∈ ([] : List Use), Q u := fun u h => by cases h
theorem usc {Q : Use → Prop} {a : Use} {l : List Use} (h : Q a) (t : ∀ u ∈ l, Q u) : ∀ u ∈ a :: l, Q u := fun u hu => by
  rcases List.mem_cons.mp hu with z | z
  · subst z; exact h
  · exact t u z
/-- a def of the row, by its text -/
theorem def_G {x qual : Str} {args : Arguments} {body : List Stmt} {scope : Scope} {f : Addr} {fd : FuncData} {N ps : List Str} {ir : Ss} (F : FunD K x qual args body scope [] [] f fd) (S : FnScope N ps scope) (hN : ps.length ≤ N.length)
    (ck : chkSs ⟨N, scope, fun _ => true⟩ ir body = true) (us : ∀ u ∈ usesSs ir, Kw P w K mg base k u) : FnG P w K mg base (k + 1) f fd ps (spF K ps.length (runF ps.length N.length (denSs ir))) := by
  obtain ⟨oc, od, dV, kV, doc, pm, an, cd, ct, osl, rfl, lk, hcd, hD, hK⟩ := F.ex
  rcases hD with ⟨_, rfl⟩ | ⟨e, _⟩
  · have body' : ∀ (cdv : Value) (A : Around) (outer : List Env) (s : Shared) (H : Hp) (E : XK), A.guards = some [] → Room k (A.deeper (PyProof.Rows.envOfC qual scope s.heap.objs.size f cdv)) →
        PSs (cxOf CX0 P w K mg base N qual scope f cdv A outer s H E).nox body (tS K (denSs ir)) := fun cdv A outer s H E hg hr =>
      sSs ir (X := (cxOf CX0 P w K mg base N qual scope f cdv A outer s H E).nox) ⟨rfl, rfl, S.nd, rfl, rfl, hg, hr, rfl, S.kind⟩ ck us
    exact fn_plain (st := .FunctionDef x args body [] none [] scope none x ⟨0, 0, 0, 0⟩) ⟨⟨oc, od, kV, doc, pm, an, cd, ct, osl, rfl, lk, hcd⟩, F.kp⟩ S hN body'
  · exact absurd rfl e
theorem def_K {x qual : Str} {args : Arguments} {body : List Stmt} {scope : Scope} {f : Addr} {fd : FuncData} {N ps : List Str} {ir : Ss} (F : FunD K x qual args body scope [] [] f fd) (S : FnScope N ps scope) (hN : ps.length ≤ N.length)
    (ck : chkSs ⟨N, scope, fun _ => true⟩ ir body = true) (us : ∀ u ∈ usesSs ir, Kw P w K mg base k u) (hm : mg x = some (.ref f)) (hb : Binds K fd ps []) : Kw P w K mg base (k + 1) (.fn x ps.length (runF ps.length N.length (denSs ir))) :=
  ⟨f, fd, ps, k + 1, hm, F.kp, hb, Nat.le_refl _, def_G F S hN ck us, fun _ _ _ h => runF_len h⟩
end
/-! ## the module's constants -/
mutual
def dataB (K : Fg) : PyData → Value → Bool
  | .none, u => (match u with | .none => true | _ => false)
  | .bool b, u => (match u with | .bool c => decide (b = c) | _ => false)
  | .int i, u => (match u with | .int j _ => decide (i = j) | _ => false)
  | .str x, u => (match u with | .str y _ => decide (x = y) | _ => false)
  | .tuple ds, u => (match u with
    | .ref a => (match K.lookup a with
      | some ⟨.type c, none, .seq its _, _⟩ => decide (c = "tuple") && decide (its.toList.length ≤ 1000) && datasB K ds its.toList
      | _ => false)
    | _ => false)
  | .list _, _ => false
  | .dict _, _ => false
def datasB (K : Fg) : List PyData → List Value → Bool
  | [], us => (match us with | [] => true | _ => false)
  | d :: ds, us => (match us with | u :: r => dataB K d u && datasB K ds r | [] => false)
end
mutual
theorem dataB_ok {K : Fg} : ∀ (d : PyData) (u : Value), dataB K d u = true → ∃ v, RelV v u ∧ ∀ H, Rp K H v d
  | .none, u, h => by
    simp only [dataB] at h
    split at h
    · exact ⟨.non, rfl, fun H => .non⟩
    · cases h
  | .bool b, u, h => by
    simp only [dataB] at h
    split at h
    · rw [of_decide_eq_true h]; exact ⟨.bl _, rfl, fun H => .bl _⟩
    · cases h
  | .int b, u, h => by
    simp only [dataB] at h
    split at h
    · rw [of_decide_eq_true h]; exact ⟨.int _, ⟨_, rfl⟩, fun H => .int _⟩
    · cases h
  | .str b, u, h => by
    simp only [dataB] at h
    split at h
    · rw [of_decide_eq_true h]; exact ⟨.str _, ⟨_, rfl⟩, fun H => .str _⟩
    · cases h
  | .tuple ds, u, h => by
    simp only [dataB] at h
    split at h
    · rename_i a
      split at h
      · rename_i c its n sl hl
        simp only [Bool.and_eq_true, decide_eq_true_eq] at h
        obtain ⟨⟨rfl, h2⟩, h3⟩ := h
        obtain ⟨vs, r1, r2⟩ := datasB_ok ds its.toList h3
        exact ⟨.ref a, rfl, fun H => .tup (.inr ⟨_, its, n, hl, rfl, rfl, rfl, by have := small1000 h2; simpa using Nat.le_of_lt this, r1⟩) (r2 H)⟩
      · cases h
    · cases h
  | .list _, u, h => by cases h
  | .dict _, u, h => by cases h
theorem datasB_ok {K : Fg} : ∀ (ds : List PyData) (us : List Value), datasB K ds us = true → ∃ vs, Vals vs us ∧ ∀ H, RpA K H vs ds
  | [], us, h => by
    simp only [datasB] at h
    split at h
    · exact ⟨[], .nil, fun H => .nil⟩
    · cases h
  | d :: ds, us, h => by
    simp only [datasB] at h
    split at h
    · rename_i u r
      simp only [Bool.and_eq_true] at h
      obtain ⟨v, r1, r2⟩ := dataB_ok d u h.1
      obtain ⟨vs, s1, s2⟩ := datasB_ok ds r h.2
      exact ⟨v :: vs, .cons r1 s1, fun H => .cons (r2 H) (s2 H)⟩
    · cases h
end
theorem lk_mem {α : Type} {y : Str} {d : α} : ∀ {l : List (Str × α)}, l.lookup y = some d → (y, d) ∈ l
  | [], h => by cases h
  | (x, e) :: r, h => by
    rw [List.lookup_cons] at h
    split at h
    · rename_i q
      cases h
      rw [beq_iff_eq.mp q]
      exact List.mem_cons_self ..
    · exact List.mem_cons_of_mem _ (lk_mem h)
def conB (K : Fg) (x : Str) (d : PyData) : Bool := match PySem.W.nsIn K mainGlobals x with
  | some (some u) => dataB K d u
  | _ => false
def dicB (K : Fg) (x : Str) (tbl : List (Str × PyData)) : Bool := tbl.all fun q => match PySem.W.nsIn K (He.ga K x) q.1 with
  | some (some u) => dataB K q.2 u
  | _ => false
section
variable {K : Fg} {h : Heap} {mg : Str → Option Value} {w : World}
theorem conB_ok {x : Str} {d : PyData} (X : K.In h) (G : h.Ns mainGlobals mg) (c : conB K x d = true) : GlobOk K mg x d := by
  unfold conB at c
  split at c
  · rename_i u e
    obtain ⟨v, r1, r2⟩ := dataB_ok d u c
    exact ⟨v, u, PySem.W.mg_of X G e, r1, r2⟩
  · cases c
theorem dicB_ok {x : Str} {tbl : List (Str × PyData)} (c : dicB K x tbl = true) (hm : mg x = some (.ref (He.ga K x))) (kd : ∃ es n, KDict K w (He.ga K x) es n) : DictOk K w mg x tbl := by
  refine ⟨_, hm, fun y d e => ?_⟩
  have hmem : (y, d) ∈ tbl := lk_mem e
  have c' := List.all_eq_true.mp c _ hmem
  obtain ⟨es, n, kd⟩ := kd
  split at c'
  · rename_i u eu
    obtain ⟨v, r1, r2⟩ := dataB_ok d u c'
    exact ⟨v, ⟨es, n, u, kd.at_, kd.lit, eu, r1⟩, r2⟩
  · cases c'
end
/-- a Hook with a look of one's own -/
def hookX (n : Nat) (fa : List He.Fa) (fn : List He.DefD) (ts : List He.Tab) (ck : Fg → Bool) : PySem.W.Hook where
  α := He.AlT × Bool
  obs := fun s => (He.obsTG n fa fn ts s.heap.get?, ck (He.frG s.heap.get? (He.asD s.heap.get? n)))
  val := fun w => (He.valT fn ts w, true)
  says := fun w h => ∃ K : Fg, K.In h ∧ He.SaysT fa fn ts w K ∧ ck K = true
  of := fun _ _ e => ⟨_, He.frG_in, congrArg (fun z : He.AlT × Bool => z.1) e, congrArg (fun z : He.AlT × Bool => z.2) e⟩
  keeps := fun _ _ _ ⟨K, hK, c⟩ k => ⟨K, PySem.W.Frag.In.keeps hK k, c⟩
def obsX (n : Nat) (fa : List He.Fa) (fn : List He.DefD) (ts : List He.Tab) (ck : Fg → Bool) (g : Addr → Option Obj) : He.AlT × Bool := (He.obsTG n fa fn ts g, ck (He.frG g (He.asD g n)))
theorem obsX_eq {n : Nat} {fa : List He.Fa} {fn : List He.DefD} {ts : List He.Tab} {ck : Fg → Bool} {g : Addr → Option Obj} {s : Shared} (h : ∀ a, g a = s.heap.get? a) : obsX n fa fn ts ck g = (hookX n fa fn ts ck).obs s := by
  have e : g = s.heap.get? := funext h
  rw [e]; rfl
/-! ## the law's own def, from the caller -/
theorem law_G {P : Program} {w : World} {K : Fg} {mg mb : Str → Option Value} {k : Nat} {fa a : Addr} {fd : FuncData} {x : Str} {sp : Sp} {s1 : Shared} {us : List Value} {ns : List Int}
    (inK : K.In s1.heap) (nsG : s1.heap.Ns mainGlobals mg) (nsB : s1.heap.Ns builtinsNs mb) (bb : ∀ y : Str, y ≠ "__name__" → mb y = bootBuiltins y) (nl : s1.heap.NoLimit) (g0 : s1.gens = #[])
    (obj : s1.heap.get? a = some { cls := .type "list", data := .seq us.toArray }) (hia : PyProof.Rows.IntsAre us ns) (len : ns.length ≤ sizeLine) (room : Room k callerA)
    (prom : ∀ base : Heap, K.In base → base.Ns mainGlobals mg → FnG P w K mg base k fa fd [x] sp) (bind : ∀ (s : Shared) (u : Value), BindsTo s fd ⟨[u], []⟩ [(x, u)])
    (plain : ∀ H : Hp, Rp K H (.ref a) (.list (ns.map .int)) → HR K H [] [] → sp [.ref a] H (fun v _ => v = .bl true) fun _ _ _ => False) :
    codeAny (model P w) callerA (.call (.ref fa) ⟨[.ref a], []⟩) (fun r s' => r = .ok (.ret (.bool true)) ∧ OldK s1.heap s'.heap ∧ s'.os = s1.os ∧ PyProof.Rows.AllBare s'.gens) s1 := by
  have rvs := vals_ints hia
  have lenU := hia.length
  have rps : ∀ H, RpA K H (ns.map V.int) (ns.map PyData.int) := fun H => by
    clear rvs lenU len plain hia
    induction ns with
    | nil => exact .nil
    | cons n r ih => exact .cons (.int n) ih
  have go : ∀ H : Hp, Only H → LstS K H a (ns.map V.int) → HOk P w H s1.heap → (∀ b, H b ≠ none → b = a) → (H a ≠ none → K.lookup a = none) →
      codeAny (model P w) callerA (.call (.ref fa) ⟨[.ref a], []⟩) (fun r s' => r = .ok (.ret (.bool true)) ∧ OldK s1.heap s'.heap ∧ s'.os = s1.os ∧ PyProof.Rows.AllBare s'.gens) s1 := by
    intro H only script okH onlyA notK
    have hid : ∀ {b : Addr} {o : Obj}, s1.heap.get? b = some o → H b = none → (hidT s1.heap H).get? b = some o := fun e n => hidT_get e n
    have noDict : ∀ {b : Addr} {o : Obj} {es : Array DictEntry} {ep : Nat}, s1.heap.get? b = some o → o.data = .dict es ep → H b = none := fun {b o es ep} e d => by
      cases q : H b with
      | none => rfl
      | some z =>
        have eb : b = a := onlyA b (by rw [q]; simp)
        rw [eb, obj] at e
        cases e
        have d' : Data.seq us.toArray _ = Data.dict es ep := d
        cases d'
    have nsH : ∀ {b : Addr} {m : Str → Option Value}, s1.heap.Ns b m → (hidT s1.heap H).Ns b m := fun {b m} ⟨o, es, ep, e, d, r⟩ => ⟨o, es, ep, hid e (noDict e d), d, r⟩
    have baseK : K.In (hidT s1.heap H) := fun b o e => hid (inK b o e) (by
      cases q : H b with
      | none => rfl
      | some z =>
        have eb : b = a := onlyA b (by rw [q]; simp)
        rw [eb, notK (by rw [← eb, q]; simp)] at e
        cases e)
    have modB : Mod K mg (hidT s1.heap H) := ⟨baseK, nsH nsG, ⟨mb, nsH nsB, bb⟩, let ⟨mc, h1, h2⟩ := nl; ⟨mc, nsH h1, h2⟩⟩
    have e0 : Env0 P w K mg (hidT s1.heap H) callerA [] s1 H := ⟨rfl, modB, fun b o e => of_hidT e, Nat.le_of_eq (hidT_size _ _), trivial, fun b hb => absurd (show b ∈ ([] : List Addr) from hb) (by simp), okH, .of_eq g0⟩
    have hr0 : HR K H [] [] := ⟨rfl, List.nodup_nil, fun n b ob e1 _ => by simp at e1⟩
    refine codeAny_mono ((prom _ baseK (nsH nsG)).run callerA [] s1 H ⟨[.ref a], []⟩ [.ref a] [.ref a] _ _ rfl room e0 (bind s1 (.ref a)) (.cons rfl .nil) (plain H (.lst script (rps H)) hr0)) fun r s' hh => ?_
    cases r with
    | error e => exact False.elim hh
    | ok fl =>
      cases fl with
      | next => exact hh.elim
      | brk => exact hh.elim
      | cont => exact hh.elim
      | ret z =>
        obtain ⟨v, H', os, bare, un, ok', rz, qv⟩ := hh
        have qv' : v = .bl true := qv
        subst qv'
        obtain rfl : z = Value.bool true := rz
        refine ⟨rfl, OldK.of_keep fun b o e => ?_, os, bare⟩
        cases q : H b with
        | none => exact un.keep b o e q (by intro y; exact absurd (show b ∈ ([] : List Addr) from y) (by simp)) (by simp)
        | some z =>
          rcases only b with y | ⟨ob, xs, y⟩
          · rw [q] at y; cases y
          · have y2 := un.frzs b ob _ y
            obtain ⟨e1, _⟩ := okH b _ y
            obtain ⟨e2, _⟩ := ok' b _ y2
            rw [e] at e1; cases e1
            exact e2
  cases hk : K.lookup a with
  | some o =>
    have e := inK a o hk
    rw [obj] at e
    cases e
    exact go (fun _ => none) (fun _ => .inl rfl) (.inr ⟨us, _, hk, by rw [List.length_map]; exact len, rvs⟩) (fun b u z => by cases (show (none : Option HO) = some u from z)) (fun b z => absurd rfl z) fun z => absurd rfl z
  | none =>
    refine go (fun b => if b = a then some (.frz { cls := .type "list", data := .seq us.toArray } (.lst (ns.map V.int))) else none) (fun b => ?_) (.inl ⟨{ cls := .type "list", data := .seq us.toArray }, if_pos rfl⟩) (fun b u z => ?_) (fun b z => ?_) fun _ => hk
    · by_cases hb : b = a
      · exact .inr ⟨_, _, if_pos hb⟩
      · exact .inl (if_neg hb)
    · by_cases hb : b = a
      · cases (if_pos hb).symm.trans z
        subst hb
        exact ⟨obj, by rw [List.length_map]; exact len, us, _, rvs, obj⟩
      · cases (if_neg hb).symm.trans z
    · by_cases hb : b = a
      · exact hb
      · exact absurd (if_neg hb) z
/-- the end: the law's function of plain data answers True at every script -/
theorem walk_G {l : PySem.W.OpenLaw} {n k : Nat} {q : Program} {loose : List Str} {XP : (Str → Option Value) → Heap → Prop} {YP : World → Heap → Prop} {d : DefRec} {x : Str} {F : List D → Sto → Rs D}
    (hn : l.most = some n) (hn2 : n ≤ sizeLine) (hdf : d.params.defaults = []) (room : Room k callerA)
    (facts : ∀ (w : World) (mg : Str → Option Value) (fa : Addr) (h : Heap), YP w h → h.Ns mainGlobals mg → mg d.name = some (.ref fa) →
      ∃ (K : Fg) (fd : FuncData), K.In h ∧ (∀ (s : Shared) (u : Value), BindsTo s fd ⟨[u], []⟩ [(x, u)]) ∧ ∀ base : Heap, K.In base → base.Ns mainGlobals mg → FnG l.prog w K mg base k fa fd [x] (spF K 1 F))
    (law : ∀ ns : List Int, ns.length ≤ n → ∃ S, F [.p (.list (ns.map .int))] [] = some (.p (.bool true), S)) :
    PySem.W.WalkO q loose XP YP l.row.toRowW d [] (fun f vs => PySem.call f vs) := by
  refine Att.attach_call hn hdf fun w s0 s1 mg mb fa o pm cd doc a us ns G Y ho hd hcd hmg hobj hints hlen hg => ?_
  obtain ⟨K, fd, inK, hb, hF⟩ := facts w mg fa _ Y G.T.g hmg
  refine law_G inK G.T.g G.T.b G.T.builtins G.T.nolimit hg hobj hints (Nat.le_trans hlen hn2) room hF hb fun H r h0 => ?_
  obtain ⟨S, e⟩ := law ns hlen
  refine ⟨[], [], [.p (.list (ns.map .int))], _, S, h0, ⟨r, trivial⟩, rfl, e, fun ι' v H' _ _ rv => bl_of rv⟩
end Tm
namespace Tm
open PySem L2

/-! ## the plain side: tools -/
def isT : Rs D → Bool
  | some (.p (.bool true), _) => true
  | _ => false
theorem isT_ok {x : Rs D} (h : isT x = true) : ∃ S, x = some (.p (.bool true), S) := by
  unfold isT at h
  split at h
  · exact ⟨_, rfl⟩
  · cases h
/-- at most the object n is turned, others may be new -/
structure Fr (n : Nat) (S S' : Sto) : Prop where
  len : S.length ≤ S'.length
  at_ : ∀ j, j < S.length → j ≠ n → S'[j]? = S[j]?
theorem Fr.refl (n : Nat) (S : Sto) : Fr n S S := ⟨Nat.le_refl _, fun _ _ _ => rfl⟩
theorem Fr.trans {n : Nat} {S S1 S2 : Sto} (a : Fr n S S1) (b : Fr n S1 S2) : Fr n S S2 :=
  ⟨Nat.le_trans a.len b.len, fun j h1 h2 => (b.at_ j (Nat.lt_of_lt_of_le h1 a.len) h2).trans (a.at_ j h1 h2)⟩
theorem Fr.set {n : Nat} {S : Sto} {o : Ob} : Fr n S (S.set n o) := ⟨by simp, fun j h1 h2 => by rw [List.getElem?_set_ne (fun e => h2 e.symm)]⟩
theorem Fr.push {n : Nat} {S : Sto} {o : Ob} : Fr n S (S ++ [o]) := ⟨by simp, fun j h1 h2 => List.getElem?_append_left h1⟩
theorem set_same {n : Nat} {S : Sto} {o : Ob} (h : S[n]? = some o) : S.set n o = S := by
  refine List.ext_getElem? fun i => ?_
  by_cases e : n = i
  · subst e; rw [List.getElem?_set_self (List.getElem?_eq_some_iff.mp h).1, h]
  · rw [List.getElem?_set_ne e]
theorem small_of {i : Int} (h0 : -(2 ^ 64) < i) (h1 : i < 2 ^ 64) : small i = true := by
  unfold small
  rw [decide_eq_true h0, decide_eq_true h1]; rfl
theorem small_mod {x m : Int} (h : 0 < m) (h2 : m < 2 ^ 64) : small (x % m) = true :=
  small_of (Int.lt_of_lt_of_le (by decide) (Int.emod_nonneg _ (by omega))) (Int.lt_trans (Int.emod_lt_of_pos _ h) h2)
/-- a for whose body never leaves, by an invariant -/
theorem forL_inv {g : MG} {b : MS} (I : Nat → Ev → Sto → Prop) : ∀ (xs : List Itm) (k : Nat) (ρ : Ev) (S : Sto), I k ρ S →
    (∀ (j : Nat) (d : Itm) (ρ : Ev) (S : Sto), xs[j]? = some d → I (k + j) ρ S → ∃ ρ1 S1 ρ2 S2, g d ρ S = some (ρ1, S1) ∧ b ρ1 S1 = some (.nx ρ2, S2) ∧ I (k + j + 1) ρ2 S2) →
    ∃ ρ' S', forL g b xs ρ S = some (.nx ρ', S') ∧ I (k + xs.length) ρ' S'
  | [], k, ρ, S, h, _ => ⟨ρ, S, rfl, h⟩
  | d :: ds, k, ρ, S, h, st => by
    obtain ⟨ρ1, S1, ρ2, S2, h1, h2, h3⟩ := st 0 d ρ S rfl h
    obtain ⟨ρ', S', e, i⟩ := forL_inv I ds (k + 1) ρ2 S2 h3 fun j d' ρ S hj hi => by
      have := st (j + 1) d' ρ S (by simpa using hj) (by rw [show k + (j + 1) = k + 1 + j by omega]; exact hi)
      rw [show k + 1 + j + 1 = k + (j + 1) + 1 by omega]
      exact this
    refine ⟨ρ', S', ?_, by rw [show k + (d :: ds).length = k + 1 + ds.length by simp; omega]; exact i⟩
    unfold forL
    rw [h1]
    show (match b ρ1 S1 with
      | some (.nx ρ2, S2) => forL g b ds ρ2 S2
      | some (.ct ρ2, S2) => forL g b ds ρ2 S2
      | some (.bk ρ2, S2) => some (.nx ρ2, S2)
      | some (.rt x, S2) => some (.rt x, S2)
      | none => none) = _
    rw [h2]
    exact e
/-- a comprehension that turns nothing -/
theorem compL_pure {g : MG} {t : MB} {e : M} {ρ : Ev} {S : Sto} (p : Itm → Bool) (f : Itm → PyData) : ∀ (xs : List Itm) (acc : List PyData),
    (∀ d ∈ xs, ∃ ρ1, g d ρ S = some (ρ1, S) ∧ t ρ1 S = some (p d, S) ∧ (p d = true → e ρ1 S = some (.p (f d), S))) → compL g t e ρ xs acc S = some (acc ++ (xs.filter p).map f, S)
  | [], acc, _ => by simp [compL]
  | d :: ds, acc, h => by
    obtain ⟨ρ1, h1, h2, h3⟩ := h d (List.mem_cons_self ..)
    unfold compL
    rw [h1]
    show (match t ρ1 S with
      | some (true, S2) => (match e ρ1 S2 with
        | some (.p x, S3) => compL g t e ρ ds (acc ++ [x]) S3
        | _ => none)
      | some (false, S2) => compL g t e ρ ds acc S2
      | none => none) = _
    rw [h2]
    cases hp : p d with
    | true =>
      show (match e ρ1 S with
        | some (.p x, S3) => compL g t e ρ ds (acc ++ [x]) S3
        | _ => none) = _
      rw [h3 hp]
      show compL g t e ρ ds (acc ++ [f d]) S = _
      rw [compL_pure p f ds _ fun d hd => h d (List.mem_cons_of_mem _ hd)]
      simp [hp]
    | false =>
      show compL g t e ρ ds acc S = _
      rw [compL_pure p f ds _ fun d hd => h d (List.mem_cons_of_mem _ hd)]
      simp [hp]
theorem compL_all {g : MG} {e : M} {ρ : Ev} {S : Sto} (f : Itm → PyData) (xs : List Itm) (acc : List PyData)
    (h : ∀ d ∈ xs, ∃ ρ1, g d ρ S = some (ρ1, S) ∧ e ρ1 S = some (.p (f d), S)) : compL g bYes e ρ xs acc S = some (acc ++ xs.map f, S) := by
  rw [compL_pure (fun _ => true) f xs acc fun d hd => let ⟨ρ1, h1, h2⟩ := h d hd; ⟨ρ1, h1, rfl, fun _ => h2⟩]
  rw [List.filter_eq_self.mpr (fun _ _ => rfl)]
/-- .. over things that are written as data -/
theorem compL_enc {α : Type} {g : MG} {t : MB} {e : M} {ρ : Ev} {S : Sto} (enc : α → Itm) (p : α → Bool) (f : α → PyData) : ∀ (xs : List α) (acc : List PyData),
    (∀ d ∈ xs, ∃ ρ1, g (enc d) ρ S = some (ρ1, S) ∧ t ρ1 S = some (p d, S) ∧ (p d = true → e ρ1 S = some (.p (f d), S))) → compL g t e ρ (xs.map enc) acc S = some (acc ++ (xs.filter p).map f, S)
  | [], acc, _ => by simp [compL]
  | d :: ds, acc, h => by
    obtain ⟨ρ1, h1, h2, h3⟩ := h d (List.mem_cons_self ..)
    rw [List.map_cons]
    unfold compL
    rw [h1]
    show (match t ρ1 S with
      | some (true, S2) => (match e ρ1 S2 with
        | some (.p x, S3) => compL g t e ρ (ds.map enc) (acc ++ [x]) S3
        | _ => none)
      | some (false, S2) => compL g t e ρ (ds.map enc) acc S2
      | none => none) = _
    rw [h2]
    cases hp : p d with
    | true =>
      show (match e ρ1 S with
        | some (.p x, S3) => compL g t e ρ (ds.map enc) (acc ++ [x]) S3
        | _ => none) = _
      rw [h3 hp]
      show compL g t e ρ (ds.map enc) (acc ++ [f d]) S = _
      rw [compL_enc enc p f ds _ fun d hd => h d (List.mem_cons_of_mem _ hd)]
      simp [hp]
    | false =>
      show compL g t e ρ (ds.map enc) acc S = _
      rw [compL_enc enc p f ds _ fun d hd => h d (List.mem_cons_of_mem _ hd)]
      simp [hp]
theorem compL_map {α : Type} {g : MG} {e : M} {ρ : Ev} {S : Sto} (enc : α → Itm) (f : α → PyData) (xs : List α) (acc : List PyData)
    (h : ∀ d ∈ xs, ∃ ρ1, g (enc d) ρ S = some (ρ1, S) ∧ e ρ1 S = some (.p (f d), S)) : compL g bYes e ρ (xs.map enc) acc S = some (acc ++ xs.map f, S) := by
  rw [compL_enc enc (fun _ => true) f xs acc fun d hd => let ⟨ρ1, h1, h2⟩ := h d hd; ⟨ρ1, h1, rfl, fun _ => h2⟩]
  rw [List.filter_eq_self.mpr (fun _ _ => rfl)]
/-- a comprehension that may turn the store, by an invariant -/
theorem compL_inv {g : MG} {e : M} {ρ : Ev} (I : List PyData → Sto → Prop) : ∀ (xs : List Itm) (acc : List PyData) (S : Sto), I acc S →
    (∀ d ∈ xs, ∀ (acc : List PyData) (S : Sto), I acc S → ∃ ρ1 S1 x S2, g d ρ S = some (ρ1, S1) ∧ e ρ1 S1 = some (.p x, S2) ∧ I (acc ++ [x]) S2) →
    ∃ acc' S', compL g bYes e ρ xs acc S = some (acc', S') ∧ I acc' S'
  | [], acc, S, h, _ => ⟨acc, S, rfl, h⟩
  | d :: ds, acc, S, h, st => by
    obtain ⟨ρ1, S1, x, S2, h1, h2, h3⟩ := st d (List.mem_cons_self ..) acc S h
    obtain ⟨acc', S', e', i⟩ := compL_inv I ds _ S2 h3 fun d hd => st d (List.mem_cons_of_mem _ hd)
    refine ⟨acc', S', ?_, i⟩
    unfold compL
    rw [h1]
    show (match e ρ1 S1 with
        | some (.p x, S3) => compL g bYes e ρ ds (acc ++ [x]) S3
        | _ => none) = _
    rw [h2]
    exact e'
end Tm
namespace Tm
open PySem L2

/-! ## neat data: small enough to be shown -/
structure Nt (w k : Nat) (d : PyData) : Prop where
  can : d.canLay0 = true
  short : d.intsShort 13 = true
  shw : d.showable = true
  wt : d.weight ≤ w
  dp : d.depth ≤ k
structure NtA (w k : Nat) (ds : List PyData) : Prop where
  can : PyData.canLayAll0 ds = true
  short : PyData.intsShortAll 13 ds = true
  shw : PyData.showableAll ds = true
  wt : PyData.weightAll ds ≤ w
  dp : PyData.depthAll ds ≤ k
theorem Nt.up {w k w' k' : Nat} {d : PyData} (h : Nt w k d) (h1 : w ≤ w') (h2 : k ≤ k') : Nt w' k' d := ⟨h.can, h.short, h.shw, Nat.le_trans h.wt h1, Nat.le_trans h.dp h2⟩
theorem NtA.nil {w k : Nat} : NtA w k [] := ⟨rfl, rfl, rfl, Nat.zero_le _, Nat.zero_le _⟩
theorem NtA.cons {w1 w2 k : Nat} {d : PyData} {ds : List PyData} (h : Nt w1 k d) (t : NtA w2 k ds) : NtA (w1 + 1 + w2) k (d :: ds) := by
  refine ⟨?_, ?_, ?_, ?_, ?_⟩
  · simp only [PyData.canLayAll0, h.can, t.can, Bool.and_self]
  · simp only [PyData.intsShortAll, h.short, t.short, Bool.and_self]
  · simp only [PyData.showableAll, h.shw, t.shw, Bool.and_self]
  · simp only [PyData.weightAll]; have := h.wt; have := t.wt; omega
  · simp only [PyData.depthAll]; have := h.dp; have := t.dp; omega
theorem Nt.tup {w k : Nat} {ds : List PyData} (h : NtA w k ds) : Nt w (k + 1) (.tuple ds) :=
  ⟨by simp only [PyData.canLay0, h.can], by simp only [PyData.intsShort, h.short], by simp only [PyData.showable, h.shw], by simp only [PyData.weight]; exact h.wt, by simp only [PyData.depth]; have := h.dp; omega⟩
theorem Nt.lst {w k : Nat} {ds : List PyData} (h : NtA w k ds) : Nt w (k + 1) (.list ds) :=
  ⟨by simp only [PyData.canLay0, h.can], by simp only [PyData.intsShort, h.short], by simp only [PyData.showable, h.shw], by simp only [PyData.weight]; exact h.wt, by simp only [PyData.depth]; have := h.dp; omega⟩
theorem NtA.all {w k : Nat} : ∀ {ds : List PyData} {n : Nat}, (∀ d ∈ ds, Nt w k d) → ds.length ≤ n → NtA (n * (w + 1)) k ds
  | [], n, _, _ => NtA.nil
  | d :: ds, 0, _, hl => absurd hl (by simp)
  | d :: ds, n + 1, h, hl => by
    have t := NtA.cons (h d (List.mem_cons_self ..)) (NtA.all (n := n) (fun x hx => h x (List.mem_cons_of_mem _ hx)) (by simpa using hl))
    refine ⟨t.can, t.short, t.shw, Nat.le_trans t.wt ?_, t.dp⟩
    rw [Nat.succ_mul]; omega
theorem Nt.non : Nt 0 0 .none := ⟨by simp [PyData.canLay0], by simp [PyData.intsShort], by simp [PyData.showable], by simp [PyData.weight], by simp [PyData.depth]⟩
theorem Nt.bool (b : Bool) : Nt 0 0 (.bool b) := ⟨by simp [PyData.canLay0], by simp [PyData.intsShort], by simp [PyData.showable], by simp [PyData.weight], by simp [PyData.depth]⟩
theorem Nt.int {i : Int} (h1 : -1000000 < i) (h2 : i < 1000000) : Nt 20 0 (.int i) := by
  have hn : i.natAbs < 2 ^ 20 := by omega
  have hl : i ≠ 0 → i.natAbs.log2 < 20 := fun z => (Nat.log2_lt (by omega)).mpr hn
  refine ⟨by simp [PyData.canLay0], ?_, ?_, ?_, by simp [PyData.depth]⟩
  · simp only [PyData.intsShort, decide_eq_true_eq]
    exact PyData.shown_int_le (by omega)
  · simp only [PyData.showable, decide_eq_true_eq]
    by_cases z : i = 0
    · subst z; decide
    · have := hl z; omega
  · simp only [PyData.weight]
    by_cases z : i = 0
    · subst z; decide
    · have := hl z
      rw [if_neg (by simpa using z)]; omega
theorem repr_nt {w k : Nat} {d : PyData} {S : Sto} (h : Nt w k d) (h1 : w ≤ 1000000) (h2 : k ≤ 60) : gRepr [.p d] S = some (.p (.str d.shown), S) := by
  have lay : d.layable0 = true := by
    unfold PyData.layable0
    have e1 : decide (d.depth ≤ 64) = true := decide_eq_true (by have := h.dp; omega)
    have e2 : decide (d.weight ≤ 2 ^ 20) = true := decide_eq_true (by have := h.wt; omega)
    rw [h.can, e1, e2]; rfl
  have hs := PyData.shown_le_of_layable0 lay h.short
  have e1 : decide (d.depth ≤ 64) = true := decide_eq_true (by have := h.dp; omega)
  have e2 : decide (d.shown.length ≤ Lim) = true := decide_eq_true (by unfold Lim; omega)
  show (if (d.showable && decide (d.shown.length ≤ Lim) && decide (d.depth ≤ 64)) = true then ok (.str d.shown) S else none) = _
  rw [h.shw, e1, e2]; rfl
/-! ## cells, letters, rows -/
abbrev Cell := Int × Int
def eC (c : Cell) : PyData := .tuple [.int c.1, .int c.2]
inductive Dir where
  | e | n | s | w
def Dir.chr : Dir → Nat
  | .e => 101 | .n => 110 | .s => 115 | .w => 119
def eL (d : Dir) : PyData := .str ⟨#[d.chr]⟩
def rowS (r : List Dir) : Str := ⟨(r.map Dir.chr).toArray⟩
def dx : Dir → Int
  | .e => 1 | .w => -1 | _ => 0
def dy : Dir → Int
  | .n => 1 | .s => -1 | _ => 0
def stp (d : Dir) (c : Cell) : Cell := (c.1 + dx d, c.2 + dy d)
def Dir.back : Dir → Dir
  | .e => .w | .w => .e | .n => .s | .s => .n
theorem signs_rowS (r : List Dir) : signs (rowS r) = r.map eL := by
  unfold signs rowS
  simp only [List.toList_toArray, List.map_map]
  rfl
theorem rowS_len (r : List Dir) : (rowS r).length = r.length := by unfold rowS Str.length; simp
theorem eqv_cell (a b : Cell) : PyData.eqv (eC a) (eC b) = decide (a = b) := by
  unfold eC
  simp only [PyData.eqv, PyData.eqvAll, Bool.and_true]
  obtain ⟨a1, a2⟩ := a
  obtain ⟨b1, b2⟩ := b
  simp only [Prod.mk.injEq]
  rw [Bool.decide_and]
  rfl
theorem any_cell (cs : List Cell) (c : Cell) : (cs.map eC).any (fun z => PyData.eqv z (eC c)) = decide (c ∈ cs) := by
  rw [List.any_map]
  by_cases h : c ∈ cs
  · rw [decide_eq_true h, List.any_eq_true]
    exact ⟨c, h, by simp [eqv_cell]⟩
  · rw [decide_eq_false h, List.any_eq_false]
    intro x hx
    simp only [Function.comp, eqv_cell, decide_eq_true_eq]
    exact fun e => h (e ▸ hx)
theorem canLay_cell (c : Cell) : (eC c).canLay0 = true := by simp [eC, PyData.canLay0, PyData.canLayAll0]
theorem canLay_cells : ∀ cs : List Cell, PyData.canLayAll0 (cs.map eC) = true
  | [] => rfl
  | c :: cs => by simp only [List.map_cons, PyData.canLayAll0, canLay_cell, canLay_cells cs, Bool.and_self]
theorem depth_cell (c : Cell) : (eC c).depth = 1 := by simp [eC, PyData.depth, PyData.depthAll]
theorem depth_cells : ∀ cs : List Cell, PyData.depthAll (cs.map eC) ≤ 1
  | [] => by simp [PyData.depthAll]
  | c :: cs => by
    have := depth_cells cs
    simp only [List.map_cons, PyData.depthAll, depth_cell]; omega
theorem shaped_cell (c : Cell) : SeqAt.shaped (eC c) = true := by
  unfold SeqAt.shaped
  rw [canLay_cell, depth_cell]; rfl
theorem shaped_tup (cs : List Cell) : SeqAt.shaped (.tuple (cs.map eC)) = true := by
  unfold SeqAt.shaped
  have h1 : (PyData.tuple (cs.map eC)).canLay0 = true := by simp only [PyData.canLay0, canLay_cells]
  have h2 : (PyData.tuple (cs.map eC)).depth ≤ 64 := by simp only [PyData.depth]; have := depth_cells cs; omega
  rw [h1, decide_eq_true h2]; rfl
theorem shaped_lst (cs : List Cell) : SeqAt.shaped (.list (cs.map eC)) = true := by
  unfold SeqAt.shaped
  have h1 : (PyData.list (cs.map eC)).canLay0 = true := by simp only [PyData.canLay0, canLay_cells]
  have h2 : (PyData.list (cs.map eC)).depth ≤ 64 := by simp only [PyData.depth]; have := depth_cells cs; omega
  rw [h1, decide_eq_true h2]; rfl
theorem in_tup (cs : List Cell) (c : Cell) (S : Sto) : inD (.p (eC c)) (.p (.tuple (cs.map eC))) S = some (decide (c ∈ cs)) := by
  show (if (SeqAt.shaped (eC c) && SeqAt.shaped (.tuple (cs.map eC))) = true then some ((cs.map eC).any fun z => PyData.eqv z (eC c)) else none) = _
  rw [shaped_cell, shaped_tup, any_cell]; rfl
theorem in_lst {d : D} {S : Sto} (cs : List Cell) (c : Cell) (h : dataOf d S = some (.list (cs.map eC))) : inD (.p (eC c)) d S = some (decide (c ∈ cs)) := by
  unfold inD
  rw [h]
  show (if (SeqAt.shaped (eC c) && SeqAt.shaped (.list (cs.map eC))) = true then some ((cs.map eC).any fun z => PyData.eqv z (eC c)) else none) = _
  rw [shaped_cell, shaped_lst, any_cell]; rfl
/-! ### sorted cells -/
def cle (a b : Cell) : Bool := decide (a.1 < b.1 ∨ (a.1 = b.1 ∧ a.2 ≤ b.2))
def clt (a b : Cell) : Bool := decide (a.1 < b.1 ∨ (a.1 = b.1 ∧ a.2 < b.2))
theorem clt_lex (a b : Cell) : HT.lexLt [a.1, a.2] [b.1, b.2] = clt a b := by
  unfold clt
  rw [HT.lexLt_cons, HT.lexLt_cons, HT.lexLt_nil_nil]
  by_cases h : a.1 = b.1
  · rw [if_pos h]
    by_cases h2 : a.2 = b.2
    · rw [if_pos h2]; symm; rw [decide_eq_false_iff_not]; omega
    · rw [if_neg h2]; congr 1; simp [h]
  · rw [if_neg h]; congr 1; simp [h]
theorem less_cell (a b : Cell) (S : Sto) : gLess (.p (eC a)) (.p (eC b)) S = some (.p (.bool (clt a b)), S) := by
  show ok (.bool (HT.lexLt [a.1, a.2] [b.1, b.2])) S = _
  rw [clt_lex]; rfl
def sortC (cs : List Cell) : List Cell := cs.mergeSort cle
theorem sort_cells (cs : List Cell) : sortD (cs.map eC) = (sortC cs).map eC := by
  unfold sortD sortC
  refine (List.map_mergeSort fun a _ b _ => ?_).symm
  have := congrFun (congrFun (PySem.W.dataLe_ii (β := Cell) (fun c => c.1) (fun c => c.2)) a) b
  show cle a b = PySem.W.dataLe false id (eC a) (eC b)
  exact this.symm
theorem sortable_cells (cs : List Cell) : sortable (cs.map eC) = true := by
  unfold sortable allAlike
  have h1 : ((cs.map eC).all fun x => (cs.map eC).all fun y => PySem.W.alike x y) = true := by
    rw [List.all_eq_true]
    intro x hx
    rw [List.all_eq_true]
    intro y hy
    obtain ⟨a, _, rfl⟩ := List.mem_map.mp hx
    obtain ⟨b, _, rfl⟩ := List.mem_map.mp hy
    simp [eC, PySem.W.alike, PySem.W.alikeAll]
  have h2 : (cs.map eC).all isTup1 = true := by
    rw [List.all_eq_true]
    intro x hx
    obtain ⟨a, _, rfl⟩ := List.mem_map.mp hx
    rfl
  have h3 : ((cs.map eC).all fun x => decide (x.depth ≤ 64)) = true := by
    rw [List.all_eq_true]
    intro x hx
    obtain ⟨a, _, rfl⟩ := List.mem_map.mp hx
    rw [depth_cell]; rfl
  rw [h1, h2, h3]; rfl
/-- rising -/
def Rises : List Cell → Prop
  | a :: b :: r => clt a b = true ∧ Rises (b :: r)
  | _ => True
theorem sortC_perm (cs : List Cell) : (sortC cs).Perm cs := List.mergeSort_perm cs cle
theorem rises_of : ∀ {cs : List Cell}, cs.Nodup → List.Pairwise (fun a b => cle a b = true) cs → Rises cs
  | [], _, _ => trivial
  | [_], _, _ => trivial
  | a :: b :: r, nd, pw => by
    refine ⟨?_, rises_of (List.nodup_cons.mp nd).2 (List.pairwise_cons.mp pw).2⟩
    have h1 := (List.pairwise_cons.mp pw).1 b (List.mem_cons_self ..)
    have h2 : a ≠ b := fun e => (List.nodup_cons.mp nd).1 (by rw [e]; exact List.mem_cons_self ..)
    unfold cle at h1
    unfold clt
    simp only [decide_eq_true_eq] at h1 ⊢
    obtain ⟨a1, a2⟩ := a
    obtain ⟨b1, b2⟩ := b
    simp only [ne_eq, Prod.mk.injEq, not_and] at h2
    simp only at h1 ⊢
    by_cases e : a1 = b1
    · have := h2 e; omega
    · omega
theorem sortC_rises {cs : List Cell} (nd : cs.Nodup) : Rises (sortC cs) := by
  refine rises_of ((sortC_perm cs).nodup_iff.mpr nd) (List.pairwise_mergeSort (fun a b c h1 h2 => ?_) (fun a b => ?_) cs)
  · unfold cle at *
    simp only [decide_eq_true_eq] at *
    omega
  · unfold cle
    simp only [Bool.or_eq_true, decide_eq_true_eq]
    omega
/-- a floor: one to nine cells of four by four, rising -/
structure Floor (cs : List Cell) : Prop where
  pos : 0 < cs.length
  most : cs.length ≤ 9
  range : ∀ c ∈ cs, 0 ≤ c.1 ∧ c.1 ≤ 3 ∧ 0 ≤ c.2 ∧ c.2 ≤ 3
  rises : Rises cs
theorem floor_sort {cs : List Cell} (h0 : 0 < cs.length) (h1 : cs.length ≤ 9) (nd : cs.Nodup) (hr : ∀ c ∈ cs, 0 ≤ c.1 ∧ c.1 ≤ 3 ∧ 0 ≤ c.2 ∧ c.2 ≤ 3) : Floor (sortC cs) := by
  have p := sortC_perm cs
  exact ⟨by rw [p.length_eq]; exact h0, by rw [p.length_eq]; exact h1, fun c hc => hr c (p.mem_iff.mp hc), sortC_rises nd⟩
theorem nt_cell {c : Cell} (h : 0 ≤ c.1 ∧ c.1 ≤ 3 ∧ 0 ≤ c.2 ∧ c.2 ≤ 3) : Nt 42 1 (eC c) :=
  (Nt.tup (NtA.cons (Nt.int (by omega) (by omega)) (NtA.cons (Nt.int (by omega) (by omega)) (NtA.nil (w := 0))))).up (by decide) (by decide)
theorem nt_floor {cs : List Cell} (F : Floor cs) : Nt 400 2 (.tuple (cs.map eC)) := by
  refine (Nt.tup (NtA.all (w := 42) (k := 1) (n := 9) (fun d hd => ?_) (by rw [List.length_map]; exact F.most))).up (by decide) (by decide)
  obtain ⟨c, hc, rfl⟩ := List.mem_map.mp hd
  exact nt_cell (F.range c hc)
end Tm
namespace Tm
open PySem L2

/-! ## derivations: how a text is run on the plain side -/
section
variable {ρ ρ1 ρ2 ρ3 : Ev} {S S1 S2 S3 S4 : Sto} {d x y z : D} {a b c e o : E} {as es : Es} {ds : List D} {r : Option (Out × Sto)} {t : Tg} {ts : Tgs} {k l m : Ss} {st : St'} {v : D} {q : Bool}
theorem l_fn {n N : Nat} {ir : Ss} (hl : ds.length = n) (h : denSs ir (ds.map some ++ List.replicate (N - n) none) S = some (.rt d, S1)) : runF n N (denSs ir) ds S = some (d, S1) := by
  unfold runF; rw [if_pos hl, h]
theorem l_fn0 {n N : Nat} {ir : Ss} (hl : ds.length = n) (h : denSs ir (ds.map some ++ List.replicate (N - n) none) S = some (.nx ρ1, S1)) : runF n N (denSs ir) ds S = some (.p .none, S1) := by
  unfold runF; rw [if_pos hl, h]
theorem l_nil : denSs .nil ρ S = some (.nx ρ, S) := rfl
theorem l_ret (h : den e ρ S = some (d, S1)) : denSs (.cons (.ret e) k) ρ S = some (.rt d, S1) := by
  simp only [denSs, denS, msSeq, msRet, h]
theorem l_seq (h : denS st ρ S = some (.nx ρ1, S1)) (h2 : denSs k ρ1 S1 = r) : denSs (.cons st k) ρ S = r := by
  simp only [denSs, msSeq, h]; exact h2
theorem l_asg (h : den e ρ S = some (d, S1)) (h1 : denG t (.one d) ρ S1 = some (ρ2, S2)) (h2 : denSs k ρ2 S2 = r) : denSs (.cons (.asg t e) k) ρ S = r :=
  l_seq (by simp only [denS, msAsg, h, h1]) h2
theorem l_par (h : dens es ρ S = some (ds, S1)) (h1 : denGs ts ds ρ S1 = some (ρ2, S2)) (h2 : denSs k ρ2 S2 = r) : denSs (.cons (.par ts es) k) ρ S = r :=
  l_seq (by simp only [denS, msPar, h, h1]) h2
theorem l_expr (h : den e ρ S = some (d, S1)) (h2 : denSs k ρ S1 = r) : denSs (.cons (.expr e) k) ρ S = r :=
  l_seq (by simp only [denS, msExpr, h]) h2
theorem l_ifT (h : denT c ρ S = some (true, S1)) (h1 : denSs l ρ S1 = some (.nx ρ2, S2)) (h2 : denSs k ρ2 S2 = r) : denSs (.cons (.ife c l m) k) ρ S = r :=
  l_seq (by simp only [denS, msIf, h, h1]) h2
theorem l_ifF (h : denT c ρ S = some (false, S1)) (h1 : denSs m ρ S1 = some (.nx ρ2, S2)) (h2 : denSs k ρ2 S2 = r) : denSs (.cons (.ife c l m) k) ρ S = r :=
  l_seq (by simp only [denS, msIf, h, h1]) h2
theorem l_ifTr (h : denT c ρ S = some (true, S1)) (h1 : denSs l ρ S1 = some (.rt d, S2)) : denSs (.cons (.ife c l m) k) ρ S = some (.rt d, S2) := by
  simp only [denSs, denS, msSeq, msIf, h, h1]
theorem l_ifFr (h : denT c ρ S = some (false, S1)) (h1 : denSs m ρ S1 = some (.rt d, S2)) : denSs (.cons (.ife c l m) k) ρ S = some (.rt d, S2) := by
  simp only [denSs, denS, msSeq, msIf, h, h1]
theorem s_ifT (h : denT c ρ S = some (true, S1)) (h1 : denSs l ρ S1 = r) : denS (.ife c l m) ρ S = r := by simp only [denS, msIf, h]; exact h1
theorem s_ifF (h : denT c ρ S = some (false, S1)) (h1 : denSs m ρ S1 = r) : denS (.ife c l m) ρ S = r := by simp only [denS, msIf, h]; exact h1
theorem l_loop {it : Wk} {xs : List Itm} (h : denI it ρ S = some (.its xs, S1)) (h1 : forL (denG t) (denSs l) xs ρ S1 = some (.nx ρ2, S2)) (h2 : denSs k ρ2 S2 = r) : denSs (.cons (.loop t it l) k) ρ S = r :=
  l_seq (by simp only [denS, msFor, h, h1]) h2
theorem l_loopR {it : Wk} {xs : List Itm} (h : denI it ρ S = some (.its xs, S1)) (h1 : forL (denG t) (denSs l) xs ρ S1 = some (.rt d, S2)) : denSs (.cons (.loop t it l) k) ρ S = some (.rt d, S2) := by
  simp only [denSs, denS, msSeq, msFor, h, h1]
theorem f_nil {g : MG} {b : MS} : forL g b [] ρ S = some (.nx ρ, S) := rfl
theorem f_cons {g : MG} {b : MS} {i : Itm} {is : List Itm} (h : g i ρ S = some (ρ1, S1)) (h1 : b ρ1 S1 = some (.nx ρ2, S2)) (h2 : forL g b is ρ2 S2 = r) : forL g b (i :: is) ρ S = r := by
  simp only [forL, h, h1]; exact h2
theorem f_consR {g : MG} {b : MS} {i : Itm} {is : List Itm} (h : g i ρ S = some (ρ1, S1)) (h1 : b ρ1 S1 = some (.rt d, S2)) : forL g b (i :: is) ρ S = some (.rt d, S2) := by
  simp only [forL, h, h1]
/-! expressions -/
theorem e_nil : dens .nil ρ S = some ([], S) := rfl
theorem e_cons (h : den a ρ S = some (d, S1)) (h1 : dens as ρ S1 = some (ds, S2)) : dens (.cons a as) ρ S = some (d :: ds, S2) := by
  simp only [dens, maCons, h, h1]
theorem e_call {f : Str} {n : Nat} {F : List D → Sto → Rs D} (h : dens as ρ S = some (ds, S1)) (h1 : F ds S1 = some (d, S2)) : den (.call f n F as) ρ S = some (d, S2) := by
  simp only [den, mN, h]; exact h1
theorem e_prim {p : Pr} (h : dens as ρ S = some (ds, S1)) (h1 : p.fn ds S1 = some (d, S2)) : den (.prim p as) ρ S = some (d, S2) := by
  simp only [den, mN, h]; exact h1
theorem e_tup (h : dens as ρ S = some (ds, S1)) (h1 : gTuple ds S1 = some (d, S2)) : den (.tup as) ρ S = some (d, S2) := by
  simp only [den, mN, h]; exact h1
theorem e_lst (h : dens as ρ S = some (ds, S1)) (h1 : gList ds S1 = some (d, S2)) : den (.lst false as) ρ S = some (d, S2) := by
  simp only [den, mN, h]; exact h1
theorem e_lstM (h : dens as ρ S = some (ds, S1)) (h1 : gListM ds S1 = some (d, S2)) : den (.lst true as) ρ S = some (d, S2) := by
  simp only [den, mN, h]; exact h1
theorem e_bin {p : Bin} (h : den a ρ S = some (x, S1)) (h1 : den b ρ S1 = some (y, S2)) (h2 : p.fn x y S2 = some (z, S3)) : den (.bin p a b) ρ S = some (z, S3) := by
  simp only [den, m2, h, h1]; exact h2
theorem e_cmp {p : Cm} (h : den a ρ S = some (x, S1)) (h1 : den b ρ S1 = some (y, S2)) (h2 : p.fn x y S2 = some (z, S3)) : den (.cmp p a b) ρ S = some (z, S3) := by
  simp only [den, m2, h, h1]; exact h2
theorem e_ix (h : den a ρ S = some (x, S1)) (h1 : den b ρ S1 = some (y, S2)) (h2 : gIx x y S2 = some (z, S3)) : den (.ix a b) ρ S = some (z, S3) := by
  simp only [den, m2, h, h1]; exact h2
theorem e_meth {p : Mt} (h : den o ρ S = some (x, S1)) (hr : recvB p.ty x S1 = true) (h1 : dens as ρ S1 = some (ds, S2)) (h2 : p.fn x ds S2 = some (z, S3)) : den (.meth p o as) ρ S = some (z, S3) := by
  simp only [den, mMt, h, hr, h1, if_true]; exact h2
theorem e_andT (h : den a ρ S = some (.p (.bool true), S1)) (h1 : den (.and (.cons b as)) ρ S1 = some (z, S2)) : den (.and (.cons a (.cons b as))) ρ S = some (z, S2) := by
  simp only [den, denAnd, mAnd, h]
  simpa only [den, denAnd] using h1
theorem e_andF (h : den a ρ S = some (.p (.bool false), S1)) : den (.and (.cons a (.cons b as))) ρ S = some (.p (.bool false), S1) := by
  simp only [den, denAnd, mAnd, h]
theorem e_and1 (h : den a ρ S = some (z, S1)) : den (.and (.cons a .nil)) ρ S = some (z, S1) := by
  simp only [den, denAnd]; exact h
theorem e_orF (h : den a ρ S = some (.p (.bool false), S1)) (h1 : den (.or (.cons b as)) ρ S1 = some (z, S2)) : den (.or (.cons a (.cons b as))) ρ S = some (z, S2) := by
  simp only [den, denOr, mOr, h]
  simpa only [den, denOr] using h1
theorem e_orT (h : den a ρ S = some (.p (.bool true), S1)) : den (.or (.cons a (.cons b as))) ρ S = some (.p (.bool true), S1) := by
  simp only [den, denOr, mOr, h]
theorem e_or1 (h : den a ρ S = some (z, S1)) : den (.or (.cons a .nil)) ρ S = some (z, S1) := by
  simp only [den, denOr]; exact h
theorem e_not (h : den a ρ S = some (.p (.bool q), S1)) : den (.not a) ρ S = some (.p (.bool (!q)), S1) := by
  simp only [den, m1, h, gNot]
theorem e_ifT (h : denT c ρ S = some (true, S1)) (h1 : den a ρ S1 = some (z, S2)) : den (.ife c a b) ρ S = some (z, S2) := by
  simp only [den, mIf, h]; exact h1
theorem e_ifF (h : denT c ρ S = some (false, S1)) (h1 : den b ρ S1 = some (z, S2)) : den (.ife c a b) ρ S = some (z, S2) := by
  simp only [den, mIf, h]; exact h1
/-! tests -/
theorem t_cmp {p : Cm} (h : den (.cmp p a b) ρ S = some (.p (.bool q), S1)) : denT (.cmp p a b) ρ S = some (q, S1) := by
  simp only [den] at h
  simp only [denT, bV, h]
theorem t_call {f : Str} {n : Nat} {F : List D → Sto → Rs D} (h : den (.call f n F as) ρ S = some (.p (.bool q), S1)) : denT (.call f n F as) ρ S = some (q, S1) := by
  simp only [den] at h
  simp only [denT, bV, h]
theorem t_prim {p : Pr} (h : den (.prim p as) ρ S = some (.p (.bool q), S1)) : denT (.prim p as) ρ S = some (q, S1) := by
  simp only [den] at h
  simp only [denT, bV, h]
theorem t_isa {T : String} (h : den (.isa a T) ρ S = some (.p (.bool q), S1)) : denT (.isa a T) ρ S = some (q, S1) := by
  simp only [den] at h
  simp only [denT, bV, h]
theorem t_ix (h : den (.ix a b) ρ S = some (.p (.bool q), S1)) : denT (.ix a b) ρ S = some (q, S1) := by
  simp only [den] at h
  simp only [denT, bV, h]
theorem t_chn {p p' : Cm} (h : den (.chn p p' a b c) ρ S = some (.p (.bool q), S1)) : denT (.chn p p' a b c) ρ S = some (q, S1) := by
  simp only [den] at h
  simp only [denT, bV, h]
theorem e_chnT {p p' : Cm} (h : den a ρ S = some (x, S1)) (h1 : den b ρ S1 = some (y, S2)) (h2 : p.fn x y S2 = some (.p (.bool true), S3)) (h3 : den c ρ S3 = some (z, S4)) (h4 : p'.fn y z S4 = some (d, S)) : den (.chn p p' a b c) ρ S = some (d, S) := by
  simp only [den, mChain, h, h1, h2, h3]; exact h4
theorem e_chnF {p p' : Cm} (h : den a ρ S = some (x, S1)) (h1 : den b ρ S1 = some (y, S2)) (h2 : p.fn x y S2 = some (.p (.bool false), S3)) : den (.chn p p' a b c) ρ S = some (.p (.bool false), S3) := by
  simp only [den, mChain, h, h1, h2]
theorem t_not (h : denT a ρ S = some (q, S1)) : denT (.not a) ρ S = some (!q, S1) := by
  simp only [denT, bNot, h]
theorem t_not1 (h : denT a ρ S = some (true, S1)) : denT (.not a) ρ S = some (false, S1) := t_not h
theorem t_not0 (h : denT a ρ S = some (false, S1)) : denT (.not a) ρ S = some (true, S1) := t_not h
theorem t_andT (h : denT a ρ S = some (true, S1)) (h1 : denT (.and (.cons b as)) ρ S1 = some (q, S2)) : denT (.and (.cons a (.cons b as))) ρ S = some (q, S2) := by
  simp only [denT, denAndT, bAnd, h]
  simpa only [denT, denAndT] using h1
theorem t_andF (h : denT a ρ S = some (false, S1)) : denT (.and (.cons a (.cons b as))) ρ S = some (false, S1) := by
  simp only [denT, denAndT, bAnd, h]
theorem t_and1 (h : denT a ρ S = some (q, S1)) : denT (.and (.cons a .nil)) ρ S = some (q, S1) := by
  simp only [denT, denAndT]; exact h
theorem t_orF (h : denT a ρ S = some (false, S1)) (h1 : denT (.or (.cons b as)) ρ S1 = some (q, S2)) : denT (.or (.cons a (.cons b as))) ρ S = some (q, S2) := by
  simp only [denT, denOrT, bOr, h]
  simpa only [denT, denOrT] using h1
theorem t_orT (h : denT a ρ S = some (true, S1)) : denT (.or (.cons a (.cons b as))) ρ S = some (true, S1) := by
  simp only [denT, denOrT, bOr, h]
theorem t_or1 (h : denT a ρ S = some (q, S1)) : denT (.or (.cons a .nil)) ρ S = some (q, S1) := by
  simp only [denT, denOrT]; exact h
/-! comprehensions -/
theorem e_comp {it : Wk} {cd : Op} {own : List (Str × Nat)} {xs : List Itm} {acc : List PyData} (h : denI it ρ S = some (.its xs, S1)) (h1 : compL (denG t) (denC cd) (den e) (wipeE ρ (own.map (·.2))) xs [] S1 = some (acc, S2)) :
    den (.comp false it t cd e own) ρ S = some (.p (.list acc), S2) := by
  have h3 : compA (denI it) (denG t) (denC cd) (den e) (own.map (·.2)) ρ S = some (acc, S2) := by unfold compA; rw [h]; exact h1
  simp only [den]
  show mComp _ _ _ _ _ ρ S = _
  unfold mComp
  rw [h3]
theorem e_compM {it : Wk} {cd : Op} {own : List (Str × Nat)} {xs : List Itm} {acc : List PyData} (h : denI it ρ S = some (.its xs, S1)) (h1 : compL (denG t) (denC cd) (den e) (wipeE ρ (own.map (·.2))) xs [] S1 = some (acc, S2)) :
    den (.comp true it t cd e own) ρ S = some (.r S2.length, S2 ++ [.lst acc]) := by
  have h3 : compA (denI it) (denG t) (denC cd) (den e) (own.map (·.2)) ρ S = some (acc, S2) := by unfold compA; rw [h]; exact h1
  simp only [den]
  show mCompM _ _ _ _ _ ρ S = _
  unfold mCompM
  rw [h3]
/-! what is walked -/
theorem i_tup {xs : List PyData} (h : den a ρ S = some (.p (.tuple xs), S1)) : denI (.val a) ρ S = some (.its (rowOf xs), S1) := by
  simp only [denI, iVal, h]
theorem i_lst {xs : List PyData} (h : den a ρ S = some (.p (.list xs), S1)) : denI (.val a) ρ S = some (.its (rowOf xs), S1) := by
  simp only [denI, iVal, h]
theorem i_row {w : List Dir} (h : den a ρ S = some (.p (.str (rowS w)), S1)) (hl : w.length ≤ 1000000) : denI (.val a) ρ S = some (.its (rowOf (w.map eL)), S1) := by
  simp only [denI, iVal, h]
  rw [if_pos (by rw [rowS_len]; unfold Lim; omega), signs_rowS]
theorem i_rowD {w : List Dir} (h : den a ρ S = some (.p (.str (rowS w)), S1)) (hl : w.length ≤ 1000000) : denI (.val a) ρ S = some (.its (w.map fun d => .one (.p (eL d))), S1) := by
  rw [i_row h hl]
  unfold rowOf
  rw [List.map_map]; rfl
theorem i_enum {w : List Dir} (h : den a ρ S = some (.p (.str (rowS w)), S1)) (hl : w.length ≤ 1000000) : denI (.enum a) ρ S = some (.its (numbered (w.map eL)), S1) := by
  simp only [denI, iEnumS, h]
  rw [if_pos (by rw [rowS_len]; unfold Lim; omega), signs_rowS]
theorem i_zip {xs ys : List PyData} (h : dens as ρ S = some ([.p (.tuple xs), .p (.tuple ys)], S1)) : denI (.zip as) ρ S = some (.its (paired xs ys), S1) := by
  simp only [denI, iZipT, h]
theorem i_range {j : Int} (h : dens as ρ S = some ([.p (.int j)], S1)) (h0 : 0 ≤ j) (hl : j ≤ 1000000) : denI (.r1 as) ρ S = some (.its (rowOf (rangeD 0 j.toNat)), S1) := by
  simp only [denI, iRange1, h]
  rw [if_pos (by unfold Lim; omega)]
end
theorem eq_int (i j : Int) (S : Sto) : gEq (.p (.int i)) (.p (.int j)) S = some (.p (.bool (decide (i = j))), S) := rfl
theorem le_int (i j : Int) (S : Sto) : gLe (.p (.int i)) (.p (.int j)) S = some (.p (.bool (decide (i ≤ j))), S) := rfl
theorem less_int (i j : Int) (S : Sto) : gLess (.p (.int i)) (.p (.int j)) S = some (.p (.bool (decide (i < j))), S) := rfl
theorem data_r {n : Nat} {S : Sto} {xs : List PyData} (h : S[n]? = some (.lst xs)) : dataOf (.r n) S = some (.list xs) := by
  show (match S[n]? with | some (.lst xs) => some (PyData.list xs) | _ => none) = _
  rw [h]
theorem list_r {n : Nat} {S : Sto} {xs : List PyData} (h : S[n]? = some (.lst xs)) : listOf (.r n) S = some xs := by
  show (match S[n]? with | some (.lst xs) => some xs | _ => none) = _
  rw [h]
theorem e_append {ρ : Ev} {S S1 S2 : Sto} {o a : E} {k : Nat} {dd : PyData} {xs ys : List PyData} (h : den o ρ S = some (.r k, S1)) (hk1 : S1[k]? = some (.lst ys)) (h1 : den a ρ S1 = some (.p dd, S2)) (hk : S2[k]? = some (.lst xs)) (hl : xs.length < 1000000) :
    den (.meth .append o (.cons a .nil)) ρ S = some (.p .none, S2.set k (.lst (xs ++ [dd]))) := by
  refine e_meth h ?_ (e_cons h1 e_nil) ?_
  · unfold recvB
    rw [data_r hk1]; rfl
  · show gAppend (.r k) [.p dd] S2 = _
    show (match S2[k]? with
      | some (.lst xs) => if xs.length < Lim then some (D.p .none, S2.set k (.lst (xs ++ [dd]))) else none
      | _ => none) = _
    rw [hk]
    show (if xs.length < Lim then some (D.p .none, S2.set k (.lst (xs ++ [dd]))) else none) = _
    rw [if_pos (by unfold Lim; omega)]
theorem Fr.setNew {n k : Nat} {S S1 : Sto} {o : Ob} (f : Fr n S S1) (h : S.length ≤ k) : Fr n S (S1.set k o) :=
  ⟨by simpa using f.len, fun j h1 h2 => by rw [List.getElem?_set_ne (by omega)]; exact f.at_ j h1 h2⟩
theorem all_true {α : Type} (xs : List α) (S : Sto) : gAll [.p (.list (xs.map fun _ => .bool true))] S = some (.p (.bool true), S) := by
  have h : ∀ xs : List α, boolsD (xs.map fun _ => PyData.bool true) = some (xs.map fun _ => true) := by
    intro xs
    induction xs with
    | nil => rfl
    | cons x xs ih => simp only [List.map_cons, boolsD, ih]
  show (match boolsD (xs.map fun _ => PyData.bool true) with | some bs => ok (.bool (bs.all id)) S | none => none) = _
  rw [h]
  have : (xs.map fun _ => true).all id = true := by rw [List.all_eq_true]; intro x hx; obtain ⟨_, _, rfl⟩ := List.mem_map.mp hx; rfl
  show ok (.bool ((xs.map fun _ => true).all id)) S = _
  rw [this]; rfl
/-! ## lyings -/
abbrev Ly := Int × Int × Int
def eY (l : Ly) : PyData := .tuple [.int l.1, .int l.2.1, .int l.2.2]
def lyings : List Ly := [(0, 1, 2), (0, 2, 4), (0, 3, 1), (0, 4, 3), (1, 0, 3), (1, 2, 0), (1, 3, 5), (1, 5, 2), (2, 0, 1), (2, 1, 5), (2, 4, 0), (2, 5, 4), (3, 0, 4), (3, 1, 0), (3, 4, 5), (3, 5, 1), (4, 0, 2), (4, 2, 5), (4, 3, 0), (4, 5, 3), (5, 1, 3), (5, 2, 1), (5, 3, 4), (5, 4, 2)]
def roll : Dir → Ly → Ly
  | .n, (a, b, c) => (b, 5 - a, c)
  | .s, (a, b, c) => (5 - b, a, c)
  | .e, (a, b, c) => (c, b, 5 - a)
  | .w, (a, b, c) => (5 - c, b, a)
theorem roll_mem : ∀ l ∈ lyings, ∀ d : Dir, roll d l ∈ lyings := by
  have h : (lyings.all fun l => [Dir.e, .n, .s, .w].all fun d => decide (roll d l ∈ lyings)) = true := by decide +kernel
  intro l hl d
  have h2 := List.all_eq_true.mp (List.all_eq_true.mp h l hl) d (by cases d <;> simp)
  exact of_decide_eq_true h2
theorem roll_back : ∀ l : Ly, ∀ d : Dir, roll d.back (roll d l) = l := by
  rintro ⟨a, b, c⟩ d
  cases d <;> simp only [Dir.back, roll] <;> refine Prod.ext ?_ (Prod.ext ?_ ?_) <;> simp only <;> omega
theorem stp_back (c : Cell) (d : Dir) : stp d.back (stp d c) = c := by
  obtain ⟨a, b⟩ := c
  cases d <;> simp only [stp, Dir.back, dx, dy] <;> refine Prod.ext ?_ ?_ <;> simp only <;> omega
theorem ly_range : ∀ l ∈ lyings, (0 ≤ l.1 ∧ l.1 ≤ 5) ∧ (0 ≤ l.2.1 ∧ l.2.1 ≤ 5) ∧ (0 ≤ l.2.2 ∧ l.2.2 ≤ 5) := by decide +kernel
theorem nt_ly {l : Ly} (h : l ∈ lyings) : Nt 63 1 (eY l) := by
  have r := ly_range l h
  exact (Nt.tup (NtA.cons (Nt.int (by omega) (by omega)) (NtA.cons (Nt.int (by omega) (by omega)) (NtA.cons (Nt.int (by omega) (by omega)) (NtA.nil (w := 0)))))).up (by decide) (by decide)
/-! ## where rows lead -/
def offAt (cs : List Cell) : Cell → List Dir → Nat → Option Nat
  | _, [], _ => none
  | c, d :: ds, k => if stp d c ∈ cs then offAt cs (stp d c) ds (k + 1) else some k
def goC : Cell → List Dir → Cell
  | c, [] => c
  | c, d :: ds => goC (stp d c) ds
def goY : Ly → List Dir → Ly
  | l, [] => l
  | l, d :: ds => goY (roll d l) ds
theorem goY_mem : ∀ (w : List Dir) {l : Ly}, l ∈ lyings → goY l w ∈ lyings
  | [], _, h => h
  | d :: w, _, h => goY_mem w (roll_mem _ h d)
def offD : Option Nat → PyData
  | none => .none
  | some j => .int (j : Nat)
end Tm
set_option maxHeartbeats 0
namespace Tm.K02
open PySem L2 Tm
abbrev PR : Program := PySem.Challenge.pw_tumblemarks_k02_rolls_and_stands
def tp (i : Nat) : Stmt := PR.main.body.getD i (.Pass ⟨0, 0, 0, 0⟩)
def ds_is : Unit := ()
abbrev c_LAST_FACE : PyData := (.int (5))
abbrev c_LETTERS : PyData := (.str (Str.ofString "ensw"))
abbrev c_MOST_WIDE : PyData := (.int (3))
abbrev c_MOST_CELLS : PyData := (.int (9))
abbrev t_STEPS : List (Str × PyData) := [((Str.ofString "e"), (.tuple [(.int (1)), (.int (0))])), ((Str.ofString "n"), (.tuple [(.int (0)), (.int (1))])), ((Str.ofString "s"), (.tuple [(.int (0)), (.int (-1))])), ((Str.ofString "w"), (.tuple [(.int (-1)), (.int (0))]))]
abbrev s_law_rolled : Stmt := tp 43
abbrev N_law_rolled : List Str := ["_law_six_here", "_law_letter", "_law_low", "_law_top", "_law_north", "_law_south", "_law_east", "_law_west"]
def ir_law_rolled : Ss := (.cons (.asg (.tup 6 (.cons (.nm 2) (.cons (.nm 3) (.cons (.nm 4) (.cons (.nm 5) (.cons (.nm 6) (.cons (.nm 7) .nil))))))) (.var 0))
    (.cons (.ife (.cmp .eq (.var 1) (.str (Str.ofString "n")))
    (.cons (.ret (.tup (.cons (.var 4) (.cons (.var 5) (.cons (.var 3) (.cons (.var 2) (.cons (.var 6) (.cons (.var 7) .nil))))))))
    .nil)
    .nil)
    (.cons (.ife (.cmp .eq (.var 1) (.str (Str.ofString "s")))
    (.cons (.ret (.tup (.cons (.var 5) (.cons (.var 4) (.cons (.var 2) (.cons (.var 3) (.cons (.var 6) (.cons (.var 7) .nil))))))))
    .nil)
    .nil)
    (.cons (.ife (.cmp .eq (.var 1) (.str (Str.ofString "e")))
    (.cons (.ret (.tup (.cons (.var 6) (.cons (.var 7) (.cons (.var 4) (.cons (.var 5) (.cons (.var 3) (.cons (.var 2) .nil))))))))
    .nil)
    .nil)
    (.cons (.ret (.tup (.cons (.var 7) (.cons (.var 6) (.cons (.var 4) (.cons (.var 5) (.cons (.var 2) (.cons (.var 3) .nil))))))))
    .nil)))))
def F_law_rolled : List D → Sto → Rs D := runF 2 8 (denSs ir_law_rolled)
theorem ck_law_rolled : chkSs ⟨N_law_rolled, defScope s_law_rolled, fun _ => true⟩ ir_law_rolled (defBody s_law_rolled) = true := by decide +kernel
theorem sc_law_rolled : FnScope N_law_rolled ["_law_six_here", "_law_letter"] (defScope s_law_rolled) := ⟨by kernel_rfl, by kernel_rfl, by kernel_rfl, by decide +kernel, by kernel_rfl, by decide +kernel, by decide +kernel⟩
def d_law_rolled : He.DefD := ⟨("_law_rolled", none), "_law_rolled", "_law_rolled", defArgs s_law_rolled, defBody s_law_rolled, defScope s_law_rolled, [], []⟩
abbrev s_law_six : Stmt := tp 42
abbrev N_law_six : List Str := ["_law_lying_here", "_law_low", "_law_north", "_law_east"]
def ir_law_six : Ss := (.cons (.asg (.tup 3 (.cons (.nm 1) (.cons (.nm 2) (.cons (.nm 3) .nil)))) (.var 0))
    (.cons (.ret (.tup (.cons (.var 1) (.cons (.bin .sub (.int 5) (.var 1)) (.cons (.var 2) (.cons (.bin .sub (.int 5) (.var 2)) (.cons (.var 3) (.cons (.bin .sub (.int 5) (.var 3)) .nil))))))))
    .nil))
def F_law_six : List D → Sto → Rs D := runF 1 4 (denSs ir_law_six)
theorem ck_law_six : chkSs ⟨N_law_six, defScope s_law_six, fun _ => true⟩ ir_law_six (defBody s_law_six) = true := by decide +kernel
theorem sc_law_six : FnScope N_law_six ["_law_lying_here"] (defScope s_law_six) := ⟨by kernel_rfl, by kernel_rfl, by kernel_rfl, by decide +kernel, by kernel_rfl, by decide +kernel, by decide +kernel⟩
def d_law_six : He.DefD := ⟨("_law_six", none), "_law_six", "_law_six", defArgs s_law_six, defBody s_law_six, defScope s_law_six, [], []⟩
abbrev s_are_some : Stmt := tp 16
abbrev N_are_some : List Str := ["thing", "low", "high"]
def ir_are_some : Ss := (.cons (.ret (.and (.cons (.isa (.var 0) "tuple") (.cons (.chn .le .le (.var 1) (.prim .len (.cons (.var 0) .nil)) (.var 2)) .nil))))
    .nil)
def F_are_some : List D → Sto → Rs D := runF 3 3 (denSs ir_are_some)
theorem ck_are_some : chkSs ⟨N_are_some, defScope s_are_some, fun _ => true⟩ ir_are_some (defBody s_are_some) = true := by decide +kernel
theorem sc_are_some : FnScope N_are_some ["thing", "low", "high"] (defScope s_are_some) := ⟨by kernel_rfl, by kernel_rfl, by kernel_rfl, by decide +kernel, by kernel_rfl, by decide +kernel, by decide +kernel⟩
def d_are_some : He.DefD := ⟨("are_some", none), "are_some", "are_some", defArgs s_are_some, defBody s_are_some, defScope s_are_some, [], []⟩
abbrev s_is_whole : Stmt := tp 14
abbrev N_is_whole : List Str := ["thing"]
def ir_is_whole : Ss := (.cons (.ret (.and (.cons (.isa (.var 0) "int") (.cons (.not (.isa (.var 0) "bool")) .nil))))
    .nil)
def F_is_whole : List D → Sto → Rs D := runF 1 1 (denSs ir_is_whole)
theorem ck_is_whole : chkSs ⟨N_is_whole, defScope s_is_whole, fun _ => true⟩ ir_is_whole (defBody s_is_whole) = true := by decide +kernel
theorem sc_is_whole : FnScope N_is_whole ["thing"] (defScope s_is_whole) := ⟨by kernel_rfl, by kernel_rfl, by kernel_rfl, by decide +kernel, by kernel_rfl, by decide +kernel, by decide +kernel⟩
def d_is_whole : He.DefD := ⟨("is_whole", none), "is_whole", "is_whole", defArgs s_is_whole, defBody s_is_whole, defScope s_is_whole, [], []⟩
abbrev s_is_among : Stmt := tp 15
abbrev N_is_among : List Str := ["thing", "low", "high"]
def ir_is_among : Ss := (.cons (.ret (.and (.cons (.call (Str.ofString "is_whole") 1 F_is_whole (.cons (.var 0) .nil)) (.cons (.chn .le .le (.var 1) (.var 0) (.var 2)) .nil))))
    .nil)
def F_is_among : List D → Sto → Rs D := runF 3 3 (denSs ir_is_among)
theorem ck_is_among : chkSs ⟨N_is_among, defScope s_is_among, fun _ => true⟩ ir_is_among (defBody s_is_among) = true := by decide +kernel
theorem sc_is_among : FnScope N_is_among ["thing", "low", "high"] (defScope s_is_among) := ⟨by kernel_rfl, by kernel_rfl, by kernel_rfl, by decide +kernel, by kernel_rfl, by decide +kernel, by decide +kernel⟩
def d_is_among : He.DefD := ⟨("is_among", none), "is_among", "is_among", defArgs s_is_among, defBody s_is_among, defScope s_is_among, [], []⟩
abbrev s_is_lying : Stmt := tp 23
abbrev N_is_lying : List Str := ["thing", "low", "north", "east", "odd", "face"]
def ir_is_lying : Ss := (.cons (.ife (.or (.cons (.not (.call (Str.ofString "are_some") 3 F_are_some (.cons (.var 0) (.cons (.int 3) (.cons (.int 3) .nil))))) (.cons (.not (.prim .all (.cons (.comp false (.val (.var 0)) (.nm 5) .no (.call (Str.ofString "is_among") 3 F_is_among (.cons (.var 5) (.cons (.int 0) (.cons (.glob (Str.ofString "LAST_FACE") (.int (5))) .nil)))) [((Str.ofString "face"), 5)]) .nil))) .nil)))
    (.cons (.ret (.bl false))
    .nil)
    .nil)
    (.cons (.asg (.tup 3 (.cons (.nm 1) (.cons (.nm 2) (.cons (.nm 3) .nil)))) (.comp false (.val (.var 0)) (.nm 5) .no (.prim .min2 (.cons (.var 5) (.cons (.bin .sub (.glob (Str.ofString "LAST_FACE") (.int (5))) (.var 5)) .nil))) [((Str.ofString "face"), 5)]))
    (.cons (.ife (.or (.cons (.cmp .eq (.var 1) (.var 2)) (.cons (.cmp .eq (.var 1) (.var 3)) (.cons (.cmp .eq (.var 2) (.var 3)) .nil))))
    (.cons (.ret (.bl false))
    .nil)
    .nil)
    (.cons (.asg (.nm 4) (.bin .add (.bin .add (.prim .int (.cons (.cmp .gt (.var 1) (.var 2)) .nil)) (.prim .int (.cons (.cmp .gt (.var 1) (.var 3)) .nil))) (.prim .int (.cons (.cmp .gt (.var 2) (.var 3)) .nil))))
    (.cons (.ret (.cmp .eq (.bin .mod (.bin .add (.var 4) (.prim .len (.cons (.comp false (.val (.var 0)) (.nm 5) (.yes (.cmp .gt (.var 5) (.bin .div (.glob (Str.ofString "LAST_FACE") (.int (5))) (.int 2)))) (.var 5) [((Str.ofString "face"), 5)]) .nil))) (.int 2)) (.int 0)))
    .nil)))))
def F_is_lying : List D → Sto → Rs D := runF 1 6 (denSs ir_is_lying)
theorem ck_is_lying : chkSs ⟨N_is_lying, defScope s_is_lying, fun _ => true⟩ ir_is_lying (defBody s_is_lying) = true := by decide +kernel
theorem sc_is_lying : FnScope N_is_lying ["thing"] (defScope s_is_lying) := ⟨by kernel_rfl, by kernel_rfl, by kernel_rfl, by decide +kernel, by kernel_rfl, by decide +kernel, by decide +kernel⟩
def d_is_lying : He.DefD := ⟨("is_lying", none), "is_lying", "is_lying", defArgs s_is_lying, defBody s_is_lying, defScope s_is_lying, [], []⟩
abbrev s_need_lying : Stmt := tp 24
abbrev N_need_lying : List Str := ["thing"]
def ir_need_lying : Ss := (.cons (.ife (.not (.call (Str.ofString "is_lying") 1 F_is_lying (.cons (.var 0) .nil)))
    (.cons .never
    .nil)
    .nil)
    .nil)
def F_need_lying : List D → Sto → Rs D := runF 1 1 (denSs ir_need_lying)
theorem ck_need_lying : chkSs ⟨N_need_lying, defScope s_need_lying, fun _ => true⟩ ir_need_lying (defBody s_need_lying) = true := by decide +kernel
theorem sc_need_lying : FnScope N_need_lying ["thing"] (defScope s_need_lying) := ⟨by kernel_rfl, by kernel_rfl, by kernel_rfl, by decide +kernel, by kernel_rfl, by decide +kernel, by decide +kernel⟩
def d_need_lying : He.DefD := ⟨("need_lying", none), "need_lying", "need_lying", defArgs s_need_lying, defBody s_need_lying, defScope s_need_lying, [], []⟩
abbrev s_is_letter : Stmt := tp 25
abbrev N_is_letter : List Str := ["thing"]
def ir_is_letter : Ss := (.cons (.ret (.and (.cons (.isa (.var 0) "str") (.cons (.cmp .eq (.prim .len (.cons (.var 0) .nil)) (.int 1)) (.cons (.cmp .isin (.var 0) (.glob (Str.ofString "LETTERS") (.str (Str.ofString "ensw")))) .nil)))))
    .nil)
def F_is_letter : List D → Sto → Rs D := runF 1 1 (denSs ir_is_letter)
theorem ck_is_letter : chkSs ⟨N_is_letter, defScope s_is_letter, fun _ => true⟩ ir_is_letter (defBody s_is_letter) = true := by decide +kernel
theorem sc_is_letter : FnScope N_is_letter ["thing"] (defScope s_is_letter) := ⟨by kernel_rfl, by kernel_rfl, by kernel_rfl, by decide +kernel, by kernel_rfl, by decide +kernel, by decide +kernel⟩
def d_is_letter : He.DefD := ⟨("is_letter", none), "is_letter", "is_letter", defArgs s_is_letter, defBody s_is_letter, defScope s_is_letter, [], []⟩
abbrev s_need_letter : Stmt := tp 26
abbrev N_need_letter : List Str := ["thing"]
def ir_need_letter : Ss := (.cons (.ife (.not (.call (Str.ofString "is_letter") 1 F_is_letter (.cons (.var 0) .nil)))
    (.cons .never
    .nil)
    .nil)
    .nil)
def F_need_letter : List D → Sto → Rs D := runF 1 1 (denSs ir_need_letter)
theorem ck_need_letter : chkSs ⟨N_need_letter, defScope s_need_letter, fun _ => true⟩ ir_need_letter (defBody s_need_letter) = true := by decide +kernel
theorem sc_need_letter : FnScope N_need_letter ["thing"] (defScope s_need_letter) := ⟨by kernel_rfl, by kernel_rfl, by kernel_rfl, by decide +kernel, by kernel_rfl, by decide +kernel, by decide +kernel⟩
def d_need_letter : He.DefD := ⟨("need_letter", none), "need_letter", "need_letter", defArgs s_need_letter, defBody s_need_letter, defScope s_need_letter, [], []⟩
abbrev s_rolled : Stmt := tp 27
abbrev N_rolled : List Str := ["lying", "letter", "low", "north", "east"]
def ir_rolled : Ss := (.cons (.asg (.tup 3 (.cons (.nm 2) (.cons (.nm 3) (.cons (.nm 4) .nil)))) (.var 0))
    (.cons (.ife (.cmp .eq (.var 1) (.str (Str.ofString "n")))
    (.cons (.ret (.tup (.cons (.var 3) (.cons (.bin .sub (.glob (Str.ofString "LAST_FACE") (.int (5))) (.var 2)) (.cons (.var 4) .nil)))))
    .nil)
    .nil)
    (.cons (.ife (.cmp .eq (.var 1) (.str (Str.ofString "s")))
    (.cons (.ret (.tup (.cons (.bin .sub (.glob (Str.ofString "LAST_FACE") (.int (5))) (.var 3)) (.cons (.var 2) (.cons (.var 4) .nil)))))
    .nil)
    .nil)
    (.cons (.ife (.cmp .eq (.var 1) (.str (Str.ofString "e")))
    (.cons (.ret (.tup (.cons (.var 4) (.cons (.var 3) (.cons (.bin .sub (.glob (Str.ofString "LAST_FACE") (.int (5))) (.var 2)) .nil)))))
    .nil)
    .nil)
    (.cons (.ret (.tup (.cons (.bin .sub (.glob (Str.ofString "LAST_FACE") (.int (5))) (.var 4)) (.cons (.var 3) (.cons (.var 2) .nil)))))
    .nil)))))
def F_rolled : List D → Sto → Rs D := runF 2 5 (denSs ir_rolled)
theorem ck_rolled : chkSs ⟨N_rolled, defScope s_rolled, fun _ => true⟩ ir_rolled (defBody s_rolled) = true := by decide +kernel
theorem sc_rolled : FnScope N_rolled ["lying", "letter"] (defScope s_rolled) := ⟨by kernel_rfl, by kernel_rfl, by kernel_rfl, by decide +kernel, by kernel_rfl, by decide +kernel, by decide +kernel⟩
def d_rolled : He.DefD := ⟨("rolled", none), "rolled", "rolled", defArgs s_rolled, defBody s_rolled, defScope s_rolled, [], []⟩
abbrev s_lying_behind : Stmt := tp 28
abbrev N_lying_behind : List Str := ["lying", "letter"]
def ir_lying_behind : Ss := (.cons (.expr (.call (Str.ofString "need_lying") 1 F_need_lying (.cons (.var 0) .nil)))
    (.cons (.expr (.call (Str.ofString "need_letter") 1 F_need_letter (.cons (.var 1) .nil)))
    (.cons (.ret (.call (Str.ofString "rolled") 2 F_rolled (.cons (.var 0) (.cons (.var 1) .nil))))
    .nil)))
def F_lying_behind : List D → Sto → Rs D := runF 2 2 (denSs ir_lying_behind)
theorem ck_lying_behind : chkSs ⟨N_lying_behind, defScope s_lying_behind, fun _ => true⟩ ir_lying_behind (defBody s_lying_behind) = true := by decide +kernel
theorem sc_lying_behind : FnScope N_lying_behind ["lying", "letter"] (defScope s_lying_behind) := ⟨by kernel_rfl, by kernel_rfl, by kernel_rfl, by decide +kernel, by kernel_rfl, by decide +kernel, by decide +kernel⟩
def d_lying_behind : He.DefD := ⟨("lying_behind", none), "lying_behind", "lying_behind", defArgs s_lying_behind, defBody s_lying_behind, defScope s_lying_behind, [], []⟩
abbrev s_law_lyings_right : Stmt := tp 50
abbrev N_law_lyings_right : List Str := ["_law_found", "_law_waiting", "_law_lying_here", "_law_letter", "_law_six_here"]
def ir_law_lyings_right : Ss := (.cons (.par (.cons (.nm 0) (.cons (.nm 1) .nil)) (.cons (.lst true .nil) (.cons (.lst true (.cons (.tup (.cons (.int 0) (.cons (.int 1) (.cons (.int 2) .nil)))) .nil)) .nil)))
    (.cons (.whl (.cmp .ne (.var 1) (.lst false .nil))
    (.cons (.asg (.nm 2) (.meth .pop (.var 1) .nil))
    (.cons (.ife (.cmp .notin (.var 2) (.var 0))
    (.cons (.expr (.meth .append (.var 0) (.cons (.var 2) .nil)))
    (.cons (.loop (.nm 3) (.val (.str (Str.ofString "ensw")))
    (.cons (.asg (.nm 4) (.call (Str.ofString "_law_rolled") 2 F_law_rolled (.cons (.call (Str.ofString "_law_six") 1 F_law_six (.cons (.var 2) .nil)) (.cons (.var 3) .nil))))
    (.cons (.ife (.cmp .ne (.prim .repr (.cons (.call (Str.ofString "lying_behind") 2 F_lying_behind (.cons (.var 2) (.cons (.var 3) .nil))) .nil)) (.prim .repr (.cons (.tup (.cons (.ix (.var 4) (.int 0)) (.cons (.ix (.var 4) (.int 2)) (.cons (.ix (.var 4) (.int 4)) .nil)))) .nil)))
    (.cons (.ret (.bl false))
    .nil)
    .nil)
    (.cons (.expr (.meth .append (.var 1) (.cons (.tup (.cons (.ix (.var 4) (.int 0)) (.cons (.ix (.var 4) (.int 2)) (.cons (.ix (.var 4) (.int 4)) .nil)))) .nil)))
    .nil))))
    .nil))
    .nil)
    .nil)))
    (.cons (.ret (.cmp .eq (.prim .len (.cons (.var 0) .nil)) (.int 24)))
    .nil)))
def F_law_lyings_right : List D → Sto → Rs D := runF 0 5 (denSs ir_law_lyings_right)
theorem ck_law_lyings_right : chkSs ⟨N_law_lyings_right, defScope s_law_lyings_right, fun _ => true⟩ ir_law_lyings_right (defBody s_law_lyings_right) = true := by decide +kernel
theorem sc_law_lyings_right : FnScope N_law_lyings_right [] (defScope s_law_lyings_right) := ⟨by kernel_rfl, by kernel_rfl, by kernel_rfl, by decide +kernel, by kernel_rfl, by decide +kernel, by decide +kernel⟩
def d_law_lyings_right : He.DefD := ⟨("_law_lyings_right", none), "_law_lyings_right", "_law_lyings_right", defArgs s_law_lyings_right, defBody s_law_lyings_right, defScope s_law_lyings_right, [], []⟩
abbrev s_law_pen : Stmt := tp 38
abbrev N_law_pen : List Str := ["_law_cell"]
def ir_law_pen : Ss := (.cons (.ret (.lst true (.cons (.prim .max2 (.cons (.int 0) (.cons (.bin .sub (.var 0) (.bin .pow (.int 10) (.int 18))) .nil))) (.cons (.bin .add (.bin .mod (.var 0) (.int 2147483629)) (.int 1)) (.cons (.int 0) .nil)))))
    .nil)
def F_law_pen : List D → Sto → Rs D := runF 1 1 (denSs ir_law_pen)
theorem ck_law_pen : chkSs ⟨N_law_pen, defScope s_law_pen, fun _ => true⟩ ir_law_pen (defBody s_law_pen) = true := by decide +kernel
theorem sc_law_pen : FnScope N_law_pen ["_law_cell"] (defScope s_law_pen) := ⟨by kernel_rfl, by kernel_rfl, by kernel_rfl, by decide +kernel, by kernel_rfl, by decide +kernel, by decide +kernel⟩
def d_law_pen : He.DefD := ⟨("_law_pen", none), "_law_pen", "_law_pen", defArgs s_law_pen, defBody s_law_pen, defScope s_law_pen, [], []⟩
abbrev s_law_draw : Stmt := tp 39
abbrev N_law_draw : List Str := ["_law_pen_here", "_law_many", "_law_found", "_law_stirred"]
def ir_law_draw : Ss := (.cons (.ife (.cmp .gt (.ix (.var 0) (.int 0)) (.int 0))
    (.cons (.asg (.nm 2) (.bin .mod (.ix (.var 0) (.int 0)) (.var 1)))
    (.cons (.asg (.sub (.var 0) (.int 0)) (.bin .div (.ix (.var 0) (.int 0)) (.var 1)))
    (.cons (.ret (.var 2))
    .nil)))
    .nil)
    (.cons (.asg (.sub (.var 0) (.int 2)) (.bin .add (.ix (.var 0) (.int 2)) (.int 1)))
    (.cons (.asg (.sub (.var 0) (.int 1)) (.bin .mod (.bin .add (.bin .add (.bin .mul (.ix (.var 0) (.int 1)) (.int 48271)) (.bin .mul (.int 1013) (.ix (.var 0) (.int 2)))) (.int 11)) (.int 2147483647)))
    (.cons (.asg (.nm 3) (.bin .mod (.bin .add (.bin .add (.bin .mul (.ix (.var 0) (.int 1)) (.ix (.var 0) (.int 1))) (.bin .mul (.int 40692) (.ix (.var 0) (.int 1)))) (.int 7)) (.int 2147483629)))
    (.cons (.ret (.bin .mod (.bin .div (.bin .mod (.bin .mul (.var 3) (.int 69621)) (.int 2147483647)) (.int 16)) (.var 1)))
    .nil)))))
def F_law_draw : List D → Sto → Rs D := runF 2 4 (denSs ir_law_draw)
theorem ck_law_draw : chkSs ⟨N_law_draw, defScope s_law_draw, fun _ => true⟩ ir_law_draw (defBody s_law_draw) = true := by decide +kernel
theorem sc_law_draw : FnScope N_law_draw ["_law_pen_here", "_law_many"] (defScope s_law_draw) := ⟨by kernel_rfl, by kernel_rfl, by kernel_rfl, by decide +kernel, by kernel_rfl, by decide +kernel, by decide +kernel⟩
def d_law_draw : He.DefD := ⟨("_law_draw", none), "_law_draw", "_law_draw", defArgs s_law_draw, defBody s_law_draw, defScope s_law_draw, [], []⟩
abbrev s_law_to : Stmt := tp 41
abbrev N_law_to : List Str := ["_law_cell", "_law_letter", "_law_across"]
def ir_law_to : Ss := (.cons (.asg (.nm 2) (.bin .sub (.prim .int (.cons (.cmp .eq (.var 1) (.str (Str.ofString "e"))) .nil)) (.prim .int (.cons (.cmp .eq (.var 1) (.str (Str.ofString "w"))) .nil))))
    (.cons (.ret (.tup (.cons (.bin .add (.ix (.var 0) (.int 0)) (.var 2)) (.cons (.bin .sub (.bin .add (.ix (.var 0) (.int 1)) (.prim .int (.cons (.cmp .eq (.var 1) (.str (Str.ofString "n"))) .nil))) (.prim .int (.cons (.cmp .eq (.var 1) (.str (Str.ofString "s"))) .nil))) .nil))))
    .nil))
def F_law_to : List D → Sto → Rs D := runF 2 3 (denSs ir_law_to)
theorem ck_law_to : chkSs ⟨N_law_to, defScope s_law_to, fun _ => true⟩ ir_law_to (defBody s_law_to) = true := by decide +kernel
theorem sc_law_to : FnScope N_law_to ["_law_cell", "_law_letter"] (defScope s_law_to) := ⟨by kernel_rfl, by kernel_rfl, by kernel_rfl, by decide +kernel, by kernel_rfl, by decide +kernel, by decide +kernel⟩
def d_law_to : He.DefD := ⟨("_law_to", none), "_law_to", "_law_to", defArgs s_law_to, defBody s_law_to, defScope s_law_to, [], []⟩
abbrev s_law_pick : Stmt := tp 40
abbrev N_law_pick : List Str := ["_law_pen_here", "_law_some"]
def ir_law_pick : Ss := (.cons (.ret (.ix (.var 1) (.call (Str.ofString "_law_draw") 2 F_law_draw (.cons (.var 0) (.cons (.prim .len (.cons (.var 1) .nil)) .nil)))))
    .nil)
def F_law_pick : List D → Sto → Rs D := runF 2 2 (denSs ir_law_pick)
theorem ck_law_pick : chkSs ⟨N_law_pick, defScope s_law_pick, fun _ => true⟩ ir_law_pick (defBody s_law_pick) = true := by decide +kernel
theorem sc_law_pick : FnScope N_law_pick ["_law_pen_here", "_law_some"] (defScope s_law_pick) := ⟨by kernel_rfl, by kernel_rfl, by kernel_rfl, by decide +kernel, by kernel_rfl, by decide +kernel, by decide +kernel⟩
def d_law_pick : He.DefD := ⟨("_law_pick", none), "_law_pick", "_law_pick", defArgs s_law_pick, defBody s_law_pick, defScope s_law_pick, [], []⟩
abbrev s_law_floor : Stmt := tp 45
abbrev N_law_floor : List Str := ["_law_pen_here", "_law_most", "_law_found", "_law_lap", "_law_cell"]
def ir_law_floor : Ss := (.cons (.asg (.nm 2) (.lst true (.cons (.tup (.cons (.call (Str.ofString "_law_draw") 2 F_law_draw (.cons (.var 0) (.cons (.int 4) .nil))) (.cons (.call (Str.ofString "_law_draw") 2 F_law_draw (.cons (.var 0) (.cons (.int 4) .nil))) .nil))) .nil)))
    (.cons (.loop (.nm 3) (.r1 (.cons (.call (Str.ofString "_law_draw") 2 F_law_draw (.cons (.var 0) (.cons (.var 1) .nil))) .nil))
    (.cons (.asg (.nm 4) (.call (Str.ofString "_law_to") 2 F_law_to (.cons (.call (Str.ofString "_law_pick") 2 F_law_pick (.cons (.var 0) (.cons (.var 2) .nil))) (.cons (.ix (.str (Str.ofString "ensw")) (.call (Str.ofString "_law_draw") 2 F_law_draw (.cons (.var 0) (.cons (.int 4) .nil)))) .nil))))
    (.cons (.ife (.cmp .eq (.call (Str.ofString "_law_draw") 2 F_law_draw (.cons (.var 0) (.cons (.int 8) .nil))) (.int 0))
    (.cons (.asg (.nm 4) (.tup (.cons (.call (Str.ofString "_law_draw") 2 F_law_draw (.cons (.var 0) (.cons (.int 4) .nil))) (.cons (.call (Str.ofString "_law_draw") 2 F_law_draw (.cons (.var 0) (.cons (.int 4) .nil))) .nil))))
    .nil)
    .nil)
    (.cons (.ife (.and (.cons (.cmp .le (.int 0) (.prim .min1 (.cons (.var 4) .nil))) (.cons (.cmp .lt (.prim .max1 (.cons (.var 4) .nil)) (.int 4)) (.cons (.cmp .notin (.var 4) (.var 2)) .nil))))
    (.cons (.expr (.meth .append (.var 2) (.cons (.var 4) .nil)))
    .nil)
    .nil)
    .nil))))
    (.cons (.ret (.prim .tuple (.cons (.prim .sorted (.cons (.var 2) .nil)) .nil)))
    .nil)))
def F_law_floor : List D → Sto → Rs D := runF 2 5 (denSs ir_law_floor)
theorem ck_law_floor : chkSs ⟨N_law_floor, defScope s_law_floor, fun _ => true⟩ ir_law_floor (defBody s_law_floor) = true := by decide +kernel
theorem sc_law_floor : FnScope N_law_floor ["_law_pen_here", "_law_most"] (defScope s_law_floor) := ⟨by kernel_rfl, by kernel_rfl, by kernel_rfl, by decide +kernel, by kernel_rfl, by decide +kernel, by decide +kernel⟩
def d_law_floor : He.DefD := ⟨("_law_floor", none), "_law_floor", "_law_floor", defArgs s_law_floor, defBody s_law_floor, defScope s_law_floor, [], []⟩
abbrev s_law_lying : Stmt := tp 46
abbrev N_law_lying : List Str := ["_law_pen_here", "_law_six_here", "_law_lap"]
def ir_law_lying : Ss := (.cons (.asg (.nm 1) (.call (Str.ofString "_law_six") 1 F_law_six (.cons (.tup (.cons (.int 0) (.cons (.int 1) (.cons (.int 2) .nil)))) .nil)))
    (.cons (.loop (.nm 2) (.r1 (.cons (.bin .add (.int 4) (.call (Str.ofString "_law_draw") 2 F_law_draw (.cons (.var 0) (.cons (.int 2) .nil)))) .nil))
    (.cons (.asg (.nm 1) (.call (Str.ofString "_law_rolled") 2 F_law_rolled (.cons (.var 1) (.cons (.ix (.str (Str.ofString "ensw")) (.call (Str.ofString "_law_draw") 2 F_law_draw (.cons (.var 0) (.cons (.int 4) .nil)))) .nil))))
    .nil))
    (.cons (.ret (.tup (.cons (.ix (.var 1) (.int 0)) (.cons (.ix (.var 1) (.int 2)) (.cons (.ix (.var 1) (.int 4)) .nil)))))
    .nil)))
def F_law_lying : List D → Sto → Rs D := runF 1 3 (denSs ir_law_lying)
theorem ck_law_lying : chkSs ⟨N_law_lying, defScope s_law_lying, fun _ => true⟩ ir_law_lying (defBody s_law_lying) = true := by decide +kernel
theorem sc_law_lying : FnScope N_law_lying ["_law_pen_here"] (defScope s_law_lying) := ⟨by kernel_rfl, by kernel_rfl, by kernel_rfl, by decide +kernel, by kernel_rfl, by decide +kernel, by decide +kernel⟩
def d_law_lying : He.DefD := ⟨("_law_lying", none), "_law_lying", "_law_lying", defArgs s_law_lying, defBody s_law_lying, defScope s_law_lying, [], []⟩
abbrev s_law_stand : Stmt := tp 47
abbrev N_law_stand : List Str := ["_law_pen_here", "_law_floor_here"]
def ir_law_stand : Ss := (.cons (.ret (.tup (.cons (.call (Str.ofString "_law_pick") 2 F_law_pick (.cons (.var 0) (.cons (.prim .list (.cons (.var 1) .nil)) .nil))) (.cons (.call (Str.ofString "_law_lying") 1 F_law_lying (.cons (.var 0) .nil)) .nil))))
    .nil)
def F_law_stand : List D → Sto → Rs D := runF 2 2 (denSs ir_law_stand)
theorem ck_law_stand : chkSs ⟨N_law_stand, defScope s_law_stand, fun _ => true⟩ ir_law_stand (defBody s_law_stand) = true := by decide +kernel
theorem sc_law_stand : FnScope N_law_stand ["_law_pen_here", "_law_floor_here"] (defScope s_law_stand) := ⟨by kernel_rfl, by kernel_rfl, by kernel_rfl, by decide +kernel, by kernel_rfl, by decide +kernel, by decide +kernel⟩
def d_law_stand : He.DefD := ⟨("_law_stand", none), "_law_stand", "_law_stand", defArgs s_law_stand, defBody s_law_stand, defScope s_law_stand, [], []⟩
abbrev s_law_row : Stmt := tp 48
abbrev N_law_row : List Str := ["_law_pen_here", "_law_floor_here", "_law_cell", "_law_most", "_law_found", "_law_lap", "_law_some", "_law_letter"]
def ir_law_row : Ss := (.cons (.asg (.nm 4) (.str (Str.ofString "")))
    (.cons (.loop (.nm 5) (.r1 (.cons (.call (Str.ofString "_law_draw") 2 F_law_draw (.cons (.var 0) (.cons (.bin .add (.var 3) (.int 1)) .nil))) .nil))
    (.cons (.asg (.nm 6) (.comp false (.val (.str (Str.ofString "ensw"))) (.nm 7) (.yes (.cmp .isin (.call (Str.ofString "_law_to") 2 F_law_to (.cons (.var 2) (.cons (.var 7) .nil))) (.var 1))) (.var 7) [((Str.ofString "_law_letter"), 7)]))
    (.cons (.ife (.cmp .ne (.var 6) (.lst false .nil))
    (.cons (.asg (.nm 4) (.bin .add (.var 4) (.call (Str.ofString "_law_pick") 2 F_law_pick (.cons (.var 0) (.cons (.var 6) .nil)))))
    (.cons (.asg (.nm 2) (.call (Str.ofString "_law_to") 2 F_law_to (.cons (.var 2) (.cons (.ix (.var 4) (.neg (.int 1))) .nil))))
    .nil))
    .nil)
    .nil)))
    (.cons (.ret (.var 4))
    .nil)))
def F_law_row : List D → Sto → Rs D := runF 4 8 (denSs ir_law_row)
theorem ck_law_row : chkSs ⟨N_law_row, defScope s_law_row, fun _ => true⟩ ir_law_row (defBody s_law_row) = true := by decide +kernel
theorem sc_law_row : FnScope N_law_row ["_law_pen_here", "_law_floor_here", "_law_cell", "_law_most"] (defScope s_law_row) := ⟨by kernel_rfl, by kernel_rfl, by kernel_rfl, by decide +kernel, by kernel_rfl, by decide +kernel, by decide +kernel⟩
def d_law_row : He.DefD := ⟨("_law_row", none), "_law_row", "_law_row", defArgs s_law_row, defBody s_law_row, defScope s_law_row, [], []⟩
abbrev s_law_cell_at : Stmt := tp 37
abbrev N_law_cell_at : List Str := ["_law_script", "_law_k"]
def ir_law_cell_at : Ss := (.cons (.ife (.cmp .lt (.var 1) (.prim .len (.cons (.var 0) .nil)))
    (.cons (.ret (.ix (.var 0) (.var 1)))
    .nil)
    .nil)
    (.cons (.ret (.int 0))
    .nil))
def F_law_cell_at : List D → Sto → Rs D := runF 2 2 (denSs ir_law_cell_at)
theorem ck_law_cell_at : chkSs ⟨N_law_cell_at, defScope s_law_cell_at, fun _ => true⟩ ir_law_cell_at (defBody s_law_cell_at) = true := by decide +kernel
theorem sc_law_cell_at : FnScope N_law_cell_at ["_law_script", "_law_k"] (defScope s_law_cell_at) := ⟨by kernel_rfl, by kernel_rfl, by kernel_rfl, by decide +kernel, by kernel_rfl, by decide +kernel, by decide +kernel⟩
def d_law_cell_at : He.DefD := ⟨("_law_cell_at", none), "_law_cell_at", "_law_cell_at", defArgs s_law_cell_at, defBody s_law_cell_at, defScope s_law_cell_at, [], []⟩
abbrev s_rises : Stmt := tp 17
abbrev N_rises : List Str := ["thing", "one", "later"]
def ir_rises : Ss := (.cons (.ret (.prim .all (.cons (.comp false (.zip (.cons (.var 0) (.cons (.sl (.var 0) (.yes (.int 1)) .no) .nil))) (.tup 2 (.cons (.nm 1) (.cons (.nm 2) .nil))) .no (.cmp .lt (.var 1) (.var 2)) [((Str.ofString "one"), 1), ((Str.ofString "later"), 2)]) .nil)))
    .nil)
def F_rises : List D → Sto → Rs D := runF 1 3 (denSs ir_rises)
theorem ck_rises : chkSs ⟨N_rises, defScope s_rises, fun _ => true⟩ ir_rises (defBody s_rises) = true := by decide +kernel
theorem sc_rises : FnScope N_rises ["thing"] (defScope s_rises) := ⟨by kernel_rfl, by kernel_rfl, by kernel_rfl, by decide +kernel, by kernel_rfl, by decide +kernel, by decide +kernel⟩
def d_rises : He.DefD := ⟨("rises", none), "rises", "rises", defArgs s_rises, defBody s_rises, defScope s_rises, [], []⟩
abbrev s_is_cell : Stmt := tp 18
abbrev N_is_cell : List Str := ["thing", "one"]
def ir_is_cell : Ss := (.cons (.ret (.and (.cons (.call (Str.ofString "are_some") 3 F_are_some (.cons (.var 0) (.cons (.int 2) (.cons (.int 2) .nil)))) (.cons (.prim .all (.cons (.comp false (.val (.var 0)) (.nm 1) .no (.call (Str.ofString "is_among") 3 F_is_among (.cons (.var 1) (.cons (.int 0) (.cons (.glob (Str.ofString "MOST_WIDE") (.int (3))) .nil)))) [((Str.ofString "one"), 1)]) .nil)) .nil))))
    .nil)
def F_is_cell : List D → Sto → Rs D := runF 1 2 (denSs ir_is_cell)
theorem ck_is_cell : chkSs ⟨N_is_cell, defScope s_is_cell, fun _ => true⟩ ir_is_cell (defBody s_is_cell) = true := by decide +kernel
theorem sc_is_cell : FnScope N_is_cell ["thing"] (defScope s_is_cell) := ⟨by kernel_rfl, by kernel_rfl, by kernel_rfl, by decide +kernel, by kernel_rfl, by decide +kernel, by decide +kernel⟩
def d_is_cell : He.DefD := ⟨("is_cell", none), "is_cell", "is_cell", defArgs s_is_cell, defBody s_is_cell, defScope s_is_cell, [], []⟩
abbrev s_is_floor : Stmt := tp 19
abbrev N_is_floor : List Str := ["thing", "cell"]
def ir_is_floor : Ss := (.cons (.ret (.and (.cons (.call (Str.ofString "are_some") 3 F_are_some (.cons (.var 0) (.cons (.int 1) (.cons (.glob (Str.ofString "MOST_CELLS") (.int (9))) .nil)))) (.cons (.prim .all (.cons (.comp false (.val (.var 0)) (.nm 1) .no (.call (Str.ofString "is_cell") 1 F_is_cell (.cons (.var 1) .nil)) [((Str.ofString "cell"), 1)]) .nil)) (.cons (.call (Str.ofString "rises") 1 F_rises (.cons (.var 0) .nil)) .nil)))))
    .nil)
def F_is_floor : List D → Sto → Rs D := runF 1 2 (denSs ir_is_floor)
theorem ck_is_floor : chkSs ⟨N_is_floor, defScope s_is_floor, fun _ => true⟩ ir_is_floor (defBody s_is_floor) = true := by decide +kernel
theorem sc_is_floor : FnScope N_is_floor ["thing"] (defScope s_is_floor) := ⟨by kernel_rfl, by kernel_rfl, by kernel_rfl, by decide +kernel, by kernel_rfl, by decide +kernel, by decide +kernel⟩
def d_is_floor : He.DefD := ⟨("is_floor", none), "is_floor", "is_floor", defArgs s_is_floor, defBody s_is_floor, defScope s_is_floor, [], []⟩
abbrev s_need_floor : Stmt := tp 20
abbrev N_need_floor : List Str := ["thing"]
def ir_need_floor : Ss := (.cons (.ife (.not (.call (Str.ofString "is_floor") 1 F_is_floor (.cons (.var 0) .nil)))
    (.cons .never
    .nil)
    .nil)
    .nil)
def F_need_floor : List D → Sto → Rs D := runF 1 1 (denSs ir_need_floor)
theorem ck_need_floor : chkSs ⟨N_need_floor, defScope s_need_floor, fun _ => true⟩ ir_need_floor (defBody s_need_floor) = true := by decide +kernel
theorem sc_need_floor : FnScope N_need_floor ["thing"] (defScope s_need_floor) := ⟨by kernel_rfl, by kernel_rfl, by kernel_rfl, by decide +kernel, by kernel_rfl, by decide +kernel, by decide +kernel⟩
def d_need_floor : He.DefD := ⟨("need_floor", none), "need_floor", "need_floor", defArgs s_need_floor, defBody s_need_floor, defScope s_need_floor, [], []⟩
abbrev s_is_cell_of : Stmt := tp 21
abbrev N_is_cell_of : List Str := ["floor", "thing"]
def ir_is_cell_of : Ss := (.cons (.ret (.and (.cons (.call (Str.ofString "is_cell") 1 F_is_cell (.cons (.var 1) .nil)) (.cons (.cmp .isin (.var 1) (.var 0)) .nil))))
    .nil)
def F_is_cell_of : List D → Sto → Rs D := runF 2 2 (denSs ir_is_cell_of)
theorem ck_is_cell_of : chkSs ⟨N_is_cell_of, defScope s_is_cell_of, fun _ => true⟩ ir_is_cell_of (defBody s_is_cell_of) = true := by decide +kernel
theorem sc_is_cell_of : FnScope N_is_cell_of ["floor", "thing"] (defScope s_is_cell_of) := ⟨by kernel_rfl, by kernel_rfl, by kernel_rfl, by decide +kernel, by kernel_rfl, by decide +kernel, by decide +kernel⟩
def d_is_cell_of : He.DefD := ⟨("is_cell_of", none), "is_cell_of", "is_cell_of", defArgs s_is_cell_of, defBody s_is_cell_of, defScope s_is_cell_of, [], []⟩
abbrev s_need_cell : Stmt := tp 22
abbrev N_need_cell : List Str := ["floor", "thing"]
def ir_need_cell : Ss := (.cons (.ife (.not (.call (Str.ofString "is_cell_of") 2 F_is_cell_of (.cons (.var 0) (.cons (.var 1) .nil))))
    (.cons .never
    .nil)
    .nil)
    .nil)
def F_need_cell : List D → Sto → Rs D := runF 2 2 (denSs ir_need_cell)
theorem ck_need_cell : chkSs ⟨N_need_cell, defScope s_need_cell, fun _ => true⟩ ir_need_cell (defBody s_need_cell) = true := by decide +kernel
theorem sc_need_cell : FnScope N_need_cell ["floor", "thing"] (defScope s_need_cell) := ⟨by kernel_rfl, by kernel_rfl, by kernel_rfl, by decide +kernel, by kernel_rfl, by decide +kernel, by decide +kernel⟩
def d_need_cell : He.DefD := ⟨("need_cell", none), "need_cell", "need_cell", defArgs s_need_cell, defBody s_need_cell, defScope s_need_cell, [], []⟩
abbrev s_need_row : Stmt := tp 29
abbrev N_need_row : List Str := ["thing", "letter"]
def ir_need_row : Ss := (.cons (.ife (.or (.cons (.not (.isa (.var 0) "str")) (.cons (.not (.prim .all (.cons (.comp false (.val (.var 0)) (.nm 1) .no (.cmp .isin (.var 1) (.glob (Str.ofString "LETTERS") (.str (Str.ofString "ensw")))) [((Str.ofString "letter"), 1)]) .nil))) .nil)))
    (.cons .never
    .nil)
    .nil)
    .nil)
def F_need_row : List D → Sto → Rs D := runF 1 2 (denSs ir_need_row)
theorem ck_need_row : chkSs ⟨N_need_row, defScope s_need_row, fun _ => true⟩ ir_need_row (defBody s_need_row) = true := by decide +kernel
theorem sc_need_row : FnScope N_need_row ["thing"] (defScope s_need_row) := ⟨by kernel_rfl, by kernel_rfl, by kernel_rfl, by decide +kernel, by kernel_rfl, by decide +kernel, by decide +kernel⟩
def d_need_row : He.DefD := ⟨("need_row", none), "need_row", "need_row", defArgs s_need_row, defBody s_need_row, defScope s_need_row, [], []⟩
abbrev s_beside : Stmt := tp 30
abbrev N_beside : List Str := ["cell", "letter", "across", "up"]
def ir_beside : Ss := (.cons (.asg (.tup 2 (.cons (.nm 2) (.cons (.nm 3) .nil))) (.dix (Str.ofString "STEPS") [((Str.ofString "e"), (.tuple [(.int (1)), (.int (0))])), ((Str.ofString "n"), (.tuple [(.int (0)), (.int (1))])), ((Str.ofString "s"), (.tuple [(.int (0)), (.int (-1))])), ((Str.ofString "w"), (.tuple [(.int (-1)), (.int (0))]))] (.var 1)))
    (.cons (.ret (.tup (.cons (.bin .add (.ix (.var 0) (.int 0)) (.var 2)) (.cons (.bin .add (.ix (.var 0) (.int 1)) (.var 3)) .nil))))
    .nil))
def F_beside : List D → Sto → Rs D := runF 2 4 (denSs ir_beside)
theorem ck_beside : chkSs ⟨N_beside, defScope s_beside, fun _ => true⟩ ir_beside (defBody s_beside) = true := by decide +kernel
theorem sc_beside : FnScope N_beside ["cell", "letter"] (defScope s_beside) := ⟨by kernel_rfl, by kernel_rfl, by kernel_rfl, by decide +kernel, by kernel_rfl, by decide +kernel, by decide +kernel⟩
def d_beside : He.DefD := ⟨("beside", none), "beside", "beside", defArgs s_beside, defBody s_beside, defScope s_beside, [], []⟩
abbrev s_off_at : Stmt := tp 31
abbrev N_off_at : List Str := ["floor", "cell", "row", "number", "letter"]
def ir_off_at : Ss := (.cons (.loop (.tup 2 (.cons (.nm 3) (.cons (.nm 4) .nil))) (.enum (.var 2))
    (.cons (.asg (.nm 1) (.call (Str.ofString "beside") 2 F_beside (.cons (.var 1) (.cons (.var 4) .nil))))
    (.cons (.ife (.cmp .notin (.var 1) (.var 0))
    (.cons (.ret (.var 3))
    .nil)
    .nil)
    .nil)))
    (.cons (.ret .non)
    .nil))
def F_off_at : List D → Sto → Rs D := runF 3 5 (denSs ir_off_at)
theorem ck_off_at : chkSs ⟨N_off_at, defScope s_off_at, fun _ => true⟩ ir_off_at (defBody s_off_at) = true := by decide +kernel
theorem sc_off_at : FnScope N_off_at ["floor", "cell", "row"] (defScope s_off_at) := ⟨by kernel_rfl, by kernel_rfl, by kernel_rfl, by decide +kernel, by kernel_rfl, by decide +kernel, by decide +kernel⟩
def d_off_at : He.DefD := ⟨("off_at", none), "off_at", "off_at", defArgs s_off_at, defBody s_off_at, defScope s_off_at, [], []⟩
abbrev s_need_let : Stmt := tp 33
abbrev N_need_let : List Str := ["floor", "cell", "row"]
def ir_need_let : Ss := (.cons (.ife (.cmp .isnot (.call (Str.ofString "off_at") 3 F_off_at (.cons (.var 0) (.cons (.var 1) (.cons (.var 2) .nil)))) .non)
    (.cons .never
    .nil)
    .nil)
    .nil)
def F_need_let : List D → Sto → Rs D := runF 3 3 (denSs ir_need_let)
theorem ck_need_let : chkSs ⟨N_need_let, defScope s_need_let, fun _ => true⟩ ir_need_let (defBody s_need_let) = true := by decide +kernel
theorem sc_need_let : FnScope N_need_let ["floor", "cell", "row"] (defScope s_need_let) := ⟨by kernel_rfl, by kernel_rfl, by kernel_rfl, by decide +kernel, by kernel_rfl, by decide +kernel, by decide +kernel⟩
def d_need_let : He.DefD := ⟨("need_let", none), "need_let", "need_let", defArgs s_need_let, defBody s_need_let, defScope s_need_let, [], []⟩
abbrev s_stand_by : Stmt := tp 34
abbrev N_stand_by : List Str := ["stand", "row", "cell", "lying", "letter"]
def ir_stand_by : Ss := (.cons (.asg (.tup 2 (.cons (.nm 2) (.cons (.nm 3) .nil))) (.var 0))
    (.cons (.loop (.nm 4) (.val (.var 1))
    (.cons (.par (.cons (.nm 2) (.cons (.nm 3) .nil)) (.cons (.call (Str.ofString "beside") 2 F_beside (.cons (.var 2) (.cons (.var 4) .nil))) (.cons (.call (Str.ofString "rolled") 2 F_rolled (.cons (.var 3) (.cons (.var 4) .nil))) .nil)))
    .nil))
    (.cons (.ret (.tup (.cons (.var 2) (.cons (.var 3) .nil))))
    .nil)))
def F_stand_by : List D → Sto → Rs D := runF 2 5 (denSs ir_stand_by)
theorem ck_stand_by : chkSs ⟨N_stand_by, defScope s_stand_by, fun _ => true⟩ ir_stand_by (defBody s_stand_by) = true := by decide +kernel
theorem sc_stand_by : FnScope N_stand_by ["stand", "row"] (defScope s_stand_by) := ⟨by kernel_rfl, by kernel_rfl, by kernel_rfl, by decide +kernel, by kernel_rfl, by decide +kernel, by decide +kernel⟩
def d_stand_by : He.DefD := ⟨("stand_by", none), "stand_by", "stand_by", defArgs s_stand_by, defBody s_stand_by, defScope s_stand_by, [], []⟩
abbrev s_stand_behind : Stmt := tp 35
abbrev N_stand_behind : List Str := ["floor", "cell", "lying", "row"]
def ir_stand_behind : Ss := (.cons (.expr (.call (Str.ofString "need_floor") 1 F_need_floor (.cons (.var 0) .nil)))
    (.cons (.expr (.call (Str.ofString "need_cell") 2 F_need_cell (.cons (.var 0) (.cons (.var 1) .nil))))
    (.cons (.expr (.call (Str.ofString "need_lying") 1 F_need_lying (.cons (.var 2) .nil)))
    (.cons (.expr (.call (Str.ofString "need_row") 1 F_need_row (.cons (.var 3) .nil)))
    (.cons (.expr (.call (Str.ofString "need_let") 3 F_need_let (.cons (.var 0) (.cons (.var 1) (.cons (.var 3) .nil)))))
    (.cons (.ret (.call (Str.ofString "stand_by") 2 F_stand_by (.cons (.tup (.cons (.var 1) (.cons (.var 2) .nil))) (.cons (.var 3) .nil))))
    .nil))))))
def F_stand_behind : List D → Sto → Rs D := runF 4 4 (denSs ir_stand_behind)
theorem ck_stand_behind : chkSs ⟨N_stand_behind, defScope s_stand_behind, fun _ => true⟩ ir_stand_behind (defBody s_stand_behind) = true := by decide +kernel
theorem sc_stand_behind : FnScope N_stand_behind ["floor", "cell", "lying", "row"] (defScope s_stand_behind) := ⟨by kernel_rfl, by kernel_rfl, by kernel_rfl, by decide +kernel, by kernel_rfl, by decide +kernel, by decide +kernel⟩
def d_stand_behind : He.DefD := ⟨("stand_behind", none), "stand_behind", "stand_behind", defArgs s_stand_behind, defBody s_stand_behind, defScope s_stand_behind, [], []⟩
abbrev s_law_back : Stmt := tp 49
abbrev N_law_back : List Str := ["_law_row_here", "_law_letter"]
def ir_law_back : Ss := (.cons (.ret (.meth .join (.str (Str.ofString "")) (.cons (.comp false (.val (.rev (.var 0))) (.nm 1) .no (.ix (.str (Str.ofString "wsne")) (.meth .indexS (.str (Str.ofString "ensw")) (.cons (.var 1) .nil))) [((Str.ofString "_law_letter"), 1)]) .nil)))
    .nil)
def F_law_back : List D → Sto → Rs D := runF 1 2 (denSs ir_law_back)
theorem ck_law_back : chkSs ⟨N_law_back, defScope s_law_back, fun _ => true⟩ ir_law_back (defBody s_law_back) = true := by decide +kernel
theorem sc_law_back : FnScope N_law_back ["_law_row_here"] (defScope s_law_back) := ⟨by kernel_rfl, by kernel_rfl, by kernel_rfl, by decide +kernel, by kernel_rfl, by decide +kernel, by decide +kernel⟩
def d_law_back : He.DefD := ⟨("_law_back", none), "_law_back", "_law_back", defArgs s_law_back, defBody s_law_back, defScope s_law_back, [], []⟩
abbrev s_law_walked : Stmt := tp 44
abbrev N_law_walked : List Str := ["_law_floor_here", "_law_stand_here", "_law_row_here", "_law_found", "_law_letter", "_law_cell"]
def ir_law_walked : Ss := (.cons (.asg (.nm 3) (.lst true (.cons (.tup (.cons (.ix (.var 1) (.int 0)) (.cons (.call (Str.ofString "_law_six") 1 F_law_six (.cons (.ix (.var 1) (.int 1)) .nil)) .nil))) .nil)))
    (.cons (.loop (.nm 4) (.val (.var 2))
    (.cons (.asg (.nm 5) (.call (Str.ofString "_law_to") 2 F_law_to (.cons (.ix (.ix (.var 3) (.neg (.int 1))) (.int 0)) (.cons (.var 4) .nil))))
    (.cons (.ife (.cmp .notin (.var 5) (.var 0))
    (.cons (.ret (.var 3))
    .nil)
    .nil)
    (.cons (.expr (.meth .append (.var 3) (.cons (.tup (.cons (.var 5) (.cons (.call (Str.ofString "_law_rolled") 2 F_law_rolled (.cons (.ix (.ix (.var 3) (.neg (.int 1))) (.int 1)) (.cons (.var 4) .nil))) .nil))) .nil)))
    .nil))))
    (.cons (.ret (.var 3))
    .nil)))
def F_law_walked : List D → Sto → Rs D := runF 3 6 (denSs ir_law_walked)
theorem ck_law_walked : chkSs ⟨N_law_walked, defScope s_law_walked, fun _ => true⟩ ir_law_walked (defBody s_law_walked) = true := by decide +kernel
theorem sc_law_walked : FnScope N_law_walked ["_law_floor_here", "_law_stand_here", "_law_row_here"] (defScope s_law_walked) := ⟨by kernel_rfl, by kernel_rfl, by kernel_rfl, by decide +kernel, by kernel_rfl, by decide +kernel, by decide +kernel⟩
def d_law_walked : He.DefD := ⟨("_law_walked", none), "_law_walked", "_law_walked", defArgs s_law_walked, defBody s_law_walked, defScope s_law_walked, [], []⟩
abbrev s_first_off : Stmt := tp 32
abbrev N_first_off : List Str := ["floor", "cell", "row"]
def ir_first_off : Ss := (.cons (.expr (.call (Str.ofString "need_floor") 1 F_need_floor (.cons (.var 0) .nil)))
    (.cons (.expr (.call (Str.ofString "need_cell") 2 F_need_cell (.cons (.var 0) (.cons (.var 1) .nil))))
    (.cons (.expr (.call (Str.ofString "need_row") 1 F_need_row (.cons (.var 2) .nil)))
    (.cons (.ret (.call (Str.ofString "off_at") 3 F_off_at (.cons (.var 0) (.cons (.var 1) (.cons (.var 2) .nil)))))
    .nil))))
def F_first_off : List D → Sto → Rs D := runF 3 3 (denSs ir_first_off)
theorem ck_first_off : chkSs ⟨N_first_off, defScope s_first_off, fun _ => true⟩ ir_first_off (defBody s_first_off) = true := by decide +kernel
theorem sc_first_off : FnScope N_first_off ["floor", "cell", "row"] (defScope s_first_off) := ⟨by kernel_rfl, by kernel_rfl, by kernel_rfl, by decide +kernel, by kernel_rfl, by decide +kernel, by decide +kernel⟩
def d_first_off : He.DefD := ⟨("first_off", none), "first_off", "first_off", defArgs s_first_off, defBody s_first_off, defScope s_first_off, [], []⟩
abbrev s_law : Stmt := tp 51
abbrev N_law : List Str := ["_law_script", "_law_k", "_law_pen_here", "_law_floor_here", "_law_cell", "_law_lying_here", "_law_let", "_law_drawn", "_law_row_here", "_law_walked_here", "_law_kept", "_law_due", "_law_last", "_law_lap"]
def ir_law : Ss := (.cons (.ife (.not (.call (Str.ofString "_law_lyings_right") 0 F_law_lyings_right .nil))
    (.cons (.ret (.bl false))
    .nil)
    .nil)
    (.cons (.loop (.nm 1) (.r1 (.cons (.prim .max2 (.cons (.int 1) (.cons (.prim .min2 (.cons (.prim .len (.cons (.var 0) .nil)) (.cons (.int 5) .nil))) .nil))) .nil))
    (.cons (.asg (.nm 2) (.call (Str.ofString "_law_pen") 1 F_law_pen (.cons (.call (Str.ofString "_law_cell_at") 2 F_law_cell_at (.cons (.var 0) (.cons (.var 1) .nil))) .nil)))
    (.cons (.asg (.nm 3) (.call (Str.ofString "_law_floor") 2 F_law_floor (.cons (.var 2) (.cons (.int 9) .nil))))
    (.cons (.asg (.tup 2 (.cons (.nm 4) (.cons (.nm 5) .nil))) (.call (Str.ofString "_law_stand") 2 F_law_stand (.cons (.var 2) (.cons (.var 3) .nil))))
    (.cons (.asg (.nm 6) (.call (Str.ofString "_law_row") 4 F_law_row (.cons (.var 2) (.cons (.var 3) (.cons (.var 4) (.cons (.int 60) .nil))))))
    (.cons (.asg (.nm 7) (.meth .join (.str (Str.ofString "")) (.cons (.comp false (.r1 (.cons (.call (Str.ofString "_law_draw") 2 F_law_draw (.cons (.var 2) (.cons (.int 12) .nil))) .nil)) (.nm 13) .no (.ix (.str (Str.ofString "ensw")) (.call (Str.ofString "_law_draw") 2 F_law_draw (.cons (.var 2) (.cons (.int 4) .nil)))) [((Str.ofString "_law_lap"), 13)]) .nil)))
    (.cons (.loop (.nm 8) (.val (.lst false (.cons (.var 6) (.cons (.var 7) (.cons (.str (Str.ofString "")) (.cons (.bin .add (.sl (.var 6) .no (.yes (.int 59))) (.ix (.str (Str.ofString "ensw")) (.call (Str.ofString "_law_draw") 2 F_law_draw (.cons (.var 2) (.cons (.int 4) .nil))))) (.cons (.bin .add (.sl (.var 6) .no (.yes (.int 30))) (.call (Str.ofString "_law_back") 1 F_law_back (.cons (.sl (.var 6) .no (.yes (.int 30))) .nil))) .nil)))))))
    (.cons (.par (.cons (.nm 9) (.cons (.nm 10) .nil)) (.cons (.call (Str.ofString "_law_walked") 3 F_law_walked (.cons (.var 3) (.cons (.tup (.cons (.var 4) (.cons (.var 5) .nil))) (.cons (.var 8) .nil)))) (.cons (.prim .repr (.cons (.tup (.cons (.var 3) (.cons (.var 4) (.cons (.var 5) .nil)))) .nil)) .nil)))
    (.cons (.asg (.nm 11) (.ife (.cmp .le (.prim .len (.cons (.var 9) .nil)) (.prim .len (.cons (.var 8) .nil))) (.bin .sub (.prim .len (.cons (.var 9) .nil)) (.int 1)) .non))
    (.cons (.ife (.cmp .ne (.prim .repr (.cons (.comp false (.r1 (.cons (.int 2) .nil)) (.nm 13) .no (.call (Str.ofString "first_off") 3 F_first_off (.cons (.var 3) (.cons (.var 4) (.cons (.var 8) .nil)))) [((Str.ofString "_law_lap"), 13)]) .nil)) (.prim .repr (.cons (.lst false (.cons (.var 11) (.cons (.var 11) .nil))) .nil)))
    (.cons (.ret (.bl false))
    .nil)
    .nil)
    (.cons (.ife (.cmp .is (.var 11) .non)
    (.cons (.asg (.nm 12) (.tup (.cons (.ix (.ix (.var 9) (.neg (.int 1))) (.int 0)) (.cons (.tup (.cons (.ix (.ix (.ix (.var 9) (.neg (.int 1))) (.int 1)) (.int 0)) (.cons (.ix (.ix (.ix (.var 9) (.neg (.int 1))) (.int 1)) (.int 2)) (.cons (.ix (.ix (.ix (.var 9) (.neg (.int 1))) (.int 1)) (.int 4)) .nil)))) .nil))))
    (.cons (.ife (.cmp .ne (.prim .repr (.cons (.comp false (.r1 (.cons (.int 2) .nil)) (.nm 13) .no (.call (Str.ofString "stand_behind") 4 F_stand_behind (.cons (.var 3) (.cons (.var 4) (.cons (.var 5) (.cons (.var 8) .nil))))) [((Str.ofString "_law_lap"), 13)]) .nil)) (.prim .repr (.cons (.lst false (.cons (.var 12) (.cons (.var 12) .nil))) .nil)))
    (.cons (.ret (.bl false))
    .nil)
    .nil)
    .nil))
    .nil)
    (.cons (.ife (.cmp .ne (.prim .repr (.cons (.tup (.cons (.var 3) (.cons (.var 4) (.cons (.var 5) .nil)))) .nil)) (.var 10))
    (.cons (.ret (.bl false))
    .nil)
    .nil)
    .nil))))))
    (.cons (.ife (.cmp .ne (.call (Str.ofString "stand_behind") 4 F_stand_behind (.cons (.var 3) (.cons (.var 4) (.cons (.var 5) (.cons (.bin .add (.sl (.var 6) .no (.yes (.int 30))) (.call (Str.ofString "_law_back") 1 F_law_back (.cons (.sl (.var 6) .no (.yes (.int 30))) .nil))) .nil))))) (.tup (.cons (.var 4) (.cons (.var 5) .nil))))
    (.cons (.ret (.bl false))
    .nil)
    .nil)
    .nil))))))))
    (.cons (.ret (.bl true))
    .nil)))
def F_law : List D → Sto → Rs D := runF 1 14 (denSs ir_law)
theorem ck_law : chkSs ⟨N_law, defScope s_law, fun _ => true⟩ ir_law (defBody s_law) = true := by decide +kernel
theorem sc_law : FnScope N_law ["_law_script"] (defScope s_law) := ⟨by kernel_rfl, by kernel_rfl, by kernel_rfl, by decide +kernel, by kernel_rfl, by decide +kernel, by decide +kernel⟩
def d_law : He.DefD := ⟨("law", none), "law", "law", defArgs s_law, defBody s_law, defScope s_law, [], []⟩
def fns : List He.DefD := [d_law_rolled, d_law_six, d_are_some, d_is_whole, d_is_among, d_is_lying, d_need_lying, d_is_letter, d_need_letter, d_rolled, d_lying_behind, d_law_lyings_right, d_law_pen, d_law_draw, d_law_to, d_law_pick, d_law_floor, d_law_lying, d_law_stand, d_law_row, d_law_cell_at, d_rises, d_is_cell, d_is_floor, d_need_floor, d_is_cell_of, d_need_cell, d_need_row, d_beside, d_off_at, d_need_let, d_stand_by, d_stand_behind, d_law_back, d_law_walked, d_first_off, d_law]
def fa0 : List He.Fa := [.glo "_law_rolled", .glo "_law_six", .glo "are_some", .glo "is_whole", .glo "is_among", .glo "is_lying", .glo "need_lying", .glo "is_letter", .glo "need_letter", .glo "rolled", .glo "lying_behind", .glo "_law_lyings_right", .glo "_law_pen", .glo "_law_draw", .glo "_law_to", .glo "_law_pick", .glo "_law_floor", .glo "_law_lying", .glo "_law_stand", .glo "_law_row", .glo "_law_cell_at", .glo "rises", .glo "is_cell", .glo "is_floor", .glo "need_floor", .glo "is_cell_of", .glo "need_cell", .glo "need_row", .glo "beside", .glo "off_at"]
def fa1 : List He.Fa := [.glo "need_let", .glo "stand_by", .glo "stand_behind", .glo "_law_back", .glo "_law_walked", .glo "first_off", .glo "law", .free "isinstance", .free "tuple", .free "len", .free "int", .free "bool", .free "all", .free "min", .free "str", .free "repr", .free "max", .free "range", .free "sorted", .free "list", .free "zip", .free "enumerate", .glo "STEPS"]
def fa : List He.Fa := fa0 ++ fa1
def tabs : List He.Tab := [(fun K => He.ga K "STEPS", ["e", "n", "s", "w"])]
def ckK (K : Fg) : Bool := (conB K "LAST_FACE" c_LAST_FACE && (conB K "LETTERS" c_LETTERS && (conB K "MOST_WIDE" c_MOST_WIDE && (conB K "MOST_CELLS" c_MOST_CELLS && (dicB K "STEPS" t_STEPS && true)))))
def nm0 : List PySem.Str := ["TumbleError", "NoFloor", "NoCell", "NoLying", "NoRoll", "NoRow", "NotLet", "MOST_WIDE", "MOST_CELLS", "LAST_FACE", "LETTERS", "STEPS", "is_whole", "is_among", "are_some", "rises", "is_cell", "is_floor", "need_floor", "is_cell_of", "need_cell", "is_lying", "need_lying", "is_letter", "need_letter", "rolled", "lying_behind", "need_row", "beside", "off_at"]
def nm1 : List PySem.Str := ["first_off", "need_let", "stand_by", "stand_behind", "_law_cell_at", "_law_pen", "_law_draw", "_law_pick", "_law_to", "_law_six", "_law_rolled", "_law_walked", "_law_floor", "_law_lying", "_law_stand", "_law_row", "_law_back", "_law_lyings_right"]
def nms : List PySem.Str := nm0 ++ nm1
abbrev R : PySem.W.OpenRow := PySem.W.OpenLaw.row PySem.Challenge.rw_tumblemarks_k02_rolls_and_stands
abbrev hk : PySem.W.Hook := hookX 4 fa fns tabs ckK
def ob (s : PySem.W.SharedT) : He.AlT × Bool := obsX 4 fa fns tabs ckK (HandSHeadRun.getT s)
theorem ob_eq (s : PySem.W.SharedT) : ob s = hk.obs s.abs := obsX_eq (HandSHeadRun.getT_eq s)
theorem run (w : World) : HandSHeadRun.RunEq R (PySem.W.view R.prog [51]) hk ob 4000 nms w := PySem.W.byRow2 "special-get-raises" (P := fun w => HandSHeadRun.RunEq R (PySem.W.view R.prog [51]) hk ob 4000 nms w) (fun w => by intro os; kernel_rfl) (fun w => by intro os; kernel_rfl) w
structure Fx (w : World) (K : Fg) (h : Heap) (mg : Str → Option Value) : Prop where
  X : K.In h
  G : h.Ns mainGlobals mg
  c : He.SaysT fa fns tabs w K
  cc : ckK K = true
section
variable {P : Program} {w : World} {K : Fg} {h : Heap} {mg : Str → Option Value} {base : Heap}
theorem b_isinstance (Z : Fx w K h mg) : mg (Str.ofString "isinstance") = none := He.free_ok Z.X Z.G (Z.c.d.fact 37 (f := .free "isinstance") rfl)
theorem b_tuple (Z : Fx w K h mg) : mg (Str.ofString "tuple") = none := He.free_ok Z.X Z.G (Z.c.d.fact 38 (f := .free "tuple") rfl)
theorem b_len (Z : Fx w K h mg) : mg (Str.ofString "len") = none := He.free_ok Z.X Z.G (Z.c.d.fact 39 (f := .free "len") rfl)
theorem b_int (Z : Fx w K h mg) : mg (Str.ofString "int") = none := He.free_ok Z.X Z.G (Z.c.d.fact 40 (f := .free "int") rfl)
theorem b_bool (Z : Fx w K h mg) : mg (Str.ofString "bool") = none := He.free_ok Z.X Z.G (Z.c.d.fact 41 (f := .free "bool") rfl)
theorem b_all (Z : Fx w K h mg) : mg (Str.ofString "all") = none := He.free_ok Z.X Z.G (Z.c.d.fact 42 (f := .free "all") rfl)
theorem b_min (Z : Fx w K h mg) : mg (Str.ofString "min") = none := He.free_ok Z.X Z.G (Z.c.d.fact 43 (f := .free "min") rfl)
theorem b_str (Z : Fx w K h mg) : mg (Str.ofString "str") = none := He.free_ok Z.X Z.G (Z.c.d.fact 44 (f := .free "str") rfl)
theorem b_repr (Z : Fx w K h mg) : mg (Str.ofString "repr") = none := He.free_ok Z.X Z.G (Z.c.d.fact 45 (f := .free "repr") rfl)
theorem b_max (Z : Fx w K h mg) : mg (Str.ofString "max") = none := He.free_ok Z.X Z.G (Z.c.d.fact 46 (f := .free "max") rfl)
theorem b_range (Z : Fx w K h mg) : mg (Str.ofString "range") = none := He.free_ok Z.X Z.G (Z.c.d.fact 47 (f := .free "range") rfl)
theorem b_sorted (Z : Fx w K h mg) : mg (Str.ofString "sorted") = none := He.free_ok Z.X Z.G (Z.c.d.fact 48 (f := .free "sorted") rfl)
theorem b_list (Z : Fx w K h mg) : mg (Str.ofString "list") = none := He.free_ok Z.X Z.G (Z.c.d.fact 49 (f := .free "list") rfl)
theorem b_zip (Z : Fx w K h mg) : mg (Str.ofString "zip") = none := He.free_ok Z.X Z.G (Z.c.d.fact 50 (f := .free "zip") rfl)
theorem b_enumerate (Z : Fx w K h mg) : mg (Str.ofString "enumerate") = none := He.free_ok Z.X Z.G (Z.c.d.fact 51 (f := .free "enumerate") rfl)
theorem q_LAST_FACE (Z : Fx w K h mg) : GlobOk K mg (Str.ofString "LAST_FACE") c_LAST_FACE := conB_ok Z.X Z.G (Bool.and_eq_true_iff.mp Z.cc).1
theorem q_LETTERS (Z : Fx w K h mg) : GlobOk K mg (Str.ofString "LETTERS") c_LETTERS := conB_ok Z.X Z.G (Bool.and_eq_true_iff.mp (Bool.and_eq_true_iff.mp Z.cc).2).1
theorem q_MOST_WIDE (Z : Fx w K h mg) : GlobOk K mg (Str.ofString "MOST_WIDE") c_MOST_WIDE := conB_ok Z.X Z.G (Bool.and_eq_true_iff.mp (Bool.and_eq_true_iff.mp (Bool.and_eq_true_iff.mp Z.cc).2).2).1
theorem q_MOST_CELLS (Z : Fx w K h mg) : GlobOk K mg (Str.ofString "MOST_CELLS") c_MOST_CELLS := conB_ok Z.X Z.G (Bool.and_eq_true_iff.mp (Bool.and_eq_true_iff.mp (Bool.and_eq_true_iff.mp (Bool.and_eq_true_iff.mp Z.cc).2).2).2).1
theorem q_STEPS (Z : Fx w K h mg) : DictOk K w mg (Str.ofString "STEPS") t_STEPS := dicB_ok (Bool.and_eq_true_iff.mp (Bool.and_eq_true_iff.mp (Bool.and_eq_true_iff.mp (Bool.and_eq_true_iff.mp (Bool.and_eq_true_iff.mp Z.cc).2).2).2).2).1 (He.glo_ok Z.X Z.G (Z.c.d.fact 52 (f := .glo "STEPS") rfl)) (Z.c.tab 0 (t := (fun K => He.ga K "STEPS", ["e", "n", "s", "w"])) rfl)
theorem us_law_rolled (Z : Fx w K h mg) : ∀ u ∈ usesSs ir_law_rolled, Kw P w K mg base 0 u := by
  have e : usesSs ir_law_rolled = [] := by kernel_rfl
  rw [e]
  exact usn
theorem k_law_rolled (Z : Fx w K h mg) : Kw P w K mg base 1 (.fn (Str.ofString "_law_rolled") 2 F_law_rolled) := by
  obtain ⟨fd, D⟩ := Z.c.d.def_ 0 (d := d_law_rolled) rfl
  exact def_K (k := 0) D sc_law_rolled (by decide) ck_law_rolled (us_law_rolled Z) (He.glo_ok Z.X Z.G (Z.c.d.fact 0 (f := .glo "_law_rolled") rfl)) (FunD.bindsN D fun _ _ _ _ _ _ us hl => match us, hl with | [_, _], _ => rfl)
theorem us_law_six (Z : Fx w K h mg) : ∀ u ∈ usesSs ir_law_six, Kw P w K mg base 0 u := by
  have e : usesSs ir_law_six = [] := by kernel_rfl
  rw [e]
  exact usn
theorem k_law_six (Z : Fx w K h mg) : Kw P w K mg base 1 (.fn (Str.ofString "_law_six") 1 F_law_six) := by
  obtain ⟨fd, D⟩ := Z.c.d.def_ 1 (d := d_law_six) rfl
  exact def_K (k := 0) D sc_law_six (by decide) ck_law_six (us_law_six Z) (He.glo_ok Z.X Z.G (Z.c.d.fact 1 (f := .glo "_law_six") rfl)) (FunD.bindsN D fun _ _ _ _ _ _ us hl => match us, hl with | [_], _ => rfl)
theorem us_are_some (Z : Fx w K h mg) : ∀ u ∈ usesSs ir_are_some, Kw P w K mg base 0 u := by
  have e : usesSs ir_are_some = [.blt "isinstance", .blt "tuple", .blt "len"] := by kernel_rfl
  rw [e]
  exact (usc (b_isinstance Z) (usc (b_tuple Z) (usc (b_len Z) usn)))
theorem k_are_some (Z : Fx w K h mg) : Kw P w K mg base 1 (.fn (Str.ofString "are_some") 3 F_are_some) := by
  obtain ⟨fd, D⟩ := Z.c.d.def_ 2 (d := d_are_some) rfl
  exact def_K (k := 0) D sc_are_some (by decide) ck_are_some (us_are_some Z) (He.glo_ok Z.X Z.G (Z.c.d.fact 2 (f := .glo "are_some") rfl)) (FunD.bindsN D fun _ _ _ _ _ _ us hl => match us, hl with | [_, _, _], _ => rfl)
theorem us_is_whole (Z : Fx w K h mg) : ∀ u ∈ usesSs ir_is_whole, Kw P w K mg base 0 u := by
  have e : usesSs ir_is_whole = [.blt "isinstance", .blt "int", .blt "isinstance", .blt "bool"] := by kernel_rfl
  rw [e]
  exact (usc (b_isinstance Z) (usc (b_int Z) (usc (b_isinstance Z) (usc (b_bool Z) usn))))
theorem k_is_whole (Z : Fx w K h mg) : Kw P w K mg base 1 (.fn (Str.ofString "is_whole") 1 F_is_whole) := by
  obtain ⟨fd, D⟩ := Z.c.d.def_ 3 (d := d_is_whole) rfl
  exact def_K (k := 0) D sc_is_whole (by decide) ck_is_whole (us_is_whole Z) (He.glo_ok Z.X Z.G (Z.c.d.fact 3 (f := .glo "is_whole") rfl)) (FunD.bindsN D fun _ _ _ _ _ _ us hl => match us, hl with | [_], _ => rfl)
theorem us_is_among (Z : Fx w K h mg) : ∀ u ∈ usesSs ir_is_among, Kw P w K mg base 1 u := by
  have e : usesSs ir_is_among = [.fn (Str.ofString "is_whole") 1 F_is_whole] := by kernel_rfl
  rw [e]
  exact (usc ((k_is_whole Z).up (by decide)) usn)
theorem k_is_among (Z : Fx w K h mg) : Kw P w K mg base 2 (.fn (Str.ofString "is_among") 3 F_is_among) := by
  obtain ⟨fd, D⟩ := Z.c.d.def_ 4 (d := d_is_among) rfl
  exact def_K (k := 1) D sc_is_among (by decide) ck_is_among (us_is_among Z) (He.glo_ok Z.X Z.G (Z.c.d.fact 4 (f := .glo "is_among") rfl)) (FunD.bindsN D fun _ _ _ _ _ _ us hl => match us, hl with | [_, _, _], _ => rfl)
theorem us_is_lying (Z : Fx w K h mg) : ∀ u ∈ usesSs ir_is_lying, Kw P w K mg base 2 u := by
  have e : usesSs ir_is_lying = [.fn (Str.ofString "are_some") 3 F_are_some, .blt "all", .fn (Str.ofString "is_among") 3 F_is_among, .con (Str.ofString "LAST_FACE") c_LAST_FACE, .blt "min", .con (Str.ofString "LAST_FACE") c_LAST_FACE, .blt "int", .blt "int", .blt "int", .blt "len", .con (Str.ofString "LAST_FACE") c_LAST_FACE] := by kernel_rfl
  rw [e]
  exact (usc ((k_are_some Z).up (by decide)) (usc (b_all Z) (usc ((k_is_among Z).up (by decide)) (usc (q_LAST_FACE Z) (usc (b_min Z) (usc (q_LAST_FACE Z) (usc (b_int Z) (usc (b_int Z) (usc (b_int Z) (usc (b_len Z) (usc (q_LAST_FACE Z) usn)))))))))))
theorem k_is_lying (Z : Fx w K h mg) : Kw P w K mg base 3 (.fn (Str.ofString "is_lying") 1 F_is_lying) := by
  obtain ⟨fd, D⟩ := Z.c.d.def_ 5 (d := d_is_lying) rfl
  exact def_K (k := 2) D sc_is_lying (by decide) ck_is_lying (us_is_lying Z) (He.glo_ok Z.X Z.G (Z.c.d.fact 5 (f := .glo "is_lying") rfl)) (FunD.bindsN D fun _ _ _ _ _ _ us hl => match us, hl with | [_], _ => rfl)
theorem us_need_lying (Z : Fx w K h mg) : ∀ u ∈ usesSs ir_need_lying, Kw P w K mg base 3 u := by
  have e : usesSs ir_need_lying = [.fn (Str.ofString "is_lying") 1 F_is_lying] := by kernel_rfl
  rw [e]
  exact (usc ((k_is_lying Z).up (by decide)) usn)
theorem k_need_lying (Z : Fx w K h mg) : Kw P w K mg base 4 (.fn (Str.ofString "need_lying") 1 F_need_lying) := by
  obtain ⟨fd, D⟩ := Z.c.d.def_ 6 (d := d_need_lying) rfl
  exact def_K (k := 3) D sc_need_lying (by decide) ck_need_lying (us_need_lying Z) (He.glo_ok Z.X Z.G (Z.c.d.fact 6 (f := .glo "need_lying") rfl)) (FunD.bindsN D fun _ _ _ _ _ _ us hl => match us, hl with | [_], _ => rfl)
theorem us_is_letter (Z : Fx w K h mg) : ∀ u ∈ usesSs ir_is_letter, Kw P w K mg base 0 u := by
  have e : usesSs ir_is_letter = [.blt "isinstance", .blt "str", .blt "len", .con (Str.ofString "LETTERS") c_LETTERS] := by kernel_rfl
  rw [e]
  exact (usc (b_isinstance Z) (usc (b_str Z) (usc (b_len Z) (usc (q_LETTERS Z) usn))))
theorem k_is_letter (Z : Fx w K h mg) : Kw P w K mg base 1 (.fn (Str.ofString "is_letter") 1 F_is_letter) := by
  obtain ⟨fd, D⟩ := Z.c.d.def_ 7 (d := d_is_letter) rfl
  exact def_K (k := 0) D sc_is_letter (by decide) ck_is_letter (us_is_letter Z) (He.glo_ok Z.X Z.G (Z.c.d.fact 7 (f := .glo "is_letter") rfl)) (FunD.bindsN D fun _ _ _ _ _ _ us hl => match us, hl with | [_], _ => rfl)
theorem us_need_letter (Z : Fx w K h mg) : ∀ u ∈ usesSs ir_need_letter, Kw P w K mg base 1 u := by
  have e : usesSs ir_need_letter = [.fn (Str.ofString "is_letter") 1 F_is_letter] := by kernel_rfl
  rw [e]
  exact (usc ((k_is_letter Z).up (by decide)) usn)
theorem k_need_letter (Z : Fx w K h mg) : Kw P w K mg base 2 (.fn (Str.ofString "need_letter") 1 F_need_letter) := by
  obtain ⟨fd, D⟩ := Z.c.d.def_ 8 (d := d_need_letter) rfl
  exact def_K (k := 1) D sc_need_letter (by decide) ck_need_letter (us_need_letter Z) (He.glo_ok Z.X Z.G (Z.c.d.fact 8 (f := .glo "need_letter") rfl)) (FunD.bindsN D fun _ _ _ _ _ _ us hl => match us, hl with | [_], _ => rfl)
theorem us_rolled (Z : Fx w K h mg) : ∀ u ∈ usesSs ir_rolled, Kw P w K mg base 0 u := by
  have e : usesSs ir_rolled = [.con (Str.ofString "LAST_FACE") c_LAST_FACE, .con (Str.ofString "LAST_FACE") c_LAST_FACE, .con (Str.ofString "LAST_FACE") c_LAST_FACE, .con (Str.ofString "LAST_FACE") c_LAST_FACE] := by kernel_rfl
  rw [e]
  exact (usc (q_LAST_FACE Z) (usc (q_LAST_FACE Z) (usc (q_LAST_FACE Z) (usc (q_LAST_FACE Z) usn))))
theorem k_rolled (Z : Fx w K h mg) : Kw P w K mg base 1 (.fn (Str.ofString "rolled") 2 F_rolled) := by
  obtain ⟨fd, D⟩ := Z.c.d.def_ 9 (d := d_rolled) rfl
  exact def_K (k := 0) D sc_rolled (by decide) ck_rolled (us_rolled Z) (He.glo_ok Z.X Z.G (Z.c.d.fact 9 (f := .glo "rolled") rfl)) (FunD.bindsN D fun _ _ _ _ _ _ us hl => match us, hl with | [_, _], _ => rfl)
theorem us_lying_behind (Z : Fx w K h mg) : ∀ u ∈ usesSs ir_lying_behind, Kw P w K mg base 4 u := by
  have e : usesSs ir_lying_behind = [.fn (Str.ofString "need_lying") 1 F_need_lying, .fn (Str.ofString "need_letter") 1 F_need_letter, .fn (Str.ofString "rolled") 2 F_rolled] := by kernel_rfl
  rw [e]
  exact (usc ((k_need_lying Z).up (by decide)) (usc ((k_need_letter Z).up (by decide)) (usc ((k_rolled Z).up (by decide)) usn)))
theorem k_lying_behind (Z : Fx w K h mg) : Kw P w K mg base 5 (.fn (Str.ofString "lying_behind") 2 F_lying_behind) := by
  obtain ⟨fd, D⟩ := Z.c.d.def_ 10 (d := d_lying_behind) rfl
  exact def_K (k := 4) D sc_lying_behind (by decide) ck_lying_behind (us_lying_behind Z) (He.glo_ok Z.X Z.G (Z.c.d.fact 10 (f := .glo "lying_behind") rfl)) (FunD.bindsN D fun _ _ _ _ _ _ us hl => match us, hl with | [_, _], _ => rfl)
theorem us_law_lyings_right (Z : Fx w K h mg) : ∀ u ∈ usesSs ir_law_lyings_right, Kw P w K mg base 5 u := by
  have e : usesSs ir_law_lyings_right = [.fn (Str.ofString "_law_rolled") 2 F_law_rolled, .fn (Str.ofString "_law_six") 1 F_law_six, .blt "repr", .fn (Str.ofString "lying_behind") 2 F_lying_behind, .blt "repr", .blt "len"] := by kernel_rfl
  rw [e]
  exact (usc ((k_law_rolled Z).up (by decide)) (usc ((k_law_six Z).up (by decide)) (usc (b_repr Z) (usc ((k_lying_behind Z).up (by decide)) (usc (b_repr Z) (usc (b_len Z) usn))))))
theorem k_law_lyings_right (Z : Fx w K h mg) : Kw P w K mg base 6 (.fn (Str.ofString "_law_lyings_right") 0 F_law_lyings_right) := by
  obtain ⟨fd, D⟩ := Z.c.d.def_ 11 (d := d_law_lyings_right) rfl
  exact def_K (k := 5) D sc_law_lyings_right (by decide) ck_law_lyings_right (us_law_lyings_right Z) (He.glo_ok Z.X Z.G (Z.c.d.fact 11 (f := .glo "_law_lyings_right") rfl)) (FunD.bindsN D fun _ _ _ _ _ _ us hl => match us, hl with | [], _ => rfl)
theorem us_law_pen (Z : Fx w K h mg) : ∀ u ∈ usesSs ir_law_pen, Kw P w K mg base 0 u := by
  have e : usesSs ir_law_pen = [.blt "max"] := by kernel_rfl
  rw [e]
  exact (usc (b_max Z) usn)
theorem k_law_pen (Z : Fx w K h mg) : Kw P w K mg base 1 (.fn (Str.ofString "_law_pen") 1 F_law_pen) := by
  obtain ⟨fd, D⟩ := Z.c.d.def_ 12 (d := d_law_pen) rfl
  exact def_K (k := 0) D sc_law_pen (by decide) ck_law_pen (us_law_pen Z) (He.glo_ok Z.X Z.G (Z.c.d.fact 12 (f := .glo "_law_pen") rfl)) (FunD.bindsN D fun _ _ _ _ _ _ us hl => match us, hl with | [_], _ => rfl)
theorem us_law_draw (Z : Fx w K h mg) : ∀ u ∈ usesSs ir_law_draw, Kw P w K mg base 0 u := by
  have e : usesSs ir_law_draw = [] := by kernel_rfl
  rw [e]
  exact usn
theorem k_law_draw (Z : Fx w K h mg) : Kw P w K mg base 1 (.fn (Str.ofString "_law_draw") 2 F_law_draw) := by
  obtain ⟨fd, D⟩ := Z.c.d.def_ 13 (d := d_law_draw) rfl
  exact def_K (k := 0) D sc_law_draw (by decide) ck_law_draw (us_law_draw Z) (He.glo_ok Z.X Z.G (Z.c.d.fact 13 (f := .glo "_law_draw") rfl)) (FunD.bindsN D fun _ _ _ _ _ _ us hl => match us, hl with | [_, _], _ => rfl)
theorem us_law_to (Z : Fx w K h mg) : ∀ u ∈ usesSs ir_law_to, Kw P w K mg base 0 u := by
  have e : usesSs ir_law_to = [.blt "int", .blt "int", .blt "int", .blt "int"] := by kernel_rfl
  rw [e]
  exact (usc (b_int Z) (usc (b_int Z) (usc (b_int Z) (usc (b_int Z) usn))))
theorem k_law_to (Z : Fx w K h mg) : Kw P w K mg base 1 (.fn (Str.ofString "_law_to") 2 F_law_to) := by
  obtain ⟨fd, D⟩ := Z.c.d.def_ 14 (d := d_law_to) rfl
  exact def_K (k := 0) D sc_law_to (by decide) ck_law_to (us_law_to Z) (He.glo_ok Z.X Z.G (Z.c.d.fact 14 (f := .glo "_law_to") rfl)) (FunD.bindsN D fun _ _ _ _ _ _ us hl => match us, hl with | [_, _], _ => rfl)
theorem us_law_pick (Z : Fx w K h mg) : ∀ u ∈ usesSs ir_law_pick, Kw P w K mg base 1 u := by
  have e : usesSs ir_law_pick = [.fn (Str.ofString "_law_draw") 2 F_law_draw, .blt "len"] := by kernel_rfl
  rw [e]
  exact (usc ((k_law_draw Z).up (by decide)) (usc (b_len Z) usn))
theorem k_law_pick (Z : Fx w K h mg) : Kw P w K mg base 2 (.fn (Str.ofString "_law_pick") 2 F_law_pick) := by
  obtain ⟨fd, D⟩ := Z.c.d.def_ 15 (d := d_law_pick) rfl
  exact def_K (k := 1) D sc_law_pick (by decide) ck_law_pick (us_law_pick Z) (He.glo_ok Z.X Z.G (Z.c.d.fact 15 (f := .glo "_law_pick") rfl)) (FunD.bindsN D fun _ _ _ _ _ _ us hl => match us, hl with | [_, _], _ => rfl)
theorem us_law_floor (Z : Fx w K h mg) : ∀ u ∈ usesSs ir_law_floor, Kw P w K mg base 2 u := by
  have e : usesSs ir_law_floor = [.fn (Str.ofString "_law_draw") 2 F_law_draw, .fn (Str.ofString "_law_draw") 2 F_law_draw, .blt "range", .fn (Str.ofString "_law_draw") 2 F_law_draw, .fn (Str.ofString "_law_to") 2 F_law_to, .fn (Str.ofString "_law_pick") 2 F_law_pick, .fn (Str.ofString "_law_draw") 2 F_law_draw, .fn (Str.ofString "_law_draw") 2 F_law_draw, .fn (Str.ofString "_law_draw") 2 F_law_draw, .fn (Str.ofString "_law_draw") 2 F_law_draw, .blt "min", .blt "max", .blt "tuple", .blt "sorted"] := by kernel_rfl
  rw [e]
  exact (usc ((k_law_draw Z).up (by decide)) (usc ((k_law_draw Z).up (by decide)) (usc (b_range Z) (usc ((k_law_draw Z).up (by decide)) (usc ((k_law_to Z).up (by decide)) (usc ((k_law_pick Z).up (by decide)) (usc ((k_law_draw Z).up (by decide)) (usc ((k_law_draw Z).up (by decide)) (usc ((k_law_draw Z).up (by decide)) (usc ((k_law_draw Z).up (by decide)) (usc (b_min Z) (usc (b_max Z) (usc (b_tuple Z) (usc (b_sorted Z) usn))))))))))))))
theorem k_law_floor (Z : Fx w K h mg) : Kw P w K mg base 3 (.fn (Str.ofString "_law_floor") 2 F_law_floor) := by
  obtain ⟨fd, D⟩ := Z.c.d.def_ 16 (d := d_law_floor) rfl
  exact def_K (k := 2) D sc_law_floor (by decide) ck_law_floor (us_law_floor Z) (He.glo_ok Z.X Z.G (Z.c.d.fact 16 (f := .glo "_law_floor") rfl)) (FunD.bindsN D fun _ _ _ _ _ _ us hl => match us, hl with | [_, _], _ => rfl)
theorem us_law_lying (Z : Fx w K h mg) : ∀ u ∈ usesSs ir_law_lying, Kw P w K mg base 1 u := by
  have e : usesSs ir_law_lying = [.fn (Str.ofString "_law_six") 1 F_law_six, .blt "range", .fn (Str.ofString "_law_draw") 2 F_law_draw, .fn (Str.ofString "_law_rolled") 2 F_law_rolled, .fn (Str.ofString "_law_draw") 2 F_law_draw] := by kernel_rfl
  rw [e]
  exact (usc ((k_law_six Z).up (by decide)) (usc (b_range Z) (usc ((k_law_draw Z).up (by decide)) (usc ((k_law_rolled Z).up (by decide)) (usc ((k_law_draw Z).up (by decide)) usn)))))
theorem k_law_lying (Z : Fx w K h mg) : Kw P w K mg base 2 (.fn (Str.ofString "_law_lying") 1 F_law_lying) := by
  obtain ⟨fd, D⟩ := Z.c.d.def_ 17 (d := d_law_lying) rfl
  exact def_K (k := 1) D sc_law_lying (by decide) ck_law_lying (us_law_lying Z) (He.glo_ok Z.X Z.G (Z.c.d.fact 17 (f := .glo "_law_lying") rfl)) (FunD.bindsN D fun _ _ _ _ _ _ us hl => match us, hl with | [_], _ => rfl)
theorem us_law_stand (Z : Fx w K h mg) : ∀ u ∈ usesSs ir_law_stand, Kw P w K mg base 2 u := by
  have e : usesSs ir_law_stand = [.fn (Str.ofString "_law_pick") 2 F_law_pick, .blt "list", .fn (Str.ofString "_law_lying") 1 F_law_lying] := by kernel_rfl
  rw [e]
  exact (usc ((k_law_pick Z).up (by decide)) (usc (b_list Z) (usc ((k_law_lying Z).up (by decide)) usn)))
theorem k_law_stand (Z : Fx w K h mg) : Kw P w K mg base 3 (.fn (Str.ofString "_law_stand") 2 F_law_stand) := by
  obtain ⟨fd, D⟩ := Z.c.d.def_ 18 (d := d_law_stand) rfl
  exact def_K (k := 2) D sc_law_stand (by decide) ck_law_stand (us_law_stand Z) (He.glo_ok Z.X Z.G (Z.c.d.fact 18 (f := .glo "_law_stand") rfl)) (FunD.bindsN D fun _ _ _ _ _ _ us hl => match us, hl with | [_, _], _ => rfl)
theorem us_law_row (Z : Fx w K h mg) : ∀ u ∈ usesSs ir_law_row, Kw P w K mg base 2 u := by
  have e : usesSs ir_law_row = [.blt "range", .fn (Str.ofString "_law_draw") 2 F_law_draw, .fn (Str.ofString "_law_to") 2 F_law_to, .fn (Str.ofString "_law_pick") 2 F_law_pick, .fn (Str.ofString "_law_to") 2 F_law_to] := by kernel_rfl
  rw [e]
  exact (usc (b_range Z) (usc ((k_law_draw Z).up (by decide)) (usc ((k_law_to Z).up (by decide)) (usc ((k_law_pick Z).up (by decide)) (usc ((k_law_to Z).up (by decide)) usn)))))
theorem k_law_row (Z : Fx w K h mg) : Kw P w K mg base 3 (.fn (Str.ofString "_law_row") 4 F_law_row) := by
  obtain ⟨fd, D⟩ := Z.c.d.def_ 19 (d := d_law_row) rfl
  exact def_K (k := 2) D sc_law_row (by decide) ck_law_row (us_law_row Z) (He.glo_ok Z.X Z.G (Z.c.d.fact 19 (f := .glo "_law_row") rfl)) (FunD.bindsN D fun _ _ _ _ _ _ us hl => match us, hl with | [_, _, _, _], _ => rfl)
theorem us_law_cell_at (Z : Fx w K h mg) : ∀ u ∈ usesSs ir_law_cell_at, Kw P w K mg base 0 u := by
  have e : usesSs ir_law_cell_at = [.blt "len"] := by kernel_rfl
  rw [e]
  exact (usc (b_len Z) usn)
theorem k_law_cell_at (Z : Fx w K h mg) : Kw P w K mg base 1 (.fn (Str.ofString "_law_cell_at") 2 F_law_cell_at) := by
  obtain ⟨fd, D⟩ := Z.c.d.def_ 20 (d := d_law_cell_at) rfl
  exact def_K (k := 0) D sc_law_cell_at (by decide) ck_law_cell_at (us_law_cell_at Z) (He.glo_ok Z.X Z.G (Z.c.d.fact 20 (f := .glo "_law_cell_at") rfl)) (FunD.bindsN D fun _ _ _ _ _ _ us hl => match us, hl with | [_, _], _ => rfl)
theorem us_rises (Z : Fx w K h mg) : ∀ u ∈ usesSs ir_rises, Kw P w K mg base 0 u := by
  have e : usesSs ir_rises = [.blt "all", .blt "zip"] := by kernel_rfl
  rw [e]
  exact (usc (b_all Z) (usc (b_zip Z) usn))
theorem k_rises (Z : Fx w K h mg) : Kw P w K mg base 1 (.fn (Str.ofString "rises") 1 F_rises) := by
  obtain ⟨fd, D⟩ := Z.c.d.def_ 21 (d := d_rises) rfl
  exact def_K (k := 0) D sc_rises (by decide) ck_rises (us_rises Z) (He.glo_ok Z.X Z.G (Z.c.d.fact 21 (f := .glo "rises") rfl)) (FunD.bindsN D fun _ _ _ _ _ _ us hl => match us, hl with | [_], _ => rfl)
theorem us_is_cell (Z : Fx w K h mg) : ∀ u ∈ usesSs ir_is_cell, Kw P w K mg base 2 u := by
  have e : usesSs ir_is_cell = [.fn (Str.ofString "are_some") 3 F_are_some, .blt "all", .fn (Str.ofString "is_among") 3 F_is_among, .con (Str.ofString "MOST_WIDE") c_MOST_WIDE] := by kernel_rfl
  rw [e]
  exact (usc ((k_are_some Z).up (by decide)) (usc (b_all Z) (usc ((k_is_among Z).up (by decide)) (usc (q_MOST_WIDE Z) usn))))
theorem k_is_cell (Z : Fx w K h mg) : Kw P w K mg base 3 (.fn (Str.ofString "is_cell") 1 F_is_cell) := by
  obtain ⟨fd, D⟩ := Z.c.d.def_ 22 (d := d_is_cell) rfl
  exact def_K (k := 2) D sc_is_cell (by decide) ck_is_cell (us_is_cell Z) (He.glo_ok Z.X Z.G (Z.c.d.fact 22 (f := .glo "is_cell") rfl)) (FunD.bindsN D fun _ _ _ _ _ _ us hl => match us, hl with | [_], _ => rfl)
theorem us_is_floor (Z : Fx w K h mg) : ∀ u ∈ usesSs ir_is_floor, Kw P w K mg base 3 u := by
  have e : usesSs ir_is_floor = [.fn (Str.ofString "are_some") 3 F_are_some, .con (Str.ofString "MOST_CELLS") c_MOST_CELLS, .blt "all", .fn (Str.ofString "is_cell") 1 F_is_cell, .fn (Str.ofString "rises") 1 F_rises] := by kernel_rfl
  rw [e]
  exact (usc ((k_are_some Z).up (by decide)) (usc (q_MOST_CELLS Z) (usc (b_all Z) (usc ((k_is_cell Z).up (by decide)) (usc ((k_rises Z).up (by decide)) usn)))))
theorem k_is_floor (Z : Fx w K h mg) : Kw P w K mg base 4 (.fn (Str.ofString "is_floor") 1 F_is_floor) := by
  obtain ⟨fd, D⟩ := Z.c.d.def_ 23 (d := d_is_floor) rfl
  exact def_K (k := 3) D sc_is_floor (by decide) ck_is_floor (us_is_floor Z) (He.glo_ok Z.X Z.G (Z.c.d.fact 23 (f := .glo "is_floor") rfl)) (FunD.bindsN D fun _ _ _ _ _ _ us hl => match us, hl with | [_], _ => rfl)
theorem us_need_floor (Z : Fx w K h mg) : ∀ u ∈ usesSs ir_need_floor, Kw P w K mg base 4 u := by
  have e : usesSs ir_need_floor = [.fn (Str.ofString "is_floor") 1 F_is_floor] := by kernel_rfl
  rw [e]
  exact (usc ((k_is_floor Z).up (by decide)) usn)
theorem k_need_floor (Z : Fx w K h mg) : Kw P w K mg base 5 (.fn (Str.ofString "need_floor") 1 F_need_floor) := by
  obtain ⟨fd, D⟩ := Z.c.d.def_ 24 (d := d_need_floor) rfl
  exact def_K (k := 4) D sc_need_floor (by decide) ck_need_floor (us_need_floor Z) (He.glo_ok Z.X Z.G (Z.c.d.fact 24 (f := .glo "need_floor") rfl)) (FunD.bindsN D fun _ _ _ _ _ _ us hl => match us, hl with | [_], _ => rfl)
theorem us_is_cell_of (Z : Fx w K h mg) : ∀ u ∈ usesSs ir_is_cell_of, Kw P w K mg base 3 u := by
  have e : usesSs ir_is_cell_of = [.fn (Str.ofString "is_cell") 1 F_is_cell] := by kernel_rfl
  rw [e]
  exact (usc ((k_is_cell Z).up (by decide)) usn)
theorem k_is_cell_of (Z : Fx w K h mg) : Kw P w K mg base 4 (.fn (Str.ofString "is_cell_of") 2 F_is_cell_of) := by
  obtain ⟨fd, D⟩ := Z.c.d.def_ 25 (d := d_is_cell_of) rfl
  exact def_K (k := 3) D sc_is_cell_of (by decide) ck_is_cell_of (us_is_cell_of Z) (He.glo_ok Z.X Z.G (Z.c.d.fact 25 (f := .glo "is_cell_of") rfl)) (FunD.bindsN D fun _ _ _ _ _ _ us hl => match us, hl with | [_, _], _ => rfl)
theorem us_need_cell (Z : Fx w K h mg) : ∀ u ∈ usesSs ir_need_cell, Kw P w K mg base 4 u := by
  have e : usesSs ir_need_cell = [.fn (Str.ofString "is_cell_of") 2 F_is_cell_of] := by kernel_rfl
  rw [e]
  exact (usc ((k_is_cell_of Z).up (by decide)) usn)
theorem k_need_cell (Z : Fx w K h mg) : Kw P w K mg base 5 (.fn (Str.ofString "need_cell") 2 F_need_cell) := by
  obtain ⟨fd, D⟩ := Z.c.d.def_ 26 (d := d_need_cell) rfl
  exact def_K (k := 4) D sc_need_cell (by decide) ck_need_cell (us_need_cell Z) (He.glo_ok Z.X Z.G (Z.c.d.fact 26 (f := .glo "need_cell") rfl)) (FunD.bindsN D fun _ _ _ _ _ _ us hl => match us, hl with | [_, _], _ => rfl)
theorem us_need_row (Z : Fx w K h mg) : ∀ u ∈ usesSs ir_need_row, Kw P w K mg base 0 u := by
  have e : usesSs ir_need_row = [.blt "isinstance", .blt "str", .blt "all", .con (Str.ofString "LETTERS") c_LETTERS] := by kernel_rfl
  rw [e]
  exact (usc (b_isinstance Z) (usc (b_str Z) (usc (b_all Z) (usc (q_LETTERS Z) usn))))
theorem k_need_row (Z : Fx w K h mg) : Kw P w K mg base 1 (.fn (Str.ofString "need_row") 1 F_need_row) := by
  obtain ⟨fd, D⟩ := Z.c.d.def_ 27 (d := d_need_row) rfl
  exact def_K (k := 0) D sc_need_row (by decide) ck_need_row (us_need_row Z) (He.glo_ok Z.X Z.G (Z.c.d.fact 27 (f := .glo "need_row") rfl)) (FunD.bindsN D fun _ _ _ _ _ _ us hl => match us, hl with | [_], _ => rfl)
theorem us_beside (Z : Fx w K h mg) : ∀ u ∈ usesSs ir_beside, Kw P w K mg base 0 u := by
  have e : usesSs ir_beside = [.dic (Str.ofString "STEPS") t_STEPS] := by kernel_rfl
  rw [e]
  exact (usc (q_STEPS Z) usn)
theorem k_beside (Z : Fx w K h mg) : Kw P w K mg base 1 (.fn (Str.ofString "beside") 2 F_beside) := by
  obtain ⟨fd, D⟩ := Z.c.d.def_ 28 (d := d_beside) rfl
  exact def_K (k := 0) D sc_beside (by decide) ck_beside (us_beside Z) (He.glo_ok Z.X Z.G (Z.c.d.fact 28 (f := .glo "beside") rfl)) (FunD.bindsN D fun _ _ _ _ _ _ us hl => match us, hl with | [_, _], _ => rfl)
theorem us_off_at (Z : Fx w K h mg) : ∀ u ∈ usesSs ir_off_at, Kw P w K mg base 1 u := by
  have e : usesSs ir_off_at = [.blt "enumerate", .fn (Str.ofString "beside") 2 F_beside] := by kernel_rfl
  rw [e]
  exact (usc (b_enumerate Z) (usc ((k_beside Z).up (by decide)) usn))
theorem k_off_at (Z : Fx w K h mg) : Kw P w K mg base 2 (.fn (Str.ofString "off_at") 3 F_off_at) := by
  obtain ⟨fd, D⟩ := Z.c.d.def_ 29 (d := d_off_at) rfl
  exact def_K (k := 1) D sc_off_at (by decide) ck_off_at (us_off_at Z) (He.glo_ok Z.X Z.G (Z.c.d.fact 29 (f := .glo "off_at") rfl)) (FunD.bindsN D fun _ _ _ _ _ _ us hl => match us, hl with | [_, _, _], _ => rfl)
theorem us_need_let (Z : Fx w K h mg) : ∀ u ∈ usesSs ir_need_let, Kw P w K mg base 2 u := by
  have e : usesSs ir_need_let = [.fn (Str.ofString "off_at") 3 F_off_at] := by kernel_rfl
  rw [e]
  exact (usc ((k_off_at Z).up (by decide)) usn)
theorem k_need_let (Z : Fx w K h mg) : Kw P w K mg base 3 (.fn (Str.ofString "need_let") 3 F_need_let) := by
  obtain ⟨fd, D⟩ := Z.c.d.def_ 30 (d := d_need_let) rfl
  exact def_K (k := 2) D sc_need_let (by decide) ck_need_let (us_need_let Z) (He.glo_ok Z.X Z.G (Z.c.d.fact 30 (f := .glo "need_let") rfl)) (FunD.bindsN D fun _ _ _ _ _ _ us hl => match us, hl with | [_, _, _], _ => rfl)
theorem us_stand_by (Z : Fx w K h mg) : ∀ u ∈ usesSs ir_stand_by, Kw P w K mg base 1 u := by
  have e : usesSs ir_stand_by = [.fn (Str.ofString "beside") 2 F_beside, .fn (Str.ofString "rolled") 2 F_rolled] := by kernel_rfl
  rw [e]
  exact (usc ((k_beside Z).up (by decide)) (usc ((k_rolled Z).up (by decide)) usn))
theorem k_stand_by (Z : Fx w K h mg) : Kw P w K mg base 2 (.fn (Str.ofString "stand_by") 2 F_stand_by) := by
  obtain ⟨fd, D⟩ := Z.c.d.def_ 31 (d := d_stand_by) rfl
  exact def_K (k := 1) D sc_stand_by (by decide) ck_stand_by (us_stand_by Z) (He.glo_ok Z.X Z.G (Z.c.d.fact 31 (f := .glo "stand_by") rfl)) (FunD.bindsN D fun _ _ _ _ _ _ us hl => match us, hl with | [_, _], _ => rfl)
theorem us_stand_behind (Z : Fx w K h mg) : ∀ u ∈ usesSs ir_stand_behind, Kw P w K mg base 5 u := by
  have e : usesSs ir_stand_behind = [.fn (Str.ofString "need_floor") 1 F_need_floor, .fn (Str.ofString "need_cell") 2 F_need_cell, .fn (Str.ofString "need_lying") 1 F_need_lying, .fn (Str.ofString "need_row") 1 F_need_row, .fn (Str.ofString "need_let") 3 F_need_let, .fn (Str.ofString "stand_by") 2 F_stand_by] := by kernel_rfl
  rw [e]
  exact (usc ((k_need_floor Z).up (by decide)) (usc ((k_need_cell Z).up (by decide)) (usc ((k_need_lying Z).up (by decide)) (usc ((k_need_row Z).up (by decide)) (usc ((k_need_let Z).up (by decide)) (usc ((k_stand_by Z).up (by decide)) usn))))))
theorem k_stand_behind (Z : Fx w K h mg) : Kw P w K mg base 6 (.fn (Str.ofString "stand_behind") 4 F_stand_behind) := by
  obtain ⟨fd, D⟩ := Z.c.d.def_ 32 (d := d_stand_behind) rfl
  exact def_K (k := 5) D sc_stand_behind (by decide) ck_stand_behind (us_stand_behind Z) (He.glo_ok Z.X Z.G (Z.c.d.fact 32 (f := .glo "stand_behind") rfl)) (FunD.bindsN D fun _ _ _ _ _ _ us hl => match us, hl with | [_, _, _, _], _ => rfl)
theorem us_law_back (Z : Fx w K h mg) : ∀ u ∈ usesSs ir_law_back, Kw P w K mg base 0 u := by
  have e : usesSs ir_law_back = [] := by kernel_rfl
  rw [e]
  exact usn
theorem k_law_back (Z : Fx w K h mg) : Kw P w K mg base 1 (.fn (Str.ofString "_law_back") 1 F_law_back) := by
  obtain ⟨fd, D⟩ := Z.c.d.def_ 33 (d := d_law_back) rfl
  exact def_K (k := 0) D sc_law_back (by decide) ck_law_back (us_law_back Z) (He.glo_ok Z.X Z.G (Z.c.d.fact 33 (f := .glo "_law_back") rfl)) (FunD.bindsN D fun _ _ _ _ _ _ us hl => match us, hl with | [_], _ => rfl)
theorem us_law_walked (Z : Fx w K h mg) : ∀ u ∈ usesSs ir_law_walked, Kw P w K mg base 1 u := by
  have e : usesSs ir_law_walked = [.fn (Str.ofString "_law_six") 1 F_law_six, .fn (Str.ofString "_law_to") 2 F_law_to, .fn (Str.ofString "_law_rolled") 2 F_law_rolled] := by kernel_rfl
  rw [e]
  exact (usc ((k_law_six Z).up (by decide)) (usc ((k_law_to Z).up (by decide)) (usc ((k_law_rolled Z).up (by decide)) usn)))
theorem k_law_walked (Z : Fx w K h mg) : Kw P w K mg base 2 (.fn (Str.ofString "_law_walked") 3 F_law_walked) := by
  obtain ⟨fd, D⟩ := Z.c.d.def_ 34 (d := d_law_walked) rfl
  exact def_K (k := 1) D sc_law_walked (by decide) ck_law_walked (us_law_walked Z) (He.glo_ok Z.X Z.G (Z.c.d.fact 34 (f := .glo "_law_walked") rfl)) (FunD.bindsN D fun _ _ _ _ _ _ us hl => match us, hl with | [_, _, _], _ => rfl)
theorem us_first_off (Z : Fx w K h mg) : ∀ u ∈ usesSs ir_first_off, Kw P w K mg base 5 u := by
  have e : usesSs ir_first_off = [.fn (Str.ofString "need_floor") 1 F_need_floor, .fn (Str.ofString "need_cell") 2 F_need_cell, .fn (Str.ofString "need_row") 1 F_need_row, .fn (Str.ofString "off_at") 3 F_off_at] := by kernel_rfl
  rw [e]
  exact (usc ((k_need_floor Z).up (by decide)) (usc ((k_need_cell Z).up (by decide)) (usc ((k_need_row Z).up (by decide)) (usc ((k_off_at Z).up (by decide)) usn))))
theorem k_first_off (Z : Fx w K h mg) : Kw P w K mg base 6 (.fn (Str.ofString "first_off") 3 F_first_off) := by
  obtain ⟨fd, D⟩ := Z.c.d.def_ 35 (d := d_first_off) rfl
  exact def_K (k := 5) D sc_first_off (by decide) ck_first_off (us_first_off Z) (He.glo_ok Z.X Z.G (Z.c.d.fact 35 (f := .glo "first_off") rfl)) (FunD.bindsN D fun _ _ _ _ _ _ us hl => match us, hl with | [_, _, _], _ => rfl)
theorem us_law (Z : Fx w K h mg) : ∀ u ∈ usesSs ir_law, Kw P w K mg base 6 u := by
  have e : usesSs ir_law = [.fn (Str.ofString "_law_lyings_right") 0 F_law_lyings_right, .blt "range", .blt "max", .blt "min", .blt "len", .fn (Str.ofString "_law_pen") 1 F_law_pen, .fn (Str.ofString "_law_cell_at") 2 F_law_cell_at, .fn (Str.ofString "_law_floor") 2 F_law_floor, .fn (Str.ofString "_law_stand") 2 F_law_stand, .fn (Str.ofString "_law_row") 4 F_law_row, .blt "range", .fn (Str.ofString "_law_draw") 2 F_law_draw, .fn (Str.ofString "_law_draw") 2 F_law_draw, .fn (Str.ofString "_law_draw") 2 F_law_draw, .fn (Str.ofString "_law_back") 1 F_law_back, .fn (Str.ofString "_law_walked") 3 F_law_walked, .blt "repr", .blt "len", .blt "len", .blt "len", .blt "repr", .blt "range", .fn (Str.ofString "first_off") 3 F_first_off, .blt "repr", .blt "repr", .blt "range", .fn (Str.ofString "stand_behind") 4 F_stand_behind, .blt "repr", .blt "repr", .fn (Str.ofString "stand_behind") 4 F_stand_behind, .fn (Str.ofString "_law_back") 1 F_law_back] := by kernel_rfl
  rw [e]
  exact (usc ((k_law_lyings_right Z).up (by decide)) (usc (b_range Z) (usc (b_max Z) (usc (b_min Z) (usc (b_len Z) (usc ((k_law_pen Z).up (by decide)) (usc ((k_law_cell_at Z).up (by decide)) (usc ((k_law_floor Z).up (by decide)) (usc ((k_law_stand Z).up (by decide)) (usc ((k_law_row Z).up (by decide)) (usc (b_range Z) (usc ((k_law_draw Z).up (by decide)) (usc ((k_law_draw Z).up (by decide)) (usc ((k_law_draw Z).up (by decide)) (usc ((k_law_back Z).up (by decide)) (usc ((k_law_walked Z).up (by decide)) (usc (b_repr Z) (usc (b_len Z) (usc (b_len Z) (usc (b_len Z) (usc (b_repr Z) (usc (b_range Z) (usc ((k_first_off Z).up (by decide)) (usc (b_repr Z) (usc (b_repr Z) (usc (b_range Z) (usc ((k_stand_behind Z).up (by decide)) (usc (b_repr Z) (usc (b_repr Z) (usc ((k_stand_behind Z).up (by decide)) (usc ((k_law_back Z).up (by decide)) usn)))))))))))))))))))))))))))))))
theorem k_law (Z : Fx w K h mg) {fa : Addr} (hm : mg (Str.ofString "law") = some (.ref fa)) : ∃ fd : FuncData, (∀ (s : Shared) (v : Value), BindsTo s fd ⟨[v], []⟩ [(Str.ofString "_law_script", v)]) ∧ ∀ base : Heap, FnG P w K mg base 7 fa fd ["_law_script"] (spF K 1 F_law) := by
  obtain ⟨fd, D⟩ := Z.c.d.def_ 36 (d := d_law) rfl
  have e := hm.symm.trans (He.glo_ok Z.X Z.G (Z.c.d.fact 36 (f := .glo "law") rfl))
  cases e
  have b := FunD.bindsA (ps := ["_law_script"]) D fun _ _ _ _ _ _ us hl => match us, hl with | [_], _ => rfl
  exact ⟨fd, fun s v => b s [v] rfl, fun base => def_G (k := 6) D sc_law (by decide) ck_law (us_law Z)⟩
end
end Tm.K02
namespace Tm.K02
open PySem Tm
def Pen (n : Nat) (S : Sto) : Prop := ∃ a b c, S[n]? = some (.lst [.int a, .int b, .int c]) ∧ 0 ≤ a ∧ 0 ≤ b ∧ b < 2147483648
def stir (b c : Int) : Int := (b * 48271 + 1013 * (c + 1) + 11) % 2147483647
theorem draw_a {n : Nat} {S : Sto} {m a b c : Int} (hp : S[n]? = some (.lst [.int a, .int b, .int c])) (h : 0 < a) (h0 : 0 < m) (h1 : m < 1073741824) :
    F_law_draw [.r n, .p (.int m)] S = some (.p (.int (a % m)), S.set n (.lst [.int (a / m), .int b, .int c])) := by
  simp [F_law_draw, ir_law_draw, denSs, denS, den, dens, denT, denAndT, denOrT, denAnd, denOr, denO, denC, denI, denG, denGs, msNil, msSeq, msIf, msRet, msExpr, msAsg, msPar, msFor, gNm, gNl, gCs, gTp, gSb, mVar, mC, m1, m2, mN, maNil, maCons, bV, bNot, bAnd, bOr, mAnd, mOr, mIf, mChain, mMt, recvB, mSl, moNone, moSome, Bin.fn, Cm.fn, Pr.fn, Mt.fn, Mt.ty, gAdd, gSub, gMul, gDiv, gMod, gPow, gNeg, gEq, gNe, gLess, gLt, gLe, gGt, gGe, gIn, gNotIn, gIs, gIsNot, gIx, fSet, gLen, gMax, gMin, gInt, gNot, ok, dataOf, itemsOf, listOf, datas, gTuple, gList, gListM, runF, L2.atI, L2.ixN, hp, h, h0, h1]
theorem draw_b {n : Nat} {S : Sto} {m a b c : Int} (hp : S[n]? = some (.lst [.int a, .int b, .int c])) (h : ¬ 0 < a) (h0 : 0 < m) (h1 : m < 1073741824) :
    F_law_draw [.r n, .p (.int m)] S = some (.p (.int ((stir b c * stir b c + 40692 * stir b c + 7) % 2147483629 * 69621 % 2147483647 / 16 % m)), S.set n (.lst [.int a, .int (stir b c), .int (c + 1)])) := by
  have hn : n < S.length := (List.getElem?_eq_some_iff.mp hp).1
  have hs : ∀ o, (S.set n o)[n]? = some o := fun o => List.getElem?_set_self hn
  have s1 : small 48271 = true := by decide
  have s2 : small 1013 = true := by decide
  have s3 : small 40692 = true := by decide
  have s4 : small 69621 = true := by decide
  have s5 : ∀ x, small (x % 2147483647) = true := fun x => small_mod (by decide) (by decide)
  simp [F_law_draw, ir_law_draw, denSs, denS, den, dens, denT, denAndT, denOrT, denAnd, denOr, denO, denC, denI, denG, denGs, msNil, msSeq, msIf, msRet, msExpr, msAsg, msPar, msFor, gNm, gNl, gCs, gTp, gSb, mVar, mC, m1, m2, mN, maNil, maCons, bV, bNot, bAnd, bOr, mAnd, mOr, mIf, mChain, mMt, recvB, mSl, moNone, moSome, Bin.fn, Cm.fn, Pr.fn, Mt.fn, Mt.ty, gAdd, gSub, gMul, gDiv, gMod, gPow, gNeg, gEq, gNe, gLess, gLt, gLe, gGt, gGe, gIn, gNotIn, gIs, gIsNot, gIx, fSet, gLen, gMax, gMin, gInt, gNot, ok, dataOf, itemsOf, listOf, datas, gTuple, gList, gListM, runF, L2.atI, L2.ixN, hp, hs, h, h0, h1, s1, s2, s3, s4, s5, stir]
theorem draw_ok {n : Nat} {S : Sto} {m : Int} (P : Pen n S) (h0 : 0 < m) (h1 : m < 1073741824) : ∃ r S', F_law_draw [.r n, .p (.int m)] S = some (.p (.int r), S') ∧ 0 ≤ r ∧ r < m ∧ Pen n S' ∧ Fr n S S' ∧ S'.length = S.length := by
  obtain ⟨a, b, c, hp, ha, hb, hb2⟩ := P
  have hn : n < S.length := (List.getElem?_eq_some_iff.mp hp).1
  by_cases h : 0 < a
  · exact ⟨_, _, draw_a hp h h0 h1, Int.emod_nonneg _ (by omega), Int.emod_lt_of_pos _ h0, ⟨a / m, b, c, List.getElem?_set_self hn, Int.ediv_nonneg ha (by omega), hb, hb2⟩, Fr.set, by simp⟩
  · refine ⟨_, _, draw_b hp h h0 h1, Int.emod_nonneg _ (by omega), Int.emod_lt_of_pos _ h0, ⟨_, _, _, List.getElem?_set_self hn, ha, Int.emod_nonneg _ (by decide), ?_⟩, Fr.set, by simp⟩
    exact Int.lt_trans (Int.emod_lt_of_pos _ (by decide)) (by decide)
end Tm.K02
namespace Tm.K02
open PySem Tm
/-! the program's own defs -/
theorem beside_eq (c : Cell) (d : Dir) (S : Sto) : F_beside [.p (eC c), .p (eL d)] S = some (.p (eC (stp d c)), S) := by
  cases d <;> rfl
theorem is_cell_eq {c : Cell} (h : 0 ≤ c.1 ∧ c.1 ≤ 3 ∧ 0 ≤ c.2 ∧ c.2 ≤ 3) (S : Sto) : F_is_cell [.p (eC c)] S = some (.p (.bool true), S) := by
  obtain ⟨a, b⟩ := c
  obtain ⟨h1, h2, h3, h4⟩ := h
  simp only at h1 h2 h3 h4
  obtain rfl | rfl | rfl | rfl : a = 0 ∨ a = 1 ∨ a = 2 ∨ a = 3 := by omega
  all_goals obtain rfl | rfl | rfl | rfl : b = 0 ∨ b = 1 ∨ b = 2 ∨ b = 3 := by omega
  all_goals rfl
theorem are_some_eq (xs : List PyData) (lo hi : Int) (S : Sto) : F_are_some [.p (.tuple xs), .p (.int lo), .p (.int hi)] S = some (.p (.bool (decide (lo ≤ xs.length) && decide ((xs.length : Int) ≤ hi))), S) := by
  by_cases h1 : lo ≤ xs.length
  · by_cases h2 : (xs.length : Int) ≤ hi
    · simp [F_are_some, ir_are_some, denSs, denS, den, dens, denT, denAndT, denOrT, denAnd, denOr, denO, denC, denI, denG, denGs, msNil, msSeq, msIf, msRet, msExpr, msAsg, msPar, msFor, gNm, gNl, gCs, gTp, gSb, mVar, mC, m1, m2, mN, maNil, maCons, bV, bNot, bAnd, bOr, mAnd, mOr, mIf, mChain, mMt, recvB, mSl, moNone, moSome, Bin.fn, Cm.fn, Pr.fn, Mt.fn, Mt.ty, gAdd, gSub, gMul, gDiv, gMod, gPow, gNeg, gEq, gNe, gLess, gLt, gLe, gGt, gGe, gIn, gNotIn, gIs, gIsNot, gIx, fSet, gLen, gMax, gMin, gInt, gNot, ok, dataOf, itemsOf, listOf, datas, gTuple, gList, gListM, runF, L2.atI, L2.ixN, gIsa, isaB, tyName, h1, h2]
    · simp [F_are_some, ir_are_some, denSs, denS, den, dens, denT, denAndT, denOrT, denAnd, denOr, denO, denC, denI, denG, denGs, msNil, msSeq, msIf, msRet, msExpr, msAsg, msPar, msFor, gNm, gNl, gCs, gTp, gSb, mVar, mC, m1, m2, mN, maNil, maCons, bV, bNot, bAnd, bOr, mAnd, mOr, mIf, mChain, mMt, recvB, mSl, moNone, moSome, Bin.fn, Cm.fn, Pr.fn, Mt.fn, Mt.ty, gAdd, gSub, gMul, gDiv, gMod, gPow, gNeg, gEq, gNe, gLess, gLt, gLe, gGt, gGe, gIn, gNotIn, gIs, gIsNot, gIx, fSet, gLen, gMax, gMin, gInt, gNot, ok, dataOf, itemsOf, listOf, datas, gTuple, gList, gListM, runF, L2.atI, L2.ixN, gIsa, isaB, tyName, h1, h2]
  · simp [F_are_some, ir_are_some, denSs, denS, den, dens, denT, denAndT, denOrT, denAnd, denOr, denO, denC, denI, denG, denGs, msNil, msSeq, msIf, msRet, msExpr, msAsg, msPar, msFor, gNm, gNl, gCs, gTp, gSb, mVar, mC, m1, m2, mN, maNil, maCons, bV, bNot, bAnd, bOr, mAnd, mOr, mIf, mChain, mMt, recvB, mSl, moNone, moSome, Bin.fn, Cm.fn, Pr.fn, Mt.fn, Mt.ty, gAdd, gSub, gMul, gDiv, gMod, gPow, gNeg, gEq, gNe, gLess, gLt, gLe, gGt, gGe, gIn, gNotIn, gIs, gIsNot, gIx, fSet, gLen, gMax, gMin, gInt, gNot, ok, dataOf, itemsOf, listOf, datas, gTuple, gList, gListM, runF, L2.atI, L2.ixN, gIsa, isaB, tyName, h1]
theorem cut1 (xs : List PyData) : cutD xs (some 1) none = xs.drop 1 := by
  unfold cutD
  cases xs with
  | nil => rfl
  | cons x xs =>
    have e1 : HT.sIx (x :: xs).length 0 (some 1) = 1 := by simp [HT.sIx]; try omega
    have e2 : HT.sIx (x :: xs).length (x :: xs).length none = (x :: xs).length := by simp [HT.sIx]
    rw [e1, e2]
    simp
theorem paired_rises : ∀ {cs : List Cell}, Rises cs → ∀ i ∈ paired (cs.map eC) ((cs.map eC).drop 1), ∃ a b : Cell, i = .row [.p (eC a), .p (eC b)] ∧ clt a b = true
  | [], _, i, h => by simp [paired] at h
  | [_], _, i, h => by simp [paired] at h
  | a :: b :: r, ⟨h1, h2⟩, i, h => by
    have e : paired ((a :: b :: r).map eC) (((a :: b :: r).map eC).drop 1) = .row [.p (eC a), .p (eC b)] :: paired ((b :: r).map eC) (((b :: r).map eC).drop 1) := by simp [paired]
    rw [e] at h
    rcases List.mem_cons.mp h with z | z
    · exact ⟨a, b, z, h1⟩
    · exact paired_rises h2 i z
theorem rises_eq {cs : List Cell} (h : Rises cs) (S : Sto) : F_rises [.p (.tuple (cs.map eC))] S = some (.p (.bool true), S) := by
  refine l_fn rfl (l_ret (e_prim (e_cons (e_comp (i_zip (xs := cs.map eC) (ys := (cs.map eC).drop 1) ?_) (compL_all (fun _ => .bool true) _ [] fun i hi => ?_)) e_nil) (all_true _ S)))
  · refine e_cons rfl (e_cons ?_ e_nil)
    show gSl (.p (.tuple (cs.map eC))) (some 1) none S = _
    unfold gSl
    show ok (.tuple (cutD (cs.map eC) (some 1) none)) S = _
    rw [cut1]; rfl
  · obtain ⟨a, b, rfl, hc⟩ := paired_rises h i hi
    refine ⟨_, rfl, ?_⟩
    refine e_cmp rfl rfl ?_
    show gLess (.p (eC a)) (.p (eC b)) S = _
    rw [less_cell, hc]
theorem is_floor_eq {cs : List Cell} (F : Floor cs) (S : Sto) : F_is_floor [.p (.tuple (cs.map eC))] S = some (.p (.bool true), S) := by
  have hp := F.pos
  have hm := F.most
  refine l_fn rfl (l_ret (e_andT (e_call (e_cons rfl (e_cons rfl (e_cons rfl e_nil))) ((are_some_eq _ 1 9 S).trans ?_)) (e_andT (e_prim (e_cons (e_comp (i_tup rfl) (compL_all (fun _ => .bool true) _ [] fun i hi => ?_)) e_nil) (all_true _ S)) (e_and1 (e_call (e_cons rfl e_nil) (rises_eq F.rises S))))))
  · rw [List.length_map, decide_eq_true (by omega), decide_eq_true (by omega)]; rfl
  · obtain ⟨x, hx, rfl⟩ := List.mem_map.mp hi
    obtain ⟨c, hc, rfl⟩ := List.mem_map.mp hx
    exact ⟨_, rfl, e_call (e_cons rfl e_nil) (is_cell_eq (F.range c hc) S)⟩
theorem need_floor_eq {cs : List Cell} (F : Floor cs) (S : Sto) : F_need_floor [.p (.tuple (cs.map eC))] S = some (.p .none, S) :=
  l_fn0 rfl (l_ifF (t_not1 (t_call (e_call (e_cons rfl e_nil) (is_floor_eq F S)))) l_nil l_nil)
theorem is_cell_of_eq {cs : List Cell} (F : Floor cs) {c : Cell} (hc : c ∈ cs) (S : Sto) : F_is_cell_of [.p (.tuple (cs.map eC)), .p (eC c)] S = some (.p (.bool true), S) := by
  refine l_fn rfl (l_ret (e_andT (e_call (e_cons rfl e_nil) (is_cell_eq (F.range c hc) S)) (e_and1 (e_cmp rfl rfl ?_))))
  show gIn (.p (eC c)) (.p (.tuple (cs.map eC))) S = _
  unfold gIn
  rw [in_tup, decide_eq_true hc]; rfl
theorem need_cell_eq {cs : List Cell} (F : Floor cs) {c : Cell} (hc : c ∈ cs) (S : Sto) : F_need_cell [.p (.tuple (cs.map eC)), .p (eC c)] S = some (.p .none, S) :=
  l_fn0 rfl (l_ifF (t_not1 (t_call (e_call (e_cons rfl (e_cons rfl e_nil)) (is_cell_of_eq F hc S)))) l_nil l_nil)
theorem is_lying_eq {l : Ly} (h : l ∈ lyings) (S : Sto) : F_is_lying [.p (eY l)] S = some (.p (.bool true), S) := by
  simp only [lyings, List.mem_cons, List.not_mem_nil, or_false] at h
  rcases h with rfl | rfl | rfl | rfl | rfl | rfl | rfl | rfl | rfl | rfl | rfl | rfl | rfl | rfl | rfl | rfl | rfl | rfl | rfl | rfl | rfl | rfl | rfl | rfl
  all_goals rfl
theorem need_lying_eq {l : Ly} (h : l ∈ lyings) (S : Sto) : F_need_lying [.p (eY l)] S = some (.p .none, S) :=
  l_fn0 rfl (l_ifF (t_not1 (t_call (e_call (e_cons rfl e_nil) (is_lying_eq h S)))) l_nil l_nil)
theorem rolled_eq (l : Ly) (d : Dir) (S : Sto) : F_rolled [.p (eY l), .p (eL d)] S = some (.p (eY (roll d l)), S) := by
  cases d <;> rfl
theorem letter_in (d : Dir) (S : Sto) : gIn (.p (eL d)) (.p (.str (Str.ofString "ensw"))) S = some (.p (.bool true), S) := by
  cases d <;> rfl
theorem need_row_eq {w : List Dir} (hw : w.length ≤ 1000) (S : Sto) : F_need_row [.p (.str (rowS w))] S = some (.p .none, S) := by
  refine l_fn0 rfl (l_ifF (t_orF rfl (t_or1 (t_not1 (t_prim (e_prim (e_cons (e_comp (i_row rfl (by omega)) (compL_all (fun _ => .bool true) _ [] fun i hi => ?_)) e_nil) (all_true _ S)))))) l_nil l_nil)
  obtain ⟨x, hx, rfl⟩ := List.mem_map.mp hi
  obtain ⟨d, _, rfl⟩ := List.mem_map.mp hx
  exact ⟨_, rfl, e_cmp rfl rfl (letter_in d S)⟩
theorem off_loop {cs : List Cell} (S : Sto) (R : Option D) : ∀ (w : List Dir) (k : Nat) (c : Cell) (n l : Option D), ∃ ρ,
    forL (denG (.tup 2 (.cons (.nm 3) (.cons (.nm 4) .nil)))) (denSs (.cons (.asg (.nm 1) (.call (Str.ofString "beside") 2 F_beside (.cons (.var 1) (.cons (.var 4) .nil)))) (.cons (.ife (.cmp .notin (.var 1) (.var 0)) (.cons (.ret (.var 3)) .nil) .nil) .nil)))
      (((w.map eL).zipIdx k).map fun (d, i) => .row [.p (.int (i : Nat)), .p d]) [some (.p (.tuple (cs.map eC))), some (.p (eC c)), R, n, l] S
    = match offAt cs c w k with
      | some j => some (.rt (.p (.int (j : Nat))), S)
      | none => some (.nx ρ, S)
  | [], k, c, n, l => ⟨_, rfl⟩
  | d :: w, k, c, n, l => by
    by_cases h : stp d c ∈ cs
    · obtain ⟨ρ, ih⟩ := off_loop (cs := cs) S R w (k + 1) (stp d c) (some (.p (.int (k : Nat)))) (some (.p (eL d)))
      refine ⟨ρ, ?_⟩
      simp only [offAt, if_pos h]
      refine f_cons rfl (l_asg (e_call (e_cons rfl (e_cons rfl e_nil)) (beside_eq c d S)) rfl (l_ifF (t_cmp (e_cmp rfl rfl ?_)) l_nil l_nil)) ih
      show gNotIn (.p (eC (stp d c))) (.p (.tuple (cs.map eC))) S = some (.p (.bool false), S)
      unfold gNotIn
      rw [in_tup, decide_eq_true h]; rfl
    · refine ⟨[], ?_⟩
      simp only [offAt, if_neg h]
      refine f_consR rfl (l_asg (e_call (e_cons rfl (e_cons rfl e_nil)) (beside_eq c d S)) rfl (l_ifTr (t_cmp (e_cmp rfl rfl ?_)) (l_ret rfl)))
      show gNotIn (.p (eC (stp d c))) (.p (.tuple (cs.map eC))) S = some (.p (.bool true), S)
      unfold gNotIn
      rw [in_tup, decide_eq_false h]; rfl
theorem off_at_eq (cs : List Cell) (c : Cell) {w : List Dir} (hw : w.length ≤ 1000) (S : Sto) : F_off_at [.p (.tuple (cs.map eC)), .p (eC c), .p (.str (rowS w))] S = some (.p (offD (offAt cs c w 0)), S) := by
  obtain ⟨ρ, h⟩ := off_loop (cs := cs) S (some (.p (.str (rowS w)))) w 0 c none none
  cases ho : offAt cs c w 0 with
  | none =>
    rw [ho] at h
    exact l_fn rfl (l_loop (i_enum rfl (by omega)) h (l_ret rfl))
  | some j =>
    rw [ho] at h
    exact l_fn rfl (l_loopR (i_enum rfl (by omega)) h)
theorem first_off_eq {cs : List Cell} (F : Floor cs) {c : Cell} (hc : c ∈ cs) {w : List Dir} (hw : w.length ≤ 1000) (S : Sto) : F_first_off [.p (.tuple (cs.map eC)), .p (eC c), .p (.str (rowS w))] S = some (.p (offD (offAt cs c w 0)), S) :=
  l_fn rfl (l_expr (e_call (e_cons rfl e_nil) (need_floor_eq F S)) (l_expr (e_call (e_cons rfl (e_cons rfl e_nil)) (need_cell_eq F hc S)) (l_expr (e_call (e_cons rfl e_nil) (need_row_eq hw S)) (l_ret (e_call (e_cons rfl (e_cons rfl (e_cons rfl e_nil))) (off_at_eq cs c hw S))))))
theorem need_let_eq {cs : List Cell} {c : Cell} {w : List Dir} (hw : w.length ≤ 1000) (h : offAt cs c w 0 = none) (S : Sto) : F_need_let [.p (.tuple (cs.map eC)), .p (eC c), .p (.str (rowS w))] S = some (.p .none, S) := by
  have h2 := off_at_eq cs c hw S
  rw [h] at h2
  exact l_fn0 rfl (l_ifF (t_cmp (e_cmp (e_call (e_cons rfl (e_cons rfl (e_cons rfl e_nil))) h2) rfl rfl)) l_nil l_nil)
def eSt (c : Cell) (l : Ly) : PyData := .tuple [eC c, eY l]
theorem stand_loop (S : Sto) (A B : Option D) : ∀ (w : List Dir) (c : Cell) (l : Ly) (n : Option D), ∃ m,
    forL (denG (.nm 4)) (denSs (.cons (.par (.cons (.nm 2) (.cons (.nm 3) .nil)) (.cons (.call (Str.ofString "beside") 2 F_beside (.cons (.var 2) (.cons (.var 4) .nil))) (.cons (.call (Str.ofString "rolled") 2 F_rolled (.cons (.var 3) (.cons (.var 4) .nil))) .nil))) .nil))
      (rowOf (w.map eL)) [A, B, some (.p (eC c)), some (.p (eY l)), n] S = some (.nx [A, B, some (.p (eC (goC c w))), some (.p (eY (goY l w))), m], S)
  | [], c, l, n => ⟨n, rfl⟩
  | d :: w, c, l, n => by
    obtain ⟨m, ih⟩ := stand_loop S A B w (stp d c) (roll d l) (some (.p (eL d)))
    exact ⟨m, f_cons rfl (l_par (e_cons (e_call (e_cons rfl (e_cons rfl e_nil)) (beside_eq c d S)) (e_cons (e_call (e_cons rfl (e_cons rfl e_nil)) (rolled_eq l d S)) e_nil)) rfl l_nil) ih⟩
theorem stand_by_eq (c : Cell) (l : Ly) {w : List Dir} (hw : w.length ≤ 1000) (S : Sto) : F_stand_by [.p (eSt c l), .p (.str (rowS w))] S = some (.p (eSt (goC c w) (goY l w)), S) := by
  obtain ⟨m, h⟩ := stand_loop S (some (.p (eSt c l))) (some (.p (.str (rowS w)))) w c l none
  exact l_fn rfl (l_asg rfl rfl (l_loop (i_row rfl (by omega)) h (l_ret rfl)))
theorem stand_behind_eq {cs : List Cell} (F : Floor cs) {c : Cell} (hc : c ∈ cs) {l : Ly} (hl : l ∈ lyings) {w : List Dir} (hw : w.length ≤ 1000) (h : offAt cs c w 0 = none) (S : Sto) :
    F_stand_behind [.p (.tuple (cs.map eC)), .p (eC c), .p (eY l), .p (.str (rowS w))] S = some (.p (eSt (goC c w) (goY l w)), S) :=
  l_fn rfl (l_expr (e_call (e_cons rfl e_nil) (need_floor_eq F S)) (l_expr (e_call (e_cons rfl (e_cons rfl e_nil)) (need_cell_eq F hc S)) (l_expr (e_call (e_cons rfl e_nil) (need_lying_eq hl S)) (l_expr (e_call (e_cons rfl e_nil) (need_row_eq hw S))
    (l_expr (e_call (e_cons rfl (e_cons rfl (e_cons rfl e_nil))) (need_let_eq hw h S)) (l_ret (e_call (e_cons (e_tup (e_cons rfl (e_cons rfl e_nil)) rfl) (e_cons rfl e_nil)) (stand_by_eq c l hw S))))))))
end Tm.K02
namespace Tm.K02
open PySem Tm
theorem e_var {ρ : Ev} {i : Nat} {d : D} {S : Sto} (h : ρ[i]? = some (some d)) : den (.var i) ρ S = some (d, S) := by
  simp only [den, mVar, h]
theorem draw_e {ρ : Ev} {i n : Nat} {S : Sto} {m : Int} (hρ : ρ[i]? = some (some (.r n))) (P : Pen n S) (h0 : 0 < m) (h1 : m < 1073741824) :
    ∃ r S', den (.call (Str.ofString "_law_draw") 2 F_law_draw (.cons (.var i) (.cons (.int m) .nil))) ρ S = some (.p (.int r), S') ∧ 0 ≤ r ∧ r < m ∧ Pen n S' ∧ Fr n S S' := by
  obtain ⟨r, S', e, a, b, c, d, _⟩ := draw_ok P h0 h1
  exact ⟨r, S', e_call (e_cons (e_var hρ) (e_cons rfl e_nil)) e, a, b, c, d⟩
def ltrs : List Dir := [.e, .n, .s, .w]
theorem letter_at {r : Int} (h0 : 0 ≤ r) (h1 : r < 4) (S : Sto) : ∃ d : Dir, gIx (.p (.str (Str.ofString "ensw"))) (.p (.int r)) S = some (.p (eL d), S) := by
  obtain rfl | rfl | rfl | rfl : r = 0 ∨ r = 1 ∨ r = 2 ∨ r = 3 := by omega
  · exact ⟨.e, rfl⟩
  · exact ⟨.n, rfl⟩
  · exact ⟨.s, rfl⟩
  · exact ⟨.w, rfl⟩
theorem drawL_e {ρ : Ev} {i n : Nat} {S : Sto} (hρ : ρ[i]? = some (some (.r n))) (P : Pen n S) :
    ∃ (d : Dir) (S' : Sto), den (.ix (.str (Str.ofString "ensw")) (.call (Str.ofString "_law_draw") 2 F_law_draw (.cons (.var i) (.cons (.int 4) .nil)))) ρ S = some (.p (eL d), S') ∧ Pen n S' ∧ Fr n S S' := by
  obtain ⟨r, S', e, a, b, c, f⟩ := draw_e (m := 4) hρ P (by decide) (by decide)
  obtain ⟨d, hd⟩ := letter_at a b S'
  exact ⟨d, S', e_ix rfl e hd, c, f⟩
theorem drawC_e {ρ : Ev} {i n : Nat} {S : Sto} (hρ : ρ[i]? = some (some (.r n))) (P : Pen n S) :
    ∃ (c : Cell) (S' : Sto), den (.tup (.cons (.call (Str.ofString "_law_draw") 2 F_law_draw (.cons (.var i) (.cons (.int 4) .nil))) (.cons (.call (Str.ofString "_law_draw") 2 F_law_draw (.cons (.var i) (.cons (.int 4) .nil))) .nil))) ρ S = some (.p (eC c), S') ∧ (0 ≤ c.1 ∧ c.1 ≤ 3 ∧ 0 ≤ c.2 ∧ c.2 ≤ 3) ∧ Pen n S' ∧ Fr n S S' := by
  obtain ⟨r, S1, e1, a1, b1, c1, f1⟩ := draw_e (m := 4) hρ P (by decide) (by decide)
  obtain ⟨q, S2, e2, a2, b2, c2, f2⟩ := draw_e (m := 4) hρ c1 (by decide) (by decide)
  exact ⟨(r, q), S2, e_tup (e_cons e1 (e_cons e2 e_nil)) rfl, ⟨a1, by omega, a2, by omega⟩, c2, f1.trans f2⟩
theorem to_eq (c : Cell) (d : Dir) (S : Sto) : F_law_to [.p (eC c), .p (eL d)] S = some (.p (eC (stp d c)), S) := by
  obtain ⟨a, b⟩ := c
  cases d
  · refine (rfl : _ = some (D.p (eC (a + 1, b + 0 - 0)), S)).trans ?_
    simp [stp, dx, dy]
  · refine (rfl : _ = some (D.p (eC (a + 0, b + 1 - 0)), S)).trans ?_
    simp [stp, dx, dy]
  · refine (rfl : _ = some (D.p (eC (a + 0, b + 0 - 1)), S)).trans ?_
    simp [stp, dx, dy]; rfl
  · refine (rfl : _ = some (D.p (eC (a + -1, b + 0 - 0)), S)).trans ?_
    simp [stp, dx, dy]
theorem pick_ok {n : Nat} {S : Sto} {d : D} {xs : List PyData} (P : Pen n S) (hd : ∀ S', Fr n S S' → dataOf d S' = some (.list xs)) (h0 : xs ≠ []) (h1 : xs.length < 1073741824) :
    ∃ (x : PyData) (S' : Sto), x ∈ xs ∧ F_law_pick [.r n, d] S = some (.p x, S') ∧ Pen n S' ∧ Fr n S S' := by
  have hl : 0 < xs.length := List.length_pos_iff.mpr h0
  obtain ⟨r, S', e, a, b, c, f, _⟩ := draw_ok (m := (xs.length : Int)) P (by omega) (by omega)
  have hr : r.toNat < xs.length := by omega
  refine ⟨xs[r.toNat], S', List.getElem_mem hr, l_fn rfl (l_ret (e_ix (e_var rfl) (e_call (e_cons (e_var rfl) (e_cons (e_prim (e_cons (e_var rfl) e_nil) ?_) e_nil)) e) ?_)), c, f⟩
  · show (match dataOf d S with
    | some (.list xs) => ok (.int xs.length) S
    | some (.tuple xs) => ok (.int xs.length) S
    | some (.str x) => if x.length ≤ Lim then ok (.int x.length) S else none
    | _ => none) = _
    rw [hd S (Fr.refl _ _)]; rfl
  · unfold gIx
    rw [hd S' f]
    have ha : L2.atI xs r = some xs[r.toNat] := by
      unfold L2.atI L2.ixN
      rw [if_pos a, if_pos b]
      show xs[r.toNat]? = _
      exact List.getElem?_eq_getElem hr
    show (match L2.atI xs r with | some d => ok d S' | none => none) = _
    rw [ha]; rfl
theorem Pen.setNew {n k : Nat} {S : Sto} {o : Ob} (P : Pen n S) (h : k ≠ n) : Pen n (S.set k o) := by
  obtain ⟨a, b, c, h1, h2⟩ := P
  exact ⟨a, b, c, by rw [List.getElem?_set_ne h]; exact h1, h2⟩
theorem Pen.push {n : Nat} {S : Sto} {o : Ob} (P : Pen n S) : Pen n (S ++ [o]) := by
  obtain ⟨a, b, c, h1, h2⟩ := P
  exact ⟨a, b, c, by rw [List.getElem?_append_left (List.getElem?_eq_some_iff.mp h1).1]; exact h1, h2⟩
theorem Pen.lt {n : Nat} {S : Sto} (P : Pen n S) : n < S.length := by
  obtain ⟨a, b, c, h1, h2⟩ := P
  exact (List.getElem?_eq_some_iff.mp h1).1
def InR (c : Cell) : Prop := 0 ≤ c.1 ∧ c.1 ≤ 3 ∧ 0 ≤ c.2 ∧ c.2 ≤ 3
abbrev bFloor : Ss := (.cons (.asg (.nm 4) (.call (Str.ofString "_law_to") 2 F_law_to (.cons (.call (Str.ofString "_law_pick") 2 F_law_pick (.cons (.var 0) (.cons (.var 2) .nil))) (.cons (.ix (.str (Str.ofString "ensw")) (.call (Str.ofString "_law_draw") 2 F_law_draw (.cons (.var 0) (.cons (.int 4) .nil)))) .nil))))
    (.cons (.ife (.cmp .eq (.call (Str.ofString "_law_draw") 2 F_law_draw (.cons (.var 0) (.cons (.int 8) .nil))) (.int 0))
    (.cons (.asg (.nm 4) (.tup (.cons (.call (Str.ofString "_law_draw") 2 F_law_draw (.cons (.var 0) (.cons (.int 4) .nil))) (.cons (.call (Str.ofString "_law_draw") 2 F_law_draw (.cons (.var 0) (.cons (.int 4) .nil))) .nil))))
    .nil)
    .nil)
    (.cons (.ife (.and (.cons (.cmp .le (.int 0) (.prim .min1 (.cons (.var 4) .nil))) (.cons (.cmp .lt (.prim .max1 (.cons (.var 4) .nil)) (.int 4)) (.cons (.cmp .notin (.var 4) (.var 2)) .nil))))
    (.cons (.expr (.meth .append (.var 2) (.cons (.var 4) .nil)))
    .nil)
    .nil)
    .nil)))
/-- the cell that a lap of the floor comes to -/
theorem floor_ok {n : Nat} {S0 : Sto} (P0 : Pen n S0) : ∃ cs S', F_law_floor [.r n, .p (.int 9)] S0 = some (.p (.tuple (cs.map eC)), S') ∧ Floor cs ∧ Pen n S' ∧ Fr n S0 S' := by
  obtain ⟨c0, S1, e1, r1, P1, f1⟩ := drawC_e (ρ := [some (.r n), some (.p (.int 9)), none, none, none]) (i := 0) rfl P0
  have hn1 := P1.lt
  have hk : S0.length ≤ S1.length := f1.len
  have P2 : Pen n (S1 ++ [.lst [eC c0]]) := P1.push
  have f2 : Fr n S0 (S1 ++ [.lst [eC c0]]) := f1.trans Fr.push
  obtain ⟨r, S3, e3, a3, b3, P3, f3, _⟩ := draw_ok (m := 9) P2 (by decide) (by decide)
  have k3 : S3[S1.length]? = some (.lst [eC c0]) := by rw [f3.at_ S1.length (by simp) (by omega)]; simp
  let I : Nat → Ev → Sto → Prop := fun j ρ S => ∃ (cs : List Cell) (x y : Option D), ρ = [some (.r n), some (.p (.int 9)), some (.r S1.length), x, y] ∧ Pen n S ∧ S[S1.length]? = some (.lst (cs.map eC)) ∧ Fr n S0 S ∧ cs.Nodup ∧ (∀ c ∈ cs, 0 ≤ c.1 ∧ c.1 ≤ 3 ∧ 0 ≤ c.2 ∧ c.2 ≤ 3) ∧ 0 < cs.length ∧ cs.length ≤ j + 1
  have hi : I 0 [some (.r n), some (.p (.int 9)), some (.r S1.length), none, none] S3 := ⟨[c0], none, none, rfl, P3, k3, f2.trans f3, by simp, fun c hc => by simp at hc; rw [hc]; exact r1, by simp, by simp⟩
  obtain ⟨ρ', S', e4, cs, x, y, rfl, P4, k4, f4, nd, rg, hp, hm⟩ := forL_inv (g := denG (.nm 3)) (b := denSs bFloor) I (rowOf (rangeD 0 r.toNat)) 0 _ S3 hi fun j it ρ S hj ⟨cs, x, y, hρ, P, hk', fr, nd, rg, hp, hm⟩ => by
    subst hρ
    have hj8 : j < 9 := by
      have := (List.getElem?_eq_some_iff.mp hj).1
      rw [rowOf_len] at this
      unfold rangeD at this
      simp at this
      omega
    obtain ⟨dv, _, rfl⟩ := rowOf_get hj
    have hks : S1.length < S.length := (List.getElem?_eq_some_iff.mp hk').1
    have hkn : S1.length ≠ n := by omega
    -- the pick, the letter
    obtain ⟨xp, S5, hx, e5, P5, f5⟩ := pick_ok (d := .r S1.length) (xs := cs.map eC) P (fun S' f' => by
      show (match S'[S1.length]? with | some (.lst xs) => some (PyData.list xs) | _ => none) = _
      rw [f'.at_ _ hks hkn, hk']) (by intro z; rw [List.map_eq_nil_iff] at z; rw [z] at hp; simp at hp) (by rw [List.length_map]; omega)
    obtain ⟨c, hc, rfl⟩ := List.mem_map.mp hx
    obtain ⟨d, S6, e6, P6, f6⟩ := drawL_e (ρ := [some (.r n), some (.p (.int 9)), some (.r S1.length), some (.p dv), y]) (i := 0) rfl P5
    obtain ⟨q, S7, e7, a7, b7, P7, f7⟩ := draw_e (ρ := [some (.r n), some (.p (.int 9)), some (.r S1.length), some (.p dv), some (.p (eC (stp d c)))]) (i := 0) (m := 8) rfl P6 (by decide) (by decide)
    -- the cell behind both
    obtain ⟨c2, S8, e8, P8, f8⟩ : ∃ (c2 : Cell) (S8 : Sto), denS (.ife (.cmp .eq (.call (Str.ofString "_law_draw") 2 F_law_draw (.cons (.var 0) (.cons (.int 8) .nil))) (.int 0)) (.cons (.asg (.nm 4) (.tup (.cons (.call (Str.ofString "_law_draw") 2 F_law_draw (.cons (.var 0) (.cons (.int 4) .nil))) (.cons (.call (Str.ofString "_law_draw") 2 F_law_draw (.cons (.var 0) (.cons (.int 4) .nil))) .nil)))) .nil) .nil)
        [some (.r n), some (.p (.int 9)), some (.r S1.length), some (.p dv), some (.p (eC (stp d c)))] S6 = some (.nx [some (.r n), some (.p (.int 9)), some (.r S1.length), some (.p dv), some (.p (eC c2))], S8) ∧ Pen n S8 ∧ Fr n S6 S8 := by
      by_cases hq : q = 0
      · subst hq
        obtain ⟨c2, S8, e8, _, P8, f8⟩ := drawC_e (ρ := [some (.r n), some (.p (.int 9)), some (.r S1.length), some (.p dv), some (.p (eC (stp d c)))]) (i := 0) rfl P7
        exact ⟨c2, S8, s_ifT (t_cmp (e_cmp e7 rfl rfl)) (l_asg e8 rfl l_nil), P8, f7.trans f8⟩
      · refine ⟨stp d c, S7, s_ifF (t_cmp (e_cmp e7 rfl ?_)) l_nil, P7, f7⟩
        show gEq (.p (.int q)) (.p (.int 0)) S7 = _
        rw [eq_int, decide_eq_false hq]
    have k8 : S8[S1.length]? = some (.lst (cs.map eC)) := by
      have f := (f5.trans f6).trans f8
      rw [f.at_ _ hks hkn]; exact hk'
    have fr8 : Fr n S0 S8 := fr.trans ((f5.trans f6).trans f8)
    have A : denT (.cmp .le (.int 0) (.prim .min1 (.cons (.var 4) .nil))) [some (.r n), some (.p (.int 9)), some (.r S1.length), some (.p dv), some (.p (eC c2))] S8 = some (decide (0 ≤ min c2.1 c2.2), S8) := t_cmp (e_cmp rfl (e_prim (e_cons rfl e_nil) rfl) rfl)
    have B : denT (.cmp .lt (.prim .max1 (.cons (.var 4) .nil)) (.int 4)) [some (.r n), some (.p (.int 9)), some (.r S1.length), some (.p dv), some (.p (eC c2))] S8 = some (decide (max c2.1 c2.2 < 4), S8) := t_cmp (e_cmp (e_prim (e_cons rfl e_nil) rfl) rfl rfl)
    have C : denT (.cmp .notin (.var 4) (.var 2)) [some (.r n), some (.p (.int 9)), some (.r S1.length), some (.p dv), some (.p (eC c2))] S8 = some (!decide (c2 ∈ cs), S8) := by
      refine t_cmp (e_cmp rfl rfl ?_)
      show gNotIn (.p (eC c2)) (.r S1.length) S8 = _
      unfold gNotIn
      rw [in_lst cs c2 (data_r k8)]; rfl
    have same : denSs (.cons (.ife (.and (.cons (.cmp .le (.int 0) (.prim .min1 (.cons (.var 4) .nil))) (.cons (.cmp .lt (.prim .max1 (.cons (.var 4) .nil)) (.int 4)) (.cons (.cmp .notin (.var 4) (.var 2)) .nil)))) (.cons (.expr (.meth .append (.var 2) (.cons (.var 4) .nil))) .nil) .nil) .nil)
        [some (.r n), some (.p (.int 9)), some (.r S1.length), some (.p dv), some (.p (eC c2))] S8 = some (.nx [some (.r n), some (.p (.int 9)), some (.r S1.length), some (.p dv), some (.p (eC c2))], S8) →
        ∃ ρ1 S1' ρ2 S2, denG (.nm 3) (.one (.p dv)) [some (.r n), some (.p (.int 9)), some (.r S1.length), x, y] S = some (ρ1, S1') ∧ denSs bFloor ρ1 S1' = some (.nx ρ2, S2) ∧ I (0 + j + 1) ρ2 S2 := fun z =>
      ⟨_, _, _, _, rfl, l_asg (e_call (e_cons (e_call (e_cons rfl (e_cons rfl e_nil)) e5) (e_cons e6 e_nil)) (to_eq c d S6)) rfl (l_seq e8 z), cs, _, _, rfl, P8, k8, fr8, nd, rg, hp, by omega⟩
    by_cases h1 : 0 ≤ min c2.1 c2.2
    · rw [decide_eq_true h1] at A
      by_cases h2 : max c2.1 c2.2 < 4
      · rw [decide_eq_true h2] at B
        by_cases h3 : c2 ∈ cs
        · rw [decide_eq_true h3] at C
          exact same (l_ifF (t_andT A (t_andT B (t_and1 C))) l_nil l_nil)
        · rw [decide_eq_false h3] at C
          refine ⟨_, _, _, _, rfl, l_asg (e_call (e_cons (e_call (e_cons rfl (e_cons rfl e_nil)) e5) (e_cons e6 e_nil)) (to_eq c d S6)) rfl (l_seq e8 (l_ifT (t_andT A (t_andT B (t_and1 C))) (l_expr (e_append rfl k8 rfl k8 (by rw [List.length_map]; omega)) l_nil) l_nil)), cs ++ [c2], _, _, rfl, P8.setNew hkn, ?_, fr8.setNew hk, ?_, ?_, by simp, by simp; omega⟩
          · rw [List.getElem?_set_self (List.getElem?_eq_some_iff.mp k8).1]; simp
          · rw [List.nodup_append]
            exact ⟨nd, by simp, fun a ha b hb e => by simp at hb; subst hb; subst e; exact h3 ha⟩
          · intro c hc
            rcases List.mem_append.mp hc with z | z
            · exact rg c z
            · simp at z
              subst z
              have := Int.min_le_left c.1 c.2
              have := Int.min_le_right c.1 c.2
              have := Int.le_max_left c.1 c.2
              have := Int.le_max_right c.1 c.2
              omega
      · rw [decide_eq_false h2] at B
        exact same (l_ifF (t_andT A (t_andF B)) l_nil l_nil)
    · rw [decide_eq_false h1] at A
      exact same (l_ifF (t_andF A) l_nil l_nil)
  have hlen : (rowOf (rangeD 0 r.toNat)).length = r.toNat := by rw [rowOf_len]; unfold rangeD; simp
  refine ⟨sortC cs, S', ?_, floor_sort hp (by rw [hlen] at hm; omega) nd rg, P4, f4⟩
  have hs : gSorted [.r S1.length] S' = some (.p (.list ((sortC cs).map eC)), S') := by
    show (match listOf (.r S1.length) S' with
      | some xs => if sortable xs then ok (.list (sortD xs)) S' else none
      | none => none) = _
    rw [list_r k4]
    show (if sortable (cs.map eC) = true then ok (.list (sortD (cs.map eC))) S' else none) = _
    rw [sortable_cells, sort_cells]; rfl
  have ht : gTupleOf [.p (.list ((sortC cs).map eC))] S' = some (.p (.tuple ((sortC cs).map eC)), S') := rfl
  exact l_fn rfl (l_asg (e_lstM (e_cons e1 e_nil) rfl) rfl (l_loop (i_range (e_cons (e_call (e_cons rfl (e_cons rfl e_nil)) e3) e_nil) a3 (by omega)) e4 (l_ret (e_prim (e_cons (e_prim (e_cons rfl e_nil) hs) e_nil) ht))))
end Tm.K02
namespace Tm.K02
open PySem Tm
/-! six faces -/
def six (l : Ly) : List PyData := [.int l.1, .int (5 - l.1), .int l.2.1, .int (5 - l.2.1), .int l.2.2, .int (5 - l.2.2)]
theorem six_eq (l : Ly) (S : Sto) : F_law_six [.p (eY l)] S = some (.p (.tuple (six l)), S) := rfl
theorem rolled6_eq (l : Ly) (d : Dir) (S : Sto) : F_law_rolled [.p (.tuple (six l)), .p (eL d)] S = some (.p (.tuple (six (roll d l))), S) := by
  obtain ⟨a, b, c⟩ := l
  have h : ∀ x : Int, 5 - (5 - x) = x := fun x => by omega
  cases d
  · refine (rfl : _ = some (D.p (.tuple [.int c, .int (5 - c), .int b, .int (5 - b), .int (5 - a), .int a]), S)).trans ?_
    simp [six, roll, h]
  · refine (rfl : _ = some (D.p (.tuple [.int b, .int (5 - b), .int (5 - a), .int a, .int c, .int (5 - c)]), S)).trans ?_
    simp [six, roll, h]
  · refine (rfl : _ = some (D.p (.tuple [.int (5 - b), .int b, .int a, .int (5 - a), .int c, .int (5 - c)]), S)).trans ?_
    simp [six, roll, h]
  · refine (rfl : _ = some (D.p (.tuple [.int (5 - c), .int c, .int b, .int (5 - b), .int a, .int (5 - a)]), S)).trans ?_
    simp [six, roll, h]
theorem lying_ok {n : Nat} {S0 : Sto} (P0 : Pen n S0) : ∃ l S', l ∈ lyings ∧ F_law_lying [.r n] S0 = some (.p (eY l), S') ∧ Pen n S' ∧ Fr n S0 S' := by
  obtain ⟨r, S1, e1, a1, b1, P1, f1⟩ := draw_e (ρ := [some (.r n), some (.p (.tuple (six (0, 1, 2)))), none]) (i := 0) (m := 2) rfl P0 (by decide) (by decide)
  let I : Nat → Ev → Sto → Prop := fun j ρ S => ∃ (l : Ly) (x : Option D), l ∈ lyings ∧ ρ = [some (.r n), some (.p (.tuple (six l))), x] ∧ Pen n S ∧ Fr n S0 S
  obtain ⟨ρ', S', e2, l, x, hl, rfl, P2, f2⟩ := forL_inv (g := denG (.nm 2)) (b := denSs (.cons (.asg (.nm 1) (.call (Str.ofString "_law_rolled") 2 F_law_rolled (.cons (.var 1) (.cons (.ix (.str (Str.ofString "ensw")) (.call (Str.ofString "_law_draw") 2 F_law_draw (.cons (.var 0) (.cons (.int 4) .nil)))) .nil)))) .nil)) I
    (rowOf (rangeD 0 (4 + r).toNat)) 0 [some (.r n), some (.p (.tuple (six (0, 1, 2)))), none] S1 ⟨(0, 1, 2), none, by decide, rfl, P1, f1⟩ fun j it ρ S hj ⟨l, x, hl, hρ, P, f⟩ => by
    subst hρ
    obtain ⟨dv, _, rfl⟩ := rowOf_get hj
    obtain ⟨d, S3, e3, P3, f3⟩ := drawL_e (ρ := [some (.r n), some (.p (.tuple (six l))), some (.p dv)]) (i := 0) rfl P
    exact ⟨_, _, _, _, rfl, l_asg (e_call (e_cons rfl (e_cons e3 e_nil)) (rolled6_eq l d S3)) rfl l_nil, roll d l, _, roll_mem l hl d, rfl, P3, f.trans f3⟩
  exact ⟨l, S', hl, l_fn rfl (l_asg (e_call (e_cons (e_tup (e_cons rfl (e_cons rfl (e_cons rfl e_nil))) rfl) e_nil) (six_eq (0, 1, 2) S0)) rfl (l_loop (i_range (e_cons (e_bin rfl e1 rfl) e_nil) (by omega) (by omega)) e2 (l_ret (e_tup (e_cons rfl (e_cons rfl (e_cons rfl e_nil))) rfl)))), P2, f2⟩
theorem stand_ok {n : Nat} {S0 : Sto} (P0 : Pen n S0) {cs : List Cell} (F : Floor cs) : ∃ c l S', c ∈ cs ∧ l ∈ lyings ∧ F_law_stand [.r n, .p (.tuple (cs.map eC))] S0 = some (.p (eSt c l), S') ∧ Pen n S' ∧ Fr n S0 S' := by
  have hp := F.pos
  have hm := F.most
  obtain ⟨x, S1, hx, e1, P1, f1⟩ := pick_ok (d := .p (.list (cs.map eC))) (xs := cs.map eC) P0 (fun _ _ => rfl) (by intro z; rw [List.map_eq_nil_iff] at z; rw [z] at hp; simp at hp) (by rw [List.length_map]; omega)
  obtain ⟨c, hc, rfl⟩ := List.mem_map.mp hx
  obtain ⟨l, S2, hl, e2, P2, f2⟩ := lying_ok P1
  exact ⟨c, l, S2, hc, hl, l_fn rfl (l_ret (e_tup (e_cons (e_call (e_cons rfl (e_cons (e_prim (e_cons rfl e_nil) rfl) e_nil)) e1) (e_cons (e_call (e_cons rfl e_nil) e2) e_nil)) rfl)), P2, f1.trans f2⟩
theorem pen_ok (x : Int) (S : Sto) : ∃ S', F_law_pen [.p (.int x)] S = some (.r S.length, S') ∧ Pen S.length S' ∧ (∀ j, j < S.length → S'[j]? = S[j]?) ∧ S'.length = S.length + 1 := by
  refine ⟨S ++ [.lst [.int (if x - (10 : Int) ^ 18 > 0 then x - (10 : Int) ^ 18 else 0), .int (x % 2147483629 + 1), .int 0]], rfl, ⟨_, _, _, by simp; exact ⟨rfl, rfl, rfl⟩, ?_, ?_, ?_⟩, fun j h => List.getElem?_append_left h, by simp⟩
  · split
    · omega
    · omega
  · have := Int.emod_nonneg x (show (2147483629 : Int) ≠ 0 by decide); omega
  · have := Int.emod_lt_of_pos x (show (0 : Int) < 2147483629 by decide); omega
theorem cell_at_ok (ns : List Int) (k : Nat) (S : Sto) : ∃ x, F_law_cell_at [.p (.list (ns.map .int)), .p (.int (k : Nat))] S = some (.p (.int x), S) := by
  by_cases h : (k : Int) < ns.length
  · have hk : k < ns.length := by omega
    refine ⟨ns[k], l_fn rfl (l_ifTr (S1 := S) (t_cmp (e_cmp rfl (e_prim (e_cons rfl e_nil) rfl) ?_)) (l_ret (e_ix rfl rfl ?_)))⟩
    · show gLess (.p (.int (k : Nat))) (.p (.int ((ns.map PyData.int).length : Nat))) S = _
      rw [less_int, List.length_map, decide_eq_true h]
    · show (match L2.atI (ns.map PyData.int) (k : Nat) with | some d => ok d S | none => none) = _
      have : L2.atI (ns.map PyData.int) (k : Nat) = some (.int ns[k]) := by
        unfold L2.atI L2.ixN
        rw [if_pos (by omega), if_pos (by rw [List.length_map]; exact h)]
        simp [hk]
      rw [this]; rfl
  · refine ⟨0, l_fn rfl (l_ifF (S1 := S) (t_cmp (e_cmp rfl (e_prim (e_cons rfl e_nil) rfl) ?_)) l_nil (l_ret rfl))⟩
    show gLess (.p (.int (k : Nat))) (.p (.int ((ns.map PyData.int).length : Nat))) S = _
    rw [less_int, List.length_map, decide_eq_false h]
end Tm.K02
namespace Tm.K02
open PySem Tm
def numL : Dir → Nat
  | .e => 0 | .n => 1 | .s => 2 | .w => 3
def letS (d : Dir) : Str := ⟨#[d.chr]⟩
theorem join_go : ∀ w : List Dir, (Str.join (Str.ofString "") (w.map letS)).cps.toList = w.map Dir.chr
  | [] => rfl
  | [d] => rfl
  | d :: d2 :: w => by
    have ih := join_go (d2 :: w)
    show ((letS d ++ Str.ofString "") ++ Str.join (Str.ofString "") ((d2 :: w).map letS)).cps.toList = _
    have e : ∀ a b : Str, (a ++ b).cps.toList = a.cps.toList ++ b.cps.toList := fun a b => by
      show (a.cps ++ b.cps).toList = _
      simp
    rw [e, e, ih]
    rfl
theorem join_row {w : List Dir} (hw : w.length ≤ 1000) (S : Sto) : gJoin (.p (.str (Str.ofString ""))) [.p (.list (w.map eL))] S = some (.p (.str (rowS w)), S) := by
  have h1 : ∀ w : List Dir, strsD (w.map eL) = some (w.map letS) := by
    intro w
    induction w with
    | nil => rfl
    | cons d w ih =>
      show (match strsD (w.map eL) with | some bs => some (letS d :: bs) | none => none) = _
      rw [ih]; rfl
  have h2 : ∀ w : List Dir, ((w.map letS).map (fun y : Str => y.length)).sum = w.length := by
    intro w
    induction w with
    | nil => rfl
    | cons d w ih => simp only [List.map_cons, List.sum_cons, ih, List.length_cons]; show 1 + _ = _; omega
  have h3 : Txt.join (Str.ofString "") (w.map letS) = rowS w := by
    refine PySem.W.str_of_cps ?_
    show (Builtin.Str.glued (Str.ofString "") (w.map letS)).cps.toList = _
    rw [PySem.StrLaws.glued_eq_join, join_go]
    simp [rowS]
  show (match strsD (w.map eL) with
    | some ys => if (List.map (fun y : Str => y.length) ys).sum + ys.length * (Str.ofString "").length ≤ Lim then ok (.str (Txt.join (Str.ofString "") ys)) S else none
    | none => none) = _
  rw [h1]
  show (if ((w.map letS).map (fun y : Str => y.length)).sum + (w.map letS).length * (Str.ofString "").length ≤ Lim then ok (.str (Txt.join (Str.ofString "") (w.map letS))) S else none) = _
  rw [if_pos (by rw [h2]; show _ + _ * 0 ≤ _; unfold Lim; omega), h3]; rfl
theorem add_row {a b : List Dir} (ha : a.length ≤ 1000) (hb : b.length ≤ 1000) (S : Sto) : gAdd (.p (.str (rowS a))) (.p (.str (rowS b))) S = some (.p (.str (rowS (a ++ b))), S) := by
  have e : rowS a ++ rowS b = rowS (a ++ b) := by
    refine PySem.W.str_of_cps ?_
    show ((rowS a).cps ++ (rowS b).cps).toList = _
    simp [rowS]
  show (if (rowS a).length + (rowS b).length ≤ Lim then ok (.str (rowS a ++ rowS b)) S else none) = _
  rw [rowS_len, rowS_len, if_pos (by unfold Lim; omega), e]; rfl
theorem last_row {w : List Dir} (hw : w.length ≤ 1000) (d : Dir) (S : Sto) : gIx (.p (.str (rowS (w ++ [d])))) (.p (.int (-1))) S = some (.p (eL d), S) := by
  show (if (rowS (w ++ [d])).length ≤ Lim then (match L2.atI (rowS (w ++ [d])).cps.toList (-1) with
    | some c => ok (.str ⟨#[c]⟩) S
    | none => none) else none) = _
  rw [rowS_len, if_pos (by unfold Lim; simp; omega)]
  have h : L2.atI (rowS (w ++ [d])).cps.toList (-1) = some d.chr := by
    have e : (rowS (w ++ [d])).cps.toList = w.map Dir.chr ++ [d.chr] := by simp [rowS]
    rw [e]
    unfold L2.atI L2.ixN
    rw [if_neg (by decide), if_pos (by simp; omega)]
    simp
    have : ((-1 : Int) + (((w.length : Nat) : Int) + 1)).toNat = w.length := by omega
    rw [this, List.getElem?_append_right (by simp)]
    simp
  rw [h]; rfl
theorem cut_row {w : List Dir} (hw : w.length ≤ 1000) (k : Nat) (S : Sto) : gSl (.p (.str (rowS w))) none (some (k : Int)) S = some (.p (.str (rowS (w.take k))), S) := by
  show (if (rowS w).length ≤ Lim then ok (.str (L2.cutS (rowS w) none (some (k : Int)))) S else none) = _
  rw [rowS_len, if_pos (by unfold Lim; omega)]
  have h : L2.cutS (rowS w) none (some (k : Int)) = rowS (w.take k) := by
    refine PySem.W.str_of_cps ?_
    unfold L2.cutS
    rw [rowS_len]
    have e1 : HT.sIx w.length 0 none = 0 := rfl
    have e2 : HT.sIx w.length w.length (some (k : Int)) = min k w.length := HT.sIx_nat _ _ _
    rw [e1, e2]
    simp [rowS, List.take_eq_take_iff]
    try omega
  rw [h]; rfl
theorem off_app (cs : List Cell) (d : Dir) : ∀ (w : List Dir) (c : Cell) (k : Nat), offAt cs c w k = none → stp d (goC c w) ∈ cs → offAt cs c (w ++ [d]) k = none
  | [], c, k, _, h => by
    have h' : stp d c ∈ cs := h
    simp only [List.nil_append, offAt]; rw [if_pos h']
  | x :: w, c, k, h1, h2 => by
    simp only [List.cons_append, offAt] at h1 ⊢
    split at h1
    · rename_i hx
      rw [if_pos hx]
      exact off_app cs d w _ _ h1 h2
    · cases h1
theorem goC_app (d : Dir) : ∀ (w : List Dir) (c : Cell), goC c (w ++ [d]) = stp d (goC c w)
  | [], _ => rfl
  | x :: w, c => goC_app d w (stp x c)
theorem back_eq {w : List Dir} (hw : w.length ≤ 1000) (S : Sto) : F_law_back [.p (.str (rowS w))] S = some (.p (.str (rowS (w.reverse.map Dir.back))), S) := by
  have hr : gRev (.p (.str (rowS w))) S = some (.p (.str (rowS w.reverse)), S) := by
    show (if (rowS w).length ≤ Lim then ok (.str (strRev (rowS w))) S else none) = _
    rw [rowS_len, if_pos (by unfold Lim; omega)]
    have : strRev (rowS w) = rowS w.reverse := by
      refine PySem.W.str_of_cps ?_
      simp [strRev, rowS]
    rw [this]; rfl
  have hrev : den (.rev (.var 0)) [some (.p (.str (rowS w))), none] S = some (.p (.str (rowS w.reverse)), S) := by
    simp only [den, m1]
    exact hr
  have hj := join_row (w := w.reverse.map Dir.back) (by simpa using hw) S
  refine l_fn rfl (l_ret (e_meth rfl rfl (e_cons (e_comp (i_rowD hrev (by simp; omega)) (compL_map (fun d : Dir => .one (.p (eL d))) (fun d => eL d.back) w.reverse [] fun d _ => ⟨_, rfl, ?_⟩)) e_nil) ?_))
  · have hi : gIndexS (.p (.str (Str.ofString "ensw"))) [.p (eL d)] S = some (.p (.int (numL d : Nat)), S) := by
      have key : Builtin.Str.occurrences (Str.ofString "ensw") ⟨#[d.chr]⟩ 0 (Str.ofString "ensw").length 1 = [numL d] := by cases d <;> decide +kernel
      show (match Builtin.Str.occurrences (Str.ofString "ensw") ⟨#[d.chr]⟩ 0 (Str.ofString "ensw").length 1 with
        | i :: _ => ok (.int (i : Nat)) S
        | [] => none) = _
      rw [key]; rfl
    refine e_ix rfl (e_meth rfl rfl (e_cons rfl e_nil) hi) ?_
    cases d <;> rfl
  · rw [List.nil_append]
    have e : w.reverse.map (fun d => eL d.back) = (w.reverse.map Dir.back).map eL := by rw [List.map_map]; rfl
    rw [e]
    exact hj
end Tm.K02
namespace Tm.K02
open PySem Tm
abbrev bRow : Ss := (.cons (.asg (.nm 6) (.comp false (.val (.str (Str.ofString "ensw"))) (.nm 7) (.yes (.cmp .isin (.call (Str.ofString "_law_to") 2 F_law_to (.cons (.var 2) (.cons (.var 7) .nil))) (.var 1))) (.var 7) [((Str.ofString "_law_letter"), 7)]))
    (.cons (.ife (.cmp .ne (.var 6) (.lst false .nil))
    (.cons (.asg (.nm 4) (.bin .add (.var 4) (.call (Str.ofString "_law_pick") 2 F_law_pick (.cons (.var 0) (.cons (.var 6) .nil)))))
    (.cons (.asg (.nm 2) (.call (Str.ofString "_law_to") 2 F_law_to (.cons (.var 2) (.cons (.ix (.var 4) (.neg (.int 1))) .nil))))
    .nil))
    .nil)
    .nil))
theorem canLay_letters : ∀ ls : List Dir, PyData.canLayAll0 (ls.map eL) = true
  | [] => rfl
  | d :: ls => by
    have h : (eL d).canLay0 = true := by cases d <;> decide +kernel
    simp only [List.map_cons, PyData.canLayAll0, h, canLay_letters ls, Bool.and_self]
theorem depth_letters : ∀ ls : List Dir, PyData.depthAll (ls.map eL) = 0
  | [] => rfl
  | d :: ls => by
    have h : (eL d).depth = 0 := by simp [eL, PyData.depth]
    simp only [List.map_cons, PyData.depthAll, h, depth_letters ls]; rfl
theorem ne_nil (ls : List Dir) (S : Sto) : gNe (.p (.list (ls.map eL))) (.p (.list [])) S = some (.p (.bool (!ls.isEmpty)), S) := by
  have h1 : SeqAt.shaped (.list (ls.map eL)) = true := by
    unfold SeqAt.shaped
    have e1 : (PyData.list (ls.map eL)).canLay0 = true := by simp only [PyData.canLay0, canLay_letters]
    have e2 : (PyData.list (ls.map eL)).depth = 1 := by simp only [PyData.depth, depth_letters]
    rw [e1, e2]; rfl
  have h2 : SeqAt.shaped (.list []) = true := by decide +kernel
  have h3 : PyData.eqv (.list (ls.map eL)) (.list []) = ls.isEmpty := by
    cases ls with
    | nil => simp [PyData.eqv, PyData.eqvAll]
    | cons d ls => simp [PyData.eqv, PyData.eqvAll]
  show (match (if (false || (SeqAt.shaped (.list (ls.map eL)) && SeqAt.shaped (.list []))) = true then some (PyData.eqv (.list (ls.map eL)) (.list [])) else none) with
    | some k => ok (.bool (!k)) S
    | none => none) = _
  rw [h1, h2, h3]; rfl
theorem row_ok {n : Nat} {S0 : Sto} (P0 : Pen n S0) {cs : List Cell} {c0 : Cell} (hc : c0 ∈ cs) : ∃ w S', w.length ≤ 60 ∧ offAt cs c0 w 0 = none ∧ F_law_row [.r n, .p (.tuple (cs.map eC)), .p (eC c0), .p (.int 60)] S0 = some (.p (.str (rowS w)), S') ∧ Pen n S' ∧ Fr n S0 S' := by
  obtain ⟨r, S1, e1, a1, b1, P1, f1, _⟩ := draw_ok (m := 61) P0 (by decide) (by decide)
  let I : Nat → Ev → Sto → Prop := fun j ρ S => ∃ (w : List Dir) (x y z : Option D), ρ = [some (.r n), some (.p (.tuple (cs.map eC))), some (.p (eC (goC c0 w))), some (.p (.int 60)), some (.p (.str (rowS w))), x, y, z] ∧ w.length ≤ j ∧ offAt cs c0 w 0 = none ∧ Pen n S ∧ Fr n S0 S
  have hlen : (rowOf (rangeD 0 r.toNat)).length = r.toNat := by rw [rowOf_len]; unfold rangeD; simp
  obtain ⟨ρ', S', e2, w, x, y, z, rfl, hw, ho, P2, f2⟩ := forL_inv (g := denG (.nm 5)) (b := denSs bRow) I (rowOf (rangeD 0 r.toNat)) 0 _ S1 ⟨[], none, none, none, rfl, by simp, rfl, P1, f1⟩ fun j it ρ S hj ⟨w, x, y, z, hρ, hw, ho, P, f⟩ => by
    subst hρ
    have hj' := (List.getElem?_eq_some_iff.mp hj).1
    rw [hlen] at hj'
    obtain ⟨dv, _, rfl⟩ := rowOf_get hj
    let ls := ltrs.filter fun d => decide (stp d (goC c0 w) ∈ cs)
    have ec : den (.comp false (.val (.str (Str.ofString "ensw"))) (.nm 7) (.yes (.cmp .isin (.call (Str.ofString "_law_to") 2 F_law_to (.cons (.var 2) (.cons (.var 7) .nil))) (.var 1))) (.var 7) [((Str.ofString "_law_letter"), 7)])
        [some (.r n), some (.p (.tuple (cs.map eC))), some (.p (eC (goC c0 w))), some (.p (.int 60)), some (.p (.str (rowS w))), some (.p dv), y, z] S = some (.p (.list (ls.map eL)), S) := by
      refine e_comp (xs := ltrs.map fun d => .one (.p (eL d))) (by rfl) ?_
      have := compL_enc (g := denG (.nm 7)) (t := denC (.yes (.cmp .isin (.call (Str.ofString "_law_to") 2 F_law_to (.cons (.var 2) (.cons (.var 7) .nil))) (.var 1)))) (e := den (.var 7)) (ρ := [some (.r n), some (.p (.tuple (cs.map eC))), some (.p (eC (goC c0 w))), some (.p (.int 60)), some (.p (.str (rowS w))), some (.p dv), y, none]) (S := S)
        (fun d : Dir => .one (.p (eL d))) (fun d => decide (stp d (goC c0 w) ∈ cs)) eL ltrs [] fun d _ => ⟨_, rfl, ?_, fun _ => rfl⟩
      · exact this
      · refine t_cmp (e_cmp (e_call (e_cons rfl (e_cons rfl e_nil)) (to_eq (goC c0 w) d S)) rfl ?_)
        show gIn (.p (eC (stp d (goC c0 w)))) (.p (.tuple (cs.map eC))) S = _
        unfold gIn
        rw [in_tup]; rfl
    have et : denT (.cmp .ne (.var 6) (.lst false .nil)) [some (.r n), some (.p (.tuple (cs.map eC))), some (.p (eC (goC c0 w))), some (.p (.int 60)), some (.p (.str (rowS w))), some (.p dv), some (.p (.list (ls.map eL))), z] S = some (!ls.isEmpty, S) :=
      t_cmp (e_cmp rfl rfl (ne_nil ls S))
    cases hls : ls with
    | nil =>
      rw [hls] at et ec
      exact ⟨_, _, _, _, rfl, l_asg ec rfl (l_ifF et l_nil l_nil), w, _, _, _, rfl, by omega, ho, P, f⟩
    | cons d0 lt =>
      obtain ⟨xp, S5, hx, e5, P5, f5⟩ := pick_ok (d := .p (.list (ls.map eL))) (xs := ls.map eL) P (fun _ _ => rfl) (by rw [hls]; simp) (by
        rw [List.length_map]
        have : ls.length ≤ ltrs.length := List.length_filter_le _ _
        have h4 : ltrs.length = 4 := rfl
        omega)
      obtain ⟨d, hd, rfl⟩ := List.mem_map.mp hx
      have hin : stp d (goC c0 w) ∈ cs := of_decide_eq_true (List.mem_filter.mp hd).2
      have et' : denT (.cmp .ne (.var 6) (.lst false .nil)) [some (.r n), some (.p (.tuple (cs.map eC))), some (.p (eC (goC c0 w))), some (.p (.int 60)), some (.p (.str (rowS w))), some (.p dv), some (.p (.list (ls.map eL))), z] S = some (true, S) := by
        rw [et, hls]; rfl
      refine ⟨_, _, _, _, rfl, l_asg ec rfl (l_ifT et' (l_asg (e_bin rfl (e_call (e_cons rfl (e_cons rfl e_nil)) e5) (add_row (b := [d]) (by omega) (by simp) S5)) rfl (l_asg (e_call (e_cons rfl (e_cons (e_ix rfl rfl (last_row (by omega) d S5)) e_nil)) (to_eq (goC c0 w) d S5)) rfl l_nil)) l_nil), w ++ [d], some (.p dv), some (.p (.list (ls.map eL))), z, ?_, by simp; omega, off_app cs d w c0 0 ho hin, P5, f.trans f5⟩
      rw [goC_app]; rfl
  rw [hlen] at hw
  exact ⟨w, S', by omega, ho, l_fn rfl (l_asg rfl rfl (l_loop (i_range (e_cons (e_call (e_cons rfl (e_cons (e_bin rfl rfl rfl) e_nil)) e1) e_nil) a1 (by omega)) e2 (l_ret rfl))), P2, f2⟩
/-! walked -/
def ent (c : Cell) (l : Ly) : PyData := .tuple [eC c, .tuple (six l)]
abbrev bWalk : Ss := (.cons (.asg (.nm 5) (.call (Str.ofString "_law_to") 2 F_law_to (.cons (.ix (.ix (.var 3) (.neg (.int 1))) (.int 0)) (.cons (.var 4) .nil))))
    (.cons (.ife (.cmp .notin (.var 5) (.var 0))
    (.cons (.ret (.var 3))
    .nil)
    .nil)
    (.cons (.expr (.meth .append (.var 3) (.cons (.tup (.cons (.var 5) (.cons (.call (Str.ofString "_law_rolled") 2 F_law_rolled (.cons (.ix (.ix (.var 3) (.neg (.int 1))) (.int 1)) (.cons (.var 4) .nil))) .nil))) .nil)))
    .nil)))
theorem last_ix {k : Nat} {S : Sto} {pre : List PyData} {x : PyData} (h : S[k]? = some (.lst (pre ++ [x]))) : gIx (.r k) (.p (.int (-1))) S = some (.p x, S) := by
  unfold gIx
  rw [data_r h]
  have ha : L2.atI (pre ++ [x]) (-1) = some x := by
    unfold L2.atI L2.ixN
    rw [if_neg (by decide), if_pos (by simp; omega)]
    simp
    have : ((-1 : Int) + (((pre.length : Nat) : Int) + 1)).toNat = pre.length := by omega
    rw [this, List.getElem?_append_right (Nat.le_refl _)]
    simp
  show (match L2.atI (pre ++ [x]) (-1) with | some d => ok d S | none => none) = _
  rw [ha]; rfl
theorem walk_loop {cs : List Cell} {k : Nat} (A B : Option D) : ∀ (w : List Dir) (c : Cell) (l : Ly) (m : Nat) (pre : List PyData) (S : Sto) (x y : Option D), S[k]? = some (.lst (pre ++ [ent c l])) → pre.length = m → m + w.length ≤ 1000 →
    match offAt cs c w m with
    | some j => ∃ xs, forL (denG (.nm 4)) (denSs bWalk) (w.map fun d => .one (.p (eL d))) [some (.p (.tuple (cs.map eC))), A, B, some (.r k), x, y] S = some (.rt (.r k), S.set k (.lst xs)) ∧ xs.length = j + 1
    | none => ∃ ρ pre', forL (denG (.nm 4)) (denSs bWalk) (w.map fun d => .one (.p (eL d))) [some (.p (.tuple (cs.map eC))), A, B, some (.r k), x, y] S = some (.nx (some (.p (.tuple (cs.map eC))) :: A :: B :: some (.r k) :: ρ), S.set k (.lst (pre' ++ [ent (goC c w) (goY l w)]))) ∧ pre'.length = m + w.length
  | [], c, l, m, pre, S, x, y, h, hm, _ => ⟨[x, y], pre, by rw [List.map_nil, f_nil]; simp only [goC, goY]; rw [set_same h], by simpa using hm⟩
  | d :: w, c, l, m, pre, S, x, y, h, hm, hb => by
    have hks : k < S.length := (List.getElem?_eq_some_iff.mp h).1
    have e1 : den (.call (Str.ofString "_law_to") 2 F_law_to (.cons (.ix (.ix (.var 3) (.neg (.int 1))) (.int 0)) (.cons (.var 4) .nil))) [some (.p (.tuple (cs.map eC))), A, B, some (.r k), some (.p (eL d)), y] S = some (.p (eC (stp d c)), S) :=
      e_call (e_cons (e_ix (e_ix rfl rfl (last_ix h)) rfl rfl) (e_cons rfl e_nil)) (to_eq c d S)
    by_cases hin : stp d c ∈ cs
    · have e2 : denT (.cmp .notin (.var 5) (.var 0)) [some (.p (.tuple (cs.map eC))), A, B, some (.r k), some (.p (eL d)), some (.p (eC (stp d c)))] S = some (false, S) := by
        refine t_cmp (e_cmp rfl rfl ?_)
        show gNotIn (.p (eC (stp d c))) (.p (.tuple (cs.map eC))) S = some (.p (.bool false), S)
        unfold gNotIn
        rw [in_tup, decide_eq_true hin]; rfl
      have e3 : den (.meth .append (.var 3) (.cons (.tup (.cons (.var 5) (.cons (.call (Str.ofString "_law_rolled") 2 F_law_rolled (.cons (.ix (.ix (.var 3) (.neg (.int 1))) (.int 1)) (.cons (.var 4) .nil))) .nil))) .nil)) [some (.p (.tuple (cs.map eC))), A, B, some (.r k), some (.p (eL d)), some (.p (eC (stp d c)))] S = some (.p .none, S.set k (.lst (pre ++ [ent c l] ++ [ent (stp d c) (roll d l)]))) :=
        e_append rfl h (e_tup (e_cons rfl (e_cons (e_call (e_cons (e_ix (e_ix rfl rfl (last_ix h)) rfl rfl) (e_cons rfl e_nil)) (rolled6_eq l d S)) e_nil)) rfl) h (by simp at hb ⊢; omega)
      have ih := walk_loop (cs := cs) (k := k) A B w (stp d c) (roll d l) (m + 1) (pre ++ [ent c l]) (S.set k (.lst (pre ++ [ent c l] ++ [ent (stp d c) (roll d l)]))) (some (.p (eL d))) (some (.p (eC (stp d c)))) (List.getElem?_set_self hks) (by simp; omega) (by simp at hb; omega)
      simp only [offAt, if_pos hin]
      cases ho : offAt cs (stp d c) w (m + 1) with
      | some j =>
        rw [ho] at ih
        obtain ⟨xs, i1, i2⟩ := ih
        rw [List.set_set] at i1
        exact ⟨xs, f_cons rfl (l_asg e1 rfl (l_ifF e2 l_nil (l_expr e3 l_nil))) i1, i2⟩
      | none =>
        rw [ho] at ih
        obtain ⟨ρ, pre', i1, i2⟩ := ih
        rw [List.set_set] at i1
        exact ⟨ρ, pre', f_cons rfl (l_asg e1 rfl (l_ifF e2 l_nil (l_expr e3 l_nil))) i1, by simp; omega⟩
    · have e2 : denT (.cmp .notin (.var 5) (.var 0)) [some (.p (.tuple (cs.map eC))), A, B, some (.r k), some (.p (eL d)), some (.p (eC (stp d c)))] S = some (true, S) := by
        refine t_cmp (e_cmp rfl rfl ?_)
        show gNotIn (.p (eC (stp d c))) (.p (.tuple (cs.map eC))) S = some (.p (.bool true), S)
        unfold gNotIn
        rw [in_tup, decide_eq_false hin]; rfl
      simp only [offAt, if_neg hin]
      refine ⟨pre ++ [ent c l], ?_, by simp; omega⟩
      rw [set_same h]
      exact f_consR rfl (l_asg e1 rfl (l_ifTr e2 (l_ret rfl)))
end Tm.K02
namespace Tm.K02
open PySem Tm
abbrev bIn : Ss := (.cons (.par (.cons (.nm 9) (.cons (.nm 10) .nil)) (.cons (.call (Str.ofString "_law_walked") 3 F_law_walked (.cons (.var 3) (.cons (.tup (.cons (.var 4) (.cons (.var 5) .nil))) (.cons (.var 8) .nil)))) (.cons (.prim .repr (.cons (.tup (.cons (.var 3) (.cons (.var 4) (.cons (.var 5) .nil)))) .nil)) .nil)))
    (.cons (.asg (.nm 11) (.ife (.cmp .le (.prim .len (.cons (.var 9) .nil)) (.prim .len (.cons (.var 8) .nil))) (.bin .sub (.prim .len (.cons (.var 9) .nil)) (.int 1)) .non))
    (.cons (.ife (.cmp .ne (.prim .repr (.cons (.comp false (.r1 (.cons (.int 2) .nil)) (.nm 13) .no (.call (Str.ofString "first_off") 3 F_first_off (.cons (.var 3) (.cons (.var 4) (.cons (.var 8) .nil)))) [((Str.ofString "_law_lap"), 13)]) .nil)) (.prim .repr (.cons (.lst false (.cons (.var 11) (.cons (.var 11) .nil))) .nil)))
    (.cons (.ret (.bl false))
    .nil)
    .nil)
    (.cons (.ife (.cmp .is (.var 11) .non)
    (.cons (.asg (.nm 12) (.tup (.cons (.ix (.ix (.var 9) (.neg (.int 1))) (.int 0)) (.cons (.tup (.cons (.ix (.ix (.ix (.var 9) (.neg (.int 1))) (.int 1)) (.int 0)) (.cons (.ix (.ix (.ix (.var 9) (.neg (.int 1))) (.int 1)) (.int 2)) (.cons (.ix (.ix (.ix (.var 9) (.neg (.int 1))) (.int 1)) (.int 4)) .nil)))) .nil))))
    (.cons (.ife (.cmp .ne (.prim .repr (.cons (.comp false (.r1 (.cons (.int 2) .nil)) (.nm 13) .no (.call (Str.ofString "stand_behind") 4 F_stand_behind (.cons (.var 3) (.cons (.var 4) (.cons (.var 5) (.cons (.var 8) .nil))))) [((Str.ofString "_law_lap"), 13)]) .nil)) (.prim .repr (.cons (.lst false (.cons (.var 12) (.cons (.var 12) .nil))) .nil)))
    (.cons (.ret (.bl false))
    .nil)
    .nil)
    .nil))
    .nil)
    (.cons (.ife (.cmp .ne (.prim .repr (.cons (.tup (.cons (.var 3) (.cons (.var 4) (.cons (.var 5) .nil)))) .nil)) (.var 10))
    (.cons (.ret (.bl false))
    .nil)
    .nil)
    .nil)))))
abbrev bOut : Ss := (.cons (.asg (.nm 2) (.call (Str.ofString "_law_pen") 1 F_law_pen (.cons (.call (Str.ofString "_law_cell_at") 2 F_law_cell_at (.cons (.var 0) (.cons (.var 1) .nil))) .nil)))
    (.cons (.asg (.nm 3) (.call (Str.ofString "_law_floor") 2 F_law_floor (.cons (.var 2) (.cons (.int 9) .nil))))
    (.cons (.asg (.tup 2 (.cons (.nm 4) (.cons (.nm 5) .nil))) (.call (Str.ofString "_law_stand") 2 F_law_stand (.cons (.var 2) (.cons (.var 3) .nil))))
    (.cons (.asg (.nm 6) (.call (Str.ofString "_law_row") 4 F_law_row (.cons (.var 2) (.cons (.var 3) (.cons (.var 4) (.cons (.int 60) .nil))))))
    (.cons (.asg (.nm 7) (.meth .join (.str (Str.ofString "")) (.cons (.comp false (.r1 (.cons (.call (Str.ofString "_law_draw") 2 F_law_draw (.cons (.var 2) (.cons (.int 12) .nil))) .nil)) (.nm 13) .no (.ix (.str (Str.ofString "ensw")) (.call (Str.ofString "_law_draw") 2 F_law_draw (.cons (.var 2) (.cons (.int 4) .nil)))) [((Str.ofString "_law_lap"), 13)]) .nil)))
    (.cons (.loop (.nm 8) (.val (.lst false (.cons (.var 6) (.cons (.var 7) (.cons (.str (Str.ofString "")) (.cons (.bin .add (.sl (.var 6) .no (.yes (.int 59))) (.ix (.str (Str.ofString "ensw")) (.call (Str.ofString "_law_draw") 2 F_law_draw (.cons (.var 2) (.cons (.int 4) .nil))))) (.cons (.bin .add (.sl (.var 6) .no (.yes (.int 30))) (.call (Str.ofString "_law_back") 1 F_law_back (.cons (.sl (.var 6) .no (.yes (.int 30))) .nil))) .nil)))))))
    bIn)
    (.cons (.ife (.cmp .ne (.call (Str.ofString "stand_behind") 4 F_stand_behind (.cons (.var 3) (.cons (.var 4) (.cons (.var 5) (.cons (.bin .add (.sl (.var 6) .no (.yes (.int 30))) (.call (Str.ofString "_law_back") 1 F_law_back (.cons (.sl (.var 6) .no (.yes (.int 30))) .nil))) .nil))))) (.tup (.cons (.var 4) (.cons (.var 5) .nil))))
    (.cons (.ret (.bl false))
    .nil)
    .nil)
    .nil)))))))

theorem len_list {d : D} {S : Sto} {xs : List PyData} (h : dataOf d S = some (.list xs)) : gLen [d] S = some (.p (.int xs.length), S) := by
  unfold gLen
  simp only [h]; rfl
theorem set_last {S : Sto} {o o' : Ob} : (S ++ [o]).set S.length o' = S ++ [o'] := by simp
theorem walked_ok {cs : List Cell} (c : Cell) (l : Ly) {w : List Dir} (hw : w.length ≤ 900) (S : Sto) : ∃ xs, F_law_walked [.p (.tuple (cs.map eC)), .p (eSt c l), .p (.str (rowS w))] S = some (.r S.length, S ++ [Ob.lst xs]) ∧
    (∀ j, offAt cs c w 0 = some j → xs.length = j + 1) ∧ (offAt cs c w 0 = none → ∃ pre, xs = pre ++ [ent (goC c w) (goY l w)] ∧ pre.length = w.length) := by
  have key := walk_loop (cs := cs) (k := S.length) (some (.p (eSt c l))) (some (.p (.str (rowS w)))) w c l 0 [] (S ++ [Ob.lst [ent c l]]) none none (by simp) rfl (by omega)
  have e0 : den (.lst true (.cons (.tup (.cons (.ix (.var 1) (.int 0)) (.cons (.call (Str.ofString "_law_six") 1 F_law_six (.cons (.ix (.var 1) (.int 1)) .nil)) .nil))) .nil)) [some (.p (.tuple (cs.map eC))), some (.p (eSt c l)), some (.p (.str (rowS w))), none, none, none] S = some (.r S.length, S ++ [Ob.lst [ent c l]]) :=
    e_lstM (e_cons (e_tup (e_cons rfl (e_cons (e_call (e_cons rfl e_nil) (six_eq l S)) e_nil)) rfl) e_nil) rfl
  cases ho : offAt cs c w 0 with
  | some j =>
    rw [ho] at key
    obtain ⟨xs, i1, i2⟩ := key
    rw [set_last] at i1
    exact ⟨xs, l_fn rfl (l_asg e0 rfl (l_loopR (i_rowD rfl (by omega)) i1)), fun j' h => (by cases h; exact i2), fun h => (by cases h)⟩
  | none =>
    rw [ho] at key
    obtain ⟨ρ, pre, i1, i2⟩ := key
    rw [set_last] at i1
    exact ⟨_, l_fn rfl (l_asg e0 rfl (l_loop (i_rowD rfl (by omega)) i1 (l_ret rfl))), fun j' h => (by cases h), fun _ => ⟨pre, rfl, by simpa using i2⟩⟩
theorem off_lt (cs : List Cell) : ∀ (w : List Dir) (c : Cell) (k j : Nat), offAt cs c w k = some j → j < k + w.length
  | [], c, k, j, h => by cases h
  | d :: w, c, k, j, h => by
    simp only [offAt] at h
    split at h
    · have := off_lt cs w _ _ _ h; simp; omega
    · cases h; simp
theorem off_mem (cs : List Cell) : ∀ (w : List Dir) (c : Cell) (k : Nat), c ∈ cs → offAt cs c w k = none → goC c w ∈ cs
  | [], c, k, h, _ => h
  | d :: w, c, k, h, ho => by
    simp only [offAt] at ho
    split at ho
    · rename_i hd; exact off_mem cs w _ _ hd ho
    · cases ho
theorem ne_same (x : Str) (S : Sto) : gNe (.p (.str x)) (.p (.str x)) S = some (.p (.bool false), S) := by
  show ok (.bool (!(x == x))) S = _
  rw [beq_self_eq_true]; rfl
theorem nt_off {cs : List Cell} {c : Cell} {w : List Dir} (hw : w.length ≤ 900) : Nt 20 0 (offD (offAt cs c w 0)) := by
  cases ho : offAt cs c w 0 with
  | none => exact Nt.non.up (by decide) (by decide)
  | some j =>
    have := off_lt cs w c 0 j ho
    exact Nt.int (by show _ < ((j : Nat) : Int); omega) (by show ((j : Nat) : Int) < _; omega)
theorem nt_pair {x : PyData} {a b : Nat} (h : Nt a b x) : Nt (a + 1 + (a + 1 + 0)) (b + 1) (.list [x, x]) := Nt.lst (NtA.cons h (NtA.cons h NtA.nil))
theorem nt_three {cs : List Cell} (F : Floor cs) {c : Cell} (hc : c ∈ cs) {l : Ly} (hl : l ∈ lyings) : Nt 1000 3 (.tuple [.tuple (cs.map eC), eC c, eY l]) :=
  (Nt.tup (NtA.cons (nt_floor F) (NtA.cons ((nt_cell (F.range c hc)).up (w' := 42) (by decide) (by decide)) (NtA.cons ((nt_ly hl).up (w' := 63) (by decide) (by decide)) (NtA.nil (w := 0)))))).up (by decide) (by decide)
theorem nt_stand {c : Cell} (h : 0 ≤ c.1 ∧ c.1 ≤ 3 ∧ 0 ≤ c.2 ∧ c.2 ≤ 3) {l : Ly} (hl : l ∈ lyings) : Nt 200 2 (eSt c l) :=
  (Nt.tup (NtA.cons (nt_cell h) (NtA.cons (nt_ly hl) (NtA.nil (w := 0))))).up (by decide) (by decide)
/-- one row of the inner loop -/
theorem inner_ok {cs : List Cell} (F : Floor cs) {c : Cell} (hc : c ∈ cs) {l : Ly} (hl : l ∈ lyings) {w : List Dir} (hw : w.length ≤ 900) (S : Sto) (a0 a1 a2 a6 a7 x9 x10 x11 x12 x13 : Option D) :
    ∃ y9 y10 y11 y12 y13 xs, denSs bIn [a0, a1, a2, some (.p (.tuple (cs.map eC))), some (.p (eC c)), some (.p (eY l)), a6, a7, some (.p (.str (rowS w))), x9, x10, x11, x12, x13] S
      = some (.nx [a0, a1, a2, some (.p (.tuple (cs.map eC))), some (.p (eC c)), some (.p (eY l)), a6, a7, some (.p (.str (rowS w))), y9, y10, y11, y12, y13], S ++ [Ob.lst xs]) := by
  obtain ⟨xs, e1, hj, hn⟩ := walked_ok (cs := cs) c l hw S
  have K := nt_three F hc hl
  have hk : (S ++ [Ob.lst xs])[S.length]? = some (.lst xs) := by simp
  have eK : ∀ S' : Sto, gRepr [.p (.tuple [.tuple (cs.map eC), eC c, eY l])] S' = some (.p (.str (PyData.tuple [.tuple (cs.map eC), eC c, eY l]).shown), S') := fun S' => repr_nt K (by decide) (by decide)
  let o := offAt cs c w 0
  let R1 : Ev := [a0, a1, a2, some (.p (.tuple (cs.map eC))), some (.p (eC c)), some (.p (eY l)), a6, a7, some (.p (.str (rowS w))), some (.r S.length), some (.p (.str (PyData.tuple [.tuple (cs.map eC), eC c, eY l]).shown)), x11, x12, x13]
  have e2 : den (.ife (.cmp .le (.prim .len (.cons (.var 9) .nil)) (.prim .len (.cons (.var 8) .nil))) (.bin .sub (.prim .len (.cons (.var 9) .nil)) (.int 1)) .non) R1 (S ++ [Ob.lst xs]) = some (.p (offD o), S ++ [Ob.lst xs]) := by
    have l1 : den (.prim .len (.cons (.var 9) .nil)) R1 (S ++ [Ob.lst xs]) = some (.p (.int xs.length), S ++ [Ob.lst xs]) := by
      refine e_prim (e_cons rfl e_nil) ?_
      exact len_list (data_r hk)
    have l2 : den (.prim .len (.cons (.var 8) .nil)) R1 (S ++ [Ob.lst xs]) = some (.p (.int w.length), S ++ [Ob.lst xs]) := by
      refine e_prim (e_cons rfl e_nil) ?_
      show (if (rowS w).length ≤ Lim then ok (.int (rowS w).length) (S ++ [Ob.lst xs]) else none) = _
      rw [rowS_len, if_pos (by unfold Lim; omega)]; rfl
    cases ho : offAt cs c w 0 with
    | some j =>
      have h1 := hj j ho
      have h2 := off_lt cs w c 0 j ho
      refine e_ifT (S1 := S ++ [Ob.lst xs]) (t_cmp (e_cmp l1 l2 ?_)) (e_bin l1 rfl ?_)
      · show gLe (.p (.int xs.length)) (.p (.int w.length)) _ = _
        rw [le_int, decide_eq_true (by omega)]
      · show some (D.p (.int ((xs.length : Int) - 1)), _) = some (D.p (offD (offAt cs c w 0)), _)
        rw [ho, h1]
        have : ((j + 1 : Nat) : Int) - 1 = (j : Nat) := by omega
        rw [this]; rfl
    | none =>
      obtain ⟨pre, hx, hp⟩ := hn ho
      have hx' : xs.length = w.length + 1 := by rw [hx]; simp [hp]
      refine e_ifF (S1 := S ++ [Ob.lst xs]) (t_cmp (e_cmp l1 l2 ?_)) ?_
      · show gLe (.p (.int xs.length)) (.p (.int w.length)) _ = _
        rw [le_int, decide_eq_false (by omega)]
      · show some (D.p .none, _) = some (D.p (offD (offAt cs c w 0)), _)
        rw [ho]; rfl
  let R2 : Ev := [a0, a1, a2, some (.p (.tuple (cs.map eC))), some (.p (eC c)), some (.p (eY l)), a6, a7, some (.p (.str (rowS w))), some (.r S.length), some (.p (.str (PyData.tuple [.tuple (cs.map eC), eC c, eY l]).shown)), some (.p (offD o)), x12, x13]
  have N1 : Nt 42 1 (.list [offD o, offD o]) := nt_pair (nt_off hw)
  have e3 : denT (.cmp .ne (.prim .repr (.cons (.comp false (.r1 (.cons (.int 2) .nil)) (.nm 13) .no (.call (Str.ofString "first_off") 3 F_first_off (.cons (.var 3) (.cons (.var 4) (.cons (.var 8) .nil)))) [((Str.ofString "_law_lap"), 13)]) .nil)) (.prim .repr (.cons (.lst false (.cons (.var 11) (.cons (.var 11) .nil))) .nil))) R2 (S ++ [Ob.lst xs]) = some (false, S ++ [Ob.lst xs]) :=
    t_cmp (e_cmp (e_prim (e_cons (e_comp (i_range (j := 2) rfl (by decide) (by decide)) (compL_all (fun _ => offD o) _ [] fun i hi => by
      obtain ⟨x, _, rfl⟩ := List.mem_map.mp hi
      exact ⟨_, rfl, e_call (e_cons rfl (e_cons rfl (e_cons rfl e_nil))) (first_off_eq F hc (by omega) _)⟩)) e_nil) (repr_nt N1 (by decide) (by decide))) (e_prim (e_cons (e_lst (e_cons rfl (e_cons rfl e_nil)) rfl) e_nil) (repr_nt N1 (by decide) (by decide))) (ne_same _ _))
  have fin5 : ∀ R : Ev, R[3]? = some (some (.p (.tuple (cs.map eC)))) → R[4]? = some (some (.p (eC c))) → R[5]? = some (some (.p (eY l))) → R[10]? = some (some (.p (.str (PyData.tuple [.tuple (cs.map eC), eC c, eY l]).shown))) →
      denSs (.cons (.ife (.cmp .ne (.prim .repr (.cons (.tup (.cons (.var 3) (.cons (.var 4) (.cons (.var 5) .nil)))) .nil)) (.var 10)) (.cons (.ret (.bl false)) .nil) .nil) .nil) R (S ++ [Ob.lst xs]) = some (.nx R, S ++ [Ob.lst xs]) := fun R r3 r4 r5 r10 =>
    l_ifF (t_cmp (e_cmp (e_prim (e_cons (e_tup (e_cons (e_var r3) (e_cons (e_var r4) (e_cons (e_var r5) e_nil))) rfl) e_nil) (eK _)) (e_var r10) (ne_same _ _))) l_nil l_nil
  have go : ∀ y12, denSs (.cons (.ife (.cmp .is (.var 11) .non)
    (.cons (.asg (.nm 12) (.tup (.cons (.ix (.ix (.var 9) (.neg (.int 1))) (.int 0)) (.cons (.tup (.cons (.ix (.ix (.ix (.var 9) (.neg (.int 1))) (.int 1)) (.int 0)) (.cons (.ix (.ix (.ix (.var 9) (.neg (.int 1))) (.int 1)) (.int 2)) (.cons (.ix (.ix (.ix (.var 9) (.neg (.int 1))) (.int 1)) (.int 4)) .nil)))) .nil))))
    (.cons (.ife (.cmp .ne (.prim .repr (.cons (.comp false (.r1 (.cons (.int 2) .nil)) (.nm 13) .no (.call (Str.ofString "stand_behind") 4 F_stand_behind (.cons (.var 3) (.cons (.var 4) (.cons (.var 5) (.cons (.var 8) .nil))))) [((Str.ofString "_law_lap"), 13)]) .nil)) (.prim .repr (.cons (.lst false (.cons (.var 12) (.cons (.var 12) .nil))) .nil)))
    (.cons (.ret (.bl false)) .nil) .nil) .nil)) .nil) (.cons (.ife (.cmp .ne (.prim .repr (.cons (.tup (.cons (.var 3) (.cons (.var 4) (.cons (.var 5) .nil)))) .nil)) (.var 10)) (.cons (.ret (.bl false)) .nil) .nil) .nil)) R2 (S ++ [Ob.lst xs]) = some (.nx (R2.set 12 y12), S ++ [Ob.lst xs]) → ∃ y9 y10 y11 y12 y13 xs, denSs bIn [a0, a1, a2, some (.p (.tuple (cs.map eC))), some (.p (eC c)), some (.p (eY l)), a6, a7, some (.p (.str (rowS w))), x9, x10, x11, x12, x13] S
      = some (.nx [a0, a1, a2, some (.p (.tuple (cs.map eC))), some (.p (eC c)), some (.p (eY l)), a6, a7, some (.p (.str (rowS w))), y9, y10, y11, y12, y13], S ++ [Ob.lst xs]) := fun y12 z =>
    ⟨some (.r S.length), some (.p (.str (PyData.tuple [.tuple (cs.map eC), eC c, eY l]).shown)), some (.p (offD o)), y12, x13, xs, l_par (e_cons (e_call (e_cons rfl (e_cons (e_tup (e_cons rfl (e_cons rfl e_nil)) rfl) (e_cons rfl e_nil))) e1) (e_cons (e_prim (e_cons (e_tup (e_cons rfl (e_cons rfl (e_cons rfl e_nil))) rfl) e_nil) (eK _)) e_nil)) rfl (l_asg e2 rfl (l_ifF e3 l_nil z))⟩
  cases ho : offAt cs c w 0 with
  | some j =>
    refine go x12 (l_ifF (t_cmp (e_cmp rfl rfl ?_)) l_nil (fin5 _ rfl rfl rfl rfl))
    show gIs (.p (offD (offAt cs c w 0))) (.p .none) _ = _
    rw [ho]; rfl
  | none =>
    obtain ⟨pre, rfl, hp⟩ := hn ho
    have L1 : gIx (.r S.length) (.p (.int (-1))) (S ++ [Ob.lst (pre ++ [ent (goC c w) (goY l w)])]) = some (.p (ent (goC c w) (goY l w)), S ++ [Ob.lst (pre ++ [ent (goC c w) (goY l w)])]) := last_ix hk
    have hgc := off_mem cs w c 0 hc ho
    have N2 : Nt 402 3 (.list [eSt (goC c w) (goY l w), eSt (goC c w) (goY l w)]) := nt_pair (nt_stand (F.range _ hgc) (goY_mem w hl))
    refine go (some (.p (eSt (goC c w) (goY l w)))) (l_ifT (t_cmp (e_cmp rfl rfl ?_)) (l_asg (e_tup (e_cons (e_ix (e_ix rfl rfl L1) rfl rfl) (e_cons (e_tup (e_cons (e_ix (e_ix (e_ix rfl rfl L1) rfl rfl) rfl rfl) (e_cons (e_ix (e_ix (e_ix rfl rfl L1) rfl rfl) rfl rfl) (e_cons (e_ix (e_ix (e_ix rfl rfl L1) rfl rfl) rfl rfl) e_nil))) rfl) e_nil)) rfl) rfl (l_ifF (t_cmp (e_cmp (e_prim (e_cons (e_comp (i_range (j := 2) rfl (by decide) (by decide)) (compL_all (fun _ => eSt (goC c w) (goY l w)) _ [] fun i hi => by
      obtain ⟨x, _, rfl⟩ := List.mem_map.mp hi
      exact ⟨_, rfl, e_call (e_cons rfl (e_cons rfl (e_cons rfl (e_cons rfl e_nil)))) (stand_behind_eq F hc hl (by omega) ho _)⟩)) e_nil) (repr_nt N2 (by decide) (by decide))) (e_prim (e_cons (e_lst (e_cons rfl (e_cons rfl e_nil)) rfl) e_nil) (repr_nt N2 (by decide) (by decide))) (ne_same _ _))) l_nil l_nil)) (fin5 _ rfl rfl rfl rfl))
    show gIs (.p (offD (offAt cs c w 0))) (.p .none) _ = _
    rw [ho]; rfl
end Tm.K02
namespace Tm.K02
open PySem Tm
theorem compL_len {g : MG} {e : M} {ρ : Ev} : ∀ (xs : List Itm) (acc acc' : List PyData) (S S' : Sto), compL g bYes e ρ xs acc S = some (acc', S') → acc'.length = acc.length + xs.length
  | [], acc, acc', S, S', h => by cases h; rfl
  | d :: ds, acc, acc', S, S', h => by
    unfold compL at h
    split at h
    · simp only [bYes] at h
      split at h
      · have := compL_len ds _ _ _ _ h
        simp at this ⊢; omega
      · cases h
    · cases h
theorem off_k (cs : List Cell) : ∀ (w : List Dir) (c : Cell) (k k' : Nat), offAt cs c w k = none → offAt cs c w k' = none
  | [], _, _, _, _ => rfl
  | d :: w, c, k, k', h => by
    simp only [offAt] at h ⊢
    split at h
    · rename_i hd; rw [if_pos hd]; exact off_k cs w _ _ _ h
    · cases h
theorem off_join (cs : List Cell) (b : List Dir) : ∀ (a : List Dir) (c : Cell) (k : Nat), offAt cs c a k = none → offAt cs (goC c a) b 0 = none → offAt cs c (a ++ b) k = none
  | [], c, k, _, h => off_k cs b c 0 k h
  | d :: a, c, k, h1, h2 => by
    simp only [List.cons_append, offAt] at h1 ⊢
    split at h1
    · rename_i hd; rw [if_pos hd]; exact off_join cs b a _ _ h1 h2
    · cases h1
theorem off_take (cs : List Cell) : ∀ (n : Nat) (w : List Dir) (c : Cell) (k : Nat), offAt cs c w k = none → offAt cs c (w.take n) k = none
  | 0, _, _, _, _ => rfl
  | _ + 1, [], _, _, _ => rfl
  | n + 1, d :: w, c, k, h => by
    simp only [List.take_succ_cons, offAt] at h ⊢
    split at h
    · rename_i hd; rw [if_pos hd]; exact off_take cs n w _ _ h
    · cases h
theorem goC_join (b : List Dir) : ∀ (a : List Dir) (c : Cell), goC c (a ++ b) = goC (goC c a) b
  | [], _ => rfl
  | d :: a, c => goC_join b a (stp d c)
theorem goY_join (b : List Dir) : ∀ (a : List Dir) (l : Ly), goY l (a ++ b) = goY (goY l a) b
  | [], _ => rfl
  | d :: a, l => goY_join b a (roll d l)
theorem back_home (cs : List Cell) : ∀ (w : List Dir) (c : Cell) (l : Ly), c ∈ cs → offAt cs c w 0 = none → offAt cs (goC c w) (w.reverse.map Dir.back) 0 = none ∧ goC (goC c w) (w.reverse.map Dir.back) = c ∧ goY (goY l w) (w.reverse.map Dir.back) = l
  | [], c, l, _, _ => ⟨rfl, rfl, rfl⟩
  | d :: w, c, l, hc, h => by
    simp only [offAt] at h
    split at h
    · rename_i hd
      obtain ⟨h1, h2, h3⟩ := back_home cs w (stp d c) (roll d l) hd (off_k cs w _ 1 0 h)
      have e : (d :: w).reverse.map Dir.back = w.reverse.map Dir.back ++ [d.back] := by simp
      rw [e]
      show offAt cs (goC (stp d c) w) _ 0 = none ∧ goC (goC (stp d c) w) _ = c ∧ goY (goY (roll d l) w) _ = l
      rw [goC_join, goY_join, h2, h3]
      refine ⟨off_join cs [d.back] _ _ _ h1 ?_, stp_back c d, roll_back l d⟩
      rw [h2]
      simp only [offAt]
      rw [stp_back, if_pos hc]
    · cases h
theorem stand_same (c : Cell) (l : Ly) (S : Sto) : gNe (.p (eSt c l)) (.p (eSt c l)) S = some (.p (.bool false), S) := by
  have h1 : SeqAt.shaped (eSt c l) = true := by simp [SeqAt.shaped, eSt, eC, eY, PyData.canLay0, PyData.canLayAll0, PyData.depth, PyData.depthAll]
  have h2 : PyData.eqv (eSt c l) (eSt c l) = true := by simp [eSt, eC, eY, PyData.eqv, PyData.eqvAll]
  show (match (if (false || (SeqAt.shaped (eSt c l) && SeqAt.shaped (eSt c l))) = true then some (PyData.eqv (eSt c l) (eSt c l)) else none) with
    | some k => ok (.bool (!k)) S
    | none => none) = _
  rw [h1, h2]; rfl
theorem cut_e {ρ : Ev} {i : Nat} {w : List Dir} {S : Sto} (hw : w.length ≤ 1000) (k : Nat) (h : ρ[i]? = some (some (.p (.str (rowS w))))) : den (.sl (.var i) .no (.yes (.int (k : Int)))) ρ S = some (.p (.str (rowS (w.take k))), S) := by
  simp only [den, denO, mSl, moNone, moSome, mVar, mC, h]
  exact cut_row hw k S
theorem rows_ok {cs : List Cell} (F : Floor cs) {c : Cell} (hc : c ∈ cs) {l : Ly} (hl : l ∈ lyings) (a0 a1 a2 a6 a7 x8 x9 x10 x11 x12 x13 : Option D) (rows : List (List Dir)) (hr : ∀ w ∈ rows, w.length ≤ 900) (S : Sto) :
    ∃ y8 y9 y10 y11 y12 y13 S', forL (denG (.nm 8)) (denSs bIn) (rowOf (rows.map fun w => .str (rowS w))) [a0, a1, a2, some (.p (.tuple (cs.map eC))), some (.p (eC c)), some (.p (eY l)), a6, a7, x8, x9, x10, x11, x12, x13] S
      = some (.nx [a0, a1, a2, some (.p (.tuple (cs.map eC))), some (.p (eC c)), some (.p (eY l)), a6, a7, y8, y9, y10, y11, y12, y13], S') := by
  obtain ⟨ρ', S', e, y8, y9, y10, y11, y12, y13, rfl⟩ := forL_inv (g := denG (.nm 8)) (b := denSs bIn) (fun _ ρ _ => ∃ y8 y9 y10 y11 y12 y13, ρ = [a0, a1, a2, some (.p (.tuple (cs.map eC))), some (.p (eC c)), some (.p (eY l)), a6, a7, y8, y9, y10, y11, y12, y13])
    (rowOf (rows.map fun w => .str (rowS w))) 0 _ S ⟨x8, x9, x10, x11, x12, x13, rfl⟩ fun j it ρ S hj ⟨y8, y9, y10, y11, y12, y13, hρ⟩ => by
    subst hρ
    obtain ⟨dv, hd, rfl⟩ := rowOf_get hj
    obtain ⟨w, hw, rfl⟩ := List.mem_map.mp (List.mem_of_getElem? hd)
    obtain ⟨z9, z10, z11, z12, z13, xs, e⟩ := inner_ok F hc hl (hr w hw) S a0 a1 a2 a6 a7 y9 y10 y11 y12 y13
    exact ⟨_, _, _, _, rfl, e, _, _, _, _, _, _, rfl⟩
  exact ⟨y8, y9, y10, y11, y12, y13, S', e⟩
theorem drawn_ok {ρ : Ev} {n : Nat} {S0 : Sto} (hρ : ρ[2]? = some (some (.r n))) (hρ' : ∀ x, ((wipeE ρ [13]).set 13 x)[2]? = some (some (.r n))) (P0 : Pen n S0) : ∃ (v : List Dir) (S' : Sto), v.length ≤ 12 ∧ Pen n S' ∧
    den (.meth .join (.str (Str.ofString "")) (.cons (.comp false (.r1 (.cons (.call (Str.ofString "_law_draw") 2 F_law_draw (.cons (.var 2) (.cons (.int 12) .nil))) .nil)) (.nm 13) .no (.ix (.str (Str.ofString "ensw")) (.call (Str.ofString "_law_draw") 2 F_law_draw (.cons (.var 2) (.cons (.int 4) .nil)))) [((Str.ofString "_law_lap"), 13)]) .nil)) ρ S0 = some (.p (.str (rowS v)), S') := by
  obtain ⟨r, S1, e1, a1, b1, P1, f1⟩ := draw_e (m := 12) hρ P0 (by decide) (by decide)
  obtain ⟨acc, S', e2, v, rfl, P2⟩ := compL_inv (g := denG (.nm 13)) (e := den (.ix (.str (Str.ofString "ensw")) (.call (Str.ofString "_law_draw") 2 F_law_draw (.cons (.var 2) (.cons (.int 4) .nil))))) (ρ := wipeE ρ [13]) (fun acc S => ∃ v : List Dir, acc = v.map eL ∧ Pen n S)
    (rowOf (rangeD 0 r.toNat)) [] S1 ⟨[], rfl, P1⟩ fun it hi acc S ⟨v, hv, P⟩ => by
    obtain ⟨x, _, rfl⟩ := List.mem_map.mp hi
    obtain ⟨d, S3, e3, P3, _⟩ := drawL_e (ρ := (wipeE ρ [13]).set 13 (some (.p x))) (i := 2) (hρ' _) P
    exact ⟨_, _, _, _, rfl, e3, v ++ [d], by rw [hv]; simp, P3⟩
  have hl := compL_len _ _ _ _ _ e2
  have hlen : (rowOf (rangeD 0 r.toNat)).length = r.toNat := by rw [rowOf_len]; unfold rangeD; simp
  rw [hlen, List.length_map] at hl
  simp at hl
  exact ⟨v, S', by omega, P2, e_meth rfl rfl (e_cons (e_comp (i_range (e_cons e1 e_nil) a1 (by omega)) e2) e_nil) (join_row (by omega) S')⟩
theorem out_ok (ns : List Int) (k : Nat) (x1 x2 x3 x4 x5 x6 x7 x8 x9 x10 x11 x12 x13 : Option D) (S : Sto) :
    ∃ y2 y3 y4 y5 y6 y7 y8 y9 y10 y11 y12 y13 S', denSs bOut [some (.p (.list (ns.map .int))), some (.p (.int (k : Nat))), x2, x3, x4, x5, x6, x7, x8, x9, x10, x11, x12, x13] S
      = some (.nx [some (.p (.list (ns.map .int))), some (.p (.int (k : Nat))), y2, y3, y4, y5, y6, y7, y8, y9, y10, y11, y12, y13], S') := by
  obtain ⟨x, ex⟩ := cell_at_ok ns k S
  obtain ⟨S1, ep, P1, _, _⟩ := pen_ok x S
  obtain ⟨cs, S2, ef, F, P2, _⟩ := floor_ok P1
  obtain ⟨c, l, S3, hc, hl, es, P3, _⟩ := stand_ok P2 F
  obtain ⟨w, S4, hw, ho, er, P4, _⟩ := row_ok P3 hc
  obtain ⟨v, S5, hv, P5, ed⟩ := drawn_ok (ρ := [some (.p (.list (ns.map .int))), some (.p (.int (k : Nat))), some (.r S.length), some (.p (.tuple (cs.map eC))), some (.p (eC c)), some (.p (eY l)), some (.p (.str (rowS w))), x7, x8, x9, x10, x11, x12, x13]) rfl (fun _ => rfl) P4
  let R : Ev := [some (.p (.list (ns.map .int))), some (.p (.int (k : Nat))), some (.r S.length), some (.p (.tuple (cs.map eC))), some (.p (eC c)), some (.p (eY l)), some (.p (.str (rowS w))), some (.p (.str (rowS v))), x8, x9, x10, x11, x12, x13]
  obtain ⟨d, S6, e6, P6, _⟩ := drawL_e (ρ := R) (i := 2) rfl P5
  have hb := back_home cs (w.take 30) c l hc (off_take cs 30 w c 0 ho)
  have h30 : (w.take 30).length ≤ 30 := List.length_take_le _ _
  have h59 : (w.take 59).length ≤ 59 := List.length_take_le _ _
  have hbl : ((w.take 30).reverse.map Dir.back).length ≤ 30 := by simp; omega
  obtain ⟨y8, y9, y10, y11, y12, y13, S7, e7⟩ := rows_ok F hc hl (some (.p (.list (ns.map .int)))) (some (.p (.int (k : Nat)))) (some (.r S.length)) (some (.p (.str (rowS w)))) (some (.p (.str (rowS v)))) x8 x9 x10 x11 x12 x13 [w, v, [], w.take 59 ++ [d], w.take 30 ++ (w.take 30).reverse.map Dir.back] (fun u hu => by
    simp only [List.mem_cons, List.not_mem_nil, or_false] at hu
    rcases hu with rfl | rfl | rfl | rfl | rfl
    · omega
    · omega
    · simp
    · rw [List.length_append]; simp only [List.length_singleton]; omega
    · rw [List.length_append]; omega) S6
  have eB : ∀ (ρ : Ev) (S : Sto), ρ[6]? = some (some (.p (.str (rowS w)))) → den (.bin .add (.sl (.var 6) .no (.yes (.int 30))) (.call (Str.ofString "_law_back") 1 F_law_back (.cons (.sl (.var 6) .no (.yes (.int 30))) .nil))) ρ S = some (.p (.str (rowS (w.take 30 ++ (w.take 30).reverse.map Dir.back))), S) := fun ρ S h =>
    e_bin (cut_e (by omega) 30 h) (e_call (e_cons (cut_e (by omega) 30 h) e_nil) (back_eq (by omega) S)) (add_row (by omega) (by omega) S)
  have eL5 : den (.lst false (.cons (.var 6) (.cons (.var 7) (.cons (.str (Str.ofString "")) (.cons (.bin .add (.sl (.var 6) .no (.yes (.int 59))) (.ix (.str (Str.ofString "ensw")) (.call (Str.ofString "_law_draw") 2 F_law_draw (.cons (.var 2) (.cons (.int 4) .nil))))) (.cons (.bin .add (.sl (.var 6) .no (.yes (.int 30))) (.call (Str.ofString "_law_back") 1 F_law_back (.cons (.sl (.var 6) .no (.yes (.int 30))) .nil))) .nil)))))) R S5
      = some (.p (.list ([w, v, [], w.take 59 ++ [d], w.take 30 ++ (w.take 30).reverse.map Dir.back].map fun w => .str (rowS w))), S6) :=
    e_lst (e_cons rfl (e_cons rfl (e_cons rfl (e_cons (e_bin (cut_e (by omega) 59 rfl) e6 (add_row (b := [d]) (by omega) (by simp) S6)) (e_cons (eB R S6 rfl) e_nil))))) rfl
  have hoff := off_join cs _ _ _ 0 (off_take cs 30 w c 0 ho) hb.1
  have eS := stand_behind_eq F hc hl (w := w.take 30 ++ (w.take 30).reverse.map Dir.back) (by rw [List.length_append]; omega) hoff S7
  rw [goC_join, goY_join, hb.2.1, hb.2.2] at eS
  refine ⟨_, _, _, _, _, _, _, _, _, _, _, _, S7, l_asg (e_call (e_cons (e_call (e_cons rfl (e_cons rfl e_nil)) ex) e_nil) ep) rfl (l_asg (e_call (e_cons rfl (e_cons rfl e_nil)) ef) rfl (l_asg (e_call (e_cons rfl (e_cons rfl e_nil)) es) rfl (l_asg (e_call (e_cons rfl (e_cons rfl (e_cons rfl (e_cons rfl e_nil)))) er) rfl
    (l_asg ed rfl (l_loop (i_lst eL5) e7 (l_ifF (t_cmp (e_cmp (e_call (e_cons rfl (e_cons rfl (e_cons rfl (e_cons (eB _ S7 rfl) e_nil)))) eS) (e_tup (e_cons rfl (e_cons rfl e_nil)) rfl) (stand_same c l S7))) l_nil l_nil))))))⟩
theorem lyr : isT (F_law_lyings_right [] []) = true := by decide +kernel
theorem law_true : ∀ ns : List Int, ns.length ≤ 63 → ∃ S, F_law [.p (.list (ns.map .int))] [] = some (.p (.bool true), S) := by
  intro ns hns
  obtain ⟨S1, h1⟩ := isT_ok lyr
  obtain ⟨ρ', S', e, x1, x2, x3, x4, x5, x6, x7, x8, x9, x10, x11, x12, x13, rfl⟩ := forL_inv (g := denG (.nm 1)) (b := denSs bOut) (fun _ ρ _ => ∃ x1 x2 x3 x4 x5 x6 x7 x8 x9 x10 x11 x12 x13, ρ = [some (.p (.list (ns.map .int))), x1, x2, x3, x4, x5, x6, x7, x8, x9, x10, x11, x12, x13])
    (rowOf (rangeD 0 (if (if (5 : Int) < (ns.map PyData.int).length then 5 else ((ns.map PyData.int).length : Int)) > 1 then (if (5 : Int) < (ns.map PyData.int).length then 5 else ((ns.map PyData.int).length : Int)) else 1).toNat)) 0 [some (.p (.list (ns.map .int))), none, none, none, none, none, none, none, none, none, none, none, none, none] S1 ⟨none, none, none, none, none, none, none, none, none, none, none, none, none, rfl⟩ fun j it ρ S hj ⟨x1, x2, x3, x4, x5, x6, x7, x8, x9, x10, x11, x12, x13, hρ⟩ => by
    subst hρ
    obtain ⟨dv, hd, rfl⟩ := rowOf_get hj
    have hdv : dv = .int (j : Nat) := by
      unfold rangeD at hd
      rw [List.getElem?_map] at hd
      have hjl := (List.getElem?_eq_some_iff.mp hj).1
      rw [rowOf_len] at hjl
      unfold rangeD at hjl
      rw [List.length_map] at hjl
      rw [List.getElem?_range (by simpa using hjl)] at hd
      simp at hd
      exact hd.symm
    subst hdv
    obtain ⟨y2, y3, y4, y5, y6, y7, y8, y9, y10, y11, y12, y13, S2, e2⟩ := out_ok ns j none x2 x3 x4 x5 x6 x7 x8 x9 x10 x11 x12 x13 S
    exact ⟨_, _, _, _, rfl, e2, _, _, _, _, _, _, _, _, _, _, _, _, _, rfl⟩
  refine ⟨S', l_fn rfl (l_ifF (t_not1 (t_call (e_call e_nil h1))) l_nil (l_loop (i_range (j := if (if (5 : Int) < (ns.map PyData.int).length then 5 else ((ns.map PyData.int).length : Int)) > 1 then (if (5 : Int) < (ns.map PyData.int).length then 5 else ((ns.map PyData.int).length : Int)) else 1) ?_ ?_ ?_) e (l_ret rfl)))⟩
  · exact e_cons (e_prim (e_cons rfl (e_cons (e_prim (e_cons (e_prim (e_cons rfl e_nil) rfl) (e_cons rfl e_nil)) rfl) e_nil)) rfl) e_nil
  · split <;> split <;> omega
  · split <;> split <;> omega
end Tm.K02
open PySem PySem.W PySem.Calls PyProof.Rows
theorem PySem.Challenge.cw_tumblemarks_k02_rolls_and_stands_holds : PySem.Challenge.rw_tumblemarks_k02_rolls_and_stands.Holds := by
  w_on; o_law
  refine HandSHeadRun.head_any (r := Tm.K02.R) (q := view Tm.K02.R.prog [51]) (H := Tm.K02.hk) (ob := Tm.K02.ob) (M := 4000) (loose := Tm.K02.nms) (d := HandSHeadRun.topDef Tm.K02.R.prog 51) (kwd := []) Tm.K02.ob_eq (by kernel_rfl)
    (fun s => by kernel_rfl) Tm.K02.run (by kernel_rfl) (by kernel_rfl) (by kernel_rfl) (by rfl) (by first | assumption | decide +kernel) (by decide +kernel) ⟨rfl, rfl, rfl, rfl, rfl, by decide +kernel⟩ ?hw ?hc
  case hw => w_witness2
  case hc =>
    refine Tm.walk_G (l := PySem.Challenge.rw_tumblemarks_k02_rolls_and_stands) (n := 63) (k := 7) (x := Str.ofString "_law_script") (F := Tm.K02.F_law) rfl (by decide) (by kernel_rfl) ⟨rfl, by decide, by decide⟩ ?F Tm.K02.law_true
    intro w mg fa h Y G hm0
    obtain ⟨K, KX, c, cc⟩ := Y
    have hm : mg (Str.ofString "law") = some (.ref fa) := by
      have e : (HandSHeadRun.topDef Tm.K02.R.prog 51).name = Str.ofString "law" := by kernel_rfl
      rw [← e]; exact hm0
    obtain ⟨fd, hb, hF⟩ := Tm.K02.k_law (P := (PySem.Challenge.rw_tumblemarks_k02_rolls_and_stands).prog) ⟨KX, G, c, cc⟩ hm
    exact ⟨K, fd, KX, hb, fun base _ _ => hF base⟩

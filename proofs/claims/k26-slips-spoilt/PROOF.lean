import PyProof.Rows.All
import Wide.All
import OpenK.AllK
import Wide.FinOn
import HandS.ForMost
import HandS.IsInst
import HandS.Deep
import HandS.Flow
import HandS.Wide
import HandS.Style
import HandS.Ends
import HandS.HeadEnd
import HandS.Defaults
import HandS.Walk
import HandS.Zip
import HandS.Rev
import HandS.TupAny
import HandS.TupMul
import HandS.Text
import PyProof.P3In
import PyProof.Rows.SeqMore
import PyProof.StrOps2
import HandS.RaiseMore
import HandS.Conv
import PyProof.ListStr
import PyProof.ReprRoads
import PyProof.CallFns
import KE.GoesNew
import KE.GoesMore
import PyProof.EnumMake
import HandS.Iter
import HandS.Dict
import HandS.Strs
import HandS.Codes
import PyProof.Rows.StrRev
import PyProof.SliceStr2
import KE.KStateDown
import HandS.More
import HandS.Words
import HandS.WordsExc
import HandS.Head0
import HandS.Head1
import HandS.Head2
import HandS.HeadHook1
import HandS.HeadHook2
import KE.IntTextLaws
import PySem.Challenge.RW_contesthouse_k26_whole_texts_of_slips_sp
import PyProof.Rows.RegFStrParts
section Sh1__
set_option Elab.async false
set_option linter.all false
set_option autoImplicit false
set_option maxRecDepth 100000
set_option maxHeartbeats 4000000
/-! Sh1: values of Python as plain data; frozen and owned objects; what a reading by data is; its rules for names, constants, operators. -/
namespace Sh
open PySem L2

abbrev D := PyData
abbrev SS := List (Option V)
abbrev Fz := Addr → Prop

/-- a list, a tuple of the written part -/
def KL (K : PySem.W.Frag) (a : Addr) (xs : List V) : Prop :=
  ∃ (o : Obj) (its : Array Value) (n : Nat), K.lookup a = some o ∧ o.cls = .type "list" ∧ o.dict = none ∧ o.data = .seq its n ∧ its.size ≤ sizeLine ∧ Vals xs its.toList
def KT (K : PySem.W.Frag) (a : Addr) (xs : List V) : Prop :=
  ∃ (o : Obj) (its : Array Value) (n : Nat), K.lookup a = some o ∧ o.cls = .type "tuple" ∧ o.data = .seq its n ∧ its.size ≤ sizeLine ∧ Vals xs its.toList

mutual
/-- v stands for d, all its objects frozen: in F, or of the written part -/
inductive DF (K : PySem.W.Frag) (F : Fz) (H : Hp) : V → D → Prop
  | non : DF K F H .non .none
  | bl (b : Bool) : DF K F H (.bl b) (.bool b)
  | int (i : Int) : DF K F H (.int i) (.int i)
  | str (x : Str) (hx : x.length ≤ sizeLine) : DF K F H (.str x) (.str x)
  | lst {a : Addr} {xs : List V} {ds : List D} : ((F a ∧ Rd H a (.lst xs)) ∨ KL K a xs) → DFs K F H xs ds → DF K F H (.ref a) (.list ds)
  | tup {a : Addr} {xs : List V} {ds : List D} : ((F a ∧ Rd H a (.tup xs)) ∨ KT K a xs) → DFs K F H xs ds → DF K F H (.ref a) (.tuple ds)
inductive DFs (K : PySem.W.Frag) (F : Fz) (H : Hp) : List V → List D → Prop
  | nil : DFs K F H [] []
  | cons {v : V} {vs : List V} {d : D} {ds : List D} : DF K F H v d → DFs K F H vs ds → DFs K F H (v :: vs) (d :: ds)
end

section
variable {K : PySem.W.Frag} {F F' : Fz} {H H' : Hp}
/-- what is frozen stays -/
def Keeps (F : Fz) (H : Hp) (F' : Fz) (H' : Hp) : Prop := ∀ a, F a → F' a ∧ ∀ o, H a = some o → H' a = some o
theorem Keeps.rd (k : Keeps F H F' H') {a : Addr} {u : HO} (h : F a) (r : Rd H a u) : Rd H' a u := by
  rcases r with r | ⟨o, r⟩
  · exact .inl ((k a h).2 _ r)
  · exact .inr ⟨o, (k a h).2 _ r⟩
mutual
theorem DF.keeps (k : Keeps F H F' H') : ∀ {v : V} {d : D}, DF K F H v d → DF K F' H' v d
  | _, _, .non => .non
  | _, _, .bl b => .bl b
  | _, _, .int i => .int i
  | _, _, .str x hx => .str x hx
  | _, _, .lst h hs => .lst (h.imp (fun z => ⟨(k _ z.1).1, k.rd z.1 z.2⟩) id) (DFs.keeps k hs)
  | _, _, .tup h hs => .tup (h.imp (fun z => ⟨(k _ z.1).1, k.rd z.1 z.2⟩) id) (DFs.keeps k hs)
theorem DFs.keeps (k : Keeps F H F' H') : ∀ {vs : List V} {ds : List D}, DFs K F H vs ds → DFs K F' H' vs ds
  | _, _, .nil => .nil
  | _, _, .cons h hs => .cons (DF.keeps k h) (DFs.keeps k hs)
end
theorem DFs.length : ∀ {vs : List V} {ds : List D}, DFs K F H vs ds → vs.length = ds.length
  | _, _, .nil => rfl
  | _, _, .cons _ h => by rw [List.length_cons, List.length_cons, DFs.length h]
theorem DFs.get : ∀ {vs : List V} {ds : List D} {i : Nat} {d : D}, DFs K F H vs ds → ds[i]? = some d → ∃ v, vs[i]? = some v ∧ DF K F H v d
  | _, _, _, _, .nil, e => by simp at e
  | _, _, 0, _, .cons h _, e => by simp at e; subst e; exact ⟨_, rfl, h⟩
  | _, _, i + 1, d, .cons _ h, e => by
    obtain ⟨v, h1, h2⟩ := DFs.get (i := i) (d := d) h (by simpa using e)
    exact ⟨v, by simpa using h1, h2⟩
theorem DFs.getV : ∀ {vs : List V} {ds : List D} {i : Nat} {v : V}, DFs K F H vs ds → vs[i]? = some v → ∃ d, ds[i]? = some d ∧ DF K F H v d
  | _, _, _, _, .nil, e => by simp at e
  | _, _, 0, _, .cons h _, e => by simp at e; subst e; exact ⟨_, rfl, h⟩
  | _, _, i + 1, v, .cons _ h, e => by
    obtain ⟨d, h1, h2⟩ := DFs.getV (i := i) (v := v) h (by simpa using e)
    exact ⟨d, by simpa using h1, h2⟩
theorem DFs.append : ∀ {vs ws : List V} {ds es : List D}, DFs K F H vs ds → DFs K F H ws es → DFs K F H (vs ++ ws) (ds ++ es)
  | _, _, _, _, .nil, h => h
  | _, _, _, _, .cons a b, h => .cons a (DFs.append b h)
theorem DFs.take : ∀ {vs : List V} {ds : List D} (n : Nat), DFs K F H vs ds → DFs K F H (vs.take n) (ds.take n)
  | _, _, 0, _ => .nil
  | _, _, _ + 1, .nil => .nil
  | _, _, n + 1, .cons a b => .cons a (DFs.take n b)
theorem DFs.drop : ∀ {vs : List V} {ds : List D} (n : Nat), DFs K F H vs ds → DFs K F H (vs.drop n) (ds.drop n)
  | _, _, 0, h => h
  | _, _, _ + 1, .nil => .nil
  | _, _, n + 1, .cons _ b => DFs.drop n b
theorem DFs.set : ∀ {vs : List V} {ds : List D} {v : V} {d : D} (n : Nat), DF K F H v d → DFs K F H vs ds → DFs K F H (vs.set n v) (ds.set n d)
  | _, _, _, _, _, _, .nil => .nil
  | _, _, _, _, 0, x, .cons _ b => .cons x b
  | _, _, _, _, n + 1, x, .cons a b => .cons a (DFs.set n x b)
theorem DFs.eraseIdx : ∀ {vs : List V} {ds : List D} (n : Nat), DFs K F H vs ds → DFs K F H (vs.eraseIdx n) (ds.eraseIdx n)
  | _, _, _, .nil => .nil
  | _, _, 0, .cons _ b => b
  | _, _, n + 1, .cons a b => .cons a (DFs.eraseIdx n b)
theorem DFs.reverse : ∀ {vs : List V} {ds : List D}, DFs K F H vs ds → DFs K F H vs.reverse ds.reverse
  | _, _, .nil => .nil
  | _, _, .cons a b => by rw [List.reverse_cons, List.reverse_cons]; exact DFs.append (DFs.reverse b) (.cons a .nil)
/-- frozen data is data -/
theorem KL.sq {a : Addr} {xs : List V} (h : (F a ∧ Rd H a (.lst xs)) ∨ KL K a xs) : SqL K H a xs := h.imp (·.2) id
theorem KT.sq {a : Addr} {xs : List V} (h : (F a ∧ Rd H a (.tup xs)) ∨ KT K a xs) : SqT K H a xs := h.imp (·.2) id
mutual
theorem DF.dp : ∀ {v : V} {d : D}, DF K F H v d → Dp K H v d
  | _, _, .non => .non
  | _, _, .bl b => .bl b
  | _, _, .int i => .int i
  | _, _, .str x _ => .str x
  | _, _, .lst h hs => .lst (KL.sq h) (DFs.dps hs)
  | _, _, .tup h hs => .tup (KT.sq h) (DFs.dps hs)
theorem DFs.dps : ∀ {vs : List V} {ds : List D}, DFs K F H vs ds → DpAll K H vs ds
  | _, _, .nil => .nil
  | _, _, .cons h hs => .cons (DF.dp h) (DFs.dps hs)
end
/-- a value that stands for none of the lists and tuples hangs on no heap -/
def flat : D → Bool
  | .none => true | .bool _ => true | .int _ => true | .str _ => true | _ => false
/-- an object that nothing else may know: a list whose items are frozen -/
structure Ow (K : PySem.W.Frag) (F : Fz) (H : Hp) (a : Addr) (d : D) : Prop where
  ex : ∃ (ds : List D) (vs : List V), d = .list ds ∧ H a = some (.lst vs) ∧ DFs K F H vs ds
  nf : ¬ F a
end

/-- what a name holds: nothing, frozen data, an object of its own (io: one that a caller handed in to be changed) -/
inductive Sl where
  | un | fz (d : D) | ow (io : Bool) (d : D)
abbrev En := List Sl
/-- what an expression gives: frozen data, a new object that nobody knows yet, what stands at a name's object -/
inductive Va where
  | fz (d : D) | fr (d : D) | bo (i : Nat)

/-- a belongs to a name -/
def Ows (σ : SS) (e : En) (a : Addr) : Prop := ∃ (i : Nat) (io : Bool) (d : D), e[i]? = some (.ow io d) ∧ σ[i]? = some (some (.ref a))

structure Gd (K : PySem.W.Frag) (F : Fz) (σ : SS) (H : Hp) (e : En) : Prop where
  len : σ.length = e.length
  fz : ∀ (i : Nat) (d : D), e[i]? = some (.fz d) → ∃ v, σ[i]? = some (some v) ∧ DF K F H v d
  ow : ∀ (i : Nat) (io : Bool) (d : D), e[i]? = some (.ow io d) → ∃ a, σ[i]? = some (some (.ref a)) ∧ Ow K F H a d
  sep : ∀ (i j : Nat) (io io' : Bool) (d d' : D) (a : Addr), e[i]? = some (.ow io d) → e[j]? = some (.ow io' d') → σ[i]? = some (some (.ref a)) → σ[j]? = some (some (.ref a)) → i = j
  fw : ∀ a, F a → ∃ o, H a = some o

/-- from one state to a later one -/
structure Stp (F : Fz) (σ : SS) (H : Hp) (e : En) (F' : Fz) (σ' : SS) (H' : Hp) (e' : En) : Prop where
  mono : ∀ a, F a → F' a
  keep : ∀ a o, H a = some o → ¬ Ows σ e a → H' a = some o
  there : ∀ a o, H a = some o → ∃ o', H' a = some o'
  own : ∀ a, Ows σ' e' a → Ows σ e a ∨ H a = none
  fro : ∀ a, F' a → F a ∨ H a = none ∨ Ows σ e a
  io : ∀ (i : Nat) (d : D), e[i]? = some (.ow true d) → σ'[i]? = σ[i]? ∧ ∃ d', e'[i]? = some (.ow true d')
  ln : e'.length = e.length

section
variable {K : PySem.W.Frag} {F F1 F2 : Fz} {σ σ1 σ2 : SS} {H H1 H2 : Hp} {e e1 e2 : En}
theorem Gd.nof (o : Gd K F σ H e) {a : Addr} (h : Ows σ e a) : ¬ F a := by
  obtain ⟨i, io, d, h1, h2⟩ := h
  obtain ⟨b, h3, h4⟩ := o.ow i io d h1
  rw [h2] at h3; cases h3
  exact h4.nf
theorem Gd.own_there (o : Gd K F σ H e) {a : Addr} (h : Ows σ e a) : ∃ u, H a = some u := by
  obtain ⟨i, io, d, h1, h2⟩ := h
  obtain ⟨b, h3, h4⟩ := o.ow i io d h1
  rw [h2] at h3; cases h3
  obtain ⟨ds, vs, _, z, _⟩ := h4.ex
  exact ⟨_, z⟩
theorem Stp.refl : Stp F σ H e F σ H e := ⟨fun _ h => h, fun _ _ h _ => h, fun _ o h => ⟨o, h⟩, fun _ h => .inl h, fun _ h => .inl h, fun _ d h => ⟨rfl, d, h⟩, rfl⟩
theorem Stp.none_back (s : Stp F σ H e F1 σ1 H1 e1) {a : Addr} (h : H1 a = none) : H a = none := by
  cases z : H a with
  | none => rfl
  | some o =>
    obtain ⟨o', z'⟩ := s.there a o z
    rw [h] at z'; cases z'
theorem Stp.trans (a : Stp F σ H e F1 σ1 H1 e1) (b : Stp F1 σ1 H1 e1 F2 σ2 H2 e2) : Stp F σ H e F2 σ2 H2 e2 where
  mono := fun x h => b.mono x (a.mono x h)
  keep := fun x o h n => b.keep x o (a.keep x o h n) fun z => (a.own x z).elim n fun z' => by rw [h] at z'; cases z'
  there := fun x o h => by
    obtain ⟨o', h'⟩ := a.there x o h
    exact b.there x o' h'
  own := fun x h => by
    rcases b.own x h with z | z
    · exact a.own x z
    · exact .inr (a.none_back z)
  fro := fun x h => by
    rcases b.fro x h with z | z | z
    · exact a.fro x z
    · exact .inr (.inl (a.none_back z))
    · rcases a.own x z with z' | z'
      · exact .inr (.inr z')
      · exact .inr (.inl z')
  io := fun i d h => by
    obtain ⟨h1, d1, h2⟩ := a.io i d h
    obtain ⟨h3, d2, h4⟩ := b.io i d1 h2
    exact ⟨h3.trans h1, d2, h4⟩
  ln := b.ln.trans a.ln
theorem Stp.keeps (o : Gd K F σ H e) (s : Stp F σ H e F1 σ1 H1 e1) : Keeps F H F1 H1 := fun a h =>
  ⟨s.mono a h, fun u hu => s.keep a u hu fun z => o.nof z h⟩
end

/-- v is what va says -/
def RV (K : PySem.W.Frag) (F : Fz) (σ : SS) (H : Hp) (e : En) (v : V) : Va → Prop
  | .fz d => DF K F H v d
  | .fr d => ∃ a, v = .ref a ∧ Ow K F H a d ∧ ¬ Ows σ e a
  | .bo i => σ[i]? = some (some v)
/-- a new object is new -/
def Nw (H : Hp) (v : V) : Va → Prop
  | .fr _ => ∀ a, v = .ref a → H a = none
  | _ => True
section
variable {K : PySem.W.Frag} {F F1 F2 : Fz} {σ σ1 σ2 : SS} {H H1 H2 : Hp} {e e1 e2 : En} {v : V} {va : Va}
theorem Ow.step {a : Addr} {d : D} (o : Gd K F σ H e) (s : Stp F σ H e F1 σ1 H1 e1) (h : Ow K F H a d) (n : ¬ Ows σ e a) : Ow K F1 H1 a d ∧ ¬ Ows σ1 e1 a := by
  obtain ⟨⟨ds, vs, e0, z, hs⟩, nf⟩ := h
  refine ⟨⟨⟨ds, vs, e0, s.keep a _ z n, hs.keeps (s.keeps o)⟩, fun q => ?_⟩, fun q => ?_⟩
  · rcases s.fro a q with q | q | q
    · exact nf q
    · rw [z] at q; cases q
    · exact n q
  · rcases s.own a q with q | q
    · exact n q
    · rw [z] at q; cases q
/-- .. stays so -/
theorem RV.step (o : Gd K F σ H e) (s : Stp F σ H e F1 σ H1 e1) (h : RV K F σ H e v va) : RV K F1 σ H1 e1 v va := by
  cases va with
  | fz d => exact DF.keeps (s.keeps o) h
  | fr d =>
    obtain ⟨a, e0, ow, n⟩ := h
    obtain ⟨h1, h2⟩ := Ow.step o s ow n
    exact ⟨a, e0, h1, h2⟩
  | bo i => exact h
end

/-- the data that is read there -/
def rd (e : En) : Va → Option D
  | .fz d => some d
  | .fr d => some d
  | .bo i => match e[i]? with
    | some (.fz d) => some d
    | some (.ow _ d) => some d
    | _ => none
/-- as data that is read: frozen, or a list with frozen items -/
def DR (K : PySem.W.Frag) (F : Fz) (H : Hp) (v : V) (d : D) : Prop := DF K F H v d ∨ ∃ (a : Addr) (ds : List D) (vs : List V), v = .ref a ∧ d = .list ds ∧ H a = some (.lst vs) ∧ DFs K F H vs ds
section
variable {K : PySem.W.Frag} {F : Fz} {σ : SS} {H : Hp} {e : En} {v : V} {va : Va} {d : D}
theorem Ow.dr {a : Addr} (h : Ow K F H a d) : DR K F H (.ref a) d := by
  obtain ⟨ds, vs, e0, z, hs⟩ := h.ex
  exact .inr ⟨a, ds, vs, rfl, e0, z, hs⟩
theorem RV.dr (o : Gd K F σ H e) (h : RV K F σ H e v va) (r : rd e va = some d) : DR K F H v d := by
  cases va with
  | fz d' => cases r; exact .inl h
  | fr d' =>
    cases r
    obtain ⟨a, rfl, ow, _⟩ := h
    exact ow.dr
  | bo i =>
    simp only [rd] at r
    cases q : e[i]? with
    | none => rw [q] at r; cases r
    | some sl =>
      rw [q] at r
      have h : σ[i]? = some (some v) := h
      cases sl with
      | un => cases r
      | fz d' =>
        cases r
        obtain ⟨v', h1, h2⟩ := o.fz i d q
        rw [h] at h1; cases h1
        exact .inl h2
      | ow io d' =>
        cases r
        obtain ⟨a, h1, h2⟩ := o.ow i io d q
        rw [h] at h1; cases h1
        exact h2.dr
theorem DR.dp (h : DR K F H v d) : Dp K H v d := by
  rcases h with h | ⟨a, ds, vs, rfl, rfl, z, hs⟩
  · exact h.dp
  · exact .lst (SqL.of z) hs.dps
theorem DR.int {i : Int} (h : DR K F H v (.int i)) : v = .int i := by
  rcases h with h | ⟨a, ds, vs, _, z, _⟩
  · cases h; rfl
  · cases z
theorem DR.bl {b : Bool} (h : DR K F H v (.bool b)) : v = .bl b := by
  rcases h with h | ⟨a, ds, vs, _, z, _⟩
  · cases h; rfl
  · cases z
theorem DR.non (h : DR K F H v .none) : v = .non := by
  rcases h with h | ⟨a, ds, vs, _, z, _⟩
  · cases h; rfl
  · cases z
theorem DR.str {x : Str} (h : DR K F H v (.str x)) : v = .str x ∧ x.length ≤ sizeLine := by
  rcases h with h | ⟨a, ds, vs, _, z, _⟩
  · cases h; exact ⟨rfl, by assumption⟩
  · cases z
theorem DR.lst {ds : List D} (h : DR K F H v (.list ds)) : ∃ a vs, v = .ref a ∧ SqL K H a vs ∧ DFs K F H vs ds := by
  rcases h with h | ⟨a, ds', vs, e0, z, h1, h2⟩
  · cases h with
    | lst hl hs => exact ⟨_, _, rfl, KL.sq hl, hs⟩
  · cases z; exact ⟨a, vs, e0, SqL.of h1, h2⟩
theorem DR.tup {ds : List D} (h : DR K F H v (.tuple ds)) : ∃ a vs, v = .ref a ∧ SqT K H a vs ∧ DFs K F H vs ds := by
  rcases h with h | ⟨a, ds', vs, e0, z, h1, h2⟩
  · cases h with
    | tup hl hs => exact ⟨_, _, rfl, KT.sq hl, hs⟩
  · cases z
theorem DR.nodict {kvs : List (D × D)} (h : DR K F H v (.dict kvs)) : False := by
  rcases h with h | ⟨a, ds', vs, e0, z, h1, h2⟩
  · cases h
  · cases z
end

/-! ### freezing -/
/-- as frozen data; a name's own object is its own no more -/
def fzn (e : En) : Va → Option (D × En)
  | .fz d => some (d, e)
  | .fr d => some (d, e)
  | .bo i => match e[i]? with
    | some (.fz d) => some (d, e)
    | some (.ow false d) => some (d, e.set i (.fz d))
    | _ => none
section
variable {K : PySem.W.Frag} {F : Fz} {σ : SS} {H : Hp} {e : En} {v : V} {va : Va} {d : D} {e' : En}
theorem DFs.more {F' : Fz} (h : ∀ a, F a → F' a) {vs : List V} {ds : List D} (x : DFs K F H vs ds) : DFs K F' H vs ds := x.keeps fun a q => ⟨h a q, fun _ z => z⟩
theorem DF.more {F' : Fz} (h : ∀ a, F a → F' a) {v : V} {d : D} (x : DF K F H v d) : DF K F' H v d := x.keeps fun a q => ⟨h a q, fun _ z => z⟩
theorem Ows.set_of {i : Nat} {s : Sl} (hs : ∀ io d, s ≠ .ow io d) {a : Addr} (h : Ows σ (e.set i s) a) : Ows σ e a := by
  obtain ⟨j, io, d, h1, h2⟩ := h
  by_cases hj : i = j
  · subst hj
    by_cases hi : i < e.length
    · rw [List.getElem?_set_self hi] at h1
      exact absurd (Option.some.inj h1) (hs io d)
    · rw [List.getElem?_eq_none (by simpa using hi)] at h1; cases h1
  · rw [List.getElem?_set_ne hj] at h1
    exact ⟨j, io, d, h1, h2⟩
/-- a name's object becomes frozen -/
theorem Gd.freeze_at (o : Gd K F σ H e) {i : Nat} {a : Addr} (he : e[i]? = some (.ow false d)) (hs : σ[i]? = some (some (.ref a))) :
    Gd K (fun b => F b ∨ b = a) σ H (e.set i (.fz d)) ∧ Stp F σ H e (fun b => F b ∨ b = a) σ H (e.set i (.fz d)) ∧ DF K (fun b => F b ∨ b = a) H (.ref a) d := by
  have hi : i < e.length := (List.getElem?_eq_some_iff.mp he).1
  obtain ⟨a', h1, h2⟩ := o.ow i false d he
  rw [hs] at h1; cases h1
  obtain ⟨ds, vs, rfl, z, hd⟩ := h2.ex
  have hdf : DF K (fun b => F b ∨ b = a) H (.ref a) (.list ds) := .lst (.inl ⟨.inr rfl, .inl z⟩) (hd.more fun _ q => .inl q)
  have sub : ∀ {b}, Ows σ (e.set i (.fz (.list ds))) b → Ows σ e b := fun h => Ows.set_of (fun _ _ q => by cases q) h
  refine ⟨⟨by rw [List.length_set]; exact o.len, fun j d' hj => ?_, fun j io d' hj => ?_, fun j k io io' d1 d2 b h1 h2 h3 h4 => ?_, fun b hb => ?_⟩, ⟨fun b q => .inl q, fun _ _ q _ => q, fun _ u q => ⟨u, q⟩, fun b q => .inl (sub q), fun b q => ?_, fun j d' q => ?_, by rw [List.length_set]⟩, hdf⟩
  · by_cases hij : i = j
    · subst hij
      rw [List.getElem?_set_self hi] at hj; cases hj
      exact ⟨_, hs, hdf⟩
    · rw [List.getElem?_set_ne hij] at hj
      obtain ⟨v, q1, q2⟩ := o.fz j d' hj
      exact ⟨v, q1, q2.more fun _ q => .inl q⟩
  · by_cases hij : i = j
    · subst hij
      rw [List.getElem?_set_self hi] at hj; cases hj
    · rw [List.getElem?_set_ne hij] at hj
      obtain ⟨b, q1, q2⟩ := o.ow j io d' hj
      obtain ⟨es, ws, rfl, y, hy⟩ := q2.ex
      refine ⟨b, q1, ⟨es, ws, rfl, y, hy.more fun _ q => .inl q⟩, fun q => ?_⟩
      rcases q with q | q
      · exact q2.nf q
      · subst q
        exact hij (o.sep i j _ _ _ _ b he hj hs q1)
  · have f : ∀ {j : Nat} {io : Bool} {d' : D}, (e.set i (.fz (.list ds)))[j]? = some (.ow io d') → e[j]? = some (.ow io d') := fun {j io d'} q => by
      by_cases hij : i = j
      · subst hij
        rw [List.getElem?_set_self hi] at q; cases q
      · rwa [List.getElem?_set_ne hij] at q
    exact o.sep j k io io' d1 d2 b (f h1) (f h2) h3 h4
  · rcases hb with q | q
    · exact o.fw b q
    · subst q; exact ⟨_, z⟩
  · rcases q with q | q
    · exact .inl q
    · subst q; exact .inr (.inr ⟨i, false, _, he, hs⟩)
  · by_cases hij : i = j
    · subst hij
      rw [he] at q; cases q
    · exact ⟨rfl, d', by rw [List.getElem?_set_ne hij]; exact q⟩
/-- a new object becomes frozen -/
theorem Gd.freeze_new (o : Gd K F σ H e) {a : Addr} (h : Ow K F H a d) (n : ¬ Ows σ e a) :
    Gd K (fun b => F b ∨ b = a) σ H e ∧ DF K (fun b => F b ∨ b = a) H (.ref a) d := by
  obtain ⟨ds, vs, rfl, z, hd⟩ := h.ex
  refine ⟨⟨o.len, fun j d' hj => ?_, fun j io d' hj => ?_, o.sep, fun b hb => ?_⟩, .lst (.inl ⟨.inr rfl, .inl z⟩) (hd.more fun _ q => .inl q)⟩
  · obtain ⟨v, q1, q2⟩ := o.fz j d' hj
    exact ⟨v, q1, q2.more fun _ q => .inl q⟩
  · obtain ⟨b, q1, q2⟩ := o.ow j io d' hj
    obtain ⟨es, ws, rfl, y, hy⟩ := q2.ex
    refine ⟨b, q1, ⟨es, ws, rfl, y, hy.more fun _ q => .inl q⟩, fun q => ?_⟩
    rcases q with q | q
    · exact q2.nf q
    · subst q
      exact n ⟨j, io, _, hj, q1⟩
  · rcases hb with q | q
    · exact o.fw b q
    · subst q; exact ⟨_, z⟩
end
end Sh
end Sh1__
section Sh2__
set_option Elab.async false
set_option linter.all false
set_option autoImplicit false
set_option maxRecDepth 100000
set_option maxHeartbeats 4000000
/-! Sh2: expressions: what they give as functions of what the names hold; names, constants, operators, displays, tests. -/
namespace Sh
open PySem L2

theorem PEimp {X : Cx} {e : Expr} {t t' : TE} (h : PE X e t) (i : ∀ σ H Q, t' σ H Q → t σ H Q) : PE X e t' := ⟨fun pins s σ H Q I q => h.run pins s σ H Q I (i σ H Q q)⟩
theorem PTimp {X : Cx} {e : Expr} {t t' : TT} (h : PT X e t) (i : ∀ σ H Q, t' σ H Q → t σ H Q) : PT X e t' := ⟨fun pins s σ H Q I q => h.run pins s σ H Q I (i σ H Q q)⟩
theorem PWimp {X : Cx} {e : Expr} {t t' : TT} (h : PW X e t) (i : ∀ σ H Q, t' σ H Q → t σ H Q) : PW X e t' := ⟨fun wh pins s σ H Q I q => h.run wh pins s σ H Q I (i σ H Q q)⟩
theorem PAimp {X : Cx} {e : List Expr} {t t' : TA} (h : PA X e t) (i : ∀ σ H Q, t' σ H Q → t σ H Q) : PA X e t' := ⟨fun pos pins s σ H Q I q => h.run pos pins s σ H Q I (i σ H Q q)⟩
theorem PSimp {X : Cx} {e : Stmt} {t t' : TS} (h : PS X e t) (i : ∀ D σ H, t' D σ H → t D σ H) : PS X e t' := ⟨fun pins s σ H D I q => h.run pins s σ H D I (i D σ H q)⟩
theorem PSsimp {X : Cx} {e : List Stmt} {t t' : TS} (h : PSs X e t) (i : ∀ D σ H, t' D σ H → t D σ H) : PSs X e t' := ⟨fun pins s σ H D I q => h.run pins s σ H D I (i D σ H q)⟩

/-- an expression's meaning; a test's; an argument list's -/
abbrev FE := En → Option (Va × En)
abbrev FT := En → Option (Bool × En)
abbrev FA := En → Option (List Va × En)

/-- what is wanted of a value, from a state on -/
def Out (K : PySem.W.Frag) (F : Fz) (σ : SS) (H : Hp) (e : En) (va : Va) (e' : En) (Q : VK) : Prop :=
  ∀ F' H' v, Gd K F' σ H' e' → Stp F σ H e F' σ H' e' → RV K F' σ H' e' v va → Nw H v va → Q v H'
def tEv (K : PySem.W.Frag) (f : FE) : TE := fun σ H Q => ∃ (F : Fz) (e : En) (va : Va) (e' : En), Gd K F σ H e ∧ f e = some (va, e') ∧ Out K F σ H e va e' Q
def tEvT (K : PySem.W.Frag) (f : FT) : TT := fun σ H Q => ∃ (F : Fz) (e : En) (b : Bool) (e' : En), Gd K F σ H e ∧ f e = some (b, e') ∧ ∀ F' H', Gd K F' σ H' e' → Stp F σ H e F' σ H' e' → Q b H'
def RVs (K : PySem.W.Frag) (F : Fz) (σ : SS) (H : Hp) (e : En) : List V → List Va → Prop := Paired fun v va => RV K F σ H e v va
def tEvA (K : PySem.W.Frag) (f : FA) : TA := fun σ H Q => ∃ (F : Fz) (e : En) (vas : List Va) (e' : En), Gd K F σ H e ∧ f e = some (vas, e') ∧
  ∀ F' H' vs, Gd K F' σ H' e' → Stp F σ H e F' σ H' e' → RVs K F' σ H' e' vs vas → Q vs H'
def EvE (X : Cx) (ex : Expr) (f : FE) : Prop := PE X ex (tEv X.K f)
def EvT (X : Cx) (ex : Expr) (f : FT) : Prop := PT X ex (tEvT X.K f)
def EvW (X : Cx) (ex : Expr) (f : FT) : Prop := PW X ex (tEvT X.K f)
def EvA (X : Cx) (es : List Expr) (f : FA) : Prop := PA X es (tEvA X.K f)

section
variable {K : PySem.W.Frag} {F F1 F' : Fz} {σ : SS} {H H1 : Hp} {e e1 e2 e' : En} {va vb : Va} {Q : VK} {v : V} {d : D}
theorem Out.later (s : Stp F σ H e F1 σ H1 e1) (h : Out K F σ H e va e2 Q) : Out K F1 σ H1 e1 va e2 Q := fun F' H' v g st r n =>
  h F' H' v g (s.trans st) r (by
    cases va with
    | fr d => exact fun a q => s.none_back (n a q)
    | fz d => trivial
    | bo i => trivial)
theorem Nw.of_fz : Nw H v (.fz d) := trivial
theorem Out.here (g : Gd K F σ H e) (h : Out K F σ H e va e Q) (r : RV K F σ H e v va) (n : Nw H v va) : Q v H := h F H v g Stp.refl r n
theorem Out.sub (g : Gd K F σ H e) (h : Out K F σ H e (.fz d) e Q) (r : DF K F H v d) : Q v H := h F H v g Stp.refl r trivial
/-- something new is laid -/
theorem Gd.laid (g : Gd K F σ H e) {p : Addr} {o : HO} (hp : H p = none) (F' : Fz) (h1 : ∀ a, F a → F' a) (h2 : ∀ a, F' a → F a ∨ a = p) : Gd K F' σ (upd H p o) e ∧ Stp F σ H e F' σ (upd H p o) e := by
  have kp : ∀ a u, H a = some u → upd H p o a = some u := fun a u q => by rw [upd_ne (ne_of_none q hp)]; exact q
  have k : Keeps F H F' (upd H p o) := fun a h => ⟨h1 a h, kp a⟩
  refine ⟨⟨g.len, fun i d he => ?_, fun i io d he => ?_, g.sep, fun a q => ?_⟩, ⟨h1, fun a u q _ => kp a u q, fun a u q => ⟨u, kp a u q⟩, fun a q => .inl q, fun a q => ?_, fun i d q => ⟨rfl, d, q⟩, rfl⟩⟩
  · obtain ⟨v, q1, q2⟩ := g.fz i d he
    exact ⟨v, q1, q2.keeps k⟩
  · obtain ⟨a, q1, q2⟩ := g.ow i io d he
    obtain ⟨ds, vs, rfl, z, hs⟩ := q2.ex
    refine ⟨a, q1, ⟨ds, vs, rfl, kp a _ z, hs.keeps k⟩, fun q => ?_⟩
    rcases h2 a q with q | q
    · exact q2.nf q
    · subst q; rw [hp] at z; cases z
  · rcases h2 a q with q | q
    · obtain ⟨u, z⟩ := g.fw a q
      exact ⟨u, kp a u z⟩
    · subst q; exact ⟨o, upd_same⟩
  · rcases h2 a q with q | q
    · exact .inl q
    · subst q; exact .inr (.inl hp)
theorem Gd.nown (g : Gd K F σ H e) {p : Addr} (hp : H p = none) : ¬ Ows σ e p := fun q => by
  obtain ⟨u, z⟩ := g.own_there q
  rw [hp] at z; cases z
theorem Gd.nfree (g : Gd K F σ H e) {p : Addr} (hp : H p = none) : ¬ F p := fun q => by
  obtain ⟨u, z⟩ := g.fw p q
  rw [hp] at z; cases z
theorem Out.lst (g : Gd K F σ H e) {ds : List D} {vs : List V} (h : Out K F σ H e (.fr (.list ds)) e Q) (hs : DFs K F H vs ds) {p : Addr} (hp : H p = none) : Q (.ref p) (upd H p (.lst vs)) := by
  obtain ⟨g', s⟩ := g.laid (o := .lst vs) hp F (fun _ q => q) fun _ q => .inl q
  refine h _ _ _ g' s ⟨p, rfl, ⟨⟨ds, vs, rfl, upd_same, hs.keeps (s.keeps g)⟩, g.nfree hp⟩, g.nown hp⟩ fun a q => by cases q; exact hp
theorem Out.tup (g : Gd K F σ H e) {ds : List D} {vs : List V} (h : Out K F σ H e (.fz (.tuple ds)) e Q) (hs : DFs K F H vs ds) {p : Addr} (hp : H p = none) : Q (.ref p) (upd H p (.tup vs)) := by
  obtain ⟨g', s⟩ := g.laid (o := .tup vs) hp (fun a => F a ∨ a = p) (fun _ q => .inl q) fun _ q => q
  exact h _ _ _ g' s (.tup (.inl ⟨.inr rfl, .inl upd_same⟩) (hs.keeps (s.keeps g))) trivial
theorem RVs.step {vs : List V} {vas : List Va} (o : Gd K F σ H e) (s : Stp F σ H e F1 σ H1 e1) (h : RVs K F σ H e vs vas) : RVs K F1 σ H1 e1 vs vas := Paired.mapP h fun _ _ q => q.step o s
end

/-! ### names, constants -/
def varF (i : Nat) : FE := fun e => match e[i]? with
  | some (.fz d) => some (.fz d, e)
  | some (.ow _ _) => some (.bo i, e)
  | _ => none
def conF (d : D) : FE := fun e => some (.fz d, e)
section
variable {X : Cx}
theorem ev_var {i : Nat} {x : Str} {pos : Pos} (hN : X.N[i]? = some x) (hv : Vis X.env.scope x) (hd : (x == ("__debug__" : Str)) = false := by decide) (hcd : (x == ("__classdict__" : Str)) = false := by decide) : EvE X (.Name x pos) (varF i) := by
  refine PEimp (pe_var hN hv hd hcd) ?_
  rintro σ H Q ⟨F, e, va, e', g, h, k⟩
  simp only [varF] at h
  cases q : e[i]? with
  | none => rw [q] at h; cases h
  | some sl =>
    rw [q] at h
    cases sl with
    | un => cases h
    | fz d =>
      cases h
      obtain ⟨v, h1, h2⟩ := g.fz i d q
      exact ⟨v, h1, k.sub g h2⟩
    | ow io d =>
      cases h
      obtain ⟨a, h1, h2⟩ := g.ow i io d q
      exact ⟨.ref a, h1, k.here g (v := .ref a) h1 trivial⟩
theorem ev_con {ex : Expr} {v : V} {d : D} (h : PE X ex (tC v)) (r : ∀ F H, DF X.K F H v d) : EvE X ex (conF d) := by
  refine PEimp h ?_
  rintro σ H Q ⟨F, e, va, e', g, h, k⟩
  cases h
  exact k.sub g (r F H)
theorem ev_int {i j pos} : EvE X (.Constant (.int i) j pos) (conF (.int i)) := ev_con pe_int fun _ _ => .int i
theorem ev_bl {b j pos} : EvE X (.Constant (.bool b) j pos) (conF (.bool b)) := ev_con pe_bl fun _ _ => .bl b
theorem ev_non {j pos} : EvE X (.Constant .none j pos) (conF .none) := ev_con pe_non fun _ _ => .non
theorem ev_str {x j pos} (hx : x.length ≤ sizeLine := by decide +kernel) : EvE X (.Constant (.str x) j pos) (conF (.str x)) := ev_con pe_str fun _ _ => .str x hx
/-- a constant of the module -/
theorem ev_glob {x : Str} {v : V} {u : Value} {d : D} {pos : Pos} (hg : Gl X x) (hm : X.mg x = some u) (r : RelV v u) (hd : ∀ F H, DF X.K F H v d) (hdb : (x == ("__debug__" : Str)) = false := by decide) : EvE X (.Name x pos) (conF d) := ev_con (pe_glob hg hm r hdb) hd
end

/-! ### two operands -/
def binF (g : D → D → Option Va) (fa fb : FE) : FE := fun e => (fa e).bind fun r1 => (fb r1.2).bind fun r2 => (rd r2.2 r1.1).bind fun a => (rd r2.2 r2.1).bind fun b => (g a b).map fun r => (r, r2.2)
/-- a two-place rule by data -/
def R2D (K : PySem.W.Frag) (g : D → D → Option Va) (r : R2) : Prop := ∀ (F : Fz) (σ : SS) (H : Hp) (e : En) (x y : V) (a b : D) (va : Va) (Q : VK),
  Gd K F σ H e → DR K F H x a → DR K F H y b → g a b = some va → Out K F σ H e va e Q → r x y H Q
section
variable {X : Cx} {a b c : Expr} {fa fb fc : FE} {pos : Pos} {g g' : D → D → Option Va} {r r' : R2}
theorem tEv_bin {K : PySem.W.Frag} {σ : SS} {H : Hp} {Q : VK} (hr : R2D K g r) (h : tEv K (binF g fa fb) σ H Q) : tOp r (tEv K fa) (tEv K fb) σ H Q := by
  obtain ⟨F, e, va, e', gd, h, k⟩ := h
  obtain ⟨⟨v1, e1⟩, h1, h⟩ := Option.bind_eq_some_iff.mp h
  obtain ⟨⟨v2, e2⟩, h2, h⟩ := Option.bind_eq_some_iff.mp h
  obtain ⟨a, h3, h⟩ := Option.bind_eq_some_iff.mp h
  obtain ⟨b, h4, h⟩ := Option.bind_eq_some_iff.mp h
  obtain ⟨r', h5, h⟩ := Option.map_eq_some_iff.mp h
  cases h
  refine ⟨F, e, v1, e1, gd, h1, fun F1 H1 x g1 s1 r1 n1 => ⟨F1, e1, v2, e2, g1, h2, fun F2 H2 y g2 s2 r2 n2 => ?_⟩⟩
  exact hr F2 σ H2 e2 x y a b va Q g2 ((r1.step g1 s2).dr g2 h3) (r2.dr g2 h4) h5 (k.later (s1.trans s2))
theorem ev_op {op : Operator} (ho : OpR X (binaryOp op) r) (hr : R2D X.K g r) (ha : EvE X a fa) (hb : EvE X b fb) : EvE X (.BinOp a op b pos) (binF g fa fb) :=
  PEimp (pe_op ho ha hb) fun _ _ _ h => tEv_bin hr h
theorem ev_cmp {op : CmpOp} (ho : OpR X (compareOp op) r) (hr : R2D X.K g r) (ha : EvE X a fa) (hb : EvE X b fb) (hm : behindInMarks op b = false) : EvE X (.Compare a [op] [b] pos) (binF g fa fb) :=
  PEimp (pe_cmpR ho ha hb hm) fun _ _ _ h => tEv_bin hr h
theorem ev_ix {X : Cx} {g : D → D → Option Va} {r : R2} (hi : IxR X r) (hr : R2D X.K g r) (ha : EvE X a fa) (hb : EvE X b fb) (hs : PlainIx b) : EvE X (.Subscript a b pos) (binF g fa fb) :=
  PEimp (pe_ix hi ha hb hs) fun _ _ _ h => tEv_bin hr h
/-- two rules for one operation -/
theorem R2D.or {K : PySem.W.Frag} (h : R2D K g r) (h' : R2D K g' r') : R2D K (fun a b => (g a b).or (g' a b)) (fun x y H Q => r x y H Q ∨ r' x y H Q) := by
  intro F σ H e x y a b va Q gd rx ry q k
  replace q : (g a b).or (g' a b) = some va := q
  cases z : g a b with
  | some w => rw [z] at q; cases q; exact .inl (h F σ H e x y a b _ Q gd rx ry z k)
  | none => rw [z] at q; exact .inr (h' F σ H e x y a b _ Q gd rx ry q k)

/-! ### tests -/
def tstF (f : FE) : FT := fun e => (f e).bind fun r => match r.1 with
  | .fz (.bool b) => some (b, r.2)
  | _ => none
/-- a test that gives a bool -/
theorem tEv_tst {K : PySem.W.Frag} {f : FE} {σ : SS} {H : Hp} {Q : Bool → Hp → Prop} (h : tEvT K (tstF f) σ H Q) : tEv K f σ H fun x H1 => ∃ k, x = .bl k ∧ Q k H1 := by
  obtain ⟨F, e, b, e', gd, h, k⟩ := h
  obtain ⟨⟨v1, e1⟩, h1, h⟩ := Option.bind_eq_some_iff.mp h
  refine ⟨F, e, v1, e1, gd, h1, fun F1 H1 x g1 s1 r1 n1 => ?_⟩
  dsimp only at h
  split at h
  · cases h
    exact ⟨_, DR.bl (.inl r1), k F1 H1 g1 s1⟩
  · cases h
theorem et_cmp {op : CmpOp} (ho : OpR X (compareOp op) r) (hr : R2D X.K g r) (ha : EvE X a fa) (hb : EvE X b fb) (hm : behindInMarks op b = false) : EvT X (.Compare a [op] [b] pos) (tstF (binF g fa fb)) := by
  refine PTimp (pt_cmpR ho ha hb hm) fun σ H Q h => ?_
  exact tEv_bin hr (tEv_tst h)
theorem et_val {ex : Expr} {f : FE} (h : EvE X ex f) (he : ∀ whole, isTrue ex X.env whole = (do let v ← whole; standAt ex.pos; holding [v] (truthy v)) := by intro _; rfl) : EvT X ex (tstF f) := by
  refine PTimp (pt_val h he) fun σ H Q h => tEv_tst h
/-- chains -/
def chF (g g' : D → D → Option Va) (fa fb fc : FE) : FE := fun e => (fa e).bind fun r1 => (fb r1.2).bind fun r2 => (rd r2.2 r1.1).bind fun a => (rd r2.2 r2.1).bind fun b => (g a b).bind fun z => match z with
  | .fz (.bool false) => some (.fz (.bool false), r2.2)
  | .fz (.bool true) => (fc r2.2).bind fun r3 => (rd r3.2 r2.1).bind fun b' => (rd r3.2 r3.1).bind fun c => (g' b' c).map fun r => (r, r3.2)
  | _ => none
theorem tEv_chain {K : PySem.W.Frag} {σ : SS} {H : Hp} {Q : VK} (hr : R2D K g r) (hr' : R2D K g' r') (h : tEv K (chF g g' fa fb fc) σ H Q) : tChain r r' (tEv K fa) (tEv K fb) (tEv K fc) σ H Q := by
  obtain ⟨F, e, va, e', gd, h, k⟩ := h
  obtain ⟨⟨v1, e1⟩, h1, h⟩ := Option.bind_eq_some_iff.mp h
  obtain ⟨⟨v2, e2⟩, h2, h⟩ := Option.bind_eq_some_iff.mp h
  obtain ⟨a, h3, h⟩ := Option.bind_eq_some_iff.mp h
  obtain ⟨b, h4, h⟩ := Option.bind_eq_some_iff.mp h
  obtain ⟨z, h5, h⟩ := Option.bind_eq_some_iff.mp h
  refine ⟨F, e, v1, e1, gd, h1, fun F1 H1 x g1 s1 r1 n1 => ⟨F1, e1, v2, e2, g1, h2, fun F2 H2 y g2 s2 r2 n2 => ?_⟩⟩
  refine hr F2 σ H2 e2 x y a b z _ g2 ((r1.step g1 s2).dr g2 h3) (r2.dr g2 h4) h5 fun F3 H3 v g3 s3 r3 n3 => ?_
  have k' := k.later ((s1.trans s2).trans s3)
  dsimp only at h
  split at h
  · cases h
    refine ⟨false, DR.bl (.inl r3), ?_⟩
    rw [if_neg Bool.false_ne_true]
    exact k'.sub g3 (.bl false)
  · obtain ⟨⟨v4, e4⟩, h6, h⟩ := Option.bind_eq_some_iff.mp h
    obtain ⟨b', h7, h⟩ := Option.bind_eq_some_iff.mp h
    obtain ⟨c, h8, h⟩ := Option.bind_eq_some_iff.mp h
    obtain ⟨w, h9, h⟩ := Option.map_eq_some_iff.mp h
    cases h
    refine ⟨true, DR.bl (.inl r3), ?_⟩
    rw [if_pos rfl]
    refine ⟨F3, e2, v4, e4, g3, h6, fun F4 H4 w' g4 s4 r4 n4 => ?_⟩
    exact hr' F4 σ H4 e4 y w' b' c _ Q g4 (((r2.step g2 s3).step g3 s4).dr g4 h7) (r4.dr g4 h8) h9 (k'.later s4)
  · cases h
theorem ev_chain {op op' : CmpOp} (ho : OpR X (compareOp op) r) (ho' : OpR X (compareOp op') r') (hr : R2D X.K g r) (hr' : R2D X.K g' r') (ha : EvE X a fa) (hb : EvE X b fb) (hc : EvE X c fc) (hm : lastMarks [op, op'] [b, c] = false := by with_unfolding_all rfl) :
    EvE X (.Compare a [op, op'] [b, c] pos) (chF g g' fa fb fc) := PEimp (pe_chain ho ho' ha hb hc hm) fun _ _ _ h => tEv_chain hr hr' h
theorem et_chain {op op' : CmpOp} (ho : OpR X (compareOp op) r) (ho' : OpR X (compareOp op') r') (hr : R2D X.K g r) (hr' : R2D X.K g' r') (ha : EvE X a fa) (hb : EvE X b fb) (hc : EvE X c fc) (hm : lastMarks [op, op'] [b, c] = false := by with_unfolding_all rfl) :
    EvT X (.Compare a [op, op'] [b, c] pos) (tstF (chF g g' fa fb fc)) := PTimp (pt_chain ho ho' ha hb hc hm) fun _ _ _ h => tEv_chain hr hr' (tEv_tst h)

/-! ### and, or, not -/
def andT (f g : FT) : FT := fun e => (f e).bind fun r => if r.1 = true then g r.2 else some (false, r.2)
def orT (f g : FT) : FT := fun e => (f e).bind fun r => if r.1 = true then some (true, r.2) else g r.2
def notT (f : FT) : FT := fun e => (f e).map fun r => (!r.1, r.2)
variable {rest : List Expr} {ta tb : FT}
theorem ew_and1 (ha : EvT X a ta) : EvW X (.BoolOp .And [a] pos) ta := pw_and1 ha
theorem ew_or1 (ha : EvT X a ta) : EvW X (.BoolOp .Or [a] pos) ta := pw_or1 ha
theorem ew_and (ha : EvT X a ta) (hb : EvW X (.BoolOp .And (b :: rest) pos) tb) : EvW X (.BoolOp .And (a :: b :: rest) pos) (andT ta tb) := by
  refine PWimp (pw_and ha hb) ?_
  rintro σ H Q ⟨F, e, z, e', gd, h, k⟩
  obtain ⟨⟨v1, e1⟩, h1, h⟩ := Option.bind_eq_some_iff.mp h
  refine ⟨F, e, v1, e1, gd, h1, fun F1 H1 g1 s1 => ?_⟩
  cases v1 with
  | true => exact ⟨F1, e1, z, e', g1, h, fun F2 H2 g2 s2 => k F2 H2 g2 (s1.trans s2)⟩
  | false => cases h; exact k F1 H1 g1 s1
theorem ew_or (ha : EvT X a ta) (hb : EvW X (.BoolOp .Or (b :: rest) pos) tb) : EvW X (.BoolOp .Or (a :: b :: rest) pos) (orT ta tb) := by
  refine PWimp (pw_or ha hb) ?_
  rintro σ H Q ⟨F, e, z, e', gd, h, k⟩
  obtain ⟨⟨v1, e1⟩, h1, h⟩ := Option.bind_eq_some_iff.mp h
  refine ⟨F, e, v1, e1, gd, h1, fun F1 H1 g1 s1 => ?_⟩
  cases v1 with
  | false => exact ⟨F1, e1, z, e', g1, h, fun F2 H2 g2 s2 => k F2 H2 g2 (s1.trans s2)⟩
  | true => cases h; exact k F1 H1 g1 s1
theorem et_w (h : EvW X a ta) : EvT X a ta := PW.pt h
theorem et_not (ha : EvT X a ta) : EvT X (.UnaryOp .Not a pos) (notT ta) := by
  refine PTimp (pt_not ha) ?_
  rintro σ H Q ⟨F, e, z, e', gd, h, k⟩
  obtain ⟨⟨v1, e1⟩, h1, h⟩ := Option.map_eq_some_iff.mp h
  cases h
  exact ⟨F, e, v1, e1, gd, h1, fun F1 H1 g1 s1 => k F1 H1 g1 s1⟩
/-- .. as values, all but the last one bools -/
def andE (f g : FE) : FE := fun e => (tstF f e).bind fun r => if r.1 = true then g r.2 else some (.fz (.bool false), r.2)
def orE (f g : FE) : FE := fun e => (tstF f e).bind fun r => if r.1 = true then some (.fz (.bool true), r.2) else g r.2
def notE (f : FE) : FE := fun e => (tstF f e).map fun r => (.fz (.bool (!r.1)), r.2)
theorem ev_one {op} {f : FE} (h : EvE X a f) : EvE X (.BoolOp op [a] pos) f := pe_one h
theorem tst_some {f : FE} {e e1 : En} {b : Bool} (h : tstF f e = some (b, e1)) : f e = some (.fz (.bool b), e1) := by
  obtain ⟨⟨v1, e2⟩, h1, h⟩ := Option.bind_eq_some_iff.mp h
  dsimp only at h
  split at h
  · cases h; exact h1
  · cases h
theorem ev_and (ha : EvE X a fa) (hb : EvE X (.BoolOp .And (b :: rest) pos) fb) : EvE X (.BoolOp .And (a :: b :: rest) pos) (andE fa fb) := by
  refine PEimp (pe_and ha hb) ?_
  rintro σ H Q ⟨F, e, va, e', gd, h, k⟩
  obtain ⟨⟨v1, e1⟩, h1, h⟩ := Option.bind_eq_some_iff.mp h
  refine ⟨F, e, _, e1, gd, tst_some h1, fun F1 H1 x g1 s1 r1 n1 => ⟨v1, DR.bl (.inl r1), ?_⟩⟩
  cases v1 with
  | true => exact ⟨F1, e1, va, e', g1, h, k.later s1⟩
  | false => cases h; exact (k.later s1).sub g1 (.bl false)
theorem ev_or (ha : EvE X a fa) (hb : EvE X (.BoolOp .Or (b :: rest) pos) fb) : EvE X (.BoolOp .Or (a :: b :: rest) pos) (orE fa fb) := by
  refine PEimp (pe_or ha hb) ?_
  rintro σ H Q ⟨F, e, va, e', gd, h, k⟩
  obtain ⟨⟨v1, e1⟩, h1, h⟩ := Option.bind_eq_some_iff.mp h
  refine ⟨F, e, _, e1, gd, tst_some h1, fun F1 H1 x g1 s1 r1 n1 => ⟨v1, DR.bl (.inl r1), ?_⟩⟩
  cases v1 with
  | false => exact ⟨F1, e1, va, e', g1, h, k.later s1⟩
  | true => cases h; exact (k.later s1).sub g1 (.bl true)
theorem ev_not (ha : EvE X a fa) : EvE X (.UnaryOp .Not a pos) (notE fa) := by
  refine PEimp (pe_not ha) ?_
  rintro σ H Q ⟨F, e, va, e', gd, h, k⟩
  obtain ⟨⟨v1, e1⟩, h1, h⟩ := Option.map_eq_some_iff.mp h
  cases h
  exact ⟨F, e, _, e1, gd, tst_some h1, fun F1 H1 x g1 s1 r1 n1 => ⟨v1, DR.bl (.inl r1), (k.later s1).sub g1 (.bl _)⟩⟩
/-- a if t else b -/
def ifF (t : FT) (f g : FE) : FE := fun e => (t e).bind fun r => if r.1 = true then f r.2 else g r.2
theorem ev_if {c : Expr} (hc : EvT X c ta) (ha : EvE X a fa) (hb : EvE X b fb) : EvE X (.IfExp c a b pos) (ifF ta fa fb) := by
  refine PEimp (pe_ifExp hc ha hb) ?_
  rintro σ H Q ⟨F, e, va, e', gd, h, k⟩
  obtain ⟨⟨v1, e1⟩, h1, h⟩ := Option.bind_eq_some_iff.mp h
  refine ⟨F, e, v1, e1, gd, h1, fun F1 H1 g1 s1 => ?_⟩
  cases v1 with
  | true => exact ⟨F1, e1, va, e', g1, h, k.later s1⟩
  | false => exact ⟨F1, e1, va, e', g1, h, k.later s1⟩

/-! ### argument lists -/
def Va.st : Va → Va
  | .fr d => .fz d
  | v => v
def argN : FA := fun e => some ([], e)
def argC (f : FE) (g : FA) : FA := fun e => (f e).bind fun r => (g r.2).map fun q => (r.1.st :: q.1, q.2)
theorem RV.st {K : PySem.W.Frag} {F F1 : Fz} {σ : SS} {H H1 : Hp} {e e1 : En} {v : V} {va : Va} (g : Gd K F1 σ H1 e1) (s : Stp F σ H e F1 σ H1 e1) (r : RV K F1 σ H1 e1 v va) (n : Nw H v va) :
    ∃ F', Gd K F' σ H1 e1 ∧ Stp F σ H e F' σ H1 e1 ∧ RV K F' σ H1 e1 v va.st := by
  cases va with
  | fz d => exact ⟨F1, g, s, r⟩
  | bo i => exact ⟨F1, g, s, r⟩
  | fr d =>
    obtain ⟨a, rfl, ow, no⟩ := r
    obtain ⟨g', df⟩ := g.freeze_new ow no
    refine ⟨_, g', ⟨fun b q => .inl (s.mono b q), s.keep, s.there, s.own, fun b q => ?_, s.io, s.ln⟩, df⟩
    rcases q with q | q
    · exact s.fro b q
    · subst q; exact .inr (.inl (n b rfl))
theorem ea_nil : EvA X [] argN := by
  refine PAimp pa_nil ?_
  rintro σ H Q ⟨F, e, vas, e', gd, h, k⟩
  cases h
  exact k F H [] gd Stp.refl .nil
theorem ea_cons {ex : Expr} {es : List Expr} {f : FE} {h : FA} (ha : EvE X ex f) (hr : EvA X es h) (hs : starEach (ex :: es) X.env = (false, eval ex X.env) :: starEach es X.env := by rfl) : EvA X (ex :: es) (argC f h) := by
  refine PAimp (pa_cons ha hr hs) ?_
  rintro σ H Q ⟨F, e, vas, e', gd, q, k⟩
  obtain ⟨⟨v1, e1⟩, h1, q⟩ := Option.bind_eq_some_iff.mp q
  obtain ⟨⟨vs2, e2⟩, h2, q⟩ := Option.map_eq_some_iff.mp q
  cases q
  refine ⟨F, e, v1, e1, gd, h1, fun F1 H1 x g1 s1 r1 n1 => ?_⟩
  obtain ⟨F2, g2, s2, r2⟩ := r1.st g1 s1 n1
  exact ⟨F2, e1, vs2, e2, g2, h2, fun F3 H3 ys g3 s3 r3 => k F3 H3 (x :: ys) g3 (s2.trans s3) (.cons (r2.step g2 s3) r3)⟩
end
end Sh
end Sh2__
section Sh3__
set_option Elab.async false
set_option linter.all false
set_option autoImplicit false
set_option maxRecDepth 100000
set_option maxHeartbeats 4000000
/-! Sh3: displays, calls of built-ins by data, methods, slices, calls of defs. -/
namespace Sh
open PySem L2

/-! ### a row of values frozen -/
def fzAll : List Va → En → Option (List D × En)
  | [], e => some ([], e)
  | v :: vs, e => (fzn e v).bind fun r => (fzAll vs r.2).map fun q => (r.1 :: q.1, q.2)
section
variable {K : PySem.W.Frag} {F F1 F' : Fz} {σ : SS} {H H1 : Hp} {e e1 e2 e' : En} {va vb : Va} {Q : VK} {v : V} {d : D}
theorem fzn_ok (g : Gd K F σ H e) (r : RV K F σ H e v va) (hn : ∀ d, va ≠ .fr d) (h : fzn e va = some (d, e')) : ∃ F', Gd K F' σ H e' ∧ Stp F σ H e F' σ H e' ∧ DF K F' H v d := by
  cases va with
  | fz d' => cases h; exact ⟨F, g, Stp.refl, r⟩
  | fr d' => exact absurd rfl (hn d')
  | bo i =>
    simp only [fzn] at h
    have r : σ[i]? = some (some v) := r
    cases q : e[i]? with
    | none => rw [q] at h; cases h
    | some sl =>
      rw [q] at h
      cases sl with
      | un => cases h
      | fz d' =>
        cases h
        obtain ⟨v', h1, h2⟩ := g.fz i d q
        rw [r] at h1; cases h1
        exact ⟨F, g, Stp.refl, h2⟩
      | ow io d' =>
        cases io with
        | true => cases h
        | false =>
          cases h
          obtain ⟨a, h1, h2⟩ := g.ow i false d q
          rw [r] at h1; cases h1
          obtain ⟨g', s, df⟩ := g.freeze_at q r
          exact ⟨_, g', s, df⟩
theorem st_ne (va : Va) : ∀ d, va.st ≠ .fr d := fun d h => by cases va <;> cases h
/-- none of them new -/
def noFr (vas : List Va) : Prop := ∀ va ∈ vas, ∀ d, va ≠ .fr d
theorem fzAll_ok : ∀ {vas : List Va} {vs : List V} {ds : List D} {F : Fz} {e e' : En}, Gd K F σ H e → RVs K F σ H e vs vas → noFr vas → fzAll vas e = some (ds, e') → ∃ F', Gd K F' σ H e' ∧ Stp F σ H e F' σ H e' ∧ DFs K F' H vs ds
  | [], _, _, F, e, _, g, r, _, h => by
    cases r
    cases h
    exact ⟨F, g, Stp.refl, .nil⟩
  | va :: vas, _, _, F, e, _, g, r, n, h => by
    cases r with
    | cons r1 r2 =>
      obtain ⟨⟨d1, e1⟩, h1, h⟩ := Option.bind_eq_some_iff.mp h
      obtain ⟨⟨ds2, e2⟩, h2, h⟩ := Option.map_eq_some_iff.mp h
      cases h
      obtain ⟨F1, g1, s1, df⟩ := fzn_ok g r1 (n va List.mem_cons_self) h1
      obtain ⟨F2, g2, s2, dfs⟩ := fzAll_ok g1 (RVs.step g s1 r2) (fun v hv => n v (List.mem_cons_of_mem _ hv)) h2
      exact ⟨F2, g2, s1.trans s2, .cons (df.keeps (s2.keeps g1)) dfs⟩
end
theorem argC_noFr {f : FE} {g : FA} (hg : ∀ e r, g e = some r → noFr r.1) : ∀ e r, argC f g e = some r → noFr r.1 := fun e r h => by
  obtain ⟨⟨v1, e1⟩, h1, h⟩ := Option.bind_eq_some_iff.mp h
  obtain ⟨⟨vs2, e2⟩, h2, h⟩ := Option.map_eq_some_iff.mp h
  cases h
  intro va hv d
  rcases List.mem_cons.mp hv with q | q
  · subst q; exact st_ne v1 d
  · exact hg e1 _ h2 va q d
theorem argN_noFr : ∀ e r, argN e = some r → noFr r.1 := fun e r h => by
  cases h
  intro va hv; simp at hv
/-- argument lists as they are made -/
inductive IsA : FA → Prop
  | nil : IsA argN
  | cons {f : FE} {g : FA} : IsA g → IsA (argC f g)
theorem IsA.noFr : ∀ {g : FA}, IsA g → ∀ e r, g e = some r → Sh.noFr r.1
  | _, .nil => argN_noFr
  | _, .cons h => argC_noFr h.noFr
/-- their data -/
def rdAll (e : En) : List Va → Option (List D)
  | [] => some []
  | v :: vs => (rd e v).bind fun d => (rdAll e vs).map fun ds => d :: ds
def DRs (K : PySem.W.Frag) (F : Fz) (H : Hp) : List V → List D → Prop := Paired fun v d => DR K F H v d
theorem rdAll_ok {K : PySem.W.Frag} {F : Fz} {σ : SS} {H : Hp} {e : En} (g : Gd K F σ H e) : ∀ {vas : List Va} {vs : List V} {ds : List D}, RVs K F σ H e vs vas → rdAll e vas = some ds → DRs K F H vs ds
  | [], _, _, r, h => by
    cases r
    cases h
    exact .nil
  | va :: vas, _, _, r, h => by
    cases r with
    | cons r1 r2 =>
      obtain ⟨d1, h1, h⟩ := Option.bind_eq_some_iff.mp h
      obtain ⟨ds2, h2, h⟩ := Option.map_eq_some_iff.mp h
      cases h
      exact .cons (r1.dr g h1) (rdAll_ok g r2 h2)

/-! ### displays -/
def tupF (g : FA) : FE := fun e => (g e).bind fun r => (fzAll r.1 r.2).bind fun q => if q.1.length ≤ sizeLine then some (.fz (.tuple q.1), q.2) else none
def lstF (g : FA) : FE := fun e => (g e).bind fun r => (fzAll r.1 r.2).bind fun q => if q.1.length ≤ sizeLine then some (.fr (.list q.1), q.2) else none
section
variable {X : Cx} {es : List Expr} {g : FA} {pos : Pos} {k : Nat}
theorem ev_tup (h : EvA X es g) (ia : IsA g) : EvE X (.Tuple es k pos) (tupF g) := by
  refine PEimp (pe_tup h) ?_
  rintro σ H Q ⟨F, e, va, e', gd, q, kk⟩
  obtain ⟨⟨vas, e1⟩, h1, q⟩ := Option.bind_eq_some_iff.mp q
  obtain ⟨⟨ds, e2⟩, h2, q⟩ := Option.bind_eq_some_iff.mp q
  refine ⟨F, e, vas, e1, gd, h1, fun F1 H1 vs g1 s1 r1 => ?_⟩
  obtain ⟨F2, g2, s2, dfs⟩ := fzAll_ok g1 r1 (ia.noFr _ _ h1) h2
  dsimp only at q
  split at q
  · rename_i hl
    cases q
    exact ⟨by rw [dfs.length]; exact hl, fun p hp => (kk.later (s1.trans s2)).tup g2 dfs hp⟩
  · cases q
theorem ev_lst (h : EvA X es g) (ia : IsA g) : EvE X (.List es pos) (lstF g) := by
  refine PEimp (pe_lst h) ?_
  rintro σ H Q ⟨F, e, va, e', gd, q, kk⟩
  obtain ⟨⟨vas, e1⟩, h1, q⟩ := Option.bind_eq_some_iff.mp q
  obtain ⟨⟨ds, e2⟩, h2, q⟩ := Option.bind_eq_some_iff.mp q
  refine ⟨F, e, vas, e1, gd, h1, fun F1 H1 vs g1 s1 r1 => ?_⟩
  obtain ⟨F2, g2, s2, dfs⟩ := fzAll_ok g1 r1 (ia.noFr _ _ h1) h2
  dsimp only at q
  split at q
  · rename_i hl
    cases q
    exact ⟨by rw [dfs.length]; exact hl, fun p hp => (kk.later (s1.trans s2)).lst g2 dfs hp⟩
  · cases q
end

/-! ### built-ins called -/
def cbF (g : List D → Option Va) (fa : FA) : FE := fun e => (fa e).bind fun r => (rdAll r.2 r.1).bind fun ds => (g ds).map fun v => (v, r.2)
def RCD (K : PySem.W.Frag) (g : List D → Option Va) (r : List V → Hp → VK → Prop) : Prop := ∀ (F : Fz) (σ : SS) (H : Hp) (e : En) (xs : List V) (ds : List D) (va : Va) (Q : VK),
  Gd K F σ H e → DRs K F H xs ds → g ds = some va → Out K F σ H e va e Q → r xs H Q
section
variable {X : Cx} {es : List Expr} {ex o : Expr} {fa : FA} {fo : FE} {pos p : Pos} {x : Str} {id T : String} {r : List V → Hp → VK → Prop} {g g' : List D → Option Va}
theorem tEv_cb {K : PySem.W.Frag} {σ : SS} {H : Hp} {Q : VK} (hr : RCD K g r) (h : tEv K (cbF g fa) σ H Q) : tCB r (tEvA K fa) σ H Q := by
  obtain ⟨F, e, va, e', gd, h, k⟩ := h
  obtain ⟨⟨vas, e1⟩, h1, h⟩ := Option.bind_eq_some_iff.mp h
  obtain ⟨ds, h2, h⟩ := Option.bind_eq_some_iff.mp h
  obtain ⟨w, h3, h⟩ := Option.map_eq_some_iff.mp h
  cases h
  exact ⟨F, e, vas, e1, gd, h1, fun F1 H1 vs g1 s1 r1 => hr F1 σ H1 e1 vs ds _ Q g1 (rdAll_ok g1 r1 h2) h3 (k.later s1)⟩
theorem ev_callB (hc : CallR X (.builtin id) r) (hr : RCD X.K g r) (hg : Gl X x) (hm : X.mg x = none) (hv : bootBuiltins x = some (.builtin id)) (ha : EvA X (ex :: es) fa) (hn : x ≠ "__name__" := by decide) (hdb : (x == ("__debug__" : Str)) = false := by decide)
    (he : starEach (ex :: es) X.env = (false, eval ex X.env) :: starEach es X.env := by rfl) (hpl : (backTo pos (starEach es X.env)).any (·.1) = false := by rfl) : EvE X (.Call (.Name x p) (ex :: es) [] pos) (cbF g fa) :=
  PEimp (pe_callB hc hg hm hv ha hn hdb he hpl) fun _ _ _ h => tEv_cb hr h
theorem ev_callTy (hc : CallR X (.type T) r) (hr : RCD X.K g r) (hg : Gl X x) (hm : X.mg x = none) (hv : bootBuiltins x = some (.type T)) (ha : EvA X (ex :: es) fa) (hn : x ≠ "__name__" := by decide) (hdb : (x == ("__debug__" : Str)) = false := by decide)
    (he : starEach (ex :: es) X.env = (false, eval ex X.env) :: starEach es X.env := by rfl) (hpl : (backTo pos (starEach es X.env)).any (·.1) = false := by rfl) : EvE X (.Call (.Name x p) (ex :: es) [] pos) (cbF g fa) :=
  PEimp (pe_callTy hc hg hm hv ha hn hdb he hpl) fun _ _ _ h => tEv_cb hr h
theorem RCD.or {K : PySem.W.Frag} {r r' : List V → Hp → VK → Prop} (h : RCD K g r) (h' : RCD K g' r') : RCD K (fun ds => (g ds).or (g' ds)) (fun xs H Q => r xs H Q ∨ r' xs H Q) := by
  intro F σ H e xs ds va Q gd rx q k
  replace q : (g ds).or (g' ds) = some va := q
  cases z : g ds with
  | some w => rw [z] at q; cases q; exact .inl (h F σ H e xs ds _ Q gd rx z k)
  | none => rw [z] at q; exact .inr (h' F σ H e xs ds va Q gd rx q k)
theorem CallR.or {f : Value} {r r' : List V → Hp → VK → Prop} (h : CallR X f r) (h' : CallR X f r') : CallR X f (fun xs H Q => r xs H Q ∨ r' xs H Q) := by
  intro pins s σ H xs us Q I rv q
  rcases q with q | q
  · exact h pins s σ H xs us Q I rv q
  · exact h' pins s σ H xs us Q I rv q

/-! ### methods of built-in types, by data -/
/-- what type it is -/
def tyD (T : String) : D → Bool
  | .str _ => T == "str"
  | .int _ => T == "int"
  | .list _ => T == "list"
  | _ => false
theorem tyD_ok {K : PySem.W.Frag} {F : Fz} {H : Hp} {v : V} {d : D} (r : DR K F H v d) (h : tyD T d = true) : tyV K T v H := by
  cases d with
  | str y =>
    rw [(DR.str r).1]
    exact beq_iff_eq.mp h
  | int i =>
    rw [DR.int r]
    exact beq_iff_eq.mp h
  | list ds =>
    obtain ⟨a, vs, rfl, h1, _⟩ := DR.lst r
    exact .inl ⟨beq_iff_eq.mp h, vs, h1⟩
  | _ => cases h
def mbF (T : String) (g : D → List D → Option Va) (fo : FE) (fa : FA) : FE := fun e => (fo e).bind fun r => (rd r.2 r.1).bind fun o => if tyD T o = true then (fa r.2).bind fun q => (rd q.2 r.1).bind fun o' => (rdAll q.2 q.1).bind fun ds => (g o' ds).map fun v => (v, q.2) else none
def RMD (K : PySem.W.Frag) (g : D → List D → Option Va) (r : V → List V → Hp → VK → Prop) : Prop := ∀ (F : Fz) (σ : SS) (H : Hp) (e : En) (x : V) (xs : List V) (d : D) (ds : List D) (va : Va) (Q : VK),
  Gd K F σ H e → DR K F H x d → DRs K F H xs ds → g d ds = some va → Out K F σ H e va e Q → r x xs H Q
variable {rm : V → List V → Hp → VK → Prop} {gm : D → List D → Option Va} {name : Str} {apos cpos : Pos}
theorem tEv_mb {K : PySem.W.Frag} {σ : SS} {H : Hp} {Q : VK} (hr : RMD K gm rm) (h : tEv K (mbF T gm fo fa) σ H Q) : tBM K T rm (tEv K fo) (tEvA K fa) σ H Q := by
  obtain ⟨F, e, va, e', gd, h, k⟩ := h
  obtain ⟨⟨vo, e1⟩, h1, h⟩ := Option.bind_eq_some_iff.mp h
  obtain ⟨o, h2, h⟩ := Option.bind_eq_some_iff.mp h
  refine ⟨F, e, vo, e1, gd, h1, fun F1 H1 x g1 s1 r1 n1 => ?_⟩
  dsimp only at h
  split at h
  · rename_i ht
    refine ⟨tyD_ok (r1.dr g1 h2) ht, ?_⟩
    obtain ⟨⟨vas, e2⟩, h3, h⟩ := Option.bind_eq_some_iff.mp h
    obtain ⟨o', h4, h⟩ := Option.bind_eq_some_iff.mp h
    obtain ⟨ds, h5, h⟩ := Option.bind_eq_some_iff.mp h
    obtain ⟨w, h6, h⟩ := Option.map_eq_some_iff.mp h
    cases h
    exact ⟨F1, e1, vas, e2, g1, h3, fun F2 H2 vs g2 s2 r2 => hr F2 σ H2 e2 x vs o' ds _ Q g2 ((r1.step g1 s2).dr g2 h4) (rdAll_ok g2 r2 h5) h6 (k.later (s1.trans s2))⟩
  · cases h
theorem ev_bm (pa : PlainAttrs T) (slot : Slot T name id) (hty : typeOf (.builtin id) = pure (.type "method_descriptor")) (hm : MtR X id rm) (hr : RMD X.K gm rm) (ho : EvE X o fo) (ha : EvA X (ex :: es) fa)
    (hbase : attributeBase o name X.env (eval o X.env) = eval o X.env := by rfl)
    (hfew : ((backTo cpos (starEach (ex :: es) X.env)).all (fun x => !x.1) && (backToKw cpos (keywordEach [] X.env)).all (fun x => x.1.isSome)
      && decide ((ex :: es).length + ([] : List Keyword).length + (if ([] : List Keyword).isEmpty then 0 else 1) < 30)) = true := by rfl)
    (hline : (apos.endLine == cpos.line) = true := by rfl) (hs : starEach (ex :: es) X.env = (false, eval ex X.env) :: starEach es X.env := by rfl) (hplain : (backTo cpos (starEach es X.env)).any (·.1) = false := by rfl) :
    EvE X (.Call (.Attribute o name apos) (ex :: es) [] cpos) (mbF T gm fo fa) := PEimp (pe_bm pa slot hty hm ho ha hbase hfew hline hs hplain) fun _ _ _ h => tEv_mb hr h
theorem ev_bm0 (pa : PlainAttrs T) (slot : Slot T name id) (hty : typeOf (.builtin id) = pure (.type "method_descriptor")) (hm : MtR X id rm) (hr : RMD X.K gm rm) (ho : EvE X o fo)
    (hbase : attributeBase o name X.env (eval o X.env) = eval o X.env := by rfl) (hline : (apos.endLine == cpos.line) = true := by rfl) : EvE X (.Call (.Attribute o name apos) [] [] cpos) (mbF T gm fo argN) := by
  refine PEimp (pe_bm0 pa slot hty hm ho hbase hline) fun σ H Q h => ?_
  obtain ⟨F, e, va, e', gd, h, k⟩ := h
  obtain ⟨⟨vo, e1⟩, h1, h⟩ := Option.bind_eq_some_iff.mp h
  obtain ⟨o, h2, h⟩ := Option.bind_eq_some_iff.mp h
  refine ⟨F, e, vo, e1, gd, h1, fun F1 H1 x g1 s1 r1 n1 => ?_⟩
  dsimp only at h
  split at h
  · rename_i ht
    refine ⟨tyD_ok (r1.dr g1 h2) ht, ?_⟩
    obtain ⟨⟨vas, e2⟩, h3, h⟩ := Option.bind_eq_some_iff.mp h
    obtain ⟨o', h4, h⟩ := Option.bind_eq_some_iff.mp h
    obtain ⟨ds, h5, h⟩ := Option.bind_eq_some_iff.mp h
    obtain ⟨w, h6, h⟩ := Option.map_eq_some_iff.mp h
    cases h
    cases h3
    cases h5
    exact hr F1 σ H1 e1 x [] o' [] _ Q g1 (r1.dr g1 h4) .nil h6 (k.later s1)
  · cases h

/-! ### slices -/
def prtF : Option FE → En → Option (Option Int × En)
  | none, e => some (none, e)
  | some f, e => (f e).bind fun r => match r.1 with
    | .fz (.int i) => some (some i, r.2)
    | _ => none
def slF (g : D → Option Int → Option Int → Option Va) (f : FE) (lo hi : Option FE) : FE := fun e => (f e).bind fun r => (prtF lo r.2).bind fun a => (prtF hi a.2).bind fun b => (rd b.2 r.1).bind fun d => (g d a.1 b.1).map fun v => (v, b.2)
def RSD (K : PySem.W.Frag) (g : D → Option Int → Option Int → Option Va) (r : V → Option Int → Option Int → Hp → VK → Prop) : Prop := ∀ (F : Fz) (σ : SS) (H : Hp) (e : En) (x : V) (d : D) (lo hi : Option Int) (va : Va) (Q : VK),
  Gd K F σ H e → DR K F H x d → g d lo hi = some va → Out K F σ H e va e Q → r x lo hi H Q
def EvP (X : Cx) (ex : Option Expr) (f : Option FE) : Prop := PO X ex fun σ H Q => ∃ (F : Fz) (e : En) (o : Option Int) (e' : En), Gd X.K F σ H e ∧ prtF f e = some (o, e') ∧ ∀ F' H', Gd X.K F' σ H' e' → Stp F σ H e F' σ H' e' → Q o H'
theorem POimp {ex : Option Expr} {t t' : TO} (h : PO X ex t) (i : ∀ σ H Q, t' σ H Q → t σ H Q) : PO X ex t' := ⟨fun pins s σ H Q I q => h.run pins s σ H Q I (i σ H Q q)⟩
theorem ep_none : EvP X none none := by
  refine POimp po_none ?_
  rintro σ H Q ⟨F, e, o, e', gd, h, k⟩
  cases h
  exact k F H gd Stp.refl
theorem ep_some {f : FE} (h : EvE X ex f) : EvP X (some ex) (some f) := by
  refine POimp (po_some h) ?_
  rintro σ H Q ⟨F, e, o, e', gd, h, k⟩
  obtain ⟨⟨v, e1⟩, h1, h⟩ := Option.bind_eq_some_iff.mp h
  refine ⟨F, e, v, e1, gd, h1, fun F1 H1 x g1 s1 r1 n1 => ?_⟩
  dsimp only at h
  split at h
  · cases h
    exact ⟨_, DR.int (.inl r1), k F1 H1 g1 s1⟩
  · cases h
theorem ev_slice {lo hi : Option Expr} {fl fh : Option FE} {p2 : Pos} {gs : D → Option Int → Option Int → Option Va} {rs : V → Option Int → Option Int → Hp → VK → Prop} (hr : SlR X rs) (hd : RSD X.K gs rs) (he : EvE X ex fo) (hl : EvP X lo fl) (hu : EvP X hi fh) :
    EvE X (.Subscript ex (.Slice lo hi none p2) pos) (slF gs fo fl fh) := by
  refine PEimp (pe_slice hr he hl hu) ?_
  rintro σ H Q ⟨F, e, va, e', gd, h, k⟩
  obtain ⟨⟨v, e1⟩, h1, h⟩ := Option.bind_eq_some_iff.mp h
  obtain ⟨⟨a, e2⟩, h2, h⟩ := Option.bind_eq_some_iff.mp h
  obtain ⟨⟨b, e3⟩, h3, h⟩ := Option.bind_eq_some_iff.mp h
  obtain ⟨d, h4, h⟩ := Option.bind_eq_some_iff.mp h
  obtain ⟨w, h5, h⟩ := Option.map_eq_some_iff.mp h
  cases h
  refine ⟨F, e, v, e1, gd, h1, fun F1 H1 x g1 s1 r1 n1 => ⟨F1, e1, a, e2, g1, h2, fun F2 H2 g2 s2 => ⟨F2, e2, b, e3, g2, h3, fun F3 H3 g3 s3 => ?_⟩⟩⟩
  exact hd F3 σ H3 e3 x d a b _ Q g3 (((r1.step g1 s2).step g2 s3).dr g3 h4) h5 (k.later ((s1.trans s2).trans s3))
end
end Sh
end Sh3__
section Sg__
set_option Elab.async false
set_option linter.all false
set_option autoImplicit false
set_option maxRecDepth 100000
set_option maxHeartbeats 4000000
/-! Sg: promises of defs where it is known that no repr is under way (A.guards = some []): needed for repr of lists and tuples. -/
namespace Sh
open PySem L2 PySem.Spec PyProof.Rows

/-- room for k levels of calls, and no repr under way -/
structure Rm (k : Nat) (A : Around) : Prop where
  room : Room k A
  grd : A.guards = some []
theorem Rm.mono {j k : Nat} {A : Around} (r : Rm k A) (h : j ≤ k) : Rm j A := ⟨r.room.mono h, r.grd⟩
theorem Rm.deeper {k : Nat} {A : Around} (r : Rm (k + 1) A) (env : Env) : Rm k (A.deeper env) := ⟨r.room.deeper env, r.grd⟩

/-- a def's promise -/
structure GFn (P : Program) (w : World) (K : PySem.W.Frag) (mg : Str → Option Value) (base : Heap) (CX : CXT) (k : Nat) (f : Addr) (fd : FuncData) (ps : List Str) (sp : Sp) : Prop where
  many : ∀ vs H Q E, sp vs H Q E → vs.length = ps.length
  goes : ∀ {A : Around} {out : List Env} {s : Shared} {H : Hp} {ar : Args} {us : List Value} {vs : List V} {Q : VK} {E : XK},
    Rm k A → Env0 P w K mg base A out s H → BindsTo s fd ar (ps.zip us) → Vals vs us → sp vs H Q E →
    codeAny (model P w) A (.call (.ref f) ar) (CR CX out P w H s Q E) s

section
variable {P : Program} {w : World} {K : PySem.W.Frag} {mg : Str → Option Value} {base : Heap} {x qual : Str} {params : Arguments} {body : List Stmt} {scope : Scope} {dvs : List V} {kws : List (Str × V)} {f : Addr} {fd : FuncData}
/-- by its body -/
theorem gfn_of {CX : CXT} {N ps : List Str} {k : Nat} {sp : Sp} (F : FunD K x qual params body scope dvs kws f fd) (S : FnScope N ps scope) (many : ∀ vs H Q E, sp vs H Q E → vs.length = ps.length)
    (hb : ∀ (cdv : Value) (A : Around) (out : List Env) (s : Shared) (H : Hp) (vs : List V) (Q : VK) (E : XK), Rm k (A.deeper (envOfC qual scope s.heap.objs.size f cdv)) → sp vs H Q E →
      ∃ tt : TS, PSs (cxOf CX P w K mg base N qual scope f cdv A out s H E) body tt ∧ tt { nx := fun _ H2 => Q .non H2, rt := Q } (start N vs) H) :
    GFn P w K mg base CX (k + 1) f fd ps sp := by
  obtain ⟨_, _, _, _, _, _, _, cdv, _, _, rfl, look, code, _, _⟩ := F.ex
  refine { many := many, goes := ?_ }
  intro A out s H ar us vs Q E room en bind vals want
  have lenEq := many _ _ _ _ want
  have kIn : K.In s.heap := en.mod.kin.keeps (fun b o q => (en.bs b o q).1)
  have noLim : s.heap.NoLimit := en.mod.nolimit.keeps (fun b o q => (en.bs b o q).1)
  have sorts : ∀ y ∈ ps.zip us, scope.names.lookup y.1 = some .local ∨
      (scope.names.lookup y.1 = some .cell ∧ ((cellsFrom (s.heap.objs.size + 1) scope.names []).lookup y.1).isSome = true) := by
    rintro ⟨nm, vl⟩ hy
    have hin := (List.of_mem_zip hy).1
    exact (S.par nm hin).imp id (fun q => ⟨q, PySem.W.cellsFrom_some _ _ _ (.inl q)⟩)
  refine codeAny_call_function room.room.depth (kIn _ _ look) rfl S.co S.gen rfl
    (PySem.W.codeRec_of kIn code) (bind _ _ _ _ ?_)
  refine wpAny_newFunctionEnv_cells S.kind sorts (fun env isEnv s2 inCall => ?_)
  cases isEnv
  refine ⟨noLim.keeps inCall.toInCall.keep, codeAny_func ?_⟩
  obtain ⟨tt, isTt, run⟩ := hb cdv A out s H vs Q E (room.deeper _) want
  have I := inv_start (CX := CX) (E := E) S room.room.hd en lenEq vals inCall
  refine wpAny_mono (isTt.run [] s2 (start N vs) H _ I run) ?_ (fun e s3 z => z)
  intro fl s3 z
  cases fl with
  | brk => exact False.elim z.choose_spec.choose_spec.2
  | cont => exact False.elim z.choose_spec.choose_spec.2
  | next =>
    obtain ⟨σ2, H2, J, q⟩ := z
    exact ⟨V.non, H2, J.os, J.bare, J.base, J.hok, rfl, q⟩
  | ret u =>
    obtain ⟨v, σ2, H2, J, rv, q⟩ := z
    exact ⟨v, H2, J.os, J.bare, J.base, J.hok, rv, q⟩
end

section
variable {X : Cx} {CX : CXT} {k : Nat} {f : Addr} {fd : FuncData} {ps : List Str} {sp : Sp} {dvs : List V} {ds : List Value} {E : XK} {x : Str} {p pos : Pos} {e : Expr} {es : List Expr} {t : TA}
/-- the callee runs, its values bound somehow -/
theorem runB {pins : List (Addr × Obj)} {σ : L2.St} {H : Hp} {s : Shared} {Q : VK} {ar : Args} {us : List Value} {vs : List V} (F : GFn X.prog X.w X.K X.mg X.base CX k f fd ps sp) (hr : Rm k X.A)
    (bnd : BindsTo s fd ar (ps.zip us)) (hx : Passes CX X E) (I : Inv X pins σ H s) (r : Vals vs us) (want : sp vs H Q E) :
    codeAny (model X.prog X.w) X.A (.call (.ref f) ar) (fun r s' => match r with | .ok (.ret u) => EP X pins σ Q u s' | .ok _ => False | .error e => X.xe e s') s := by
  refine codeAny_mono (F.goes hr I.env0 bnd r want) ?_
  rintro (e | fl) s' hq
  · exact hx pins σ H s e s' I hq
  · cases fl with
    | ret u => exact I.after hq
    | _ => exact hq.elim
theorem runG {pins : List (Addr × Obj)} {σ : L2.St} {H : Hp} {s : Shared} {Q : VK} {us : List Value} {vs : List V} (F : GFn X.prog X.w X.K X.mg X.base CX k f fd ps sp) (hr : Rm k X.A)
    (hb : Binds X.K fd ps []) (hx : Passes CX X E) (I : Inv X pins σ H s) (r : Vals vs us) (want : sp vs H Q E) : wpAny (model X.prog X.w) X.A (call (.ref f) us) (EP X pins σ Q) X.xe s := by
  have hl : (us ++ []).length = ps.length := by
    rw [List.append_nil, ← r.length]
    exact F.many _ _ _ _ want
  have bnd := hb s us I.kIn hl
  rw [List.append_nil] at bnd
  refine wpAny_call (codeAny_mono (runB F hr bnd hx I r want) ?_)
  rintro (e | fl) s' hq
  · exact hq
  · cases fl with
    | ret u => exact hq
    | _ => exact hq.elim
theorem pe_callG (F : GFn X.prog X.w X.K X.mg X.base CX k f fd ps sp) (hr : Rm k X.A) (hg : Gl X x) (hm : X.mg x = some (.ref f)) (hk : PySem.W.keepIn X.K (.ref f) = true) (hb : Binds X.K fd ps []) (hx : Passes CX X E)
    (ha : PA X (e :: es) t) (hdb : (x == ("__debug__" : Str)) = false := by decide) (he : starEach (e :: es) X.env = (false, eval e X.env) :: starEach es X.env := by rfl) (hpl : (backTo pos (starEach es X.env)).any (·.1) = false := by rfl) :
    PE X (.Call (.Name x p) (e :: es) [] pos) (fun σ H Q => t σ H fun vs H1 => sp vs H1 Q E) :=
  ⟨fun pins s σ H Q I want => wpAny_Call_Name_kw (ld_glob I hg hm (PySem.W.callWith_K (h₀ := X.base) I.ok.mod.kin hk
    (thn (ha.run pos pins s σ H _ I want) fun us s1 ⟨vs, H1, I1, r, q⟩ => ⟨I1.kIn, runG F hr hb hx I1 r q⟩) he hpl) hdb)⟩
theorem pe_callG0 (F : GFn X.prog X.w X.K X.mg X.base CX k f fd ps sp) (hr : Rm k X.A) (hg : Gl X x) (hm : X.mg x = some (.ref f)) (hk : PySem.W.keepIn X.K (.ref f) = true) (hb : Binds X.K fd ps []) (hx : Passes CX X E)
    (hdb : (x == ("__debug__" : Str)) = false := by decide) : PE X (.Call (.Name x p) [] [] pos) (fun σ H Q => sp [] H Q E) :=
  ⟨fun pins s σ H Q I want => wpAny_Call_Name_kw (ld_glob I hg hm (PySem.W.callWith_K0 I.kIn hk (runG (us := []) F hr hb hx I .nil want)) hdb)⟩
end

/-! ### a law's end -/
/-- the script's list alone is tracked, if it is no object of the written part -/
def onlyA (o : Obj) (xs : List V) (a : Addr) : Hp := fun b => if b = a then some (.frz o (.lst xs)) else none
theorem onlyA_at (o : Obj) (xs : List V) (a : Addr) : onlyA o xs a a = some (.frz o (.lst xs)) := if_pos rfl
theorem onlyA_off {o : Obj} {xs : List V} {a b : Addr} (h : b ≠ a) : onlyA o xs a b = none := if_neg h
theorem onlyA_some {o : Obj} {xs : List V} {a b : Addr} {u : HO} (h : onlyA o xs a b = some u) : b = a ∧ u = .frz o (.lst xs) := by
  by_cases z : b = a
  · subst z
    rw [onlyA_at] at h
    exact ⟨rfl, (Option.some.inj h).symm⟩
  · rw [onlyA_off z] at h
    cases h
section
variable {P : Program} {w : World} {K : PySem.W.Frag} {mg mb : Str → Option Value} {CX : CXT} {k : Nat} {fa a : Addr} {fd : FuncData} {x : Str} {sp : Sp} {s : Shared} {vs : List Value} {ns : List Int}
theorem law_callG (KX : K.In s.heap) (hns : s.heap.Ns mainGlobals mg) (hb : s.heap.Ns builtinsNs mb) (hbb : ∀ x : Str, x ≠ "__name__" → mb x = bootBuiltins x) (hlim : s.heap.NoLimit) (hg : s.gens = #[])
    (ha : s.heap.get? a = some { cls := .type "list", data := .seq vs.toArray }) (hi : IntsAre vs ns) (hl : ns.length ≤ sizeLine) (hr : Rm k callerA)
    (F : ∀ base : Heap, K.In base → base.Ns mainGlobals mg → GFn P w K mg base CX k fa fd [x] sp) (hbind : ∀ (s : Shared) (u : Value), BindsTo s fd ⟨[u], []⟩ [(x, u)])
    (hsp : ∀ H : Hp, Only H → SqL K H a (ns.map V.int) → sp [.ref a] H (fun v _ => v = .bl true) fun _ _ _ => False) (hCX : ∀ H e s', CX [] H s (fun _ _ _ => False) e s' → False) :
    codeAny (model P w) callerA (.call (.ref fa) ⟨[.ref a], []⟩) (fun r s' => r = .ok (.ret (.bool true)) ∧ OldK s.heap s'.heap ∧ s'.os = s.os ∧ AllBare s'.gens) s := by
  have vals := vals_ints hi
  have many : vs.length = ns.length := hi.length
  have main : ∀ H : Hp, Only H → SqL K H a (ns.map V.int) → HOk P w H s.heap → (∀ b, H b ≠ none → b = a) → (H a ≠ none → K.lookup a = none) →
      codeAny (model P w) callerA (.call (.ref fa) ⟨[.ref a], []⟩)
        (fun r s' => r = .ok (.ret (.bool true)) ∧ OldK s.heap s'.heap ∧ s'.os = s.os ∧ AllBare s'.gens) s := by
    intro H only sq ok isA noK
    have keep : ∀ {b : Addr} {o : Obj}, s.heap.get? b = some o → H b = none → (hidT s.heap H).get? b = some o := fun g z => hidT_get g z
    have notA : ∀ {b : Addr} {o : Obj} {es : Array DictEntry} {ep : Nat}, s.heap.get? b = some o → o.data = .dict es ep → H b = none := by
      intro b o es ep g d
      by_cases z : H b = none
      · exact z
      · have eq := isA b z
        subst eq
        rw [ha] at g
        cases g
        exact nomatch d
    have ns2 : ∀ {b : Addr} {m : Str → Option Value}, s.heap.Ns b m → (hidT s.heap H).Ns b m := by
      rintro b m ⟨o, es, ep, g, d, r⟩
      exact ⟨o, es, ep, keep g (notA g d), d, r⟩
    have inB : K.In (hidT s.heap H) := by
      intro b o g
      refine keep (KX b o g) ?_
      by_cases z : H b = none
      · exact z
      · have eq := isA b z
        subst eq
        rw [noK z] at g
        cases g
    obtain ⟨mc, c1, c2⟩ := hlim
    have md : Mod K mg (hidT s.heap H) := ⟨inB, ns2 hns, ⟨mb, ns2 hb, hbb⟩, mc, ns2 c1, c2⟩
    have en : Env0 P w K mg (hidT s.heap H) callerA [] s H :=
      { frames := rfl, mod := md, bs := fun b o g => of_hidT g, bsz := Nat.le_of_eq (hidT_size _ _), funs := trivial, frf := fun b z => absurd (show b ∈ ([] : List Addr) from z) (by simp), hok := ok, bare := .of_eq hg }
    refine codeAny_mono ((F _ inB (ns2 hns)).goes (us := [.ref a]) (vs := [.ref a]) hr en (hbind s (.ref a)) (.cons rfl .nil) (hsp H only sq)) ?_
    rintro (e | fl) s' z
    · exact (hCX H e s' z).elim
    · cases fl with
      | ret u =>
        obtain ⟨v, H2, os, bare, un, ok2, rv, isT⟩ := z
        cases (show v = .bl true from isT)
        cases (show u = Value.bool true from rv)
        refine ⟨rfl, OldK.of_keep ?_, os, bare⟩
        intro b o g
        cases q : H b with
        | none => exact un.keep b o g q (fun z => absurd (show b ∈ ([] : List Addr) from z) (by simp)) (by simp)
        | some u =>
          rcases only b with z | ⟨ob, xs, z⟩
          · rw [q] at z
            cases z
          · obtain ⟨g1, _⟩ := ok b _ z
            obtain ⟨g2, _⟩ := ok2 b _ (un.frzs b ob _ z)
            rw [g] at g1
            cases g1
            exact g2
      | _ => exact z.elim
  by_cases inK : K.lookup a = none
  · refine main (onlyA { cls := .type "list", data := .seq vs.toArray } (ns.map V.int) a) ?_ (.inl (.inr ⟨_, onlyA_at ..⟩)) ?_ ?_ (fun _ => inK)
    · intro b
      by_cases z : b = a
      · subst z
        exact .inr ⟨_, _, onlyA_at ..⟩
      · exact .inl (onlyA_off z)
    · intro b u z
      obtain ⟨rfl, rfl⟩ := onlyA_some z
      exact ⟨ha, by rw [List.length_map]; exact hl, vs, _, vals, ha⟩
    · intro b z
      by_cases y : b = a
      · exact y
      · exact absurd (onlyA_off y) z
  · obtain ⟨o, lk⟩ := Option.ne_none_iff_exists'.mp inK
    have same := KX a o lk
    rw [ha] at same
    cases same
    exact main (fun _ => none) (fun _ => .inl rfl) (.inr ⟨_, vs.toArray, _, lk, rfl, rfl, rfl, by rw [List.size_toArray, many]; exact hl, by simpa using vals⟩)
      (fun b u z => nomatch (show (none : Option HO) = some u from z)) (fun b z => absurd rfl z) (fun z => absurd rfl z)
end
/-- a law: F gives the written part, the function object, the promise over every base -/
theorem walkG {l : PySem.W.OpenLaw} {n k : Nat} {q : Program} {loose : List Str} {XP : (Str → Option Value) → Heap → Prop} {YP : World → Heap → Prop} {d : DefRec} {CX : CXT} {x : Str}
    (hn : l.most = some n) (hn2 : n ≤ sizeLine) (hdf : d.params.defaults = []) (hr : Rm k callerA)
    (F : ∀ (w : World) (mg : Str → Option Value) (fa : Addr) (h : Heap), YP w h → h.Ns mainGlobals mg → mg d.name = some (.ref fa) →
      ∃ (K : PySem.W.Frag) (fd : FuncData) (sp : Sp), K.In h ∧ (∀ (s : Shared) (u : Value), BindsTo s fd ⟨[u], []⟩ [(x, u)]) ∧
        (∀ (H : Hp) (a : Addr) (ns : List Int), ns.length ≤ n → Only H → SqL K H a (ns.map V.int) → sp [.ref a] H (fun v _ => v = .bl true) fun _ _ _ => False) ∧
        ∀ base : Heap, K.In base → base.Ns mainGlobals mg → GFn l.prog w K mg base CX k fa fd [x] sp)
    (hCX : ∀ (H : Hp) (s : Shared) (e : Value) (s' : Shared), CX [] H s (fun _ _ _ => False) e s' → False) :
    PySem.W.WalkO q loose XP YP l.row.toRowW d [] (fun f vs => PySem.call f vs) := by
  refine Att.attach_call hn hdf ?_
  intro w s0 s1 mg mb fa o pm cd doc a vs ns G Y _ _ _ hmg ob hi hlen hgn
  obtain ⟨K, fd, sp, KX, bnd, want, fn⟩ := F w mg fa _ Y G.T.g hmg
  exact law_callG KX G.T.g G.T.b G.T.builtins G.T.nolimit hgn ob hi (Nat.le_trans hlen hn2) hr fn bnd (fun H o2 s2 => want H a ns hlen o2 s2) (fun H e s' => hCX H s1 e s')
end Sh
end Sg__
section Sh4__
set_option Elab.async false
set_option linter.all false
set_option autoImplicit false
set_option maxRecDepth 100000
set_option maxHeartbeats 4000000
/-! Sh4: calls of defs by data: what is handed in is frozen, or lent to be changed. -/
namespace Sh
open PySem L2

/-- what is handed in: data, or the place of a name whose object is lent -/
abbrev Arg := D ⊕ Nat
def preA : List Bool → List Va → En → Option (List Arg × En)
  | [], [], e => some ([], e)
  | false :: ms, v :: vs, e => (fzn e v).bind fun r => (preA ms vs r.2).map fun q => (.inl r.1 :: q.1, q.2)
  | true :: ms, .bo i :: vs, e => (preA ms vs e).map fun q => (.inr i :: q.1, q.2)
  | _, _, _ => none
def ixs : List Arg → List Nat
  | [] => []
  | .inl _ :: r => ixs r
  | .inr i :: r => i :: ixs r
/-- the callee's names at first -/
def mkE (e : En) : List Arg → Option En
  | [] => some []
  | .inl d :: r => (mkE e r).map fun c => .fz d :: c
  | .inr i :: r => match e[i]? with
    | some (.ow _ d) => (mkE e r).map fun c => .ow true d :: c
    | _ => none
/-- what was lent comes back -/
def bak : List Arg → En → En → En
  | .inl _ :: r, _ :: c, e => bak r c e
  | .inr i :: r, .ow _ d :: c, e => match e[i]? with
    | some (.ow io _) => bak r c (e.set i (.ow io d))
    | _ => e
  | _, _, e => e
def callF (ms : List Bool) (m : FE) (fa : FA) : FE := fun e => (fa e).bind fun r => (preA ms r.1 r.2).bind fun p => if (ixs p.1).Nodup then (mkE p.2 p.1).bind fun c => (m c).bind fun q => match q.1 with
  | .bo _ => none
  | va => some (va, bak p.1 q.2 p.2)
  else none
/-- what was lent is the caller's -/
def Lent (c : En) : Prop := ∀ (i : Nat) (io : Bool) (d : D), c[i]? = some (.ow io d) → io = true
/-- a def's promise: it gives what m gives -/
def spF (K : PySem.W.Frag) (n : Nat) (m : FE) : Sp := fun vs H Q _ => vs.length = n ∧ ∃ (F : Fz) (c : En) (va : Va) (c' : En), Lent c ∧ Gd K F (vs.map some) H c ∧ m c = some (va, c') ∧ (∀ i, va ≠ .bo i) ∧ Out K F (vs.map some) H c va c' Q

def PR (K : PySem.W.Frag) (F : Fz) (σ : SS) (H : Hp) (v : V) : Arg → Prop
  | .inl d => DF K F H v d
  | .inr i => σ[i]? = some (some v)
def PRs (K : PySem.W.Frag) (F : Fz) (σ : SS) (H : Hp) : List V → List Arg → Prop := Paired (PR K F σ H)
section
variable {K : PySem.W.Frag} {F F1 F' : Fz} {σ : SS} {H H1 : Hp} {e e1 e2 e' : En}
theorem preA_ok : ∀ {ms : List Bool} {vas : List Va} {vs : List V} {ps : List Arg} {F : Fz} {e e' : En}, Gd K F σ H e → RVs K F σ H e vs vas → noFr vas → preA ms vas e = some (ps, e') → ∃ F', Gd K F' σ H e' ∧ Stp F σ H e F' σ H e' ∧ PRs K F' σ H vs ps ∧ ps.length = ms.length
  | [], [], _, _, F, e, _, g, r, _, h => by
    cases r
    cases h
    exact ⟨F, g, Stp.refl, .nil, rfl⟩
  | [], _ :: _, _, _, _, _, _, _, _, _, h => by simp [preA] at h
  | _ :: _, [], _, _, _, _, _, _, _, _, h => by simp [preA] at h
  | false :: ms, va :: vas, _, _, F, e, _, g, r, n, h => by
    cases r with
    | cons r1 r2 =>
      simp only [preA] at h
      obtain ⟨⟨d1, e1⟩, h1, h⟩ := Option.bind_eq_some_iff.mp h
      obtain ⟨⟨ps2, e2⟩, h2, h⟩ := Option.map_eq_some_iff.mp h
      cases h
      obtain ⟨F1, g1, s1, df⟩ := fzn_ok g r1 (n va List.mem_cons_self) h1
      obtain ⟨F2, g2, s2, ps, hl⟩ := preA_ok g1 (RVs.step g s1 r2) (fun v hv => n v (List.mem_cons_of_mem _ hv)) h2
      exact ⟨F2, g2, s1.trans s2, .cons (show DF K F2 H _ d1 from df.keeps (s2.keeps g1)) ps, congrArg Nat.succ hl⟩
  | true :: ms, va :: vas, _, _, F, e, _, g, r, n, h => by
    cases r with
    | cons r1 r2 =>
      cases va with
      | fz d => simp [preA] at h
      | fr d => simp [preA] at h
      | bo i =>
        simp only [preA] at h
        obtain ⟨⟨ps2, e2⟩, h2, h⟩ := Option.map_eq_some_iff.mp h
        cases h
        obtain ⟨F2, g2, s2, ps, hl⟩ := preA_ok g r2 (fun v hv => n v (List.mem_cons_of_mem _ hv)) h2
        exact ⟨F2, g2, s2, .cons (show σ[i]? = some (some _) from r1) ps, congrArg Nat.succ hl⟩
theorem mkE_at : ∀ {ps : List Arg} {c : En}, mkE e ps = some c → c.length = ps.length ∧ (∀ (j : Nat) (d : D), c[j]? = some (.fz d) → ps[j]? = some (.inl d)) ∧ (∀ (j : Nat) (io : Bool) (d : D), c[j]? = some (.ow io d) → io = true ∧ ∃ (i : Nat) (io' : Bool), ps[j]? = some (.inr i) ∧ e[i]? = some (.ow io' d)) ∧
      (∀ (j i : Nat), ps[j]? = some (.inr i) → ∃ (io : Bool) (d : D), e[i]? = some (.ow io d) ∧ c[j]? = some (.ow true d))
  | [], c, h => by
    cases h
    exact ⟨rfl, fun j d h => by simp at h, fun j io d h => by simp at h, fun j i h => by simp at h⟩
  | .inl d :: r, c, h => by
    simp only [mkE] at h
    obtain ⟨c2, h2, h⟩ := Option.map_eq_some_iff.mp h
    cases h
    obtain ⟨a1, a2, a3, a4⟩ := mkE_at h2
    refine ⟨congrArg Nat.succ a1, fun j d' h => ?_, fun j io d' h => ?_, fun j i h => ?_⟩
    · cases j with
      | zero => simp at h; simp [h]
      | succ j => exact a2 j d' (by simpa using h)
    · cases j with
      | zero => simp at h
      | succ j => exact a3 j io d' (by simpa using h)
    · cases j with
      | zero => simp at h
      | succ j => exact a4 j i (by simpa using h)
  | .inr i :: r, c, h => by
    simp only [mkE] at h
    split at h
    · rename_i io d he
      obtain ⟨c2, h2, h⟩ := Option.map_eq_some_iff.mp h
      cases h
      obtain ⟨a1, a2, a3, a4⟩ := mkE_at h2
      refine ⟨congrArg Nat.succ a1, fun j d' h => ?_, fun j io' d' h => ?_, fun j i' h => ?_⟩
      · cases j with
        | zero => simp at h
        | succ j => exact a2 j d' (by simpa using h)
      · cases j with
        | zero =>
          simp at h
          obtain ⟨rfl, rfl⟩ := h
          exact ⟨rfl, i, io, rfl, he⟩
        | succ j => exact a3 j io' d' (by simpa using h)
      · cases j with
        | zero =>
          simp at h
          subst h
          exact ⟨io, d, he, rfl⟩
        | succ j => exact a4 j i' (by simpa using h)
    · cases h
theorem ixs_mem : ∀ {ps : List Arg} {j i : Nat}, ps[j]? = some (.inr i) → i ∈ ixs ps
  | [], _, _, h => by simp at h
  | .inl d :: r, 0, _, h => by simp at h
  | .inl d :: r, j + 1, _, h => ixs_mem (ps := r) (j := j) (by simpa using h)
  | .inr k :: r, 0, _, h => by simp at h; subst h; exact List.mem_cons_self
  | .inr k :: r, j + 1, _, h => List.mem_cons_of_mem _ (ixs_mem (ps := r) (j := j) (by simpa using h))
theorem ixs_inj : ∀ {ps : List Arg} {j k i : Nat}, (ixs ps).Nodup → ps[j]? = some (.inr i) → ps[k]? = some (.inr i) → j = k
  | [], _, _, _, _, h, _ => by simp at h
  | .inl d :: r, 0, _, _, _, h, _ => by simp at h
  | .inl d :: r, _ + 1, 0, _, _, _, h => by simp at h
  | .inl d :: r, j + 1, k + 1, _, n, h1, h2 => congrArg Nat.succ (ixs_inj (ps := r) n (by simpa using h1) (by simpa using h2))
  | .inr l :: r, 0, 0, _, _, _, _ => rfl
  | .inr l :: r, 0, k + 1, _, n, h1, h2 => by
    simp at h1
    subst h1
    exact absurd (ixs_mem (ps := r) (j := k) (by simpa using h2)) (List.nodup_cons.mp n).1
  | .inr l :: r, j + 1, 0, _, n, h1, h2 => by
    simp at h2
    subst h2
    exact absurd (ixs_mem (ps := r) (j := j) (by simpa using h1)) (List.nodup_cons.mp n).1
  | .inr l :: r, j + 1, k + 1, _, n, h1, h2 => congrArg Nat.succ (ixs_inj (ps := r) (List.nodup_cons.mp n).2 (by simpa using h1) (by simpa using h2))
theorem PRs.at_ : ∀ {vs : List V} {ps : List Arg} {j : Nat} {p : Arg}, PRs K F σ H vs ps → ps[j]? = some p → ∃ v, vs[j]? = some v ∧ PR K F σ H v p
  | _, _, _, _, .nil, h => by simp at h
  | _, _, 0, _, .cons r _, h => by simp at h; subst h; exact ⟨_, rfl, r⟩
  | _, _, j + 1, p, .cons _ r, h => by
    obtain ⟨v, h1, h2⟩ := PRs.at_ (j := j) (p := p) r (by simpa using h)
    exact ⟨v, by simpa using h1, h2⟩
/-- the callee's state -/
theorem Gd.callee (g : Gd K F σ H e) {vs : List V} {ps : List Arg} {c : En} (r : PRs K F σ H vs ps) (nd : (ixs ps).Nodup) (h : mkE e ps = some c) :
    Gd K F (vs.map some) H c ∧ ∀ a, Ows (vs.map some) c a → Ows σ e a := by
  obtain ⟨a1, a2, a3, a4⟩ := mkE_at h
  have vmap : ∀ {j : Nat} {v : V}, vs[j]? = some v → (vs.map some)[j]? = some (some v) := fun {j v} q => by rw [List.getElem?_map, q]; rfl
  have vback : ∀ {j : Nat} {v : V}, (vs.map some)[j]? = some (some v) → vs[j]? = some v := fun {j v} q => by
    rw [List.getElem?_map] at q
    cases z : vs[j]? with
    | none => rw [z] at q; cases q
    | some w => rw [z] at q; cases q; rfl
  refine ⟨⟨by rw [List.length_map, a1]; exact Paired.length r, fun j d hj => ?_, fun j io d hj => ?_, fun j k io io' d d' a h1 h2 h3 h4 => ?_, g.fw⟩, fun a ha => ?_⟩
  · obtain ⟨v, q1, q2⟩ := PRs.at_ r (a2 j d hj)
    exact ⟨v, vmap q1, q2⟩
  · obtain ⟨_, i, io', q1, q2⟩ := a3 j io d hj
    obtain ⟨v, q3, q4⟩ := PRs.at_ r q1
    obtain ⟨a, q5, q6⟩ := g.ow i io' d q2
    have q4 : σ[i]? = some (some v) := q4
    rw [q5] at q4; cases q4
    exact ⟨a, vmap q3, q6⟩
  · obtain ⟨_, i, io1, q1, q2⟩ := a3 j io d h1
    obtain ⟨_, i', io2, q1', q2'⟩ := a3 k io' d' h2
    obtain ⟨v, q3, q4⟩ := PRs.at_ r q1
    obtain ⟨v', q3', q4'⟩ := PRs.at_ r q1'
    have e1 := vback h3
    have e2 := vback h4
    rw [q3] at e1; cases e1
    rw [q3'] at e2; cases e2
    have : i = i' := g.sep i i' _ _ _ _ a q2 q2' q4 q4'
    subst this
    exact ixs_inj nd q1 q1'
  · obtain ⟨j, io, d, h1, h2⟩ := ha
    obtain ⟨_, i, io1, q1, q2⟩ := a3 j io d h1
    obtain ⟨v, q3, q4⟩ := PRs.at_ r q1
    have e1 := vback h2
    rw [q3] at e1; cases e1
    exact ⟨i, io1, d, q2, q4⟩
/-- what comes back, name by name -/
theorem bak_at : ∀ {ps : List Arg} {c : En} {e : En}, (ixs ps).Nodup → (∀ (j i : Nat), ps[j]? = some (.inr i) → (∃ (io : Bool) (d : D), e[i]? = some (.ow io d)) ∧ ∃ (io : Bool) (d : D), c[j]? = some (.ow io d)) → c.length = ps.length →
    (bak ps c e).length = e.length ∧ ∀ i : Nat, (∃ (j : Nat) (io : Bool) (io' : Bool) (d d' : D), ps[j]? = some (.inr i) ∧ e[i]? = some (.ow io d) ∧ c[j]? = some (.ow io' d') ∧ (bak ps c e)[i]? = some (.ow io d')) ∨
      (i ∉ ixs ps ∧ (bak ps c e)[i]? = e[i]?)
  | [], [], e, _, _, _ => ⟨rfl, fun i => .inr ⟨by simp [ixs], rfl⟩⟩
  | [], _ :: _, _, _, _, h => by simp at h
  | _ :: _, [], _, _, _, h => by simp at h
  | .inl d :: r, s :: c, e, nd, hh, hl => by
    obtain ⟨h1, h2⟩ := bak_at (ps := r) (c := c) (e := e) nd (fun j i q => by simpa using hh (j + 1) i (by simpa using q)) (by simpa using hl)
    refine ⟨h1, fun i => ?_⟩
    rcases h2 i with ⟨j, io, io', d1, d2, q1, q2, q3, q4⟩ | ⟨q1, q2⟩
    · exact .inl ⟨j + 1, io, io', d1, d2, by simpa using q1, q2, by simpa using q3, q4⟩
    · exact .inr ⟨q1, q2⟩
  | .inr k :: r, s :: c, e, nd, hh, hl => by
    obtain ⟨⟨io0, d0, he⟩, io1, d1, hc⟩ := hh 0 k rfl
    have hc : s = .ow io1 d1 := by simpa using hc
    subst hc
    have nd' := List.nodup_cons.mp (show (k :: ixs r).Nodup from nd)
    have eb : bak (.inr k :: r) (.ow io1 d1 :: c) e = bak r c (e.set k (.ow io0 d1)) := by simp only [bak, he]
    have hk : k < e.length := (List.getElem?_eq_some_iff.mp he).1
    obtain ⟨h1, h2⟩ := bak_at (ps := r) (c := c) (e := e.set k (.ow io0 d1)) nd'.2 (fun j i q => by
      obtain ⟨⟨io, d, z1⟩, z2⟩ := hh (j + 1) i (by simpa using q)
      refine ⟨⟨io, d, ?_⟩, by simpa using z2⟩
      have : k ≠ i := fun z => by subst z; exact nd'.1 (ixs_mem q)
      rw [List.getElem?_set_ne this]
      exact z1) (by simpa using hl)
    rw [eb]
    refine ⟨by rw [h1, List.length_set], fun i => ?_⟩
    rcases h2 i with ⟨j, io, io', d2, d3, q1, q2, q3, q4⟩ | ⟨q1, q2⟩
    · have : k ≠ i := fun z => by subst z; exact nd'.1 (ixs_mem q1)
      rw [List.getElem?_set_ne this] at q2
      exact .inl ⟨j + 1, io, io', d2, d3, by simpa using q1, q2, by simpa using q3, q4⟩
    · by_cases z : k = i
      · subst z
        rw [List.getElem?_set_self hk] at q2
        exact .inl ⟨0, io0, io1, d0, d1, rfl, he, rfl, q2⟩
      · rw [List.getElem?_set_ne z] at q2
        refine .inr ⟨fun w => ?_, q2⟩
        rcases List.mem_cons.mp (show i ∈ k :: ixs r from w) with w | w
        · exact z w.symm
        · exact q1 w
/-- the caller's state behind the call -/
theorem Gd.back (g : Gd K F σ H e) {vs : List V} {ps : List Arg} {c c' : En} (r : PRs K F σ H vs ps) (nd : (ixs ps).Nodup) (h : mkE e ps = some c) (g' : Gd K F' (vs.map some) H1 c') (s : Stp F (vs.map some) H c F' (vs.map some) H1 c') :
    Gd K F' σ H1 (bak ps c' e) ∧ Stp F σ H e F' σ H1 (bak ps c' e) ∧ ∀ a, Ows σ (bak ps c' e) a → Ows σ e a := by
  obtain ⟨gc, sub⟩ := g.callee r nd h
  obtain ⟨a1, a2, a3, a4⟩ := mkE_at h
  have ln : c'.length = ps.length := by
    have := g'.len
    have := gc.len
    omega
  have vmap : ∀ {j : Nat} {v : V}, vs[j]? = some v → (vs.map some)[j]? = some (some v) := fun {j v} q => by rw [List.getElem?_map, q]; rfl
  obtain ⟨b1, b2⟩ := bak_at (ps := ps) (c := c') (e := e) nd (fun j i q => by
    obtain ⟨io, d, z1, z2⟩ := a4 j i q
    obtain ⟨_, d', z3⟩ := s.io j d z2
    exact ⟨⟨io, d, z1⟩, true, d', z3⟩) ln
  have kp : Keeps F H F' H1 := fun a q => ⟨s.mono a q, fun u hu => s.keep a u hu fun z => g.nof (sub a z) q⟩
  have back : ∀ (i : Nat) (io : Bool) (d : D), (bak ps c' e)[i]? = some (.ow io d) → ∃ d0, e[i]? = some (.ow io d0) := fun i io d q => by
    rcases b2 i with ⟨j, io1, io2, d1, d2, q1, q2, q3, q4⟩ | ⟨q1, q2⟩
    · rw [q4] at q
      have q := Sl.ow.inj (Option.some.inj q)
      rw [← q.1]
      exact ⟨d1, q2⟩
    · rw [q2] at q
      exact ⟨d, q⟩
  have ows : ∀ a, Ows σ (bak ps c' e) a → Ows σ e a := fun a ⟨i, io, d, q1, q2⟩ => by
    obtain ⟨d0, q3⟩ := back i io d q1
    exact ⟨i, io, d0, q3, q2⟩
  refine ⟨⟨by rw [b1]; exact g.len, fun i d q => ?_, fun i io d q => ?_, fun i k io io' d d' a h1 h2 h3 h4 => ?_, g'.fw⟩, ⟨s.mono, fun a u q n => s.keep a u q fun z => n (sub a z), s.there, fun a q => .inl (ows a q), fun a q => ?_, fun i d q => ?_, b1⟩, ows⟩
  · rcases b2 i with ⟨j, io1, io2, d1, d2, q1, q2, q3, q4⟩ | ⟨q1, q2⟩
    · rw [q4] at q; cases q
    · rw [q2] at q
      obtain ⟨v, z1, z2⟩ := g.fz i d q
      exact ⟨v, z1, z2.keeps kp⟩
  · rcases b2 i with ⟨j, io1, io2, d1, d2, q1, q2, q3, q4⟩ | ⟨q1, q2⟩
    · rw [q4] at q
      have q := Sl.ow.inj (Option.some.inj q)
      obtain ⟨v, z1, z2⟩ := PRs.at_ r q1
      obtain ⟨a, z3, z4⟩ := g'.ow j io2 d2 q3
      rw [vmap z1] at z3; cases z3
      rw [← q.2]
      exact ⟨a, z2, z4⟩
    · rw [q2] at q
      obtain ⟨a, z1, z2⟩ := g.ow i io d q
      obtain ⟨ds, ws, rfl, z, hs⟩ := z2.ex
      have no : ¬ Ows (vs.map some) c a := fun ⟨j, io', d', y1, y2⟩ => by
        obtain ⟨_, i', io2, y3, y4⟩ := a3 j io' d' y1
        obtain ⟨v, y5, y6⟩ := PRs.at_ r y3
        have y7 := vmap y5
        rw [y2] at y7; cases y7
        have : i = i' := g.sep i i' _ _ _ _ a q y4 z1 y6
        subst this
        exact q1 (ixs_mem y3)
      refine ⟨a, z1, ⟨ds, ws, rfl, s.keep a _ z no, hs.keeps kp⟩, fun y => ?_⟩
      rcases s.fro a y with y | y | y
      · exact z2.nf y
      · rw [z] at y; cases y
      · exact no y
  · obtain ⟨d1, q1⟩ := back i io d h1
    obtain ⟨d2, q2⟩ := back k io' d' h2
    exact g.sep i k _ _ _ _ a q1 q2 h3 h4
  · rcases s.fro a q with q | q | q
    · exact .inl q
    · exact .inr (.inl q)
    · exact .inr (.inr (sub a q))
  · rcases b2 i with ⟨j, io1, io2, d1, d2, q1, q2, q3, q4⟩ | ⟨q1, q2⟩
    · rw [q2] at q
      have q := Sl.ow.inj (Option.some.inj q)
      rw [q.1] at q4
      exact ⟨rfl, d2, q4⟩
    · exact ⟨rfl, d, by rw [q2]; exact q⟩
end
section
variable {K : PySem.W.Frag} {F F1 F' : Fz} {σ : SS} {H H1 : Hp} {e e1 e2 e' : En} {ms : List Bool} {m : FE} {fa : FA}
/-- a call, from values on -/
theorem mkE_lent {e : En} {ps : List Arg} {c : En} (h : mkE e ps = some c) : Lent c := fun i io d q => ((mkE_at h).2.2.1 i io d q).1
theorem call_core {Q : VK} {E : XK} {n : Nat} {vas : List Va} {vs : List V} {ps : List Arg} {e2 c : En} {q : Va × En} (g1 : Gd K F σ H e1) (r1 : RVs K F σ H e1 vs vas) (nf : noFr vas) (hn : n = ms.length)
    (h1 : preA ms vas e1 = some (ps, e2)) (nd : (ixs ps).Nodup) (h2 : mkE e2 ps = some c) (h3 : m c = some q) (h4 : ∀ i, q.1 ≠ .bo i) (k : Out K F σ H e1 q.1 (bak ps q.2 e2) Q) : spF K n m vs H Q E := by
  obtain ⟨F2, g2, s2, pr, hl⟩ := preA_ok g1 r1 nf h1
  obtain ⟨gc, sub⟩ := g2.callee pr nd h2
  refine ⟨by rw [hn, ← hl]; exact Paired.length pr, F2, c, q.1, q.2, mkE_lent h2, gc, h3, h4, fun F3 H3 v g3 s3 r3 n3 => ?_⟩
  obtain ⟨g4, s4, ow4⟩ := g2.back pr nd h2 g3 s3
  refine k F3 H3 v g4 (s2.trans s4) ?_ ?_
  · cases z : q.1 with
    | fz d => rw [z] at r3; exact r3
    | bo i => exact absurd z (h4 i)
    | fr d =>
      rw [z] at r3 n3
      obtain ⟨a, rfl, ow, no⟩ := r3
      refine ⟨a, rfl, ow, fun y => ?_⟩
      obtain ⟨u, hu⟩ := g2.own_there (ow4 a y)
      rw [n3 a rfl] at hu; cases hu
  · cases z : q.1 with
    | fz d => trivial
    | bo i => exact absurd z (h4 i)
    | fr d => rw [z] at n3; exact n3
theorem callF_some {r : Va × En} (h : callF ms m fa e = some r) : ∃ vas e1 ps e2 c q, fa e = some (vas, e1) ∧ preA ms vas e1 = some (ps, e2) ∧ (ixs ps).Nodup ∧ mkE e2 ps = some c ∧ m c = some q ∧ (∀ i, q.1 ≠ .bo i) ∧ r = (q.1, bak ps q.2 e2) := by
  obtain ⟨⟨vas, e1⟩, h1, h⟩ := Option.bind_eq_some_iff.mp h
  obtain ⟨⟨ps, e2⟩, h2, h⟩ := Option.bind_eq_some_iff.mp h
  dsimp only at h
  split at h
  · rename_i nd
    obtain ⟨c, h3, h⟩ := Option.bind_eq_some_iff.mp h
    obtain ⟨q, h4, h⟩ := Option.bind_eq_some_iff.mp h
    refine ⟨vas, e1, ps, e2, c, q, h1, h2, nd, h3, h4, ?_⟩
    obtain ⟨qa, qe⟩ := q
    cases qa with
    | bo i => cases h
    | fz d => cases h; exact ⟨fun i z => (nomatch z), rfl⟩
    | fr d => cases h; exact ⟨fun i z => (nomatch z), rfl⟩
  · cases h
end
section
variable {X : Cx} {CX : CXT} {k n : Nat} {f : Addr} {fd : FuncData} {ps ks : List Str} {E : XK} {x : Str} {p pos : Pos} {ex : Expr} {es : List Expr} {kws : List Keyword} {ms : List Bool} {m : FE} {fa fk : FA}
theorem ev_call (F : GFn X.prog X.w X.K X.mg X.base CX k f fd ps (spF X.K n m)) (hn : n = ms.length) (hr : Rm k X.A) (hg : Gl X x) (hm : X.mg x = some (.ref f)) (hk : PySem.W.keepIn X.K (.ref f) = true) (hb : Binds X.K fd ps []) (hx : Passes CX X E)
    (ha : EvA X (ex :: es) fa) (ia : IsA fa) (hdb : (x == ("__debug__" : Str)) = false := by decide) (he : starEach (ex :: es) X.env = (false, eval ex X.env) :: starEach es X.env := by rfl) (hpl : (backTo pos (starEach es X.env)).any (·.1) = false := by rfl) :
    EvE X (.Call (.Name x p) (ex :: es) [] pos) (callF ms m fa) := by
  refine PEimp (pe_callG F hr hg hm hk hb hx ha hdb he hpl) ?_
  rintro σ H Q ⟨F0, e, va, e', gd, h, kk⟩
  obtain ⟨vas, e1, args, e2, c, q, h1, h2, nd, h3, h4, h5, h6⟩ := callF_some h
  cases h6
  refine ⟨F0, e, vas, e1, gd, h1, fun F1 H1 vs g1 s1 r1 => ?_⟩
  exact call_core g1 r1 (ia.noFr _ _ h1) hn h2 nd h3 h4 h5 (kk.later s1)
theorem ev_call0 (F : GFn X.prog X.w X.K X.mg X.base CX k f fd ps (spF X.K n m)) (hn : n = 0) (hr : Rm k X.A) (hg : Gl X x) (hm : X.mg x = some (.ref f)) (hk : PySem.W.keepIn X.K (.ref f) = true) (hb : Binds X.K fd ps []) (hx : Passes CX X E)
    (hdb : (x == ("__debug__" : Str)) = false := by decide) : EvE X (.Call (.Name x p) [] [] pos) (callF [] m argN) := by
  refine PEimp (pe_callG0 F hr hg hm hk hb hx hdb) ?_
  rintro σ H Q ⟨F0, e, va, e', gd, h, kk⟩
  obtain ⟨vas, e1, args, e2, c, q, h1, h2, nd, h3, h4, h5, h6⟩ := callF_some h
  cases h6
  cases h1
  exact call_core gd .nil (fun va hv => by simp at hv) (by rw [hn]; rfl) h2 nd h3 h4 h5 kk
end
end Sh
end Sh4__
section Sh5__
set_option Elab.async false
set_option linter.all false
set_option autoImplicit false
set_option maxRecDepth 100000
set_option maxHeartbeats 4000000
/-! Sh5: statements by data: stores, blocks, if, for, while, return, objects changed; a def by its body. -/
namespace Sh
open PySem L2

/-! ### a name stored -/
def setSl (i : Nat) (va : Va) (e : En) : Option En := match e[i]? with
  | some (.ow true _) => none
  | some _ => match va with
    | .fr d => some (e.set i (.ow false d))
    | .fz d => some (e.set i (.fz d))
    | .bo j => (fzn e (.bo j)).bind fun r => match r.2[i]? with
      | some (.ow true _) => none
      | _ => some (r.2.set i (.fz r.1))
  | none => none
section
variable {K : PySem.W.Frag} {F F0 F1 F' : Fz} {σ σ0 : SS} {H H0 H1 : Hp} {e e0 e1 e' : En} {v : V} {va : Va} {d : D}
theorem not_io {i : Nat} (h : ∀ d, e[i]? ≠ some (.ow true d)) (s : Stp F0 σ0 H0 e0 F σ H e) : ∀ d, e0[i]? ≠ some (.ow true d) := fun d q => by
  obtain ⟨_, d', z⟩ := s.io i d q
  exact h d' z
/-- frozen data stored -/
theorem Gd.set_fz (g : Gd K F σ H e) {i : Nat} (hi : i < e.length) (df : DF K F H v d) (n : ∀ d, e[i]? ≠ some (.ow true d)) : Gd K F (σ.set i (some v)) H (e.set i (.fz d)) ∧ Stp F σ H e F (σ.set i (some v)) H (e.set i (.fz d)) := by
  have hs : i < σ.length := by rw [g.len]; exact hi
  have back : ∀ {j : Nat} {io : Bool} {d' : D}, (e.set i (.fz d))[j]? = some (.ow io d') → j ≠ i ∧ e[j]? = some (.ow io d') := fun {j io d'} q => by
    by_cases z : i = j
    · subst z; rw [List.getElem?_set_self hi] at q; cases q
    · rw [List.getElem?_set_ne z] at q; exact ⟨fun w => z w.symm, q⟩
  have sb : ∀ {j : Nat}, j ≠ i → (σ.set i (some v))[j]? = σ[j]? := fun {j} q => List.getElem?_set_ne (fun w => q w.symm)
  have ows : ∀ a, Ows (σ.set i (some v)) (e.set i (.fz d)) a → Ows σ e a := fun a ⟨j, io, d', q1, q2⟩ => by
    obtain ⟨z1, z2⟩ := back q1
    rw [sb z1] at q2
    exact ⟨j, io, d', z2, q2⟩
  refine ⟨⟨by simp [g.len], fun j d' q => ?_, fun j io d' q => ?_, fun j k io io' d1 d2 a h1 h2 h3 h4 => ?_, g.fw⟩, ⟨fun _ q => q, fun _ _ q _ => q, fun _ u q => ⟨u, q⟩, fun a q => .inl (ows a q), fun _ q => .inl q, fun j d' q => ?_, by rw [List.length_set]⟩⟩
  · by_cases z : i = j
    · subst z
      rw [List.getElem?_set_self hi] at q; cases q
      exact ⟨v, List.getElem?_set_self hs, df⟩
    · rw [List.getElem?_set_ne z] at q
      obtain ⟨w, q1, q2⟩ := g.fz j d' q
      exact ⟨w, by rw [List.getElem?_set_ne z]; exact q1, q2⟩
  · obtain ⟨z1, z2⟩ := back q
    obtain ⟨a, q1, q2⟩ := g.ow j io d' z2
    exact ⟨a, by rw [sb z1]; exact q1, q2⟩
  · obtain ⟨z1, z2⟩ := back h1
    obtain ⟨z3, z4⟩ := back h2
    rw [sb z1] at h3
    rw [sb z3] at h4
    exact g.sep j k _ _ _ _ a z2 z4 h3 h4
  · by_cases z : i = j
    · subst z; exact absurd q (n d')
    · exact ⟨List.getElem?_set_ne z, d', by rw [List.getElem?_set_ne z]; exact q⟩
/-- a new object stored -/
theorem Gd.set_fr (g : Gd K F σ H e) (s : Stp F0 σ0 H0 e0 F σ H e) {i : Nat} {a : Addr} (hi : i < e.length) (ow : Ow K F H a d) (no : ¬ Ows σ e a) (nw : H0 a = none) (n : ∀ d, e[i]? ≠ some (.ow true d)) :
    Gd K F (σ.set i (some (.ref a))) H (e.set i (.ow false d)) ∧ Stp F0 σ0 H0 e0 F (σ.set i (some (.ref a))) H (e.set i (.ow false d)) := by
  have hs : i < σ.length := by rw [g.len]; exact hi
  have sb : ∀ {j : Nat}, j ≠ i → (σ.set i (some (.ref a)))[j]? = σ[j]? := fun {j} q => List.getElem?_set_ne (fun w => q w.symm)
  have back : ∀ {j : Nat} {io : Bool} {d' : D}, (e.set i (.ow false d))[j]? = some (.ow io d') → (j = i) ∨ (j ≠ i ∧ e[j]? = some (.ow io d')) := fun {j io d'} q => by
    by_cases z : i = j
    · exact .inl z.symm
    · rw [List.getElem?_set_ne z] at q; exact .inr ⟨fun w => z w.symm, q⟩
  have self_ : ∀ {b : Addr}, (σ.set i (some (.ref a)))[i]? = some (some (.ref b)) → b = a := fun {b} q => by
    rw [List.getElem?_set_self hs] at q; cases q; rfl
  refine ⟨⟨by simp [g.len], fun j d' q => ?_, fun j io d' q => ?_, fun j k io io' d1 d2 b h1 h2 h3 h4 => ?_, g.fw⟩, ⟨s.mono, s.keep, s.there, fun b ⟨j, io, d', q1, q2⟩ => ?_, s.fro, fun j d' q => ?_, by rw [List.length_set]; exact s.ln⟩⟩
  · by_cases z : i = j
    · subst z
      rw [List.getElem?_set_self hi] at q; cases q
    · rw [List.getElem?_set_ne z] at q
      obtain ⟨w, q1, q2⟩ := g.fz j d' q
      exact ⟨w, by rw [List.getElem?_set_ne z]; exact q1, q2⟩
  · rcases back q with z | ⟨z1, z2⟩
    · subst z
      rw [List.getElem?_set_self hi] at q; cases q
      exact ⟨a, List.getElem?_set_self hs, ow⟩
    · obtain ⟨b, q1, q2⟩ := g.ow j io d' z2
      exact ⟨b, by rw [sb z1]; exact q1, q2⟩
  · rcases back h1 with z | ⟨z1, z2⟩
    · subst z
      have := self_ h3
      subst this
      rcases back h2 with z | ⟨z3, z4⟩
      · exact z.symm
      · rw [sb z3] at h4
        exact absurd ⟨k, io', d2, z4, h4⟩ no
    · rcases back h2 with z | ⟨z3, z4⟩
      · subst z
        have := self_ h4
        subst this
        rw [sb z1] at h3
        exact absurd ⟨j, io, d1, z2, h3⟩ no
      · rw [sb z1] at h3
        rw [sb z3] at h4
        exact g.sep j k _ _ _ _ b z2 z4 h3 h4
  · rcases back q1 with z | ⟨z1, z2⟩
    · subst z
      have := self_ q2
      subst this
      exact .inr nw
    · rw [sb z1] at q2
      exact s.own b ⟨j, io, d', z2, q2⟩
  · obtain ⟨q1, d2, q2⟩ := s.io j d' q
    by_cases z : i = j
    · subst z; exact absurd q2 (n d2)
    · exact ⟨(List.getElem?_set_ne z).trans q1, d2, by rw [List.getElem?_set_ne z]; exact q2⟩
theorem setSl_ok (g : Gd K F σ H e) (s : Stp F0 σ0 H0 e0 F σ H e) (r : RV K F σ H e v va) (n : Nw H0 v va) {i : Nat} (h : setSl i va e = some e') : ∃ F', Gd K F' (σ.set i (some v)) H e' ∧ Stp F0 σ0 H0 e0 F' (σ.set i (some v)) H e' := by
  unfold setSl at h
  split at h
  · cases h
  · rename_i sl hne hsl
    have hi : i < e.length := (List.getElem?_eq_some_iff.mp hsl).1
    have nio : ∀ d, e[i]? ≠ some (.ow true d) := fun d q => hne d (Option.some.inj (hsl.symm.trans q))
    cases va with
    | fr d =>
      cases h
      obtain ⟨a, rfl, ow, no⟩ := r
      obtain ⟨g', s'⟩ := g.set_fr s hi ow no (n a rfl) nio
      exact ⟨F, g', s'⟩
    | fz d =>
      cases h
      obtain ⟨g', s'⟩ := g.set_fz hi r nio
      exact ⟨F, g', s.trans s'⟩
    | bo j =>
      obtain ⟨⟨d, e1⟩, h1, h⟩ := Option.bind_eq_some_iff.mp h
      obtain ⟨F1, g1, s1, df⟩ := fzn_ok g r (fun _ z => by cases z) h1
      dsimp only at h
      split at h
      · cases h
      · rename_i hne2
        cases h
        have hi1 : i < e1.length := by rw [← g1.len, g.len]; exact hi
        obtain ⟨g2, s2⟩ := g1.set_fz hi1 df (fun d q => hne2 d q)
        exact ⟨F1, g2, (s.trans s1).trans s2⟩
  · cases h
/-- an object of a name's own changed -/
theorem Gd.write (g : Gd K F σ H e) {i : Nat} {io : Bool} {a : Addr} {ds : List D} {vs : List V} (he : e[i]? = some (.ow io d)) (hs : σ[i]? = some (some (.ref a))) (hd : DFs K F H vs ds) :
    Gd K F σ (upd H a (.lst vs)) (e.set i (.ow io (.list ds))) ∧ Stp F σ H e F σ (upd H a (.lst vs)) (e.set i (.ow io (.list ds))) := by
  have hi : i < e.length := (List.getElem?_eq_some_iff.mp he).1
  have own : Ows σ e a := ⟨i, io, d, he, hs⟩
  obtain ⟨u0, hu0⟩ := g.own_there own
  have kp : Keeps F H F (upd H a (.lst vs)) := fun b q => ⟨q, fun u hu => by rw [upd_ne (show b ≠ a from fun z => g.nof own (z ▸ q))]; exact hu⟩
  have back : ∀ {j : Nat} {io' : Bool} {d' : D}, (e.set i (.ow io (.list ds)))[j]? = some (.ow io' d') → ∃ d'', e[j]? = some (.ow io' d'') := fun {j io' d'} q => by
    by_cases z : i = j
    · subst z; rw [List.getElem?_set_self hi] at q; cases q; exact ⟨d, he⟩
    · rw [List.getElem?_set_ne z] at q; exact ⟨d', q⟩
  have ows : ∀ b, Ows σ (e.set i (.ow io (.list ds))) b → Ows σ e b := fun b ⟨j, io', d', q1, q2⟩ => by
    obtain ⟨d'', z⟩ := back q1
    exact ⟨j, io', d'', z, q2⟩
  refine ⟨⟨by rw [List.length_set]; exact g.len, fun j d' q => ?_, fun j io' d' q => ?_, fun j k io1 io2 d1 d2 b h1 h2 h3 h4 => ?_, fun b q => ?_⟩, ⟨fun _ q => q, fun b u q n => ?_, fun b u q => ?_, fun b q => .inl (ows b q), fun _ q => .inl q, fun j d' q => ⟨rfl, ?_⟩, by rw [List.length_set]⟩⟩
  · by_cases z : i = j
    · subst z; rw [List.getElem?_set_self hi] at q; cases q
    · rw [List.getElem?_set_ne z] at q
      obtain ⟨w, q1, q2⟩ := g.fz j d' q
      exact ⟨w, q1, q2.keeps kp⟩
  · by_cases z : i = j
    · subst z
      rw [List.getElem?_set_self hi] at q; cases q
      exact ⟨a, hs, ⟨ds, vs, rfl, upd_same, hd.keeps kp⟩, g.nof own⟩
    · rw [List.getElem?_set_ne z] at q
      obtain ⟨b, q1, q2⟩ := g.ow j io' d' q
      obtain ⟨es, ws, rfl, y, hy⟩ := q2.ex
      have : b ≠ a := fun w => by subst w; exact z (g.sep i j _ _ _ _ b he q hs q1)
      exact ⟨b, q1, ⟨es, ws, rfl, by rw [upd_ne this]; exact y, hy.keeps kp⟩, q2.nf⟩
  · obtain ⟨d3, q1⟩ := back h1
    obtain ⟨d4, q2⟩ := back h2
    exact g.sep j k _ _ _ _ b q1 q2 h3 h4
  · by_cases z : b = a
    · subst z; exact ⟨_, upd_same⟩
    · obtain ⟨u, hu⟩ := g.fw b q
      exact ⟨u, by rw [upd_ne z]; exact hu⟩
  · rw [upd_ne (show b ≠ a from fun z => n (z ▸ own))]; exact q
  · by_cases z : b = a
    · subst z; exact ⟨_, upd_same⟩
    · exact ⟨u, by rw [upd_ne z]; exact q⟩
  · by_cases z : i = j
    · subst z; rw [he] at q; cases q; exact ⟨_, List.getElem?_set_self hi⟩
    · exact ⟨d', by rw [List.getElem?_set_ne z]; exact q⟩
end

/-! ### what a statement does -/
inductive Ou where
  | nx (e : En) | rt (va : Va) (e : En) | bk (e : En) | ct (e : En)
abbrev FS := En → Option Ou
def OutS (K : PySem.W.Frag) (F : Fz) (σ : SS) (H : Hp) (e : En) (D : Ends) : Ou → Prop
  | .nx e' => ∀ F' σ' H', Gd K F' σ' H' e' → Stp F σ H e F' σ' H' e' → D.nx σ' H'
  | .bk e' => ∀ F' σ' H', Gd K F' σ' H' e' → Stp F σ H e F' σ' H' e' → D.bk σ' H'
  | .ct e' => ∀ F' σ' H', Gd K F' σ' H' e' → Stp F σ H e F' σ' H' e' → D.ct σ' H'
  | .rt va e' => ∀ F' σ' H' v, Gd K F' σ' H' e' → Stp F σ H e F' σ' H' e' → RV K F' σ' H' e' v va → Nw H v va → D.rt v H'
def tSv (K : PySem.W.Frag) (f : FS) : TS := fun D σ H => ∃ (F : Fz) (e : En) (o : Ou), Gd K F σ H e ∧ f e = some o ∧ OutS K F σ H e D o
def EvS (X : Cx) (st : Stmt) (f : FS) : Prop := PS X st (tSv X.K f)
def EvSs (X : Cx) (st : List Stmt) (f : FS) : Prop := PSs X st (tSv X.K f)
section
variable {K : PySem.W.Frag} {F F1 F' : Fz} {σ σ1 : SS} {H H1 : Hp} {e e1 e2 e' : En} {D : Ends} {o : Ou}
theorem Nw.back {v : V} {va : Va} (s : Stp F σ H e F1 σ1 H1 e1) (n : Nw H1 v va) : Nw H v va := by
  cases va with
  | fr d => exact fun a q => s.none_back (n a q)
  | fz d => trivial
  | bo i => trivial
theorem OutS.later (s : Stp F σ H e F1 σ1 H1 e1) (h : OutS K F σ H e D o) : OutS K F1 σ1 H1 e1 D o := by
  cases o with
  | nx e' => exact fun F' σ' H' g st => h F' σ' H' g (s.trans st)
  | bk e' => exact fun F' σ' H' g st => h F' σ' H' g (s.trans st)
  | ct e' => exact fun F' σ' H' g st => h F' σ' H' g (s.trans st)
  | rt va e' => exact fun F' σ' H' v g st r n => h F' σ' H' v g (s.trans st) r (n.back s)
end
def nopF : FS := fun e => some (.nx e)
def seqF (f g : FS) : FS := fun e => (f e).bind fun o => match o with
  | .nx e1 => g e1
  | o => some o
def ifS (t : FT) (f g : FS) : FS := fun e => (t e).bind fun r => if r.1 = true then f r.2 else g r.2
def drpF (f : FE) : FS := fun e => (f e).map fun r => .nx r.2
def retF (f : FE) : FS := fun e => (f e).map fun r => .rt r.1 r.2
def retN : FS := fun e => some (.rt (.fz .none) e)
def setF (i : Nat) (f : FE) : FS := fun e => (f e).bind fun r => (setSl i r.1 r.2).map .nx
def bkF : FS := fun e => some (.bk e)
def ctF : FS := fun e => some (.ct e)
section
variable {X : Cx} {st : Stmt} {rest a b : List Stmt} {f g : FS} {t : FT} {fe : FE} {ex c : Expr} {pos : Pos}
theorem es_nil : EvSs X [] nopF := by
  refine PSsimp pss_nil ?_
  rintro D σ H ⟨F, e, o, gd, h, k⟩
  cases h
  exact k F σ H gd Stp.refl
theorem es_cons (h1 : EvS X st f) (h2 : EvSs X rest g) : EvSs X (st :: rest) (seqF f g) := by
  refine PSsimp (pss_cons h1 h2) ?_
  rintro D σ H ⟨F, e, o, gd, h, k⟩
  obtain ⟨o1, h1, h⟩ := Option.bind_eq_some_iff.mp h
  refine ⟨F, e, o1, gd, h1, ?_⟩
  cases o1 with
  | nx e1 => exact fun F' σ' H' g' s' => ⟨F', e1, o, g', h, k.later s'⟩
  | bk e1 => cases h; exact k
  | ct e1 => cases h; exact k
  | rt va e1 => cases h; exact k
theorem es_one (h1 : EvS X st f) : EvSs X [st] f := pss_one h1
theorem ev_pass : EvS X (.Pass pos) nopF := by
  refine PSimp ps_pass ?_
  rintro D σ H ⟨F, e, o, gd, h, k⟩
  cases h
  exact k F σ H gd Stp.refl
theorem ev_break : EvS X (.Break pos) bkF := by
  refine PSimp ps_break ?_
  rintro D σ H ⟨F, e, o, gd, h, k⟩
  cases h
  exact k F σ H gd Stp.refl
theorem ev_continue : EvS X (.Continue pos) ctF := by
  refine PSimp ps_continue ?_
  rintro D σ H ⟨F, e, o, gd, h, k⟩
  cases h
  exact k F σ H gd Stp.refl
theorem ev_ifS (hc : EvT X c t) (ha : EvSs X a f) (hb : EvSs X b g) : EvS X (.If c a b pos) (ifS t f g) := by
  refine PSimp (ps_if hc ha hb) ?_
  rintro D σ H ⟨F, e, o, gd, h, k⟩
  obtain ⟨⟨v1, e1⟩, h1, h⟩ := Option.bind_eq_some_iff.mp h
  refine ⟨F, e, v1, e1, gd, h1, fun F1 H1 g1 s1 => ?_⟩
  cases v1 with
  | true => exact ⟨F1, e1, o, g1, h, k.later s1⟩
  | false => exact ⟨F1, e1, o, g1, h, k.later s1⟩
theorem ev_drop (he : EvE X ex fe) (hs : swapsWith ex none pos.line X.env = pure false := by rfl) : EvS X (.Expr ex pos) (drpF fe) := by
  refine PSimp (ps_expr he hs) ?_
  rintro D σ H ⟨F, e, o, gd, h, k⟩
  obtain ⟨⟨v1, e1⟩, h1, h⟩ := Option.map_eq_some_iff.mp h
  cases h
  exact ⟨F, e, v1, e1, gd, h1, fun F1 H1 x g1 s1 r1 n1 => k F1 σ H1 g1 s1⟩
theorem ev_ret (he : EvE X ex fe) : EvS X (.Return (some ex) pos) (retF fe) := by
  refine PSimp (ps_ret he) ?_
  rintro D σ H ⟨F, e, o, gd, h, k⟩
  obtain ⟨⟨v1, e1⟩, h1, h⟩ := Option.map_eq_some_iff.mp h
  cases h
  exact ⟨F, e, v1, e1, gd, h1, fun F1 H1 x g1 s1 r1 n1 => k F1 σ H1 x g1 s1 r1 n1⟩
theorem ev_retN : EvS X (.Return none pos) retN := by
  refine PSimp ps_retN ?_
  rintro D σ H ⟨F, e, o, gd, h, k⟩
  cases h
  exact k F σ H .non gd Stp.refl .non trivial
/-- a name stored -/
theorem set_core {K : PySem.W.Frag} {σ : SS} {H : Hp} {D : Ends} {i : Nat} (h : tSv K (setF i fe) D σ H) : tAsg (tEv K fe) (gName i) D σ H := by
  obtain ⟨F, e, o, gd, h, k⟩ := h
  obtain ⟨⟨v1, e1⟩, h1, h⟩ := Option.bind_eq_some_iff.mp h
  obtain ⟨e2, h2, h⟩ := Option.map_eq_some_iff.mp h
  cases h
  refine ⟨F, e, v1, e1, gd, h1, fun F1 H1 x g1 s1 r1 n1 => ?_⟩
  obtain ⟨F2, g2, s2⟩ := setSl_ok g1 s1 r1 n1 h2
  exact k F2 _ H1 g2 s2
theorem ev_set {i : Nat} {x : Str} {pos' : Pos} (hN : X.N.Nodup) (hi : X.N[i]? = some x) (hx : Loc X.env.scope x) (he : EvE X ex fe) (hs : swapsWith ex (some (.Name x pos')) pos.line X.env = pure false := by rfl)
    (hf : X.fn x = true ∨ X.env.scope.names.lookup x = some .local := by first | exact .inl rfl | exact .inr rfl | assumption) : EvS X (.Assign [.Name x pos'] ex pos) (setF i fe) := PSimp (ps_set hN hi hx he hs hf) fun _ _ _ h => set_core h
/-- code that is not come to -/
def nevF : FS := fun _ => none
theorem ev_never : EvS X st nevF := by
  refine PSimp ps_never ?_
  rintro D σ H ⟨F, e, o, gd, h, k⟩
  cases h
end

/-! ### a def by its body -/
def finE : En → En → En
  | .ow true _ :: c, s :: e => s :: finE c e
  | _ :: c, _ :: e => .un :: finE c e
  | _, _ => []
def funF (nl : Nat) (body : FS) : FE := fun c => (body (c ++ List.replicate nl .un)).bind fun o => match o with
  | .rt (.fz d) e => some (.fz d, finE c e)
  | .rt (.fr d) e => some (.fr d, finE c e)
  | .rt (.bo i) e => match e[i]? with
    | some (.fz d) => some (.fz d, finE c e)
    | some (.ow false d) => some (.fr d, finE c e)
    | _ => none
  | .nx e => some (.fz .none, finE c e)
  | _ => none
theorem finE_at : ∀ {c e : En} {j : Nat}, c.length ≤ e.length → (finE c e).length = c.length ∧ ((finE c e)[j]? = some .un ∨ (finE c e)[j]? = none ∨ ∃ d, c[j]? = some (.ow true d) ∧ (finE c e)[j]? = e[j]?)
  | [], e, j, _ => by
    have : finE [] e = [] := by cases e <;> rfl
    rw [this]
    exact ⟨rfl, .inr (.inl rfl)⟩
  | s :: c, [], j, h => by simp at h
  | s :: c, u :: e, 0, h => by
    obtain ⟨h1, _⟩ := finE_at (c := c) (e := e) (j := 0) (by simpa using h)
    cases s with
    | un => exact ⟨by simp [finE, h1], .inl rfl⟩
    | fz d => exact ⟨by simp [finE, h1], .inl rfl⟩
    | ow io d =>
      cases io with
      | true => exact ⟨by simp [finE, h1], .inr (.inr ⟨d, rfl, rfl⟩)⟩
      | false => exact ⟨by simp [finE, h1], .inl rfl⟩
  | s :: c, u :: e, j + 1, h => by
    obtain ⟨h1, h2⟩ := finE_at (c := c) (e := e) (j := j) (by simpa using h)
    cases s with
    | un => exact ⟨by simp [finE, h1], by simpa [finE] using h2⟩
    | fz d => exact ⟨by simp [finE, h1], by simpa [finE] using h2⟩
    | ow io d =>
      cases io with
      | true => exact ⟨by simp [finE, h1], by simpa [finE] using h2⟩
      | false => exact ⟨by simp [finE, h1], by simpa [finE] using h2⟩
theorem finE_io : ∀ {c e : En} {j : Nat} {d : D}, c.length ≤ e.length → c[j]? = some (.ow true d) → (finE c e)[j]? = e[j]?
  | [], _, _, _, _, h => by simp at h
  | _ :: _, [], _, _, h, _ => by simp at h
  | s :: c, u :: e, 0, d, _, h => by
    simp at h
    subst h
    simp [finE]
  | s :: c, u :: e, j + 1, d, hl, h => by
    have ih := finE_io (c := c) (e := e) (j := j) (d := d) (by simpa using hl) (by simpa using h)
    cases s with
    | un => simpa [finE] using ih
    | fz d => simpa [finE] using ih
    | ow io d => cases io <;> simpa [finE] using ih
theorem getElem?_app {α : Type} {l m : List α} {i : Nat} {x : α} (h : l[i]? = some x) : (l ++ m)[i]? = some x := by
  rw [List.getElem?_append_left (List.getElem?_eq_some_iff.mp h).1]; exact h
section
variable {K : PySem.W.Frag} {F F' : Fz} {σ σ' : SS} {H H' : Hp} {c e : En}
theorem Gd.begin (g : Gd K F σ H c) (nl : Nat) : Gd K F (σ ++ List.replicate nl none) H (c ++ List.replicate nl .un) ∧ (∀ a, Ows (σ ++ List.replicate nl none) (c ++ List.replicate nl .un) a → Ows σ c a) ∧
    ∀ (i : Nat) (s : Sl), (c ++ List.replicate nl Sl.un)[i]? = some s → s ≠ .un → c[i]? = some s := by
  have back : ∀ (i : Nat) (s : Sl), (c ++ List.replicate nl Sl.un)[i]? = some s → s ≠ .un → c[i]? = some s := fun i s q n => by
    by_cases z : i < c.length
    · rwa [List.getElem?_append_left z] at q
    · rw [List.getElem?_append_right (by omega), List.getElem?_replicate] at q
      split at q
      · cases q; exact absurd rfl n
      · cases q
  have ss : ∀ {i : Nat} {s : Sl}, c[i]? = some s → (σ ++ List.replicate nl none)[i]? = σ[i]? := fun {i s} q => by
    rw [List.getElem?_append_left]
    rw [g.len]; exact (List.getElem?_eq_some_iff.mp q).1
  refine ⟨⟨by simp [g.len], fun i d q => ?_, fun i io d q => ?_, fun i j io io' d d' a h1 h2 h3 h4 => ?_, g.fw⟩, fun a ⟨i, io, d, q1, q2⟩ => ?_, back⟩
  · have q := back i _ q (fun z => by cases z)
    obtain ⟨v, q1, q2⟩ := g.fz i d q
    exact ⟨v, by rw [ss q]; exact q1, q2⟩
  · have q := back i _ q (fun z => by cases z)
    obtain ⟨a, q1, q2⟩ := g.ow i io d q
    exact ⟨a, by rw [ss q]; exact q1, q2⟩
  · have h1 := back i _ h1 (fun z => by cases z)
    have h2 := back j _ h2 (fun z => by cases z)
    rw [ss h1] at h3
    rw [ss h2] at h4
    exact g.sep i j _ _ _ _ a h1 h2 h3 h4
  · have q1 := back i _ q1 (fun z => by cases z)
    rw [ss q1] at q2
    exact ⟨i, io, d, q1, q2⟩
/-- at the end the caller's view -/
theorem Gd.finish (g : Gd K F σ H c) {nl : Nat} (g' : Gd K F' σ' H' e) (s : Stp F (σ ++ List.replicate nl none) H (c ++ List.replicate nl .un) F' σ' H' e) :
    Gd K F' σ H' (finE c e) ∧ Stp F σ H c F' σ H' (finE c e) := by
  obtain ⟨gb, sub, back⟩ := g.begin nl
  have le : c.length ≤ e.length := by
    have := s.ln
    rw [List.length_append] at this
    omega
  have at_ : ∀ (j : Nat) (io : Bool) (d : D), (finE c e)[j]? = some (.ow io d) → io = true ∧ (∃ d0, c[j]? = some (.ow true d0)) ∧ e[j]? = some (.ow true d) ∧ σ'[j]? = σ[j]? := fun j io d q => by
    rcases (finE_at (j := j) le).2 with h | h | ⟨d0, h1, h2⟩
    · rw [h] at q; cases q
    · rw [h] at q; cases q
    · obtain ⟨z1, d1, z2⟩ := s.io j d0 (getElem?_app h1)
      rw [h2, z2] at q
      cases q
      refine ⟨rfl, ⟨d0, h1⟩, z2, ?_⟩
      rw [z1, List.getElem?_append_left]
      rw [g.len]; exact (List.getElem?_eq_some_iff.mp h1).1
  have ow1 : ∀ a, Ows σ (finE c e) a → Ows σ' e a ∧ Ows σ c a := fun a ⟨j, io, d, q1, q2⟩ => by
    obtain ⟨z1, ⟨d0, z2⟩, z3, z4⟩ := at_ j io d q1
    exact ⟨⟨j, true, d, z3, by rw [z4]; exact q2⟩, ⟨j, true, d0, z2, q2⟩⟩
  have fl := (finE_at (j := 0) le).1
  refine ⟨⟨by rw [fl]; exact g.len, fun j d q => ?_, fun j io d q => ?_, fun j k io io' d d' a h1 h2 h3 h4 => ?_, g'.fw⟩, ⟨s.mono, fun a u q n => s.keep a u q fun z => n (sub a z), s.there, fun a q => .inl (ow1 a q).2, fun a q => ?_, fun j d q => ⟨rfl, ?_⟩, fl⟩⟩
  · rcases (finE_at (j := j) le).2 with h | h | ⟨d0, h1, h2⟩
    · rw [h] at q; cases q
    · rw [h] at q; cases q
    · obtain ⟨z1, d1, z2⟩ := s.io j d0 (getElem?_app h1)
      rw [h2, z2] at q; cases q
  · obtain ⟨_, _, z3, z4⟩ := at_ j io d q
    obtain ⟨a, q1, q2⟩ := g'.ow j true d z3
    exact ⟨a, by rw [← z4]; exact q1, q2⟩
  · obtain ⟨_, _, z3, z4⟩ := at_ j io d h1
    obtain ⟨_, _, y3, y4⟩ := at_ k io' d' h2
    rw [← z4] at h3
    rw [← y4] at h4
    exact g'.sep j k _ _ _ _ a z3 y3 h3 h4
  · rcases s.fro a q with q | q | q
    · exact .inl q
    · exact .inr (.inl q)
    · exact .inr (.inr (sub a q))
  · obtain ⟨z1, d1, z2⟩ := s.io j d (getElem?_app q)
    exact ⟨d1, by rw [finE_io le q]; exact z2⟩
/-- the def's promise, from its body -/
theorem fun_core {Q : VK} {nl : Nat} {body : FS} {vs : List V} {va : Va} {c' : En} (g : Gd K F (vs.map some) H c) (lent : Lent c) (h : funF nl body c = some (va, c')) (k : Out K F (vs.map some) H c va c' Q) :
    tSv K body { nx := fun _ H' => Q .non H', rt := Q } (vs.map some ++ List.replicate nl none) H := by
  obtain ⟨gb, sub, back⟩ := g.begin nl
  obtain ⟨o, h1, h⟩ := Option.bind_eq_some_iff.mp h
  refine ⟨F, _, o, gb, h1, ?_⟩
  -- a name's own object is new where it wasn't lent
  have fresh : ∀ {F' : Fz} {σ' : SS} {H' : Hp} {e : En} {i : Nat} {a : Addr} {d : D}, Gd K F' σ' H' e → Stp F (vs.map some ++ List.replicate nl none) H (c ++ List.replicate nl .un) F' σ' H' e → e[i]? = some (.ow false d) → σ'[i]? = some (some (.ref a)) → H a = none := fun {F' σ' H' e i a d} g' s he hs => by
    rcases s.own a ⟨i, false, d, he, hs⟩ with ⟨j, io, d0, q1, q2⟩ | q
    · have q3 := back j _ q1 (fun z => by cases z)
      have : io = true := lent j io d0 q3
      subst this
      obtain ⟨z1, d1, z2⟩ := s.io j d0 q1
      rw [q2] at z1
      have := g'.sep i j _ _ _ _ a he z2 hs z1
      subst this
      rw [he] at z2; cases z2
    · exact q
  cases o with
  | nx e =>
    cases h
    intro F' σ' H' g' s'
    obtain ⟨g2, s2⟩ := g.finish g' s'
    exact k F' H' .non g2 s2 .non trivial
  | bk e => cases h
  | ct e => cases h
  | rt w e =>
    intro F' σ' H' v g' s' r n
    obtain ⟨g2, s2⟩ := g.finish g' s'
    have no : ∀ a, H a = none → ¬ Ows (vs.map some) (finE c e) a := fun a q y => by
      rcases s2.own a y with z | z
      · obtain ⟨u, hu⟩ := g.own_there z
        rw [q] at hu; cases hu
      · obtain ⟨j, io, d, q1, q2⟩ := y
        have : (finE c e).length = c.length := (finE_at (j := 0) (by have := s'.ln; rw [List.length_append] at this; omega)).1
        have hj : j < c.length := by rw [← this]; exact (List.getElem?_eq_some_iff.mp q1).1
        rcases (finE_at (c := c) (e := e) (j := j) (by have := s'.ln; rw [List.length_append] at this; omega)).2 with h | h | ⟨d0, h1, h2⟩
        · rw [h] at q1; cases q1
        · rw [h] at q1; cases q1
        · obtain ⟨b, y1, y2⟩ := g.ow j true d0 h1
          rw [q2] at y1; cases y1
          obtain ⟨ds, ws, _, y3, _⟩ := y2.ex
          rw [q] at y3; cases y3
    cases w with
    | fz d =>
      cases h
      exact k F' H' v g2 s2 r trivial
    | fr d =>
      cases h
      obtain ⟨a, rfl, ow, _⟩ := r
      exact k F' H' _ g2 s2 ⟨a, rfl, ow, no a (n a rfl)⟩ n
    | bo i =>
      have r : σ'[i]? = some (some v) := r
      dsimp only at h
      split at h
      · rename_i d he
        cases h
        obtain ⟨v', q1, q2⟩ := g'.fz i d he
        rw [r] at q1; cases q1
        exact k F' H' v g2 s2 q2 trivial
      · rename_i d he
        cases h
        obtain ⟨a, q1, q2⟩ := g'.ow i false d he
        rw [r] at q1; cases q1
        have q3 := fresh g' s' he r
        exact k F' H' _ g2 s2 ⟨a, rfl, q2, no a q3⟩ fun b z => by cases z; exact q3
      · cases h
end
end Sh
end Sh5__
section Sh6__
set_option Elab.async false
set_option linter.all false
set_option autoImplicit false
set_option maxRecDepth 100000
set_option maxHeartbeats 4000000
/-! Sh6: targets, what is walked, for, while, comprehensions, lists changed by their methods. -/
namespace Sh
open PySem L2

/-! ### targets -/
abbrev FG := D → En → Option En
def tGv (K : PySem.W.Frag) (f : FG) : TG := fun v σ H Q => ∃ (F : Fz) (e : En) (d : D) (e' : En), Gd K F σ H e ∧ DF K F H v d ∧ f d e = some e' ∧ ∀ F' σ' H', Gd K F' σ' H' e' → Stp F σ H e F' σ' H' e' → Q σ' H'
def tGvs (K : PySem.W.Frag) (f : List D → En → Option En) : TGs := fun vs σ H Q => ∃ (F : Fz) (e : En) (ds : List D) (e' : En), Gd K F σ H e ∧ DFs K F H vs ds ∧ f ds e = some e' ∧ ∀ F' σ' H', Gd K F' σ' H' e' → Stp F σ H e F' σ' H' e' → Q σ' H'
def EvG (X : Cx) (tg : Expr) (f : FG) : Prop := PG X tg (tGv X.K f)
def EvGs (X : Cx) (tgs : List Expr) (f : List D → En → Option En) : Prop := PGs X tgs (tGvs X.K f)
theorem PGimp {X : Cx} {tg : Expr} {t t' : TG} (h : PG X tg t) (i : ∀ v σ H Q, t' v σ H Q → t v σ H Q) : PG X tg t' := ⟨fun pins s σ H v u Q I r q => h.run pins s σ H v u Q I r (i v σ H Q q)⟩
theorem PGsimp {X : Cx} {tg : List Expr} {t t' : TGs} (h : PGs X tg t) (i : ∀ v σ H Q, t' v σ H Q → t v σ H Q) : PGs X tg t' := ⟨fun pins s σ H v u Q I r q => h.run pins s σ H v u Q I r (i v σ H Q q)⟩
def gnF (i : Nat) : FG := fun d e => setSl i (.fz d) e
def gsN : List D → En → Option En
  | [], e => some e
  | _ :: _, _ => none
def gsC (f : FG) (g : List D → En → Option En) : List D → En → Option En
  | [], _ => none
  | d :: ds, e => (f d e).bind (g ds)
def gtF (n : Nat) (g : List D → En → Option En) : FG := fun d e => match d with
  | .tuple ds => if ds.length = n then g ds e else none
  | _ => none
section
variable {X : Cx} {tg : Expr} {tgs : List Expr} {f : FG} {g : List D → En → Option En} {pos : Pos}
theorem eg_name {i : Nat} {x : Str} (hN : X.N.Nodup) (hi : X.N[i]? = some x) (hx : Loc X.env.scope x) (hf : X.fn x = true ∨ X.env.scope.names.lookup x = some .local := by first | exact .inl rfl | exact .inr rfl | assumption) : EvG X (.Name x pos) (gnF i) := by
  refine PGimp (pg_name hN hi hx hf) ?_
  rintro v σ H Q ⟨F, e, d, e', gd, df, h, k⟩
  obtain ⟨F1, g1, s1⟩ := setSl_ok (va := .fz d) gd Stp.refl df trivial h
  exact k F1 _ H g1 s1
theorem egs_nil : EvGs X [] gsN := by
  refine PGsimp pgs_nil ?_
  rintro v σ H Q ⟨F, e, ds, e', gd, df, h, k⟩
  cases df with
  | nil => cases h; exact ⟨rfl, k F σ H gd Stp.refl⟩
  | cons a b => cases h
theorem egs_cons (h1 : EvG X tg f) (h2 : EvGs X tgs g) (hs : (assignEach (tg :: tgs) X.env).map (·.2) = assign tg X.env :: (assignEach tgs X.env).map (·.2) := by rfl) : EvGs X (tg :: tgs) (gsC f g) := by
  refine PGsimp (pgs_cons h1 h2 hs) ?_
  rintro v σ H Q ⟨F, e, ds, e', gd, df, h, k⟩
  cases df with
  | nil => cases h
  | cons a b =>
    simp only [gsC] at h
    obtain ⟨e1, h1, h⟩ := Option.bind_eq_some_iff.mp h
    exact ⟨_, _, rfl, F, e, _, e1, gd, a, h1, fun F1 σ1 H1 g1 s1 => ⟨F1, e1, _, e', g1, b.keeps (s1.keeps gd), h, fun F2 σ2 H2 g2 s2 => k F2 σ2 H2 g2 (s1.trans s2)⟩⟩
theorem eg_tup {k n : Nat} (hc : X.calm = true) (h : EvGs X tgs g) (hn : (assignEach tgs X.env).length = n := by rfl) (hst : (assignEach tgs X.env).findIdx? (·.1) = none := by rfl) : EvG X (.Tuple tgs k pos) (gtF n g) := by
  refine PGimp (pg_tup hc h hn hst) ?_
  rintro v σ H Q ⟨F, e, d, e', gd, df, h, kk⟩
  simp only [gtF] at h
  split at h
  · split at h
    · rename_i ds hl
      obtain ⟨a, xs, rfl, h1, h2⟩ := DR.tup (.inl df)
      exact ⟨a, xs, rfl, h1, by rw [h2.length]; exact hl, F, e, ds, e', gd, h2, h, kk⟩
    · cases h
  · cases h
/-- x[i] = v, x a name with a list of its own -/
def setAt (i : Nat) (j : D) (d : D) (e : En) : Option En := match e[i]?, j with
  | some (.ow io (.list ds)), .int k => (ixN ds.length k).map fun n => e.set i (.ow io (.list (ds.set n d)))
  | _, _ => none
def isOw (e : En) (i : Nat) : Bool := match e[i]? with
  | some (.ow _ _) => true
  | _ => false
theorem isOw_ok {e : En} {i : Nat} (h : isOw e i = true) : ∃ io d, e[i]? = some (.ow io d) := by
  unfold isOw at h
  split at h
  · exact ⟨_, _, by assumption⟩
  · cases h
def gxF (i : Nat) (f : FE) : FG := fun d e => if isOw e i = true then (f e).bind fun r => (rd r.2 r.1).bind fun j => setAt i j d r.2 else none
theorem eg_sub {i : Nat} {x : Str} {px : Pos} {ix : Expr} {fi : FE} (hN : X.N[i]? = some x) (hv : Vis X.env.scope x) (hi : EvE X ix fi) (hd : (x == ("__debug__" : Str)) = false := by decide) (hcd : (x == ("__classdict__" : Str)) = false := by decide)
    (ha : ∀ v, assign (.Subscript (.Name x px) ix pos) X.env v = (do
      let ov ← holding [v] (eval (.Name x px) X.env)
      let iv ← holding [v, ov] (eval ix X.env)
      standAt pos
      holding [v, ov, iv] (setItem ov iv v)
      release [v, ov, iv] []) := by intro _; rfl) : EvG X (.Subscript (.Name x px) ix pos) (gxF i fi) := by
  refine PGimp (pg_sub (pe_var hN hv hd hcd) hi set_list ha) ?_
  rintro v σ H Q ⟨F, e, d, e', gd, df, h, k⟩
  simp only [gxF] at h
  split at h
  · rename_i ho
    obtain ⟨io0, d0, he0⟩ := isOw_ok ho
    obtain ⟨a, hs, _⟩ := gd.ow i io0 d0 he0
    obtain ⟨⟨vi, e1⟩, h1, h⟩ := Option.bind_eq_some_iff.mp h
    obtain ⟨j, h2, h⟩ := Option.bind_eq_some_iff.mp h
    refine ⟨.ref a, hs, F, e, vi, e1, gd, h1, fun F1 H1 y g1 s1 r1 n1 => ?_⟩
    simp only [setAt] at h
    split at h
    · rename_i io ds kk he
      obtain ⟨n, h3, h⟩ := Option.map_eq_some_iff.mp h
      cases h
      obtain ⟨b, hb, ow⟩ := g1.ow i io _ he
      rw [hs] at hb; cases hb
      obtain ⟨ds', vs, ed, z, hd⟩ := ow.ex
      cases ed
      have hy := DR.int (r1.dr g1 h2)
      subst hy
      obtain ⟨g2, s2⟩ := g1.write he hs (hd.set n (df.keeps (s1.keeps gd)))
      exact ⟨a, vs, kk, n, rfl, rfl, z, by rw [hd.length]; exact h3, k F1 σ _ g2 (s1.trans s2)⟩
    · cases h
  · cases h

/-! ### stores by targets -/
def asgF (f : FE) (g : FG) : FS := fun e => (f e).bind fun r => (fzn r.2 r.1.st).bind fun q => (g q.1 q.2).map .nx
theorem ev_asg {ex : Expr} {fe : FE} (he : EvE X ex fe) (hg : EvG X tg f) (hs : swapsWithSole [tg] ex pos.line X.env = pure false := by rfl) (hw : swappedStores [tg] ex X.env = pure none := by rfl)
    (h1 : (assignEach [tg] X.env).map (·.2) = [assign tg X.env] := by rfl) : EvS X (.Assign [tg] ex pos) (asgF fe f) := by
  refine PSimp (ps_asg he hg hs hw h1) ?_
  rintro D σ H ⟨F, e, o, gd, h, k⟩
  obtain ⟨⟨v1, e1⟩, h1, h⟩ := Option.bind_eq_some_iff.mp h
  obtain ⟨⟨d, e2⟩, h2, h⟩ := Option.bind_eq_some_iff.mp h
  obtain ⟨e3, h3, h⟩ := Option.map_eq_some_iff.mp h
  cases h
  refine ⟨F, e, v1, e1, gd, h1, fun F1 H1 x g1 s1 r1 n1 => ?_⟩
  obtain ⟨F2, g2, s2, r2⟩ := r1.st g1 s1 n1
  obtain ⟨F3, g3, s3, df⟩ := fzn_ok g2 r2 (st_ne v1) h2
  exact ⟨F3, e2, d, e3, g3, df, h3, fun F4 σ4 H4 g4 s4 => k F4 σ4 H4 g4 ((s2.trans s3).trans s4)⟩
/-- x, y = a, b, both names plain locals -/
def parF (i j : Nat) (fa fb : FE) : FS := fun e => (fa e).bind fun r => (fb r.2).bind fun q => (setSl i r.1 q.2).bind fun e1 => (setSl j q.1 e1).map .nx
end

/-! ### what is walked -/
abbrev FI := En → Option (List D × En)
/-- turn by turn the data ds, as long as what was frozen stands -/
def Wk (K : PySem.W.Frag) (J : It) (F : Fz) (H : Hp) (ds : List D) : Prop :=
  Walk J ds.length (fun H2 => ∀ a u, F a → H a = some u → H2 a = some u) (fun i H2 v H3 => ∃ d, ds[i]? = some d ∧ ((H3 = H2 ∧ DF K F H v d) ∨
    ∃ T x y dx dy, v = .ref T ∧ H2 T = none ∧ H3 = upd H2 T (.tup [x, y]) ∧ d = .tuple [dx, dy] ∧ DF K F H x dx ∧ DF K F H y dy))
def tIv (K : PySem.W.Frag) (f : FI) : TI := fun σ H R => ∃ (F : Fz) (e : En) (ds : List D) (e' : En), Gd K F σ H e ∧ f e = some (ds, e') ∧ ∀ F' H' J, Gd K F' σ H' e' → Stp F σ H e F' σ H' e' → Wk K J F' H' ds → R J H'
def EvI (X : Cx) (tg iter : Expr) (f : FI) : Prop := PI X tg iter (tIv X.K f)
theorem PIimp {X : Cx} {tg it : Expr} {t t' : TI} (h : PI X tg it t) (i : ∀ σ H Q, t' σ H Q → t σ H Q) : PI X tg it t' := ⟨fun pins s σ H R I q => h.run pins s σ H R I (i σ H R q)⟩
/-- lists, tuples, texts: what they hold -/
def itemsD : D → Option (List D)
  | .list ds => some ds
  | .tuple ds => some ds
  | .str x => some (x.cps.toList.map fun c => .str ⟨#[c]⟩)
  | _ => none
def isL : D → Bool
  | .list _ => true | _ => false
def isT : D → Bool
  | .tuple _ => true | _ => false
def isS : D → Bool
  | .str _ => true | _ => false
/-- over a value of a kind -/
def itF (p : D → Bool) (f : FE) : FI := fun e => (f e).bind fun r => (fzn r.2 r.1.st).bind fun q => if p q.1 = true then (itemsD q.1).map fun ds => (ds, q.2) else none
section
variable {X : Cx} {tg ex : Expr} {f : FE}
theorem rd_keep {F : Fz} {H H2 : Hp} {a : Addr} {u : HO} (h : F a) (k : ∀ a u, F a → H a = some u → H2 a = some u) (r : Rd H a u) : Rd H2 a u := by
  rcases r with r | ⟨o, r⟩
  · exact .inl (k a _ h r)
  · exact .inr ⟨o, k a _ h r⟩
/-- the value frozen, then walked -/
theorem frz_val {K : PySem.W.Frag} {F F1 : Fz} {σ : SS} {H H1 : Hp} {e e1 e2 : En} {v : V} {va : Va} {d : D} (g1 : Gd K F1 σ H1 e1) (s1 : Stp F σ H e F1 σ H1 e1) (r1 : RV K F1 σ H1 e1 v va) (n1 : Nw H v va) (h : fzn e1 va.st = some (d, e2)) :
    ∃ F2, Gd K F2 σ H1 e2 ∧ Stp F σ H e F2 σ H1 e2 ∧ DF K F2 H1 v d := by
  obtain ⟨F2, g2, s2, r2⟩ := r1.st g1 s1 n1
  obtain ⟨F3, g3, s3, df⟩ := fzn_ok g2 r2 (st_ne va) h
  exact ⟨F3, g3, s2.trans s3, df⟩
theorem ei_list (he : EvE X ex f) : EvI X tg ex (itF isL f) := by
  refine PIimp (pi_list he) ?_
  rintro σ H R ⟨F, e, ds, e', gd, h, k⟩
  obtain ⟨⟨v1, e1⟩, h1, h⟩ := Option.bind_eq_some_iff.mp h
  obtain ⟨⟨d, e2⟩, h2, h⟩ := Option.bind_eq_some_iff.mp h
  dsimp only at h
  split at h
  · rename_i hp
    obtain ⟨ds', h3, h⟩ := Option.map_eq_some_iff.mp h
    cases h
    refine ⟨F, e, v1, e1, gd, h1, fun F1 H1 x g1 s1 r1 n1 => ?_⟩
    obtain ⟨F2, g2, s2, df⟩ := frz_val g1 s1 r1 n1 h2
    cases df with
    | lst hl hs =>
      cases h3
      refine ⟨_, rfl, ⟨_, KL.sq hl⟩, k F2 H1 _ g2 s2 ?_⟩
      have hln := hs.length
      refine (hln ▸ walk_list (xs := _) : Walk _ _ _ _).mono (fun H2 kp => ?_) (fun i H2 v H3 hi kp y => ?_)
      · exact hl.imp (fun z => rd_keep z.1 kp z.2) id
      · obtain ⟨e3, e4⟩ := y
        obtain ⟨d, q1, q2⟩ := hs.getV e4
        exact ⟨d, q1, .inl ⟨e3, q2⟩⟩
    | _ => cases hp
  · cases h
theorem ei_tup (he : EvE X ex f) : EvI X tg ex (itF isT f) := by
  refine PIimp (pi_tup he) ?_
  rintro σ H R ⟨F, e, ds, e', gd, h, k⟩
  obtain ⟨⟨v1, e1⟩, h1, h⟩ := Option.bind_eq_some_iff.mp h
  obtain ⟨⟨d, e2⟩, h2, h⟩ := Option.bind_eq_some_iff.mp h
  dsimp only at h
  split at h
  · rename_i hp
    obtain ⟨ds', h3, h⟩ := Option.map_eq_some_iff.mp h
    cases h
    refine ⟨F, e, v1, e1, gd, h1, fun F1 H1 x g1 s1 r1 n1 => ?_⟩
    obtain ⟨F2, g2, s2, df⟩ := frz_val g1 s1 r1 n1 h2
    cases df with
    | tup hl hs =>
      cases h3
      refine ⟨_, rfl, ⟨_, KT.sq hl⟩, k F2 H1 _ g2 s2 ?_⟩
      have hln := hs.length
      refine (hln ▸ walk_tup (xs := _) : Walk _ _ _ _).mono (fun H2 kp => ?_) (fun i H2 v H3 hi kp y => ?_)
      · exact hl.imp (fun z => rd_keep z.1 kp z.2) id
      · obtain ⟨e3, e4⟩ := y
        obtain ⟨d, q1, q2⟩ := hs.getV e4
        exact ⟨d, q1, .inl ⟨e3, q2⟩⟩
    | _ => cases hp
  · cases h
theorem ei_str (he : EvE X ex f) : EvI X tg ex (itF isS f) := by
  refine PIimp (pi_str he) ?_
  rintro σ H R ⟨F, e, ds, e', gd, h, k⟩
  obtain ⟨⟨v1, e1⟩, h1, h⟩ := Option.bind_eq_some_iff.mp h
  obtain ⟨⟨d, e2⟩, h2, h⟩ := Option.bind_eq_some_iff.mp h
  dsimp only at h
  split at h
  · rename_i hp
    obtain ⟨ds', h3, h⟩ := Option.map_eq_some_iff.mp h
    cases h
    refine ⟨F, e, v1, e1, gd, h1, fun F1 H1 x g1 s1 r1 n1 => ?_⟩
    obtain ⟨F2, g2, s2, df⟩ := frz_val g1 s1 r1 n1 h2
    cases df with
    | str z hz =>
      cases h3
      refine ⟨z, rfl, k F2 H1 _ g2 s2 ?_⟩
      have hln : z.cps.size = (z.cps.toList.map fun c => PyData.str ⟨#[c]⟩).length := by simp
      refine (hln ▸ walk_str (z := z) : Walk _ _ _ _).mono (fun H2 kp => trivial) (fun i H2 v H3 hi kp y => ?_)
      obtain ⟨e3, c, e4, e5⟩ := y
      refine ⟨.str ⟨#[c]⟩, ?_, .inl ⟨e3, ?_⟩⟩
      · rw [List.getElem?_map, Array.getElem?_toList, e4]; rfl
      · rw [e5]; exact .str _ (by show 1 ≤ sizeLine; decide)
    | _ => cases hp
  · cases h
end
end Sh
end Sh6__
section Sh7__
set_option Elab.async false
set_option linter.all false
set_option autoImplicit false
set_option maxRecDepth 100000
set_option maxHeartbeats 4000000
/-! Sh7: ranges, enumerate; for, while, comprehensions; lists changed by their methods. -/
namespace Sh
open PySem L2

/-! ### ranges, enumerate of a list -/
@[irreducible] noncomputable def rg1 (ds : List D) : Option (List D) := match ds with
  | [.int j] => @ite _ (-(2 ^ 62) ≤ j ∧ j < 2 ^ 62) (Classical.propDecidable _) (some ((List.range j.toNat).map fun i => .int ((i : Nat) : Int))) none
  | _ => none
@[irreducible] noncomputable def rg2 (ds : List D) : Option (List D) := match ds with
  | [.int i, .int j] => @ite _ (-(2 ^ 62) ≤ i ∧ i < 2 ^ 62 ∧ -(2 ^ 62) ≤ j ∧ j < 2 ^ 62) (Classical.propDecidable _) (some ((List.range (j - i).toNat).map fun k => .int (i + (k : Nat)))) none
  | _ => none
/-- over what a built-in gives of its arguments -/
def ibF (g : List D → Option (List D)) (fa : FA) : FI := fun e => (fa e).bind fun r => (rdAll r.2 r.1).bind fun ds => (g ds).map fun xs => (xs, r.2)
/-- .. its arguments frozen first -/
def izF (g : List D → Option (List D)) (fa : FA) : FI := fun e => (fa e).bind fun r => (fzAll r.1 r.2).bind fun q => (g q.1).map fun xs => (xs, q.2)
def enD (ds : List D) : Option (List D) := match ds with
  | [.list xs] => some (xs.mapIdx fun i x => .tuple [.int (i : Nat), x])
  | _ => none
theorem _root_.L2.Walk.cast {J : It} {n m : Nat} {G : Hp → Prop} {Y : Nat → Hp → V → Hp → Prop} (w : Walk J n G Y) (h : n = m) : Walk J m G Y := h ▸ w
section
variable {X : Cx} {tg : Expr} {a b : Expr} {fa : FA} {p pos : Pos}
theorem DRs.one {K : PySem.W.Frag} {F : Fz} {H : Hp} {vs : List V} {d : D} (h : DRs K F H vs [d]) : ∃ v, vs = [v] ∧ DR K F H v d := by
  cases h with
  | cons h1 h2 => cases h2; exact ⟨_, rfl, h1⟩
theorem DRs.two {K : PySem.W.Frag} {F : Fz} {H : Hp} {vs : List V} {d d' : D} (h : DRs K F H vs [d, d']) : ∃ v v', vs = [v, v'] ∧ DR K F H v d ∧ DR K F H v' d' := by
  cases h with
  | cons h1 h2 =>
    cases h2 with
    | cons h3 h4 => cases h4; exact ⟨_, _, rfl, h1, h3⟩
theorem ei_range1 (hg : Gl X "range") (hm : X.mg "range" = none) (ha : EvA X [a] fa) (hs : starEach [a] X.env = [(false, eval a X.env)] := by rfl) : EvI X tg (.Call (.Name "range" p) [a] [] pos) (ibF rg1 fa) := by
  refine PIimp (pi_range1 hg hm ha hs) ?_
  rintro σ H R ⟨F, e, ds, e', gd, h, k⟩
  obtain ⟨⟨vas, e1⟩, h1, h⟩ := Option.bind_eq_some_iff.mp h
  obtain ⟨xs, h2, h⟩ := Option.bind_eq_some_iff.mp h
  obtain ⟨ys, h3, h⟩ := Option.map_eq_some_iff.mp h
  cases h
  refine ⟨F, e, vas, e1, gd, h1, fun F1 H1 vs g1 s1 r1 => ?_⟩
  have q := rdAll_ok g1 r1 h2
  unfold rg1 at h3
  split at h3
  · rename_i j
    split at h3
    · rename_i hb
      cases h3
      obtain ⟨v, rfl, hv⟩ := q.one
      rw [DR.int hv]
      refine ⟨j, rfl, hb.1, hb.2, k F1 H1 _ g1 s1 ?_⟩
      have hl : j.toNat = ((List.range j.toNat).map fun i => (PyData.int ((i : Nat) : Int))).length := by simp
      refine ((walk_range (lo := 0) (n := j.toNat)).cast hl).mono (fun _ _ => trivial) (fun i H2 v H3 hi kp y => ?_)
      obtain ⟨e1, e2⟩ := y
      refine ⟨.int (i : Nat), ?_, .inl ⟨e1, ?_⟩⟩
      · rw [← hl] at hi
        rw [List.getElem?_map, List.getElem?_range hi]; rfl
      · rw [e2]; show DF _ _ _ (V.int (0 + (i : Int))) _; rw [Int.zero_add]; exact .int _
    · cases h3
  · cases h3
theorem ei_range2 (hg : Gl X "range") (hm : X.mg "range" = none) (ha : EvA X [a, b] fa) (hs : starEach [a, b] X.env = [(false, eval a X.env), (false, eval b X.env)] := by rfl) (hs2 : starEach [b] X.env = [(false, eval b X.env)] := by rfl) :
    EvI X tg (.Call (.Name "range" p) [a, b] [] pos) (ibF rg2 fa) := by
  refine PIimp (pi_range2 hg hm ha hs hs2) ?_
  rintro σ H R ⟨F, e, ds, e', gd, h, k⟩
  obtain ⟨⟨vas, e1⟩, h1, h⟩ := Option.bind_eq_some_iff.mp h
  obtain ⟨xs, h2, h⟩ := Option.bind_eq_some_iff.mp h
  obtain ⟨ys, h3, h⟩ := Option.map_eq_some_iff.mp h
  cases h
  refine ⟨F, e, vas, e1, gd, h1, fun F1 H1 vs g1 s1 r1 => ?_⟩
  have q := rdAll_ok g1 r1 h2
  unfold rg2 at h3
  split at h3
  · rename_i i j
    split at h3
    · rename_i hb
      cases h3
      obtain ⟨v, v', rfl, hv, hv'⟩ := q.two
      rw [DR.int hv, DR.int hv']
      refine ⟨i, j, rfl, hb, k F1 H1 _ g1 s1 ?_⟩
      have hl : (j - i).toNat = ((List.range (j - i).toNat).map fun k => (PyData.int (i + (k : Nat)))).length := by simp
      refine ((walk_range (lo := i) (n := (j - i).toNat)).cast hl).mono (fun _ _ => trivial) (fun n H2 v H3 hi kp y => ?_)
      obtain ⟨e1, e2⟩ := y
      refine ⟨.int (i + (n : Nat)), ?_, .inl ⟨e1, ?_⟩⟩
      · rw [← hl] at hi
        rw [List.getElem?_map, List.getElem?_range hi]; rfl
      · rw [e2]; exact .int _
    · cases h3
  · cases h3
theorem DFs.one {K : PySem.W.Frag} {F : Fz} {H : Hp} {vs : List V} {d : D} (h : DFs K F H vs [d]) : ∃ v, vs = [v] ∧ DF K F H v d := by
  cases h with
  | cons h1 h2 => cases h2; exact ⟨_, rfl, h1⟩
theorem DFs.two {K : PySem.W.Frag} {F : Fz} {H : Hp} {vs : List V} {d d' : D} (h : DFs K F H vs [d, d']) : ∃ v v', vs = [v, v'] ∧ DF K F H v d ∧ DF K F H v' d' := by
  cases h with
  | cons h1 h2 =>
    cases h2 with
    | cons h3 h4 => cases h4; exact ⟨_, _, rfl, h1, h3⟩
theorem ei_enumL {elts : List Expr} {kk : Nat} {tpos : Pos} (hg : Gl X "enumerate") (hm : X.mg "enumerate" = none) (ha : EvA X [a] fa) (ia : IsA fa) (hs : starEach [a] X.env = [(false, eval a X.env)] := by rfl) :
    EvI X (.Tuple elts kk tpos) (.Call (.Name "enumerate" p) [a] [] pos) (izF enD fa) := by
  refine PIimp (pi_enum hg hm ha hs) ?_
  rintro σ H R ⟨F, e, ds, e', gd, h, k⟩
  obtain ⟨⟨vas, e1⟩, h1, h⟩ := Option.bind_eq_some_iff.mp h
  obtain ⟨⟨xs, e2⟩, h2, h⟩ := Option.bind_eq_some_iff.mp h
  obtain ⟨ys, h3, h⟩ := Option.map_eq_some_iff.mp h
  cases h
  refine ⟨F, e, vas, e1, gd, h1, fun F1 H1 vs g1 s1 r1 => ?_⟩
  obtain ⟨F2, g2, s2, q⟩ := fzAll_ok g1 r1 (ia.noFr _ _ h1) h2
  replace h3 : enD xs = some ds := h3
  unfold enD at h3
  split at h3
  · have hk := Option.some.inj h3
    obtain ⟨v, rfl, hv⟩ := q.one
    cases hv with
    | lst hl hd =>
      refine ⟨_, _, rfl, KL.sq hl, k F2 H1 _ g2 (s1.trans s2) ?_⟩
      refine ((walk_enum (xs := _)).cast (by rw [← hk, List.length_mapIdx]; exact hd.length)).mono (fun H2 kp => hl.imp (fun z => rd_keep z.1 kp z.2) id) (fun i H2 v H3 hi kp y => ?_)
      obtain ⟨T, x, y, e1, e2, e3, e4, e5⟩ := y
      cases e4
      obtain ⟨d, q1, q2⟩ := hd.getV e5
      exact ⟨PyData.tuple [.int (i : Nat), d], by rw [← hk, List.getElem?_mapIdx, q1]; rfl, .inr ⟨T, _, y, _, d, e1, e2, e3, rfl, .int _, q2⟩⟩
  · cases h3
end

/-! ### for -/
def forL (g : FG) (body : FS) : List D → En → Option Ou
  | [], e => some (.nx e)
  | d :: ds, e => (g d e).bind fun e1 => (body e1).bind fun o => match o with
    | .nx e2 => forL g body ds e2
    | .ct e2 => forL g body ds e2
    | .bk e2 => some (.nx e2)
    | o => some o
def forS (i : FI) (g : FG) (body : FS) : FS := fun e => (i e).bind fun r => forL g body r.1 r.2
section
variable {X : Cx} {tg it c : Expr} {body : List Stmt} {fi : FI} {fg : FG} {fb : FS} {ft : FT} {pos : Pos}
/-- a yield, as frozen data -/
theorem yld_ok {K : PySem.W.Frag} {F F0 : Fz} {σ : SS} {H H0 H' : Hp} {e : En} {v : V} {d : D} (g : Gd K F σ H e) (kp : Keeps F0 H0 F H) (y : (H' = H ∧ DF K F0 H0 v d) ∨ ∃ T x y dx dy, v = .ref T ∧ H T = none ∧ H' = upd H T (.tup [x, y]) ∧ d = .tuple [dx, dy] ∧ DF K F0 H0 x dx ∧ DF K F0 H0 y dy) :
    ∃ F', Gd K F' σ H' e ∧ Stp F σ H e F' σ H' e ∧ DF K F' H' v d := by
  rcases y with ⟨rfl, df⟩ | ⟨T, x, y, dx, dy, rfl, hT, rfl, rfl, d1, d2⟩
  · exact ⟨F, g, Stp.refl, df.keeps kp⟩
  · obtain ⟨g', s'⟩ := g.laid (o := .tup [x, y]) hT (fun a => F a ∨ a = T) (fun _ q => .inl q) fun _ q => q
    refine ⟨_, g', s', .tup (.inl ⟨.inr rfl, .inl upd_same⟩) ?_⟩
    exact .cons ((d1.keeps kp).keeps (s'.keeps g)) (.cons ((d2.keeps kp).keeps (s'.keeps g)) .nil)
theorem ev_for (hp : PassesOwn (model X.prog X.w) X.A X.env X.xe) (hc : X.calm = true) (hi : EvI X tg it fi) (hg : EvG X tg fg) (hb : EvSs X body fb) (hs : ∀ x, foldedSetIterable it X.env x = pure x := by intro _; rfl) : EvS X (.For tg it body [] pos) (forS fi fg fb) := by
  refine PSimp (ps_for hp hc hi hg hb hs) ?_
  rintro D σ H ⟨F, e, o, gd, h, k⟩
  obtain ⟨⟨ds, e1⟩, h1, h⟩ := Option.bind_eq_some_iff.mp h
  refine ⟨F, e, ds, e1, gd, h1, fun F1 H1 J g1 s1 wk => ?_⟩
  refine for_it wk (fun i σ2 H2 => ∃ F2 e2, Gd X.K F2 σ2 H2 e2 ∧ Stp F1 σ H1 e1 F2 σ2 H2 e2 ∧ forL fg fb (ds.drop i) e2 = some o) ⟨F1, e1, g1, Stp.refl, by simpa using h⟩ ?_ ?_ ?_
  · rintro i σ2 H2 hi ⟨F2, e2, g2, s2, _⟩
    exact fun a u q z => ((s2.keeps g1) a q).2 u z
  · rintro i x σ2 H2 H3 hi ⟨F2, e2, g2, s2, h2⟩ ⟨d, hd, y⟩
    obtain ⟨F3, g3, s3, df⟩ := yld_ok g2 (s2.keeps g1) y
    have hdr : ds.drop i = d :: ds.drop (i + 1) := by
      rw [List.drop_eq_getElem_cons hi]
      have : ds[i] = d := by rw [List.getElem?_eq_getElem hi] at hd; exact Option.some.inj hd
      rw [this]
    rw [hdr] at h2
    simp only [forL] at h2
    obtain ⟨e4, h4, h2⟩ := Option.bind_eq_some_iff.mp h2
    obtain ⟨o5, h5, h2⟩ := Option.bind_eq_some_iff.mp h2
    refine ⟨F3, e2, d, e4, g3, df, h4, fun F4 σ4 H4 g4 s4 => ⟨F4, e4, o5, g4, h5, ?_⟩⟩
    have st := (s2.trans s3).trans s4
    have k' := k.later (s1.trans st)
    cases o5 with
    | nx e5 => exact fun F5 σ5 H5 g5 s5 => ⟨F5, e5, g5, st.trans s5, h2⟩
    | ct e5 => exact fun F5 σ5 H5 g5 s5 => ⟨F5, e5, g5, st.trans s5, h2⟩
    | bk e5 => cases h2; exact k'
    | rt va e5 => cases h2; exact k'
  · rintro σ2 H2 ⟨F2, e2, g2, s2, h2⟩
    rw [List.drop_length] at h2
    cases h2
    exact k F2 σ2 H2 g2 (s1.trans s2)

/-! ### while -/
def whL (t : FT) (body : FS) : Nat → En → Option Ou
  | 0, _ => none
  | n + 1, e => (t e).bind fun r => if r.1 = true then (body r.2).bind fun o => match o with
    | .nx e2 => whL t body n e2
    | .ct e2 => whL t body n e2
    | .bk e2 => some (.nx e2)
    | o => some o
    else some (.nx r.2)
/-- at most n turns -/
def whS (n : Nat) (t : FT) (body : FS) : FS := whL t body n
theorem ev_while {n : Nat} (hp : PassesOwn (model X.prog X.w) X.A X.env X.xe) (hc : EvT X c ft) (hb : EvSs X body fb) : EvS X (.While c body [] pos) (whS n ft fb) := by
  refine PSimp (ps_while hp hc hb) ?_
  rintro D σ H ⟨F, e, o, gd, h, k⟩
  refine ⟨fun m σ2 H2 => ∃ F2 e2, Gd X.K F2 σ2 H2 e2 ∧ Stp F σ H e F2 σ2 H2 e2 ∧ whL ft fb m e2 = some o, ⟨n, F, e, gd, Stp.refl, h⟩, ?_⟩
  rintro m σ2 H2 ⟨F2, e2, g2, s2, h2⟩
  cases m with
  | zero => cases h2
  | succ m =>
    simp only [whL] at h2
    obtain ⟨⟨b, e3⟩, h3, h2⟩ := Option.bind_eq_some_iff.mp h2
    refine ⟨F2, e2, b, e3, g2, h3, fun F3 H3 g3 s3 => ?_⟩
    have st := s2.trans s3
    have k' := k.later st
    cases b with
    | false =>
      cases h2
      show if false = true then _ else _
      rw [if_neg Bool.false_ne_true]
      exact k F3 σ2 H3 g3 st
    | true =>
      show if true = true then _ else _
      rw [if_pos rfl]
      obtain ⟨o5, h5, h2⟩ := Option.bind_eq_some_iff.mp h2
      refine ⟨fun σ' H' => ∃ F2 e2, Gd X.K F2 σ' H' e2 ∧ Stp F σ H e F2 σ' H' e2 ∧ whL ft fb m e2 = some o, fun σ' H' q => ⟨m, Nat.lt_succ_self _, q⟩, F3, e3, o5, g3, h5, ?_⟩
      cases o5 with
      | nx e5 => exact fun F5 σ5 H5 g5 s5 => ⟨F5, e5, g5, st.trans s5, h2⟩
      | ct e5 => exact fun F5 σ5 H5 g5 s5 => ⟨F5, e5, g5, st.trans s5, h2⟩
      | bk e5 => cases h2; exact k'
      | rt va e5 => cases h2; exact k'
end
end Sh
end Sh7__
section Sh8__
set_option Elab.async false
set_option linter.all false
set_option autoImplicit false
set_option maxRecDepth 100000
set_option maxHeartbeats 4000000
/-! Sh8: comprehensions. -/
namespace Sh
open PySem L2

/-! ### slots forgotten, given back -/
def wipeE (e : En) : List Nat → En
  | [] => e
  | v :: vs => (wipeE e vs).set v .un
def resE (e0 e2 : En) : List Nat → En
  | [] => e2
  | v :: vs => match e0[v]? with
    | some s => (resE e0 e2 vs).set v s
    | none => resE e0 e2 vs
theorem wipe_get {σ : SS} : ∀ {vs : List Nat} {j : Nat}, (j ∉ vs → (wipe σ vs)[j]? = σ[j]?) ∧ (∀ v, j ∈ vs → (wipe σ vs)[j]? ≠ some (some v))
  | [], j => ⟨fun _ => rfl, fun v h => by simp at h⟩
  | k :: vs, j => by
    obtain ⟨h1, h2⟩ := wipe_get (σ := σ) (vs := vs) (j := j)
    unfold wipe
    by_cases z : k = j
    · subst z
      refine ⟨fun q => absurd List.mem_cons_self q, fun v _ q => ?_⟩
      by_cases hl : k < (wipe σ vs).length
      · rw [List.getElem?_set_self hl] at q; cases q
      · rw [List.getElem?_eq_none (by simpa using hl)] at q; cases q
    · rw [List.getElem?_set_ne z]
      refine ⟨fun q => h1 fun w => q (List.mem_cons_of_mem _ w), fun v q => ?_⟩
      rcases List.mem_cons.mp q with w | w
      · exact absurd w.symm z
      · exact h2 v w
theorem wipeE_get {e : En} : ∀ {vs : List Nat} {j : Nat}, (j ∉ vs → (wipeE e vs)[j]? = e[j]?) ∧ (j ∈ vs → (wipeE e vs)[j]? = some .un ∨ (wipeE e vs)[j]? = none)
  | [], j => ⟨fun _ => rfl, fun h => by simp at h⟩
  | k :: vs, j => by
    obtain ⟨h1, h2⟩ := wipeE_get (e := e) (vs := vs) (j := j)
    unfold wipeE
    by_cases z : k = j
    · subst z
      refine ⟨fun q => absurd List.mem_cons_self q, fun _ => ?_⟩
      by_cases hl : k < (wipeE e vs).length
      · exact .inl (List.getElem?_set_self hl)
      · exact .inr (List.getElem?_eq_none (by simpa using hl))
    · rw [List.getElem?_set_ne z]
      refine ⟨fun q => h1 fun w => q (List.mem_cons_of_mem _ w), fun q => ?_⟩
      rcases List.mem_cons.mp q with w | w
      · exact absurd w.symm z
      · exact h2 w
theorem wipeE_length {e : En} : ∀ {vs : List Nat}, (wipeE e vs).length = e.length
  | [] => rfl
  | k :: vs => by unfold wipeE; rw [List.length_set, wipeE_length]
theorem resE_length {e0 e2 : En} : ∀ {vs : List Nat}, (resE e0 e2 vs).length = e2.length
  | [] => rfl
  | k :: vs => by
    unfold resE
    split
    · rw [List.length_set, resE_length]
    · exact resE_length
theorem resE_get {e0 e2 : En} (hl : e0.length = e2.length) : ∀ {vs : List Nat} {j : Nat}, (j ∉ vs → (resE e0 e2 vs)[j]? = e2[j]?) ∧ (j ∈ vs → (resE e0 e2 vs)[j]? = e0[j]?)
  | [], j => ⟨fun _ => rfl, fun h => by simp at h⟩
  | k :: vs, j => by
    obtain ⟨h1, h2⟩ := resE_get hl (vs := vs) (j := j)
    unfold resE
    split
    · rename_i s hs
      have hk : k < (resE e0 e2 vs).length := by rw [resE_length, ← hl]; exact (List.getElem?_eq_some_iff.mp hs).1
      by_cases z : k = j
      · subst z
        exact ⟨fun q => absurd List.mem_cons_self q, fun _ => by rw [List.getElem?_set_self hk, hs]⟩
      · rw [List.getElem?_set_ne z]
        refine ⟨fun q => h1 fun w => q (List.mem_cons_of_mem _ w), fun q => ?_⟩
        rcases List.mem_cons.mp q with w | w
        · exact absurd w.symm z
        · exact h2 w
    · rename_i hs
      by_cases z : k = j
      · subst z
        refine ⟨fun q => absurd List.mem_cons_self q, fun _ => ?_⟩
        rw [hs]
        have : e0.length ≤ k := List.getElem?_eq_none_iff.mp hs
        exact List.getElem?_eq_none (by rw [resE_length, ← hl]; exact this)
      · refine ⟨fun q => h1 fun w => q (List.mem_cons_of_mem _ w), fun q => ?_⟩
        rcases List.mem_cons.mp q with w | w
        · exact absurd w.symm z
        · exact h2 w
theorem wipe_set {σ : SS} {i : Nat} {x : Option V} : ∀ {vs : List Nat}, i ∈ vs → wipe (σ.set i x) vs = wipe σ vs
  | [], h => by simp at h
  | k :: vs, h => by
    unfold wipe
    by_cases z : i ∈ vs
    · rw [wipe_set z]
    · have : i = k := (List.mem_cons.mp h).resolve_right z
      subst this
      have key : ∀ {ws : List Nat}, i ∉ ws → wipe (σ.set i x) ws = (wipe σ ws).set i x := fun {ws} hn => by
        induction ws with
        | nil => rfl
        | cons w ws ih =>
          unfold wipe
          have h1 : i ≠ w := fun q => hn (by rw [q]; exact List.mem_cons_self)
          rw [ih fun q => hn (List.mem_cons_of_mem _ q), List.set_comm _ _ h1]
      rw [key z, List.set_set]
theorem wipe_wipe {σ : SS} {vs : List Nat} : wipe (wipe σ vs) vs = wipe σ vs := by
  have key : ∀ ws : List Nat, (∀ w ∈ ws, w ∈ vs) → wipe (wipe σ ws) vs = wipe σ vs := fun ws => by
    induction ws with
    | nil => exact fun _ => rfl
    | cons w ws ih =>
      intro h
      show wipe ((wipe σ ws).set w none) vs = wipe σ vs
      rw [wipe_set (h w List.mem_cons_self), ih fun x hx => h x (List.mem_cons_of_mem _ hx)]
  exact key vs fun _ h => h
section
variable {K : PySem.W.Frag} {F F0 F1 F2 : Fz} {σ σ0 : SS} {H H0 H1 H2 : Hp} {e e0 e1 e2 : En} {vs : List Nat}
theorem wipe_own {a : Addr} (h : Ows (wipe σ vs) (wipeE e vs) a) : Ows σ e a ∧ ∃ j, j ∉ vs ∧ σ[j]? = some (some (.ref a)) ∧ ∃ io d, e[j]? = some (.ow io d) := by
  obtain ⟨j, io, d, h1, h2⟩ := h
  by_cases z : j ∈ vs
  · rcases wipeE_get.2 z with q | q
    · rw [q] at h1; cases h1
    · rw [q] at h1; cases h1
  · rw [wipeE_get.1 z] at h1
    rw [wipe_get.1 z] at h2
    exact ⟨⟨j, io, d, h1, h2⟩, j, z, h2, io, d, h1⟩
/-- names forgotten -/
theorem Gd.wiped (g : Gd K F σ H e) (vs : List Nat) : Gd K F (wipe σ vs) H (wipeE e vs) := by
  have bk : ∀ {j : Nat} {s : Sl}, (wipeE e vs)[j]? = some s → s ≠ .un → j ∉ vs ∧ e[j]? = some s := fun {j s} q n => by
    by_cases z : j ∈ vs
    · rcases wipeE_get.2 z with w | w
      · rw [w] at q; cases q; exact absurd rfl n
      · rw [w] at q; cases q
    · rw [wipeE_get.1 z] at q; exact ⟨z, q⟩
  refine ⟨by rw [wipe_length, wipeE_length]; exact g.len, fun j d q => ?_, fun j io d q => ?_, fun j k io io' d d' a h1 h2 h3 h4 => ?_, g.fw⟩
  · obtain ⟨z, q⟩ := bk q (fun w => by cases w)
    obtain ⟨v, q1, q2⟩ := g.fz j d q
    exact ⟨v, by rw [wipe_get.1 z]; exact q1, q2⟩
  · obtain ⟨z, q⟩ := bk q (fun w => by cases w)
    obtain ⟨a, q1, q2⟩ := g.ow j io d q
    exact ⟨a, by rw [wipe_get.1 z]; exact q1, q2⟩
  · obtain ⟨z1, q1⟩ := bk h1 (fun w => by cases w)
    obtain ⟨z2, q2⟩ := bk h2 (fun w => by cases w)
    rw [wipe_get.1 z1] at h3
    rw [wipe_get.1 z2] at h4
    exact g.sep j k _ _ _ _ a q1 q2 h3 h4
/-- .. within a run that began with them forgotten -/
theorem Stp.wiped (s : Stp F0 (wipe σ0 vs) H0 (wipeE e0 vs) F σ H e) (hw : wipe σ vs = wipe σ0 vs) : Stp F0 (wipe σ0 vs) H0 (wipeE e0 vs) F (wipe σ vs) H (wipeE e vs) := by
  refine ⟨s.mono, s.keep, s.there, fun a h => s.own a (wipe_own h).1, s.fro, fun j d q => ?_, by rw [wipeE_length]; exact s.ln⟩
  obtain ⟨q1, d', q2⟩ := s.io j d q
  have z : j ∉ vs := fun z => by
    rcases wipeE_get.2 z with w | w
    · rw [w] at q; cases q
    · rw [w] at q; cases q
  exact ⟨by rw [hw], d', by rw [wipeE_get.1 z]; exact q2⟩
/-- an object that nobody of these knows is changed -/
theorem Gd.poke (g : Gd K F σ H e) (s : Stp F0 σ0 H0 e0 F σ H e) {p : Addr} (nf : ¬ F p) (no : ¬ Ows σ e p) (h0 : H0 p = none) (o : HO) : Gd K F σ (upd H p o) e ∧ Stp F0 σ0 H0 e0 F σ (upd H p o) e := by
  have kp : Keeps F H F (upd H p o) := fun b q => ⟨q, fun u hu => by rw [upd_ne (show b ≠ p from fun z => nf (z ▸ q))]; exact hu⟩
  refine ⟨⟨g.len, fun j d q => ?_, fun j io d q => ?_, g.sep, fun a q => ?_⟩, ⟨s.mono, fun a u q n => ?_, fun a u q => ?_, s.own, s.fro, s.io, s.ln⟩⟩
  · obtain ⟨v, q1, q2⟩ := g.fz j d q
    exact ⟨v, q1, q2.keeps kp⟩
  · obtain ⟨a, q1, q2⟩ := g.ow j io d q
    obtain ⟨ds, ws, rfl, y, hy⟩ := q2.ex
    have : a ≠ p := fun z => by subst z; exact no ⟨j, io, _, q, q1⟩
    exact ⟨a, q1, ⟨ds, ws, rfl, by rw [upd_ne this]; exact y, hy.keeps kp⟩, q2.nf⟩
  · obtain ⟨u, hu⟩ := g.fw a q
    exact ⟨u, by rw [upd_ne (show a ≠ p from fun z => nf (z ▸ q))]; exact hu⟩
  · rw [upd_ne (ne_of_none q h0)]; exact s.keep a u q n
  · rw [upd_ne (ne_of_none q h0)]; exact s.there a u q
/-- names given back -/
theorem Gd.given (g1 : Gd K F1 σ H1 e1) (g2 : Gd K F2 (wipe σ vs) H2 e2) (s : Stp F1 (wipe σ vs) H1 (wipeE e1 vs) F2 (wipe σ vs) H2 e2) : Gd K F2 σ H2 (resE e1 e2 vs) ∧ Stp F1 σ H1 e1 F2 σ H2 (resE e1 e2 vs) := by
  have hl : e1.length = e2.length := by rw [s.ln, wipeE_length]
  have kp : Keeps F1 H1 F2 H2 := fun a q => ⟨s.mono a q, fun u hu => s.keep a u hu fun z => g1.nof (wipe_own z).1 q⟩
  -- an object of a forgotten name stood still
  have still : ∀ {j : Nat} {io : Bool} {d : D} {a : Addr}, j ∈ vs → e1[j]? = some (.ow io d) → σ[j]? = some (some (.ref a)) → ¬ Ows (wipe σ vs) (wipeE e1 vs) a := fun {j io d a} z he hs h => by
    obtain ⟨_, k, z2, h2, io', d', h3⟩ := wipe_own h
    have := g1.sep j k _ _ _ _ a he h3 hs h2
    subst this
    exact z2 z
  have old : ∀ {a : Addr}, Ows (wipe σ vs) e2 a → ∀ {u}, H1 a = some u → Ows (wipe σ vs) (wipeE e1 vs) a := fun {a} h {u} hu => (s.own a h).resolve_right fun q => by rw [hu] at q; cases q
  have ow2 : ∀ {j : Nat} {io : Bool} {d : D} {a : Addr}, j ∉ vs → e2[j]? = some (.ow io d) → σ[j]? = some (some (.ref a)) → Ows (wipe σ vs) e2 a := fun {j io d a} z he hs => ⟨j, io, d, he, by rw [wipe_get.1 z]; exact hs⟩
  refine ⟨⟨by rw [resE_length, ← hl]; exact g1.len, fun j d q => ?_, fun j io d q => ?_, fun j k io io' d d' a h1 h2 h3 h4 => ?_, g2.fw⟩, ⟨s.mono, fun a u q n => s.keep a u q fun z => n (wipe_own z).1, s.there, fun a h => ?_, fun a h => ?_, fun j d q => ⟨rfl, ?_⟩, by rw [resE_length, hl]⟩⟩
  · by_cases z : j ∈ vs
    · rw [(resE_get hl).2 z] at q
      obtain ⟨v, q1, q2⟩ := g1.fz j d q
      exact ⟨v, q1, q2.keeps kp⟩
    · rw [(resE_get hl).1 z] at q
      obtain ⟨v, q1, q2⟩ := g2.fz j d q
      rw [wipe_get.1 z] at q1
      exact ⟨v, q1, q2⟩
  · by_cases z : j ∈ vs
    · rw [(resE_get hl).2 z] at q
      obtain ⟨a, q1, q2⟩ := g1.ow j io d q
      obtain ⟨ds, ws, rfl, y, hy⟩ := q2.ex
      have no := still z q q1
      refine ⟨a, q1, ⟨ds, ws, rfl, s.keep a _ y no, hy.keeps kp⟩, fun w => ?_⟩
      rcases s.fro a w with w | w | w
      · exact q2.nf w
      · rw [y] at w; cases w
      · exact no w
    · rw [(resE_get hl).1 z] at q
      obtain ⟨a, q1, q2⟩ := g2.ow j io d q
      rw [wipe_get.1 z] at q1
      exact ⟨a, q1, q2⟩
  · by_cases z : j ∈ vs
    · rw [(resE_get hl).2 z] at h1
      obtain ⟨u, hu⟩ := g1.own_there ⟨j, io, d, h1, h3⟩
      by_cases y : k ∈ vs
      · rw [(resE_get hl).2 y] at h2
        exact g1.sep j k _ _ _ _ a h1 h2 h3 h4
      · rw [(resE_get hl).1 y] at h2
        exact absurd (old (ow2 y h2 h4) hu) (still z h1 h3)
    · rw [(resE_get hl).1 z] at h1
      by_cases y : k ∈ vs
      · rw [(resE_get hl).2 y] at h2
        obtain ⟨u, hu⟩ := g1.own_there ⟨k, io', d', h2, h4⟩
        exact absurd (old (ow2 z h1 h3) hu) (still y h2 h4)
      · rw [(resE_get hl).1 y] at h2
        exact g2.sep j k _ _ _ _ a h1 h2 (by rw [wipe_get.1 z]; exact h3) (by rw [wipe_get.1 y]; exact h4)
  · obtain ⟨j, io, d, q1, q2⟩ := h
    by_cases z : j ∈ vs
    · rw [(resE_get hl).2 z] at q1
      exact .inl ⟨j, io, d, q1, q2⟩
    · rw [(resE_get hl).1 z] at q1
      exact (s.own a (ow2 z q1 q2)).imp (fun w => (wipe_own w).1) id
  · rcases s.fro a h with w | w | w
    · exact .inl w
    · exact .inr (.inl w)
    · exact .inr (.inr (wipe_own w).1)
  · by_cases z : j ∈ vs
    · exact ⟨d, by rw [(resE_get hl).2 z]; exact q⟩
    · rw [← (wipeE_get (e := e1)).1 z] at q
      obtain ⟨_, d', q2⟩ := s.io j d q
      exact ⟨d', by rw [(resE_get hl).1 z]; exact q2⟩
end

/-! ### targets of a block: its own names -/
def tGw (K : PySem.W.Frag) (f : FG) (is : List Nat) : TG := fun v σ H Q => ∃ (F : Fz) (e : En) (d : D) (e' : En), Gd K F σ H e ∧ DF K F H v d ∧ f d e = some e' ∧
  ∀ F' σ', Gd K F' σ' H e' → Stp F σ H e F' σ' H e' → (∀ vs, (∀ i ∈ is, i ∈ vs) → wipe σ' vs = wipe σ vs) → Q σ' H
def tGws (K : PySem.W.Frag) (f : List D → En → Option En) (is : List Nat) : TGs := fun v σ H Q => ∃ (F : Fz) (e : En) (ds : List D) (e' : En), Gd K F σ H e ∧ DFs K F H v ds ∧ f ds e = some e' ∧
  ∀ F' σ', Gd K F' σ' H e' → Stp F σ H e F' σ' H e' → (∀ vs, (∀ i ∈ is, i ∈ vs) → wipe σ' vs = wipe σ vs) → Q σ' H
def EvGW (X : Cx) (tg : Expr) (f : FG) (is : List Nat) : Prop := PG X tg (tGw X.K f is)
def EvGWs (X : Cx) (tgs : List Expr) (f : List D → En → Option En) (is : List Nat) : Prop := PGs X tgs (tGws X.K f is)
section
variable {X : Cx} {tg : Expr} {tgs : List Expr} {f : FG} {g : List D → En → Option En} {pos : Pos} {is js : List Nat}
theorem egw_name {i : Nat} {x : Str} (hN : X.N.Nodup) (hi : X.N[i]? = some x) (hx : Loc X.env.scope x) (hf : X.fn x = true ∨ X.env.scope.names.lookup x = some .local := by first | exact .inl rfl | exact .inr rfl | assumption) : EvGW X (.Name x pos) (gnF i) [i] := by
  refine PGimp (pg_name hN hi hx hf) ?_
  rintro v σ H Q ⟨F, e, d, e', gd, df, h, k⟩
  obtain ⟨F1, g1, s1⟩ := setSl_ok (va := .fz d) gd Stp.refl df trivial h
  exact k F1 _ g1 s1 fun vs hv => wipe_set (hv i List.mem_cons_self)
theorem egws_nil : EvGWs X [] gsN [] := by
  refine PGsimp pgs_nil ?_
  rintro v σ H Q ⟨F, e, ds, e', gd, df, h, k⟩
  cases df with
  | nil => cases h; exact ⟨rfl, k F σ gd Stp.refl fun _ _ => rfl⟩
  | cons a b => cases h
theorem egws_cons (h1 : EvGW X tg f is) (h2 : EvGWs X tgs g js) (hs : (assignEach (tg :: tgs) X.env).map (·.2) = assign tg X.env :: (assignEach tgs X.env).map (·.2) := by rfl) : EvGWs X (tg :: tgs) (gsC f g) (is ++ js) := by
  refine PGsimp (pgs_cons h1 h2 hs) ?_
  rintro v σ H Q ⟨F, e, ds, e', gd, df, h, k⟩
  cases df with
  | nil => cases h
  | cons a b =>
    simp only [gsC] at h
    obtain ⟨e1, h1, h⟩ := Option.bind_eq_some_iff.mp h
    exact ⟨_, _, rfl, F, e, _, e1, gd, a, h1, fun F1 σ1 g1 s1 w1 => ⟨F1, e1, _, e', g1, b.keeps (s1.keeps gd), h, fun F2 σ2 g2 s2 w2 => k F2 σ2 g2 (s1.trans s2) fun vs hv =>
      (w2 vs fun i q => hv i (List.mem_append_right _ q)).trans (w1 vs fun i q => hv i (List.mem_append_left _ q))⟩⟩
theorem egw_tup {k n : Nat} (hc : X.calm = true) (h : EvGWs X tgs g is) (hn : (assignEach tgs X.env).length = n := by rfl) (hst : (assignEach tgs X.env).findIdx? (·.1) = none := by rfl) : EvGW X (.Tuple tgs k pos) (gtF n g) is := by
  refine PGimp (pg_tup hc h hn hst) ?_
  rintro v σ H Q ⟨F, e, d, e', gd, df, h, kk⟩
  simp only [gtF] at h
  split at h
  · split at h
    · rename_i ds hl
      obtain ⟨a, xs, rfl, h1, h2⟩ := DR.tup (.inl df)
      exact ⟨a, xs, rfl, h1, by rw [h2.length]; exact hl, F, e, ds, e', gd, h2, h, kk⟩
    · cases h
  · cases h
end

/-! ### comprehensions -/
def cmpL (g : FG) (ft : FT) (fe : FE) (vs : List Nat) : List D → En → Option (List D × En)
  | [], e => some ([], e)
  | d :: ds, e => (g d e).bind fun e1 => (ft e1).bind fun t => if t.1 = true then (fe t.2).bind fun v => (fzn v.2 v.1.st).bind fun q => (cmpL g ft fe vs ds (wipeE q.2 vs)).map fun r => (q.1 :: r.1, r.2)
    else cmpL g ft fe vs ds (wipeE t.2 vs)
def cmpF (i : FI) (g : FG) (ft : FT) (fe : FE) (vs : List Nat) : FE := fun e => (i e).bind fun r => if r.1.length ≤ sizeLine then (cmpL g ft fe vs r.1 (wipeE r.2 vs)).map fun q => (.fr (.list q.1), resE r.2 q.2 vs) else none
def yesT : FT := fun e => some (true, e)
def EvTs (X : Cx) (ifs : List Expr) (f : FT) : Prop := PTs X ifs (tEvT X.K f)
section
variable {X : Cx} {c : Expr} {f : FT}
theorem ets_nil : EvTs X [] yesT := ⟨fun pins s σ H Q I ⟨F, e, b, e', g, h, k⟩ => pts_nil.run pins s σ H Q I (by cases h; exact k F H g Stp.refl)⟩
theorem ets_one (h : EvT X c f) : EvTs X [c] f := pts_one h
end
section
variable {X : Cx} {elt tg iter : Expr} {ifs : List Expr} {scope : Scope} {own : List (Str × Nat)} {pos : Pos} {fi : FI} {fg : FG} {ft : FT} {fe : FE} {is : List Nat}
theorem comp_core {K : PySem.W.Frag} {σ : SS} {H : Hp} {Q : VK} {vs : List Nat} (hv : ∀ i ∈ is, i ∈ vs) (h : tEv K (cmpF fi fg ft fe vs) σ H Q) : tLc (tIv K fi) (tGw K fg is) (tEvT K ft) (tEv K fe) vs σ H Q := by
  obtain ⟨F, e, va, e', gd, h, k⟩ := h
  obtain ⟨⟨ds, e1⟩, h1, h⟩ := Option.bind_eq_some_iff.mp h
  dsimp only at h
  split at h
  · rename_i hlen
    obtain ⟨⟨rs, eF⟩, h2, h⟩ := Option.map_eq_some_iff.mp h
    cases h
    refine ⟨F, e, ds, e1, gd, h1, fun F1 H1 J g1 s1 wk D hD => ?_⟩
    have gw := g1.wiped vs
    have noD0 : ¬ Ows (wipe σ vs) (wipeE e1 vs) D := gw.nown hD
    obtain ⟨gp, sp⟩ := gw.poke Stp.refl (gw.nfree hD) noD0 hD (.lst [])
    refine lc_it wk (fun i H2 => ∃ F2 e2 acc as rest, Gd K F2 (wipe σ vs) H2 e2 ∧ Stp F1 (wipe σ vs) H1 (wipeE e1 vs) F2 (wipe σ vs) H2 e2 ∧ H2 D = some (.lst acc) ∧ DFs K F2 H2 acc as ∧ ¬ F2 D ∧ ¬ Ows (wipe σ vs) e2 D ∧ acc.length ≤ i ∧
      cmpL fg ft fe vs (ds.drop i) e2 = some (rest, eF) ∧ rs = as ++ rest) ⟨F1, wipeE e1 vs, [], [], rs, gp, sp, upd_same, .nil, gw.nfree hD, noD0, Nat.le_refl _, by simpa using h2, rfl⟩ ?_ ?_ ?_
    · rintro i H2 hi ⟨F2, e2, acc, as, rest, g2, s2, _⟩
      exact fun a u q z => ((s2.keeps gw) a q).2 u z
    · rintro i x H2 H3 hi ⟨F2, e2, acc, as, rest, g2, s2, a1, a2, a3, a4, a5, a6, a7⟩ ⟨d, hd, y⟩
      obtain ⟨F3, g3, s3, df⟩ := yld_ok g2 (s2.keeps gw) y
      have hdr : ds.drop i = d :: ds.drop (i + 1) := by
        rw [List.drop_eq_getElem_cons hi]
        have : ds[i] = d := by rw [List.getElem?_eq_getElem hi] at hd; exact Option.some.inj hd
        rw [this]
      rw [hdr] at a6
      simp only [cmpL] at a6
      obtain ⟨e4, h4, a6⟩ := Option.bind_eq_some_iff.mp a6
      obtain ⟨⟨b, e5⟩, h5, a6⟩ := Option.bind_eq_some_iff.mp a6
      -- the list that is made, as an object of nobody's
      have o2 : Ow K F2 H2 D (.list as) := ⟨⟨as, acc, rfl, a1, a2⟩, a3⟩
      obtain ⟨o3, n3⟩ := Ow.step g2 s3 o2 a4
      refine ⟨F3, e2, d, e4, g3, df, h4, fun F4 σ4 g4 s4 w4 => ⟨?_, F4, e4, b, e5, g4, h5, fun F5 H5 g5 s5 => ?_⟩⟩
      · rw [w4 vs hv, wipe_wipe]
      · have hw4 : wipe σ4 vs = wipe σ vs := by rw [w4 vs hv, wipe_wipe]
        obtain ⟨o4, n4⟩ := Ow.step g3 s4 o3 n3
        obtain ⟨o5, n5⟩ := Ow.step g4 s5 o4 n4
        have st5 := ((s2.trans s3).trans s4).trans s5
        cases b with
        | false =>
          rw [if_neg Bool.false_ne_true] at a6
          show if false = true then _ else _
          rw [if_neg Bool.false_ne_true]
          obtain ⟨⟨as', acc', ea, z1, z2⟩, z3⟩ := o5
          cases ea
          have gg := g5.wiped vs
          rw [hw4] at gg
          refine ⟨F5, wipeE e5 vs, acc', as, rest, gg, ?_, z1, z2, z3, fun q => ?_, ?_, a6, a7⟩
          · have := st5.wiped hw4
            rwa [hw4] at this
          · rw [← hw4] at q
            exact n5 (wipe_own q).1
          · have := z2.length
            have := a2.length
            omega
        | true =>
          rw [if_pos rfl] at a6
          show if true = true then _ else _
          rw [if_pos rfl]
          obtain ⟨⟨vv, e6⟩, h6, a6⟩ := Option.bind_eq_some_iff.mp a6
          obtain ⟨⟨d7, e7⟩, h7, a6⟩ := Option.bind_eq_some_iff.mp a6
          obtain ⟨⟨r8, e8⟩, h8, a6⟩ := Option.map_eq_some_iff.mp a6
          cases a6
          refine ⟨F5, e5, vv, e6, g5, h6, fun F6 H6 y g6 s6 r6 n6 => ?_⟩
          obtain ⟨F7, g7, s7, df7⟩ := frz_val g6 s6 r6 n6 h7
          obtain ⟨o7, n7⟩ := Ow.step g5 s7 o5 n5
          obtain ⟨⟨as', acc', ea, z1, z2⟩, z3⟩ := o7
          cases ea
          have st7 := st5.trans s7
          obtain ⟨g8, s8⟩ := g7.poke st7 z3 n7 hD (.lst (acc' ++ [y]))
          have hacc : acc'.length ≤ i := by
            have := z2.length
            have := a2.length
            omega
          have gg := g8.wiped vs
          rw [hw4] at gg
          have kp : Keeps F7 H6 F7 (upd H6 D (.lst (acc' ++ [y]))) := fun b q => ⟨q, fun u hu => by rw [upd_ne (show b ≠ D from fun z => z3 (z ▸ q))]; exact hu⟩
          refine ⟨acc', z1, by omega, F7, wipeE e7 vs, acc' ++ [y], as ++ [d7], r8, gg, ?_, upd_same, (z2.append (.cons df7 .nil)).keeps kp, z3, fun q => ?_, ?_, h8, by rw [a7, List.append_assoc]; rfl⟩
          · have := s8.wiped hw4
            rwa [hw4] at this
          · rw [← hw4] at q
            exact n7 (wipe_own q).1
          · rw [List.length_append, List.length_singleton]; omega
    · rintro H2 ⟨F2, e2, acc, as, rest, g2, s2, a1, a2, a3, a4, a5, a6, a7⟩
      rw [List.drop_length] at a6
      cases a6
      rw [List.append_nil] at a7
      subst a7
      obtain ⟨g3, s3⟩ := g1.given g2 s2
      refine k F2 H2 (.ref D) g3 (s1.trans s3) ⟨D, rfl, ⟨⟨_, acc, rfl, a1, a2⟩, a3⟩, fun q => ?_⟩ fun a q => by cases q; exact s1.none_back hD
      rcases s3.own D q with z | z
      · obtain ⟨u, hu⟩ := g1.own_there z
        rw [hD] at hu; cases hu
      · -- D is new: none of the names holds it
        obtain ⟨j, io, d, q1, q2⟩ := q
        have hl : e1.length = eF.length := by rw [s2.ln, wipeE_length]
        by_cases y : j ∈ vs
        · rw [(resE_get hl).2 y] at q1
          obtain ⟨u, hu⟩ := g1.own_there ⟨j, io, d, q1, q2⟩
          rw [hD] at hu; cases hu
        · rw [(resE_get hl).1 y] at q1
          exact a4 ⟨j, io, d, q1, by rw [wipe_get.1 y]; exact q2⟩
  · cases h
theorem ev_comp (hc : X.calm = true) (hN : X.N.Nodup) (hi : EvI X tg iter fi) (ok : BlkOk X.N X.env.scope scope own) (hv : ∀ i ∈ is, i ∈ own.map (·.2))
    (hg : ∀ (s : Shared) (H : Hp) (C : Addr) (cl : List (Str × Addr)) (fp : List Addr), EvGW (X.blk s H scope (compEnvC scope cl C X.env) fp) tg fg is) (ht : ∀ (s : Shared) (H : Hp) (C : Addr) (cl : List (Str × Addr)) (fp : List Addr), EvTs (X.blk s H scope (compEnvC scope cl C X.env) fp) ifs ft)
    (he : ∀ (s : Shared) (H : Hp) (C : Addr) (cl : List (Str × Addr)) (fp : List Addr), EvE (X.blk s H scope (compEnvC scope cl C X.env) fp) elt fe) (hs : ∀ x, foldedSetIterable iter X.env x = pure x := by intro _; rfl) :
    EvE X (.ListComp elt [⟨tg, iter, ifs, 0⟩] scope pos) (cmpF fi fg ft fe (own.map (·.2))) := PEimp (pe_lc (g := tGw X.K fg is) (tt := tEvT X.K ft) (te := tEv X.K fe) hc hN hi ok hg ht he hs) fun _ _ _ h => comp_core hv h
theorem ev_setComp {i : Nat} {y : Str} {py spos : Pos} (hc : X.calm = true) (hN : X.N.Nodup) (hy : X.N[i]? = some y) (hyl : X.env.scope.names.lookup y = some .local)
    (hsw : swapsWith (.ListComp elt [⟨tg, iter, ifs, 0⟩] scope pos) (some (.Name y py)) spos.line X.env = pure true) (hi : EvI X tg iter fi) (ok : BlkOk X.N X.env.scope scope own) (hv : ∀ i ∈ is, i ∈ own.map (·.2))
    (hg : ∀ (s : Shared) (H : Hp) (C : Addr) (cl : List (Str × Addr)) (fp : List Addr), EvGW (X.blk s H scope (compEnvC scope cl C X.env) fp) tg fg is) (ht : ∀ (s : Shared) (H : Hp) (C : Addr) (cl : List (Str × Addr)) (fp : List Addr), EvTs (X.blk s H scope (compEnvC scope cl C X.env) fp) ifs ft)
    (he : ∀ (s : Shared) (H : Hp) (C : Addr) (cl : List (Str × Addr)) (fp : List Addr), EvE (X.blk s H scope (compEnvC scope cl C X.env) fp) elt fe) (hs : ∀ x, foldedSetIterable iter X.env x = pure x := by intro _; rfl) :
    EvS X (.Assign [.Name y py] (.ListComp elt [⟨tg, iter, ifs, 0⟩] scope pos) spos) (setF i (cmpF fi fg ft fe (own.map (·.2)))) := by
  refine PSimp (ps_setLc (g := tGw X.K fg is) (tt := tEvT X.K ft) (te := tEv X.K fe) hc hN hy hyl hsw hi ok hg ht he hs) ?_
  intro D σ H h
  have h' := set_core h
  exact comp_core hv h'
end
end Sh
end Sh8__
section Sh9__
set_option Elab.async false
set_option linter.all false
set_option autoImplicit false
set_option maxRecDepth 100000
set_option maxHeartbeats 4000000
/-! Sh9: the operations by data: operators, comparisons, subscripts, slices. -/
namespace Sh
open PySem L2

section
variable {X : Cx}
/-! ### list + list, text * int -/
def rCatL (K : PySem.W.Frag) : R2 := fun x y H Q => ∃ l b xs zs, x = .ref l ∧ y = .ref b ∧ SqL K H l xs ∧ SqL K H b zs ∧ xs.length + zs.length ≤ sizeLine ∧ ∀ p, H p = none → Q (.ref p) (upd H p (.lst (xs ++ zs)))
theorem op_catL : OpR X (binaryOp .Add) (rCatL X.K) := by
  intro pins s σ H x y v u Q I rx ry h
  obtain ⟨l, b, xs, zs, rfl, rfl, hH, hB, hz, q⟩ := h
  cases rx
  cases ry
  obtain ⟨its, r, ⟨⟨cls, dd, data, sl⟩, n, ho, hc, hd, he⟩, hl⟩ := I.list hH
  obtain ⟨its2, r2, ⟨⟨cls2, dd2, data2, sl2⟩, n2, ho2, hc2, hd2, he2⟩, hl2⟩ := I.list hB
  simp only at hc hd he hc2 hd2 he2
  subst hc hd he hc2 hd2 he2
  have e : its.toArray ++ its2.toArray = (its ++ its2).toArray := by simp
  have l1 := r.length
  have l2 := r2.length
  refine PySem.concat_meets ⟨_, ho, rfl⟩ ⟨_, ho2, rfl⟩ PySem.noFill_list_add PySem.seq_list_add PySem.F.slot_list_add PySem.F.entry_list_add (PySem.F.args_list_add_2 _ _) (PyProof.Rows.list_addW l b its.toArray its2.toArray n n2 none none sl sl2 (by simp; omega)) ⟨ho, ho2, ?_⟩
  rw [e]
  exact ⟨.ref _, _, I.lnew (t' := s.toks) (r.append r2) (by rw [List.length_append]; omega), rfl, q _ I.fresh⟩
def repS (z : Str) (k : Int) : Str := ⟨(List.replicate k.toNat z.cps.toList).flatten.toArray⟩
def rRepS : R2 := fun x y H Q => ∃ z k, x = .str z ∧ y = .int k ∧ k < 2 ^ 20 ∧ -(2 ^ 20) < k ∧ z.length < 2 ^ 20 ∧ z.length * k.toNat ≤ sizeLine ∧ Q (.str (repS z k)) H
theorem repS_foldl (l : List (List Nat)) (acc : Array Nat) : (l.map List.toArray).foldl (· ++ ·) acc = ⟨acc.toList ++ l.flatten⟩ := by
  induction l generalizing acc with
  | nil => simp
  | cons a l ih => rw [List.map_cons, List.foldl_cons, ih]; simp
theorem repS_eq (z : Str) (k : Nat) : (⟨(List.replicate k z.cps).foldl (· ++ ·) #[]⟩ : Str) = ⟨(List.replicate k z.cps.toList).flatten.toArray⟩ := by
  have h := repS_foldl (List.replicate k z.cps.toList) #[]
  rw [List.map_replicate] at h
  simp at h
  rw [h]
theorem op_repS : OpR X (binaryOp .Mult) rRepS := by
  intro pins s σ H x y v u Q I rx ry h
  obtain ⟨z, k, rfl, rfl, h1, h2, h3, h4, q⟩ := h
  obtain ⟨t, rfl⟩ := rx
  obtain ⟨t', rfl⟩ := ry
  have sl : sizeLine = 33554432 ∨ True := .inr trivial
  refine PySem.P.mul_str ?_ (fun h5 h6 => ?_) (fun h5 h6 => ?_) ?_
  · have : ¬ k < -(2 ^ 63 : Int) := by omega
    have h' : ¬ k ≥ 2 ^ 63 := by omega
    rw [decide_eq_false this, decide_eq_false h']; rfl
  · have k1 : 1 ≤ k := by omega
    have : (2 ^ 20 : Int) ≤ (2 ^ 63 - 1) / k := by
      refine (Int.le_ediv_iff_mul_le (by omega)).mpr ?_
      omega
    omega
  · show decide (_ > _) = false
    exact decide_eq_false (by
      have h7 : z.length * k.toNat ≤ sizeLine := h4
      omega)
  · by_cases c : k < 1
    · rw [if_pos c]
      refine ⟨by decide, ?_⟩
      have e : repS z k = Str.empty := by
        unfold repS
        have : k.toNat = 0 := by omega
        rw [this]; rfl
      exact ⟨.str _, H, I.tok _, ⟨_, rfl⟩, by rw [← e]; exact q⟩
    · rw [if_neg c]
      by_cases d : (k == 1 || z.length == 0) = true
      · rw [if_pos d]
        have e : repS z k = z := by
          rcases (Bool.or_eq_true _ _).mp d with d | d
          · have d := beq_iff_eq.mp d
            subst d
            unfold repS
            simp
          · have d := beq_iff_eq.mp d
            unfold repS
            obtain ⟨a⟩ := z
            have : a = #[] := Array.eq_empty_of_size_eq_zero d
            subst this
            simp
        exact ⟨.str _, H, I, ⟨_, rfl⟩, by rw [← e]; exact q⟩
      · rw [if_neg d, repS_eq]
        refine ⟨?_, ?_⟩
        · show (⟨(List.replicate k.toNat z.cps.toList).flatten.toArray⟩ : Str).length ≤ sizeLine
          show (List.replicate k.toNat z.cps.toList).flatten.toArray.size ≤ sizeLine
          rw [List.size_toArray, PyProof.Rows.lm_len_rep_flat, Array.length_toList, Nat.mul_comm]
          exact h4
        · exact ⟨.str _, H, I.tok _, ⟨_, rfl⟩, q⟩

/-! ### x in t for a tuple -/
def rInT (K : PySem.W.Frag) : R2 := fun x y H Q => ∃ d ds, Dp K H x d ∧ Dp K H y (.tuple ds) ∧ SeqAt.shaped d = true ∧ SeqAt.shaped (.tuple ds) = true ∧ Q (.bl (ds.any fun z => PyData.eqv z d)) H
def rNotInT (K : PySem.W.Frag) : R2 := fun x y H Q => ∃ d ds, Dp K H x d ∧ Dp K H y (.tuple ds) ∧ SeqAt.shaped d = true ∧ SeqAt.shaped (.tuple ds) = true ∧ Q (.bl (!ds.any fun z => PyData.eqv z d)) H
theorem room_inT {n : Nat} {ds : List D} {d : D} (sd : SeqAt.shaped d = true) (hu : n + 65 < cLine) : n + 1 + min (PyData.depthAll ds) d.depth < cLine := by
  have : d.depth ≤ 64 := of_decide_eq_true ((Bool.and_eq_true _ _).mp sd).2
  have := Nat.min_le_right (PyData.depthAll ds) d.depth
  omega
theorem op_inT (hu : X.A.units + 65 < cLine) : OpR X (compareOp .In) (rInT X.K) := by
  intro pins s σ H x y v u Q I rx ry h
  obtain ⟨d, ds, hd, he, sd, se, q⟩ := h
  obtain ⟨as, r1⟩ := Dp.reads I d x v hd rx
  obtain ⟨bs, r2⟩ := Dp.reads I (.tuple ds) y u he ry
  exact SeqAt.in_tuple_reads r2 r1 (SeqAt.canLay_of_shaped se) (SeqAt.canLay_of_shaped sd) (room_inT sd hu) ⟨.bl _, H, I, rfl, q⟩
theorem op_notInT (hu : X.A.units + 65 < cLine) : OpR X (compareOp .NotIn) (rNotInT X.K) := by
  intro pins s σ H x y v u Q I rx ry h
  obtain ⟨d, ds, hd, he, sd, se, q⟩ := h
  obtain ⟨as, r1⟩ := Dp.reads I d x v hd rx
  obtain ⟨bs, r2⟩ := Dp.reads I (.tuple ds) y u he ry
  exact SeqAt.notIn_tuple_reads r2 r1 (SeqAt.canLay_of_shaped se) (SeqAt.canLay_of_shaped sd) (room_inT sd hu) ⟨.bl _, H, I, rfl, q⟩

/-! ## the operations as functions of data -/
section
variable {K : PySem.W.Frag}
def addD : D → D → Option Va
  | .int i, .int j => some (.fz (.int (i + j)))
  | .str a, .str b => if a.length + b.length ≤ sizeLine then some (.fz (.str (a ++ b))) else none
  | .tuple a, .tuple b => if a.length + b.length ≤ sizeLine then some (.fz (.tuple (a ++ b))) else none
  | .list a, .list b => if a.length + b.length ≤ sizeLine then some (.fr (.list (a ++ b))) else none
  | _, _ => none
def rAdd (K : PySem.W.Frag) : R2 := fun x y H Q => ((rI0 (fun i j => .int (i + j)) x y H Q ∨ ∃ i j, x = .str i ∧ y = .str j ∧ i.length + j.length ≤ sizeLine ∧ Q (.str (i ++ j)) H) ∨ rCatA K x y H Q) ∨ rCatL K x y H Q
theorem op_addD : OpR X (binaryOp .Add) (rAdd X.K) := ((op_add.or op_add_str).or op_catA).or op_catL
theorem r_add : R2D K addD (rAdd K) := by
  intro F σ H e x y a b va Q g ra rb h k
  unfold addD at h
  split at h
  · cases h
    exact .inl (.inl (.inl ⟨_, _, ra.int, rb.int, k.sub g (.int _)⟩))
  · split at h
    · cases h
      rename_i z
      refine .inl (.inl (.inr ⟨_, _, ra.str.1, rb.str.1, z, k.sub g (.str _ ?_)⟩))
      exact (show (_ : Nat) ≤ _ from by rw [show (_ ++ _ : Str).length = _ from PySem.Str.length_append ..]; exact z)
    · cases h
  · split at h
    · cases h
      rename_i a b z
      obtain ⟨p, xs, rfl, hx, hxs⟩ := ra.tup
      obtain ⟨q, ys, rfl, hy, hys⟩ := rb.tup
      have l1 := hxs.length
      have l2 := hys.length
      refine .inl (.inr ⟨p, q, xs, ys, rfl, rfl, hx, hy, by omega, fun z => ?_, fun z1 z2 => ?_, fun _ _ p hp => k.tup g (hxs.append hys) hp⟩)
      · subst z
        have : a = [] := List.eq_nil_of_length_eq_zero (by rw [← l1]; rfl)
        subst this
        refine k.sub g ?_
        rcases rb with rb | ⟨a, ds', vs, e0, z, h1, h2⟩
        · exact rb
        · cases z
      · subst z2
        have : b = [] := List.eq_nil_of_length_eq_zero (by rw [← l2]; rfl)
        subst this
        refine k.sub g ?_
        rw [List.append_nil]
        rcases ra with rb | ⟨a, ds', vs, e0, z, h1, h2⟩
        · exact rb
        · cases z
    · cases h
  · split at h
    · cases h
      obtain ⟨p, xs, rfl, hx, hxs⟩ := ra.lst
      obtain ⟨q, ys, rfl, hy, hys⟩ := rb.lst
      have l1 := hxs.length
      have l2 := hys.length
      exact .inr ⟨p, q, xs, ys, rfl, rfl, hx, hy, by omega, fun p hp => k.lst g (hxs.append hys) hp⟩
    · cases h
  · cases h
def subD : D → D → Option Va
  | .int i, .int j => some (.fz (.int (i - j)))
  | _, _ => none
theorem r_sub : R2D K subD (rI0 fun i j => .int (i - j)) := by
  intro F σ H e x y a b va Q g ra rb h k
  unfold subD at h
  split at h
  · cases h
    exact ⟨_, _, ra.int, rb.int, k.sub g (.int _)⟩
  · cases h
noncomputable def mulD : D → D → Option Va
  | .int i, .int j => if (-(2 ^ 64) < i ∧ i < 2 ^ 64) ∨ (-(2 ^ 64) < j ∧ j < 2 ^ 64) then some (.fz (.int (i * j))) else none
  | .str z, .int k => @ite _ (k < 2 ^ 20 ∧ -(2 ^ 20) < k ∧ z.length < 2 ^ 20 ∧ z.length * k.toNat ≤ sizeLine) (Classical.propDecidable _) (some (.fz (.str (repS z k)))) none
  | _, _ => none
def rMul : R2 := fun x y H Q => rI CMul (fun i j => .int (i * j)) x y H Q ∨ rRepS x y H Q
theorem op_mulD : OpR X (binaryOp .Mult) rMul := op_mul.or op_repS
theorem r_mul : R2D K mulD rMul := by
  intro F σ H e x y a b va Q g ra rb h k
  unfold mulD at h
  split at h
  · split at h
    · cases h
      rename_i z
      exact .inl ⟨_, _, ra.int, rb.int, z, k.sub g (.int _)⟩
    · cases h
  · split at h
    · cases h
      rename_i z
      obtain ⟨z1, z2, z3, z4⟩ := z
      refine .inr ⟨_, _, ra.str.1, rb.int, z1, z2, z3, z4, k.sub g (.str _ ?_)⟩
      show Array.size _ ≤ _
      unfold repS
      rw [List.size_toArray, PyProof.Rows.lm_len_rep_flat, Array.length_toList, Nat.mul_comm]
      exact z4
    · cases h
  · cases h
def modD : D → D → Option Va
  | .int i, .int j => if 0 < j then some (.fz (.int (i % j))) else none
  | _, _ => none
theorem r_mod : R2D K modD (rI (fun _ j => 0 < j) fun i j => .int (i % j)) := by
  intro F σ H e x y a b va Q g ra rb h k
  unfold modD at h
  split at h
  · split at h
    · cases h
      rename_i z
      exact ⟨_, _, ra.int, rb.int, z, k.sub g (.int _)⟩
    · cases h
  · cases h
def fdivD : D → D → Option Va
  | .int i, .int j => if 0 < j ∧ j < 1073741824 then some (.fz (.int (i / j))) else none
  | _, _ => none
theorem r_fdiv : R2D K fdivD (rI CDiv fun i j => .int (i / j)) := by
  intro F σ H e x y a b va Q g ra rb h k
  unfold fdivD at h
  split at h
  · split at h
    · cases h
      rename_i z
      exact ⟨_, _, ra.int, rb.int, z, k.sub g (.int _)⟩
    · cases h
  · cases h
def powD : D → D → Option Va
  | .int i, .int j => if 0 ≤ j ∧ j ≤ 1000000 ∧ i.natAbs < 2 ^ 64 then some (.fz (.int (i ^ j.toNat))) else none
  | _, _ => none
theorem r_pow : R2D K powD (rI CPow fun i j => .int (i ^ j.toNat)) := by
  intro F σ H e x y a b va Q g ra rb h k
  unfold powD at h
  split at h
  · split at h
    · cases h
      rename_i z
      exact ⟨_, _, ra.int, rb.int, z, k.sub g (.int _)⟩
    · cases h
  · cases h

/-! ### == and != -/
/-- scalars are told apart -/
def scD : D → D → Option Bool
  | .none, .none => some true
  | .int i, .int j => some (i == j)
  | .bool i, .bool j => some (i == j)
  | .str i, .str j => some (i == j)
  | .none, .int _ => some false | .none, .bool _ => some false | .none, .str _ => some false
  | .int _, .none => some false | .bool _, .none => some false | .str _, .none => some false
  | .int _, .str _ => some false | .str _, .int _ => some false | .bool _, .str _ => some false | .str _, .bool _ => some false
  | _, _ => none
theorem scD_ok {F : Fz} {H : Hp} {x y : V} {a b : D} {r : Bool} (ra : DR K F H x a) (rb : DR K F H y b) (h : scD a b = some r) : scal x y = true ∧ decide (x = y) = r := by
  unfold scD at h
  split at h <;> cases h
  · rw [ra.non, rb.non]; exact ⟨rfl, by simp⟩
  · rw [ra.int, rb.int]; exact ⟨rfl, dec_int⟩
  · rw [ra.bl, rb.bl]; exact ⟨rfl, dec_bl⟩
  · rw [ra.str.1, rb.str.1]; exact ⟨rfl, dec_str⟩
  · rw [ra.non, rb.int]; exact ⟨rfl, by simp⟩
  · rw [ra.non, rb.bl]; exact ⟨rfl, by simp⟩
  · rw [ra.non, rb.str.1]; exact ⟨rfl, by simp⟩
  · rw [ra.int, rb.non]; exact ⟨rfl, by simp⟩
  · rw [ra.bl, rb.non]; exact ⟨rfl, by simp⟩
  · rw [ra.str.1, rb.non]; exact ⟨rfl, by simp⟩
  · rw [ra.int, rb.str.1]; exact ⟨rfl, by simp⟩
  · rw [ra.str.1, rb.int]; exact ⟨rfl, by simp⟩
  · rw [ra.bl, rb.str.1]; exact ⟨rfl, by simp⟩
  · rw [ra.str.1, rb.bl]; exact ⟨rfl, by simp⟩
def eqB (a b : D) : Option Bool := match scD a b with
  | some r => some r
  | none => if SeqAt.shaped a = true ∧ SeqAt.shaped b = true then some (PyData.eqv a b) else none
def eqD (a b : D) : Option Va := (eqB a b).map fun r => .fz (.bool r)
def neD (a b : D) : Option Va := (eqB a b).map fun r => .fz (.bool (!r))
def rEqA (K : PySem.W.Frag) : R2 := fun x y H Q => rEq x y H Q ∨ rEqD K x y H Q
def rNeA (K : PySem.W.Frag) : R2 := fun x y H Q => rNe x y H Q ∨ rNeD K x y H Q
theorem op_eqS (hu : X.A.units + 64 < cLine) : OpR X (compareOp .Eq) (rEqA X.K) := op_eq.or (op_eqD hu)
theorem op_neS (hu : X.A.units + 64 < cLine) : OpR X (compareOp .NotEq) (rNeA X.K) := op_ne.or (op_neD hu)
theorem r_eq : R2D K eqD (rEqA K) := by
  intro F σ H e x y a b va Q g ra rb h k
  obtain ⟨r, h', rfl⟩ := Option.map_eq_some_iff.mp h
  clear h
  have h := h'
  unfold eqB at h
  split at h
  · cases h
    rename_i z
    obtain ⟨h1, h2⟩ := scD_ok ra rb z
    exact .inl ⟨h1, by rw [h2]; exact k.sub g (.bl _)⟩
  · split at h
    · cases h
      rename_i z
      exact .inr ⟨a, b, ra.dp, rb.dp, z.1, z.2, k.sub g (.bl _)⟩
    · cases h
theorem r_ne : R2D K neD (rNeA K) := by
  intro F σ H e x y a b va Q g ra rb h k
  obtain ⟨r, h', rfl⟩ := Option.map_eq_some_iff.mp h
  clear h
  have h := h'
  unfold eqB at h
  split at h
  · cases h
    rename_i z
    obtain ⟨h1, h2⟩ := scD_ok ra rb z
    exact .inl ⟨h1, by rw [h2]; exact k.sub g (.bl _)⟩
  · split at h
    · cases h
      rename_i z
      exact .inr ⟨a, b, ra.dp, rb.dp, z.1, z.2, k.sub g (.bl _)⟩
    · cases h

/-! ### < <= > >= -/
def ordD (fi : Int → Int → Bool) (fs : List Nat → List Nat → Bool) : D → D → Option Va
  | .int i, .int j => some (.fz (.bool (fi i j)))
  | .str a, .str b => some (.fz (.bool (fs a.cps.toList b.cps.toList)))
  | _, _ => none
def rOrd (fi : Int → Int → Bool) (fs : List Nat → List Nat → Bool) : R2 := fun x y H Q => rI0 (fun i j => .bl (fi i j)) x y H Q ∨ ∃ i j, x = .str i ∧ y = .str j ∧ Q (.bl (fs i.cps.toList j.cps.toList)) H
theorem r_ord {fi : Int → Int → Bool} {fs : List Nat → List Nat → Bool} : R2D K (ordD fi fs) (rOrd fi fs) := by
  intro F σ H e x y a b va Q g ra rb h k
  unfold ordD at h
  split at h
  · cases h
    exact .inl ⟨_, _, ra.int, rb.int, k.sub g (.bl _)⟩
  · cases h
    exact .inr ⟨_, _, ra.str.1, rb.str.1, k.sub g (.bl _)⟩
  · cases h
def ltD : D → D → Option Va := ordD (fun i j => decide (i < j)) (fun a b => decide (a < b))
def leD : D → D → Option Va := ordD (fun i j => decide (i ≤ j)) (fun a b => !decide (b < a))
def gtD : D → D → Option Va := ordD (fun i j => decide (i > j)) (fun a b => decide (b < a))
def geD : D → D → Option Va := ordD (fun i j => decide (i ≥ j)) (fun a b => !decide (a < b))
theorem op_ltD : OpR X (compareOp .Lt) (rOrd (fun i j => decide (i < j)) (fun a b => decide (a < b))) := op_lt.or op_lt_str
theorem op_leD : OpR X (compareOp .LtE) (rOrd (fun i j => decide (i ≤ j)) (fun a b => !decide (b < a))) := op_le.or op_le_str
theorem op_gtD : OpR X (compareOp .Gt) (rOrd (fun i j => decide (i > j)) (fun a b => decide (b < a))) := op_gt.or op_gt_str
theorem op_geD : OpR X (compareOp .GtE) (rOrd (fun i j => decide (i ≥ j)) (fun a b => !decide (a < b))) := op_ge.or op_ge_str

/-! ### in, not in -/
def inS (x y : Str) : Bool := match x.cps.toList with
  | [c] => decide (c ∈ y.cps.toList)
  | _ => !(Builtin.Str.occurrences y x 0 y.length 1).isEmpty
def inB : D → D → Option Bool
  | .str x, .str y => some (inS x y)
  | d, .list ds => if SeqAt.shaped d = true ∧ SeqAt.shaped (.list ds) = true then some (ds.any fun z => PyData.eqv z d) else none
  | d, .tuple ds => if SeqAt.shaped d = true ∧ SeqAt.shaped (.tuple ds) = true then some (ds.any fun z => PyData.eqv z d) else none
  | _, _ => none
def inD (a b : D) : Option Va := (inB a b).map fun r => .fz (.bool r)
def niD (a b : D) : Option Va := (inB a b).map fun r => .fz (.bool (!r))
def rInA (K : PySem.W.Frag) : R2 := fun x y H Q => (((∃ (c : Nat) (z : Str), x = .str ⟨#[c]⟩ ∧ y = .str z ∧ Q (.bl (decide (c ∈ z.cps.toList))) H) ∨ ∃ i j, x = .str i ∧ y = .str j ∧ Q (.bl (!(Builtin.Str.occurrences j i 0 j.length 1).isEmpty)) H) ∨ rInD K x y H Q) ∨ rInT K x y H Q
theorem op_ins (hu : X.A.units + 65 < cLine) : OpR X (compareOp .In) (rInA X.K) := ((op_in_sign.or op_in_str).or (op_inD hu)).or (op_inT hu)
def rNiA (K : PySem.W.Frag) : R2 := fun x y H Q => (((∃ (c : Nat) (z : Str), x = .str ⟨#[c]⟩ ∧ y = .str z ∧ Q (.bl (!decide (c ∈ z.cps.toList))) H) ∨ ∃ i j, x = .str i ∧ y = .str j ∧ Q (.bl (!(!(Builtin.Str.occurrences j i 0 j.length 1).isEmpty))) H) ∨ rNotInD K x y H Q) ∨ rNotInT K x y H Q
theorem op_nis (hu : X.A.units + 65 < cLine) : OpR X (compareOp .NotIn) (rNiA X.K) := ((op_notIn_sign.or op_notIn_str).or (op_notInD hu)).or (op_notInT hu)
theorem r_in : R2D K inD (rInA K) := by
  intro F σ H e x y a b va Q g ra rb h k
  obtain ⟨r, h', rfl⟩ := Option.map_eq_some_iff.mp h
  clear h
  have h := h'
  unfold inB at h
  split at h
  · cases h
    rename_i x' y'
    replace k : Q (.bl (inS x' y')) H := k.sub g (.bl _)
    unfold inS at k
    split at k
    · rename_i c z
      refine .inl (.inl (.inl ⟨c, y', ?_, rb.str.1, k⟩))
      rw [ra.str.1]
      obtain ⟨w⟩ := x'
      have : w = #[c] := Array.toList_inj.mp z
      rw [this]
    · exact .inl (.inl (.inr ⟨_, _, ra.str.1, rb.str.1, k⟩))
  · split at h
    · cases h
      rename_i z
      exact .inl (.inr ⟨_, _, ra.dp, rb.dp, z.1, z.2, k.sub g (.bl _)⟩)
    · cases h
  · split at h
    · cases h
      rename_i z
      exact .inr ⟨_, _, ra.dp, rb.dp, z.1, z.2, k.sub g (.bl _)⟩
    · cases h
  · cases h
theorem r_ni : R2D K niD (rNiA K) := by
  intro F σ H e x y a b va Q g ra rb h k
  obtain ⟨r, h', rfl⟩ := Option.map_eq_some_iff.mp h
  clear h
  have h := h'
  unfold inB at h
  split at h
  · cases h
    rename_i x' y'
    replace k : Q (.bl (!inS x' y')) H := k.sub g (.bl _)
    unfold inS at k
    split at k
    · rename_i c z
      refine .inl (.inl (.inl ⟨c, y', ?_, rb.str.1, k⟩))
      rw [ra.str.1]
      obtain ⟨w⟩ := x'
      have : w = #[c] := Array.toList_inj.mp z
      rw [this]
    · exact .inl (.inl (.inr ⟨_, _, ra.str.1, rb.str.1, k⟩))
  · split at h
    · cases h
      rename_i z
      exact .inl (.inr ⟨_, _, ra.dp, rb.dp, z.1, z.2, k.sub g (.bl _)⟩)
    · cases h
  · split at h
    · cases h
      rename_i z
      exact .inr ⟨_, _, ra.dp, rb.dp, z.1, z.2, k.sub g (.bl _)⟩
    · cases h
  · cases h

/-! ### is, is not -/
def isNon : D → Bool
  | .none => true
  | _ => false
theorem isNon_ok {F : Fz} {H : Hp} {x : V} {a : D} (ra : DR K F H x a) : decide (x = .non) = isNon a := by
  cases a with
  | none => rw [ra.non]; simp [isNon]
  | bool b => rw [ra.bl]; simp [isNon]
  | int b => rw [ra.int]; simp [isNon]
  | str b => rw [ra.str.1]; simp [isNon]
  | list b => obtain ⟨p, xs, rfl, _, _⟩ := ra.lst; simp [isNon]
  | tuple b => obtain ⟨p, xs, rfl, _, _⟩ := ra.tup; simp [isNon]
  | dict b => exact ra.nodict.elim
def isB : D → D → Option Bool
  | a, .none => some (isNon a)
  | .bool a, .bool b => some (a == b)
  | _, _ => none
def isD (a b : D) : Option Va := (isB a b).map fun r => .fz (.bool r)
def isntD (a b : D) : Option Va := (isB a b).map fun r => .fz (.bool (!r))
def rIsA : R2 := fun x y H Q => (y = .non ∧ Q (.bl (decide (x = .non))) H) ∨ rIsB x y H Q
theorem op_isD : OpR X (compareOp .Is) (rIsA) := op_isN.or op_isBl
def rIsntA : R2 := fun x y H Q => (y = .non ∧ Q (.bl (!decide (x = .non))) H) ∨ rNotB x y H Q
theorem op_isntD : OpR X (compareOp .IsNot) (rIsntA) := op_notN.or op_notBl
theorem r_is : R2D K isD (rIsA) := by
  intro F σ H e x y a b va Q g ra rb h k
  obtain ⟨r, h', rfl⟩ := Option.map_eq_some_iff.mp h
  clear h
  have h := h'
  unfold isB at h
  split at h
  · cases h
    exact .inl ⟨rb.non, by rw [isNon_ok ra]; exact k.sub g (.bl _)⟩
  · cases h
    exact .inr ⟨_, _, ra.bl, rb.bl, by
      rename_i p q
      have : decide (p = q) = (p == q) := by cases p <;> cases q <;> rfl
      rw [this]; exact k.sub g (.bl _)⟩
  · cases h
theorem r_isnt : R2D K isntD (rIsntA) := by
  intro F σ H e x y a b va Q g ra rb h k
  obtain ⟨r, h', rfl⟩ := Option.map_eq_some_iff.mp h
  clear h
  have h := h'
  unfold isB at h
  split at h
  · cases h
    exact .inl ⟨rb.non, by rw [isNon_ok ra]; exact k.sub g (.bl _)⟩
  · cases h
    exact .inr ⟨_, _, ra.bl, rb.bl, by
      rename_i p q
      have : decide (p = q) = (p == q) := by cases p <;> cases q <;> rfl
      rw [this]; exact k.sub g (.bl _)⟩
  · cases h

/-! ### subscripts -/
def ixD : D → D → Option Va
  | .list ds, .int i => (atI ds i).map .fz
  | .tuple ds, .int i => (atI ds i).map .fz
  | .str z, .int i => (atI z.cps.toList i).map fun c => .fz (.str ⟨#[c]⟩)
  | _, _ => none
theorem atI_dfs {F : Fz} {H : Hp} {vs : List V} {ds : List D} {i : Int} {d : D} (h : DFs K F H vs ds) (q : atI ds i = some d) : ∃ v, atI vs i = some v ∧ DF K F H v d := by
  unfold atI at q ⊢
  rw [h.length]
  cases z : ixN ds.length i with
  | none => rw [z] at q; cases q
  | some j =>
    rw [z] at q
    exact h.get (i := j) q
theorem r_ix : R2D K ixD (rIx K) := by
  intro F σ H e x y a b va Q g ra rb h k
  unfold ixD at h
  split at h
  · obtain ⟨d, h', rfl⟩ := Option.map_eq_some_iff.mp h
    clear h
    have h := h'
    obtain ⟨p, xs, rfl, hx, hxs⟩ := ra.lst
    obtain ⟨v, h1, h2⟩ := atI_dfs hxs h
    exact .inl ⟨p, xs, _, v, rfl, rb.int, hx, h1, k.sub g h2⟩
  · obtain ⟨d, h', rfl⟩ := Option.map_eq_some_iff.mp h
    clear h
    have h := h'
    obtain ⟨p, xs, rfl, hx, hxs⟩ := ra.tup
    obtain ⟨v, h1, h2⟩ := atI_dfs hxs h
    exact .inr (.inl ⟨p, xs, _, v, rfl, rb.int, hx, h1, k.sub g h2⟩)
  · obtain ⟨d, h', rfl⟩ := Option.map_eq_some_iff.mp h
    clear h
    have h := h'
    exact .inr (.inr ⟨_, _, d, ra.str.1, rb.int, ra.str.2, h, k.sub g (.str _ (by rw [sizeLine_eq]; show 1 ≤ _; omega))⟩)
  · cases h

/-! ### slices -/
def cutL {α : Type} (xs : List α) (lo hi : Option Int) : List α := (xs.drop (HT.sIx xs.length 0 lo)).take (HT.sIx xs.length xs.length hi - HT.sIx xs.length 0 lo)
def cutD : D → Option Int → Option Int → Option Va
  | .str z, lo, hi => some (.fz (.str (cutS z lo hi)))
  | .list ds, lo, hi => some (.fr (.list (cutL ds lo hi)))
  | .tuple ds, lo, hi => some (.fz (.tuple (cutL ds lo hi)))
  | _, _, _ => none
theorem cutL_dfs {F : Fz} {H : Hp} {vs : List V} {ds : List D} (lo hi : Option Int) (h : DFs K F H vs ds) : DFs K F H (cutV vs lo hi) (cutL ds lo hi) := by
  unfold cutV cutL
  rw [h.length]
  exact (h.drop _).take _
theorem cutS_len (z : Str) (lo hi : Option Int) : (cutS z lo hi).length ≤ z.length := by
  show Array.size _ ≤ Array.size _
  unfold cutS
  rw [List.size_toArray, List.length_take, List.length_drop, Array.length_toList]
  omega
def rCut (K : PySem.W.Frag) : V → Option Int → Option Int → Hp → VK → Prop := fun x lo hi H Q => (rSlS x lo hi H Q ∨ rSlL K x lo hi H Q) ∨ rSlA K x lo hi H Q
theorem op_cut : SlR X (rCut X.K) := (sl_str.or sl_list).or sl_tupA
theorem r_cut : RSD K cutD (rCut K) := by
  intro F σ H e x d lo hi va Q g ra h k
  unfold cutD at h
  split at h
  · cases h
    exact .inl (.inl ⟨_, ra.str.1, ra.str.2, k.sub g (.str _ (Nat.le_trans (cutS_len _ _ _) ra.str.2))⟩)
  · cases h
    obtain ⟨p, xs, rfl, hx, hxs⟩ := ra.lst
    exact .inl (.inr ⟨p, xs, rfl, hx, fun p hp => k.lst g (cutL_dfs _ _ hxs) hp⟩)
  · cases h
    obtain ⟨p, xs, rfl, hx, hxs⟩ := ra.tup
    refine .inr ⟨p, xs, rfl, hx, fun z => ?_, fun z p hp => k.tup g (cutL_dfs _ _ hxs) hp⟩
    refine k.sub g ?_
    rename_i ds
    have : cutL ds lo hi = ds := by
      unfold cutL
      rw [← hxs.length, z.1, z.2]
      simp [hxs.length]
    rw [this]
    rcases ra with rb | ⟨a, ds', vs, e0, z, h1, h2⟩
    · exact rb
    · cases z
  · cases h

/-! ### - x, x[::-1], [..] * n -/
def unF (g : D → Option Va) (f : FE) : FE := fun e => (f e).bind fun r => (rd r.2 r.1).bind fun a => (g a).map fun v => (v, r.2)
def negD : D → Option Va
  | .int i => some (.fz (.int (-i)))
  | _ => none
variable {ex ex2 : Expr} {f f2 : FE} {pos : Pos}
theorem ev_neg (h : EvE X ex f) : EvE X (.UnaryOp .USub ex pos) (unF negD f) := by
  refine PEimp (pe_un un_neg h) fun σ H Q z => ?_
  obtain ⟨F, e, va, e', gd, h, k⟩ := z
  obtain ⟨⟨v, e1⟩, h1, h⟩ := Option.bind_eq_some_iff.mp h
  obtain ⟨d, h2, h⟩ := Option.bind_eq_some_iff.mp h
  obtain ⟨w, h3, h⟩ := Option.map_eq_some_iff.mp h
  cases h
  refine ⟨F, e, v, e1, gd, h1, fun F1 H1 x g1 s1 r1 n1 => ?_⟩
  unfold negD at h3
  split at h3
  · cases h3
    exact ⟨_, (r1.dr g1 h2).int, (k.later s1).sub g1 (.int _)⟩
  · cases h3
def revD : D → Option Va
  | .list ds => some (.fr (.list ds.reverse))
  | _ => none
theorem ev_revL {k : Nat} {p1 p2 p3 : Pos} (h : EvE X ex f) : EvE X (.Subscript ex (.Slice none none (some (.UnaryOp .USub (.Constant (.int 1) k p1) p2)) p3) pos) (unF revD f) := by
  refine PEimp (pe_revL h) fun σ H Q z => ?_
  obtain ⟨F, e, va, e', gd, h, k⟩ := z
  obtain ⟨⟨v, e1⟩, h1, h⟩ := Option.bind_eq_some_iff.mp h
  obtain ⟨d, h2, h⟩ := Option.bind_eq_some_iff.mp h
  obtain ⟨w, h3, h⟩ := Option.map_eq_some_iff.mp h
  cases h
  refine ⟨F, e, v, e1, gd, h1, fun F1 H1 x g1 s1 r1 n1 => ?_⟩
  unfold revD at h3
  split at h3
  · cases h3
    obtain ⟨p, xs, rfl, hx, hxs⟩ := (r1.dr g1 h2).lst
    exact ⟨p, xs, rfl, hx, fun p hp => (k.later s1).lst g1 hxs.reverse hp⟩
  · cases h3
/-- a new list times an int -/
def repF (fa fb : FE) : FE := fun e => (fa e).bind fun r1 => match r1.1 with
  | .fr (.list ds) => (fb r1.2).bind fun r2 => match r2.1 with
    | .fz (.int k) => if -(2 ^ 63) ≤ k ∧ k < 2 ^ 63 ∧ ds.length * k.toNat ≤ sizeLine then some (.fr (.list (List.replicate k.toNat ds).flatten), r2.2) else none
    | _ => none
  | _ => none
theorem DFs.flat {F : Fz} {H : Hp} {vs : List V} {ds : List D} (h : DFs K F H vs ds) : ∀ n : Nat, DFs K F H (List.replicate n vs).flatten (List.replicate n ds).flatten
  | 0 => .nil
  | n + 1 => by
    rw [List.replicate_succ, List.replicate_succ, List.flatten_cons, List.flatten_cons]
    exact h.append (DFs.flat h n)
theorem ev_rep (ha : EvE X ex f) (hb : EvE X ex2 f2) : EvE X (.BinOp ex .Mult ex2 pos) (repF f f2) := by
  refine PEimp (pe_op op_rep ha hb) fun σ H Q z => ?_
  obtain ⟨F, e, va, e', gd, h, k⟩ := z
  obtain ⟨⟨v, e1⟩, h1, h⟩ := Option.bind_eq_some_iff.mp h
  dsimp only at h
  split at h
  · obtain ⟨⟨v2, e2⟩, h2, h⟩ := Option.bind_eq_some_iff.mp h
    dsimp only at h
    split at h
    · split at h
      · rename_i z
        cases h
        refine ⟨F, e, _, e1, gd, h1, fun F1 H1 x g1 s1 r1 n1 => ⟨F1, e1, _, _, g1, h2, fun F2 H2 y g2 s2 r2 n2 => ?_⟩⟩
        obtain ⟨a, rfl, ow, _⟩ := r1.step g1 s2
        obtain ⟨ds, vs, q0, q1, q2⟩ := ow.ex
        cases q0
        refine ⟨a, _, vs, rfl, DR.int (.inl r2), q1, z.1, z.2.1, by rw [q2.length]; exact z.2.2, fun p hp => (k.later (s1.trans s2)).lst g2 (q2.flat _) hp⟩
      · cases h
    · cases h
  · cases h
end
end
end Sh
end Sh9__
section Sh10__
set_option Elab.async false
set_option linter.all false
set_option autoImplicit false
set_option maxRecDepth 100000
set_option maxHeartbeats 4000000
/-! Sh10: built-ins and methods of built-in types, by data. -/
namespace Sh
open PySem L2

/-! ### repr -/
mutual
theorem DF.nd {K : PySem.W.Frag} {F : Fz} {H : Hp} : ∀ {v : V} {d : D}, DF K F H v d → d.hasDict = false
  | _, _, .non => by simp only [PyData.hasDict]
  | _, _, .bl _ => by simp only [PyData.hasDict]
  | _, _, .int _ => by simp only [PyData.hasDict]
  | _, _, .str _ _ => by simp only [PyData.hasDict]
  | _, _, .lst _ h => by simp only [PyData.hasDict]; exact DFs.nd h
  | _, _, .tup _ h => by simp only [PyData.hasDict]; exact DFs.nd h
theorem DFs.nd {K : PySem.W.Frag} {F : Fz} {H : Hp} : ∀ {vs : List V} {ds : List D}, DFs K F H vs ds → PyData.hasDictAll ds = false
  | _, _, .nil => by simp only [PyData.hasDictAll]
  | _, _, .cons a b => by
    simp only [PyData.hasDictAll]
    rw [DF.nd a, DFs.nd b]
    rfl
end
theorem DR.nd {K : PySem.W.Frag} {F : Fz} {H : Hp} {v : V} {d : D} (h : DR K F H v d) : d.hasDict = false := by
  rcases h with h | ⟨a, ds, vs, rfl, rfl, _, h⟩
  · exact h.nd
  · simp only [PyData.hasDict]; exact h.nd
section
variable {X : Cx} {K : PySem.W.Frag}
def rRepr (K : PySem.W.Frag) : List V → Hp → VK → Prop := fun xs H Q => ∃ x d, xs = [x] ∧ Dp K H x d ∧ d.showable = true ∧ d.hasDict = false ∧ d.depth ≤ 60 ∧ d.shown.length ≤ sizeLine ∧ Q (.str d.shown) H
theorem call_repr {k : Nat} (hr : Rm k X.A) : CallR X (.builtin "repr") (rRepr X.K) := by
  intro pins s σ H xs us Q I r h
  obtain ⟨x, d, rfl, hd, h1, h2, h3, h4, q⟩ := h
  cases r with
  | cons r0 rt =>
    cases rt
    cases hd with
    | non => cases r0; exact PySem.P.repr_of_none ⟨.str _, H, I.tok _, ⟨_, rfl⟩, q⟩
    | bl b => cases r0; exact PySem.P.repr_of_bool ⟨.str _, H, I.tok _, ⟨_, rfl⟩, q⟩
    | int i => obtain ⟨t, rfl⟩ := r0; exact PySem.P.repr_of_int (of_decide_eq_true h1) ⟨.str _, H, I.tok _, ⟨_, rfl⟩, q⟩
    | str z => obtain ⟨t, rfl⟩ := r0; exact PySem.P.repr_of_str ⟨.str _, H, I.tok _, ⟨_, rfl⟩, q⟩ h4
    | lst a b =>
      cases r0
      obtain ⟨as, rd⟩ := Dp.reads I _ _ _ (.lst a b) rfl
      exact repr_of_reads' rd h1 (fun z => by rw [h2] at z; cases z) hr.grd (by have := hr.room.un; omega) (fun b o z => z) (fun h' u tk k => ⟨.str _, H, I.kept k, ⟨_, rfl⟩, q⟩) h4
    | tup a b =>
      cases r0
      obtain ⟨as, rd⟩ := Dp.reads I _ _ _ (.tup a b) rfl
      exact repr_of_reads' rd h1 (fun z => by rw [h2] at z; cases z) hr.grd (by have := hr.room.un; omega) (fun b o z => z) (fun h' u tk k => ⟨.str _, H, I.kept k, ⟨_, rfl⟩, q⟩) h4
def reprG : List D → Option Va
  | [d] => if d.showable = true ∧ d.depth ≤ 60 ∧ d.shown.length ≤ sizeLine then some (.fz (.str d.shown)) else none
  | _ => none
theorem c_repr : RCD K reprG (rRepr K) := by
  intro F σ H e xs ds va Q g hx h k
  unfold reprG at h
  split at h
  · split at h
    · rename_i z
      cases h
      obtain ⟨v, rfl, r⟩ := DRs.one hx
      exact ⟨v, _, rfl, r.dp, z.1, r.nd, z.2.1, z.2.2, k.sub g (.str _ z.2.2)⟩
    · cases h
  · cases h

/-! ### len, int, str, ord, abs, max, min, divmod -/
def lenG : List D → Option Va
  | [.str z] => some (.fz (.int z.length))
  | [.list ds] => some (.fz (.int ds.length))
  | [.tuple ds] => some (.fz (.int ds.length))
  | _ => none
def rLenV (K : PySem.W.Frag) : List V → Hp → VK → Prop := fun xs H Q => ∃ x n, xs = [x] ∧ LenV K x H n ∧ Q (.int n) H
theorem call_lenV : CallR X (.builtin "len") (rLenV X.K) := call_len
theorem c_len : RCD K lenG (rLenV K) := by
  intro F σ H e xs ds va Q g hx h k
  unfold lenG at h
  split at h
  · cases h
    obtain ⟨v, rfl, r⟩ := DRs.one hx
    exact ⟨_, _, rfl, by rw [r.str.1]; exact ⟨r.str.2, rfl⟩, k.sub g (.int _)⟩
  · cases h
    obtain ⟨v, rfl, r⟩ := DRs.one hx
    obtain ⟨a, vs, rfl, h1, h2⟩ := r.lst
    exact ⟨_, _, rfl, .inl ⟨vs, h1, h2.length.symm⟩, k.sub g (.int _)⟩
  · cases h
    obtain ⟨v, rfl, r⟩ := DRs.one hx
    obtain ⟨a, vs, rfl, h1, h2⟩ := r.tup
    exact ⟨_, _, rfl, .inr ⟨vs, h1, h2.length.symm⟩, k.sub g (.int _)⟩
  · cases h
def intG : List D → Option Va
  | [.int i] => some (.fz (.int i))
  | [.bool b] => some (.fz (.int (if b then 1 else 0)))
  | [.str z] => if z.length ≤ 640 then (PySem.intText? z).map fun n => .fz (.int n) else none
  | _ => none
def rIntV : List V → Hp → VK → Prop := fun xs H Q => ((∃ i, xs = [.int i] ∧ Q (.int i) H) ∨ ∃ k, xs = [.bl k] ∧ Q (.int (if k then 1 else 0)) H) ∨ ∃ a n, xs = [.str a] ∧ PySem.intText? a = some n ∧ a.length ≤ 640 ∧ Q (.int n) H
theorem call_intV : CallR X (.type "int") rIntV := L2.CallR.or call_int1 call_int_str
theorem c_int : RCD K intG rIntV := by
  intro F σ H e xs ds va Q g hx h k
  unfold intG at h
  split at h
  · cases h
    obtain ⟨v, rfl, r⟩ := DRs.one hx
    exact .inl (.inl ⟨_, by rw [r.int], k.sub g (.int _)⟩)
  · cases h
    obtain ⟨v, rfl, r⟩ := DRs.one hx
    exact .inl (.inr ⟨_, by rw [r.bl], k.sub g (.int _)⟩)
  · split at h
    · obtain ⟨n, h', rfl⟩ := Option.map_eq_some_iff.mp h
      obtain ⟨v, rfl, r⟩ := DRs.one hx
      exact .inr ⟨_, n, by rw [r.str.1], h', by assumption, k.sub g (.int _)⟩
    · cases h
  · cases h
def strG : List D → Option Va
  | [.int i] => if i.natAbs.log2 < 1920 then some (.fz (.str (toString i))) else none
  | [.str z] => some (.fz (.str z))
  | _ => none
def rStrV : List V → Hp → VK → Prop := fun xs H Q => (∃ i, xs = [.int i] ∧ i.natAbs.log2 < 1920 ∧ Q (.str (toString i)) H) ∨ ∃ a, xs = [.str a] ∧ Q (.str a) H
theorem call_strV : CallR X (.type "str") rStrV := L2.CallR.or call_str_int SkE.call_str_str
theorem c_str : RCD K strG rStrV := by
  intro F σ H e xs ds va Q g hx h k
  unfold strG at h
  split at h
  · split at h
    · rename_i z
      cases h
      obtain ⟨v, rfl, r⟩ := DRs.one hx
      exact .inl ⟨_, by rw [r.int], z, k.sub g (.str _ (int_text_fits z))⟩
    · cases h
  · cases h
    obtain ⟨v, rfl, r⟩ := DRs.one hx
    exact .inr ⟨_, by rw [r.str.1], k.sub g (.str _ r.str.2)⟩
  · cases h
def ordG : List D → Option Va
  | [.str z] => if z.length = 1 then some (.fz (.int (z.cps.getD 0 0 : Nat))) else none
  | _ => none
def rOrdV : List V → Hp → VK → Prop := fun xs H Q => ∃ x, xs = [.str x] ∧ x.length = 1 ∧ Q (.int (x.cps.getD 0 0 : Nat)) H
theorem call_ordV : CallR X (.builtin "ord") rOrdV := call_ord
theorem c_ord : RCD K ordG rOrdV := by
  intro F σ H e xs ds va Q g hx h k
  unfold ordG at h
  split at h
  · split at h
    · rename_i z
      cases h
      obtain ⟨v, rfl, r⟩ := DRs.one hx
      exact ⟨_, by rw [r.str.1], z, k.sub g (.int _)⟩
    · cases h
  · cases h
def absG : List D → Option Va
  | [.int i] => some (.fz (.int (if i < 0 then -i else i)))
  | _ => none
def rAbsV : List V → Hp → VK → Prop := fun xs H Q => ∃ i, xs = [.int i] ∧ Q (.int (if i < 0 then -i else i)) H
theorem call_absV : CallR X (.builtin "abs") rAbsV := call_abs
theorem c_abs : RCD K absG rAbsV := by
  intro F σ H e xs ds va Q g hx h k
  unfold absG at h
  split at h
  · cases h
    obtain ⟨v, rfl, r⟩ := DRs.one hx
    exact ⟨_, by rw [r.int], k.sub g (.int _)⟩
  · cases h
def intsD : List D → Option (List Int)
  | [] => some []
  | .int i :: ds => (intsD ds).map (i :: ·)
  | _ => none
theorem intsD_ok {F : Fz} {H : Hp} : ∀ {ds : List D} {vs : List V} {ns : List Int}, DFs K F H vs ds → intsD ds = some ns → vs = ns.map V.int
  | [], _, _, .nil, h => by cases h; rfl
  | d :: ds, _, ns, .cons a b, h => by
    unfold intsD at h
    split at h
    · rename_i q; cases q
    · rename_i i ds' q
      cases q
      obtain ⟨ms, h', rfl⟩ := Option.map_eq_some_iff.mp h
      cases a
      rw [intsD_ok b h']
      rfl
    · cases h
theorem intsD_map (ns : List Int) : intsD (ns.map .int) = some ns := by
  induction ns with
  | nil => rfl
  | cons i ns ih =>
    show (intsD (ns.map .int)).map (i :: ·) = _
    rw [ih]; rfl
theorem intsD_eq : ∀ {ds : List D} {ns : List Int}, intsD ds = some ns → ds = ns.map .int
  | [], ns, h => by cases h; rfl
  | d :: ds, ns, h => by
    unfold intsD at h
    split at h
    · rename_i q; cases q
    · rename_i i ds' q
      cases q
      obtain ⟨ms, h', rfl⟩ := Option.map_eq_some_iff.mp h
      rw [intsD_eq h']
      rfl
    · cases h
/-- the greatest, the least -/
def maxL : List Int → Option Int
  | [] => none
  | i :: r => some (r.foldl max i)
def minL : List Int → Option Int
  | [] => none
  | i :: r => some (r.foldl min i)
theorem foldl_max_ge : ∀ (r : List Int) (i : Int), i ≤ r.foldl max i ∧ (∀ y ∈ r, y ≤ r.foldl max i) ∧ (r.foldl max i = i ∨ r.foldl max i ∈ r)
  | [], i => ⟨Int.le_refl _, fun y h => by simp at h, .inl rfl⟩
  | x :: r, i => by
    obtain ⟨h1, h2, h3⟩ := foldl_max_ge r (max i x)
    rw [List.foldl_cons]
    refine ⟨by omega, fun y h => ?_, ?_⟩
    · rcases List.mem_cons.mp h with h | h
      · subst h; omega
      · exact h2 y h
    · rcases h3 with h3 | h3
      · rw [h3]
        rcases Int.le_total i x with q | q
        · right; rw [Int.max_eq_right q]; exact List.mem_cons_self ..
        · left; exact Int.max_eq_left q
      · exact .inr (List.mem_cons_of_mem _ h3)
theorem foldl_min_le : ∀ (r : List Int) (i : Int), r.foldl min i ≤ i ∧ (∀ y ∈ r, r.foldl min i ≤ y) ∧ (r.foldl min i = i ∨ r.foldl min i ∈ r)
  | [], i => ⟨Int.le_refl _, fun y h => by simp at h, .inl rfl⟩
  | x :: r, i => by
    obtain ⟨h1, h2, h3⟩ := foldl_min_le r (min i x)
    rw [List.foldl_cons]
    refine ⟨by omega, fun y h => ?_, ?_⟩
    · rcases List.mem_cons.mp h with h | h
      · subst h; omega
      · exact h2 y h
    · rcases h3 with h3 | h3
      · rw [h3]
        rcases Int.le_total i x with q | q
        · left; exact Int.min_eq_left q
        · right; rw [Int.min_eq_right q]; exact List.mem_cons_self ..
      · exact .inr (List.mem_cons_of_mem _ h3)
def maxG : List D → Option Va
  | [.int i, .int j] => some (.fz (.int (if j > i then j else i)))
  | [.list ds] => (intsD ds).bind fun ns => (maxL ns).map fun m => .fz (.int m)
  | _ => none
def minG : List D → Option Va
  | [.int i, .int j] => some (.fz (.int (if j < i then j else i)))
  | [.list ds] => (intsD ds).bind fun ns => (minL ns).map fun m => .fz (.int m)
  | _ => none
def rMaxV (K : PySem.W.Frag) : List V → Hp → VK → Prop := fun xs H Q => (∃ i j, xs = [.int i, .int j] ∧ Q (.int (if j > i then j else i)) H) ∨ rMax K xs H Q
def rMinV (K : PySem.W.Frag) : List V → Hp → VK → Prop := fun xs H Q => (∃ i j, xs = [.int i, .int j] ∧ Q (.int (if j < i then j else i)) H) ∨ rMin K xs H Q
theorem call_maxV (hc : X.calm = true) : CallR X (.builtin "max") (rMaxV X.K) := L2.CallR.or (call_max2 hc) (cr_max hc)
theorem call_minV (hc : X.calm = true) : CallR X (.builtin "min") (rMinV X.K) := L2.CallR.or (call_min2 hc) (cr_min hc)
theorem c_max : RCD K maxG (rMaxV K) := by
  intro F σ H e xs ds va Q g hx h k
  unfold maxG at h
  split at h
  · cases h
    obtain ⟨v, w, rfl, r1, r2⟩ := DRs.two hx
    exact .inl ⟨_, _, by rw [r1.int, r2.int], k.sub g (.int _)⟩
  · obtain ⟨ns, h1, h2⟩ := Option.bind_eq_some_iff.mp h
    obtain ⟨m, h3, rfl⟩ := Option.map_eq_some_iff.mp h2
    obtain ⟨v, rfl, r⟩ := DRs.one hx
    obtain ⟨a, vs, rfl, h4, h5⟩ := r.lst
    have e1 := intsD_ok h5 h1
    subst e1
    cases ns with
    | nil => cases h3
    | cons i r0 =>
      cases h3
      obtain ⟨q1, q2, q3⟩ := foldl_max_ge r0 i
      refine .inr ⟨a, _, rfl, h4, by rw [List.length_cons]; omega, fun m hm hle => ?_⟩
      have : m = r0.foldl max i := by
        apply Int.le_antisymm
        · rcases List.mem_cons.mp hm with z | z
          · subst z; exact q1
          · exact q2 _ z
        · refine hle _ ?_
          rcases q3 with z | z
          · rw [z]; exact List.mem_cons_self ..
          · exact List.mem_cons_of_mem _ z
      subst this
      exact k.sub g (.int _)
  · cases h
theorem c_min : RCD K minG (rMinV K) := by
  intro F σ H e xs ds va Q g hx h k
  unfold minG at h
  split at h
  · cases h
    obtain ⟨v, w, rfl, r1, r2⟩ := DRs.two hx
    exact .inl ⟨_, _, by rw [r1.int, r2.int], k.sub g (.int _)⟩
  · obtain ⟨ns, h1, h2⟩ := Option.bind_eq_some_iff.mp h
    obtain ⟨m, h3, rfl⟩ := Option.map_eq_some_iff.mp h2
    obtain ⟨v, rfl, r⟩ := DRs.one hx
    obtain ⟨a, vs, rfl, h4, h5⟩ := r.lst
    have e1 := intsD_ok h5 h1
    subst e1
    cases ns with
    | nil => cases h3
    | cons i r0 =>
      cases h3
      obtain ⟨q1, q2, q3⟩ := foldl_min_le r0 i
      refine .inr ⟨a, _, rfl, h4, by rw [List.length_cons]; omega, fun m hm hle => ?_⟩
      have : m = r0.foldl min i := by
        apply Int.le_antisymm
        · refine hle _ ?_
          rcases q3 with z | z
          · rw [z]; exact List.mem_cons_self ..
          · exact List.mem_cons_of_mem _ z
        · rcases List.mem_cons.mp hm with z | z
          · subst z; exact q1
          · exact q2 _ z
      subst this
      exact k.sub g (.int _)
  · cases h
def sumG : List D → Option Va
  | [.list ds] => (intsD ds).map fun ns => .fz (.int ns.sum)
  | _ => none
theorem c_sum : RCD K sumG (rSum K) := by
  intro F σ H e xs ds va Q g hx h k
  unfold sumG at h
  split at h
  · obtain ⟨ns, h1, rfl⟩ := Option.map_eq_some_iff.mp h
    obtain ⟨v, rfl, r⟩ := DRs.one hx
    obtain ⟨a, vs, rfl, h4, h5⟩ := r.lst
    have e1 := intsD_ok h5 h1
    subst e1
    exact ⟨a, _, rfl, h4, k.sub g (.int _)⟩
  · cases h
def divmodG : List D → Option Va
  | [.int i, .int j] => if 0 < j ∧ j < 1073741824 then some (.fz (.tuple [.int (i / j), .int (i % j)])) else none
  | _ => none
def rDivmodV : List V → Hp → VK → Prop := fun xs H Q => ∃ i j, xs = [.int i, .int j] ∧ CDiv i j ∧ ∀ p, H p = none → Q (.ref p) (upd H p (.tup [.int (i / j), .int (i % j)]))
theorem call_divmodV : CallR X (.builtin "divmod") rDivmodV := call_divmod
theorem c_divmod : RCD K divmodG rDivmodV := by
  intro F σ H e xs ds va Q g hx h k
  unfold divmodG at h
  split at h
  · split at h
    · rename_i z
      cases h
      obtain ⟨v, w, rfl, r1, r2⟩ := DRs.two hx
      exact ⟨_, _, by rw [r1.int, r2.int], z, fun p hp => k.tup g (.cons (.int _) (.cons (.int _) .nil)) hp⟩
    · cases h
  · cases h

/-! ### all, any -/
def boolsD : List D → Option (List Bool)
  | [] => some []
  | .bool i :: ds => (boolsD ds).map (i :: ·)
  | _ => none
theorem boolsD_ok {F : Fz} {H : Hp} : ∀ {ds : List D} {vs : List V} {ns : List Bool}, DFs K F H vs ds → boolsD ds = some ns → vs = ns.map V.bl
  | [], _, _, .nil, h => by cases h; rfl
  | d :: ds, _, ns, .cons a b, h => by
    unfold boolsD at h
    split at h
    · rename_i q; cases q
    · rename_i i ds' q
      cases q
      obtain ⟨ms, h', rfl⟩ := Option.map_eq_some_iff.mp h
      cases a
      rw [boolsD_ok b h']
      rfl
    · cases h
theorem boolsD_map (ns : List Bool) : boolsD (ns.map .bool) = some ns := by
  induction ns with
  | nil => rfl
  | cons i ns ih =>
    show (boolsD (ns.map .bool)).map (i :: ·) = _
    rw [ih]; rfl
def allG : List D → Option Va
  | [.list ds] => (boolsD ds).map fun ns => .fz (.bool (ns.all id))
  | _ => none
def anyG : List D → Option Va
  | [.list ds] => (boolsD ds).map fun ns => .fz (.bool (ns.any id))
  | _ => none
theorem c_all : RCD K allG (rAll K) := by
  intro F σ H e xs ds va Q g hx h k
  unfold allG at h
  split at h
  · obtain ⟨ns, h1, rfl⟩ := Option.map_eq_some_iff.mp h
    obtain ⟨v, rfl, r⟩ := DRs.one hx
    obtain ⟨a, vs, rfl, h4, h5⟩ := r.lst
    have e1 := boolsD_ok h5 h1
    subst e1
    exact ⟨a, _, rfl, h4, k.sub g (.bl _)⟩
  · cases h
theorem c_any : RCD K anyG (rAny K) := by
  intro F σ H e xs ds va Q g hx h k
  unfold anyG at h
  split at h
  · obtain ⟨ns, h1, rfl⟩ := Option.map_eq_some_iff.mp h
    obtain ⟨v, rfl, r⟩ := DRs.one hx
    obtain ⟨a, vs, rfl, h4, h5⟩ := r.lst
    have e1 := boolsD_ok h5 h1
    subst e1
    exact ⟨a, _, rfl, h4, k.sub g (.bl _)⟩
  · cases h

/-! ### list(..), tuple(..) -/
def signsD (z : Str) : List D := z.cps.toList.map fun c => .str ⟨#[c]⟩
def rListStr : List V → Hp → VK → Prop := fun xs H Q => ∃ z, xs = [.str z] ∧ z.length ≤ sizeLine ∧ ∀ p, H p = none → Q (.ref p) (upd H p (.lst (z.cps.toList.map fun c => V.str ⟨#[c]⟩)))
theorem call_listStr (hc : X.calm = true) : CallR X (.type "list") rListStr := by
  intro pins s σ H xs us Q I r h
  obtain ⟨z, rfl, hz, q⟩ := h
  cases r with
  | cons r0 rt =>
    cases rt
    obtain ⟨t, rfl⟩ := r0
    refine call_list_str (I.ok.hd hc) z t (fun h' tk acc c kp ha hi => ?_) hz
    have hv : Vals (z.cps.toList.map fun c => V.str ⟨#[c]⟩) acc.toList := by
      refine vals_of_at ?_ fun j x u e1 e2 => ?_
      · rw [List.length_map, Array.length_toList, Array.length_toList, hi.1]
      · rw [Array.getElem?_toList] at e2
        obtain ⟨c, w, e3, rfl⟩ := hi.2 j u e2
        rw [List.getElem?_map, Array.getElem?_toList, e3] at e1
        cases e1
        exact ⟨w, rfl⟩
    refine ⟨.ref _, upd H s.heap.objs.size (.lst _), I.laid (t' := tk) kp (Nat.le_refl _) ⟨?_, acc.toList, c, hv, by simpa using ha⟩, rfl, q _ I.fresh⟩
    rw [List.length_map, Array.length_toList]
    exact hz
def listG : List D → Option Va
  | [.list ds] => some (.fr (.list ds))
  | [.tuple ds] => some (.fr (.list ds))
  | [.str z] => some (.fr (.list (signsD z)))
  | _ => none
def rListV (K : PySem.W.Frag) : List V → Hp → VK → Prop := fun xs H Q => (∃ p ys, xs = [.ref p] ∧ (SqL K H p ys ∨ SqT K H p ys) ∧ ∀ l, H l = none → Q (.ref l) (upd H l (.lst ys))) ∨ rListStr xs H Q
theorem call_listV (hc : X.calm = true) : CallR X (.type "list") (rListV X.K) := L2.CallR.or call_list_of (call_listStr hc)
theorem one_len (c : Nat) : (⟨#[c]⟩ : Str).length ≤ sizeLine := by rw [sizeLine_eq]; show 1 ≤ _; omega
theorem signs_dfs {F : Fz} {H : Hp} (l : List Nat) : DFs K F H (l.map fun c => V.str ⟨#[c]⟩) (l.map fun c => .str ⟨#[c]⟩) := by
  induction l with
  | nil => exact .nil
  | cons c l ih => exact .cons (.str _ (one_len c)) ih
theorem c_list : RCD K listG (rListV K) := by
  intro F σ H e xs ds va Q g hx h k
  unfold listG at h
  split at h
  · cases h
    obtain ⟨v, rfl, r⟩ := DRs.one hx
    obtain ⟨a, vs, rfl, h4, h5⟩ := r.lst
    exact .inl ⟨a, vs, rfl, .inl h4, fun p hp => k.lst g h5 hp⟩
  · cases h
    obtain ⟨v, rfl, r⟩ := DRs.one hx
    obtain ⟨a, vs, rfl, h4, h5⟩ := r.tup
    exact .inl ⟨a, vs, rfl, .inr h4, fun p hp => k.lst g h5 hp⟩
  · cases h
    obtain ⟨v, rfl, r⟩ := DRs.one hx
    exact .inr ⟨_, by rw [r.str.1], r.str.2, fun p hp => k.lst g (signs_dfs _) hp⟩
  · cases h
def tupleG : List D → Option Va
  | [.list ds] => some (.fz (.tuple ds))
  | [.tuple ds] => some (.fz (.tuple ds))
  | _ => none
def rTupV (K : PySem.W.Frag) : List V → Hp → VK → Prop := fun xs H Q => ∃ p ys, xs = [.ref p] ∧ ((SqL K H p ys ∧ ∀ l, H l = none → Q (.ref l) (upd H l (.tup ys))) ∨ (SqT K H p ys ∧ Q (.ref p) H))
theorem call_tupV : CallR X (.type "tuple") (rTupV X.K) := call_tuple_of
theorem c_tuple : RCD K tupleG (rTupV K) := by
  intro F σ H e xs ds va Q g hx h k
  unfold tupleG at h
  split at h
  · cases h
    obtain ⟨v, rfl, r⟩ := DRs.one hx
    obtain ⟨a, vs, rfl, h4, h5⟩ := r.lst
    exact ⟨a, vs, rfl, .inl ⟨h4, fun p hp => k.tup g h5 hp⟩⟩
  · cases h
    obtain ⟨v, rfl, r⟩ := DRs.one hx
    have r' := r
    obtain ⟨a, vs, rfl, h4, h5⟩ := r.tup
    refine ⟨a, vs, rfl, .inr ⟨h4, k.sub g ?_⟩⟩
    rcases r' with rb | ⟨a, ds', vs, e0, z, h1, h2⟩
    · exact rb
    · cases z
  · cases h
end
end Sh
end Sh10__
section Sh11__
set_option Elab.async false
set_option linter.all false
set_option autoImplicit false
set_option maxRecDepth 100000
set_option maxHeartbeats 4000000
/-! Sh11: enumerate of a text; isinstance; methods of texts; t.index; a written dict read; calls by keywords; x, y = a, b; text[::-1]; append, extend, pop. -/
namespace Sh
open PySem L2 PySem.Spec PyProof.Rows

/-! ### enumerate(text) -/
def Ies (z : Str) : It := ⟨fun i _ => i < z.cps.size, fun i H v H' => ∃ T c, v = .ref T ∧ H T = none ∧ H' = upd H T (.tup [.int (i : Nat), .str ⟨#[c]⟩]) ∧ z.cps[i]? = some c, fun i _ => i = z.cps.size⟩
theorem turn_enumS {P : Program} {w : World} {K : PySem.W.Frag} {elts : List Expr} {kk : Nat} {tpos : Pos} (z : Str) (t : Tok) (e it : Addr) (hne : e ≠ it) :
    Turn P w K (.Tuple elts kk tpos) (Ies z) [e, it] e (fun i h => (∃ old, IsEnum h e it (0 + (i : Int)) old) ∧ h.IsStrIter it (strIterType z) z t i) where
  mem := by simp
  obj := fun i h st b hb => by
    obtain ⟨⟨old, he⟩, ⟨o, ho, hc, hd⟩⟩ := st
    have e' : b = e ∨ b = it := by simpa using hb
    rcases e' with z | z
    · rw [z]; exact ⟨_, he, fun v q => nomatch q⟩
    · rw [z]; exact ⟨o, ho, fun v q => by rw [hd] at q; cases q⟩
  keep := fun i h h' st k => let ⟨⟨old, he⟩, ⟨o, ho, hc, hd⟩⟩ := st; ⟨⟨old, k e (by simp) _ he⟩, ⟨o, k it (by simp) o ho, hc, hd⟩⟩
  item := by
    intro X hP hw hK hc i pins s σ H E I hf st hg
    subst hP hw hK
    have W := GoesN.enumFrom (elts := elts) (x1 := kk) (pos := tpos) (A := X.A) 0 (Draws.text (A := X.A.in1) (prog := X.prog) (w := X.w) (I.ok.hd hc) it z t) e hne (by simp [hne]) (by simp)
    refine wpAny_mono (W.goes i s (fun v s2 => ∃ x H', Inv X pins σ H' s2 ∧ RelV x v ∧ (Ies z).yld i H x H' ∧ ((∃ old, IsEnum s2.heap e it (0 + ((i + 1 : Nat) : Int)) old) ∧ s2.heap.IsStrIter it (strIterType z) z t (i + 1)) ∧ ∀ b ∈ [e, it], H' b = none) E hg st ?_) (fun r s1 h => h) (fun _ _ h => h)
    intro v h' tk hY st' hk htk
    obtain ⟨T, t1, x, rfl, hT, ⟨c, u, hcu, rfl⟩, hTup⟩ := hY
    obtain ⟨o, ho, hcl, nn, hdt⟩ := hTup
    have new : ObjOk X.prog X.w (upd H T (.tup [.int (i : Nat), .str ⟨#[c]⟩])) h' T (.tup [.int (i : Nat), .str ⟨#[c]⟩]) :=
      ⟨by show 2 ≤ sizeLine; decide, [.int (0 + (i : Int)) t1, .str ⟨#[c]⟩ u], .cons ⟨t1, by rw [Int.zero_add]⟩ (.cons ⟨u, rfl⟩ .nil), ⟨o, ho, hcl, nn, by simpa using hdt⟩⟩
    have I1 : Inv X pins σ (upd H T (.tup [.int (i : Nat), .str ⟨#[c]⟩])) { s with heap := h', toks := tk } := I.turnedNew (ch := [e, it]) hk hf hT new
    refine ⟨.ref T, _, I1, rfl, ⟨T, c, rfl, I.hok.fresh hT, rfl, hcu⟩, st', fun b hb => ?_⟩
    have hlt : b < s.heap.objs.size := by
      have e' : b = e ∨ b = it := by simpa using hb
      obtain ⟨⟨old, he⟩, ⟨o, ho, _, _⟩⟩ := st
      rcases e' with z | z
      · rw [z]; exact Heap.lt_size he
      · rw [z]; exact Heap.lt_size ho
    rw [upd_ne (show b ≠ T from fun z => by rw [z] at hlt; exact absurd (Nat.lt_of_lt_of_le hlt hT) (Nat.lt_irrefl _))]
    exact (hf b hb).1
  done := by
    intro X hP hw hK hc i pins s σ H E I hf st hg
    subst hP hw hK
    have W := GoesN.enumFrom (elts := elts) (x1 := kk) (pos := tpos) (A := X.A) 0 (Draws.text (A := X.A.in1) (prog := X.prog) (w := X.w) (I.ok.hd hc) it z t) e hne (by simp [hne]) (by simp)
    have hg : i = z.cps.size := hg
    subst hg
    refine W.stops s _ E st (fun h' tk hk htk => ?_)
    exact I.turnedL hk hf
  self := fun A i s Q E st h => let ⟨⟨_, he⟩, _⟩ := st; wpAny_pyIter_enum he h
section
variable {X : Cx} {a : Expr} {fa : FA} {p pos tpos : Pos}
def enS (ds : List D) : Option (List D) := match ds with
  | [.str z] => some (z.cps.toList.mapIdx fun i c => .tuple [.int (i : Nat), .str ⟨#[c]⟩])
  | _ => none
theorem ei_enumS {elts : List Expr} {kk : Nat} (hg : Gl X "enumerate") (hm : X.mg "enumerate" = none) (ha : EvA X [a] fa) (hs : starEach [a] X.env = [(false, eval a X.env)] := by rfl) :
    EvI X (.Tuple elts kk tpos) (.Call (.Name "enumerate" p) [a] [] pos) (ibF enS fa) := by
  refine ⟨fun pins s σ H R I q => ?_⟩
  obtain ⟨F, e, ds, e', gd, h, k⟩ := q
  obtain ⟨⟨vas, e1⟩, h1, h⟩ := Option.bind_eq_some_iff.mp h
  obtain ⟨xs, h2, h⟩ := Option.bind_eq_some_iff.mp h
  obtain ⟨ys, h3, h⟩ := Option.map_eq_some_iff.mp h
  cases h
  refine Call_ (ld_blt I hg hm boot_enumerate (PyProof.Rows.callWith_type1 (thn (ha.run pos pins s σ H (fun vs H1 => ∃ F1, Gd X.K F1 σ H1 e1 ∧ Stp F σ H e F1 σ H1 e1 ∧ RVs X.K F1 σ H1 e1 vs vas) I ⟨F, e, vas, e1, gd, h1, fun F1 H1 vs g1 s1 r1 => ⟨F1, g1, s1, r1⟩⟩) fun us s1 ⟨vs, H1, I1, r1, F1, g1, st1, rv⟩ => ?_) hs rfl))
  have q := rdAll_ok g1 rv h2
  unfold enS at h3
  split at h3
  · rename_i z
    cases h3
    obtain ⟨v, rfl, hv⟩ := q.one
    obtain ⟨rfl, hz⟩ := hv.str
    cases r1 with
    | cons r rr =>
      cases rr
      obtain ⟨t, rfl⟩ := r
      refine call_enumerate_str fun h' he hit hsz hk => wpAny_pyIter_enum he ?_
      have I2 : Inv X pins σ H1 { s1 with heap := h' } := I1.kept (t' := s1.toks) hk
      refine ⟨s1.heap.objs.size + 1, [s1.heap.objs.size + 1, s1.heap.objs.size], _, _, H1, rfl, I2, turn_enumS z t (s1.heap.objs.size + 1) s1.heap.objs.size (Nat.succ_ne_self _), ⟨⟨.none, he⟩, hit⟩, fun b hb => ?_, k F1 H1 _ g1 st1 ?_⟩
      · have e' : b = s1.heap.objs.size + 1 ∨ b = s1.heap.objs.size := by simpa using hb
        have hle : s1.heap.objs.size ≤ b := by
          rcases e' with z | z
          · rw [z]; exact Nat.le_succ _
          · rw [z]; exact Nat.le_refl _
        exact I1.fpOk hle (I1.hok.fresh hle)
      · have hln : (z.cps.toList.mapIdx fun i c => PyData.tuple [.int (i : Nat), .str ⟨#[c]⟩]).length = z.cps.size := by simp
        refine ⟨fun i H2 hi _ => by rw [hln] at hi; exact hi, fun H2 _ => hln, fun i H2 v H3 hi _ y => ?_⟩
        obtain ⟨T, c, e1, e2, e3, e4⟩ := y
        refine ⟨.tuple [.int (i : Nat), .str ⟨#[c]⟩], ?_, .inr ⟨T, _, _, _, _, e1, e2, e3, rfl, .int _, .str _ (one_len c)⟩⟩
        rw [List.getElem?_mapIdx, Array.getElem?_toList, e4]
        rfl
  · cases h3
end
end Sh
end Sh11__
section Sh12__
set_option Elab.async false
set_option linter.all false
set_option autoImplicit false
set_option maxRecDepth 100000
set_option maxHeartbeats 4000000
/-! Sh12: x[::-1]; isinstance; methods of texts; t.index; a written dict read; calls by keywords; x, y = a, b. -/
namespace Sh
open PySem L2

theorem PEor {X : Cx} {e : Expr} {t1 t2 : TE} (h1 : PE X e t1) (h2 : PE X e t2) : PE X e (fun σ H Q => t1 σ H Q ∨ t2 σ H Q) :=
  ⟨fun pins s σ H Q I h => h.elim (h1.run pins s σ H Q I) (h2.run pins s σ H Q I)⟩
section
variable {X : Cx} {ex : Expr} {f : FE} {pos : Pos}
/-! ### x[::-1] -/
def tRevS (te : TE) : TE := fun σ H Q => te σ H fun x H1 => ∃ z, x = .str z ∧ z.length ≤ sizeLine ∧ Q (.str ⟨z.cps.toList.reverse.toArray⟩) H1
theorem revS_text (z : Str) (u : Tok) : Txt.sliceBy z none none (-1, u) = ⟨z.cps.toList.reverse.toArray⟩ := by
  have h := PyProof.Rows.step_rev_list z u
  have e : z.cps.toList.reverse = (List.range z.length).map fun k => z.cps.getD (z.length - 1 - k) 0 := by
    refine List.ext_getElem ?_ fun i h1 h2 => ?_
    · rw [List.length_reverse, Array.length_toList, List.length_map, List.length_range]; rfl
    · have hi : i < z.cps.size := by rw [List.length_reverse, Array.length_toList] at h1; exact h1
      rw [List.getElem_reverse, List.getElem_map, List.getElem_range]
      have h3 : z.cps.size - 1 - i < z.cps.size := by omega
      show _ = z.cps.getD (z.cps.size - 1 - i) 0
      simp [Array.getD, h3]
  rw [← e] at h
  cases hx : Txt.sliceBy z none none (-1, u) with
  | mk c =>
    rw [hx] at h
    rw [← h]
theorem pe_revS {k : Nat} {p1 p2 p3 : Pos} {te : TE} (he : PE X ex te) : PE X (.Subscript ex (.Slice none none (some (.UnaryOp .USub (.Constant (.int 1) k p1) p2)) p3) pos) (tRevS te) := by
  refine ⟨fun pins s σ H Q I h => ?_⟩
  refine PyProof.Rows.Subscript_ (thn (he.run pins s σ H _ I h) fun v s1 ⟨x, H1, I1, r1, z, ex', hz, q⟩ => ?_)
  subst ex'
  obtain ⟨t, rfl⟩ := r1
  have hst : PO X (some (.UnaryOp .USub (.Constant (.int 1) k p1) p2)) (tPart (tUn (rU fun i => .int (-i)) (tC (.int 1)))) := po_some (pe_un un_neg pe_int)
  refine wpAny_Slice (thn (po_none.run pins s1 σ H1 (fun o H2 => o = none ∧ H2 = H1) I1 ⟨rfl, rfl⟩) fun vl s2 ⟨l, H2, I2, pl, el, e2⟩ => ?_)
  subst el e2
  refine thn (po_none.run pins s2 σ H2 (fun o H3 => o = none ∧ H3 = H2) I2 ⟨rfl, rfl⟩) fun vu s3 ⟨u, H3, I3, pu, eu, e3⟩ => ?_
  subst eu e3
  refine thn (hst.run pins s3 σ H3 (fun o H4 => o = some (-1) ∧ H4 = H3) I3 ⟨1, rfl, -1, rfl, rfl, rfl⟩) fun vs s4 ⟨o, H4, I4, ps, eo, e4⟩ => ?_
  subst eo e4
  have I5 : Inv X pins σ H4 { s4 with heap := s4.heap.push { cls := .type "slice", data := .fields #[vl, vu, vs] } } := I4.kept (t' := s4.toks) fun b ob q => Heap.get?_push_of_some _ q
  obtain ⟨l', rfl, el⟩ := IsPart.raw pl
  obtain ⟨u', rfl, eu⟩ := IsPart.raw pu
  obtain ⟨w, rfl, ew⟩ := IsPart.raw ps
  have el0 : l' = none := by cases l' with | none => rfl | some a => cases el
  have eu0 : u' = none := by cases u' with | none => rfl | some a => cases eu
  subst el0 eu0
  cases w with
  | none => cases ew
  | some w =>
    obtain ⟨wi, wt⟩ := w
    have ew : wi = (-1 : Int) := Option.some.inj ew
    subst ew
    refine PyProof.Rows.tail_any (ops := [.str z t, .ref s4.heap.objs.size]) (typeIs_str _ _ _) F.slot_str_getitem.lookup ?_ (by with_unfolding_all rfl)
    refine wpAny_getItem_str_slice (l := none) (u := none) (st := some (-1, wt)) ⟨_, Heap.get?_push_size _ rfl, rfl, rfl⟩ rfl ?_
    have e9 : sliceMade z t none none (some ((-1 : Int), wt)) = Made.str ⟨z.cps.toList.reverse.toArray⟩ := by
      rw [← revS_text z wt]
      unfold sliceMade Txt.sliceBy slicePicked
      have h1 : ¬ (((((some ((-1 : Int), wt)).map (·.1)).getD 1 == 1) && ((Builtin.Str.strSliceIndices ((none : Option (Int × Tok)).map (·.1)) ((none : Option (Int × Tok)).map (·.1)) (((some ((-1 : Int), wt)).map (·.1)).getD 1) z.length).length == z.length)) = true) := by
        have : ((((some ((-1 : Int), wt)).map (·.1)).getD 1 == 1)) = false := rfl
        rw [this]; simp
      rw [if_neg h1, if_neg h1]
    rw [e9]
    refine ⟨?_, .str _, H4, I5.tok _, ⟨_, rfl⟩, q⟩
    show Array.size _ ≤ _
    rw [List.size_toArray, List.length_reverse, Array.length_toList]
    exact hz
def revD2 : D → Option Va
  | .list ds => some (.fr (.list ds.reverse))
  | .str z => some (.fz (.str ⟨z.cps.toList.reverse.toArray⟩))
  | _ => none
theorem ev_rev {k : Nat} {p1 p2 p3 : Pos} (h : EvE X ex f) : EvE X (.Subscript ex (.Slice none none (some (.UnaryOp .USub (.Constant (.int 1) k p1) p2)) p3) pos) (unF revD2 f) := by
  refine PEimp (PEor (pe_revL h) (pe_revS h)) fun σ H Q z => ?_
  obtain ⟨F, e, va, e', gd, h, k⟩ := z
  obtain ⟨⟨v, e1⟩, h1, h⟩ := Option.bind_eq_some_iff.mp h
  obtain ⟨d, h2, h⟩ := Option.bind_eq_some_iff.mp h
  obtain ⟨w, h3, h⟩ := Option.map_eq_some_iff.mp h
  cases h
  unfold revD2 at h3
  split at h3
  · cases h3
    refine .inl ⟨F, e, v, e1, gd, h1, fun F1 H1 x g1 s1 r1 n1 => ?_⟩
    obtain ⟨p, xs, rfl, hx, hxs⟩ := (r1.dr g1 h2).lst
    exact ⟨p, xs, rfl, hx, fun p hp => (k.later s1).lst g1 hxs.reverse hp⟩
  · cases h3
    refine .inr ⟨F, e, v, e1, gd, h1, fun F1 H1 x g1 s1 r1 n1 => ?_⟩
    obtain ⟨rfl, hz⟩ := (r1.dr g1 h2).str
    refine ⟨_, rfl, hz, (k.later s1).sub g1 (.str _ ?_)⟩
    show Array.size _ ≤ _
    rw [List.size_toArray, List.length_reverse, Array.length_toList]
    exact hz
  · cases h3

/-! ### isinstance(x, T) -/
def tyN : D → String
  | .none => "NoneType" | .bool _ => "bool" | .int _ => "int" | .str _ => "str" | .list _ => "list" | .tuple _ => "tuple" | .dict _ => "dict"
/-- what isinstance says of the plain types -/
def isTy (T : String) (d : D) : Option Bool :=
  if T = "int" then some (tyN d == "int" || tyN d == "bool") else if T = "bool" ∨ T = "str" ∨ T = "list" ∨ T = "tuple" ∨ T = "dict" then some (tyN d == T) else none
theorem isTy_kit {T : String} {d : D} {b : Bool} (h : isTy T d = some b) : kitB (tyN d) T = some b := by
  have key : ∀ t ∈ ["NoneType", "bool", "int", "str", "list", "tuple", "dict"], ∀ T ∈ ["int", "bool", "str", "list", "tuple", "dict"],
      kitB t T = (if T = "int" then some (t == "int" || t == "bool") else if T = "bool" ∨ T = "str" ∨ T = "list" ∨ T = "tuple" ∨ T = "dict" then some (t == T) else none) := by decide +kernel
  have hm : tyN d ∈ ["NoneType", "bool", "int", "str", "list", "tuple", "dict"] := by cases d <;> simp [tyN]
  have hT : T ∈ ["int", "bool", "str", "list", "tuple", "dict"] := by
    unfold isTy at h
    by_cases h1 : T = "int"
    · simp [h1]
    · rw [if_neg h1] at h
      by_cases h2 : T = "bool" ∨ T = "str" ∨ T = "list" ∨ T = "tuple" ∨ T = "dict"
      · simp [h1, h2]
      · rw [if_neg h2] at h; cases h
  rw [key _ hm _ hT]
  exact h
theorem DR.tyx {K : PySem.W.Frag} {F : Fz} {H : Hp} {v : V} {d : D} (r : DR K F H v d) : TyX K H v (.type (tyN d)) := by
  rcases r with r | ⟨a, ds, vs, rfl, rfl, h, _⟩
  · cases r with
    | non => exact .base .non
    | bl b => exact .base (.bl b)
    | int i => exact .base (.int i)
    | str z _ => exact .base (.str z)
    | lst h _ =>
      rcases h with ⟨_, h | ⟨o, h⟩⟩ | ⟨o, its, n, h1, h2, _⟩
      · exact .base (.lst h)
      · exact .base (.frz h)
      · exact .kList h1 h2
    | tup h _ =>
      rcases h with ⟨_, h | ⟨o, h⟩⟩ | ⟨o, its, n, h1, h2, _⟩
      · exact .base (.tup h)
      · exact .fTuple h
      · exact .kTuple h1 h2
  · exact .base (.lst h)
def isiF (T : String) (f : FE) : FE := fun e => (f e).bind fun r => (rd r.2 r.1).bind fun d => (isTy T d).map fun b => (.fz (.bool b), r.2)
theorem ev_isi {T : String} {Ts : Str} {p p2 pos : Pos} (hg : Gl X "isinstance") (hm : X.mg "isinstance" = none) (hgT : Gl X Ts) (hmT : X.mg Ts = none) (hv : bootBuiltins Ts = some (.type T)) (h : EvE X ex f)
    (hn : Ts ≠ "__name__" := by decide) (hd : (Ts == ("__debug__" : Str)) = false := by decide)
    (he : starEach [ex, .Name Ts p2] X.env = (false, eval ex X.env) :: starEach [.Name Ts p2] X.env := by rfl) (hpl : (backTo pos (starEach [.Name Ts p2] X.env)).any (·.1) = false := by rfl) :
    EvE X (.Call (.Name "isinstance" p) [ex, .Name Ts p2] [] pos) (isiF T f) := by
  refine PEimp (pe_callB call_isi hg hm (by decide +kernel) (pa_cons h (pa_cons (pe_bltn (v := .ty T) hgT hmT hv rfl hn hd) pa_nil) he) (he := he) (hpl := hpl)) fun σ H Q z => ?_
  obtain ⟨F, e, va, e', gd, h, k⟩ := z
  obtain ⟨⟨v, e1⟩, h1, h⟩ := Option.bind_eq_some_iff.mp h
  obtain ⟨d, h2, h⟩ := Option.bind_eq_some_iff.mp h
  obtain ⟨b, h3, h⟩ := Option.map_eq_some_iff.mp h
  cases h
  refine ⟨F, e, v, e1, gd, h1, fun F1 H1 x g1 s1 r1 n1 => ?_⟩
  exact ⟨x, .ty T, _, _, b, rfl, .ty T, (r1.dr g1 h2).tyx, kit_ty (isTy_kit h3), (k.later s1).sub g1 (.bl _)⟩

/-! ### methods of texts -/
section
variable {K : PySem.W.Frag}
def strsD : List D → Option (List Str)
  | [] => some []
  | .str i :: ds => (strsD ds).map (i :: ·)
  | _ => none
theorem strsD_ok {F : Fz} {H : Hp} : ∀ {ds : List D} {vs : List V} {ns : List Str}, DFs K F H vs ds → strsD ds = some ns → vs = ns.map V.str
  | [], _, _, .nil, h => by cases h; rfl
  | d :: ds, _, ns, .cons a b, h => by
    unfold strsD at h
    split at h
    · rename_i q; cases q
    · rename_i i ds' q
      cases q
      obtain ⟨ms, h', rfl⟩ := Option.map_eq_some_iff.mp h
      cases a
      rw [strsD_ok b h']
      rfl
    · cases h
theorem strsD_map (ns : List Str) : strsD (ns.map .str) = some ns := by
  induction ns with
  | nil => rfl
  | cons i ns ih =>
    show (strsD (ns.map .str)).map (i :: ·) = _
    rw [ih]; rfl
theorem strs_dfs {F : Fz} {H : Hp} : ∀ (l : List Str), (∀ z ∈ l, z.length ≤ sizeLine) → DFs K F H (l.map V.str) (l.map .str)
  | [], _ => .nil
  | z :: l, h => .cons (.str _ (h z (List.mem_cons_self ..))) (strs_dfs l fun y hy => h y (List.mem_cons_of_mem _ hy))
def splitM : D → List D → Option Va
  | .str a, [.str b] => if (b.length == 0) = false ∧ a.length + 2 ≤ sizeLine ∧ (Txt.split a b).all (fun z => decide (z.length ≤ sizeLine)) = true then some (.fr (.list ((Txt.split a b).map .str))) else none
  | _, _ => none
def rSplit : V → List V → Hp → VK → Prop := fun x xs H Q => ∃ a b, x = .str a ∧ xs = [.str b] ∧ (b.length == 0) = false ∧ a.length + 2 ≤ sizeLine ∧ rNewStrs (Txt.split a b) H Q
theorem m_split : RMD K splitM rSplit := by
  intro F σ H e x xs d ds va Q g rx hx h k
  unfold splitM at h
  split at h
  · split at h
    · rename_i z
      cases h
      obtain ⟨v, rfl, r⟩ := DRs.one hx
      refine ⟨_, _, rx.str.1, by rw [r.str.1], z.1, z.2.1, fun p hp => k.lst g (strs_dfs _ fun y hy => ?_) hp⟩
      exact of_decide_eq_true (List.all_eq_true.mp z.2.2 y hy)
    · cases h
  · cases h
def joinM : D → List D → Option Va
  | .str a, [.list ds] => (strsD ds).bind fun ys => if (ys.map (·.length)).sum + ys.length * a.length ≤ 16777216 ∧ (Txt.join a ys).length ≤ sizeLine then some (.fz (.str (Txt.join a ys))) else none
  | .str a, [.tuple ds] => (strsD ds).bind fun ys => if (ys.map (·.length)).sum + ys.length * a.length ≤ 16777216 ∧ (Txt.join a ys).length ≤ sizeLine then some (.fz (.str (Txt.join a ys))) else none
  | _, _ => none
def rJoin (K : PySem.W.Frag) : V → List V → Hp → VK → Prop := fun x xs H Q => ∃ a p, ∃ ys : List Str, x = .str a ∧ xs = [.ref p] ∧ (SqL K H p (ys.map V.str) ∨ SqT K H p (ys.map V.str)) ∧
    (ys.map (·.length)).sum + ys.length * a.length ≤ 16777216 ∧ Q (.str (Txt.join a ys)) H
theorem m_join : RMD K joinM (rJoin K) := by
  intro F σ H e x xs d ds va Q g rx hx h k
  unfold joinM at h
  split at h
  · obtain ⟨ys, h1, h⟩ := Option.bind_eq_some_iff.mp h
    split at h
    · rename_i z
      cases h
      obtain ⟨v, rfl, r⟩ := DRs.one hx
      obtain ⟨a, vs, rfl, h4, h5⟩ := r.lst
      have e1 := strsD_ok h5 h1
      subst e1
      exact ⟨_, a, ys, rx.str.1, rfl, .inl h4, z.1, k.sub g (.str _ z.2)⟩
    · cases h
  · obtain ⟨ys, h1, h⟩ := Option.bind_eq_some_iff.mp h
    split at h
    · rename_i z
      cases h
      obtain ⟨v, rfl, r⟩ := DRs.one hx
      obtain ⟨a, vs, rfl, h4, h5⟩ := r.tup
      have e1 := strsD_ok h5 h1
      subst e1
      exact ⟨_, a, ys, rx.str.1, rfl, .inr h4, z.1, k.sub g (.str _ z.2)⟩
    · cases h
  · cases h
def upperM : D → List D → Option Va
  | .str a, [] => if a.length ≤ 5592405 ∧ (Txt.upper a).length ≤ sizeLine then some (.fz (.str (Txt.upper a))) else none
  | _, _ => none
def rUpper : V → List V → Hp → VK → Prop := fun x xs H Q => ∃ a, x = .str a ∧ xs = [] ∧ a.length ≤ 5592405 ∧ Q (.str (Txt.upper a)) H
theorem m_upper : RMD K upperM rUpper := by
  intro F σ H e x xs d ds va Q g rx hx h k
  unfold upperM at h
  split at h
  · split at h
    · rename_i z
      cases h
      cases hx
      exact ⟨_, rx.str.1, rfl, z.1, k.sub g (.str _ z.2)⟩
    · cases h
  · cases h
end
section
variable {es : List Expr} {e1 : Expr} {fa : FA} {apos cpos : Pos}
theorem ev_split (ho : EvE X ex f) (ha : EvA X [e1] fa) (hbase : attributeBase ex "split" X.env (eval ex X.env) = eval ex X.env := by rfl)
    (hfew : ((backTo cpos (starEach [e1] X.env)).all (fun x => !x.1) && (backToKw cpos (keywordEach [] X.env)).all (fun x => x.1.isSome)
      && decide ([e1].length + ([] : List Keyword).length + (if ([] : List Keyword).isEmpty then 0 else 1) < 30)) = true := by rfl)
    (hline : (apos.endLine == cpos.line) = true := by rfl) (hs : starEach [e1] X.env = (false, eval e1 X.env) :: starEach [] X.env := by rfl) (hplain : (backTo cpos (starEach [] X.env)).any (·.1) = false := by rfl) :
    EvE X (.Call (.Attribute ex "split" apos) [e1] [] cpos) (mbF "str" splitM f fa) :=
  ev_bm F.plainAttrs_str F.slot_str_split F.type_str_split mt_split m_split ho ha hbase hfew hline hs hplain
theorem ev_join (ho : EvE X ex f) (ha : EvA X [e1] fa) (hbase : attributeBase ex "join" X.env (eval ex X.env) = eval ex X.env := by rfl)
    (hfew : ((backTo cpos (starEach [e1] X.env)).all (fun x => !x.1) && (backToKw cpos (keywordEach [] X.env)).all (fun x => x.1.isSome)
      && decide ([e1].length + ([] : List Keyword).length + (if ([] : List Keyword).isEmpty then 0 else 1) < 30)) = true := by rfl)
    (hline : (apos.endLine == cpos.line) = true := by rfl) (hs : starEach [e1] X.env = (false, eval e1 X.env) :: starEach [] X.env := by rfl) (hplain : (backTo cpos (starEach [] X.env)).any (·.1) = false := by rfl) :
    EvE X (.Call (.Attribute ex "join" apos) [e1] [] cpos) (mbF "str" joinM f fa) :=
  ev_bm F.plainAttrs_str F.slot_str_join F.type_str_join mt_join m_join ho ha hbase hfew hline hs hplain
theorem ev_upper (ho : EvE X ex f) (hbase : attributeBase ex "upper" X.env (eval ex X.env) = eval ex X.env := by rfl) (hline : (apos.endLine == cpos.line) = true := by rfl) :
    EvE X (.Call (.Attribute ex "upper" apos) [] [] cpos) (mbF "str" upperM f argN) :=
  ev_bm0 F.plainAttrs_str F.slot_str_upper F.type_str_upper mt_upper m_upper ho hbase hline
end
end
end Sh
end Sh12__
section Sh13__
set_option Elab.async false
set_option linter.all false
set_option autoImplicit false
set_option maxRecDepth 100000
set_option maxHeartbeats 4000000
/-! Sh13: t.index of a written tuple of texts; a written dict read; calls by keywords; x, y = a, b. -/
namespace Sh
open PySem L2

section
variable {X : Cx} {ex e1 : Expr} {f : FE} {fa : FA} {pos p apos cpos : Pos} {x : Str}
/-! ### T.index(z), T a written tuple of texts -/
/-- the first place -/
def firstAt (ys : List Str) (z : Str) : Option Nat := ys.findIdx? (· == z)
theorem firstAt_ok {ys : List Str} {z : Str} {j : Nat} (h : firstAt ys z = some j) : ys[j]? = some z ∧ ∀ m, m < j → ys[m]? ≠ some z := by
  unfold firstAt at h
  rw [List.findIdx?_eq_some_iff_getElem] at h
  obtain ⟨h1, h2, h3⟩ := h
  refine ⟨?_, fun m hm q => ?_⟩
  · rw [List.getElem?_eq_getElem h1, eq_of_beq h2]
  · obtain ⟨q1, q2⟩ := List.getElem?_eq_some_iff.mp q
    have := h3 m hm
    rw [q2] at this
    simp at this
def idxF (ys : List Str) (fa : FA) : FE := fun e => (fa e).bind fun r => (rdAll r.2 r.1).bind fun ds => match ds with
  | [.str z] => (firstAt ys z).map fun j => (.fz (.int (j : Nat)), r.2)
  | _ => none
def KTup (K : PySem.W.Frag) (a : Addr) : Prop := ∃ o, K.lookup a = some o ∧ o.cls = .type "tuple" ∧ o.dict = none
theorem ev_tidx {ys : List Str} {a : Addr} (hg : Gl X x) (hm : X.mg x = some (.ref a)) (hk : KTup X.K a) (hd : ∀ F H, DF X.K F H (.ref a) (.tuple (ys.map .str))) (ha : EvA X [e1] fa)
    (hdb : (x == ("__debug__" : Str)) = false := by decide)
    (hbase : attributeBase (.Name x p) "index" X.env (eval (.Name x p) X.env) = eval (.Name x p) X.env := by rfl)
    (hfew : ((backTo cpos (starEach [e1] X.env)).all (fun x => !x.1) && (backToKw cpos (keywordEach [] X.env)).all (fun x => x.1.isSome)
      && decide ([e1].length + ([] : List Keyword).length + (if ([] : List Keyword).isEmpty then 0 else 1) < 30)) = true := by rfl)
    (hline : (apos.endLine == cpos.line) = true := by rfl) (hs : starEach [e1] X.env = (false, eval e1 X.env) :: starEach [] X.env := by rfl) (hplain : (backTo cpos (starEach [] X.env)).any (·.1) = false := by rfl) :
    EvE X (.Call (.Attribute (.Name x p) "index" apos) [e1] [] cpos) (idxF ys fa) := by
  refine PEimp (pe_bm PySem.F.plainAttrs_tuple PySem.F.slot_tuple_index PySem.F.type_tuple_index mt_tup_index (pe_glob (v := .ref a) hg hm rfl hdb) ha hbase hfew hline hs hplain) ?_
  rintro σ H Q ⟨F, e, va, e', gd, h, k⟩
  obtain ⟨⟨vas, e2⟩, h1, h⟩ := Option.bind_eq_some_iff.mp h
  obtain ⟨ds, h2, h⟩ := Option.bind_eq_some_iff.mp h
  obtain ⟨o, ho, hc, hdn⟩ := hk
  refine ⟨.inr (.inl ⟨rfl, o, ho, hc, hdn⟩), F, e, vas, e2, gd, h1, fun F1 H1 vs g1 s1 r1 => ?_⟩
  have q := rdAll_ok g1 r1 h2
  dsimp only at h
  split at h
  · obtain ⟨j, h3, h4⟩ := Option.map_eq_some_iff.mp h
    cases h4
    obtain ⟨v, rfl, r⟩ := DRs.one q
    obtain ⟨q1, q2⟩ := firstAt_ok h3
    obtain ⟨a', vs', e0, sq, hs'⟩ := DR.tup (.inl (hd F1 H1))
    cases e0
    have ev : vs' = ys.map V.str := strsD_ok hs' (strsD_map ys)
    subst ev
    exact ⟨a, ys, _, j, rfl, by rw [r.str.1], sq, q1, q2, (k.later s1).sub g1 (.int _)⟩
  · cases h

/-! ### {k: i, ..}[x], keys texts and values ints, all written -/
def dkv (kvs : List (Str × Int)) : List (Key × V) := kvs.map fun q => (.inr q.1, .int q.2)
def dlkF (kvs : List (Str × Int)) (f : FE) : FE := fun e => (f e).bind fun r => (rd r.2 r.1).bind fun d => match d with
  | .str z => match valV (mergeK [] (dkv kvs)) (.inr z) with
    | some (.int i) => some (.fz (.int i), r.2)
    | _ => none
  | _ => none
theorem tPairs_const (kvs : List (Str × Int)) (σ : L2.St) (H : Hp) (Q : List (V × V) → Hp → Prop) (h : Q (kvs.map fun q => (V.str q.1, V.int q.2)) H) : tPairs (kvs.map fun q => (tC (.str q.1), tC (.int q.2))) σ H Q := by
  induction kvs generalizing Q with
  | nil => exact h
  | cons q kvs ih => exact ih (fun ps H3 => Q ((V.str q.1, V.int q.2) :: ps) H3) h
theorem ev_dlk {kvs : List (Str × Int)} {keys : List (Option Expr)} {values : List Expr} {pos2 : Pos} {k : Nat} (hr : Rm k X.A) (h : PPs X pos2 keys values (kvs.map fun q => (tC (.str q.1), tC (.int q.2)))) (hall : keys.all (·.isSome) = true) (hl : keys.length = values.length) (h0 : keys ≠ [])
    (h15 : keys.length ≤ 15) (hk : kvs.length ≤ 15) (hi : EvE X ex f) (hs : NoSl ex) : EvE X (.Subscript (.Dict keys values pos2) ex pos) (dlkF kvs f) := by
  refine PEimp (pe_dget (by have := hr.room.un; omega) (pe_disp h hall hl h0 h15) hi hs) ?_
  rintro σ H Q ⟨F, e, va, e', gd, h, k⟩
  intro p hp
  refine tPairs_const kvs _ _ _ ⟨upd_same, dkv kvs, ?_, ?_, ?_⟩
  · unfold dkv; rw [List.map_map]; rfl
  · unfold dkv; rw [List.length_map]; exact hk
  · rw [upd_upd]
    obtain ⟨g1, s1⟩ := gd.laid (o := .dK (mergeK [] (dkv kvs))) hp F (fun a h => h) (fun a h => .inl h)
    obtain ⟨⟨v1, e2⟩, h1, h⟩ := Option.bind_eq_some_iff.mp h
    obtain ⟨d, h2, h⟩ := Option.bind_eq_some_iff.mp h
    refine ⟨F, e, v1, e2, g1, h1, fun F2 H2 y g2 s2 r2 n2 => ?_⟩
    dsimp only at h
    split at h
    · rename_i z
      split at h
      · rename_i i hv
        cases h
        have ey := (r2.dr g2 h2).str.1
        have hH : H2 p = some (.dK (mergeK [] (dkv kvs))) := s2.keep p _ upd_same (fun z => by
          obtain ⟨i, io, d, q1, q2⟩ := z
          obtain ⟨a, q3, q4⟩ := g1.ow i io d q1
          rw [q2] at q3
          cases q3
          obtain ⟨ds, vs, _, q5, _⟩ := q4.ex
          rw [upd_same] at q5
          cases q5)
        exact ⟨p, _, rfl, .inl ⟨_, .inr z, .inl hH, ey, hv.symm⟩, (k.later (s1.trans s2)).sub g2 (.int _)⟩
      · cases h
    · cases h

/-! ### f(k = v, ..) -/
def permL {α : Type} (p : List Nat) (xs : List α) : List α := p.filterMap fun i => xs[i]?
theorem paired_get {α β : Type} {R : α → β → Prop} : ∀ {xs : List α} {ys : List β} {i : Nat} {v : α}, Paired R xs ys → xs[i]? = some v → ∃ v', ys[i]? = some v' ∧ R v v'
  | _, _, _, _, .nil, e => by simp at e
  | _, _, 0, _, .cons a _, e => by simp at e; subst e; exact ⟨_, rfl, a⟩
  | _, _, i + 1, v, .cons _ b, e => by
    obtain ⟨v', h1, h2⟩ := paired_get (i := i) (v := v) b (by simpa using e)
    exact ⟨v', by simpa using h1, h2⟩
theorem permL_paired {α β : Type} {R : α → β → Prop} {p : List Nat} : ∀ {xs : List α} {ys : List β}, Paired R xs ys → Paired R (permL p xs) (permL p ys) := by
  induction p with
  | nil => intro xs ys _; exact .nil
  | cons i p ih =>
    intro xs ys h
    have h1 := ih h
    have hl := Paired.length h
    unfold permL at h1 ⊢
    rw [List.filterMap_cons, List.filterMap_cons]
    cases e : xs[i]? with
    | none =>
      have : ys[i]? = none := by rw [List.getElem?_eq_none_iff] at e ⊢; omega
      rw [this]
      exact h1
    | some v =>
      have hi : i < ys.length := by have := (List.getElem?_eq_some_iff.mp e).1; omega
      obtain ⟨v', e1, e2⟩ := paired_get h e
      rw [e1]
      exact .cons e2 h1
def EvK (X : Cx) (kws : List Keyword) (f : FA) : Prop := PK X kws (tEvA X.K f)
theorem PKimp {kws : List Keyword} {t t' : TA} (h : PK X kws t) (i : ∀ σ H Q, t' σ H Q → t σ H Q) : PK X kws t' := ⟨fun pos pins s σ H Q I q => h.run pos pins s σ H Q I (i σ H Q q)⟩
theorem ek_nil : EvK X [] argN := by
  refine PKimp pk_nil ?_
  rintro σ H Q ⟨F, e, vas, e', gd, h, k⟩
  cases h
  exact k F H [] gd Stp.refl .nil
theorem ek_cons {kws : List Keyword} {nm : Option Str} {kpos : Pos} {h : FA} (ha : EvE X ex f) (hr : EvK X kws h) : EvK X (⟨nm, ex, kpos⟩ :: kws) (argC f h) := by
  refine PKimp (pk_cons ha hr) ?_
  rintro σ H Q ⟨F, e, vas, e', gd, q, k⟩
  obtain ⟨⟨v1, e1⟩, h1, q⟩ := Option.bind_eq_some_iff.mp q
  obtain ⟨⟨vs2, e2⟩, h2, q⟩ := Option.map_eq_some_iff.mp q
  cases q
  refine ⟨F, e, v1, e1, gd, h1, fun F1 H1 x g1 s1 r1 n1 => ?_⟩
  obtain ⟨F2, g2, s2, r2⟩ := r1.st g1 s1 n1
  exact ⟨F2, e1, vs2, e2, g2, h2, fun F3 H3 ys g3 s3 r3 => k F3 H3 (x :: ys) g3 (s2.trans s3) (.cons (r2.step g2 s3) r3)⟩
/-- the arguments in the parameters' order -/
def perF (pm : List Nat) (fa : FA) : FA := fun e => (fa e).map fun r => (permL pm r.1, r.2)
theorem perF_noFr {pm : List Nat} {fa : FA} (ia : IsA fa) : ∀ e r, perF pm fa e = some r → noFr r.1 := by
  intro e r h
  obtain ⟨⟨vas, e1⟩, h1, h⟩ := Option.map_eq_some_iff.mp h
  subst h
  intro va hv
  obtain ⟨i, hi, e2⟩ := List.mem_filterMap.mp hv
  exact ia.noFr _ _ h1 va (List.mem_of_getElem? e2)
/-- how keywords are bound -/
def KwB (fd : FuncData) (ps ks : List Str) (pm : List Nat) (K : PySem.W.Frag) : Prop := ∀ (s : Shared) (ws : List Value), K.In s.heap → ws.length = ks.length → BindsTo s fd ⟨[], ks.zip ws⟩ (ps.zip (permL pm ws))
theorem _root_.L2.FunD.kwB {K : PySem.W.Frag} {qual : Str} {params : Arguments} {body : List Stmt} {scope : Scope} {kws : List (Str × V)} {g : Addr} {fd : FuncData} {ps ks : List Str} {pm : List Nat} (F : FunD K x qual params body scope [] kws g fd)
    (h : ∀ (kV doc pm' : Value) (an : Option Addr) (cdv ct : Value) (ws : List Value), ws.length = ks.length → bindArgs (PySem.W.fnOf x qual params body scope .none kV doc pm' an cdv ct) ⟨[], ks.zip ws⟩ = pure (ps.zip (permL pm ws))) : KwB fd ps ks pm K := by
  obtain ⟨oc, od, dV, kV, doc, pm', an, cdv, ct, osl, rfl, lk, hcd, hD, hK⟩ := F.ex
  rcases hD with ⟨_, rfl⟩ | ⟨e, _⟩
  · exact fun s ws _ hl => BindsTo.of_eq (h kV doc pm' an cdv ct ws hl)
  · exact absurd rfl e
theorem ev_callK0 {CX : CXT} {k n : Nat} {g : Addr} {fd : FuncData} {ps ks : List Str} {E : XK} {kws : List Keyword} {ms : List Bool} {m : FE} {pm : List Nat} (F : GFn X.prog X.w X.K X.mg X.base CX k g fd ps (spF X.K n m)) (hn : n = ms.length) (hr : Rm k X.A)
    (hg : Gl X x) (hm : X.mg x = some (.ref g)) (hk : PySem.W.keepIn X.K (.ref g) = true) (hb : KwB fd ps ks pm X.K) (hx : Passes CX X E) (hkw : EvK X kws fa) (ia : IsA fa)
    (hall : (backToKw pos (keywordEach kws X.env)).all (·.1.isSome) = true := by rfl) (hks : (backToKw pos (keywordEach kws X.env)).filterMap (·.1) = ks := by rfl) (hlen : ks.length = kws.length := by rfl) (hev : ∀ e r, fa e = some r → r.1.length = kws.length)
    (hpl : ((backTo pos (starEach [] X.env)).any (·.1) || (backToKw pos (keywordEach kws X.env)).any (·.1.isNone)) = false := by rfl)
    (hdb : (x == ("__debug__" : Str)) = false := by decide) : EvE X (.Call (.Name x p) [] kws pos) (callF ms m (perF pm fa)) := by
  refine ⟨fun pins s σ H Q I want => ?_⟩
  obtain ⟨F0, e, va, e', gd, h, kk⟩ := want
  obtain ⟨vas, e1, args, e2, c, q, h1, h2, nd, h3, h4, h5, h6⟩ := callF_some h
  cases h6
  obtain ⟨⟨vas0, e1'⟩, h0, h1'⟩ := Option.map_eq_some_iff.mp h1
  cases h1'
  refine wpAny_Call_Name_kw (ld_glob I hg hm ?_ hdb)
  refine PySem.W.callWith_KW0 (h₀ := X.base) I.ok.mod.kin hk hall (thn (hkw.run pos pins s σ H (fun vs H1 => ∃ F1, Gd X.K F1 σ H1 e1' ∧ Stp F0 σ H e F1 σ H1 e1' ∧ RVs X.K F1 σ H1 e1' vs vas0) I
    ⟨F0, e, vas0, e1', gd, h0, fun F1 H1 vs g1 s1 r1 => ⟨F1, g1, s1, r1⟩⟩) fun ws s1 ⟨vs, H1, I1, r1, F1, g1, st1, rv⟩ => ⟨I1.kIn, ?_⟩) hpl
  rw [hks]
  have hl : ws.length = ks.length := by
    rw [← r1.length, Paired.length rv, hlen]
    exact hev _ _ h0
  have want : spF X.K n m (permL pm vs) H1 Q E := call_core g1 (permL_paired rv) (perF_noFr ia _ _ h1) hn h2 nd h3 h4 h5 (kk.later st1)
  refine wpAny_call (codeAny_mono (runB F hr (hb s1 ws I1.kIn hl) hx I1 (permL_paired r1) want) ?_)
  rintro (e | fl) s' hq
  · exact hq
  · cases fl with
    | ret u => exact hq
    | _ => exact hq.elim
end

/-! ### x, y = a, b -/
def noBo : Va → Bool
  | .bo _ => false
  | _ => true
section
variable {K : PySem.W.Frag} {F F0 : Fz} {σ σ0 : SS} {H H0 : Hp} {e e0 e' : En} {v w : V} {va vb : Va}
theorem setSl_okF (g : Gd K F σ H e) (s : Stp F0 σ0 H0 e0 F σ H e) (r : RV K F σ H e v va) (n : Nw H0 v va) (nb : noBo va = true) {i : Nat} (h : setSl i va e = some e') :
    Gd K F (σ.set i (some v)) H e' ∧ Stp F0 σ0 H0 e0 F (σ.set i (some v)) H e' ∧ (∀ k io d, e'[k]? = some (.ow io d) → (k = i ∧ ∃ d, va = .fr d) ∨ (k ≠ i ∧ e[k]? = some (.ow io d))) := by
  unfold setSl at h
  split at h
  · cases h
  · rename_i sl hne hsl
    have hi : i < e.length := (List.getElem?_eq_some_iff.mp hsl).1
    have nio : ∀ d, e[i]? ≠ some (.ow true d) := fun d q => hne d (Option.some.inj (hsl.symm.trans q))
    have bk : ∀ (x : Sl) k io d, (e.set i x)[k]? = some (.ow io d) → (k = i ∧ x = .ow io d) ∨ (k ≠ i ∧ e[k]? = some (.ow io d)) := fun x k io d q => by
      by_cases z : i = k
      · subst z
        rw [List.getElem?_set_self hi] at q
        exact .inl ⟨rfl, Option.some.inj q⟩
      · rw [List.getElem?_set_ne z] at q
        exact .inr ⟨fun w => z w.symm, q⟩
    cases va with
    | fr d =>
      cases h
      obtain ⟨a, rfl, ow, no⟩ := r
      obtain ⟨g', s'⟩ := g.set_fr s hi ow no (n a rfl) nio
      exact ⟨g', s', fun k io d' q => (bk _ k io d' q).imp (fun z => ⟨z.1, d, rfl⟩) id⟩
    | fz d =>
      cases h
      obtain ⟨g', s'⟩ := g.set_fz hi r nio
      exact ⟨g', s.trans s', fun k io d' q => (bk _ k io d' q).imp (fun z => nomatch z.2) id⟩
    | bo j => cases nb
  · cases h
theorem RV.set (r : RV K F σ H e w vb) (nb : noBo vb = true) {i : Nat} (hs : i < σ.length) (bk : ∀ k io d, e'[k]? = some (.ow io d) → (k = i ∧ ∃ d, va = .fr d) ∨ (k ≠ i ∧ e[k]? = some (.ow io d))) (ne : ∀ d d', va = .fr d' → vb = .fr d → v ≠ w) : RV K F (σ.set i (some v)) H e' w vb := by
  cases vb with
  | fz d => exact r
  | fr d =>
    obtain ⟨a, rfl, ow, no⟩ := r
    refine ⟨a, rfl, ow, fun z => ?_⟩
    obtain ⟨k, io, d', q1, q2⟩ := z
    rcases bk k io d' q1 with ⟨q, d0, q0⟩ | ⟨q3, q4⟩
    · subst q
      rw [List.getElem?_set_self hs] at q2
      exact ne d d0 q0 rfl (Option.some.inj (Option.some.inj q2))
    · rw [List.getElem?_set_ne (fun z => q3 z.symm)] at q2
      exact no ⟨k, io, d', q4, q2⟩
  | bo i => cases nb
end
def parS (i j : Nat) (fa fb : FE) : FS := fun e => (fa e).bind fun r => if noBo r.1 = true then (fb r.2).bind fun q => if noBo q.1 = true then (setSl i r.1 q.2).bind fun e1 => (setSl j q.1 e1).map .nx else none else none
theorem ev_par {X : Cx} {i j : Nat} {x y : Str} {a b : Expr} {fa fb : FE} {px py pt pos : Pos} {kt k2 : Nat} {pt2 : Pos} (hc : X.calm = true) (hN : X.N.Nodup) (hi : X.N[i]? = some x) (hj : X.N[j]? = some y) (hij : i ≠ j)
    (hx : X.env.scope.names.lookup x = some .local) (hy : X.env.scope.names.lookup y = some .local) (ha : EvE X a fa) (hb : EvE X b fb) (hsa : starEach [a, b] X.env = (false, eval a X.env) :: starEach [b] X.env := by rfl) (hsb : starEach [b] X.env = (false, eval b X.env) :: starEach [] X.env := by rfl)
    (hw : swappedStores [.Tuple [.Name x px, .Name y py] kt pt] (.Tuple [a, b] k2 pt2) X.env = pure (some [x, y]) := by rfl)
    (hs : swapsWithSole [.Tuple [.Name x px, .Name y py] kt pt] (.Tuple [a, b] k2 pt2) pos.line X.env = pure false := by rfl) :
    EvS X (.Assign [.Tuple [.Name x px, .Name y py] kt pt] (.Tuple [a, b] k2 pt2) pos) (parS i j fa fb) := by
  refine PSimp (ps_par hc hN hi hj hij hx hy (pa_cons ha (pa_cons hb pa_nil hsb) hsa) hw hs) ?_
  rintro D σ H ⟨F, e, o, gd, h, k⟩
  obtain ⟨⟨v1, e1⟩, h1, h⟩ := Option.bind_eq_some_iff.mp h
  dsimp only at h
  split at h
  · rename_i nb1
    obtain ⟨⟨v2, e2⟩, h2, h⟩ := Option.bind_eq_some_iff.mp h
    dsimp only at h
    split at h
    · rename_i nb2
      obtain ⟨e3, h3, h⟩ := Option.bind_eq_some_iff.mp h
      obtain ⟨e4, h4, h⟩ := Option.map_eq_some_iff.mp h
      cases h
      refine ⟨F, e, v1, e1, gd, h1, fun F1 H1 v g1 s1 r1 n1 => ⟨F1, e1, v2, e2, g1, h2, fun F2 H2 w g2 s2 r2 n2 => ?_⟩⟩
      have r1' := r1.step g1 s2
      have st := s1.trans s2
      obtain ⟨g3, s3, bk⟩ := setSl_okF g2 st r1' n1 nb1 h3
      have hlen : i < σ.length := by
        rw [g2.len]
        unfold setSl at h3
        split at h3
        · cases h3
        · rename_i sl _ hsl
          exact (List.getElem?_eq_some_iff.mp hsl).1
        · cases h3
      have n2' : Nw H w v2 := by
        cases v2 with
        | fr d => exact fun a q => s1.none_back (n2 a q)
        | _ => trivial
      have r2' : RV X.K F2 (σ.set i (some v)) H2 e3 w v2 := r2.set (va := v1) nb2 hlen bk (fun d d' z1 z2 y => by
        subst z1 z2
        obtain ⟨a, rfl, ow, no⟩ := r2
        obtain ⟨b, e0, ow1, _⟩ := r1
        rw [y] at e0
        cases e0
        have hn : H1 _ = none := n2 _ rfl
        obtain ⟨ds, vs, _, q2, _⟩ := ow1.ex
        rw [hn] at q2
        cases q2)
      obtain ⟨g4, s4, _⟩ := setSl_okF g3 s3 r2' n2' nb2 h4
      exact ⟨v, w, rfl, k F2 _ H2 g4 s4⟩
    · cases h
  · cases h
end Sh
end Sh13__
section Sh14__
set_option Elab.async false
set_option linter.all false
set_option autoImplicit false
set_option maxRecDepth 100000
set_option maxHeartbeats 4000000
/-! Sh14: written constants as data; the head's facts; a def by its mirror. -/
namespace Sh
open PySem L2 PySem.Spec PyProof.Rows

/-! ### a written value as data -/
def all2 {α β : Type} (f : α → β → Bool) : List α → List β → Bool
  | [], [] => true
  | a :: as, b :: bs => f a b && all2 f as bs
  | _, _ => false
def datV (K : PySem.W.Frag) : Nat → Value → D → Bool
  | _, .none, .none => true
  | _, .bool b, .bool c => b == c
  | _, .int i _, .int j => decide (i = j)
  | _, .str x _, .str y => decide (x = y) && decide (x.length ≤ sizeLine)
  | n + 1, .ref a, .list ds => match K.lookup a with
    | some ⟨.type c, none, .seq its _, _⟩ => decide (c = "list") && (decide (its.size ≤ sizeLine) && all2 (datV K n) its.toList ds)
    | _ => false
  | n + 1, .ref a, .tuple ds => match K.lookup a with
    | some ⟨.type c, none, .seq its _, _⟩ => decide (c = "tuple") && (decide (its.size ≤ sizeLine) && all2 (datV K n) its.toList ds)
    | _ => false
  | _, _, _ => false
/-- u stands for d whatever is tracked -/
def KDat (K : PySem.W.Frag) (u : Value) (d : D) : Prop := ∃ v : V, RelV v u ∧ ∀ F H, DF K F H v d
theorem all2_dat {K : PySem.W.Frag} {f : Value → D → Bool} (h : ∀ u d, f u d = true → KDat K u d) : ∀ {us : List Value} {ds : List D}, all2 f us ds = true → ∃ vs : List V, Vals vs us ∧ ∀ F H, DFs K F H vs ds
  | [], [], _ => ⟨[], .nil, fun _ _ => .nil⟩
  | u :: us, d :: ds, q => by
    obtain ⟨q1, q2⟩ := (Bool.and_eq_true _ _).mp (show (f u d && all2 f us ds) = true from q)
    obtain ⟨v, r, df⟩ := h u d q1
    obtain ⟨vs, rs, dfs⟩ := all2_dat h q2
    exact ⟨v :: vs, .cons r rs, fun F H => .cons (df F H) (dfs F H)⟩
  | [], _ :: _, q => by cases q
  | _ :: _, [], q => by cases q
theorem datV_ok {K : PySem.W.Frag} : ∀ {n : Nat} {u : Value} {d : D}, datV K n u d = true → KDat K u d ∧ (∀ ds, d = .tuple ds → ∃ a, u = .ref a ∧ KTup K a) := by
  intro n
  induction n with
  | zero =>
    intro u d h
    unfold datV at h
    split at h
    · exact ⟨⟨.non, rfl, fun _ _ => .non⟩, fun _ z => nomatch z⟩
    · rename_i b c
      have := eq_of_beq h; subst this
      exact ⟨⟨.bl b, rfl, fun _ _ => .bl b⟩, fun _ z => nomatch z⟩
    · have := of_decide_eq_true h; subst this
      exact ⟨⟨.int _, ⟨_, rfl⟩, fun _ _ => .int _⟩, fun _ z => nomatch z⟩
    · obtain ⟨h1, h2⟩ := (Bool.and_eq_true _ _).mp h
      have := of_decide_eq_true h1; subst this
      exact ⟨⟨.str _, ⟨_, rfl⟩, fun _ _ => .str _ (of_decide_eq_true h2)⟩, fun _ z => nomatch z⟩
    · rename_i q; exact absurd q (Nat.succ_ne_zero _).symm
    · rename_i q; exact absurd q (Nat.succ_ne_zero _).symm
    · cases h
  | succ n ih =>
    intro u d h
    unfold datV at h
    split at h
    · exact ⟨⟨.non, rfl, fun _ _ => .non⟩, fun _ z => nomatch z⟩
    · rename_i b c
      have := eq_of_beq h; subst this
      exact ⟨⟨.bl b, rfl, fun _ _ => .bl b⟩, fun _ z => nomatch z⟩
    · have := of_decide_eq_true h; subst this
      exact ⟨⟨.int _, ⟨_, rfl⟩, fun _ _ => .int _⟩, fun _ z => nomatch z⟩
    · obtain ⟨h1, h2⟩ := (Bool.and_eq_true _ _).mp h
      have := of_decide_eq_true h1; subst this
      exact ⟨⟨.str _, ⟨_, rfl⟩, fun _ _ => .str _ (of_decide_eq_true h2)⟩, fun _ z => nomatch z⟩
    · rename_i m a ds en
      have en : n = m := Nat.succ.inj en
      subst en
      split at h
      · rename_i c its k sl hk
        obtain ⟨h1, h2⟩ := (Bool.and_eq_true _ _).mp h
        obtain ⟨h3, h4⟩ := (Bool.and_eq_true _ _).mp h2
        have := of_decide_eq_true h1; subst this
        obtain ⟨vs, r, dfs⟩ := all2_dat (fun u d q => (ih q).1) h4
        exact ⟨⟨.ref a, rfl, fun F H => .lst (.inr ⟨_, its, k, hk, rfl, rfl, rfl, of_decide_eq_true h3, r⟩) (dfs F H)⟩, fun _ z => nomatch z⟩
      · cases h
    · rename_i m a ds en
      have en : n = m := Nat.succ.inj en
      subst en
      split at h
      · rename_i c its k sl hk
        obtain ⟨h1, h2⟩ := (Bool.and_eq_true _ _).mp h
        obtain ⟨h3, h4⟩ := (Bool.and_eq_true _ _).mp h2
        have := of_decide_eq_true h1; subst this
        obtain ⟨vs, r, dfs⟩ := all2_dat (fun u d q => (ih q).1) h4
        exact ⟨⟨.ref a, rfl, fun F H => .tup (.inr ⟨_, its, k, hk, rfl, rfl, of_decide_eq_true h3, r⟩) (dfs F H)⟩, fun _ _ => ⟨a, rfl, _, hk, rfl, rfl⟩⟩
      · cases h
    · cases h

/-! ### the head's facts: names, written constants, defs -/
/-- a module's name that stands for data -/
structure Co where
  x : Str
  d : D
def Co.ok (K : PySem.W.Frag) (c : Co) : Bool := match PySem.W.nsIn K mainGlobals c.x with
  | some (some u) => datV K 8 u c.d
  | _ => false
def obsS (fa : List He.Fa) (cs : List Co) (fn : List He.DefD) (K : PySem.W.Frag) : He.AlD := ((fa.all fun f => f.ok K) && ((cs.all fun c => c.ok K) && fn.all fun d => d.ok K), fn.map fun d => He.fnW K d.at_)
def SaysS (fa : List He.Fa) (cs : List Co) (fn : List He.DefD) (K : PySem.W.Frag) : Prop := obsS fa cs fn K = He.valD fn
def obsSG (n : Nat) (fa : List He.Fa) (cs : List Co) (fn : List He.DefD) (g : Addr → Option Obj) : He.AlD := obsS fa cs fn (He.frG g (He.asD g n))
def hookS (n : Nat) (fa : List He.Fa) (cs : List Co) (fn : List He.DefD) : PySem.W.Hook where
  α := He.AlD
  obs := fun s => obsSG n fa cs fn s.heap.get?
  val := fun _ => He.valD fn
  says := fun _ h => ∃ K : PySem.W.Frag, K.In h ∧ SaysS fa cs fn K
  of := fun _ _ e => ⟨_, He.frG_in, e⟩
  keeps := fun _ _ _ ⟨K, hK, c⟩ k => ⟨K, PySem.W.Frag.In.keeps hK k, c⟩
theorem obsSG_eq {n : Nat} {fa : List He.Fa} {cs : List Co} {fn : List He.DefD} {g : Addr → Option Obj} {s : Shared} (h : ∀ a, g a = s.heap.get? a) : obsSG n fa cs fn g = (hookS n fa cs fn).obs s := by
  have e : g = s.heap.get? := funext h
  rw [e] <;> rfl
section
variable {fa : List He.Fa} {cs : List Co} {fn : List He.DefD} {K : PySem.W.Frag}
theorem SaysS.all (c : SaysS fa cs fn K) : ((fa.all fun f => f.ok K) && ((cs.all fun c => c.ok K) && fn.all fun d => d.ok K)) = true := congrArg (fun z : He.AlD => z.1) c
theorem SaysS.fact (c : SaysS fa cs fn K) (i : Nat) {f : He.Fa} (h : fa[i]? = some f := by rfl) : f.ok K = true := by
  obtain ⟨c1, _⟩ := (Bool.and_eq_true _ _).mp c.all
  exact List.all_eq_true.mp c1 f (List.mem_of_getElem? h)
theorem SaysS.dat (c : SaysS fa cs fn K) (i : Nat) {q : Co} (h : cs[i]? = some q := by rfl) : q.ok K = true := by
  obtain ⟨_, c1⟩ := (Bool.and_eq_true _ _).mp c.all
  obtain ⟨c2, _⟩ := (Bool.and_eq_true _ _).mp c1
  exact List.all_eq_true.mp c2 q (List.mem_of_getElem? h)
theorem SaysS.def_ (c : SaysS fa cs fn K) (i : Nat) {d : He.DefD} (h : fn[i]? = some d := by rfl) : ∃ fd, FunD K d.name d.qual d.params d.body d.scope (d.dvs K) (d.kws K) (He.fAd K d.at_) fd := by
  obtain ⟨_, c1⟩ := (Bool.and_eq_true _ _).mp c.all
  obtain ⟨_, c2⟩ := (Bool.and_eq_true _ _).mp c1
  have e : fn.map (fun d => He.fnW K d.at_) = fn.map He.DefD.val := congrArg (fun z : He.AlD => z.2) c
  have e2 : (fn.map fun d => He.fnW K d.at_)[i]? = (fn.map He.DefD.val)[i]? := by rw [e]
  rw [List.getElem?_map, List.getElem?_map, h] at e2
  exact He.DefD.funD (Option.some.inj e2) (List.all_eq_true.mp c2 d (List.mem_of_getElem? h))
/-- a module's name gives data -/
def GDat (K : PySem.W.Frag) (mg : Str → Option Value) (x : Str) (d : D) : Prop := ∃ u, mg x = some u ∧ KDat K u d ∧ (∀ ds, d = .tuple ds → ∃ a, u = .ref a ∧ KTup K a)
theorem Co.gdat {h : Heap} {mg : Str → Option Value} (X : K.In h) (G : h.Ns mainGlobals mg) {c : Co} (q : c.ok K = true) : GDat K mg c.x c.d := by
  unfold Co.ok at q
  split at q
  · rename_i u e
    obtain ⟨q1, q2⟩ := datV_ok q
    exact ⟨u, PySem.W.mg_of X G e, q1, q2⟩
  · cases q
end
section
variable {X : Cx} {x : Str} {d : D} {pos p apos cpos : Pos} {e1 : Expr} {fa : FA}
theorem ev_gd (hg : Gl X x) (h : GDat X.K X.mg x d) (hdb : (x == ("__debug__" : Str)) = false := by decide) : EvE X (.Name x pos) (conF d) := by
  obtain ⟨u, hm, ⟨v, r, hd⟩, _⟩ := h
  exact ev_glob hg hm r hd hdb
theorem ev_tix {ys : List Str} (hg : Gl X x) (h : GDat X.K X.mg x (.tuple (ys.map .str))) (ha : EvA X [e1] fa) (hdb : (x == ("__debug__" : Str)) = false := by decide)
    (hbase : attributeBase (.Name x p) "index" X.env (eval (.Name x p) X.env) = eval (.Name x p) X.env := by rfl)
    (hfew : ((backTo cpos (starEach [e1] X.env)).all (fun x => !x.1) && (backToKw cpos (keywordEach [] X.env)).all (fun x => x.1.isSome)
      && decide ([e1].length + ([] : List Keyword).length + (if ([] : List Keyword).isEmpty then 0 else 1) < 30)) = true := by rfl)
    (hline : (apos.endLine == cpos.line) = true := by rfl) (hs : starEach [e1] X.env = (false, eval e1 X.env) :: starEach [] X.env := by rfl) (hplain : (backTo cpos (starEach [] X.env)).any (·.1) = false := by rfl) :
    EvE X (.Call (.Attribute (.Name x p) "index" apos) [e1] [] cpos) (idxF ys fa) := by
  obtain ⟨u, hm, ⟨v, r, hd⟩, hk⟩ := h
  obtain ⟨a, rfl, kt⟩ := hk _ rfl
  have hv : ∃ b, v = .ref b := by
    cases hd (fun _ => False) (fun _ => none) with
    | tup _ _ => exact ⟨_, rfl⟩
  obtain ⟨b, rfl⟩ := hv
  cases (show Value.ref a = Value.ref b from r)
  exact ev_tidx hg hm kt hd ha hdb hbase hfew hline hs hplain
end

/-! ### a def by its mirror -/
theorem ok_fn {P : Program} {w : World} {K : PySem.W.Frag} {mg : Str → Option Value} {base : Heap} {x qual : Str} {params : Arguments} {body : List Stmt} {scope : Scope} {kws : List (Str × V)} {f : Addr} {fd : FuncData} {CX : CXT} {N ps : List Str} {k : Nat} {m : FS}
    (F : FunD K x qual params body scope [] kws f fd) (S : FnScope N ps scope) (n nl : Nat) (hn : n = ps.length) (hnl : N.length = n + nl)
    (hb : ∀ (cdv : Value) (A : Around) (out : List Env) (s : Shared) (H : Hp) (E : XK), Rm k (A.deeper (envOfC qual scope s.heap.objs.size f cdv)) → EvSs (cxOf CX P w K mg base N qual scope f cdv A out s H E).nox body m) :
    GFn P w K mg base CX (k + 1) f fd ps (spF K n (funF nl m)) := by
  refine gfn_of F S (fun vs H Q E h => h.1.trans hn) (fun cdv A out s H vs Q E hr h => ?_)
  refine ⟨_, PSs.nox (hb cdv A out s H E hr), ?_⟩
  obtain ⟨hl, F', c, va, c', lent, gd, hm, hbo, k⟩ := h
  have e : L2.start N vs = vs.map some ++ List.replicate nl none := by
    unfold L2.start
    rw [hnl, hl]
    congr 2
    omega
  rw [e]
  exact fun_core gd lent hm k
end Sh
end Sh14__
section Sh15__
set_option Elab.async false
set_option linter.all false
set_option autoImplicit false
set_option maxRecDepth 100000
set_option maxHeartbeats 4000000
/-! Sh15: the rules as a generator calls them. -/
namespace Sh
open PySem L2 PySem.Spec PyProof.Rows

theorem Rm.u64 {k : Nat} {A : Around} (r : Rm k A) : A.units + 64 < cLine := r.room.units
theorem Rm.u65 {k : Nat} {A : Around} (r : Rm k A) : A.units + 65 < cLine := by have := r.room.un; omega

/-! ### what stands behind the top -/
structure Bk (K : PySem.W.Frag) (mg : Str → Option Value) (fr : List Str) (cs : List Co) (fn : List He.DefD) : Prop where
  fre : ∀ (i : Nat) {x : Str}, fr[i]? = some x → mg x = none
  dat : ∀ (i : Nat) {c : Co}, cs[i]? = some c → GDat K mg c.x c.d
  fns : ∀ (i : Nat) {d : He.DefD}, fn[i]? = some d → ∃ f fd, mg d.name = some (.ref f) ∧ FunD K d.name d.qual d.params d.body d.scope (d.dvs K) (d.kws K) f fd
def faOf (fr : List Str) (fn : List He.DefD) : List He.Fa := fr.map .free ++ fn.map fun d => .glo d.name
/-- a plain def of the top -/
def defD (x : Str) (st : Stmt) : He.DefD := ⟨(x, none), x, x, defArgs st, defBody st, defScope st, [], []⟩
theorem Bk.of {K : PySem.W.Frag} {h : Heap} {mg : Str → Option Value} {fr : List Str} {cs : List Co} {fn : List He.DefD} (X : K.In h) (G : h.Ns mainGlobals mg) (c : SaysS (faOf fr fn) cs fn K) (hat : ∀ d ∈ fn, d.at_ = (d.name, none)) : Bk K mg fr cs fn where
  fre := fun i x e => by
    have q : (faOf fr fn)[i]? = some (.free x) := by
      unfold faOf
      rw [List.getElem?_append_left (by rw [List.length_map]; exact (List.getElem?_eq_some_iff.mp e).1), List.getElem?_map, e]
      rfl
    exact He.free_ok X G (c.fact i q)
  dat := fun i c' e => Co.gdat X G (c.dat i e)
  fns := fun i d e => by
    obtain ⟨fd, F⟩ := c.def_ i e
    have q : (faOf fr fn)[fr.length + i]? = some (.glo d.name) := by
      unfold faOf
      rw [List.getElem?_append_right (by rw [List.length_map]; omega), List.length_map, Nat.add_sub_cancel_left, List.getElem?_map, e]
      rfl
    refine ⟨_, fd, He.glo_ok X G (c.fact _ q), ?_⟩
    have ha := hat d (List.mem_of_getElem? e)
    rw [ha] at F
    exact F
/-- a def's all -/
def FnI (P : Program) (w : World) (K : PySem.W.Frag) (mg : Str → Option Value) (base : Heap) (st : Stmt) (x : Str) (k n : Nat) (ps : List Str) (m : FE) : Prop :=
  ∃ f fd, mg x = some (.ref f) ∧ FunD K x x (defArgs st) (defBody st) (defScope st) [] [] f fd ∧ Binds K fd ps [] ∧ GFn P w K mg base CX0 k f fd ps (spF K n m)
section
variable {X : Cx} {st : Stmt} {x : Str} {j k n : Nat} {ps ks : List Str} {m : FE} {ms : List Bool} {ex a b : Expr} {es : List Expr} {fa : FA} {p pos p2 : Pos} {kws : List Keyword} {pm : List Nat} {f : FE}
theorem ev_cal (h : FnI X.prog X.w X.K X.mg X.base st x k n ps m) (hr : Rm j X.A) (hn : n = ms.length) (hkj : k ≤ j) (ha : EvA X (ex :: es) fa) (ia : IsA fa) (hg : Gl X x := by rfl) (hdb : (x == ("__debug__" : Str)) = false := by decide)
    (he : starEach (ex :: es) X.env = (false, eval ex X.env) :: starEach es X.env := by rfl) (hpl : (backTo pos (starEach es X.env)).any (·.1) = false := by rfl) : EvE X (.Call (.Name x p) (ex :: es) [] pos) (callF ms m fa) := by
  obtain ⟨f, fd, hm, F, hb, G⟩ := h
  exact ev_call G hn (hr.mono hkj) hg hm F.kp hb pass0 ha ia hdb he hpl
theorem ev_cal0 (h : FnI X.prog X.w X.K X.mg X.base st x k 0 ps m) (hr : Rm j X.A) (hkj : k ≤ j) (hg : Gl X x := by rfl) (hdb : (x == ("__debug__" : Str)) = false := by decide) : EvE X (.Call (.Name x p) [] [] pos) (callF [] m argN) := by
  obtain ⟨f, fd, hm, F, hb, G⟩ := h
  exact ev_call0 G rfl (hr.mono hkj) hg hm F.kp hb pass0 hdb
theorem ev_calK (h : FnI X.prog X.w X.K X.mg X.base st x k n ps m) (hr : Rm j X.A) (hn : n = ms.length) (hkj : k ≤ j)
    (hb : ∀ (kV doc pm' : Value) (an : Option Addr) (cdv ct : Value) (ws : List Value), ws.length = ks.length → bindArgs (PySem.W.fnOf x x (defArgs st) (defBody st) (defScope st) .none kV doc pm' an cdv ct) ⟨[], ks.zip ws⟩ = pure (ps.zip (permL pm ws)))
    (hkw : EvK X kws fa) (ia : IsA fa) (hev : ∀ e r, fa e = some r → r.1.length = kws.length) (hg : Gl X x := by rfl)
    (hall : (backToKw pos (keywordEach kws X.env)).all (·.1.isSome) = true := by rfl) (hks : (backToKw pos (keywordEach kws X.env)).filterMap (·.1) = ks := by rfl) (hlen : ks.length = kws.length := by rfl)
    (hpl : ((backTo pos (starEach [] X.env)).any (·.1) || (backToKw pos (keywordEach kws X.env)).any (·.1.isNone)) = false := by rfl)
    (hdb : (x == ("__debug__" : Str)) = false := by decide) : EvE X (.Call (.Name x p) [] kws pos) (callF ms m (perF pm fa)) := by
  obtain ⟨f, fd, hm, F, _, G⟩ := h
  exact ev_callK0 G hn (hr.mono hkj) hg hm F.kp (F.kwB hb) pass0 hkw ia hall hks hlen hev hpl hdb
theorem argC_len {f : FE} {g : FA} {n : Nat} (h : ∀ e r, g e = some r → r.1.length = n) : ∀ e r, argC f g e = some r → r.1.length = n + 1 := fun e r q => by
  obtain ⟨⟨v1, e1⟩, h1, q⟩ := Option.bind_eq_some_iff.mp q
  obtain ⟨⟨vs2, e2⟩, h2, q⟩ := Option.map_eq_some_iff.mp q
  subst q
  show vs2.length + 1 = n + 1
  rw [h _ _ h2]
theorem argN_len : ∀ e r, argN e = some r → r.1.length = 0 := fun e r q => by cases q; rfl

/-! ### built-ins -/
theorem ev_blen (hm : X.mg "len" = none) (ha : EvA X (ex :: es) fa) (hg : Gl X "len" := by rfl) (he : starEach (ex :: es) X.env = (false, eval ex X.env) :: starEach es X.env := by rfl) (hpl : (backTo pos (starEach es X.env)).any (·.1) = false := by rfl) :
    EvE X (.Call (.Name "len" p) (ex :: es) [] pos) (cbF lenG fa) := ev_callB call_lenV c_len hg hm boot_len ha (he := he) (hpl := hpl)
theorem ev_bord (hm : X.mg "ord" = none) (ha : EvA X (ex :: es) fa) (hg : Gl X "ord" := by rfl) (he : starEach (ex :: es) X.env = (false, eval ex X.env) :: starEach es X.env := by rfl) (hpl : (backTo pos (starEach es X.env)).any (·.1) = false := by rfl) :
    EvE X (.Call (.Name "ord" p) (ex :: es) [] pos) (cbF ordG fa) := ev_callB call_ordV c_ord hg hm boot_ord ha (he := he) (hpl := hpl)
theorem ev_babs (hm : X.mg "abs" = none) (ha : EvA X (ex :: es) fa) (hg : Gl X "abs" := by rfl) (he : starEach (ex :: es) X.env = (false, eval ex X.env) :: starEach es X.env := by rfl) (hpl : (backTo pos (starEach es X.env)).any (·.1) = false := by rfl) :
    EvE X (.Call (.Name "abs" p) (ex :: es) [] pos) (cbF absG fa) := ev_callB call_absV c_abs hg hm boot_abs ha (he := he) (hpl := hpl)
theorem ev_bmax (hm : X.mg "max" = none) (ha : EvA X (ex :: es) fa) (hg : Gl X "max" := by rfl) (hc : X.calm = true := by rfl) (he : starEach (ex :: es) X.env = (false, eval ex X.env) :: starEach es X.env := by rfl) (hpl : (backTo pos (starEach es X.env)).any (·.1) = false := by rfl) :
    EvE X (.Call (.Name "max" p) (ex :: es) [] pos) (cbF maxG fa) := ev_callB (call_maxV hc) c_max hg hm boot_max ha (he := he) (hpl := hpl)
theorem ev_bmin (hm : X.mg "min" = none) (ha : EvA X (ex :: es) fa) (hg : Gl X "min" := by rfl) (hc : X.calm = true := by rfl) (he : starEach (ex :: es) X.env = (false, eval ex X.env) :: starEach es X.env := by rfl) (hpl : (backTo pos (starEach es X.env)).any (·.1) = false := by rfl) :
    EvE X (.Call (.Name "min" p) (ex :: es) [] pos) (cbF minG fa) := ev_callB (call_minV hc) c_min hg hm boot_min ha (he := he) (hpl := hpl)
theorem ev_bdivmod (hm : X.mg "divmod" = none) (ha : EvA X (ex :: es) fa) (hg : Gl X "divmod" := by rfl) (he : starEach (ex :: es) X.env = (false, eval ex X.env) :: starEach es X.env := by rfl) (hpl : (backTo pos (starEach es X.env)).any (·.1) = false := by rfl) :
    EvE X (.Call (.Name "divmod" p) (ex :: es) [] pos) (cbF divmodG fa) := ev_callB call_divmodV c_divmod hg hm boot_divmod ha (he := he) (hpl := hpl)
theorem ev_bsum (hm : X.mg "sum" = none) (ha : EvA X (ex :: es) fa) (hg : Gl X "sum" := by rfl) (hc : X.calm = true := by rfl) (he : starEach (ex :: es) X.env = (false, eval ex X.env) :: starEach es X.env := by rfl) (hpl : (backTo pos (starEach es X.env)).any (·.1) = false := by rfl) :
    EvE X (.Call (.Name "sum" p) (ex :: es) [] pos) (cbF sumG fa) := ev_callB (cr_sum hc) c_sum hg hm boot_sum ha (he := he) (hpl := hpl)
theorem ev_ball (hm : X.mg "all" = none) (ha : EvA X (ex :: es) fa) (hg : Gl X "all" := by rfl) (hc : X.calm = true := by rfl) (he : starEach (ex :: es) X.env = (false, eval ex X.env) :: starEach es X.env := by rfl) (hpl : (backTo pos (starEach es X.env)).any (·.1) = false := by rfl) :
    EvE X (.Call (.Name "all" p) (ex :: es) [] pos) (cbF allG fa) := ev_callB (cr_all hc) c_all hg hm boot_all ha (he := he) (hpl := hpl)
theorem ev_bany (hm : X.mg "any" = none) (ha : EvA X (ex :: es) fa) (hg : Gl X "any" := by rfl) (hc : X.calm = true := by rfl) (he : starEach (ex :: es) X.env = (false, eval ex X.env) :: starEach es X.env := by rfl) (hpl : (backTo pos (starEach es X.env)).any (·.1) = false := by rfl) :
    EvE X (.Call (.Name "any" p) (ex :: es) [] pos) (cbF anyG fa) := ev_callB (cr_any hc) c_any hg hm boot_any ha (he := he) (hpl := hpl)
theorem ev_bint (hm : X.mg "int" = none) (ha : EvA X (ex :: es) fa) (hg : Gl X "int" := by rfl) (he : starEach (ex :: es) X.env = (false, eval ex X.env) :: starEach es X.env := by rfl) (hpl : (backTo pos (starEach es X.env)).any (·.1) = false := by rfl) :
    EvE X (.Call (.Name "int" p) (ex :: es) [] pos) (cbF intG fa) := ev_callTy call_intV c_int hg hm boot_int ha (he := he) (hpl := hpl)
theorem ev_bstr (hm : X.mg "str" = none) (ha : EvA X (ex :: es) fa) (hg : Gl X "str" := by rfl) (he : starEach (ex :: es) X.env = (false, eval ex X.env) :: starEach es X.env := by rfl) (hpl : (backTo pos (starEach es X.env)).any (·.1) = false := by rfl) :
    EvE X (.Call (.Name "str" p) (ex :: es) [] pos) (cbF strG fa) := ev_callTy call_strV c_str hg hm boot_str ha (he := he) (hpl := hpl)
theorem ev_blist (hm : X.mg "list" = none) (ha : EvA X (ex :: es) fa) (hg : Gl X "list" := by rfl) (hc : X.calm = true := by rfl) (he : starEach (ex :: es) X.env = (false, eval ex X.env) :: starEach es X.env := by rfl) (hpl : (backTo pos (starEach es X.env)).any (·.1) = false := by rfl) :
    EvE X (.Call (.Name "list" p) (ex :: es) [] pos) (cbF listG fa) := ev_callTy (call_listV hc) c_list hg hm boot_list ha (he := he) (hpl := hpl)
theorem ev_btuple (hm : X.mg "tuple" = none) (ha : EvA X (ex :: es) fa) (hg : Gl X "tuple" := by rfl) (he : starEach (ex :: es) X.env = (false, eval ex X.env) :: starEach es X.env := by rfl) (hpl : (backTo pos (starEach es X.env)).any (·.1) = false := by rfl) :
    EvE X (.Call (.Name "tuple" p) (ex :: es) [] pos) (cbF tupleG fa) := ev_callTy call_tupV c_tuple hg hm boot_tuple ha (he := he) (hpl := hpl)
theorem ev_brepr (hm : X.mg "repr" = none) (hr : Rm k X.A) (ha : EvA X (ex :: es) fa) (hg : Gl X "repr" := by rfl) (he : starEach (ex :: es) X.env = (false, eval ex X.env) :: starEach es X.env := by rfl) (hpl : (backTo pos (starEach es X.env)).any (·.1) = false := by rfl) :
    EvE X (.Call (.Name "repr" p) (ex :: es) [] pos) (cbF reprG fa) := ev_callB (call_repr hr) c_repr hg hm boot_repr ha (he := he) (hpl := hpl)
theorem ev_is_int (hm : X.mg "isinstance" = none) (hmT : X.mg "int" = none) (h : EvE X ex f) (hg : Gl X "isinstance" := by rfl) (hgT : Gl X "int" := by rfl)
    (he : starEach [ex, .Name "int" p2] X.env = (false, eval ex X.env) :: starEach [.Name "int" p2] X.env := by rfl) (hpl : (backTo pos (starEach [.Name "int" p2] X.env)).any (·.1) = false := by rfl) :
    EvE X (.Call (.Name "isinstance" p) [ex, .Name "int" p2] [] pos) (isiF "int" f) := ev_isi hg hm hgT hmT boot_int h (he := he) (hpl := hpl)
theorem ev_is_bool (hm : X.mg "isinstance" = none) (hmT : X.mg "bool" = none) (h : EvE X ex f) (hg : Gl X "isinstance" := by rfl) (hgT : Gl X "bool" := by rfl)
    (he : starEach [ex, .Name "bool" p2] X.env = (false, eval ex X.env) :: starEach [.Name "bool" p2] X.env := by rfl) (hpl : (backTo pos (starEach [.Name "bool" p2] X.env)).any (·.1) = false := by rfl) :
    EvE X (.Call (.Name "isinstance" p) [ex, .Name "bool" p2] [] pos) (isiF "bool" f) := ev_isi hg hm hgT hmT boot_bool h (he := he) (hpl := hpl)
theorem ev_is_str (hm : X.mg "isinstance" = none) (hmT : X.mg "str" = none) (h : EvE X ex f) (hg : Gl X "isinstance" := by rfl) (hgT : Gl X "str" := by rfl)
    (he : starEach [ex, .Name "str" p2] X.env = (false, eval ex X.env) :: starEach [.Name "str" p2] X.env := by rfl) (hpl : (backTo pos (starEach [.Name "str" p2] X.env)).any (·.1) = false := by rfl) :
    EvE X (.Call (.Name "isinstance" p) [ex, .Name "str" p2] [] pos) (isiF "str" f) := ev_isi hg hm hgT hmT boot_str h (he := he) (hpl := hpl)
theorem ev_is_list (hm : X.mg "isinstance" = none) (hmT : X.mg "list" = none) (h : EvE X ex f) (hg : Gl X "isinstance" := by rfl) (hgT : Gl X "list" := by rfl)
    (he : starEach [ex, .Name "list" p2] X.env = (false, eval ex X.env) :: starEach [.Name "list" p2] X.env := by rfl) (hpl : (backTo pos (starEach [.Name "list" p2] X.env)).any (·.1) = false := by rfl) :
    EvE X (.Call (.Name "isinstance" p) [ex, .Name "list" p2] [] pos) (isiF "list" f) := ev_isi hg hm hgT hmT boot_list h (he := he) (hpl := hpl)
theorem ev_is_tuple (hm : X.mg "isinstance" = none) (hmT : X.mg "tuple" = none) (h : EvE X ex f) (hg : Gl X "isinstance" := by rfl) (hgT : Gl X "tuple" := by rfl)
    (he : starEach [ex, .Name "tuple" p2] X.env = (false, eval ex X.env) :: starEach [.Name "tuple" p2] X.env := by rfl) (hpl : (backTo pos (starEach [.Name "tuple" p2] X.env)).any (·.1) = false := by rfl) :
    EvE X (.Call (.Name "isinstance" p) [ex, .Name "tuple" p2] [] pos) (isiF "tuple" f) := ev_isi hg hm hgT hmT boot_tuple h (he := he) (hpl := hpl)
theorem ev_is_dict (hm : X.mg "isinstance" = none) (hmT : X.mg "dict" = none) (h : EvE X ex f) (hg : Gl X "isinstance" := by rfl) (hgT : Gl X "dict" := by rfl)
    (he : starEach [ex, .Name "dict" p2] X.env = (false, eval ex X.env) :: starEach [.Name "dict" p2] X.env := by rfl) (hpl : (backTo pos (starEach [.Name "dict" p2] X.env)).any (·.1) = false := by rfl) :
    EvE X (.Call (.Name "isinstance" p) [ex, .Name "dict" p2] [] pos) (isiF "dict" f) := ev_isi hg hm hgT hmT boot_dict h (he := he) (hpl := hpl)
theorem ei_range_1 {tg : Expr} (hm : X.mg "range" = none) (ha : EvA X [a] fa) (hg : Gl X "range" := by rfl) (hs : starEach [a] X.env = [(false, eval a X.env)] := by rfl) : EvI X tg (.Call (.Name "range" p) [a] [] pos) (ibF rg1 fa) := ei_range1 hg hm ha hs
theorem ei_range_2 {tg : Expr} (hm : X.mg "range" = none) (ha : EvA X [a, b] fa) (hg : Gl X "range" := by rfl) (hs : starEach [a, b] X.env = [(false, eval a X.env), (false, eval b X.env)] := by rfl) (hs2 : starEach [b] X.env = [(false, eval b X.env)] := by rfl) :
    EvI X tg (.Call (.Name "range" p) [a, b] [] pos) (ibF rg2 fa) := ei_range2 hg hm ha hs hs2
end

/-! ### the walked values of any kind -/
theorem PIor {X : Cx} {tg it : Expr} {t1 t2 : TI} (h1 : PI X tg it t1) (h2 : PI X tg it t2) : PI X tg it (fun σ H R => t1 σ H R ∨ t2 σ H R) :=
  ⟨fun pins s σ H R I h => h.elim (h1.run pins s σ H R I) (h2.run pins s σ H R I)⟩
def isQ : D → Bool
  | .list _ => true | .tuple _ => true | .str _ => true | _ => false
section
variable {X : Cx} {tg ex a : Expr} {f : FE} {fa : FA} {p pos tpos : Pos}
theorem ei_any (he : EvE X ex f) : EvI X tg ex (itF isQ f) := by
  refine PIimp (PIor (ei_list he) (PIor (ei_tup he) (ei_str he))) ?_
  rintro σ H R ⟨F, e, ds, e', gd, h, k⟩
  have h0 := h
  obtain ⟨⟨v1, e1⟩, h1, h⟩ := Option.bind_eq_some_iff.mp h
  obtain ⟨⟨d, e2⟩, h2, h⟩ := Option.bind_eq_some_iff.mp h
  have key : ∀ q : D → Bool, q d = true → itF q f e = some (ds, e') := fun q hq => by
    unfold itF
    rw [h1]
    show (fzn e1 v1.st).bind _ = _
    rw [h2]
    show (if q d = true then _ else _) = _
    rw [if_pos hq]
    dsimp only at h
    split at h
    · exact h
    · cases h
  cases d with
  | list ds' => exact .inl ⟨F, e, ds, e', gd, key isL rfl, k⟩
  | tuple ds' => exact .inr (.inl ⟨F, e, ds, e', gd, key isT rfl, k⟩)
  | str z => exact .inr (.inr ⟨F, e, ds, e', gd, key isS rfl, k⟩)
  | _ => cases h
/-- enumerate of a list or a text -/
def enF (fa : FA) : FI := fun e => (izF enD fa e).or (ibF enS fa e)
theorem ei_enum {elts : List Expr} {kk : Nat} (hm : X.mg "enumerate" = none) (ha : EvA X [a] fa) (ia : IsA fa) (hg : Gl X "enumerate" := by rfl) (hs : starEach [a] X.env = [(false, eval a X.env)] := by rfl) :
    EvI X (.Tuple elts kk tpos) (.Call (.Name "enumerate" p) [a] [] pos) (enF fa) := by
  refine PIimp (PIor (ei_enumL hg hm ha ia hs) (ei_enumS hg hm ha hs)) ?_
  rintro σ H R ⟨F, e, ds, e', gd, h, k⟩
  have h' : (izF enD fa e).or (ibF enS fa e) = some (ds, e') := h
  cases z : izF enD fa e with
  | some r => rw [z] at h'; cases h'; exact .inl ⟨F, e, ds, e', gd, z, k⟩
  | none => rw [z] at h'; exact .inr ⟨F, e, ds, e', gd, h', k⟩
end
section
variable {X : Cx} {x : Str} {pos pos' : Pos} {ex : Expr} {fe : FE}
theorem ev_v (i : Nat) (hN : X.N[i]? = some x := by rfl) (hv : Vis X.env.scope x := by first | exact Or.inl rfl | exact Or.inr (Or.inl rfl) | exact Or.inr (Or.inr rfl)) (hd : (x == ("__debug__" : Str)) = false := by decide)
    (hcd : (x == ("__classdict__" : Str)) = false := by decide) : EvE X (.Name x pos) (varF i) := ev_var hN hv hd hcd
theorem ev_s (i : Nat) (hN : X.N.Nodup) (he : EvE X ex fe) (hi : X.N[i]? = some x := by rfl) (hx : Loc X.env.scope x := by first | exact Or.inl rfl | exact Or.inr rfl) (hs : swapsWith ex (some (.Name x pos')) pos.line X.env = pure false := by rfl)
    (hf : X.fn x = true ∨ X.env.scope.names.lookup x = some .local := by first | exact .inl rfl | exact .inr rfl) : EvS X (.Assign [.Name x pos'] ex pos) (setF i fe) := ev_set hN hi hx he hs hf
theorem eg_n (i : Nat) (hN : X.N.Nodup) (hi : X.N[i]? = some x := by rfl) (hx : Loc X.env.scope x := by first | exact Or.inl rfl | exact Or.inr rfl) (hf : X.fn x = true ∨ X.env.scope.names.lookup x = some .local := by first | exact .inl rfl | exact .inr rfl) : EvG X (.Name x pos) (gnF i) := eg_name hN hi hx hf
theorem egw_n (i : Nat) (hN : X.N.Nodup) (hi : X.N[i]? = some x := by rfl) (hx : Loc X.env.scope x := by first | exact Or.inl rfl | exact Or.inr rfl) (hf : X.fn x = true ∨ X.env.scope.names.lookup x = some .local := by first | exact .inl rfl | exact .inr rfl) : EvGW X (.Name x pos) (gnF i) [i] := egw_name hN hi hx hf
end
end Sh
end Sh15__
section Sh16__
set_option Elab.async false
set_option linter.all false
set_option autoImplicit false
set_option maxRecDepth 100000
set_option maxHeartbeats 4000000
/-! Sh16: a law's end. -/
namespace Sh
open PySem L2 PySem.Spec PyProof.Rows

theorem ints_dfs {K : PySem.W.Frag} {F : Fz} {H : Hp} (ns : List Int) : DFs K F H (ns.map V.int) (ns.map .int) := by
  induction ns with
  | nil => exact .nil
  | cons n ns ih => exact .cons (.int n) ih
theorem law_sp {K : PySem.W.Frag} {H : Hp} {a : Addr} {ns : List Int} {m : FE} {E : XK} {e' : En} (h : m [.fz (.list (ns.map .int))] = some (.fz (.bool true), e')) (hS : SqL K H a (ns.map V.int)) :
    spF K 1 m [.ref a] H (fun v _ => v = .bl true) E := by
  refine ⟨rfl, fun b => b = a ∧ H a ≠ none, _, _, _, ?_, ?_, h, fun i z => (by cases z), fun F' H' v g s r n => ?_⟩
  · intro i io d q
    cases i with
    | zero => simp at q
    | succ i => simp at q
  · refine ⟨rfl, fun i d q => ?_, fun i io d q => ?_, fun i j io io' d d' b q => ?_, fun b q => ?_⟩
    · cases i with
      | zero =>
        simp at q
        subst q
        refine ⟨.ref a, rfl, .lst ?_ (ints_dfs ns)⟩
        rcases hS with hS | hS
        · refine .inl ⟨⟨rfl, ?_⟩, hS⟩
          rcases hS with hS | ⟨o, hS⟩ <;> rw [hS] <;> simp
        · exact .inr hS
      | succ i => simp at q
    · cases i with
      | zero => simp at q
      | succ i => simp at q
    · cases i with
      | zero => simp at q
      | succ i => simp at q
    · obtain ⟨rfl, q⟩ := q
      exact Option.ne_none_iff_exists'.mp q
  · cases r
    rfl
theorem fd_same {K : PySem.W.Frag} {x q x' q' : Str} {pa pa' : Arguments} {bd bd' : List Stmt} {sc sc' : Scope} {dv dv' : List V} {kw kw' : List (Str × V)} {f : Addr} {fd fd' : FuncData} (F : FunD K x q pa bd sc dv kw f fd) (F' : FunD K x' q' pa' bd' sc' dv' kw' f fd') : fd = fd' := by
  obtain ⟨_, _, _, _, _, _, _, _, _, _, _, h, _⟩ := F.ex
  obtain ⟨_, _, _, _, _, _, _, _, _, _, _, h', _⟩ := F'.ex
  have e := h.symm.trans h'
  injection e with e
  injection e with _ _ e _
  injection e
end Sh
end Sh16__
section Sh17__
set_option Elab.async false
set_option linter.all false
set_option autoImplicit false
set_option maxRecDepth 100000
set_option maxHeartbeats 4000000
/-! Sh17: the mirrors computed: one law for each combinator. -/
namespace Sh
open PySem L2 PySem.Spec PyProof.Rows

section
variable {e e1 e2 c : En} {i j n : Nat} {d d1 d2 : D} {f g h fa fb fc fo : FE} {t u : FT} {x y : FA} {a b : Int} {va : Va} {ms : List Bool} {m : FE}
@[simp] theorem rd_fz : rd e (.fz d) = some d := id rfl
@[simp] theorem rd_fr : rd e (.fr d) = some d := id rfl
@[simp] theorem rd_bo : rd e (.bo i) = match e[i]? with | some (.fz d) => some d | some (.ow _ d) => some d | _ => none := id rfl
@[simp] theorem fzn_fz : fzn e (.fz d) = some (d, e) := id rfl
@[simp] theorem st_fz : (Va.fz d).st = .fz d := id rfl
@[simp] theorem st_fr : (Va.fr d).st = .fz d := id rfl
@[simp] theorem st_bo : (Va.bo i).st = .bo i := id rfl
@[simp] theorem varF_ap : varF i e = match e[i]? with | some (.fz d) => some (.fz d, e) | some (.ow _ _) => some (.bo i, e) | _ => none := id rfl
@[simp] theorem conF_ap : conF d e = some (.fz d, e) := id rfl
@[simp] theorem binF_ap {k : D → D → Option Va} : binF k f g e = (f e).bind fun r1 => (g r1.2).bind fun r2 => (rd r2.2 r1.1).bind fun a => (rd r2.2 r2.1).bind fun b => (k a b).map fun r => (r, r2.2) := id rfl
@[simp] theorem tstF_ap : tstF f e = (f e).bind fun r => match r.1 with | .fz (.bool b) => some (b, r.2) | _ => none := id rfl
@[simp] theorem andT_ap : andT t u e = (t e).bind fun r => if r.1 = true then u r.2 else some (false, r.2) := id rfl
@[simp] theorem orT_ap : orT t u e = (t e).bind fun r => if r.1 = true then some (true, r.2) else u r.2 := id rfl
@[simp] theorem notT_ap : notT t e = (t e).map fun r => (!r.1, r.2) := id rfl
@[simp] theorem andE_ap : andE f g e = (tstF f e).bind fun r => if r.1 = true then g r.2 else some (.fz (.bool false), r.2) := id rfl
@[simp] theorem orE_ap : orE f g e = (tstF f e).bind fun r => if r.1 = true then some (.fz (.bool true), r.2) else g r.2 := id rfl
@[simp] theorem notE_ap : notE f e = (tstF f e).map fun r => (.fz (.bool (!r.1)), r.2) := id rfl
@[simp] theorem ifF_ap : ifF t f g e = (t e).bind fun r => if r.1 = true then f r.2 else g r.2 := id rfl
@[simp] theorem argN_ap : argN e = some ([], e) := id rfl
@[simp] theorem argC_ap : argC f x e = (f e).bind fun r => (x r.2).map fun q => (r.1.st :: q.1, q.2) := id rfl
@[simp] theorem fzAll_nil : fzAll [] e = some ([], e) := id rfl
@[simp] theorem tupF_ap : tupF x e = (x e).bind fun r => (fzAll r.1 r.2).bind fun q => if q.1.length ≤ sizeLine then some (.fz (.tuple q.1), q.2) else none := id rfl
@[simp] theorem lstF_ap : lstF x e = (x e).bind fun r => (fzAll r.1 r.2).bind fun q => if q.1.length ≤ sizeLine then some (.fr (.list q.1), q.2) else none := id rfl
@[simp] theorem rdAll_nil : rdAll e [] = some [] := id rfl
@[simp] theorem cbF_ap {k : List D → Option Va} : cbF k x e = (x e).bind fun r => (rdAll r.2 r.1).bind fun ds => (k ds).map fun v => (v, r.2) := id rfl
@[simp] theorem mbF_ap {T : String} {k : D → List D → Option Va} : mbF T k f x e = (f e).bind fun r => (rd r.2 r.1).bind fun o => if tyD T o = true then (x r.2).bind fun q => (rd q.2 r.1).bind fun o' => (rdAll q.2 q.1).bind fun ds => (k o' ds).map fun v => (v, q.2) else none := id rfl
@[simp] theorem slF_ap {k : D → Option Int → Option Int → Option Va} {lo hi : Option FE} : slF k f lo hi e = (f e).bind fun r => (prtF lo r.2).bind fun a => (prtF hi a.2).bind fun b => (rd b.2 r.1).bind fun d => (k d a.1 b.1).map fun v => (v, b.2) := id rfl
@[simp] theorem prtF_none : prtF none e = some (none, e) := id rfl
@[simp] theorem prtF_some : prtF (some f) e = (f e).bind fun r => match r.1 with | .fz (.int i) => some (some i, r.2) | _ => none := id rfl
@[simp] theorem unF_ap {k : D → Option Va} : unF k f e = (f e).bind fun r => (rd r.2 r.1).bind fun a => (k a).map fun v => (v, r.2) := id rfl
@[simp] theorem isiF_ap {T : String} : isiF T f e = (f e).bind fun r => (rd r.2 r.1).bind fun d => (isTy T d).map fun b => (.fz (.bool b), r.2) := id rfl
@[simp] theorem seqF_ap {f g : FS} : seqF f g e = (f e).bind fun o => match o with | .nx e1 => g e1 | o => some o := id rfl
@[simp] theorem ifS_ap {f g : FS} : ifS t f g e = (t e).bind fun r => if r.1 = true then f r.2 else g r.2 := id rfl
@[simp] theorem retF_ap : retF f e = (f e).map fun r => .rt r.1 r.2 := id rfl
@[simp] theorem setF_ap : setF i f e = (f e).bind fun r => (setSl i r.1 r.2).map .nx := id rfl
@[simp] theorem nopF_ap : nopF e = some (.nx e) := id rfl
@[simp] theorem drpF_ap : drpF f e = (f e).map fun r => .nx r.2 := id rfl
@[simp] theorem parS_ap : parS i j fa fb e = (fa e).bind fun r => if noBo r.1 = true then (fb r.2).bind fun q => if noBo q.1 = true then (setSl i r.1 q.2).bind fun e1 => (setSl j q.1 e1).map .nx else none else none := id rfl
@[simp] theorem asgF_ap {k : FG} : asgF f k e = (f e).bind fun r => (fzn r.2 r.1.st).bind fun q => (k q.1 q.2).map .nx := id rfl
@[simp] theorem gnF_ap : gnF i d e = setSl i (.fz d) e := id rfl
@[simp] theorem gsN_ap : gsN [] e = some e := id rfl
@[simp] theorem gsC_ap {k : FG} {l : List D → En → Option En} {ds : List D} : gsC k l (d :: ds) e = (k d e).bind (l ds) := id rfl
@[simp] theorem gtF_ap {l : List D → En → Option En} {ds : List D} : gtF n l (.tuple ds) e = if ds.length = n then l ds e else none := id rfl
@[simp] theorem noBo_fz : noBo (.fz d) = true := id rfl
@[simp] theorem noBo_fr : noBo (.fr d) = true := id rfl
@[simp] theorem add_ii : addD (.int a) (.int b) = some (.fz (.int (a + b))) := id rfl
@[simp] theorem sub_ii : subD (.int a) (.int b) = some (.fz (.int (a - b))) := id rfl
@[simp] theorem eqD_ap : eqD d1 d2 = (eqB d1 d2).map fun r => .fz (.bool r) := id rfl
@[simp] theorem neD_ap : neD d1 d2 = (eqB d1 d2).map fun r => .fz (.bool (!r)) := id rfl
@[simp] theorem inD_ap : inD d1 d2 = (inB d1 d2).map fun r => .fz (.bool r) := id rfl
@[simp] theorem niD_ap : niD d1 d2 = (inB d1 d2).map fun r => .fz (.bool (!r)) := id rfl
@[simp] theorem isD_ap : isD d1 d2 = (isB d1 d2).map fun r => .fz (.bool r) := id rfl
@[simp] theorem isntD_ap : isntD d1 d2 = (isB d1 d2).map fun r => .fz (.bool (!r)) := id rfl
@[simp] theorem isB_none : isB d .none = some (isNon d) := by cases d <;> rfl
@[simp] theorem isB_bl {b b' : Bool} : isB (.bool b) (.bool b') = some (b == b') := id rfl
@[simp] theorem eqB_ii : eqB (.int a) (.int b) = some (a == b) := id rfl
@[simp] theorem eqB_ss {a b : Str} : eqB (.str a) (.str b) = some (a == b) := id rfl
@[simp] theorem len_s {z : Str} : lenG [.str z] = some (.fz (.int z.length)) := id rfl
@[simp] theorem len_l {ds : List D} : lenG [.list ds] = some (.fz (.int ds.length)) := id rfl
@[simp] theorem len_t {ds : List D} : lenG [.tuple ds] = some (.fz (.int ds.length)) := id rfl
@[simp] theorem ix_l {ds : List D} : ixD (.list ds) (.int a) = (atI ds a).map .fz := id rfl
@[simp] theorem ix_t {ds : List D} : ixD (.tuple ds) (.int a) = (atI ds a).map .fz := id rfl
@[simp] theorem ix_s {z : Str} : ixD (.str z) (.int a) = (atI z.cps.toList a).map fun c => .fz (.str ⟨#[c]⟩) := id rfl
@[simp] theorem cut_s {z : Str} {lo hi : Option Int} : cutD (.str z) lo hi = some (.fz (.str (cutS z lo hi))) := id rfl
@[simp] theorem cut_l {ds : List D} {lo hi : Option Int} : cutD (.list ds) lo hi = some (.fr (.list (cutL ds lo hi))) := id rfl
@[simp] theorem cut_t {ds : List D} {lo hi : Option Int} : cutD (.tuple ds) lo hi = some (.fz (.tuple (cutL ds lo hi))) := id rfl
@[simp] theorem all_l {ds : List D} : allG [.list ds] = (boolsD ds).map fun ns => .fz (.bool (ns.all id)) := id rfl
@[simp] theorem sum_l {ds : List D} : sumG [.list ds] = (intsD ds).map fun ns => .fz (.int ns.sum) := id rfl
@[simp] theorem list_l {ds : List D} : listG [.list ds] = some (.fr (.list ds)) := id rfl
@[simp] theorem list_s {z : Str} : listG [.str z] = some (.fr (.list (signsD z))) := id rfl
@[simp] theorem int_i : intG [.int a] = some (.fz (.int a)) := id rfl
@[simp] theorem lt_ii : ltD (.int a) (.int b) = some (.fz (.bool (decide (a < b)))) := id rfl
@[simp] theorem le_ii : leD (.int a) (.int b) = some (.fz (.bool (decide (a ≤ b)))) := id rfl
@[simp] theorem gt_ii : gtD (.int a) (.int b) = some (.fz (.bool (decide (a > b)))) := id rfl
@[simp] theorem ge_ii : geD (.int a) (.int b) = some (.fz (.bool (decide (a ≥ b)))) := id rfl
@[simp] theorem itF_ap {p : D → Bool} : itF p f e = (f e).bind fun r => (fzn r.2 r.1.st).bind fun q => if p q.1 = true then (itemsD q.1).map fun ds => (ds, q.2) else none := id rfl
@[simp] theorem isQ_l {ds : List D} : isQ (.list ds) = true := id rfl
@[simp] theorem isQ_t {ds : List D} : isQ (.tuple ds) = true := id rfl
@[simp] theorem isQ_s {z : Str} : isQ (.str z) = true := id rfl
@[simp] theorem items_l {ds : List D} : itemsD (.list ds) = some ds := id rfl
@[simp] theorem items_t {ds : List D} : itemsD (.tuple ds) = some ds := id rfl
@[simp] theorem items_s {z : Str} : itemsD (.str z) = some (signsD z) := id rfl
@[simp] theorem ibF_ap {k : List D → Option (List D)} : ibF k x e = (x e).bind fun r => (rdAll r.2 r.1).bind fun ds => (k ds).map fun xs => (xs, r.2) := id rfl
@[simp] theorem yesT_ap : yesT e = some (true, e) := id rfl
end
/-- the frame's end, computed -/
@[simp] theorem finE_nil (e : En) : finE [] e = [] := by cases e <;> rfl
@[simp] theorem finE_fz {d : D} {c e : En} {s : Sl} : finE (.fz d :: c) (s :: e) = .un :: finE c e := id rfl
@[simp] theorem finE_un {c e : En} {s : Sl} : finE (.un :: c) (s :: e) = .un :: finE c e := id rfl
@[simp] theorem finE_ow {d : D} {c e : En} {s : Sl} : finE (.ow true d :: c) (s :: e) = s :: finE c e := id rfl
/-- a call, computed -/
@[simp] theorem preA_nil {e : En} : preA [] [] e = some ([], e) := id rfl
@[simp] theorem preA_no {ms : List Bool} {v : Va} {vs : List Va} {e : En} : preA (false :: ms) (v :: vs) e = (fzn e v).bind fun r => (preA ms vs r.2).map fun q => (.inl r.1 :: q.1, q.2) := id rfl
@[simp] theorem preA_io {ms : List Bool} {i : Nat} {vs : List Va} {e : En} : preA (true :: ms) (.bo i :: vs) e = (preA ms vs e).map fun q => (.inr i :: q.1, q.2) := id rfl
@[simp] theorem ixs_nil : ixs [] = [] := id rfl
@[simp] theorem ixs_l {d : D} {r : List Arg} : ixs (.inl d :: r) = ixs r := id rfl
@[simp] theorem ixs_r {i : Nat} {r : List Arg} : ixs (.inr i :: r) = i :: ixs r := id rfl
@[simp] theorem mkE_nil {e : En} : mkE e [] = some [] := id rfl
@[simp] theorem mkE_l {e : En} {d : D} {r : List Arg} : mkE e (.inl d :: r) = (mkE e r).map fun c => .fz d :: c := id rfl
@[simp] theorem mkE_r {e : En} {i : Nat} {r : List Arg} : mkE e (.inr i :: r) = match e[i]? with | some (.ow _ d) => (mkE e r).map fun c => .ow true d :: c | _ => none := id rfl
@[simp] theorem callF_ap {ms : List Bool} {m : FE} {fa : FA} {e : En} : callF ms m fa e = (fa e).bind fun r => (preA ms r.1 r.2).bind fun p => if (ixs p.1).Nodup then (mkE p.2 p.1).bind fun c => (m c).bind fun q => match q.1 with
  | .bo _ => none
  | va => some (va, bak p.1 q.2 p.2)
  else none := id rfl
@[simp] theorem fzAll_cons {v : Va} {vs : List Va} {e : En} : fzAll (v :: vs) e = (fzn e v).bind fun r => (fzAll vs r.2).map fun q => (r.1 :: q.1, q.2) := id rfl
@[simp] theorem rdAll_cons {v : Va} {vs : List Va} {e : En} : rdAll e (v :: vs) = (rd e v).bind fun d => (rdAll e vs).map fun ds => d :: ds := id rfl
@[simp] theorem fzn_fr {d : D} {e : En} : fzn e (.fr d) = some (d, e) := id rfl
@[simp] theorem fzn_bo {i : Nat} {e : En} : fzn e (.bo i) = match e[i]? with | some (.fz d) => some (d, e) | some (.ow false d) => some (d, e.set i (.fz d)) | _ => none := id rfl
@[simp] theorem bak_nil {c e : En} : bak [] c e = e := by unfold bak; rfl
@[simp] theorem bak_l {d : D} {r : List Arg} {s : Sl} {c e : En} : bak (.inl d :: r) (s :: c) e = bak r c e := id rfl
@[simp] theorem bak_r {i : Nat} {b : Bool} {d : D} {r : List Arg} {c e : En} : bak (.inr i :: r) (.ow b d :: c) e = match e[i]? with | some (.ow io _) => bak r c (e.set i (.ow io d)) | _ => e := id rfl
@[simp] theorem setSl_fz {i : Nat} {d : D} {e : En} : setSl i (.fz d) e = match e[i]? with | some (.ow true _) => none | some _ => some (e.set i (.fz d)) | none => none := id rfl
@[simp] theorem setSl_fr {i : Nat} {d : D} {e : En} : setSl i (.fr d) e = match e[i]? with | some (.ow true _) => none | some _ => some (e.set i (.ow false d)) | none => none := id rfl
@[simp] theorem mul_ii {a b : Int} : mulD (.int a) (.int b) = if (-(2 ^ 64) < a ∧ a < 2 ^ 64) ∨ (-(2 ^ 64) < b ∧ b < 2 ^ 64) then some (.fz (.int (a * b))) else none := id rfl
theorem mul_si {z : Str} {k : Int} : mulD (.str z) (.int k) = @ite _ (k < 2 ^ 20 ∧ -(2 ^ 20) < k ∧ z.length < 2 ^ 20 ∧ z.length * k.toNat ≤ sizeLine) (Classical.propDecidable _) (some (.fz (.str (repS z k)))) none := rfl
@[simp] theorem mod_ii {a b : Int} : modD (.int a) (.int b) = if 0 < b then some (.fz (.int (a % b))) else none := id rfl
@[simp] theorem fdiv_ii {a b : Int} : fdivD (.int a) (.int b) = if 0 < b ∧ b < 1073741824 then some (.fz (.int (a / b))) else none := id rfl
@[simp] theorem pow_ii {a b : Int} : powD (.int a) (.int b) = if 0 ≤ b ∧ b ≤ 1000000 ∧ a.natAbs < 2 ^ 64 then some (.fz (.int (a ^ b.toNat))) else none := id rfl
@[simp] theorem neg_i {a : Int} : negD (.int a) = some (.fz (.int (-a))) := id rfl
@[simp] theorem add_ss {a b : Str} : addD (.str a) (.str b) = if a.length + b.length ≤ sizeLine then some (.fz (.str (a ++ b))) else none := id rfl
@[simp] theorem abs_i {a : Int} : absG [.int a] = some (.fz (.int (if a < 0 then -a else a))) := id rfl
@[simp] theorem max_ii {a b : Int} : maxG [.int a, .int b] = some (.fz (.int (if b > a then b else a))) := id rfl
@[simp] theorem min_ii {a b : Int} : minG [.int a, .int b] = some (.fz (.int (if b < a then b else a))) := id rfl
@[simp] theorem divmod_ii {a b : Int} : divmodG [.int a, .int b] = if 0 < b ∧ b < 1073741824 then some (.fz (.tuple [.int (a / b), .int (a % b)])) else none := id rfl
@[simp] theorem inB_sign {c : Nat} {y : Str} : inB (.str ⟨#[c]⟩) (.str y) = some (decide (c ∈ y.cps.toList)) := id rfl
@[simp] theorem le_ss {a b : Str} : leD (.str a) (.str b) = some (.fz (.bool (!decide (b.cps.toList < a.cps.toList)))) := id rfl
@[simp] theorem ord_s {c : Nat} : ordG [.str ⟨#[c]⟩] = some (.fz (.int (c : Nat))) := id rfl
@[simp] theorem rev_s {z : Str} : revD2 (.str z) = some (.fz (.str ⟨z.cps.toList.reverse.toArray⟩)) := id rfl
@[simp] theorem gxF_ap {i : Nat} {f : FE} {d : D} {e : En} : gxF i f d e = if isOw e i = true then (f e).bind fun r => (rd r.2 r.1).bind fun j => setAt i j d r.2 else none := id rfl
@[simp] theorem chF_ap {g g' : D → D → Option Va} {fa fb fc : FE} {e : En} : chF g g' fa fb fc e = (fa e).bind fun r1 => (fb r1.2).bind fun r2 => (rd r2.2 r1.1).bind fun a => (rd r2.2 r2.1).bind fun b => (g a b).bind fun z => match z with
  | .fz (.bool k) => if k = true then (fc r2.2).bind fun r3 => (rd r3.2 r2.1).bind fun b' => (rd r3.2 r3.1).bind fun c => (g' b' c).map fun r => (r, r3.2) else some (.fz (.bool false), r2.2)
  | _ => none := by
  unfold chF
  congr 1; funext r1
  congr 1; funext r2
  congr 1; funext a
  congr 1; funext b
  congr 1; funext z
  cases z with
  | fz d => cases d with
    | bool k => cases k <;> rfl
    | _ => rfl
  | _ => rfl
@[simp] theorem setAt_ap {i : Nat} {k : Int} {d : D} {e : En} {io : Bool} {ds : List D} (h : e[i]? = some (.ow io (.list ds))) : setAt i (.int k) d e = (ixN ds.length k).map fun n => e.set i (.ow io (.list (ds.set n d))) := by
  unfold setAt
  rw [h]
/-! ### texts as lists of signs -/
theorem boolsD_mapf {α : Type} (p : α → Bool) (l : List α) : boolsD (l.map fun c => .bool (p c)) = some (l.map p) := by
  have := boolsD_map (l.map p)
  rw [List.map_map] at this
  exact this
theorem intsD_mapf {α : Type} (p : α → Int) (l : List α) : intsD (l.map fun c => .int (p c)) = some (l.map p) := by
  have := intsD_map (l.map p)
  rw [List.map_map] at this
  exact this
theorem strsD_mapf {α : Type} (p : α → Str) (l : List α) : strsD (l.map fun c => .str (p c)) = some (l.map p) := by
  have := strsD_map (l.map p)
  rw [List.map_map] at this
  exact this
/-! ### comprehensions -/
theorem cmpL_map {g : FG} {ft : FT} {fe : FE} {vs : List Nat} {e0 : En} {φ : D → D} : ∀ {ds : List D},
    (∀ d ∈ ds, ∃ e1 e2 va e3 e4, g d e0 = some e1 ∧ ft e1 = some (true, e2) ∧ fe e2 = some (va, e3) ∧ fzn e3 va.st = some (φ d, e4) ∧ wipeE e4 vs = e0) → cmpL g ft fe vs ds e0 = some (ds.map φ, e0)
  | [], _ => rfl
  | d :: ds, h => by
    obtain ⟨e1, e2, va, e3, e4, h1, h2, h3, h4, h5⟩ := h d (List.mem_cons_self ..)
    have ih := cmpL_map (g := g) (ft := ft) (fe := fe) (vs := vs) (e0 := e0) (φ := φ) (ds := ds) fun d' hd => h d' (List.mem_cons_of_mem _ hd)
    simp [cmpL, h1, h2, h3, h4, h5, ih]
/-- with an invariant of the names, and what each item is -/
theorem cmpL_inv {g : FG} {ft : FT} {fe : FE} {vs : List Nat} {I : En → Prop} {P : D → D → Prop} : ∀ {ds : List D} {e0 : En}, I e0 →
    (∀ d ∈ ds, ∀ e, I e → ∃ e1 e2 va e3 q e4, g d e = some e1 ∧ ft e1 = some (true, e2) ∧ fe e2 = some (va, e3) ∧ fzn e3 va.st = some (q, e4) ∧ P d q ∧ I (wipeE e4 vs)) → ∃ qs e', cmpL g ft fe vs ds e0 = some (qs, e') ∧ Paired P ds qs ∧ I e'
  | [], e0, i, _ => ⟨[], e0, rfl, .nil, i⟩
  | d :: ds, e0, i, h => by
    obtain ⟨e1, e2, va, e3, q, e4, h1, h2, h3, h4, h5, h6⟩ := h d (List.mem_cons_self ..) e0 i
    obtain ⟨qs, e', k1, k2, k3⟩ := cmpL_inv h6 fun d' hd => h d' (List.mem_cons_of_mem _ hd)
    exact ⟨q :: qs, e', by simp [cmpL, h1, h2, h3, h4, k1], .cons h5 k2, k3⟩
@[simp] theorem cmpF_ap {i : FI} {g : FG} {ft : FT} {fe : FE} {vs : List Nat} {e : En} : cmpF i g ft fe vs e = (i e).bind fun r => if r.1.length ≤ sizeLine then (cmpL g ft fe vs r.1 (wipeE r.2 vs)).map fun q => (.fr (.list q.1), resE r.2 q.2 vs) else none := id rfl
/-! ### loops -/
@[simp] theorem forS_ap {i : FI} {g : FG} {b : FS} {e : En} : forS i g b e = (i e).bind fun r => forL g b r.1 r.2 := id rfl
/-- a loop that is never left -/
theorem forL_inv {g : FG} {b : FS} {I : En → Prop} : ∀ {ds : List D} {e : En}, I e → (∀ d ∈ ds, ∀ e, I e → ∃ e1 e2, g d e = some e1 ∧ (b e1 = some (.nx e2) ∨ b e1 = some (.ct e2)) ∧ I e2) → ∃ e', forL g b ds e = some (.nx e') ∧ I e'
  | [], e, i, _ => ⟨e, rfl, i⟩
  | d :: ds, e, i, h => by
    obtain ⟨e1, e2, h1, h2, h3⟩ := h d (List.mem_cons_self ..) e i
    obtain ⟨e', k1, k2⟩ := forL_inv h3 fun d' hd => h d' (List.mem_cons_of_mem _ hd)
    refine ⟨e', ?_, k2⟩
    rcases h2 with h2 | h2 <;> simp [forL, h1, h2, k1]
theorem set_self {e0 : En} {i : Nat} {s : Sl} (h : e0[i]? = some s) : e0.set i s = e0 := by
  refine List.ext_getElem? fun j => ?_
  rw [List.getElem?_set]
  obtain ⟨h1, h2⟩ := List.getElem?_eq_some_iff.mp h
  by_cases z : i = j
  · subst z
    rw [if_pos rfl, if_pos h1, h]
  · rw [if_neg z]
/-- [c in K for c in z] -/
theorem cmp_signs {i : Nat} {k z : Str} {e0 : En} (h0 : e0[i]? = some .un) : cmpL (gnF i) yesT (binF inD (varF i) (conF (.str k))) [i] (signsD z) e0 = some (z.cps.toList.map fun c => .bool (decide (c ∈ k.cps)), e0) := by
  have hi : i < e0.length := (List.getElem?_eq_some_iff.mp h0).1
  have h := cmpL_map (g := gnF i) (ft := yesT) (fe := binF inD (varF i) (conF (.str k))) (vs := [i]) (e0 := e0) (ds := signsD z) (φ := fun d => match inB d (.str k) with | some b => .bool b | none => .none) (by
    intro d hd
    obtain ⟨c, _, rfl⟩ := List.mem_map.mp hd
    refine ⟨e0.set i (.fz (.str ⟨#[c]⟩)), _, .fz (.bool (decide (c ∈ k.cps))), e0.set i (.fz (.str ⟨#[c]⟩)), e0.set i (.fz (.str ⟨#[c]⟩)), by simp [h0], rfl, ?_, by simp, ?_⟩
    · simp [List.getElem?_set_self hi]
    · show (e0.set i _).set i .un = e0
      rw [List.set_set, set_self h0])
  rw [h]
  unfold signsD
  rw [List.map_map]
  simp [Function.comp_def]
theorem cutS_S (l : List Nat) (lo hi : Option Int) : cutS ⟨l.toArray⟩ lo hi = ⟨(cutL l lo hi).toArray⟩ := by
  unfold cutS cutL
  simp [Str.length]
theorem cutL_from {α : Type} (l : List α) (k : Nat) : cutL l (some (k : Int)) none = l.drop k := by
  unfold cutL
  rw [HT.sIx_nat]
  show (l.drop (min k l.length)).take (l.length - min k l.length) = _
  rcases Nat.le_total k l.length with h | h
  · rw [Nat.min_eq_left h]
    exact List.take_of_length_le (by simp)
  · rw [Nat.min_eq_right h]
    simp [List.drop_of_length_le h]
theorem cutL_to {α : Type} (l : List α) (k : Nat) : cutL l none (some (k : Int)) = l.take k := by
  unfold cutL
  rw [HT.sIx_nat]
  show (l.drop 0).take (min k l.length - 0) = _
  rw [List.drop_zero, Nat.sub_zero]
  rcases Nat.le_total k l.length with h | h
  · rw [Nat.min_eq_left h]
  · rw [Nat.min_eq_right h, List.take_of_length_le (Nat.le_refl _), List.take_of_length_le h]
theorem cutL_mid {α : Type} (l : List α) (a b : Nat) : cutL l (some (a : Int)) (some (b : Int)) = (l.drop a).take (b - a) := by
  unfold cutL
  rw [HT.sIx_nat, HT.sIx_nat]
  rcases Nat.le_total a l.length with h | h
  · rw [Nat.min_eq_left h]
    rcases Nat.le_total b l.length with h2 | h2
    · rw [Nat.min_eq_left h2]
    · rw [Nat.min_eq_right h2, List.take_of_length_le (by simp), List.take_of_length_le (by simp; omega)]
  · rw [Nat.min_eq_right h]
    simp [List.drop_of_length_le h]
theorem cutL_but {α : Type} (l : List α) (k : Nat) (hk : 0 < k) : cutL l none (some (-(k : Int))) = l.take (l.length - k) := by
  unfold cutL
  show (l.drop 0).take ((if -(k : Int) < 0 then (-(k : Int) + (l.length : Int)).toNat else min (-(k : Int)).toNat l.length) - 0) = _
  rw [if_pos (by omega), List.drop_zero, Nat.sub_zero]
  congr 1
  omega
theorem cutL_last {α : Type} (l : List α) (k : Nat) (hk : 0 < k) : cutL l (some (-(k : Int))) none = l.drop (l.length - k) := by
  unfold cutL
  show (l.drop (if -(k : Int) < 0 then (-(k : Int) + (l.length : Int)).toNat else min (-(k : Int)).toNat l.length)).take (l.length - (if -(k : Int) < 0 then (-(k : Int) + (l.length : Int)).toNat else min (-(k : Int)).toNat l.length)) = _
  rw [if_pos (by omega)]
  have : (-(k : Int) + (l.length : Int)).toNat = l.length - k := by omega
  rw [this]
  exact List.take_of_length_le (by simp)
end Sh
end Sh17__
section Sh18__
set_option Elab.async false
set_option linter.all false
set_option autoImplicit false
set_option maxRecDepth 100000
set_option maxHeartbeats 4000000
/-! Sh18: texts as lists of signs: split, join, numbers. -/
namespace Sh
open PySem L2 PySem.Spec PyProof.Rows SX

theorem sz16 : (sizeLine : Nat) = 16777216 := sizeLine_eq
abbrev spl1 (s : Nat) (l : List Nat) : List (List Nat) := TL.spl [s] 0 [] l
theorem pre1 (s c : Nat) (r : List Nat) : TL.pre [s] (c :: r) = (c == s) := by
  show ([c] == [s]) = _
  by_cases h : c = s <;> simp [h]
theorem spl_ne (s : Nat) : ∀ (l acc : List Nat), TL.spl [s] 0 acc l ≠ []
  | [], acc => by rw [TL.spl_nil]; exact List.cons_ne_nil _ _
  | c :: r, acc => by
    by_cases h : c = s
    · rw [TL.spl_hit (by rw [pre1, h]; exact beq_self_eq_true _)]
      exact List.cons_ne_nil _ _
    · rw [TL.spl_miss (by rw [pre1]; exact beq_eq_false_iff_ne.mpr h)]
      exact spl_ne s r _
theorem joinL_cons {S p : List Nat} {X : List (List Nat)} (h : X ≠ []) : TL.joinL S (p :: X) = p ++ (S ++ TL.joinL S X) := by
  cases X with
  | nil => exact absurd rfl h
  | cons q r => rfl
theorem join_spl (s : Nat) : ∀ (l acc : List Nat), TL.joinL [s] (TL.spl [s] 0 acc l) = acc ++ l
  | [], acc => by rw [TL.spl_nil, List.append_nil]; rfl
  | c :: r, acc => by
    by_cases h : c = s
    · rw [TL.spl_hit (by rw [pre1, h]; exact beq_self_eq_true _), show ([s] : List Nat).length - 1 = 0 from rfl, joinL_cons (spl_ne s r []), join_spl s r [], h]
      rfl
    · rw [TL.spl_miss (by rw [pre1]; exact beq_eq_false_iff_ne.mpr h), join_spl s r]
      simp
theorem spl_free (s : Nat) : ∀ (l acc : List Nat), s ∉ acc → ∀ p ∈ TL.spl [s] 0 acc l, s ∉ p
  | [], acc, h => by
    rw [TL.spl_nil]
    intro p hp
    simp at hp
    subst hp
    exact h
  | c :: r, acc, h => by
    by_cases hc : c = s
    · rw [TL.spl_hit (by rw [pre1, hc]; exact beq_self_eq_true _)]
      intro p hp
      rcases List.mem_cons.mp hp with z | z
      · subst z; exact h
      · exact spl_free s r [] (by simp) p z
    · rw [TL.spl_miss (by rw [pre1]; exact beq_eq_false_iff_ne.mpr hc)]
      exact spl_free s r _ (by
        intro z
        rcases List.mem_append.mp z with z | z
        · exact h z
        · simp at z
          exact hc z.symm)
theorem spl_sub (s : Nat) : ∀ (l acc : List Nat), ∀ p ∈ TL.spl [s] 0 acc l, ∀ c ∈ p, c ∈ acc ∨ c ∈ l
  | [], acc => by
    rw [TL.spl_nil]
    intro p hp c hc
    simp at hp
    subst hp
    exact .inl hc
  | x :: r, acc => by
    by_cases hx : x = s
    · rw [TL.spl_hit (by rw [pre1, hx]; exact beq_self_eq_true _)]
      intro p hp c hc
      rcases List.mem_cons.mp hp with z | z
      · subst z; exact .inl hc
      · rcases spl_sub s r [] p z c hc with y | y
        · simp at y
        · exact .inr (List.mem_cons_of_mem _ y)
    · rw [TL.spl_miss (by rw [pre1]; exact beq_eq_false_iff_ne.mpr hx)]
      intro p hp c hc
      rcases spl_sub s r _ p hp c hc with y | y
      · rcases List.mem_append.mp y with y | y
        · exact .inl y
        · simp at y
          subst y
          exact .inr (List.mem_cons_self ..)
      · exact .inr (List.mem_cons_of_mem _ y)
theorem len_join (S : List Nat) : ∀ (ps : List (List Nat)) (p : List Nat), p ∈ ps → p.length ≤ (TL.joinL S ps).length
  | [], p, h => by simp at h
  | [q], p, h => by
    simp at h
    subst h
    exact Nat.le_refl _
  | q :: r :: ps, p, h => by
    show _ ≤ (q ++ (S ++ TL.joinL S (r :: ps))).length
    rw [List.length_append, List.length_append]
    rcases List.mem_cons.mp h with z | z
    · subst z; omega
    · have := len_join S (r :: ps) p z
      omega
theorem spl_len {s : Nat} {l p : List Nat} (h : p ∈ spl1 s l) : p.length ≤ l.length := by
  have := len_join [s] _ p h
  rw [join_spl] at this
  exact this
theorem spl_many {s : Nat} : ∀ (l acc : List Nat), (TL.spl [s] 0 acc l).length ≤ l.length + 1
  | [], acc => by rw [TL.spl_nil]; simp
  | c :: r, acc => by
    by_cases h : c = s
    · rw [TL.spl_hit (by rw [pre1, h]; exact beq_self_eq_true _)]
      have := spl_many (s := s) r []
      simp
      exact this
    · rw [TL.spl_miss (by rw [pre1]; exact beq_eq_false_iff_ne.mpr h)]
      have := spl_many (s := s) r (acc ++ [c])
      simp
      omega
theorem splitM_S {l : List Nat} {s : Nat} (hs : s < 256) (hl : l.length ≤ 1000000) : splitM (.str (S l)) [.str (S [s])] = some (.fr (.list ((spl1 s l).map fun p => .str (S p)))) := by
  have e : Txt.split (S l) (S [s]) = (spl1 s l).map S := split_S (List.cons_ne_nil _ _) (by simp [hs])
  show (if _ ∧ _ ∧ ((Txt.split (S l) (S [s])).all fun z => decide (z.length ≤ sizeLine)) = true then some (Va.fr (.list ((Txt.split (S l) (S [s])).map .str))) else none) = _
  rw [e]
  rw [if_pos]
  · rw [List.map_map]; rfl
  · refine ⟨rfl, by rw [S_len, sz16]; omega, ?_⟩
    rw [List.all_eq_true]
    intro z hz
    obtain ⟨p, hp, rfl⟩ := List.mem_map.mp hz
    have := spl_len hp
    rw [decide_eq_true_eq, S_len, sz16]
    omega
theorem joinL_len (S : List Nat) : ∀ ps : List (List Nat), (TL.joinL S ps).length ≤ (ps.map (·.length)).sum + ps.length * S.length
  | [] => by simp [TL.joinL]
  | [q] => by simp [TL.joinL]
  | q :: r :: ps => by
    have := joinL_len S (r :: ps)
    show (q ++ (S ++ TL.joinL S (r :: ps))).length ≤ _
    rw [List.length_append, List.length_append]
    simp only [List.map_cons, List.sum_cons, List.length_cons, Nat.add_mul, Nat.one_mul] at this ⊢
    omega
theorem joinM_S {a : List Nat} {ps : List (List Nat)} (h : (ps.map (·.length)).sum + ps.length * a.length ≤ 1000000) : joinM (.str (S a)) [.list (ps.map fun p => .str (S p))] = some (.fz (.str (S (TL.joinL a ps)))) := by
  have e : Txt.join (S a) (ps.map S) = S (TL.joinL a ps) := join_S a ps
  have e2 : strsD (ps.map fun p => .str (S p)) = some (ps.map S) := strsD_mapf S ps
  have l1 : (ps.map S).map (·.length) = ps.map (·.length) := lens ps
  have l2 := joinL_len a ps
  show (strsD _).bind _ = _
  rw [e2]
  show (if _ then some (Va.fz (.str (Txt.join (S a) (ps.map S)))) else none) = _
  rw [e, if_pos]
  refine ⟨?_, by rw [S_len, sz16]; omega⟩
  rw [l1, List.length_map, S_len]
  omega
theorem strG_nat {n : Nat} (h : n < 10 ^ 18) : strG [.int (n : Nat)] = some (.fz (.str (S (TL.numL n)))) := by
  have e : (Str.ofString (toString ((n : Nat) : Int))) = S (TL.numL n) := num_S n
  show (if ((n : Nat) : Int).natAbs.log2 < 1920 then some (Va.fz (.str (Str.ofString (toString ((n : Nat) : Int))))) else none) = _
  rw [if_pos]
  · exact congrArg (fun z => some (Va.fz (.str z))) e
  · show n.log2 < 1920
    have h2 : n < 2 ^ 64 := Nat.lt_trans h (by decide)
    by_cases z : n = 0
    · subst z; decide
    · have := (Nat.log2_lt z).mpr h2
      omega
end Sh
end Sh18__
section K26w__
set_option Elab.async false
set_option linter.all false
set_option autoImplicit false
set_option maxRecDepth 100000
set_option maxHeartbeats 4000000
namespace K26
open PySem L2 PySem.Spec PyProof.Rows Sh
/-! ### the text's defs, their mirrors (printed by gen.py) -/
abbrev Lw : PySem.W.OpenLaw := PySem.Challenge.rw_contesthouse_k26_whole_texts_of_slips_sp
def top (i : Nat) : Stmt := Lw.prog.main.body.getD i (.Pass ⟨0, 0, 0, 0⟩)
abbrev s_is_tuple : Stmt := top 3
abbrev s_is_integer : Stmt := top 1
abbrev s_is_within : Stmt := top 2
abbrev s_is_name_value : Stmt := top 14
abbrev s_is_slip_value : Stmt := top 23
abbrev s_body_of : Stmt := top 26
abbrev s_padded : Stmt := top 24
abbrev s_check_in : Stmt := top 25
abbrev s_text_of : Stmt := top 27
abbrev s_slip_text : Stmt := top 30
abbrev s_is_printed : Stmt := top 22
abbrev s_check_of : Stmt := top 32
abbrev s_is_slip : Stmt := top 29
abbrev s__law_pot : Stmt := top 34
abbrev s__law_padded : Stmt := top 38
abbrev s__law_check : Stmt := top 39
abbrev s_number_in : Stmt := top 15
abbrev s_slip_in : Stmt := top 28
abbrev s_slip_of_text : Stmt := top 31
abbrev s__law_draw : Stmt := top 35
abbrev s__law_pick : Stmt := top 36
abbrev s__law_sign : Stmt := top 45
abbrev s__law_is_number : Stmt := top 42
abbrev s__law_is_name : Stmt := top 43
abbrev s__law_read : Stmt := top 44
abbrev s__law_text_right : Stmt := top 46
abbrev s__law_name : Stmt := top 40
abbrev s__law_slip : Stmt := top 41
abbrev s_law : Stmt := top 47
def fr : List Str := ["isinstance", "tuple", "len", "str", "int", "bool", "all", "ord", "sum", "enumerate", "range", "max", "min", "abs", "repr", "divmod", "list"]
def cs : List Co := [⟨"SLIP", (.str "slip")⟩, ⟨"MOST_NUMBER", (.int 99)⟩, ⟨"MOST_NAME", (.int 12)⟩, ⟨"LETTERS", (.str "abcdefghijklmnopqrstuvwxyz")⟩, ⟨"VERBS", (.tuple [(.str "yields"), (.str "draws"), (.str "beats")])⟩, ⟨"DIGITS_slips", (.int 3)⟩, ⟨"PRIME", (.int 997)⟩, ⟨"MINUS", (.str "-")⟩, ⟨"MOST_DIGITS", (.int 13)⟩, ⟨"DIGITS_forms", (.str "0123456789")⟩]
def fn : List He.DefD := [defD "is_tuple" s_is_tuple, defD "is_integer" s_is_integer, defD "is_within" s_is_within, defD "is_name_value" s_is_name_value, defD "is_slip_value" s_is_slip_value, defD "body_of" s_body_of, defD "padded" s_padded, defD "check_in" s_check_in, defD "text_of" s_text_of, defD "slip_text" s_slip_text, defD "is_printed" s_is_printed, defD "check_of" s_check_of, defD "is_slip" s_is_slip, defD "_law_pot" s__law_pot, defD "_law_padded" s__law_padded, defD "_law_check" s__law_check, defD "number_in" s_number_in, defD "slip_in" s_slip_in, defD "slip_of_text" s_slip_of_text, defD "_law_draw" s__law_draw, defD "_law_pick" s__law_pick, defD "_law_sign" s__law_sign, defD "_law_is_number" s__law_is_number, defD "_law_is_name" s__law_is_name, defD "_law_read" s__law_read, defD "_law_text_right" s__law_text_right, defD "_law_name" s__law_name, defD "_law_slip" s__law_slip, defD "law" s_law]
noncomputable def m_is_tuple : FS := (retF (andE (isiF "tuple" (varF 0)) (binF eqD (cbF lenG (argC (varF 0) argN)) (varF 1))))
noncomputable def M_is_tuple : FE := funF 0 m_is_tuple
noncomputable def m_is_integer : FS := (retF (andE (isiF "int" (varF 0)) (notE (isiF "bool" (varF 0)))))
noncomputable def M_is_integer : FE := funF 0 m_is_integer
noncomputable def m_is_within : FS := (retF (andE (callF [false] M_is_integer (argC (varF 0) argN)) (chF leD leD (varF 1) (varF 0) (varF 2))))
noncomputable def M_is_within : FE := funF 0 m_is_within
noncomputable def m_is_name_value : FS := (retF (andE (isiF "str" (varF 0)) (andE (chF leD leD (conF (.int 1)) (cbF lenG (argC (varF 0) argN)) (conF (.int 12))) (cbF allG (argC (cmpF (itF isQ (varF 0)) (gnF 1) yesT (binF inD (varF 1) (conF (.str "abcdefghijklmnopqrstuvwxyz"))) [1]) argN)))))
noncomputable def M_is_name_value : FE := funF 1 m_is_name_value
noncomputable def m_is_slip_value : FS := (seqF (ifS (orT (notT (tstF (callF [false, false] M_is_tuple (argC (varF 0) (argC (conF (.int 6)) argN))))) (orT (notT (tstF (isiF "str" (binF ixD (varF 0) (conF (.int 0)))))) (tstF (binF neD (binF ixD (varF 0) (conF (.int 0))) (conF (.str "slip"))))))
  (retF (conF (.bool false)))
  nopF)
  (seqF (ifS (orT (notT (tstF (callF [false, false, false] M_is_within (argC (binF ixD (varF 0) (conF (.int 1))) (argC (conF (.int 0)) (argC (conF (.int 99)) argN)))))) (notT (tstF (callF [false, false, false] M_is_within (argC (binF ixD (varF 0) (conF (.int 5))) (argC (conF (.int 0)) (argC (conF (.int 99)) argN)))))))
  (retF (conF (.bool false)))
  nopF)
  (seqF (ifS (notT (tstF (callF [false, false, false] M_is_within (argC (binF ixD (varF 0) (conF (.int 4))) (argC (conF (.int 0)) (argC (conF (.int 2)) argN))))))
  (retF (conF (.bool false)))
  nopF)
  (retF (andE (callF [false] M_is_name_value (argC (binF ixD (varF 0) (conF (.int 2))) argN)) (andE (callF [false] M_is_name_value (argC (binF ixD (varF 0) (conF (.int 3))) argN)) (binF neD (binF ixD (varF 0) (conF (.int 2))) (binF ixD (varF 0) (conF (.int 3))))))))))
noncomputable def M_is_slip_value : FE := funF 0 m_is_slip_value
noncomputable def m_body_of : FS := (retF (mbF "str" joinM (conF (.str " ")) (argC (lstF (argC (cbF strG (argC (binF ixD (varF 0) (conF (.int 1))) argN)) (argC (binF ixD (varF 0) (conF (.int 2))) (argC (binF ixD (conF (.tuple [(.str "yields"), (.str "draws"), (.str "beats")])) (binF ixD (varF 0) (conF (.int 4)))) (argC (binF ixD (varF 0) (conF (.int 3))) (argC (cbF strG (argC (binF ixD (varF 0) (conF (.int 5))) argN)) argN)))))) argN)))
noncomputable def M_body_of : FE := funF 0 m_body_of
noncomputable def m_padded : FS := (seqF (setF 1 (cbF strG (argC (varF 0) argN)))
  (retF (binF addD (binF mulD (conF (.str "0")) (binF subD (conF (.int 3)) (cbF lenG (argC (varF 1) argN)))) (varF 1))))
noncomputable def M_padded : FE := funF 1 m_padded
noncomputable def m_check_in : FS := (seqF (setF 1 (cmpF (itF isQ (varF 0)) (gnF 3) yesT (binF subD (cbF ordG (argC (varF 3) argN)) (cbF ordG (argC (conF (.str " ")) argN))) [3]))
  (seqF (setF 2 (cbF sumG (argC (cmpF (enF (argC (varF 1) argN)) (gtF 2 (gsC (gnF 4) (gsC (gnF 5) gsN))) yesT (binF mulD (varF 5) (binF addD (varF 4) (conF (.int 1)))) [4, 5]) argN)))
  (retF (binF addD (callF [false] M_padded (argC (binF modD (cbF sumG (argC (varF 1) argN)) (conF (.int 997))) argN)) (callF [false] M_padded (argC (binF modD (varF 2) (conF (.int 997))) argN))))))
noncomputable def M_check_in : FE := funF 5 m_check_in
noncomputable def m_text_of : FS := (seqF (setF 1 (callF [false] M_body_of (argC (varF 0) argN)))
  (retF (binF addD (binF addD (varF 1) (conF (.str " "))) (callF [false] M_check_in (argC (varF 1) argN)))))
noncomputable def M_text_of : FE := funF 1 m_text_of
noncomputable def m_slip_text : FS := (seqF (ifS (notT (tstF (callF [false] M_is_slip_value (argC (varF 0) argN))))
  nevF
  nopF)
  (retF (callF [false] M_text_of (argC (varF 0) argN))))
noncomputable def M_slip_text : FE := funF 0 m_slip_text
noncomputable def m_is_printed : FS := (retF (andE (isiF "str" (varF 0)) (cbF allG (argC (cmpF (itF isQ (varF 0)) (gnF 1) yesT (chF leD leD (conF (.str " ")) (varF 1) (conF (.str "~"))) [1]) argN))))
noncomputable def M_is_printed : FE := funF 1 m_is_printed
noncomputable def m_check_of : FS := (seqF (ifS (notT (tstF (callF [false] M_is_printed (argC (varF 0) argN))))
  nevF
  nopF)
  (retF (callF [false] M_check_in (argC (varF 0) argN))))
noncomputable def M_check_of : FE := funF 0 m_check_of
noncomputable def m_is_slip : FS := (retF (callF [false] M_is_slip_value (argC (varF 0) argN)))
noncomputable def M_is_slip : FE := funF 0 m_is_slip
noncomputable def m__law_pot : FS := (seqF (setF 2 (binF addD (binF mulD (conF (.int 3911)) (varF 1)) (conF (.int 12739))))
  (seqF (ifS (tstF (binF ltD (varF 1) (cbF lenG (argC (varF 0) argN))))
  (setF 2 (cbF absG (argC (binF ixD (varF 0) (varF 1)) argN)))
  nopF)
  (retF (lstF (argC (cbF maxG (argC (conF (.int 0)) (argC (binF subD (varF 2) (binF powD (conF (.int 10)) (conF (.int 18)))) argN))) (argC (binF addD (binF modD (cbF intG (argC (binF addD (binF addD (binF mulD (binF modD (cbF intG (argC (varF 2) argN)) (conF (.int 2147483549))) (conF (.int 40014))) (binF mulD (conF (.int 12739)) (varF 1))) (conF (.int 61))) argN)) (conF (.int 2147483563))) (conF (.int 1))) argN))))))
noncomputable def M__law_pot : FE := funF 1 m__law_pot
noncomputable def m__law_padded : FS := (retF (slF cutD (binF addD (conF (.str "00")) (cbF strG (argC (varF 0) argN))) (some (unF negD (conF (.int 3)))) none))
noncomputable def M__law_padded : FE := funF 0 m__law_padded
noncomputable def m__law_check : FS := (seqF (asgF (tupF (argC (conF (.int 0)) (argC (conF (.int 0)) argN))) (gtF 2 (gsC (gnF 1) (gsC (gnF 2) gsN))))
  (seqF (forS (enF (argC (varF 0) argN)) (gtF 2 (gsC (gnF 3) (gsC (gnF 4) gsN)))
  (parS 1 2 (binF subD (binF addD (varF 1) (cbF ordG (argC (varF 4) argN))) (conF (.int 32))) (binF addD (varF 2) (binF mulD (binF subD (cbF ordG (argC (varF 4) argN)) (conF (.int 32))) (binF addD (varF 3) (conF (.int 1)))))))
  (retF (binF addD (callF [false] M__law_padded (argC (cbF intG (argC (binF modD (varF 1) (conF (.int 997))) argN)) argN)) (callF [false] M__law_padded (argC (cbF intG (argC (binF modD (varF 2) (conF (.int 997))) argN)) argN))))))
noncomputable def M__law_check : FE := funF 4 m__law_check
noncomputable def m_number_in : FS := (seqF (setF 1 (ifF (tstF (binF eqD (slF cutD (varF 0) none (some (conF (.int 1)))) (conF (.str "-")))) (slF cutD (varF 0) (some (conF (.int 1))) none) (varF 0)))
  (seqF (ifS (orT (tstF (binF eqD (varF 1) (conF (.str "")))) (orT (tstF (binF gtD (cbF lenG (argC (varF 1) argN)) (conF (.int 13)))) (notT (tstF (cbF allG (argC (cmpF (itF isQ (varF 1)) (gnF 2) yesT (binF inD (varF 2) (conF (.str "0123456789"))) [2]) argN))))))
  (retF (conF .none))
  nopF)
  (seqF (ifS (andT (tstF (binF eqD (binF ixD (varF 1) (conF (.int 0))) (conF (.str "0")))) (tstF (binF neD (varF 0) (conF (.str "0")))))
  (retF (conF .none))
  nopF)
  (retF (cbF intG (argC (varF 0) argN))))))
noncomputable def M_number_in : FE := funF 2 m_number_in
noncomputable def m_slip_in : FS := (seqF (setF 1 (mbF "str" splitM (varF 0) (argC (conF (.str " ")) argN)))
  (seqF (ifS (orT (tstF (binF neD (cbF lenG (argC (varF 1) argN)) (conF (.int 6)))) (tstF (binF niD (binF ixD (varF 1) (conF (.int 2))) (conF (.tuple [(.str "yields"), (.str "draws"), (.str "beats")])))))
  (retF (conF .none))
  nopF)
  (seqF (setF 2 (tupF (argC (conF (.str "slip")) (argC (callF [false] M_number_in (argC (binF ixD (varF 1) (conF (.int 0))) argN)) (argC (binF ixD (varF 1) (conF (.int 1))) (argC (binF ixD (varF 1) (conF (.int 3))) (argC (idxF ["yields", "draws", "beats"] (argC (binF ixD (varF 1) (conF (.int 2))) argN)) (argC (callF [false] M_number_in (argC (binF ixD (varF 1) (conF (.int 4))) argN)) argN))))))))
  (retF (ifF (andT (tstF (callF [false] M_is_slip_value (argC (varF 2) argN))) (tstF (binF eqD (callF [false] M_text_of (argC (varF 2) argN)) (varF 0)))) (varF 2) (conF .none))))))
noncomputable def M_slip_in : FE := funF 2 m_slip_in
noncomputable def m_slip_of_text : FS := (seqF (ifS (notT (tstF (isiF "str" (varF 0))))
  nevF
  nopF)
  (retF (callF [false] M_slip_in (argC (varF 0) argN))))
noncomputable def M_slip_of_text : FE := funF 0 m_slip_of_text
noncomputable def m__law_draw : FS := (seqF (ifS (tstF (binF gtD (binF ixD (varF 0) (conF (.int 0))) (conF (.int 0))))
  (seqF (asgF (cbF divmodG (argC (binF ixD (varF 0) (conF (.int 0))) (argC (varF 1) argN))) (gtF 2 (gsC (gxF 0 (conF (.int 0))) (gsC (gnF 2) gsN))))
  (retF (varF 2)))
  nopF)
  (seqF (asgF (binF modD (cbF intG (argC (binF addD (binF mulD (binF ixD (varF 0) (conF (.int 1))) (conF (.int 39373))) (conF (.int 3917))) argN)) (conF (.int 2147483587))) (gxF 0 (conF (.int 1))))
  (retF (binF modD (cbF intG (argC (binF fdivD (binF modD (cbF intG (argC (binF mulD (binF ixD (varF 0) (conF (.int 1))) (binF ixD (varF 0) (conF (.int 1)))) argN)) (conF (.int 2147483563))) (conF (.int 19))) argN)) (varF 1)))))
noncomputable def M__law_draw : FE := funF 1 m__law_draw
noncomputable def m__law_pick : FS := (retF (binF ixD (varF 1) (callF [true, false] M__law_draw (argC (varF 0) (argC (cbF lenG (argC (varF 1) argN)) argN)))))
noncomputable def M__law_pick : FE := funF 0 m__law_pick
noncomputable def m__law_sign : FS := (retF (callF [true, false] M__law_pick (argC (varF 0) (argC (cbF listG (argC (conF (.str " 0123456789abcdefghijklmnopqrstuvwxyz~!A-")) argN)) argN))))
noncomputable def M__law_sign : FE := funF 0 m__law_sign
noncomputable def m__law_is_number : FS := (retF (binF inD (varF 0) (cmpF (ibF rg1 (argC (conF (.int 100)) argN)) (gnF 1) yesT (cbF strG (argC (varF 1) argN)) [1])))
noncomputable def M__law_is_number : FE := funF 1 m__law_is_number
noncomputable def m__law_is_name : FS := (retF (andE (chF leD leD (conF (.int 1)) (cbF lenG (argC (varF 0) argN)) (conF (.int 12))) (cbF allG (argC (cmpF (itF isQ (varF 0)) (gnF 1) yesT (binF inD (varF 1) (conF (.str "abcdefghijklmnopqrstuvwxyz"))) [1]) argN))))
noncomputable def M__law_is_name : FE := funF 1 m__law_is_name
noncomputable def m__law_read : FS := (seqF (setF 1 (mbF "str" splitM (varF 0) (argC (conF (.str " ")) argN)))
  (seqF (ifS (orT (tstF (binF neD (cbF lenG (argC (varF 1) argN)) (conF (.int 6)))) (orT (notT (tstF (callF [false] M__law_is_number (argC (binF ixD (varF 1) (conF (.int 0))) argN)))) (orT (notT (tstF (callF [false] M__law_is_number (argC (binF ixD (varF 1) (conF (.int 4))) argN)))) (tstF (binF niD (binF ixD (varF 1) (conF (.int 2))) (tupF (argC (conF (.str "beats")) (argC (conF (.str "draws")) (argC (conF (.str "yields")) argN)))))))))
  (retF (conF .none))
  nopF)
  (seqF (ifS (orT (notT (tstF (callF [false] M__law_is_name (argC (binF ixD (varF 1) (conF (.int 1))) argN)))) (orT (notT (tstF (callF [false] M__law_is_name (argC (binF ixD (varF 1) (conF (.int 3))) argN)))) (orT (tstF (binF eqD (binF ixD (varF 1) (conF (.int 1))) (binF ixD (varF 1) (conF (.int 3))))) (tstF (binF neD (binF ixD (varF 1) (conF (.int 5))) (callF [false] M__law_check (argC (mbF "str" joinM (conF (.str " ")) (argC (slF cutD (varF 1) none (some (conF (.int 5)))) argN)) argN)))))))
  (retF (conF .none))
  nopF)
  (retF (tupF (argC (conF (.str "slip")) (argC (cbF intG (argC (binF ixD (varF 1) (conF (.int 0))) argN)) (argC (binF ixD (varF 1) (conF (.int 1))) (argC (binF ixD (varF 1) (conF (.int 3))) (argC (dlkF [("beats", 2), ("draws", 1), ("yields", 0)] (binF ixD (varF 1) (conF (.int 2)))) (argC (cbF intG (argC (binF ixD (varF 1) (conF (.int 4))) argN)) argN)))))))))))
noncomputable def M__law_read : FE := funF 1 m__law_read
noncomputable def m__law_text_right : FS := (seqF (setF 2 (mbF "str" joinM (conF (.str " ")) (argC (lstF (argC (cbF strG (argC (binF ixD (varF 1) (conF (.int 1))) argN)) (argC (binF ixD (varF 1) (conF (.int 2))) (argC (binF ixD (lstF (argC (conF (.str "yields")) (argC (conF (.str "draws")) (argC (conF (.str "beats")) argN)))) (binF ixD (varF 1) (conF (.int 4)))) (argC (binF ixD (varF 1) (conF (.int 3))) (argC (cbF strG (argC (binF ixD (varF 1) (conF (.int 5))) argN)) argN)))))) argN)))
  (seqF (setF 3 (binF addD (binF addD (varF 2) (conF (.str " "))) (callF [false] M__law_check (argC (varF 2) argN))))
  (seqF (parS 6 7 (lstF (argC (callF [false] M_slip_text (argC (varF 1) argN)) (argC (callF [false] M_slip_of_text (argC (varF 3) argN)) (argC (callF [false] M_check_of (argC (varF 2) argN)) argN)))) (lstF (argC (callF [false] M_slip_text (perF [0] (argC (varF 1) argN))) (argC (callF [false] M_slip_of_text (perF [0] (argC (varF 3) argN))) (argC (callF [false] M_check_of (perF [0] (argC (varF 2) argN))) argN)))))
  (seqF (ifS (tstF (binF neD (cbF reprG (argC (lstF (argC (varF 6) (argC (varF 7) argN))) argN)) (cbF reprG (argC (repF (lstF (argC (lstF (argC (varF 3) (argC (varF 1) (argC (callF [false] M__law_check (argC (varF 2) argN)) argN)))) argN)) (conF (.int 2))) argN))))
  (retF (conF (.bool false)))
  nopF)
  (seqF (forS (ibF rg1 (argC (conF (.int 25)) argN)) (gnF 4)
  (seqF (setF 5 (varF 3))
  (seqF (forS (ibF rg1 (argC (binF addD (conF (.int 1)) (callF [true, false] M__law_draw (argC (varF 0) (argC (conF (.int 2)) argN)))) argN)) (gnF 8)
  (seqF (setF 9 (callF [true, false] M__law_draw (argC (varF 0) (argC (cbF lenG (argC (varF 5) argN)) argN))))
  (setF 5 (binF addD (binF addD (slF cutD (varF 5) none (some (varF 9))) (callF [true] M__law_sign (argC (varF 0) argN))) (slF cutD (varF 5) (some (binF addD (varF 9) (conF (.int 1)))) none)))))
  (ifS (andT (tstF (binF neD (varF 5) (varF 3))) (tstF (binF isntD (callF [false] M_slip_of_text (argC (varF 5) argN)) (conF .none))))
  (retF (conF (.bool false)))
  nopF))))
  (seqF (forS (ibF rg1 (argC (conF (.int 8)) argN)) (gnF 4)
  (seqF (setF 9 (callF [true, false] M__law_draw (argC (varF 0) (argC (cbF lenG (argC (varF 3) argN)) argN))))
  (seqF (setF 10 (binF addD (binF addD (slF cutD (varF 2) none (some (varF 9))) (callF [true] M__law_sign (argC (varF 0) argN))) (slF cutD (varF 2) (some (binF addD (varF 9) (conF (.int 1)))) none)))
  (forS (itF isQ (lstF (argC (binF addD (slF cutD (varF 3) none (some (varF 9))) (slF cutD (varF 3) (some (binF addD (varF 9) (conF (.int 1)))) none)) (argC (binF addD (binF addD (slF cutD (varF 3) none (some (varF 9))) (callF [true] M__law_sign (argC (varF 0) argN))) (slF cutD (varF 3) (some (varF 9)) none)) (argC (binF addD (binF addD (slF cutD (varF 3) none (some (varF 9))) (unF revD2 (slF cutD (varF 3) (some (varF 9)) (some (binF addD (varF 9) (conF (.int 2))))))) (slF cutD (varF 3) (some (binF addD (varF 9) (conF (.int 2)))) none)) (argC (binF addD (binF addD (varF 10) (conF (.str " "))) (callF [false] M__law_check (argC (varF 10) argN))) argN)))))) (gnF 5)
  (ifS (tstF (binF neD (cbF reprG (argC (callF [false] M_slip_of_text (argC (varF 5) argN)) argN)) (cbF reprG (argC (callF [false] M__law_read (argC (varF 5) argN)) argN))))
  (retF (conF (.bool false)))
  nopF)))))
  (seqF (forS (itF isQ (lstF (argC (binF addD (varF 3) (conF (.str " "))) (argC (binF addD (conF (.str " ")) (varF 3)) (argC (binF addD (varF 3) (conF (.str "0"))) (argC (slF cutD (varF 3) none (some (unF negD (conF (.int 1))))) (argC (varF 2) (argC (binF addD (conF (.str "0")) (varF 3)) (argC (mbF "str" upperM (varF 3) argN) (argC (conF (.str "")) (argC (conF (.str " ")) (argC (binF addD (varF 3) (conF (.str "\n"))) argN)))))))))))) (gnF 5)
  (ifS (tstF (binF neD (cbF reprG (argC (callF [false] M_slip_of_text (argC (varF 5) argN)) argN)) (cbF reprG (argC (callF [false] M__law_read (argC (varF 5) argN)) argN))))
  (retF (conF (.bool false)))
  nopF))
  (retF (conF (.bool true))))))))))
noncomputable def M__law_text_right : FE := funF 9 m__law_text_right
noncomputable def m__law_name : FS := (retF (mbF "str" joinM (conF (.str "")) (argC (cmpF (ibF rg1 (argC (binF addD (conF (.int 1)) (callF [true, false] M__law_draw (argC (varF 0) (argC (callF [true, false] M__law_pick (argC (varF 0) (argC (lstF (argC (conF (.int 1)) (argC (conF (.int 3)) (argC (conF (.int 12)) argN)))) argN))) argN)))) argN)) (gnF 1) yesT (callF [true, false] M__law_pick (argC (varF 0) (argC (cbF listG (argC (conF (.str "abcxyz")) argN)) argN))) [1]) argN)))
noncomputable def M__law_name : FE := funF 1 m__law_name
noncomputable def m__law_slip : FS := (seqF (parS 2 1 (callF [true] M__law_name (argC (varF 0) argN)) (callF [true] M__law_name (argC (varF 0) argN)))
  (seqF (setF 1 (ifF (tstF (binF neD (varF 1) (varF 2))) (varF 1) (binF addD (ifF (tstF (binF neD (binF ixD (varF 2) (conF (.int 0))) (conF (.str "a")))) (conF (.str "a")) (conF (.str "b"))) (slF cutD (varF 1) (some (conF (.int 1))) none))))
  (retF (tupF (argC (conF (.str "slip")) (argC (callF [true, false] M__law_draw (argC (varF 0) (argC (callF [true, false] M__law_pick (argC (varF 0) (argC (lstF (argC (conF (.int 3)) (argC (conF (.int 100)) argN))) argN))) argN))) (argC (varF 2) (argC (varF 1) (argC (callF [true, false] M__law_draw (argC (varF 0) (argC (conF (.int 3)) argN))) (argC (callF [true, false] M__law_draw (argC (varF 0) (argC (callF [true, false] M__law_pick (argC (varF 0) (argC (lstF (argC (conF (.int 3)) (argC (conF (.int 100)) argN))) argN))) argN))) argN))))))))))
noncomputable def M__law_slip : FE := funF 2 m__law_slip
noncomputable def m_law : FS := (seqF (setF 1 (tupF (argC (conF (.str "slip")) (argC (conF (.int 0)) (argC (conF (.str "ann")) (argC (conF (.str "bob")) (argC (conF (.int 2)) (argC (conF (.int 0)) argN))))))))
  (seqF (ifS (orT (tstF (binF neD (callF [false] M_slip_text (argC (varF 1) argN)) (conF (.str "0 ann beats bob 0 831512")))) (orT (tstF (binF neD (callF [false] M_check_of (argC (conF (.str "")) argN)) (conF (.str "000000")))) (orT (tstF (binF neD (callF [false] M_check_of (argC (conF (.str "~")) argN)) (conF (.str "094094")))) (tstF (binF isntD (callF [false] M_is_slip (argC (varF 1) argN)) (conF (.bool true)))))))
  (retF (conF (.bool false)))
  nopF)
  (seqF (forS (ibF rg1 (argC (cbF maxG (argC (conF (.int 1)) (argC (cbF minG (argC (conF (.int 3)) (argC (cbF lenG (argC (varF 0) argN)) argN))) argN))) argN)) (gnF 2)
  (seqF (setF 3 (callF [false, false] M__law_pot (argC (varF 0) (argC (varF 2) argN))))
  (ifS (notT (tstF (cbF allG (argC (cmpF (ibF rg1 (argC (conF (.int 3)) argN)) (gnF 4) yesT (callF [true, false] M__law_text_right (argC (varF 3) (argC (callF [true] M__law_slip (argC (varF 3) argN)) argN))) [4]) argN))))
  (retF (conF (.bool false)))
  nopF)))
  (retF (conF (.bool true))))))
noncomputable def M_law : FE := funF 4 m_law
/-! ### the walks -/
section
variable {P : Program} {w : World} {K : PySem.W.Frag} {mg : Str → Option Value} {base : Heap}
theorem sc_is_tuple : FnScope ["value", "many"] ["value", "many"] (defScope s_is_tuple) := ⟨rfl, rfl, rfl, by decide +kernel, rfl, by decide +kernel, by decide +kernel⟩
theorem ok_is_tuple (B : Bk K mg fr cs fn) : FnI P w K mg base s_is_tuple "is_tuple" 1 2 ["value", "many"] M_is_tuple := by
  obtain ⟨f, fd, hm, F⟩ := B.fns 0 rfl
  refine ⟨f, fd, hm, F, F.bindsN (fun _ _ _ _ _ _ us hl => match us, hl with | [_, _], _ => rfl), ok_fn F sc_is_tuple 2 0 rfl rfl (fun cdv A out s H E hr => ?_)⟩
  unfold m_is_tuple
  exact (es_one (ev_ret (ev_and (ev_is_tuple (B.fre 0 rfl) (B.fre 1 rfl) (ev_v 0)) (ev_one (ev_cmp (op_eqS hr.u64) r_eq (ev_blen (B.fre 2 rfl) (ea_cons (ev_v 0) ea_nil)) (ev_v 1) rfl)))))
theorem sc_is_integer : FnScope ["value"] ["value"] (defScope s_is_integer) := ⟨rfl, rfl, rfl, by decide +kernel, rfl, by decide +kernel, by decide +kernel⟩
theorem ok_is_integer (B : Bk K mg fr cs fn) : FnI P w K mg base s_is_integer "is_integer" 1 1 ["value"] M_is_integer := by
  obtain ⟨f, fd, hm, F⟩ := B.fns 1 rfl
  refine ⟨f, fd, hm, F, F.bindsN (fun _ _ _ _ _ _ us hl => match us, hl with | [_], _ => rfl), ok_fn F sc_is_integer 1 0 rfl rfl (fun cdv A out s H E hr => ?_)⟩
  unfold m_is_integer
  exact (es_one (ev_ret (ev_and (ev_is_int (B.fre 0 rfl) (B.fre 4 rfl) (ev_v 0)) (ev_one (ev_not (ev_is_bool (B.fre 0 rfl) (B.fre 5 rfl) (ev_v 0)))))))
theorem sc_is_within : FnScope ["value", "least", "most"] ["value", "least", "most"] (defScope s_is_within) := ⟨rfl, rfl, rfl, by decide +kernel, rfl, by decide +kernel, by decide +kernel⟩
theorem ok_is_within (B : Bk K mg fr cs fn) : FnI P w K mg base s_is_within "is_within" 2 3 ["value", "least", "most"] M_is_within := by
  obtain ⟨f, fd, hm, F⟩ := B.fns 2 rfl
  have G_is_integer := ok_is_integer (P := P) (w := w) (base := base) B
  refine ⟨f, fd, hm, F, F.bindsN (fun _ _ _ _ _ _ us hl => match us, hl with | [_, _, _], _ => rfl), ok_fn F sc_is_within 3 0 rfl rfl (fun cdv A out s H E hr => ?_)⟩
  unfold m_is_within
  exact (es_one (ev_ret (ev_and (ev_cal G_is_integer hr rfl (by decide) (ea_cons (ev_v 0) ea_nil) (.cons .nil)) (ev_one (ev_chain op_leD op_leD r_ord r_ord (ev_v 1) (ev_v 0) (ev_v 2))))))
theorem sc_is_name_value : FnScope ["value", "sign"] ["value"] (defScope s_is_name_value) := ⟨rfl, rfl, rfl, by decide +kernel, rfl, by decide +kernel, by decide +kernel⟩
theorem ok_is_name_value (B : Bk K mg fr cs fn) : FnI P w K mg base s_is_name_value "is_name_value" 1 1 ["value"] M_is_name_value := by
  obtain ⟨f, fd, hm, F⟩ := B.fns 3 rfl
  refine ⟨f, fd, hm, F, F.bindsN (fun _ _ _ _ _ _ us hl => match us, hl with | [_], _ => rfl), ok_fn F sc_is_name_value 1 1 rfl rfl (fun cdv A out s H E hr => ?_)⟩
  unfold m_is_name_value
  exact (es_one (ev_ret (ev_and (ev_is_str (B.fre 0 rfl) (B.fre 3 rfl) (ev_v 0)) (ev_and (ev_chain op_leD op_leD r_ord r_ord ev_int (ev_blen (B.fre 2 rfl) (ea_cons (ev_v 0) ea_nil)) (ev_gd rfl (B.dat 2 rfl))) (ev_one (ev_ball (B.fre 6 rfl) (ea_cons (ev_comp (own := [("sign", 1)]) rfl sc_is_name_value.nd (ei_any (ev_v 0)) (blkOk_by (N := ["value", "sign"]) (sc := defScope s_is_name_value) (by decide +kernel)) (by decide) (fun _ _ _ _ _ => (egw_n 1 sc_is_name_value.nd)) (fun _ _ _ _ _ => ets_nil) (fun _ _ _ _ _ => (ev_cmp (op_ins hr.u65) r_in (ev_v 1) (ev_gd rfl (B.dat 3 rfl)) rfl))) ea_nil)))))))
theorem sc_is_slip_value : FnScope ["value"] ["value"] (defScope s_is_slip_value) := ⟨rfl, rfl, rfl, by decide +kernel, rfl, by decide +kernel, by decide +kernel⟩
theorem ok_is_slip_value (B : Bk K mg fr cs fn) : FnI P w K mg base s_is_slip_value "is_slip_value" 3 1 ["value"] M_is_slip_value := by
  obtain ⟨f, fd, hm, F⟩ := B.fns 4 rfl
  have G_is_tuple := ok_is_tuple (P := P) (w := w) (base := base) B
  have G_is_within := ok_is_within (P := P) (w := w) (base := base) B
  have G_is_name_value := ok_is_name_value (P := P) (w := w) (base := base) B
  refine ⟨f, fd, hm, F, F.bindsN (fun _ _ _ _ _ _ us hl => match us, hl with | [_], _ => rfl), ok_fn F sc_is_slip_value 1 0 rfl rfl (fun cdv A out s H E hr => ?_)⟩
  unfold m_is_slip_value
  exact (es_cons (ev_ifS (et_w (ew_or (et_not (et_val (ev_cal G_is_tuple hr rfl (by decide) (ea_cons (ev_v 0) (ea_cons ev_int ea_nil)) (.cons (.cons .nil))))) (ew_or (et_not (et_val (ev_is_str (B.fre 0 rfl) (B.fre 3 rfl) (ev_ix ix_seq r_ix (ev_v 0) ev_int (fun _ _ => rfl))))) (ew_or1 (et_cmp (op_neS hr.u64) r_ne (ev_ix ix_seq r_ix (ev_v 0) ev_int (fun _ _ => rfl)) (ev_gd rfl (B.dat 0 rfl)) rfl)))))
  (es_one (ev_ret ev_bl))
  es_nil)
  (es_cons (ev_ifS (et_w (ew_or (et_not (et_val (ev_cal G_is_within hr rfl (by decide) (ea_cons (ev_ix ix_seq r_ix (ev_v 0) ev_int (fun _ _ => rfl)) (ea_cons ev_int (ea_cons (ev_gd rfl (B.dat 1 rfl)) ea_nil))) (.cons (.cons (.cons .nil)))))) (ew_or1 (et_not (et_val (ev_cal G_is_within hr rfl (by decide) (ea_cons (ev_ix ix_seq r_ix (ev_v 0) ev_int (fun _ _ => rfl)) (ea_cons ev_int (ea_cons (ev_gd rfl (B.dat 1 rfl)) ea_nil))) (.cons (.cons (.cons .nil)))))))))
  (es_one (ev_ret ev_bl))
  es_nil)
  (es_cons (ev_ifS (et_not (et_val (ev_cal G_is_within hr rfl (by decide) (ea_cons (ev_ix ix_seq r_ix (ev_v 0) ev_int (fun _ _ => rfl)) (ea_cons ev_int (ea_cons ev_int ea_nil))) (.cons (.cons (.cons .nil))))))
  (es_one (ev_ret ev_bl))
  es_nil)
  (es_one (ev_ret (ev_and (ev_cal G_is_name_value hr rfl (by decide) (ea_cons (ev_ix ix_seq r_ix (ev_v 0) ev_int (fun _ _ => rfl)) ea_nil) (.cons .nil)) (ev_and (ev_cal G_is_name_value hr rfl (by decide) (ea_cons (ev_ix ix_seq r_ix (ev_v 0) ev_int (fun _ _ => rfl)) ea_nil) (.cons .nil)) (ev_one (ev_cmp (op_neS hr.u64) r_ne (ev_ix ix_seq r_ix (ev_v 0) ev_int (fun _ _ => rfl)) (ev_ix ix_seq r_ix (ev_v 0) ev_int (fun _ _ => rfl)) rfl)))))))))
theorem sc_body_of : FnScope ["slip"] ["slip"] (defScope s_body_of) := ⟨rfl, rfl, rfl, by decide +kernel, rfl, by decide +kernel, by decide +kernel⟩
theorem ok_body_of (B : Bk K mg fr cs fn) : FnI P w K mg base s_body_of "body_of" 1 1 ["slip"] M_body_of := by
  obtain ⟨f, fd, hm, F⟩ := B.fns 5 rfl
  refine ⟨f, fd, hm, F, F.bindsN (fun _ _ _ _ _ _ us hl => match us, hl with | [_], _ => rfl), ok_fn F sc_body_of 1 0 rfl rfl (fun cdv A out s H E hr => ?_)⟩
  unfold m_body_of
  exact (es_one (ev_ret (ev_join ev_str (ea_cons (ev_lst (ea_cons (ev_bstr (B.fre 3 rfl) (ea_cons (ev_ix ix_seq r_ix (ev_v 0) ev_int (fun _ _ => rfl)) ea_nil)) (ea_cons (ev_ix ix_seq r_ix (ev_v 0) ev_int (fun _ _ => rfl)) (ea_cons (ev_ix ix_seq r_ix (ev_gd rfl (B.dat 4 rfl)) (ev_ix ix_seq r_ix (ev_v 0) ev_int (fun _ _ => rfl)) (fun _ _ => rfl)) (ea_cons (ev_ix ix_seq r_ix (ev_v 0) ev_int (fun _ _ => rfl)) (ea_cons (ev_bstr (B.fre 3 rfl) (ea_cons (ev_ix ix_seq r_ix (ev_v 0) ev_int (fun _ _ => rfl)) ea_nil)) ea_nil))))) (.cons (.cons (.cons (.cons (.cons .nil)))))) ea_nil))))
theorem sc_padded : FnScope ["number", "told"] ["number"] (defScope s_padded) := ⟨rfl, rfl, rfl, by decide +kernel, rfl, by decide +kernel, by decide +kernel⟩
theorem ok_padded (B : Bk K mg fr cs fn) : FnI P w K mg base s_padded "padded" 1 1 ["number"] M_padded := by
  obtain ⟨f, fd, hm, F⟩ := B.fns 6 rfl
  refine ⟨f, fd, hm, F, F.bindsN (fun _ _ _ _ _ _ us hl => match us, hl with | [_], _ => rfl), ok_fn F sc_padded 1 1 rfl rfl (fun cdv A out s H E hr => ?_)⟩
  unfold m_padded
  exact (es_cons (ev_s 1 sc_padded.nd (ev_bstr (B.fre 3 rfl) (ea_cons (ev_v 0) ea_nil)))
  (es_one (ev_ret (ev_op op_addD r_add (ev_op op_mulD r_mul ev_str (ev_op op_sub r_sub (ev_gd rfl (B.dat 5 rfl)) (ev_blen (B.fre 2 rfl) (ea_cons (ev_v 1) ea_nil)))) (ev_v 1)))))
theorem sc_check_in : FnScope ["body", "codes", "second", "sign", "at", "code"] ["body"] (defScope s_check_in) := ⟨rfl, rfl, rfl, by decide +kernel, rfl, by decide +kernel, by decide +kernel⟩
theorem ok_check_in (B : Bk K mg fr cs fn) : FnI P w K mg base s_check_in "check_in" 2 1 ["body"] M_check_in := by
  obtain ⟨f, fd, hm, F⟩ := B.fns 7 rfl
  have G_padded := ok_padded (P := P) (w := w) (base := base) B
  refine ⟨f, fd, hm, F, F.bindsN (fun _ _ _ _ _ _ us hl => match us, hl with | [_], _ => rfl), ok_fn F sc_check_in 1 5 rfl rfl (fun cdv A out s H E hr => ?_)⟩
  unfold m_check_in
  exact (es_cons (ev_setComp (i := 1) (own := [("sign", 3)]) rfl sc_check_in.nd rfl rfl rfl (ei_any (ev_v 0)) (blkOk_by (N := ["body", "codes", "second", "sign", "at", "code"]) (sc := defScope s_check_in) (by decide +kernel)) (by decide) (fun _ _ _ _ _ => (egw_n 3 sc_check_in.nd)) (fun _ _ _ _ _ => ets_nil) (fun _ _ _ _ _ => (ev_op op_sub r_sub (ev_bord (B.fre 7 rfl) (ea_cons (ev_v 3) ea_nil)) (ev_bord (B.fre 7 rfl) (ea_cons ev_str ea_nil)))))
  (es_cons (ev_s 2 sc_check_in.nd (ev_bsum (B.fre 8 rfl) (ea_cons (ev_comp (own := [("at", 4), ("code", 5)]) rfl sc_check_in.nd (ei_enum (B.fre 9 rfl) (ea_cons (ev_v 1) ea_nil) (.cons .nil)) (blkOk_by (N := ["body", "codes", "second", "sign", "at", "code"]) (sc := defScope s_check_in) (by decide +kernel)) (by decide) (fun _ _ _ _ _ => (egw_tup rfl (egws_cons (egw_n 4 sc_check_in.nd) (egws_cons (egw_n 5 sc_check_in.nd) egws_nil)))) (fun _ _ _ _ _ => ets_nil) (fun _ _ _ _ _ => (ev_op op_mulD r_mul (ev_v 5) (ev_op op_addD r_add (ev_v 4) ev_int)))) ea_nil)))
  (es_one (ev_ret (ev_op op_addD r_add (ev_cal G_padded hr rfl (by decide) (ea_cons (ev_op op_mod r_mod (ev_bsum (B.fre 8 rfl) (ea_cons (ev_v 1) ea_nil)) (ev_gd rfl (B.dat 6 rfl))) ea_nil) (.cons .nil)) (ev_cal G_padded hr rfl (by decide) (ea_cons (ev_op op_mod r_mod (ev_v 2) (ev_gd rfl (B.dat 6 rfl))) ea_nil) (.cons .nil)))))))
theorem sc_text_of : FnScope ["slip", "body"] ["slip"] (defScope s_text_of) := ⟨rfl, rfl, rfl, by decide +kernel, rfl, by decide +kernel, by decide +kernel⟩
theorem ok_text_of (B : Bk K mg fr cs fn) : FnI P w K mg base s_text_of "text_of" 3 1 ["slip"] M_text_of := by
  obtain ⟨f, fd, hm, F⟩ := B.fns 8 rfl
  have G_body_of := ok_body_of (P := P) (w := w) (base := base) B
  have G_check_in := ok_check_in (P := P) (w := w) (base := base) B
  refine ⟨f, fd, hm, F, F.bindsN (fun _ _ _ _ _ _ us hl => match us, hl with | [_], _ => rfl), ok_fn F sc_text_of 1 1 rfl rfl (fun cdv A out s H E hr => ?_)⟩
  unfold m_text_of
  exact (es_cons (ev_s 1 sc_text_of.nd (ev_cal G_body_of hr rfl (by decide) (ea_cons (ev_v 0) ea_nil) (.cons .nil)))
  (es_one (ev_ret (ev_op op_addD r_add (ev_op op_addD r_add (ev_v 1) ev_str) (ev_cal G_check_in hr rfl (by decide) (ea_cons (ev_v 1) ea_nil) (.cons .nil))))))
theorem sc_slip_text : FnScope ["slip"] ["slip"] (defScope s_slip_text) := ⟨rfl, rfl, rfl, by decide +kernel, rfl, by decide +kernel, by decide +kernel⟩
theorem ok_slip_text (B : Bk K mg fr cs fn) : FnI P w K mg base s_slip_text "slip_text" 4 1 ["slip"] M_slip_text := by
  obtain ⟨f, fd, hm, F⟩ := B.fns 9 rfl
  have G_is_slip_value := ok_is_slip_value (P := P) (w := w) (base := base) B
  have G_text_of := ok_text_of (P := P) (w := w) (base := base) B
  refine ⟨f, fd, hm, F, F.bindsN (fun _ _ _ _ _ _ us hl => match us, hl with | [_], _ => rfl), ok_fn F sc_slip_text 1 0 rfl rfl (fun cdv A out s H E hr => ?_)⟩
  unfold m_slip_text
  exact (es_cons (ev_ifS (et_not (et_val (ev_cal G_is_slip_value hr rfl (by decide) (ea_cons (ev_v 0) ea_nil) (.cons .nil))))
  (es_one ev_never)
  es_nil)
  (es_one (ev_ret (ev_cal G_text_of hr rfl (by decide) (ea_cons (ev_v 0) ea_nil) (.cons .nil)))))
theorem sc_is_printed : FnScope ["value", "sign"] ["value"] (defScope s_is_printed) := ⟨rfl, rfl, rfl, by decide +kernel, rfl, by decide +kernel, by decide +kernel⟩
theorem ok_is_printed (B : Bk K mg fr cs fn) : FnI P w K mg base s_is_printed "is_printed" 1 1 ["value"] M_is_printed := by
  obtain ⟨f, fd, hm, F⟩ := B.fns 10 rfl
  refine ⟨f, fd, hm, F, F.bindsN (fun _ _ _ _ _ _ us hl => match us, hl with | [_], _ => rfl), ok_fn F sc_is_printed 1 1 rfl rfl (fun cdv A out s H E hr => ?_)⟩
  unfold m_is_printed
  exact (es_one (ev_ret (ev_and (ev_is_str (B.fre 0 rfl) (B.fre 3 rfl) (ev_v 0)) (ev_one (ev_ball (B.fre 6 rfl) (ea_cons (ev_comp (own := [("sign", 1)]) rfl sc_is_printed.nd (ei_any (ev_v 0)) (blkOk_by (N := ["value", "sign"]) (sc := defScope s_is_printed) (by decide +kernel)) (by decide) (fun _ _ _ _ _ => (egw_n 1 sc_is_printed.nd)) (fun _ _ _ _ _ => ets_nil) (fun _ _ _ _ _ => (ev_chain op_leD op_leD r_ord r_ord ev_str (ev_v 1) ev_str))) ea_nil))))))
theorem sc_check_of : FnScope ["text"] ["text"] (defScope s_check_of) := ⟨rfl, rfl, rfl, by decide +kernel, rfl, by decide +kernel, by decide +kernel⟩
theorem ok_check_of (B : Bk K mg fr cs fn) : FnI P w K mg base s_check_of "check_of" 3 1 ["text"] M_check_of := by
  obtain ⟨f, fd, hm, F⟩ := B.fns 11 rfl
  have G_is_printed := ok_is_printed (P := P) (w := w) (base := base) B
  have G_check_in := ok_check_in (P := P) (w := w) (base := base) B
  refine ⟨f, fd, hm, F, F.bindsN (fun _ _ _ _ _ _ us hl => match us, hl with | [_], _ => rfl), ok_fn F sc_check_of 1 0 rfl rfl (fun cdv A out s H E hr => ?_)⟩
  unfold m_check_of
  exact (es_cons (ev_ifS (et_not (et_val (ev_cal G_is_printed hr rfl (by decide) (ea_cons (ev_v 0) ea_nil) (.cons .nil))))
  (es_one ev_never)
  es_nil)
  (es_one (ev_ret (ev_cal G_check_in hr rfl (by decide) (ea_cons (ev_v 0) ea_nil) (.cons .nil)))))
theorem sc_is_slip : FnScope ["value"] ["value"] (defScope s_is_slip) := ⟨rfl, rfl, rfl, by decide +kernel, rfl, by decide +kernel, by decide +kernel⟩
theorem ok_is_slip (B : Bk K mg fr cs fn) : FnI P w K mg base s_is_slip "is_slip" 4 1 ["value"] M_is_slip := by
  obtain ⟨f, fd, hm, F⟩ := B.fns 12 rfl
  have G_is_slip_value := ok_is_slip_value (P := P) (w := w) (base := base) B
  refine ⟨f, fd, hm, F, F.bindsN (fun _ _ _ _ _ _ us hl => match us, hl with | [_], _ => rfl), ok_fn F sc_is_slip 1 0 rfl rfl (fun cdv A out s H E hr => ?_)⟩
  unfold m_is_slip
  exact (es_one (ev_ret (ev_cal G_is_slip_value hr rfl (by decide) (ea_cons (ev_v 0) ea_nil) (.cons .nil))))
theorem sc__law_pot : FnScope ["script", "k", "cell"] ["script", "k"] (defScope s__law_pot) := ⟨rfl, rfl, rfl, by decide +kernel, rfl, by decide +kernel, by decide +kernel⟩
theorem ok__law_pot (B : Bk K mg fr cs fn) : FnI P w K mg base s__law_pot "_law_pot" 1 2 ["script", "k"] M__law_pot := by
  obtain ⟨f, fd, hm, F⟩ := B.fns 13 rfl
  refine ⟨f, fd, hm, F, F.bindsN (fun _ _ _ _ _ _ us hl => match us, hl with | [_, _], _ => rfl), ok_fn F sc__law_pot 2 1 rfl rfl (fun cdv A out s H E hr => ?_)⟩
  unfold m__law_pot
  exact (es_cons (ev_s 2 sc__law_pot.nd (ev_op op_addD r_add (ev_op op_mulD r_mul ev_int (ev_v 1)) ev_int))
  (es_cons (ev_ifS (et_cmp op_ltD r_ord (ev_v 1) (ev_blen (B.fre 2 rfl) (ea_cons (ev_v 0) ea_nil)) rfl)
  (es_one (ev_s 2 sc__law_pot.nd (ev_babs (B.fre 13 rfl) (ea_cons (ev_ix ix_seq r_ix (ev_v 0) (ev_v 1) (fun _ _ => rfl)) ea_nil))))
  es_nil)
  (es_one (ev_ret (ev_lst (ea_cons (ev_bmax (B.fre 11 rfl) (ea_cons ev_int (ea_cons (ev_op op_sub r_sub (ev_v 2) (ev_op op_pow r_pow ev_int ev_int)) ea_nil))) (ea_cons (ev_op op_addD r_add (ev_op op_mod r_mod (ev_bint (B.fre 4 rfl) (ea_cons (ev_op op_addD r_add (ev_op op_addD r_add (ev_op op_mulD r_mul (ev_op op_mod r_mod (ev_bint (B.fre 4 rfl) (ea_cons (ev_v 2) ea_nil)) ev_int) ev_int) (ev_op op_mulD r_mul ev_int (ev_v 1))) ev_int) ea_nil)) ev_int) ev_int) ea_nil)) (.cons (.cons .nil)))))))
theorem sc__law_padded : FnScope ["number"] ["number"] (defScope s__law_padded) := ⟨rfl, rfl, rfl, by decide +kernel, rfl, by decide +kernel, by decide +kernel⟩
theorem ok__law_padded (B : Bk K mg fr cs fn) : FnI P w K mg base s__law_padded "_law_padded" 1 1 ["number"] M__law_padded := by
  obtain ⟨f, fd, hm, F⟩ := B.fns 14 rfl
  refine ⟨f, fd, hm, F, F.bindsN (fun _ _ _ _ _ _ us hl => match us, hl with | [_], _ => rfl), ok_fn F sc__law_padded 1 0 rfl rfl (fun cdv A out s H E hr => ?_)⟩
  unfold m__law_padded
  exact (es_one (ev_ret (ev_slice op_cut r_cut (ev_op op_addD r_add ev_str (ev_bstr (B.fre 3 rfl) (ea_cons (ev_v 0) ea_nil))) (ep_some (ev_neg ev_int)) ep_none)))
theorem sc__law_check : FnScope ["body", "first", "second", "at", "sign"] ["body"] (defScope s__law_check) := ⟨rfl, rfl, rfl, by decide +kernel, rfl, by decide +kernel, by decide +kernel⟩
theorem ok__law_check (B : Bk K mg fr cs fn) : FnI P w K mg base s__law_check "_law_check" 2 1 ["body"] M__law_check := by
  obtain ⟨f, fd, hm, F⟩ := B.fns 15 rfl
  have G__law_padded := ok__law_padded (P := P) (w := w) (base := base) B
  refine ⟨f, fd, hm, F, F.bindsN (fun _ _ _ _ _ _ us hl => match us, hl with | [_], _ => rfl), ok_fn F sc__law_check 1 4 rfl rfl (fun cdv A out s H E hr => ?_)⟩
  unfold m__law_check
  exact (es_cons (ev_asg (ev_tup (ea_cons ev_int (ea_cons ev_int ea_nil)) (.cons (.cons .nil))) (eg_tup rfl (egs_cons (eg_n 1 sc__law_check.nd) (egs_cons (eg_n 2 sc__law_check.nd) egs_nil))))
  (es_cons (ev_for .never rfl (ei_enum (B.fre 9 rfl) (ea_cons (ev_v 0) ea_nil) (.cons .nil)) (eg_tup rfl (egs_cons (eg_n 3 sc__law_check.nd) (egs_cons (eg_n 4 sc__law_check.nd) egs_nil)))
  (es_one (ev_par (i := 1) (j := 2) rfl sc__law_check.nd rfl rfl (by decide) rfl rfl (ev_op op_sub r_sub (ev_op op_addD r_add (ev_v 1) (ev_bord (B.fre 7 rfl) (ea_cons (ev_v 4) ea_nil))) ev_int) (ev_op op_addD r_add (ev_v 2) (ev_op op_mulD r_mul (ev_op op_sub r_sub (ev_bord (B.fre 7 rfl) (ea_cons (ev_v 4) ea_nil)) ev_int) (ev_op op_addD r_add (ev_v 3) ev_int))))))
  (es_one (ev_ret (ev_op op_addD r_add (ev_cal G__law_padded hr rfl (by decide) (ea_cons (ev_bint (B.fre 4 rfl) (ea_cons (ev_op op_mod r_mod (ev_v 1) ev_int) ea_nil)) ea_nil) (.cons .nil)) (ev_cal G__law_padded hr rfl (by decide) (ea_cons (ev_bint (B.fre 4 rfl) (ea_cons (ev_op op_mod r_mod (ev_v 2) ev_int) ea_nil)) ea_nil) (.cons .nil)))))))
theorem sc_number_in : FnScope ["token", "digits", "sign"] ["token"] (defScope s_number_in) := ⟨rfl, rfl, rfl, by decide +kernel, rfl, by decide +kernel, by decide +kernel⟩
theorem ok_number_in (B : Bk K mg fr cs fn) : FnI P w K mg base s_number_in "number_in" 1 1 ["token"] M_number_in := by
  obtain ⟨f, fd, hm, F⟩ := B.fns 16 rfl
  refine ⟨f, fd, hm, F, F.bindsN (fun _ _ _ _ _ _ us hl => match us, hl with | [_], _ => rfl), ok_fn F sc_number_in 1 2 rfl rfl (fun cdv A out s H E hr => ?_)⟩
  unfold m_number_in
  exact (es_cons (ev_s 1 sc_number_in.nd (ev_if (et_cmp (op_eqS hr.u64) r_eq (ev_slice op_cut r_cut (ev_v 0) ep_none (ep_some ev_int)) (ev_gd rfl (B.dat 7 rfl)) rfl) (ev_slice op_cut r_cut (ev_v 0) (ep_some ev_int) ep_none) (ev_v 0)))
  (es_cons (ev_ifS (et_w (ew_or (et_cmp (op_eqS hr.u64) r_eq (ev_v 1) ev_str rfl) (ew_or (et_cmp op_gtD r_ord (ev_blen (B.fre 2 rfl) (ea_cons (ev_v 1) ea_nil)) (ev_gd rfl (B.dat 8 rfl)) rfl) (ew_or1 (et_not (et_val (ev_ball (B.fre 6 rfl) (ea_cons (ev_comp (own := [("sign", 2)]) rfl sc_number_in.nd (ei_any (ev_v 1)) (blkOk_by (N := ["token", "digits", "sign"]) (sc := defScope s_number_in) (by decide +kernel)) (by decide) (fun _ _ _ _ _ => (egw_n 2 sc_number_in.nd)) (fun _ _ _ _ _ => ets_nil) (fun _ _ _ _ _ => (ev_cmp (op_ins hr.u65) r_in (ev_v 2) (ev_gd rfl (B.dat 9 rfl)) rfl))) ea_nil))))))))
  (es_one (ev_ret ev_non))
  es_nil)
  (es_cons (ev_ifS (et_w (ew_and (et_cmp (op_eqS hr.u64) r_eq (ev_ix ix_seq r_ix (ev_v 1) ev_int (fun _ _ => rfl)) ev_str rfl) (ew_and1 (et_cmp (op_neS hr.u64) r_ne (ev_v 0) ev_str rfl))))
  (es_one (ev_ret ev_non))
  es_nil)
  (es_one (ev_ret (ev_bint (B.fre 4 rfl) (ea_cons (ev_v 0) ea_nil)))))))
theorem sc_slip_in : FnScope ["text", "parts", "slip"] ["text"] (defScope s_slip_in) := ⟨rfl, rfl, rfl, by decide +kernel, rfl, by decide +kernel, by decide +kernel⟩
theorem ok_slip_in (B : Bk K mg fr cs fn) : FnI P w K mg base s_slip_in "slip_in" 4 1 ["text"] M_slip_in := by
  obtain ⟨f, fd, hm, F⟩ := B.fns 17 rfl
  have G_number_in := ok_number_in (P := P) (w := w) (base := base) B
  have G_is_slip_value := ok_is_slip_value (P := P) (w := w) (base := base) B
  have G_text_of := ok_text_of (P := P) (w := w) (base := base) B
  refine ⟨f, fd, hm, F, F.bindsN (fun _ _ _ _ _ _ us hl => match us, hl with | [_], _ => rfl), ok_fn F sc_slip_in 1 2 rfl rfl (fun cdv A out s H E hr => ?_)⟩
  unfold m_slip_in
  exact (es_cons (ev_s 1 sc_slip_in.nd (ev_split (ev_v 0) (ea_cons ev_str ea_nil)))
  (es_cons (ev_ifS (et_w (ew_or (et_cmp (op_neS hr.u64) r_ne (ev_blen (B.fre 2 rfl) (ea_cons (ev_v 1) ea_nil)) ev_int rfl) (ew_or1 (et_cmp (op_nis hr.u65) r_ni (ev_ix ix_seq r_ix (ev_v 1) ev_int (fun _ _ => rfl)) (ev_gd rfl (B.dat 4 rfl)) rfl))))
  (es_one (ev_ret ev_non))
  es_nil)
  (es_cons (ev_s 2 sc_slip_in.nd (ev_tup (ea_cons (ev_gd rfl (B.dat 0 rfl)) (ea_cons (ev_cal G_number_in hr rfl (by decide) (ea_cons (ev_ix ix_seq r_ix (ev_v 1) ev_int (fun _ _ => rfl)) ea_nil) (.cons .nil)) (ea_cons (ev_ix ix_seq r_ix (ev_v 1) ev_int (fun _ _ => rfl)) (ea_cons (ev_ix ix_seq r_ix (ev_v 1) ev_int (fun _ _ => rfl)) (ea_cons (ev_tix (ys := ["yields", "draws", "beats"]) rfl (B.dat 4 rfl) (ea_cons (ev_ix ix_seq r_ix (ev_v 1) ev_int (fun _ _ => rfl)) ea_nil)) (ea_cons (ev_cal G_number_in hr rfl (by decide) (ea_cons (ev_ix ix_seq r_ix (ev_v 1) ev_int (fun _ _ => rfl)) ea_nil) (.cons .nil)) ea_nil)))))) (.cons (.cons (.cons (.cons (.cons (.cons .nil))))))))
  (es_one (ev_ret (ev_if (et_w (ew_and (et_val (ev_cal G_is_slip_value hr rfl (by decide) (ea_cons (ev_v 2) ea_nil) (.cons .nil))) (ew_and1 (et_cmp (op_eqS hr.u64) r_eq (ev_cal G_text_of hr rfl (by decide) (ea_cons (ev_v 2) ea_nil) (.cons .nil)) (ev_v 0) rfl)))) (ev_v 2) ev_non))))))
theorem sc_slip_of_text : FnScope ["text"] ["text"] (defScope s_slip_of_text) := ⟨rfl, rfl, rfl, by decide +kernel, rfl, by decide +kernel, by decide +kernel⟩
theorem ok_slip_of_text (B : Bk K mg fr cs fn) : FnI P w K mg base s_slip_of_text "slip_of_text" 5 1 ["text"] M_slip_of_text := by
  obtain ⟨f, fd, hm, F⟩ := B.fns 18 rfl
  have G_slip_in := ok_slip_in (P := P) (w := w) (base := base) B
  refine ⟨f, fd, hm, F, F.bindsN (fun _ _ _ _ _ _ us hl => match us, hl with | [_], _ => rfl), ok_fn F sc_slip_of_text 1 0 rfl rfl (fun cdv A out s H E hr => ?_)⟩
  unfold m_slip_of_text
  exact (es_cons (ev_ifS (et_not (et_val (ev_is_str (B.fre 0 rfl) (B.fre 3 rfl) (ev_v 0))))
  (es_one ev_never)
  es_nil)
  (es_one (ev_ret (ev_cal G_slip_in hr rfl (by decide) (ea_cons (ev_v 0) ea_nil) (.cons .nil)))))
theorem sc__law_draw : FnScope ["pot", "many", "digit"] ["pot", "many"] (defScope s__law_draw) := ⟨rfl, rfl, rfl, by decide +kernel, rfl, by decide +kernel, by decide +kernel⟩
theorem ok__law_draw (B : Bk K mg fr cs fn) : FnI P w K mg base s__law_draw "_law_draw" 1 2 ["pot", "many"] M__law_draw := by
  obtain ⟨f, fd, hm, F⟩ := B.fns 19 rfl
  refine ⟨f, fd, hm, F, F.bindsN (fun _ _ _ _ _ _ us hl => match us, hl with | [_, _], _ => rfl), ok_fn F sc__law_draw 2 1 rfl rfl (fun cdv A out s H E hr => ?_)⟩
  unfold m__law_draw
  exact (es_cons (ev_ifS (et_cmp op_gtD r_ord (ev_ix ix_seq r_ix (ev_v 0) ev_int (fun _ _ => rfl)) ev_int rfl)
  (es_cons (ev_asg (ev_bdivmod (B.fre 15 rfl) (ea_cons (ev_ix ix_seq r_ix (ev_v 0) ev_int (fun _ _ => rfl)) (ea_cons (ev_v 1) ea_nil))) (eg_tup rfl (egs_cons (eg_sub (i := 0) rfl (by first | exact Or.inl rfl | exact Or.inr (Or.inl rfl) | exact Or.inr (Or.inr rfl)) ev_int) (egs_cons (eg_n 2 sc__law_draw.nd) egs_nil))))
  (es_one (ev_ret (ev_v 2))))
  es_nil)
  (es_cons (ev_asg (ev_op op_mod r_mod (ev_bint (B.fre 4 rfl) (ea_cons (ev_op op_addD r_add (ev_op op_mulD r_mul (ev_ix ix_seq r_ix (ev_v 0) ev_int (fun _ _ => rfl)) ev_int) ev_int) ea_nil)) ev_int) (eg_sub (i := 0) rfl (by first | exact Or.inl rfl | exact Or.inr (Or.inl rfl) | exact Or.inr (Or.inr rfl)) ev_int))
  (es_one (ev_ret (ev_op op_mod r_mod (ev_bint (B.fre 4 rfl) (ea_cons (ev_op op_fdiv r_fdiv (ev_op op_mod r_mod (ev_bint (B.fre 4 rfl) (ea_cons (ev_op op_mulD r_mul (ev_ix ix_seq r_ix (ev_v 0) ev_int (fun _ _ => rfl)) (ev_ix ix_seq r_ix (ev_v 0) ev_int (fun _ _ => rfl))) ea_nil)) ev_int) ev_int) ea_nil)) (ev_v 1))))))
theorem sc__law_pick : FnScope ["pot", "some"] ["pot", "some"] (defScope s__law_pick) := ⟨rfl, rfl, rfl, by decide +kernel, rfl, by decide +kernel, by decide +kernel⟩
theorem ok__law_pick (B : Bk K mg fr cs fn) : FnI P w K mg base s__law_pick "_law_pick" 2 2 ["pot", "some"] M__law_pick := by
  obtain ⟨f, fd, hm, F⟩ := B.fns 20 rfl
  have G__law_draw := ok__law_draw (P := P) (w := w) (base := base) B
  refine ⟨f, fd, hm, F, F.bindsN (fun _ _ _ _ _ _ us hl => match us, hl with | [_, _], _ => rfl), ok_fn F sc__law_pick 2 0 rfl rfl (fun cdv A out s H E hr => ?_)⟩
  unfold m__law_pick
  exact (es_one (ev_ret (ev_ix ix_seq r_ix (ev_v 1) (ev_cal G__law_draw hr rfl (by decide) (ea_cons (ev_v 0) (ea_cons (ev_blen (B.fre 2 rfl) (ea_cons (ev_v 1) ea_nil)) ea_nil)) (.cons (.cons .nil))) (fun _ _ => rfl))))
theorem sc__law_sign : FnScope ["pot"] ["pot"] (defScope s__law_sign) := ⟨rfl, rfl, rfl, by decide +kernel, rfl, by decide +kernel, by decide +kernel⟩
theorem ok__law_sign (B : Bk K mg fr cs fn) : FnI P w K mg base s__law_sign "_law_sign" 3 1 ["pot"] M__law_sign := by
  obtain ⟨f, fd, hm, F⟩ := B.fns 21 rfl
  have G__law_pick := ok__law_pick (P := P) (w := w) (base := base) B
  refine ⟨f, fd, hm, F, F.bindsN (fun _ _ _ _ _ _ us hl => match us, hl with | [_], _ => rfl), ok_fn F sc__law_sign 1 0 rfl rfl (fun cdv A out s H E hr => ?_)⟩
  unfold m__law_sign
  exact (es_one (ev_ret (ev_cal G__law_pick hr rfl (by decide) (ea_cons (ev_v 0) (ea_cons (ev_blist (B.fre 16 rfl) (ea_cons ev_str ea_nil)) ea_nil)) (.cons (.cons .nil)))))
theorem sc__law_is_number : FnScope ["word", "number"] ["word"] (defScope s__law_is_number) := ⟨rfl, rfl, rfl, by decide +kernel, rfl, by decide +kernel, by decide +kernel⟩
theorem ok__law_is_number (B : Bk K mg fr cs fn) : FnI P w K mg base s__law_is_number "_law_is_number" 1 1 ["word"] M__law_is_number := by
  obtain ⟨f, fd, hm, F⟩ := B.fns 22 rfl
  refine ⟨f, fd, hm, F, F.bindsN (fun _ _ _ _ _ _ us hl => match us, hl with | [_], _ => rfl), ok_fn F sc__law_is_number 1 1 rfl rfl (fun cdv A out s H E hr => ?_)⟩
  unfold m__law_is_number
  exact (es_one (ev_ret (ev_cmp (op_ins hr.u65) r_in (ev_v 0) (ev_comp (own := [("number", 1)]) rfl sc__law_is_number.nd (ei_range_1 (B.fre 10 rfl) (ea_cons ev_int ea_nil)) (blkOk_by (N := ["word", "number"]) (sc := defScope s__law_is_number) (by decide +kernel)) (by decide) (fun _ _ _ _ _ => (egw_n 1 sc__law_is_number.nd)) (fun _ _ _ _ _ => ets_nil) (fun _ _ _ _ _ => (ev_bstr (B.fre 3 rfl) (ea_cons (ev_v 1) ea_nil)))) rfl)))
theorem sc__law_is_name : FnScope ["word", "sign"] ["word"] (defScope s__law_is_name) := ⟨rfl, rfl, rfl, by decide +kernel, rfl, by decide +kernel, by decide +kernel⟩
theorem ok__law_is_name (B : Bk K mg fr cs fn) : FnI P w K mg base s__law_is_name "_law_is_name" 1 1 ["word"] M__law_is_name := by
  obtain ⟨f, fd, hm, F⟩ := B.fns 23 rfl
  refine ⟨f, fd, hm, F, F.bindsN (fun _ _ _ _ _ _ us hl => match us, hl with | [_], _ => rfl), ok_fn F sc__law_is_name 1 1 rfl rfl (fun cdv A out s H E hr => ?_)⟩
  unfold m__law_is_name
  exact (es_one (ev_ret (ev_and (ev_chain op_leD op_leD r_ord r_ord ev_int (ev_blen (B.fre 2 rfl) (ea_cons (ev_v 0) ea_nil)) ev_int) (ev_one (ev_ball (B.fre 6 rfl) (ea_cons (ev_comp (own := [("sign", 1)]) rfl sc__law_is_name.nd (ei_any (ev_v 0)) (blkOk_by (N := ["word", "sign"]) (sc := defScope s__law_is_name) (by decide +kernel)) (by decide) (fun _ _ _ _ _ => (egw_n 1 sc__law_is_name.nd)) (fun _ _ _ _ _ => ets_nil) (fun _ _ _ _ _ => (ev_cmp (op_ins hr.u65) r_in (ev_v 1) ev_str rfl))) ea_nil))))))
theorem sc__law_read : FnScope ["text", "parts"] ["text"] (defScope s__law_read) := ⟨rfl, rfl, rfl, by decide +kernel, rfl, by decide +kernel, by decide +kernel⟩
theorem ok__law_read (B : Bk K mg fr cs fn) : FnI P w K mg base s__law_read "_law_read" 3 1 ["text"] M__law_read := by
  obtain ⟨f, fd, hm, F⟩ := B.fns 24 rfl
  have G__law_is_number := ok__law_is_number (P := P) (w := w) (base := base) B
  have G__law_is_name := ok__law_is_name (P := P) (w := w) (base := base) B
  have G__law_check := ok__law_check (P := P) (w := w) (base := base) B
  refine ⟨f, fd, hm, F, F.bindsN (fun _ _ _ _ _ _ us hl => match us, hl with | [_], _ => rfl), ok_fn F sc__law_read 1 1 rfl rfl (fun cdv A out s H E hr => ?_)⟩
  unfold m__law_read
  exact (es_cons (ev_s 1 sc__law_read.nd (ev_split (ev_v 0) (ea_cons ev_str ea_nil)))
  (es_cons (ev_ifS (et_w (ew_or (et_cmp (op_neS hr.u64) r_ne (ev_blen (B.fre 2 rfl) (ea_cons (ev_v 1) ea_nil)) ev_int rfl) (ew_or (et_not (et_val (ev_cal G__law_is_number hr rfl (by decide) (ea_cons (ev_ix ix_seq r_ix (ev_v 1) ev_int (fun _ _ => rfl)) ea_nil) (.cons .nil)))) (ew_or (et_not (et_val (ev_cal G__law_is_number hr rfl (by decide) (ea_cons (ev_ix ix_seq r_ix (ev_v 1) ev_int (fun _ _ => rfl)) ea_nil) (.cons .nil)))) (ew_or1 (et_cmp (op_nis hr.u65) r_ni (ev_ix ix_seq r_ix (ev_v 1) ev_int (fun _ _ => rfl)) (ev_tup (ea_cons ev_str (ea_cons ev_str (ea_cons ev_str ea_nil))) (.cons (.cons (.cons .nil)))) rfl))))))
  (es_one (ev_ret ev_non))
  es_nil)
  (es_cons (ev_ifS (et_w (ew_or (et_not (et_val (ev_cal G__law_is_name hr rfl (by decide) (ea_cons (ev_ix ix_seq r_ix (ev_v 1) ev_int (fun _ _ => rfl)) ea_nil) (.cons .nil)))) (ew_or (et_not (et_val (ev_cal G__law_is_name hr rfl (by decide) (ea_cons (ev_ix ix_seq r_ix (ev_v 1) ev_int (fun _ _ => rfl)) ea_nil) (.cons .nil)))) (ew_or (et_cmp (op_eqS hr.u64) r_eq (ev_ix ix_seq r_ix (ev_v 1) ev_int (fun _ _ => rfl)) (ev_ix ix_seq r_ix (ev_v 1) ev_int (fun _ _ => rfl)) rfl) (ew_or1 (et_cmp (op_neS hr.u64) r_ne (ev_ix ix_seq r_ix (ev_v 1) ev_int (fun _ _ => rfl)) (ev_cal G__law_check hr rfl (by decide) (ea_cons (ev_join ev_str (ea_cons (ev_slice op_cut r_cut (ev_v 1) ep_none (ep_some ev_int)) ea_nil)) ea_nil) (.cons .nil)) rfl))))))
  (es_one (ev_ret ev_non))
  es_nil)
  (es_one (ev_ret (ev_tup (ea_cons ev_str (ea_cons (ev_bint (B.fre 4 rfl) (ea_cons (ev_ix ix_seq r_ix (ev_v 1) ev_int (fun _ _ => rfl)) ea_nil)) (ea_cons (ev_ix ix_seq r_ix (ev_v 1) ev_int (fun _ _ => rfl)) (ea_cons (ev_ix ix_seq r_ix (ev_v 1) ev_int (fun _ _ => rfl)) (ea_cons (ev_dlk (kvs := [("beats", 2), ("draws", 1), ("yields", 0)]) hr (pps_cons pe_str pe_int (pps_cons pe_str pe_int (pps_cons pe_str pe_int pps_nil))) rfl rfl (List.cons_ne_nil _ _) (by decide) (by decide) (ev_ix ix_seq r_ix (ev_v 1) ev_int (fun _ _ => rfl)) (fun _ _ => rfl)) (ea_cons (ev_bint (B.fre 4 rfl) (ea_cons (ev_ix ix_seq r_ix (ev_v 1) ev_int (fun _ _ => rfl)) ea_nil)) ea_nil)))))) (.cons (.cons (.cons (.cons (.cons (.cons .nil))))))))))))
theorem sc__law_text_right : FnScope ["pot", "slip", "body", "text", "turn", "late", "told", "named", "time", "at", "other"] ["pot", "slip"] (defScope s__law_text_right) := ⟨rfl, rfl, rfl, by decide +kernel, rfl, by decide +kernel, by decide +kernel⟩
theorem ok__law_text_right (B : Bk K mg fr cs fn) : FnI P w K mg base s__law_text_right "_law_text_right" 6 2 ["pot", "slip"] M__law_text_right := by
  obtain ⟨f, fd, hm, F⟩ := B.fns 25 rfl
  have G__law_check := ok__law_check (P := P) (w := w) (base := base) B
  have G_slip_text := ok_slip_text (P := P) (w := w) (base := base) B
  have G_slip_of_text := ok_slip_of_text (P := P) (w := w) (base := base) B
  have G_check_of := ok_check_of (P := P) (w := w) (base := base) B
  have G__law_draw := ok__law_draw (P := P) (w := w) (base := base) B
  have G__law_sign := ok__law_sign (P := P) (w := w) (base := base) B
  have G__law_read := ok__law_read (P := P) (w := w) (base := base) B
  refine ⟨f, fd, hm, F, F.bindsN (fun _ _ _ _ _ _ us hl => match us, hl with | [_, _], _ => rfl), ok_fn F sc__law_text_right 2 9 rfl rfl (fun cdv A out s H E hr => ?_)⟩
  unfold m__law_text_right
  exact (es_cons (ev_s 2 sc__law_text_right.nd (ev_join ev_str (ea_cons (ev_lst (ea_cons (ev_bstr (B.fre 3 rfl) (ea_cons (ev_ix ix_seq r_ix (ev_v 1) ev_int (fun _ _ => rfl)) ea_nil)) (ea_cons (ev_ix ix_seq r_ix (ev_v 1) ev_int (fun _ _ => rfl)) (ea_cons (ev_ix ix_seq r_ix (ev_lst (ea_cons ev_str (ea_cons ev_str (ea_cons ev_str ea_nil))) (.cons (.cons (.cons .nil)))) (ev_ix ix_seq r_ix (ev_v 1) ev_int (fun _ _ => rfl)) (fun _ _ => rfl)) (ea_cons (ev_ix ix_seq r_ix (ev_v 1) ev_int (fun _ _ => rfl)) (ea_cons (ev_bstr (B.fre 3 rfl) (ea_cons (ev_ix ix_seq r_ix (ev_v 1) ev_int (fun _ _ => rfl)) ea_nil)) ea_nil))))) (.cons (.cons (.cons (.cons (.cons .nil)))))) ea_nil)))
  (es_cons (ev_s 3 sc__law_text_right.nd (ev_op op_addD r_add (ev_op op_addD r_add (ev_v 2) ev_str) (ev_cal G__law_check hr rfl (by decide) (ea_cons (ev_v 2) ea_nil) (.cons .nil))))
  (es_cons (ev_par (i := 6) (j := 7) rfl sc__law_text_right.nd rfl rfl (by decide) rfl rfl (ev_lst (ea_cons (ev_cal G_slip_text hr rfl (by decide) (ea_cons (ev_v 1) ea_nil) (.cons .nil)) (ea_cons (ev_cal G_slip_of_text hr rfl (by decide) (ea_cons (ev_v 3) ea_nil) (.cons .nil)) (ea_cons (ev_cal G_check_of hr rfl (by decide) (ea_cons (ev_v 2) ea_nil) (.cons .nil)) ea_nil))) (.cons (.cons (.cons .nil)))) (ev_lst (ea_cons (ev_calK (pm := [0]) (ks := ["slip"]) G_slip_text hr rfl (by decide) (fun _ _ _ _ _ _ ws hl => match ws, hl with | [_], _ => rfl) (ek_cons (ev_v 1) ek_nil) (.cons .nil) (argC_len argN_len)) (ea_cons (ev_calK (pm := [0]) (ks := ["text"]) G_slip_of_text hr rfl (by decide) (fun _ _ _ _ _ _ ws hl => match ws, hl with | [_], _ => rfl) (ek_cons (ev_v 3) ek_nil) (.cons .nil) (argC_len argN_len)) (ea_cons (ev_calK (pm := [0]) (ks := ["text"]) G_check_of hr rfl (by decide) (fun _ _ _ _ _ _ ws hl => match ws, hl with | [_], _ => rfl) (ek_cons (ev_v 2) ek_nil) (.cons .nil) (argC_len argN_len)) ea_nil))) (.cons (.cons (.cons .nil)))))
  (es_cons (ev_ifS (et_cmp (op_neS hr.u64) r_ne (ev_brepr (B.fre 14 rfl) hr (ea_cons (ev_lst (ea_cons (ev_v 6) (ea_cons (ev_v 7) ea_nil)) (.cons (.cons .nil))) ea_nil)) (ev_brepr (B.fre 14 rfl) hr (ea_cons (ev_rep (ev_lst (ea_cons (ev_lst (ea_cons (ev_v 3) (ea_cons (ev_v 1) (ea_cons (ev_cal G__law_check hr rfl (by decide) (ea_cons (ev_v 2) ea_nil) (.cons .nil)) ea_nil))) (.cons (.cons (.cons .nil)))) ea_nil) (.cons .nil)) ev_int) ea_nil)) rfl)
  (es_one (ev_ret ev_bl))
  es_nil)
  (es_cons (ev_for .never rfl (ei_range_1 (B.fre 10 rfl) (ea_cons ev_int ea_nil)) (eg_n 4 sc__law_text_right.nd)
  (es_cons (ev_s 5 sc__law_text_right.nd (ev_v 3))
  (es_cons (ev_for .never rfl (ei_range_1 (B.fre 10 rfl) (ea_cons (ev_op op_addD r_add ev_int (ev_cal G__law_draw hr rfl (by decide) (ea_cons (ev_v 0) (ea_cons ev_int ea_nil)) (.cons (.cons .nil)))) ea_nil)) (eg_n 8 sc__law_text_right.nd)
  (es_cons (ev_s 9 sc__law_text_right.nd (ev_cal G__law_draw hr rfl (by decide) (ea_cons (ev_v 0) (ea_cons (ev_blen (B.fre 2 rfl) (ea_cons (ev_v 5) ea_nil)) ea_nil)) (.cons (.cons .nil))))
  (es_one (ev_s 5 sc__law_text_right.nd (ev_op op_addD r_add (ev_op op_addD r_add (ev_slice op_cut r_cut (ev_v 5) ep_none (ep_some (ev_v 9))) (ev_cal G__law_sign hr rfl (by decide) (ea_cons (ev_v 0) ea_nil) (.cons .nil))) (ev_slice op_cut r_cut (ev_v 5) (ep_some (ev_op op_addD r_add (ev_v 9) ev_int)) ep_none))))))
  (es_one (ev_ifS (et_w (ew_and (et_cmp (op_neS hr.u64) r_ne (ev_v 5) (ev_v 3) rfl) (ew_and1 (et_cmp op_isntD r_isnt (ev_cal G_slip_of_text hr rfl (by decide) (ea_cons (ev_v 5) ea_nil) (.cons .nil)) ev_non rfl))))
  (es_one (ev_ret ev_bl))
  es_nil)))))
  (es_cons (ev_for .never rfl (ei_range_1 (B.fre 10 rfl) (ea_cons ev_int ea_nil)) (eg_n 4 sc__law_text_right.nd)
  (es_cons (ev_s 9 sc__law_text_right.nd (ev_cal G__law_draw hr rfl (by decide) (ea_cons (ev_v 0) (ea_cons (ev_blen (B.fre 2 rfl) (ea_cons (ev_v 3) ea_nil)) ea_nil)) (.cons (.cons .nil))))
  (es_cons (ev_s 10 sc__law_text_right.nd (ev_op op_addD r_add (ev_op op_addD r_add (ev_slice op_cut r_cut (ev_v 2) ep_none (ep_some (ev_v 9))) (ev_cal G__law_sign hr rfl (by decide) (ea_cons (ev_v 0) ea_nil) (.cons .nil))) (ev_slice op_cut r_cut (ev_v 2) (ep_some (ev_op op_addD r_add (ev_v 9) ev_int)) ep_none)))
  (es_one (ev_for .never rfl (ei_any (ev_lst (ea_cons (ev_op op_addD r_add (ev_slice op_cut r_cut (ev_v 3) ep_none (ep_some (ev_v 9))) (ev_slice op_cut r_cut (ev_v 3) (ep_some (ev_op op_addD r_add (ev_v 9) ev_int)) ep_none)) (ea_cons (ev_op op_addD r_add (ev_op op_addD r_add (ev_slice op_cut r_cut (ev_v 3) ep_none (ep_some (ev_v 9))) (ev_cal G__law_sign hr rfl (by decide) (ea_cons (ev_v 0) ea_nil) (.cons .nil))) (ev_slice op_cut r_cut (ev_v 3) (ep_some (ev_v 9)) ep_none)) (ea_cons (ev_op op_addD r_add (ev_op op_addD r_add (ev_slice op_cut r_cut (ev_v 3) ep_none (ep_some (ev_v 9))) (ev_rev (ev_slice op_cut r_cut (ev_v 3) (ep_some (ev_v 9)) (ep_some (ev_op op_addD r_add (ev_v 9) ev_int))))) (ev_slice op_cut r_cut (ev_v 3) (ep_some (ev_op op_addD r_add (ev_v 9) ev_int)) ep_none)) (ea_cons (ev_op op_addD r_add (ev_op op_addD r_add (ev_v 10) ev_str) (ev_cal G__law_check hr rfl (by decide) (ea_cons (ev_v 10) ea_nil) (.cons .nil))) ea_nil)))) (.cons (.cons (.cons (.cons .nil)))))) (eg_n 5 sc__law_text_right.nd)
  (es_one (ev_ifS (et_cmp (op_neS hr.u64) r_ne (ev_brepr (B.fre 14 rfl) hr (ea_cons (ev_cal G_slip_of_text hr rfl (by decide) (ea_cons (ev_v 5) ea_nil) (.cons .nil)) ea_nil)) (ev_brepr (B.fre 14 rfl) hr (ea_cons (ev_cal G__law_read hr rfl (by decide) (ea_cons (ev_v 5) ea_nil) (.cons .nil)) ea_nil)) rfl)
  (es_one (ev_ret ev_bl))
  es_nil)))))))
  (es_cons (ev_for .never rfl (ei_any (ev_lst (ea_cons (ev_op op_addD r_add (ev_v 3) ev_str) (ea_cons (ev_op op_addD r_add ev_str (ev_v 3)) (ea_cons (ev_op op_addD r_add (ev_v 3) ev_str) (ea_cons (ev_slice op_cut r_cut (ev_v 3) ep_none (ep_some (ev_neg ev_int))) (ea_cons (ev_v 2) (ea_cons (ev_op op_addD r_add ev_str (ev_v 3)) (ea_cons (ev_upper (ev_v 3)) (ea_cons ev_str (ea_cons ev_str (ea_cons (ev_op op_addD r_add (ev_v 3) ev_str) ea_nil)))))))))) (.cons (.cons (.cons (.cons (.cons (.cons (.cons (.cons (.cons (.cons .nil)))))))))))) (eg_n 5 sc__law_text_right.nd)
  (es_one (ev_ifS (et_cmp (op_neS hr.u64) r_ne (ev_brepr (B.fre 14 rfl) hr (ea_cons (ev_cal G_slip_of_text hr rfl (by decide) (ea_cons (ev_v 5) ea_nil) (.cons .nil)) ea_nil)) (ev_brepr (B.fre 14 rfl) hr (ea_cons (ev_cal G__law_read hr rfl (by decide) (ea_cons (ev_v 5) ea_nil) (.cons .nil)) ea_nil)) rfl)
  (es_one (ev_ret ev_bl))
  es_nil)))
  (es_one (ev_ret ev_bl)))))))))
theorem sc__law_name : FnScope ["pot", "turn"] ["pot"] (defScope s__law_name) := ⟨rfl, rfl, rfl, by decide +kernel, rfl, by decide +kernel, by decide +kernel⟩
theorem ok__law_name (B : Bk K mg fr cs fn) : FnI P w K mg base s__law_name "_law_name" 3 1 ["pot"] M__law_name := by
  obtain ⟨f, fd, hm, F⟩ := B.fns 26 rfl
  have G__law_pick := ok__law_pick (P := P) (w := w) (base := base) B
  have G__law_draw := ok__law_draw (P := P) (w := w) (base := base) B
  refine ⟨f, fd, hm, F, F.bindsN (fun _ _ _ _ _ _ us hl => match us, hl with | [_], _ => rfl), ok_fn F sc__law_name 1 1 rfl rfl (fun cdv A out s H E hr => ?_)⟩
  unfold m__law_name
  exact (es_one (ev_ret (ev_join ev_str (ea_cons (ev_comp (own := [("turn", 1)]) rfl sc__law_name.nd (ei_range_1 (B.fre 10 rfl) (ea_cons (ev_op op_addD r_add ev_int (ev_cal G__law_draw hr rfl (by decide) (ea_cons (ev_v 0) (ea_cons (ev_cal G__law_pick hr rfl (by decide) (ea_cons (ev_v 0) (ea_cons (ev_lst (ea_cons ev_int (ea_cons ev_int (ea_cons ev_int ea_nil))) (.cons (.cons (.cons .nil)))) ea_nil)) (.cons (.cons .nil))) ea_nil)) (.cons (.cons .nil)))) ea_nil)) (blkOk_by (N := ["pot", "turn"]) (sc := defScope s__law_name) (by decide +kernel)) (by decide) (fun _ _ _ _ _ => (egw_n 1 sc__law_name.nd)) (fun _ _ _ _ _ => ets_nil) (fun _ _ _ _ _ => (ev_cal G__law_pick hr rfl (by decide) (ea_cons (ev_v 0) (ea_cons (ev_blist (B.fre 16 rfl) (ea_cons ev_str ea_nil)) ea_nil)) (.cons (.cons .nil))))) ea_nil))))
theorem sc__law_slip : FnScope ["pot", "other", "one"] ["pot"] (defScope s__law_slip) := ⟨rfl, rfl, rfl, by decide +kernel, rfl, by decide +kernel, by decide +kernel⟩
theorem ok__law_slip (B : Bk K mg fr cs fn) : FnI P w K mg base s__law_slip "_law_slip" 4 1 ["pot"] M__law_slip := by
  obtain ⟨f, fd, hm, F⟩ := B.fns 27 rfl
  have G__law_name := ok__law_name (P := P) (w := w) (base := base) B
  have G__law_draw := ok__law_draw (P := P) (w := w) (base := base) B
  have G__law_pick := ok__law_pick (P := P) (w := w) (base := base) B
  refine ⟨f, fd, hm, F, F.bindsN (fun _ _ _ _ _ _ us hl => match us, hl with | [_], _ => rfl), ok_fn F sc__law_slip 1 2 rfl rfl (fun cdv A out s H E hr => ?_)⟩
  unfold m__law_slip
  exact (es_cons (ev_par (i := 2) (j := 1) rfl sc__law_slip.nd rfl rfl (by decide) rfl rfl (ev_cal G__law_name hr rfl (by decide) (ea_cons (ev_v 0) ea_nil) (.cons .nil)) (ev_cal G__law_name hr rfl (by decide) (ea_cons (ev_v 0) ea_nil) (.cons .nil)))
  (es_cons (ev_s 1 sc__law_slip.nd (ev_if (et_cmp (op_neS hr.u64) r_ne (ev_v 1) (ev_v 2) rfl) (ev_v 1) (ev_op op_addD r_add (ev_if (et_cmp (op_neS hr.u64) r_ne (ev_ix ix_seq r_ix (ev_v 2) ev_int (fun _ _ => rfl)) ev_str rfl) ev_str ev_str) (ev_slice op_cut r_cut (ev_v 1) (ep_some ev_int) ep_none))))
  (es_one (ev_ret (ev_tup (ea_cons ev_str (ea_cons (ev_cal G__law_draw hr rfl (by decide) (ea_cons (ev_v 0) (ea_cons (ev_cal G__law_pick hr rfl (by decide) (ea_cons (ev_v 0) (ea_cons (ev_lst (ea_cons ev_int (ea_cons ev_int ea_nil)) (.cons (.cons .nil))) ea_nil)) (.cons (.cons .nil))) ea_nil)) (.cons (.cons .nil))) (ea_cons (ev_v 2) (ea_cons (ev_v 1) (ea_cons (ev_cal G__law_draw hr rfl (by decide) (ea_cons (ev_v 0) (ea_cons ev_int ea_nil)) (.cons (.cons .nil))) (ea_cons (ev_cal G__law_draw hr rfl (by decide) (ea_cons (ev_v 0) (ea_cons (ev_cal G__law_pick hr rfl (by decide) (ea_cons (ev_v 0) (ea_cons (ev_lst (ea_cons ev_int (ea_cons ev_int ea_nil)) (.cons (.cons .nil))) ea_nil)) (.cons (.cons .nil))) ea_nil)) (.cons (.cons .nil))) ea_nil)))))) (.cons (.cons (.cons (.cons (.cons (.cons .nil)))))))))))
theorem sc_law : FnScope ["script", "won", "k", "pot", "turn"] ["script"] (defScope s_law) := ⟨rfl, rfl, rfl, by decide +kernel, rfl, by decide +kernel, by decide +kernel⟩
theorem ok_law (B : Bk K mg fr cs fn) : FnI P w K mg base s_law "law" 7 1 ["script"] M_law := by
  obtain ⟨f, fd, hm, F⟩ := B.fns 28 rfl
  have G_slip_text := ok_slip_text (P := P) (w := w) (base := base) B
  have G_check_of := ok_check_of (P := P) (w := w) (base := base) B
  have G_is_slip := ok_is_slip (P := P) (w := w) (base := base) B
  have G__law_pot := ok__law_pot (P := P) (w := w) (base := base) B
  have G__law_text_right := ok__law_text_right (P := P) (w := w) (base := base) B
  have G__law_slip := ok__law_slip (P := P) (w := w) (base := base) B
  refine ⟨f, fd, hm, F, F.bindsN (fun _ _ _ _ _ _ us hl => match us, hl with | [_], _ => rfl), ok_fn F sc_law 1 4 rfl rfl (fun cdv A out s H E hr => ?_)⟩
  unfold m_law
  exact (es_cons (ev_s 1 sc_law.nd (ev_tup (ea_cons ev_str (ea_cons ev_int (ea_cons ev_str (ea_cons ev_str (ea_cons ev_int (ea_cons ev_int ea_nil)))))) (.cons (.cons (.cons (.cons (.cons (.cons .nil))))))))
  (es_cons (ev_ifS (et_w (ew_or (et_cmp (op_neS hr.u64) r_ne (ev_cal G_slip_text hr rfl (by decide) (ea_cons (ev_v 1) ea_nil) (.cons .nil)) ev_str rfl) (ew_or (et_cmp (op_neS hr.u64) r_ne (ev_cal G_check_of hr rfl (by decide) (ea_cons ev_str ea_nil) (.cons .nil)) ev_str rfl) (ew_or (et_cmp (op_neS hr.u64) r_ne (ev_cal G_check_of hr rfl (by decide) (ea_cons ev_str ea_nil) (.cons .nil)) ev_str rfl) (ew_or1 (et_cmp op_isntD r_isnt (ev_cal G_is_slip hr rfl (by decide) (ea_cons (ev_v 1) ea_nil) (.cons .nil)) ev_bl rfl))))))
  (es_one (ev_ret ev_bl))
  es_nil)
  (es_cons (ev_for .never rfl (ei_range_1 (B.fre 10 rfl) (ea_cons (ev_bmax (B.fre 11 rfl) (ea_cons ev_int (ea_cons (ev_bmin (B.fre 12 rfl) (ea_cons ev_int (ea_cons (ev_blen (B.fre 2 rfl) (ea_cons (ev_v 0) ea_nil)) ea_nil))) ea_nil))) ea_nil)) (eg_n 2 sc_law.nd)
  (es_cons (ev_s 3 sc_law.nd (ev_cal G__law_pot hr rfl (by decide) (ea_cons (ev_v 0) (ea_cons (ev_v 2) ea_nil)) (.cons (.cons .nil))))
  (es_one (ev_ifS (et_not (et_val (ev_ball (B.fre 6 rfl) (ea_cons (ev_comp (own := [("turn", 4)]) rfl sc_law.nd (ei_range_1 (B.fre 10 rfl) (ea_cons ev_int ea_nil)) (blkOk_by (N := ["script", "won", "k", "pot", "turn"]) (sc := defScope s_law) (by decide +kernel)) (by decide) (fun _ _ _ _ _ => (egw_n 4 sc_law.nd)) (fun _ _ _ _ _ => ets_nil) (fun _ _ _ _ _ => (ev_cal G__law_text_right hr rfl (by decide) (ea_cons (ev_v 3) (ea_cons (ev_cal G__law_slip hr rfl (by decide) (ea_cons (ev_v 3) ea_nil) (.cons .nil)) ea_nil)) (.cons (.cons .nil))))) ea_nil))))
  (es_one (ev_ret ev_bl))
  es_nil))))
  (es_one (ev_ret ev_bl)))))
end
end K26
end K26w__
section K26p__
set_option Elab.async false
set_option linter.all false
set_option autoImplicit false
set_option maxRecDepth 100000
set_option maxHeartbeats 4000000
namespace K26
open PySem L2 PySem.Spec PyProof.Rows Sh SX

theorem r_is_integer (d : D) : M_is_integer [.fz d] = some (.fz (.bool (tyN d == "int")), [.un]) := by
  unfold M_is_integer m_is_integer
  cases d <;> simp [funF, isTy, tyN]
/-- an int between -/
def isIn (d : D) (a b : Int) : Bool := match d with | .int i => decide (a ≤ i) && decide (i ≤ b) | _ => false
theorem r_is_within (d : D) (a b : Int) : M_is_within [.fz d, .fz (.int a), .fz (.int b)] = some (.fz (.bool (isIn d a b)), [.un, .un, .un]) := by
  unfold M_is_within m_is_within
  cases d <;> simp [funF, r_is_integer, tyN, isIn]
  rename_i i
  by_cases h : a ≤ i <;> simp [h]
theorem r_is_tuple (ds : List D) (n : Int) : M_is_tuple [.fz (.tuple ds), .fz (.int n)] = some (.fz (.bool (decide ((ds.length : Int) = n))), [.un, .un]) := by
  unfold M_is_tuple m_is_tuple
  simp [funF, isTy, tyN]
  rfl
/-- the letters' codes -/
def isLet (c : Nat) : Bool := decide (c ∈ (Str.ofString "abcdefghijklmnopqrstuvwxyz").cps)
def isName (l : List Nat) : Bool := decide (1 ≤ l.length) && (decide (l.length ≤ 12) && l.all isLet)
theorem r_is_name_value (l : List Nat) (hl : l.length ≤ 1000) : M_is_name_value [.fz (.str (S l))] = some (.fz (.bool (isName l)), [.un]) := by
  unfold M_is_name_value m_is_name_value isName
  have hz : l.length ≤ sizeLine := by rw [sz16]; omega
  by_cases h1 : 1 ≤ l.length
  · have h1' : (1 : Int) ≤ l.length := by omega
    by_cases h2 : l.length ≤ 12
    · have h2' : (l.length : Int) ≤ 12 := by omega
      have hc := cmpL_map (g := gnF 1) (ft := yesT) (fe := binF inD (varF 1) (conF (.str "abcdefghijklmnopqrstuvwxyz"))) (vs := [1]) (e0 := [.fz (.str (S l)), .un]) (ds := l.map fun c => .str ⟨#[c]⟩)
        (φ := fun d => match inB d (.str "abcdefghijklmnopqrstuvwxyz") with | some b => .bool b | none => .none) (by
          intro d hd
          obtain ⟨c, _, rfl⟩ := List.mem_map.mp hd
          exact ⟨_, _, _, _, _, rfl, rfl, rfl, rfl, rfl⟩)
      simp [funF, isTy, tyN, S_len, h1', h2', signsD, hz, wipeE, resE, hc, Function.comp_def, boolsD_mapf, h1, h2]
      rfl
    · have h2' : ¬ (l.length : Int) ≤ 12 := by omega
      simp [funF, isTy, tyN, S_len, h1', h2', h1, h2]
  · have h1' : ¬ (1 : Int) ≤ l.length := by omega
    simp [funF, isTy, tyN, S_len, h1', h1]
theorem is_name_no (d : D) (h : tyN d ≠ "str") : M_is_name_value [.fz d] = some (.fz (.bool false), [.un]) := by
  unfold M_is_name_value m_is_name_value
  cases d <;> simp [funF, isTy, tyN] at h ⊢
/-- slips -/
theorem r_is_slip_value (a : D) (n1 n2 : List Nat) (v : Int) (b : D) (h1 : n1.length ≤ 1000) (h2 : n2.length ≤ 1000) :
    M_is_slip_value [.fz (.tuple [.str "slip", a, .str (S n1), .str (S n2), .int v, b])] = some (.fz (.bool (isIn a 0 99 && isIn b 0 99 && (decide (0 ≤ v) && decide (v ≤ 2)) && (isName n1 && isName n2 && decide (n1 ≠ n2)))), [.un]) := by
  unfold M_is_slip_value m_is_slip_value
  have hat : ∀ i, atI [.str "slip", a, .str (S n1), .str (S n2), .int v, b] i = if i = 0 then some (.str "slip") else if i = 1 then some a else if i = 2 then some (.str (S n1)) else if i = 3 then some (.str (S n2)) else if i = 4 then some (.int v) else if i = 5 then some b else atI [.str "slip", a, .str (S n1), .str (S n2), .int v, b] i := by
    intro i
    by_cases z : i = 0 ∨ i = 1 ∨ i = 2 ∨ i = 3 ∨ i = 4 ∨ i = 5
    · rcases z with rfl | rfl | rfl | rfl | rfl | rfl <;> rfl
    · have : ¬ i = 0 ∧ ¬ i = 1 ∧ ¬ i = 2 ∧ ¬ i = 3 ∧ ¬ i = 4 ∧ ¬ i = 5 := by omega
      simp [this]
  have e0 : atI [PyData.str "slip", a, .str (S n1), .str (S n2), .int v, b] 0 = some (.str "slip") := rfl
  have e1 : atI [PyData.str "slip", a, .str (S n1), .str (S n2), .int v, b] 1 = some a := rfl
  have e2 : atI [PyData.str "slip", a, .str (S n1), .str (S n2), .int v, b] 2 = some (.str (S n1)) := rfl
  have e3 : atI [PyData.str "slip", a, .str (S n1), .str (S n2), .int v, b] 3 = some (.str (S n2)) := rfl
  have e4 : atI [PyData.str "slip", a, .str (S n1), .str (S n2), .int v, b] 4 = some (.int v) := rfl
  have e5 : atI [PyData.str "slip", a, .str (S n1), .str (S n2), .int v, b] 5 = some b := rfl
  have w4 : isIn (.int v) 0 2 = (decide (0 ≤ v) && decide (v ≤ 2)) := rfl
  have hne : (S n1 == S n2) = decide (n1 = n2) := S_beq_eq
  cases hA : isIn a 0 99 <;> cases hB : isIn b 0 99 <;> cases hV : (decide (0 ≤ v) && decide (v ≤ 2)) <;> cases hN : isName n1 <;> cases hM : isName n2 <;>
    simp [funF, r_is_tuple, e0, e1, e2, e3, e4, e5, isTy, tyN, r_is_within, hA, hB, w4, hV, r_is_name_value, h1, h2, hN, hM, hne]
/-! ### numbers -/
theorem lit_minus : Str.ofString "-" = S [45] := rfl
theorem lit_zero : Str.ofString "0" = S [48] := rfl
theorem lit_none : Str.ofString "" = S [] := rfl
theorem lit_00 : Str.ofString "00" = S [48, 48] := rfl
theorem lit_sp : Str.ofString " " = S [32] := rfl
def isDig (c : Nat) : Bool := decide (c ∈ (Str.ofString "0123456789").cps)
theorem isDig_iff {c : Nat} (h : isDig c = true) : 48 ≤ c ∧ c ≤ 57 := by
  have h := of_decide_eq_true h
  have e : (Str.ofString "0123456789").cps = #[48, 49, 50, 51, 52, 53, 54, 55, 56, 57] := rfl
  rw [e] at h
  simp at h
  omega
/-- what number_in gives -/
def numI (p : List Nat) : D :=
  let dg := if p.take 1 = [45] then p.drop 1 else p
  if dg = [] ∨ 13 < dg.length ∨ dg.all isDig = false then .none
  else if dg.head? = some 48 ∧ p ≠ [48] then .none
  else .int (if p.take 1 = [45] then -((NumText.digitsVal dg : Nat) : Int) else ((NumText.digitsVal dg : Nat) : Int))
theorem all_dig {dg : List Nat} (h : dg.all isDig = true) : NumText.AllDigits dg := fun c hc => isDig_iff (List.all_eq_true.mp h c hc)
theorem r_number_in (p : List Nat) (hl : p.length ≤ 600) : M_number_in [.fz (.str (S p))] = some (.fz (numI p), [.un]) := by
  have t1 : cutL p none (some 1) = p.take 1 := cutL_to p 1
  have t2 : cutL p (some 1) none = p.drop 1 := cutL_from p 1
  obtain ⟨dg, hdg⟩ : ∃ dg, dg = if p.take 1 = [45] then p.drop 1 else p := ⟨_, rfl⟩
  have hdl : dg.length ≤ p.length := by
    rw [hdg]
    split
    · rw [List.length_drop]; omega
    · exact Nat.le_refl _
  have first : (ifF (tstF (binF eqD (slF cutD (varF 0) none (some (conF (.int 1)))) (conF (.str "-")))) (slF cutD (varF 0) (some (conF (.int 1))) none) (varF 0)) [.fz (.str (S p)), .un, .un] = some (.fz (.str (S dg)), [.fz (.str (S p)), .un, .un]) := by
    rw [hdg]
    by_cases h : p.take 1 = [45] <;> simp [cutS_S, t1, t2, lit_minus, S_beq_eq, h]
  have hz : dg.length ≤ sizeLine := by rw [sz16]; omega
  have hc := cmp_signs (i := 2) (k := Str.ofString "0123456789") (z := S dg) (e0 := [.fz (.str (S p)), .fz (.str (S dg)), .un]) rfl
  unfold M_number_in m_number_in numI
  rw [← hdg]
  simp only [funF, seqF_ap, setF_ap, List.cons_append, List.nil_append, List.replicate, first]
  by_cases h1 : dg = []
  · simp [h1, lit_none, S_beq_eq]
  · by_cases h2 : 13 < dg.length
    · have h2' : (13 : Int) < dg.length := by omega
      simp [h1, h2, h2', lit_none, S_beq_eq, S_len]
    · have h2' : ¬ (13 : Int) < dg.length := by omega
      cases h3 : dg.all isDig with
      | false =>
        have h3' : (dg.all fun c => decide (c ∈ (Str.ofString "0123456789").cps)) = false := h3
        have hlen : (signsD (S dg)).length ≤ sizeLine := by unfold signsD; simp [hz]
        simp [h1, h2, h2', lit_none, S_beq_eq, S_len, wipeE, resE, hc, hlen, boolsD_mapf, h3', Function.comp_def]
      | true =>
        have h3' : (dg.all fun c => decide (c ∈ (Str.ofString "0123456789").cps)) = true := h3
        have hlen : (signsD (S dg)).length ≤ sizeLine := by unfold signsD; simp [hz]
        obtain ⟨c0, r, hd⟩ : ∃ c0 r, dg = c0 :: r := by
          cases dg with
          | nil => exact absurd rfl h1
          | cons a b => exact ⟨a, b, rfl⟩
        have hat : atI dg 0 = some c0 := atI_nat (j := 0) (by rw [hd]; rfl)
        have hh : dg.head? = some c0 := by rw [hd]; rfl
        have hA := all_dig h3
        have hI : intG [.str (S p)] = some (.fz (.int (if p.take 1 = [45] then -((NumText.digitsVal dg : Nat) : Int) else ((NumText.digitsVal dg : Nat) : Int)))) := by
          show (if (S p).length ≤ 640 then (intText? (S p)).map fun n => Va.fz (.int n) else none) = _
          rw [if_pos (by rw [S_len]; omega)]
          by_cases hm : p.take 1 = [45]
          · have e1 : dg = p.drop 1 := by rw [hdg, if_pos hm]
            have e2 : p = 45 :: dg := by
              have := List.take_append_drop 1 p
              rw [hm, ← e1] at this
              exact this.symm
            rw [if_pos hm, intText_neg (x := S p) (cs := dg) e2 hA h1 (by rw [S_len]; omega)]
            rfl
          · have e1 : dg = p := by rw [hdg, if_neg hm]
            rw [if_neg hm, e1]
            rw [e1] at hA h1
            rw [intText_digits (x := S p) hA h1 (by rw [S_len]; omega)]
            rfl
        have z1 : ((⟨#[c0]⟩ : Str) == S [48]) = decide (c0 = 48) := by
          have := S_beq_eq (a := [c0]) (b := [48])
          simpa using this
        have z2 : (S p == S [48]) = decide (p = [48]) := S_beq_eq
        have hcond : (decide (c0 = 48) && !decide (p = [48])) = decide (dg.head? = some 48 ∧ p ≠ [48]) := by
          rw [hh]
          by_cases a1 : c0 = 48 <;> by_cases a2 : p = [48] <;> simp [a1, a2]
        by_cases hk : dg.head? = some 48 ∧ p ≠ [48]
        · have k1 : c0 = 48 := by have := hk.1; rw [hh] at this; exact Option.some.inj this
          simp [h1, h2, h2', lit_none, S_beq_eq, S_len, wipeE, resE, hc, hlen, boolsD_mapf, h3', Function.comp_def, hat, hh, lit_zero, z1, z2, k1, hk.2]
        · rw [if_neg (by simp [h1, h2, h3]), if_neg hk]
          by_cases a1 : c0 = 48
          · have a2 : p = [48] := Classical.byContradiction fun z => hk ⟨by rw [hh, a1], z⟩
            have z2' : (S p == S [48]) = true := by rw [z2]; exact decide_eq_true a2
            simp [h1, h2, h2', lit_none, S_beq_eq, S_len, wipeE, resE, hc, hlen, boolsD_mapf, h3', Function.comp_def, hat, hh, lit_zero, z1, z2', a1, hI]
          · simp [h1, h2, h2', lit_none, S_beq_eq, S_len, wipeE, resE, hc, hlen, boolsD_mapf, h3', Function.comp_def, hat, hh, lit_zero, z1, z2, a1, hI]
end K26
end K26p__
section K26q__
set_option Elab.async false
set_option linter.all false
set_option autoImplicit false
set_option maxRecDepth 100000
set_option maxHeartbeats 4000000
namespace K26
open PySem L2 PySem.Spec PyProof.Rows Sh SX

/-! ### three digits -/
def pad3 (n : Nat) : List Nat := [48 + n / 100, 48 + n / 10 % 10, 48 + n % 10]
theorem pad_tab (n : Nat) (h : n < 1000) : (TL.numL n).length ≤ 3 ∧ List.replicate (3 - (TL.numL n).length) 48 ++ TL.numL n = pad3 n ∧ ([48, 48] ++ TL.numL n).drop (([48, 48] ++ TL.numL n).length - 3) = pad3 n := by
  unfold pad3
  by_cases h1 : n < 10
  · rw [TL.numL_lt h1]
    have a1 : n / 100 = 0 := by omega
    have a2 : n / 10 % 10 = 0 := by omega
    have a3 : n % 10 = n := by omega
    rw [a1, a2, a3]
    exact ⟨by simp, rfl, rfl⟩
  · by_cases h2 : n < 100
    · rw [TL.numL_step (by omega), TL.numL_lt (by omega : n / 10 < 10)]
      have a1 : n / 100 = 0 := by omega
      have a2 : n / 10 % 10 = n / 10 := by omega
      rw [a1, a2]
      exact ⟨by simp, rfl, rfl⟩
    · rw [TL.numL_step (by omega), TL.numL_step (by omega : 10 ≤ n / 10), TL.numL_lt (by omega : n / 10 / 10 < 10)]
      have a1 : n / 10 / 10 = n / 100 := by omega
      rw [a1]
      exact ⟨by simp, rfl, rfl⟩
theorem rep48 (k : Nat) : repS (S [48]) (k : Int) = S (List.replicate k 48) := by
  unfold repS
  rw [Int.toNat_natCast]
  show (⟨(List.replicate k [48]).flatten.toArray⟩ : Str) = ⟨(List.replicate k 48).toArray⟩
  congr 2
  induction k with
  | zero => rfl
  | succ k ih => rw [List.replicate_succ, List.flatten_cons, ih, List.replicate_succ]; rfl
theorem mul_48 (k : Nat) (hk3 : k ≤ 3) : mulD (.str (S [48])) (.int (k : Int)) = some (.fz (.str (S (List.replicate k 48)))) := by
  rw [← rep48, mul_si, if_pos]
  have hz : (S [48]).length = 1 := rfl
  rw [hz, Int.toNat_natCast, sz16]
  have p20 : (2 : Int) ^ 20 = 1048576 := by decide
  rw [p20]
  refine ⟨by omega, by omega, by decide, by omega⟩
theorem add_S (a b : List Nat) (h : a.length + b.length ≤ 100000) : addD (.str (S a)) (.str (S b)) = some (.fz (.str (S (a ++ b)))) := by
  rw [add_ss, if_pos (by rw [S_len, S_len, sz16]; omega), S_cat]
theorem pad_core (n : Nat) (q : List Nat) (x y z : Str) (hs : strG [.int (n : Nat)] = some (.fz (.str z))) (hl : z.length = q.length) (hk : (3 : Int) - (q.length : Nat) = ((3 - q.length : Nat) : Int)) (hm : mulD (.str (S [48])) (.int ((3 - q.length : Nat) : Int)) = some (.fz (.str x)))
    (ha : addD (.str x) (.str z) = some (.fz (.str y))) : M_padded [.fz (.int (n : Nat))] = some (.fz (.str y), [.un]) := by
  have e1 : (setF 1 (cbF strG (argC (varF 0) argN))) [.fz (.int (n : Nat)), .un] = some (.nx [.fz (.int (n : Nat)), .fz (.str z)]) := by
    simp only [funF, seqF_ap, setF_ap, retF_ap, slF_ap, binF_ap, conF_ap, cbF_ap, argC_ap, argN_ap, varF_ap, List.cons_append, List.nil_append, List.append_nil, List.replicate, List.getElem?_cons_zero, List.getElem?_cons_succ, Option.bind_some, Option.map_some, rd_fz, rd_fr, st_fz, rdAll_cons, rdAll_nil, setSl_fz, List.set_cons_zero, List.set_cons_succ, sub_ii, finE_fz, finE_nil, hs]
  have e2 : (binF subD (conF (.int 3)) (cbF lenG (argC (varF 1) argN))) [.fz (.int (n : Nat)), .fz (.str z)] = some (.fz (.int ((3 - q.length : Nat) : Int)), [.fz (.int (n : Nat)), .fz (.str z)]) := by
    simp only [funF, seqF_ap, setF_ap, retF_ap, slF_ap, binF_ap, conF_ap, cbF_ap, argC_ap, argN_ap, varF_ap, List.cons_append, List.nil_append, List.append_nil, List.replicate, List.getElem?_cons_zero, List.getElem?_cons_succ, Option.bind_some, Option.map_some, rd_fz, rd_fr, st_fz, rdAll_cons, rdAll_nil, setSl_fz, List.set_cons_zero, List.set_cons_succ, sub_ii, finE_fz, finE_nil, len_s, hl, hk]
  have e3 : (binF mulD (conF (.str "0")) (binF subD (conF (.int 3)) (cbF lenG (argC (varF 1) argN)))) [.fz (.int (n : Nat)), .fz (.str z)] = some (.fz (.str x), [.fz (.int (n : Nat)), .fz (.str z)]) := by
    rw [binF_ap, conF_ap, Option.bind_some, e2, Option.bind_some, rd_fz, Option.bind_some, rd_fz, Option.bind_some, lit_zero, hm]
    rfl
  have e5 : (varF 1) [.fz (.int (n : Nat)), .fz (.str z)] = some (.fz (.str z), [.fz (.int (n : Nat)), .fz (.str z)]) := rfl
  have e4 : (retF (binF addD (binF mulD (conF (.str "0")) (binF subD (conF (.int 3)) (cbF lenG (argC (varF 1) argN)))) (varF 1))) [.fz (.int (n : Nat)), .fz (.str z)] = some (.rt (.fz (.str y)) [.fz (.int (n : Nat)), .fz (.str z)]) := by
    rw [retF_ap, binF_ap, e3, Option.bind_some, e5, Option.bind_some, rd_fz, Option.bind_some, rd_fz, Option.bind_some, ha]
    rfl
  have e6 : m_padded [.fz (.int (n : Nat)), .un] = some (.rt (.fz (.str y)) [.fz (.int (n : Nat)), .fz (.str z)]) := by
    unfold m_padded
    rw [seqF_ap, e1, Option.bind_some]
    exact e4
  show (m_padded [.fz (.int (n : Nat)), .un]).bind _ = _
  rw [e6]
  rfl
theorem r_padded (n : Nat) (h : n < 1000) : M_padded [.fz (.int (n : Nat))] = some (.fz (.str (S (pad3 n))), [.un]) := by
  obtain ⟨h1, h2, _⟩ := pad_tab n h
  have ha := add_S (List.replicate (3 - (TL.numL n).length) 48) (TL.numL n) (by rw [List.length_replicate]; omega)
  rw [h2] at ha
  exact pad_core n (TL.numL n) _ _ _ (strG_nat (by omega)) (S_len _) (by omega) (mul_48 _ (Nat.sub_le _ _)) ha
theorem r__law_padded (n : Nat) (h : n < 1000) : M__law_padded [.fz (.int (n : Nat))] = some (.fz (.str (S (pad3 n))), [.un]) := by
  obtain ⟨h1, _, h2⟩ := pad_tab n h
  have hs : strG [.int (n : Nat)] = some (.fz (.str (S (TL.numL n)))) := strG_nat (by omega)
  have ha : addD (.str (S [48, 48])) (.str (S (TL.numL n))) = some (.fz (.str (S ([48, 48] ++ TL.numL n)))) := by
    rw [add_ss, if_pos (by rw [S_len, S_len, sz16]; simp; omega), S_cat]
  have hc : cutS (S ([48, 48] ++ TL.numL n)) (some (-3)) none = S (pad3 n) := by
    rw [cutS_S]
    have := cutL_last ([48, 48] ++ TL.numL n) 3 (by decide)
    rw [show (some (-3 : Int)) = some (-((3 : Nat) : Int)) from rfl, this, h2]
  unfold M__law_padded m__law_padded
  simp only [funF, retF_ap, slF_ap, binF_ap, conF_ap, cbF_ap, argC_ap, argN_ap, varF_ap, List.append_nil, List.replicate, List.getElem?_cons_zero, Option.bind_some, Option.map_some, rd_fz, st_fz, rdAll_cons, rdAll_nil, hs, lit_00, ha, prtF_some, unF_ap, neg_i, prtF_none, cut_s, hc]
  rfl

/-! ### the sums -/
def w1 : List Nat → Int
  | [] => 0
  | c :: l => ((c : Int) - 32) + w1 l
def w2 : Nat → List Nat → Int
  | _, [] => 0
  | i, c :: l => ((c : Int) - 32) * ((i : Int) + 1) + w2 (i + 1) l
def chk (l : List Nat) : List Nat := pad3 (w1 l % 997).toNat ++ pad3 (w2 0 l % 997).toNat
theorem sum_w1 (l : List Nat) : (l.map fun (c : Nat) => (c : Int) - 32).sum = w1 l := by
  induction l with
  | nil => rfl
  | cons c l ih => rw [List.map_cons, List.sum_cons, ih]; rfl
theorem sum_w2 (l : List Nat) (i : Nat) : (l.mapIdx fun k (c : Nat) => ((c : Int) - 32) * (((i + k : Nat) : Int) + 1)).sum = w2 i l := by
  induction l generalizing i with
  | nil => rfl
  | cons c l ih =>
    rw [List.mapIdx_cons, List.sum_cons]
    have := ih (i + 1)
    show _ = ((c : Int) - 32) * ((i : Int) + 1) + w2 (i + 1) l
    rw [← this]
    simp only [Nat.add_zero]
    congr 2
    refine List.mapIdx_eq_mapIdx_iff.mpr fun k hk => ?_
    have e : i + (k + 1) = i + 1 + k := by omega
    rw [e]
theorem r_check_in (l : List Nat) (hl : l.length ≤ 1000) : M_check_in [.fz (.str (S l))] = some (.fz (.str (S (chk l))), [.un]) := by
  have hz : (signsD (S l)).length ≤ sizeLine := by unfold signsD; rw [List.length_map, sz16]; show l.length ≤ _; omega
  have c1 : cmpL (gnF 3) yesT (binF subD (cbF ordG (argC (varF 3) argN)) (cbF ordG (argC (conF (.str " ")) argN))) [3] (signsD (S l)) [.fz (.str (S l)), .un, .un, .un, .un, .un] =
      some (l.map (fun (c : Nat) => PyData.int ((c : Int) - 32)), [.fz (.str (S l)), .un, .un, .un, .un, .un]) := by
    have h := cmpL_map (g := gnF 3) (ft := yesT) (fe := binF subD (cbF ordG (argC (varF 3) argN)) (cbF ordG (argC (conF (.str " ")) argN))) (vs := [3]) (e0 := [.fz (.str (S l)), .un, .un, .un, .un, .un]) (ds := signsD (S l))
      (φ := fun d => match d with | .str z => .int ((z.cps.getD 0 0 : Nat) - 32) | _ => .none) (by
        intro d hd
        obtain ⟨c, _, rfl⟩ := List.mem_map.mp hd
        exact ⟨_, _, _, _, _, rfl, rfl, rfl, rfl, rfl⟩)
    rw [h]
    unfold signsD
    rw [List.map_map]
    rfl
  have s1 : (setF 1 (cmpF (itF isQ (varF 0)) (gnF 3) yesT (binF subD (cbF ordG (argC (varF 3) argN)) (cbF ordG (argC (conF (.str " ")) argN))) [3])) [.fz (.str (S l)), .un, .un, .un, .un, .un] =
      some (.nx [.fz (.str (S l)), .ow false (.list (l.map (fun (c : Nat) => PyData.int ((c : Int) - 32)))), .un, .un, .un, .un]) := by
    simp only [setF_ap, cmpF_ap, itF_ap, varF_ap, List.getElem?_cons_zero, Option.bind_some, st_fz, fzn_fz, isQ_s, if_true, items_s, Option.map_some, hz, wipeE, List.set_cons_succ, List.set_cons_zero, c1, resE, List.getElem?_cons_succ, setSl_fr]
  obtain ⟨cs, hcs⟩ : ∃ cs, cs = l.map (fun (c : Nat) => (c : Int) - 32) := ⟨_, rfl⟩
  have hcs2 : l.map (fun (c : Nat) => PyData.int ((c : Int) - 32)) = cs.map .int := by rw [hcs, List.map_map]; rfl
  rw [hcs2] at s1
  have c2 : cmpL (gtF 2 (gsC (gnF 4) (gsC (gnF 5) gsN))) yesT (binF mulD (varF 5) (binF addD (varF 4) (conF (.int 1)))) [4, 5] ((cs.map PyData.int).mapIdx fun i x => .tuple [.int (i : Nat), x]) [.fz (.str (S l)), .fz (.list (cs.map .int)), .un, .un, .un, .un] =
      some ((cs.mapIdx fun i c => c * ((i : Int) + 1)).map .int, [.fz (.str (S l)), .fz (.list (cs.map .int)), .un, .un, .un, .un]) := by
    have h := cmpL_map (g := gtF 2 (gsC (gnF 4) (gsC (gnF 5) gsN))) (ft := yesT) (fe := binF mulD (varF 5) (binF addD (varF 4) (conF (.int 1)))) (vs := [4, 5]) (e0 := [.fz (.str (S l)), .fz (.list (cs.map .int)), .un, .un, .un, .un])
      (ds := (cs.map PyData.int).mapIdx fun i x => .tuple [.int (i : Nat), x]) (φ := fun d => match d with | .tuple [.int i, .int c] => .int (c * (i + 1)) | _ => .none) (by
        intro d hd
        obtain ⟨k, hk, rfl⟩ := List.mem_mapIdx.mp hd
        have hk2 : k < cs.length := by simpa using hk
        have hb : ((k : Nat) : Int) + 1 < 2 ^ 64 := by
          have h1 : cs.length = l.length := by rw [hcs, List.length_map]
          have : (2 : Int) ^ 64 = 18446744073709551616 := by decide
          omega
        have hb2 : -(2 ^ 64) < ((k : Nat) : Int) + 1 := by
          have : (2 : Int) ^ 64 = 18446744073709551616 := by decide
          omega
        have e9 : (cs.map PyData.int)[k] = .int cs[k] := List.getElem_map ..
        have hmul : mulD (.int cs[k]) (.int ((k : Int) + 1)) = some (.fz (.int (cs[k] * ((k : Int) + 1)))) := by
          rw [mul_ii, if_pos (.inr ⟨hb2, hb⟩)]
        rw [e9]
        refine ⟨[.fz (.str (S l)), .fz (.list (cs.map .int)), .un, .un, .fz (.int (k : Nat)), .fz (.int cs[k])], [.fz (.str (S l)), .fz (.list (cs.map .int)), .un, .un, .fz (.int (k : Nat)), .fz (.int cs[k])], .fz (.int (cs[k] * ((k : Int) + 1))), [.fz (.str (S l)), .fz (.list (cs.map .int)), .un, .un, .fz (.int (k : Nat)), .fz (.int cs[k])], [.fz (.str (S l)), .fz (.list (cs.map .int)), .un, .un, .fz (.int (k : Nat)), .fz (.int cs[k])], rfl, rfl, ?_, rfl, rfl⟩
        rw [binF_ap]
        show ((some (Va.fz (.int cs[k]), _)).bind _ : Option _) = _
        rw [Option.bind_some, binF_ap]
        show ((some (Va.fz (.int ((k : Int) + 1)), _)).bind _ : Option _) = _
        rw [Option.bind_some, rd_fz, Option.bind_some, rd_fz, Option.bind_some, hmul]
        rfl)
    rw [h]
    congr 1
    congr 1
    exact List.ext_getElem (by simp) fun i h1 h2 => by simp
  have h2 : (cs.mapIdx fun i c => c * ((i : Int) + 1)).sum = w2 0 l := by
    rw [← sum_w2 l 0, hcs]
    congr 1
    exact List.ext_getElem (by simp) fun i h1 h2 => by simp
  have hlen2 : ((cs.map PyData.int).mapIdx fun i x => PyData.tuple [.int (i : Nat), x]).length ≤ sizeLine := by
    rw [List.length_mapIdx, List.length_map, hcs, List.length_map, sz16]; omega
  have s2 : (setF 2 (cbF sumG (argC (cmpF (enF (argC (varF 1) argN)) (gtF 2 (gsC (gnF 4) (gsC (gnF 5) gsN))) yesT (binF mulD (varF 5) (binF addD (varF 4) (conF (.int 1)))) [4, 5]) argN))) [.fz (.str (S l)), .ow false (.list (cs.map .int)), .un, .un, .un, .un] =
      some (.nx [.fz (.str (S l)), .fz (.list (cs.map .int)), .fz (.int (w2 0 l)), .un, .un, .un]) := by
    have hen : enF (argC (varF 1) argN) [.fz (.str (S l)), .ow false (.list (cs.map .int)), .un, .un, .un, .un] = some ((cs.map PyData.int).mapIdx (fun i x => .tuple [.int (i : Nat), x]), [.fz (.str (S l)), .fz (.list (cs.map .int)), .un, .un, .un, .un]) := rfl
    have hsum : sumG [.list ((cs.mapIdx fun i c => c * ((i : Int) + 1)).map .int)] = some (.fz (.int (w2 0 l))) := by
      rw [sum_l, intsD_map, ← h2]
      rfl
    simp only [setF_ap, cbF_ap, argC_ap, argN_ap, cmpF_ap, hen, Option.bind_some, hlen2, if_true, wipeE, List.set_cons_succ, List.set_cons_zero, c2, Option.map_some, resE, List.getElem?_cons_succ, List.getElem?_cons_zero, st_fr, rdAll_cons, rdAll_nil, rd_fz, hsum, setSl_fz]
  have hs1 : sumG [.list (cs.map .int)] = some (.fz (.int (w1 l))) := by
    rw [sum_l, intsD_map, ← sum_w1, hcs]
    rfl
  have m1 : (w1 l % 997) = ((w1 l % 997).toNat : Int) ∧ (w1 l % 997).toNat < 1000 := by omega
  have m2 : (w2 0 l % 997) = ((w2 0 l % 997).toNat : Int) ∧ (w2 0 l % 997).toNat < 1000 := by omega
  have p1 := r_padded _ m1.2
  have p2 := r_padded _ m2.2
  have ha := add_S (pad3 (w1 l % 997).toNat) (pad3 (w2 0 l % 997).toNat) (show 3 + 3 ≤ 100000 by decide)
  rw [← m1.1] at p1
  rw [← m2.1] at p2
  have s3 : (retF (binF addD (callF [false] M_padded (argC (binF modD (cbF sumG (argC (varF 1) argN)) (conF (.int 997))) argN)) (callF [false] M_padded (argC (binF modD (varF 2) (conF (.int 997))) argN)))) [.fz (.str (S l)), .fz (.list (cs.map .int)), .fz (.int (w2 0 l)), .un, .un, .un] =
      some (.rt (.fz (.str (S (chk l)))) [.fz (.str (S l)), .fz (.list (cs.map .int)), .fz (.int (w2 0 l)), .un, .un, .un]) := by
    have q1 : modD (.int (w1 l)) (.int 997) = some (.fz (.int (w1 l % 997))) := rfl
    have q2 : modD (.int (w2 0 l)) (.int 997) = some (.fz (.int (w2 0 l % 997))) := rfl
    simp only [retF_ap, binF_ap, callF_ap, argC_ap, argN_ap, cbF_ap, varF_ap, conF_ap, List.getElem?_cons_succ, List.getElem?_cons_zero, Option.bind_some, Option.map_some, st_fz, rdAll_cons, rdAll_nil, rd_fz, hs1, q1, q2, preA_no, preA_nil, fzn_fz, ixs_l, ixs_nil, List.nodup_nil, if_true, mkE_l, mkE_nil, p1, p2, bak_l, bak_nil, ha, chk]
  show (m_check_in [.fz (.str (S l)), .un, .un, .un, .un, .un]).bind _ = _
  unfold m_check_in
  rw [seqF_ap, s1, Option.bind_some]
  show ((seqF _ _) _).bind _ = _
  rw [seqF_ap, s2, Option.bind_some]
  show (retF _ _).bind _ = _
  rw [s3]
  rfl
/-! ### the law's own check -/
noncomputable def bodyC : FS := (parS 1 2 (binF subD (binF addD (varF 1) (cbF ordG (argC (varF 4) argN))) (conF (.int 32))) (binF addD (varF 2) (binF mulD (binF subD (cbF ordG (argC (varF 4) argN)) (conF (.int 32))) (binF addD (varF 3) (conF (.int 1))))))
noncomputable def tgC : FG := (gtF 2 (gsC (gnF 3) (gsC (gnF 4) gsN)))
theorem loopC (B : D) : ∀ (l : List Nat) (i : Nat) (f s : Int) (x y : Sl), (x = .un ∨ ∃ d, x = .fz d) → (y = .un ∨ ∃ d, y = .fz d) → i + l.length ≤ 1000 →
    ∃ x' y', forL tgC bodyC (l.mapIdx fun k c => .tuple [.int ((i + k : Nat) : Int), .str ⟨#[c]⟩]) [.fz B, .fz (.int f), .fz (.int s), x, y] = some (.nx [.fz B, .fz (.int (f + w1 l)), .fz (.int (s + w2 i l)), x', y'])
  | [], i, f, s, x, y, _, _, _ => ⟨x, y, by simp [forL, w1, w2]⟩
  | c :: l, i, f, s, x, y, hx, hy, hl => by
    have hl' : i + 1 + l.length ≤ 1000 := by rw [List.length_cons] at hl; omega
    obtain ⟨x', y', ih⟩ := loopC B l (i + 1) (f + c - 32) (s + ((c : Int) - 32) * ((i : Int) + 1)) (.fz (.int (i : Nat))) (.fz (.str ⟨#[c]⟩)) (.inr ⟨_, rfl⟩) (.inr ⟨_, rfl⟩) hl'
    refine ⟨x', y', ?_⟩
    rw [List.mapIdx_cons]
    have hg : tgC (.tuple [.int ((i + 0 : Nat) : Int), .str ⟨#[c]⟩]) [.fz B, .fz (.int f), .fz (.int s), x, y] = some [.fz B, .fz (.int f), .fz (.int s), .fz (.int (i : Nat)), .fz (.str ⟨#[c]⟩)] := by
      rcases hx with rfl | ⟨d, rfl⟩ <;> rcases hy with rfl | ⟨d', rfl⟩ <;> rfl
    have hb : ((i : Nat) : Int) + 1 < 2 ^ 64 := by
      have : (2 : Int) ^ 64 = 18446744073709551616 := by decide
      omega
    have hb2 : -(2 ^ 64) < ((i : Nat) : Int) + 1 := by
      have : (2 : Int) ^ 64 = 18446744073709551616 := by decide
      omega
    have hmul : mulD (.int ((c : Int) - 32)) (.int ((i : Int) + 1)) = some (.fz (.int (((c : Int) - 32) * ((i : Int) + 1)))) := by
      rw [mul_ii, if_pos (.inr ⟨hb2, hb⟩)]
    have hbd : bodyC [.fz B, .fz (.int f), .fz (.int s), .fz (.int (i : Nat)), .fz (.str ⟨#[c]⟩)] = some (.nx [.fz B, .fz (.int (f + c - 32)), .fz (.int (s + ((c : Int) - 32) * ((i : Int) + 1))), .fz (.int (i : Nat)), .fz (.str ⟨#[c]⟩)]) := by
      unfold bodyC
      simp only [parS_ap, binF_ap, varF_ap, List.getElem?_cons_succ, List.getElem?_cons_zero, Option.bind_some, cbF_ap, argC_ap, argN_ap, Option.map_some, st_fz, rdAll_cons, rdAll_nil, rd_fz, ord_s, add_ii, conF_ap, sub_ii, noBo_fz, if_true, hmul, setSl_fz, List.set_cons_succ, List.set_cons_zero]
    have e1 : f + c - 32 + w1 l = f + w1 (c :: l) := by show _ = f + (((c : Int) - 32) + w1 l); omega
    have e2 : s + ((c : Int) - 32) * ((i : Int) + 1) + w2 (i + 1) l = s + w2 i (c :: l) := by show _ = s + (((c : Int) - 32) * ((i : Int) + 1) + w2 (i + 1) l); omega
    rw [e1, e2] at ih
    have e3 : (l.mapIdx fun k c => PyData.tuple [.int ((i + (k + 1) : Nat) : Int), .str ⟨#[c]⟩]) = l.mapIdx fun k c => .tuple [.int ((i + 1 + k : Nat) : Int), .str ⟨#[c]⟩] := by
      refine List.mapIdx_eq_mapIdx_iff.mpr fun k hk => ?_
      have e : i + (k + 1) = i + 1 + k := by omega
      rw [e]
    show (tgC _ _).bind _ = _
    rw [hg]
    show (bodyC _).bind _ = _
    rw [hbd]
    show forL tgC bodyC (l.mapIdx fun k c => PyData.tuple [.int ((i + (k + 1) : Nat) : Int), .str ⟨#[c]⟩]) _ = _
    rw [e3]
    exact ih
theorem r__law_check (l : List Nat) (hl : l.length ≤ 1000) : M__law_check [.fz (.str (S l))] = some (.fz (.str (S (chk l))), [.un]) := by
  obtain ⟨x', y', hlp⟩ := loopC (.str (S l)) l 0 0 0 .un .un (.inl rfl) (.inl rfl) (by omega)
  simp only [Nat.zero_add, Int.zero_add] at hlp
  have s1 : (asgF (tupF (argC (conF (.int 0)) (argC (conF (.int 0)) argN))) (gtF 2 (gsC (gnF 1) (gsC (gnF 2) gsN)))) [.fz (.str (S l)), .un, .un, .un, .un] = some (.nx [.fz (.str (S l)), .fz (.int 0), .fz (.int 0), .un, .un]) := by
    have hz : ([PyData.int 0, .int 0] : List D).length ≤ sizeLine := by rw [sz16]; decide
    simp only [asgF_ap, tupF_ap, argC_ap, argN_ap, conF_ap, Option.bind_some, Option.map_some, st_fz, fzAll_cons, fzAll_nil, fzn_fz, hz, if_true]
    rfl
  have hen : enF (argC (varF 0) argN) [.fz (.str (S l)), .fz (.int 0), .fz (.int 0), .un, .un] = some (l.mapIdx (fun k c => .tuple [.int ((k : Nat) : Int), .str ⟨#[c]⟩]), [.fz (.str (S l)), .fz (.int 0), .fz (.int 0), .un, .un]) := rfl
  have s2 : (forS (enF (argC (varF 0) argN)) tgC bodyC) [.fz (.str (S l)), .fz (.int 0), .fz (.int 0), .un, .un] = some (.nx [.fz (.str (S l)), .fz (.int (w1 l)), .fz (.int (w2 0 l)), x', y']) := by
    rw [forS_ap, hen, Option.bind_some]
    exact hlp
  have m1 : (w1 l % 997) = ((w1 l % 997).toNat : Int) ∧ (w1 l % 997).toNat < 1000 := by omega
  have m2 : (w2 0 l % 997) = ((w2 0 l % 997).toNat : Int) ∧ (w2 0 l % 997).toNat < 1000 := by omega
  have p1 := r__law_padded _ m1.2
  have p2 := r__law_padded _ m2.2
  have ha := add_S (pad3 (w1 l % 997).toNat) (pad3 (w2 0 l % 997).toNat) (show 3 + 3 ≤ 100000 by decide)
  rw [← m1.1] at p1
  rw [← m2.1] at p2
  have s3 : (retF (binF addD (callF [false] M__law_padded (argC (cbF intG (argC (binF modD (varF 1) (conF (.int 997))) argN)) argN)) (callF [false] M__law_padded (argC (cbF intG (argC (binF modD (varF 2) (conF (.int 997))) argN)) argN)))) [.fz (.str (S l)), .fz (.int (w1 l)), .fz (.int (w2 0 l)), x', y'] =
      some (.rt (.fz (.str (S (chk l)))) [.fz (.str (S l)), .fz (.int (w1 l)), .fz (.int (w2 0 l)), x', y']) := by
    have q1 : modD (.int (w1 l)) (.int 997) = some (.fz (.int (w1 l % 997))) := rfl
    have q2 : modD (.int (w2 0 l)) (.int 997) = some (.fz (.int (w2 0 l % 997))) := rfl
    simp only [retF_ap, binF_ap, callF_ap, argC_ap, argN_ap, cbF_ap, varF_ap, conF_ap, List.getElem?_cons_succ, List.getElem?_cons_zero, Option.bind_some, Option.map_some, st_fz, rdAll_cons, rdAll_nil, rd_fz, q1, q2, int_i, preA_no, preA_nil, fzn_fz, ixs_l, ixs_nil, List.nodup_nil, if_true, mkE_l, mkE_nil, p1, p2, bak_l, bak_nil, ha, chk]
  show (m__law_check [.fz (.str (S l)), .un, .un, .un, .un]).bind _ = _
  unfold m__law_check
  rw [seqF_ap, s1, Option.bind_some]
  show ((seqF _ _) _).bind _ = _
  rw [seqF_ap]
  have s2' := s2
  unfold tgC bodyC at s2'
  rw [s2', Option.bind_some]
  show (retF _ _).bind _ = _
  rw [s3]
  rfl
end K26
end K26q__
section K26r__
set_option Elab.async false
set_option linter.all false
set_option autoImplicit false
set_option maxRecDepth 100000
set_option maxHeartbeats 4000000
namespace K26
open PySem L2 PySem.Spec PyProof.Rows Sh SX

def verb : Nat → List Nat
  | 0 => [121, 105, 101, 108, 100, 115]
  | 1 => [100, 114, 97, 119, 115]
  | _ => [98, 101, 97, 116, 115]
theorem lit_verbs : (PyData.tuple [.str "yields", .str "draws", .str "beats"]) = .tuple [.str (S (verb 0)), .str (S (verb 1)), .str (S (verb 2))] := rfl
def slipD (a : Nat) (n1 n2 : List Nat) (v b : Nat) : D := .tuple [.str "slip", .int (a : Nat), .str (S n1), .str (S n2), .int (v : Nat), .int (b : Nat)]
def bodyL (a : Nat) (n1 n2 : List Nat) (v b : Nat) : List Nat := TL.joinL [32] [TL.numL a, n1, verb v, n2, TL.numL b]
def textL (a : Nat) (n1 n2 : List Nat) (v b : Nat) : List Nat := bodyL a n1 n2 v b ++ [32] ++ chk (bodyL a n1 n2 v b)
section
variable {a v b : Nat} {n1 n2 : List Nat}
theorem at_slip (k : Nat) (h : k < 6) : atI [PyData.str "slip", .int (a : Nat), .str (S n1), .str (S n2), .int (v : Nat), .int (b : Nat)] (k : Nat) = some ([PyData.str "slip", .int (a : Nat), .str (S n1), .str (S n2), .int (v : Nat), .int (b : Nat)][k]'(by simpa using h)) := atI_nat (List.getElem?_eq_getElem _)
theorem numL_len2 (h : a ≤ 99) : (TL.numL a).length ≤ 3 := (pad_tab a (by omega)).1
theorem verb_at (hv : v < 3) : atI [PyData.str (S (verb 0)), .str (S (verb 1)), .str (S (verb 2))] (v : Nat) = some (.str (S (verb v))) := by
  rcases v with _ | _ | _ | v
  · exact atI_nat (j := 0) rfl
  · exact atI_nat (j := 1) rfl
  · exact atI_nat (j := 2) rfl
  · omega
theorem verb_len : (verb v).length ≤ 6 := by
  rcases v with _ | _ | v
  · decide
  · decide
  · show 5 ≤ 6; decide
theorem r_body_of (ha : a ≤ 99) (hb : b ≤ 99) (hv : v < 3) (h1 : n1.length ≤ 1000) (h2 : n2.length ≤ 1000) : M_body_of [.fz (slipD a n1 n2 v b)] = some (.fz (.str (S (bodyL a n1 n2 v b))), [.un]) := by
  have x1 : strG [.int (a : Nat)] = some (.fz (.str (S (TL.numL a)))) := strG_nat (by omega)
  have x5 : strG [.int (b : Nat)] = some (.fz (.str (S (TL.numL b)))) := strG_nat (by omega)
  have e1 : atI [PyData.str "slip", .int (a : Nat), .str (S n1), .str (S n2), .int (v : Nat), .int (b : Nat)] 1 = some (.int (a : Nat)) := at_slip 1 (by decide)
  have e2 : atI [PyData.str "slip", .int (a : Nat), .str (S n1), .str (S n2), .int (v : Nat), .int (b : Nat)] 2 = some (.str (S n1)) := at_slip 2 (by decide)
  have e3 : atI [PyData.str "slip", .int (a : Nat), .str (S n1), .str (S n2), .int (v : Nat), .int (b : Nat)] 3 = some (.str (S n2)) := at_slip 3 (by decide)
  have e4 : atI [PyData.str "slip", .int (a : Nat), .str (S n1), .str (S n2), .int (v : Nat), .int (b : Nat)] 4 = some (.int (v : Nat)) := at_slip 4 (by decide)
  have e5 : atI [PyData.str "slip", .int (a : Nat), .str (S n1), .str (S n2), .int (v : Nat), .int (b : Nat)] 5 = some (.int (b : Nat)) := at_slip 5 (by decide)
  have j : joinM (.str (S [32])) [.list [.str (S (TL.numL a)), .str (S n1), .str (S (verb v)), .str (S n2), .str (S (TL.numL b))]] = some (.fz (.str (S (bodyL a n1 n2 v b)))) := by
    have l1 := numL_len2 ha
    have l2 := numL_len2 hb
    have l3 := verb_len (v := v)
    exact joinM_S (a := [32]) (ps := [TL.numL a, n1, verb v, n2, TL.numL b]) (by simp; omega)
  have hz : ([PyData.str (S (TL.numL a)), .str (S n1), .str (S (verb v)), .str (S n2), .str (S (TL.numL b))] : List D).length ≤ sizeLine := by rw [sz16]; show 5 ≤ 16777216; decide
  have hb' : m_body_of [.fz (slipD a n1 n2 v b)] = some (.rt (.fz (.str (S (bodyL a n1 n2 v b)))) [.fz (slipD a n1 n2 v b)]) := by
    unfold m_body_of slipD
    rw [lit_verbs]
    simp only [retF_ap, mbF_ap, conF_ap, Option.bind_some, rd_fz, lit_sp, tyD, beq_self_eq_true, if_true, argC_ap, argN_ap, lstF_ap, cbF_ap, binF_ap, varF_ap, List.getElem?_cons_zero, ix_t, e1, e2, e3, e4, e5, Option.map_some, st_fz, rdAll_cons, rdAll_nil, x1, x5, verb_at hv, fzAll_cons, fzAll_nil, fzn_fz, hz, st_fr, j]
  show (m_body_of [.fz (slipD a n1 n2 v b)]).bind _ = _
  rw [hb']
  rfl
theorem joinL_five (p0 p1 p2 p3 p4 : List Nat) : TL.joinL [32] [p0, p1, p2, p3, p4] = p0 ++ ([32] ++ (p1 ++ ([32] ++ (p2 ++ ([32] ++ (p3 ++ ([32] ++ p4))))))) := rfl
theorem body_len (ha : a ≤ 99) (hb : b ≤ 99) (h1 : n1.length ≤ 200) (h2 : n2.length ≤ 200) : (bodyL a n1 n2 v b).length ≤ 500 := by
  have l1 := numL_len2 ha
  have l2 := numL_len2 hb
  have l3 := verb_len (v := v)
  unfold bodyL
  rw [joinL_five]
  simp only [List.length_append, List.length_cons, List.length_nil]
  omega
theorem chk_len (l : List Nat) : (chk l).length = 6 := rfl
theorem r_text_of (ha : a ≤ 99) (hb : b ≤ 99) (hv : v < 3) (h1 : n1.length ≤ 200) (h2 : n2.length ≤ 200) : M_text_of [.fz (slipD a n1 n2 v b)] = some (.fz (.str (S (textL a n1 n2 v b))), [.un]) := by
  have hl := body_len (v := v) ha hb h1 h2
  have p1 := r_body_of (v := v) ha hb hv (by omega : n1.length ≤ 1000) (by omega : n2.length ≤ 1000)
  have p2 := r_check_in (bodyL a n1 n2 v b) (by omega)
  have a1 := add_S (bodyL a n1 n2 v b) [32] (by simp; omega)
  have a2 := add_S (bodyL a n1 n2 v b ++ [32]) (chk (bodyL a n1 n2 v b)) (by rw [chk_len, List.length_append]; show _ + 1 + 6 ≤ _; omega)
  have s1 : (setF 1 (callF [false] M_body_of (argC (varF 0) argN))) [.fz (slipD a n1 n2 v b), .un] = some (.nx [.fz (slipD a n1 n2 v b), .fz (.str (S (bodyL a n1 n2 v b)))]) := by
    simp only [setF_ap, callF_ap, argC_ap, argN_ap, varF_ap, List.getElem?_cons_succ, List.getElem?_cons_zero, Option.bind_some, Option.map_some, st_fz, preA_no, preA_nil, fzn_fz, ixs_l, ixs_nil, List.nodup_nil, if_true, mkE_l, mkE_nil, p1, bak_l, bak_nil, setSl_fz, List.set_cons_succ, List.set_cons_zero]
  have s2 : (retF (binF addD (binF addD (varF 1) (conF (.str " "))) (callF [false] M_check_in (argC (varF 1) argN)))) [.fz (slipD a n1 n2 v b), .fz (.str (S (bodyL a n1 n2 v b)))] = some (.rt (.fz (.str (S (textL a n1 n2 v b)))) [.fz (slipD a n1 n2 v b), .fz (.str (S (bodyL a n1 n2 v b)))]) := by
    simp only [retF_ap, binF_ap, conF_ap, callF_ap, argC_ap, argN_ap, varF_ap, List.getElem?_cons_succ, List.getElem?_cons_zero, Option.bind_some, Option.map_some, st_fz, rd_fz, lit_sp, a1, preA_no, preA_nil, fzn_fz, ixs_l, ixs_nil, List.nodup_nil, if_true, mkE_l, mkE_nil, p2, bak_l, bak_nil, a2, textL]
  show (m_text_of [.fz (slipD a n1 n2 v b), .un]).bind _ = _
  unfold m_text_of
  rw [seqF_ap, s1, Option.bind_some]
  show (retF _ _).bind _ = _
  rw [s2]
  rfl
/-- what a slip is -/
def okSlip (n1 n2 : List Nat) : Bool := isName n1 && isName n2 && decide (n1 ≠ n2)
theorem isIn_nat (ha : a ≤ 99) : isIn (.int (a : Nat)) 0 99 = true := by
  show (decide ((0 : Int) ≤ (a : Nat)) && decide (((a : Nat) : Int) ≤ 99)) = true
  rw [decide_eq_true (by omega), decide_eq_true (by omega)]
  rfl
theorem r_slip_ok (ha : a ≤ 99) (hb : b ≤ 99) (hv : v < 3) (h1 : n1.length ≤ 200) (h2 : n2.length ≤ 200) : M_is_slip_value [.fz (slipD a n1 n2 v b)] = some (.fz (.bool (okSlip n1 n2)), [.un]) := by
  have h := r_is_slip_value (.int (a : Nat)) n1 n2 (v : Nat) (.int (b : Nat)) (by omega) (by omega)
  rw [isIn_nat ha, isIn_nat hb, decide_eq_true (by omega : (0 : Int) ≤ (v : Nat)), decide_eq_true (by omega : ((v : Nat) : Int) ≤ 2)] at h
  unfold okSlip slipD
  rw [h]
  simp
end
end K26
end K26r__
section K26s__
set_option Elab.async false
set_option linter.all false
set_option autoImplicit false
set_option maxRecDepth 100000
set_option maxHeartbeats 4000000
namespace K26
open PySem L2 PySem.Spec PyProof.Rows Sh SX

section
variable {l : List Nat}
def isVerb (p : List Nat) : Bool := decide (p = verb 0) || (decide (p = verb 1) || decide (p = verb 2))
theorem strOk_S {p : List Nat} (h : ∀ c ∈ p, c < 128) : PyData.strOk (S p) = true := by
  show (S p).cps.all _ = true
  rw [← Array.all_toList]
  exact List.all_eq_true.mpr fun c hc => decide_eq_true (Nat.lt_trans (h c hc) (by decide))
theorem shaped_S {p : List Nat} (h : ∀ c ∈ p, c < 128) : SeqAt.shaped (.str (S p)) = true := by
  unfold SeqAt.shaped
  rw [PyData.canLay0, strOk_S h]
  rfl
theorem eqv_S (a b : List Nat) : PyData.eqv (.str (S a)) (.str (S b)) = decide (a = b) := by
  rw [PyData.eqv, S_beq_eq]
theorem in_verbs {p : List Nat} (h : ∀ c ∈ p, c < 128) (x y z : List Nat) (hs : SeqAt.shaped (.tuple [.str (S x), .str (S y), .str (S z)]) = true) :
    inB (.str (S p)) (.tuple [.str (S x), .str (S y), .str (S z)]) = some (decide (x = p) || (decide (y = p) || decide (z = p))) := by
  show (if SeqAt.shaped (.str (S p)) = true ∧ SeqAt.shaped (.tuple [.str (S x), .str (S y), .str (S z)]) = true then some (([.str (S x), .str (S y), .str (S z)] : List D).any fun w => PyData.eqv w (.str (S p))) else none) = _
  rw [if_pos ⟨shaped_S h, hs⟩]
  simp only [List.any_cons, List.any_nil, eqv_S, Bool.or_false]
theorem sh_verbs : SeqAt.shaped (.tuple [.str (S (verb 0)), .str (S (verb 1)), .str (S (verb 2))]) = true := by decide +kernel
theorem first_verb : ∀ v < 3, firstAt ["yields", "draws", "beats"] (S (verb v)) = some v := by decide +kernel
theorem spl_ok (hA : ∀ c ∈ l, c < 128) {p : List Nat} (hp : p ∈ spl1 32 l) : (∀ c ∈ p, c < 128) ∧ p.length ≤ l.length ∧ 32 ∉ p :=
  ⟨fun c hc => hA c (by rcases spl_sub 32 l [] p hp c hc with z | z; · simp at z
                        exact z), spl_len hp, spl_free 32 l [] (by simp) p hp⟩
def PS (l : List Nat) : List D := (spl1 32 l).map fun p => .str (S p)
theorem split_step (hl : l.length ≤ 300) {rest : En} : (mbF "str" splitM (varF 0) (argC (conF (.str " ")) argN)) (.fz (.str (S l)) :: rest) = some (.fr (.list (PS l)), .fz (.str (S l)) :: rest) := by
  have h := splitM_S (l := l) (s := 32) (by decide) (by omega)
  simp only [mbF_ap, varF_ap, List.getElem?_cons_zero, Option.bind_some, rd_fz, tyD, beq_self_eq_true, if_true, argC_ap, argN_ap, conF_ap, Option.map_some, st_fz, rdAll_cons, rdAll_nil, lit_sp, h, PS]
theorem slip_in_few (hl : l.length ≤ 300) (h6 : (spl1 32 l).length ≠ 6) : M_slip_in [.fz (.str (S l))] = some (.fz .none, [.un]) := by
  have s1 : (setF 1 (mbF "str" splitM (varF 0) (argC (conF (.str " ")) argN))) [.fz (.str (S l)), .un, .un] = some (.nx [.fz (.str (S l)), .ow false (.list (PS l)), .un]) := by
    rw [setF_ap, split_step hl]
    rfl
  have hn : ((PS l).length : Int) ≠ 6 := by unfold PS; rw [List.length_map]; omega
  have hb : (((PS l).length : Int) == 6) = false := beq_eq_false_iff_ne.mpr hn
  show (m_slip_in [.fz (.str (S l)), .un, .un]).bind _ = _
  unfold m_slip_in
  rw [seqF_ap, s1, Option.bind_some]
  show ((seqF _ _) _).bind _ = _
  simp only [seqF_ap, ifS_ap, orT_ap, tstF_ap, binF_ap, cbF_ap, argC_ap, argN_ap, varF_ap, List.getElem?_cons_succ, List.getElem?_cons_zero, Option.bind_some, Option.map_some, st_bo, rdAll_cons, rdAll_nil, rd_bo, len_l, conF_ap, rd_fz, neD_ap, eqB_ii, hb, Bool.not_false, if_true, retF_ap]
  rfl
variable {p0 p1 p2 p3 p4 p5 : List Nat}
abbrev six (p0 p1 p2 p3 p4 p5 : List Nat) : List D := [.str (S p0), .str (S p1), .str (S p2), .str (S p3), .str (S p4), .str (S p5)]
theorem six_at (k : Nat) (h : k < 6) : atI (six p0 p1 p2 p3 p4 p5) (k : Nat) = some ((six p0 p1 p2 p3 p4 p5)[k]'(by simpa using h)) := atI_nat (List.getElem?_eq_getElem _)
theorem PS_six (h : spl1 32 l = [p0, p1, p2, p3, p4, p5]) : PS l = six p0 p1 p2 p3 p4 p5 := by unfold PS; rw [h]; rfl
/-- the head of slip_in: six parts and a verb, or nothing -/
theorem slip_in_verb (hl : l.length ≤ 300) (hA : ∀ c ∈ l, c < 128) (h : spl1 32 l = [p0, p1, p2, p3, p4, p5]) (hv : isVerb p2 = false) : M_slip_in [.fz (.str (S l))] = some (.fz .none, [.un]) := by
  have s1 : (setF 1 (mbF "str" splitM (varF 0) (argC (conF (.str " ")) argN))) [.fz (.str (S l)), .un, .un] = some (.nx [.fz (.str (S l)), .ow false (.list (six p0 p1 p2 p3 p4 p5)), .un]) := by
    rw [setF_ap, split_step hl, PS_six h]
    rfl
  have a2 : atI (six p0 p1 p2 p3 p4 p5) 2 = some (.str (S p2)) := six_at 2 (by decide)
  have hp := (spl_ok hA (p := p2) (by rw [h]; simp)).1
  have hi := in_verbs hp _ _ _ sh_verbs
  have hv' : (decide (verb 0 = p2) || (decide (verb 1 = p2) || decide (verb 2 = p2))) = false := by
    rw [← hv]
    unfold isVerb
    simp only [eq_comm]
  rw [hv'] at hi
  have hb : (((six p0 p1 p2 p3 p4 p5).length : Int) == 6) = true := rfl
  show (m_slip_in [.fz (.str (S l)), .un, .un]).bind _ = _
  unfold m_slip_in
  rw [seqF_ap, s1, Option.bind_some]
  show ((seqF _ _) _).bind _ = _
  rw [lit_verbs]
  simp only [seqF_ap, ifS_ap, orT_ap, tstF_ap, binF_ap, cbF_ap, argC_ap, argN_ap, varF_ap, List.getElem?_cons_succ, List.getElem?_cons_zero, Option.bind_some, Option.map_some, st_bo, rdAll_cons, rdAll_nil, rd_bo, len_l, conF_ap, rd_fz, neD_ap, eqB_ii, hb, Bool.not_true, Bool.false_eq_true, if_false, ix_l, a2, niD_ap, hi, Bool.not_false, if_true, retF_ap]
  rfl
theorem verb_of (hv : isVerb p2 = true) : ∃ v < 3, p2 = verb v := by
  unfold isVerb at hv
  simp at hv
  rcases hv with h | h | h
  · exact ⟨0, by decide, h⟩
  · exact ⟨1, by decide, h⟩
  · exact ⟨2, by decide, h⟩
/-- is_slip_value's answer in slip_in -/
def okI (p0 p1 p3 p4 : List Nat) : Bool := isIn (numI p0) 0 99 && isIn (numI p4) 0 99 && okSlip p1 p3
theorem okSlip_len {n1 n2 : List Nat} (h : okSlip n1 n2 = true) : n1.length ≤ 12 ∧ n2.length ≤ 12 := by
  unfold okSlip isName at h
  simp only [Bool.and_eq_true, decide_eq_true_eq] at h
  exact ⟨h.1.1.2.1, h.1.2.2.1⟩
theorem slip_in_six (hl : l.length ≤ 300) (hA : ∀ c ∈ l, c < 128) {v : Nat} (hv : v < 3) (h : spl1 32 l = [p0, p1, verb v, p3, p4, p5]) :
    M_slip_in [.fz (.str (S l))] = some (.fz (match numI p0, numI p4 with | .int a, .int b => if okI p0 p1 p3 p4 = true ∧ l = textL a.toNat p1 p3 v b.toNat then slipD a.toNat p1 p3 v b.toNat else .none | _, _ => .none), [.un]) := by
  have s1 : (setF 1 (mbF "str" splitM (varF 0) (argC (conF (.str " ")) argN))) [.fz (.str (S l)), .un, .un] = some (.nx [.fz (.str (S l)), .ow false (.list (six p0 p1 (verb v) p3 p4 p5)), .un]) := by
    rw [setF_ap, split_step hl, PS_six h]
    rfl
  have a0 : atI (six p0 p1 (verb v) p3 p4 p5) 0 = some (.str (S p0)) := six_at 0 (by decide)
  have a1 : atI (six p0 p1 (verb v) p3 p4 p5) 1 = some (.str (S p1)) := six_at 1 (by decide)
  have a2 : atI (six p0 p1 (verb v) p3 p4 p5) 2 = some (.str (S (verb v))) := six_at 2 (by decide)
  have a3 : atI (six p0 p1 (verb v) p3 p4 p5) 3 = some (.str (S p3)) := six_at 3 (by decide)
  have a4 : atI (six p0 p1 (verb v) p3 p4 p5) 4 = some (.str (S p4)) := six_at 4 (by decide)
  obtain ⟨k0, k1, k2⟩ := spl_ok hA (p := p0) (by rw [h]; simp)
  obtain ⟨k3, k4, k5⟩ := spl_ok hA (p := p1) (by rw [h]; simp)
  obtain ⟨k6, k7, k8⟩ := spl_ok hA (p := verb v) (by rw [h]; simp)
  obtain ⟨k9, k10, k11⟩ := spl_ok hA (p := p3) (by rw [h]; simp)
  obtain ⟨k12, k13, k14⟩ := spl_ok hA (p := p4) (by rw [h]; simp)
  have hi := in_verbs k6 _ _ _ sh_verbs
  have hv' : (decide (verb 0 = verb v) || (decide (verb 1 = verb v) || decide (verb 2 = verb v))) = true := by
    rcases v with _ | _ | _ | v
    · rfl
    · rfl
    · rfl
    · omega
  rw [hv'] at hi
  have hb : (((six p0 p1 (verb v) p3 p4 p5).length : Int) == 6) = true := rfl
  have n0 := r_number_in p0 (by omega)
  have n4 := r_number_in p4 (by omega)
  have fv := first_verb v hv
  obtain ⟨sl, hsl⟩ : ∃ sl : D, sl = .tuple [.str "slip", numI p0, .str (S p1), .str (S p3), .int (v : Nat), numI p4] := ⟨_, rfl⟩
  have hz : ([PyData.str "slip", numI p0, .str (S p1), .str (S p3), .int (v : Nat), numI p4] : List D).length ≤ sizeLine := by rw [sz16]; show 6 ≤ 16777216; decide
  have s2 : (setF 2 (tupF (argC (conF (.str "slip")) (argC (callF [false] M_number_in (argC (binF ixD (varF 1) (conF (.int 0))) argN)) (argC (binF ixD (varF 1) (conF (.int 1))) (argC (binF ixD (varF 1) (conF (.int 3))) (argC (idxF ["yields", "draws", "beats"] (argC (binF ixD (varF 1) (conF (.int 2))) argN)) (argC (callF [false] M_number_in (argC (binF ixD (varF 1) (conF (.int 4))) argN)) argN))))))))
      [.fz (.str (S l)), .ow false (.list (six p0 p1 (verb v) p3 p4 p5)), .un] = some (.nx [.fz (.str (S l)), .ow false (.list (six p0 p1 (verb v) p3 p4 p5)), .fz sl]) := by
    rw [hsl]
    simp only [setF_ap, tupF_ap, argC_ap, argN_ap, conF_ap, callF_ap, binF_ap, varF_ap, List.getElem?_cons_succ, List.getElem?_cons_zero, Option.bind_some, Option.map_some, st_fz, rd_bo, rd_fz, ix_l, a0, a1, a2, a3, a4, preA_no, preA_nil, fzn_fz, ixs_l, ixs_nil, List.nodup_nil, if_true, mkE_l, mkE_nil, n0, n4, bak_l, bak_nil, idxF, rdAll_cons, rdAll_nil, fv, fzAll_cons, fzAll_nil, hz, setSl_fz, List.set_cons_succ, List.set_cons_zero]
  have v1 : M_is_slip_value [.fz sl] = some (.fz (.bool (okI p0 p1 p3 p4)), [.un]) := by
    rw [hsl, r_is_slip_value _ _ _ _ _ (by omega) (by omega), decide_eq_true (by omega : (0 : Int) ≤ (v : Nat)), decide_eq_true (by omega : ((v : Nat) : Int) ≤ 2)]
    unfold okI okSlip
    simp
  show (m_slip_in [.fz (.str (S l)), .un, .un]).bind _ = _
  unfold m_slip_in
  rw [seqF_ap, s1, Option.bind_some]
  show ((seqF _ _) _).bind _ = _
  have s3 : (ifS (orT (tstF (binF neD (cbF lenG (argC (varF 1) argN)) (conF (.int 6)))) (tstF (binF niD (binF ixD (varF 1) (conF (.int 2))) (conF (.tuple [(.str "yields"), (.str "draws"), (.str "beats")]))))) (retF (conF .none)) nopF)
      [.fz (.str (S l)), .ow false (.list (six p0 p1 (verb v) p3 p4 p5)), .un] = some (.nx [.fz (.str (S l)), .ow false (.list (six p0 p1 (verb v) p3 p4 p5)), .un]) := by
    rw [lit_verbs]
    simp only [ifS_ap, orT_ap, tstF_ap, binF_ap, cbF_ap, argC_ap, argN_ap, varF_ap, List.getElem?_cons_succ, List.getElem?_cons_zero, Option.bind_some, Option.map_some, st_bo, rdAll_cons, rdAll_nil, rd_bo, len_l, conF_ap, rd_fz, neD_ap, eqB_ii, hb, Bool.not_true, Bool.false_eq_true, if_false, ix_l, a2, niD_ap, hi, nopF_ap]
  rw [seqF_ap, s3, Option.bind_some]
  show ((seqF _ _) _).bind _ = _
  rw [seqF_ap, s2, Option.bind_some]
  show ((retF _) _).bind _ = _
  cases hO : okI p0 p1 p3 p4 with
  | false =>
    rw [hO] at v1
    simp only [retF_ap, ifF_ap, andT_ap, tstF_ap, callF_ap, argC_ap, argN_ap, varF_ap, List.getElem?_cons_succ, List.getElem?_cons_zero, Option.bind_some, Option.map_some, st_fz, preA_no, preA_nil, fzn_fz, ixs_l, ixs_nil, List.nodup_nil, if_true, mkE_l, mkE_nil, v1, bak_l, bak_nil, Bool.false_eq_true, if_false, conF_ap, false_and]
    cases numI p0 <;> first | rfl | (cases numI p4 <;> rfl)
  | true =>
    rw [hO] at v1
    have hO' := hO
    unfold okI at hO'
    rw [Bool.and_eq_true, Bool.and_eq_true] at hO'
    obtain ⟨⟨i0, i4⟩, _⟩ := hO'
    obtain ⟨a, ha, ea⟩ : ∃ a : Nat, a ≤ 99 ∧ numI p0 = .int (a : Nat) := by
      cases hn : numI p0 with
      | int i =>
        rw [hn] at i0
        have : (decide (0 ≤ i) && decide (i ≤ 99)) = true := i0
        rw [Bool.and_eq_true, decide_eq_true_eq, decide_eq_true_eq] at this
        exact ⟨i.toNat, by omega, by congr 1; omega⟩
      | _ => rw [hn] at i0; cases i0
    obtain ⟨b, hb', eb⟩ : ∃ b : Nat, b ≤ 99 ∧ numI p4 = .int (b : Nat) := by
      cases hn : numI p4 with
      | int i =>
        rw [hn] at i4
        have : (decide (0 ≤ i) && decide (i ≤ 99)) = true := i4
        rw [Bool.and_eq_true, decide_eq_true_eq, decide_eq_true_eq] at this
        exact ⟨i.toNat, by omega, by congr 1; omega⟩
      | _ => rw [hn] at i4; cases i4
    rw [ea, eb] at hsl ⊢
    have hsl2 : sl = slipD a p1 p3 v b := hsl
    have hok : okSlip p1 p3 = true := by
      unfold okI at hO
      rw [Bool.and_eq_true] at hO
      exact hO.2
    have t1 : M_text_of [.fz sl] = some (.fz (.str (S (textL a p1 p3 v b))), [.un]) := by
      rw [hsl2]
      exact r_text_of ha hb' hv (by have := (okSlip_len hok).1; omega) (by have := (okSlip_len hok).2; omega)
    show _ = some (Va.fz (if true = true ∧ l = textL a p1 p3 v b then slipD a p1 p3 v b else .none), [Sl.un])
    by_cases ht : l = textL a p1 p3 v b
    · have e1 : (S (textL a p1 p3 v b) == S l) = true := by rw [S_beq_eq]; exact decide_eq_true ht.symm
      rw [if_pos ⟨rfl, ht⟩, ← hsl2]
      simp only [retF_ap, ifF_ap, andT_ap, tstF_ap, callF_ap, argC_ap, argN_ap, varF_ap, List.getElem?_cons_succ, List.getElem?_cons_zero, Option.bind_some, Option.map_some, st_fz, preA_no, preA_nil, fzn_fz, ixs_l, ixs_nil, List.nodup_nil, if_true, mkE_l, mkE_nil, v1, bak_l, bak_nil, binF_ap, t1, rd_fz, eqD_ap, eqB_ss, e1]
      rfl
    · have e1 : (S (textL a p1 p3 v b) == S l) = false := by rw [S_beq_eq]; exact decide_eq_false fun z => ht z.symm
      rw [if_neg fun z => ht z.2]
      simp only [retF_ap, ifF_ap, andT_ap, tstF_ap, callF_ap, argC_ap, argN_ap, varF_ap, List.getElem?_cons_succ, List.getElem?_cons_zero, Option.bind_some, Option.map_some, st_fz, preA_no, preA_nil, fzn_fz, ixs_l, ixs_nil, List.nodup_nil, if_true, mkE_l, mkE_nil, v1, bak_l, bak_nil, binF_ap, t1, rd_fz, eqD_ap, eqB_ss, e1, Bool.false_eq_true, if_false, conF_ap]
      rfl
end
end K26
end K26s__
section K26t__
set_option Elab.async false
set_option linter.all false
set_option autoImplicit false
set_option maxRecDepth 100000
set_option maxHeartbeats 400000
namespace K26
open PySem L2 PySem.Spec PyProof.Rows Sh SX

def NUMS : List (List Nat) := (List.range 100).map TL.numL
def isNum (p : List Nat) : Bool := NUMS.any fun q => decide (q = p)
theorem sh_nums : SeqAt.shaped (.list (NUMS.map fun q => .str (S q))) = true := by decide +kernel
theorem isNum_iff {p : List Nat} : isNum p = true ↔ ∃ n < 100, p = TL.numL n := by
  unfold isNum NUMS
  rw [List.any_map, List.any_eq_true]
  constructor
  · rintro ⟨n, hn, h⟩
    exact ⟨n, List.mem_range.mp hn, (of_decide_eq_true h).symm⟩
  · rintro ⟨n, hn, h⟩
    exact ⟨n, List.mem_range.mpr hn, decide_eq_true h.symm⟩
theorem inB_strs {p : List Nat} (h : ∀ c ∈ p, c < 128) (qs : List (List Nat)) (hs : SeqAt.shaped (.list (qs.map fun q => .str (S q))) = true) : inB (.str (S p)) (.list (qs.map fun q => .str (S q))) = some (qs.any fun q => decide (q = p)) := by
  show (if SeqAt.shaped (.str (S p)) = true ∧ SeqAt.shaped (.list (qs.map fun q => .str (S q))) = true then some ((qs.map fun q => PyData.str (S q)).any fun w => PyData.eqv w (.str (S p))) else none) = _
  rw [if_pos ⟨shaped_S h, hs⟩, List.any_map]
  exact congrArg (fun f => some (qs.any f)) (funext fun q => eqv_S q p)
theorem cmp_nums (x : D) : ∀ ns : List Nat, (∀ n ∈ ns, n < 1000) → cmpL (gnF 1) yesT (cbF strG (argC (varF 1) argN)) [1] (ns.map fun i => .int ((i : Nat) : Int)) [.fz x, .un] = some (ns.map fun n => .str (S (TL.numL n)), [.fz x, .un])
  | [], _ => rfl
  | n :: ns, h => by
    have hs : strG [.int (n : Nat)] = some (.fz (.str (S (TL.numL n)))) := strG_nat (Nat.lt_trans (h n (List.mem_cons_self ..)) (by decide))
    have ih := cmp_nums x ns fun m hm => h m (List.mem_cons_of_mem _ hm)
    have hf : (cbF strG (argC (varF 1) argN)) [.fz x, .fz (.int (n : Nat))] = some (.fz (.str (S (TL.numL n))), [.fz x, .fz (.int (n : Nat))]) := by
      rw [cbF_ap]
      show (strG [.int (n : Nat)]).map _ = _
      rw [hs]
      rfl
    rw [List.map_cons, List.map_cons]
    show ((cbF strG (argC (varF 1) argN)) [.fz x, .fz (.int (n : Nat))]).bind _ = _
    rw [hf]
    show (cmpL (gnF 1) yesT (cbF strG (argC (varF 1) argN)) [1] (ns.map fun i => .int ((i : Nat) : Int)) [.fz x, .un]).map _ = _
    rw [ih]
    rfl
theorem is_number_core {p : List Nat} {xs ys : List D} {bb : Bool} (hr : rg1 [.int 100] = some xs) (hz : xs.length ≤ sizeLine) (hc : cmpL (gnF 1) yesT (cbF strG (argC (varF 1) argN)) [1] xs [.fz (.str (S p)), .un] = some (ys, [.fz (.str (S p)), .un]))
    (hi' : inB (.str (S p)) (.list ys) = some bb) : M__law_is_number [.fz (.str (S p))] = some (.fz (.bool bb), [.un]) := by
  have h1 : (ibF rg1 (argC (conF (.int 100)) argN)) [.fz (.str (S p)), .un] = some (xs, [.fz (.str (S p)), .un]) := by
    simp only [ibF_ap, argC_ap, argN_ap, conF_ap, Option.bind_some, Option.map_some, st_fz, rdAll_cons, rdAll_nil, rd_fz, hr]
  have h2 : (cmpF (ibF rg1 (argC (conF (.int 100)) argN)) (gnF 1) yesT (cbF strG (argC (varF 1) argN)) [1]) [.fz (.str (S p)), .un] = some (.fr (.list ys), [.fz (.str (S p)), .un]) := by
    rw [cmpF_ap, h1, Option.bind_some]
    dsimp only
    rw [if_pos hz]
    show (cmpL (gnF 1) yesT (cbF strG (argC (varF 1) argN)) [1] xs [.fz (.str (S p)), .un]).map _ = _
    rw [hc]
    rfl
  have h3 : inD (.str (S p)) (.list ys) = some (.fz (.bool bb)) := by rw [inD_ap, hi']; rfl
  have h4 : (varF 0) [.fz (.str (S p)), .un] = some (.fz (.str (S p)), [.fz (.str (S p)), .un]) := rfl
  have hb : m__law_is_number [.fz (.str (S p)), .un] = some (.rt (.fz (.bool bb)) [.fz (.str (S p)), .un]) := by
    unfold m__law_is_number
    rw [retF_ap, binF_ap, h4, Option.bind_some, h2, Option.bind_some, rd_fz, Option.bind_some, rd_fr, Option.bind_some, h3]
    rfl
  show (m__law_is_number [.fz (.str (S p)), .un]).bind _ = _
  rw [hb]
  rfl
theorem is_number_of {p : List Nat} (h : ∀ c ∈ p, c < 128) (ns : List Nat) (hn : ∀ n ∈ ns, n < 1000) (hr : rg1 [.int 100] = some (ns.map fun i => .int ((i : Nat) : Int))) (hz : (ns.map fun i => PyData.int ((i : Nat) : Int)).length ≤ sizeLine)
    (hs : SeqAt.shaped (.list ((ns.map TL.numL).map fun q => .str (S q))) = true) : M__law_is_number [.fz (.str (S p))] = some (.fz (.bool ((ns.map TL.numL).any fun q => decide (q = p))), [.un]) := by
  have hi := inB_strs h (ns.map TL.numL) hs
  have e : (ns.map TL.numL).map (fun q => PyData.str (S q)) = ns.map fun n => .str (S (TL.numL n)) := List.map_map ..
  rw [e] at hi
  exact is_number_core hr hz (cmp_nums (.str (S p)) ns hn) hi
theorem rg100 : rg1 [.int 100] = some ((List.range 100).map fun i => .int ((i : Nat) : Int)) := by
  have h : -(2 ^ 62) ≤ (100 : Int) ∧ (100 : Int) < 2 ^ 62 := by decide
  unfold rg1
  dsimp only
  rw [if_pos h]
  rfl
theorem r__law_is_number {p : List Nat} (h : ∀ c ∈ p, c < 128) : M__law_is_number [.fz (.str (S p))] = some (.fz (.bool (isNum p)), [.un]) :=
  is_number_of h (List.range 100) (fun n hn => Nat.lt_trans (List.mem_range.mp hn) (by decide)) rg100 (by rw [List.length_map, List.length_range, sz16]; decide) sh_nums
theorem r__law_is_name (l : List Nat) (hl : l.length ≤ 1000) : M__law_is_name [.fz (.str (S l))] = some (.fz (.bool (isName l)), [.un]) := by
  have hz : (signsD (S l)).length ≤ sizeLine := by unfold signsD; rw [List.length_map, sz16]; show l.length ≤ _; omega
  have hc := cmp_signs (i := 1) (k := Str.ofString "abcdefghijklmnopqrstuvwxyz") (z := S l) (e0 := [.fz (.str (S l)), .un]) rfl
  have hall : allG [.list ((S l).cps.toList.map fun c => .bool (decide (c ∈ (Str.ofString "abcdefghijklmnopqrstuvwxyz").cps)))] = some (.fz (.bool (l.all isLet))) := by
    rw [all_l, boolsD_mapf]
    show some (Va.fz (.bool ((l.map _).all id))) = _
    rw [List.all_map]
    rfl
  have hb : m__law_is_name [.fz (.str (S l)), .un] = some (.rt (.fz (.bool (isName l))) [.fz (.str (S l)), .un]) := by
    unfold m__law_is_name isName
    by_cases h1 : 1 ≤ l.length
    · have h1' : decide ((1 : Int) ≤ (l.length : Nat)) = true := decide_eq_true (by omega)
      by_cases h2 : l.length ≤ 12
      · have h2' : decide (((l.length : Nat) : Int) ≤ 12) = true := decide_eq_true (by omega)
        simp only [retF_ap, andE_ap, tstF_ap, chF_ap, conF_ap, cbF_ap, argC_ap, argN_ap, varF_ap, List.getElem?_cons_succ, List.getElem?_cons_zero, Option.bind_some, Option.map_some, st_fz, rdAll_cons, rdAll_nil, rd_fz, len_s, S_len, le_ii, h1', h2', if_true, cmpF_ap, itF_ap, fzn_fz, isQ_s, items_s, hz, wipeE, List.set_cons_succ, List.set_cons_zero, hc, resE, st_fr, hall, decide_eq_true h1, decide_eq_true h2, Bool.true_and]
      · have h2' : decide (((l.length : Nat) : Int) ≤ 12) = false := decide_eq_false (by omega)
        simp only [retF_ap, andE_ap, tstF_ap, chF_ap, conF_ap, cbF_ap, argC_ap, argN_ap, varF_ap, List.getElem?_cons_succ, List.getElem?_cons_zero, Option.bind_some, Option.map_some, st_fz, rdAll_cons, rdAll_nil, rd_fz, len_s, S_len, le_ii, h1', h2', if_true, Bool.false_eq_true, if_false, decide_eq_true h1, decide_eq_false h2, Bool.true_and, Bool.false_and]
    · have h1' : decide ((1 : Int) ≤ (l.length : Nat)) = false := decide_eq_false (by omega)
      simp only [retF_ap, andE_ap, tstF_ap, chF_ap, conF_ap, cbF_ap, argC_ap, argN_ap, varF_ap, List.getElem?_cons_succ, List.getElem?_cons_zero, Option.bind_some, Option.map_some, st_fz, rdAll_cons, rdAll_nil, rd_fz, len_s, S_len, le_ii, h1', if_true, Bool.false_eq_true, if_false, decide_eq_false h1, Bool.false_and]
  show (m__law_is_name [.fz (.str (S l)), .un]).bind _ = _
  rw [hb]
  rfl
end K26
end K26t__
section K26u__
set_option Elab.async false
set_option linter.all false
set_option autoImplicit false
set_option maxRecDepth 100000
set_option maxHeartbeats 400000
namespace K26
open PySem L2 PySem.Spec PyProof.Rows Sh SX

theorem int_num {n : Nat} (h : n < 100) : intG [.str (S (TL.numL n))] = some (.fz (.int (n : Nat))) := by
  have hl := (pad_tab n (by omega)).1
  have e : intText? (S (TL.numL n)) = some ((n : Nat) : Int) := by
    rw [← num_S n]
    exact TL.int_num (by omega)
  show (if (S (TL.numL n)).length ≤ 640 then (intText? (S (TL.numL n))).map fun n => Va.fz (.int n) else none) = _
  rw [if_pos (by rw [S_len]; omega), e]
  rfl
theorem dlk_verb {f : FE} {e e' : En} {v : Nat} (hv : v < 3) {va : Va} (hf : f e = some (va, e')) (hr : rd e' va = some (.str (S (verb v)))) : dlkF [("beats", 2), ("draws", 1), ("yields", 0)] f e = some (.fz (.int (v : Nat)), e') := by
  have t : ∀ v < 3, valV (mergeK [] (dkv [("beats", 2), ("draws", 1), ("yields", 0)])) (.inr (S (verb v))) = some (.int (v : Nat)) := by
    intro v hv
    rcases v with _ | _ | _ | v
    · rfl
    · rfl
    · rfl
    · omega
  unfold dlkF
  rw [hf, Option.bind_some, hr, Option.bind_some]
  dsimp only
  rw [t v hv]
section
variable {l p0 p1 p2 p3 p4 p5 : List Nat}
theorem law_read_few (hl : l.length ≤ 300) (h6 : (spl1 32 l).length ≠ 6) : M__law_read [.fz (.str (S l))] = some (.fz .none, [.un]) := by
  have s1 : (setF 1 (mbF "str" splitM (varF 0) (argC (conF (.str " ")) argN))) [.fz (.str (S l)), .un] = some (.nx [.fz (.str (S l)), .ow false (.list (PS l))]) := by
    rw [setF_ap, split_step hl]
    rfl
  have hn : ((PS l).length : Int) ≠ 6 := by unfold PS; rw [List.length_map]; omega
  have hb : (((PS l).length : Int) == 6) = false := beq_eq_false_iff_ne.mpr hn
  show (m__law_read [.fz (.str (S l)), .un]).bind _ = _
  unfold m__law_read
  rw [seqF_ap, s1, Option.bind_some]
  show ((seqF _ _) _).bind _ = _
  simp only [seqF_ap, ifS_ap, orT_ap, tstF_ap, binF_ap, cbF_ap, argC_ap, argN_ap, varF_ap, List.getElem?_cons_succ, List.getElem?_cons_zero, Option.bind_some, Option.map_some, st_bo, rdAll_cons, rdAll_nil, rd_bo, len_l, conF_ap, rd_fz, neD_ap, eqB_ii, hb, Bool.not_false, if_true, retF_ap]
  rfl
/-- the law's conditions -/
def cond1 (p0 p2 p4 : List Nat) : Bool := isNum p0 && (isNum p4 && isVerb p2)
def cond2 (p0 p1 p2 p3 p4 p5 : List Nat) : Bool := isName p1 && (isName p3 && (!decide (p1 = p3) && decide (p5 = chk (TL.joinL [32] [p0, p1, p2, p3, p4]))))
def E1 (l : List Nat) (P : List D) : En := [.fz (.str (S l)), .ow false (.list P)]
theorem sh_verbs2 : SeqAt.shaped (.tuple [.str (S (verb 2)), .str (S (verb 1)), .str (S (verb 0))]) = true := by decide +kernel
theorem lit_verbs2 : ("beats" : Str) = S (verb 2) ∧ ("draws" : Str) = S (verb 1) ∧ ("yields" : Str) = S (verb 0) := ⟨rfl, rfl, rfl⟩
theorem law_if1 (hA : ∀ c ∈ l, c < 128) (h : spl1 32 l = [p0, p1, p2, p3, p4, p5]) :
    (ifS (orT (tstF (binF neD (cbF lenG (argC (varF 1) argN)) (conF (.int 6)))) (orT (notT (tstF (callF [false] M__law_is_number (argC (binF ixD (varF 1) (conF (.int 0))) argN)))) (orT (notT (tstF (callF [false] M__law_is_number (argC (binF ixD (varF 1) (conF (.int 4))) argN)))) (tstF (binF niD (binF ixD (varF 1) (conF (.int 2))) (tupF (argC (conF (.str "beats")) (argC (conF (.str "draws")) (argC (conF (.str "yields")) argN)))))))))
      (retF (conF .none)) nopF) (E1 l (six p0 p1 p2 p3 p4 p5)) = some (if cond1 p0 p2 p4 = true then .nx (E1 l (six p0 p1 p2 p3 p4 p5)) else .rt (.fz .none) (E1 l (six p0 p1 p2 p3 p4 p5))) := by
  have a0 : atI (six p0 p1 p2 p3 p4 p5) 0 = some (.str (S p0)) := six_at 0 (by decide)
  have a2 : atI (six p0 p1 p2 p3 p4 p5) 2 = some (.str (S p2)) := six_at 2 (by decide)
  have a4 : atI (six p0 p1 p2 p3 p4 p5) 4 = some (.str (S p4)) := six_at 4 (by decide)
  have n0 := r__law_is_number (spl_ok hA (p := p0) (by rw [h]; simp)).1
  have n4 := r__law_is_number (spl_ok hA (p := p4) (by rw [h]; simp)).1
  have hi := in_verbs (spl_ok hA (p := p2) (by rw [h]; simp)).1 _ _ _ sh_verbs2
  have hv' : (decide (verb 2 = p2) || (decide (verb 1 = p2) || decide (verb 0 = p2))) = isVerb p2 := by
    unfold isVerb
    by_cases h0 : p2 = verb 0 <;> by_cases h1 : p2 = verb 1 <;> by_cases h2 : p2 = verb 2 <;> simp [h0, h1, h2, eq_comm]
  rw [hv'] at hi
  have hb : (((six p0 p1 p2 p3 p4 p5).length : Int) == 6) = true := rfl
  have hz : ([PyData.str (S (verb 2)), .str (S (verb 1)), .str (S (verb 0))] : List D).length ≤ sizeLine := by rw [sz16]; decide
  obtain ⟨v2, v1, v0⟩ := lit_verbs2
  unfold cond1 E1
  cases c0 : isNum p0 with
  | false =>
    rw [c0] at n0
    simp only [ifS_ap, orT_ap, notT_ap, tstF_ap, binF_ap, cbF_ap, argC_ap, argN_ap, varF_ap, List.getElem?_cons_succ, List.getElem?_cons_zero, Option.bind_some, Option.map_some, st_bo, st_fz, rdAll_cons, rdAll_nil, rd_bo, len_l, conF_ap, rd_fz, neD_ap, eqB_ii, hb, Bool.not_true, Bool.false_eq_true, if_false, ix_l, a0, callF_ap, preA_no, preA_nil, fzn_fz, ixs_l, ixs_nil, List.nodup_nil, if_true, mkE_l, mkE_nil, n0, bak_l, bak_nil, Bool.not_false, retF_ap, Bool.false_and]
  | true =>
    rw [c0] at n0
    cases c4 : isNum p4 with
    | false =>
      rw [c4] at n4
      simp only [ifS_ap, orT_ap, notT_ap, tstF_ap, binF_ap, cbF_ap, argC_ap, argN_ap, varF_ap, List.getElem?_cons_succ, List.getElem?_cons_zero, Option.bind_some, Option.map_some, st_bo, st_fz, rdAll_cons, rdAll_nil, rd_bo, len_l, conF_ap, rd_fz, neD_ap, eqB_ii, hb, Bool.not_true, Bool.false_eq_true, if_false, ix_l, a0, a4, callF_ap, preA_no, preA_nil, fzn_fz, ixs_l, ixs_nil, List.nodup_nil, if_true, mkE_l, mkE_nil, n0, n4, bak_l, bak_nil, Bool.not_false, retF_ap, Bool.false_and, Bool.true_and]
    | true =>
      rw [c4] at n4
      rw [v2, v1, v0]
      cases cv : isVerb p2 with
      | false =>
        rw [cv] at hi
        simp only [ifS_ap, orT_ap, notT_ap, tstF_ap, binF_ap, cbF_ap, argC_ap, argN_ap, varF_ap, List.getElem?_cons_succ, List.getElem?_cons_zero, Option.bind_some, Option.map_some, st_bo, st_fz, rdAll_cons, rdAll_nil, rd_bo, len_l, conF_ap, rd_fz, neD_ap, eqB_ii, hb, Bool.not_true, Bool.false_eq_true, if_false, ix_l, a0, a2, a4, callF_ap, preA_no, preA_nil, fzn_fz, ixs_l, ixs_nil, List.nodup_nil, if_true, mkE_l, mkE_nil, n0, n4, bak_l, bak_nil, Bool.not_false, retF_ap, Bool.false_and, Bool.true_and, tupF_ap, fzAll_cons, fzAll_nil, hz, niD_ap, hi]
      | true =>
        rw [cv] at hi
        simp only [ifS_ap, orT_ap, notT_ap, tstF_ap, binF_ap, cbF_ap, argC_ap, argN_ap, varF_ap, List.getElem?_cons_succ, List.getElem?_cons_zero, Option.bind_some, Option.map_some, st_bo, st_fz, rdAll_cons, rdAll_nil, rd_bo, len_l, conF_ap, rd_fz, neD_ap, eqB_ii, hb, Bool.not_true, Bool.false_eq_true, if_false, ix_l, a0, a2, a4, callF_ap, preA_no, preA_nil, fzn_fz, ixs_l, ixs_nil, List.nodup_nil, if_true, mkE_l, mkE_nil, n0, n4, bak_l, bak_nil, Bool.not_false, retF_ap, Bool.false_and, Bool.true_and, tupF_ap, fzAll_cons, fzAll_nil, hz, niD_ap, hi, nopF_ap]
theorem joinL_six (p0 p1 p2 p3 p4 p5 : List Nat) : TL.joinL [32] [p0, p1, p2, p3, p4, p5] = TL.joinL [32] [p0, p1, p2, p3, p4] ++ ([32] ++ p5) := by
  show p0 ++ ([32] ++ (p1 ++ ([32] ++ (p2 ++ ([32] ++ (p3 ++ ([32] ++ (p4 ++ ([32] ++ p5))))))))) = (p0 ++ ([32] ++ (p1 ++ ([32] ++ (p2 ++ ([32] ++ (p3 ++ ([32] ++ p4)))))))) ++ ([32] ++ p5)
  simp only [List.append_assoc]
theorem l_six (h : spl1 32 l = [p0, p1, p2, p3, p4, p5]) : l = TL.joinL [32] [p0, p1, p2, p3, p4] ++ ([32] ++ p5) := by
  have := join_spl 32 l []
  rw [show TL.spl [32] 0 [] l = _ from h, joinL_six] at this
  exact this.symm
theorem law_if2 (hl : l.length ≤ 300) (hA : ∀ c ∈ l, c < 128) (h : spl1 32 l = [p0, p1, p2, p3, p4, p5]) :
    (ifS (orT (notT (tstF (callF [false] M__law_is_name (argC (binF ixD (varF 1) (conF (.int 1))) argN)))) (orT (notT (tstF (callF [false] M__law_is_name (argC (binF ixD (varF 1) (conF (.int 3))) argN)))) (orT (tstF (binF eqD (binF ixD (varF 1) (conF (.int 1))) (binF ixD (varF 1) (conF (.int 3))))) (tstF (binF neD (binF ixD (varF 1) (conF (.int 5))) (callF [false] M__law_check (argC (mbF "str" joinM (conF (.str " ")) (argC (slF cutD (varF 1) none (some (conF (.int 5)))) argN)) argN)))))))
      (retF (conF .none)) nopF) (E1 l (six p0 p1 p2 p3 p4 p5)) = some (if cond2 p0 p1 p2 p3 p4 p5 = true then .nx (E1 l (six p0 p1 p2 p3 p4 p5)) else .rt (.fz .none) (E1 l (six p0 p1 p2 p3 p4 p5))) := by
  have a1 : atI (six p0 p1 p2 p3 p4 p5) 1 = some (.str (S p1)) := six_at 1 (by decide)
  have a3 : atI (six p0 p1 p2 p3 p4 p5) 3 = some (.str (S p3)) := six_at 3 (by decide)
  have a5 : atI (six p0 p1 p2 p3 p4 p5) 5 = some (.str (S p5)) := six_at 5 (by decide)
  have b1 := (spl_ok hA (p := p1) (by rw [h]; simp)).2.1
  have b3 := (spl_ok hA (p := p3) (by rw [h]; simp)).2.1
  have n1 := r__law_is_name p1 (by omega)
  have n3 := r__law_is_name p3 (by omega)
  have hsix := l_six h
  have hlen : (TL.joinL [32] [p0, p1, p2, p3, p4]).length ≤ 300 := by
    have := congrArg List.length hsix
    rw [List.length_append] at this
    omega
  have hcut : cutL (six p0 p1 p2 p3 p4 p5) none (some 5) = [.str (S p0), .str (S p1), .str (S p2), .str (S p3), .str (S p4)] := cutL_to _ 5
  have hj : joinM (.str (S [32])) [.list [.str (S p0), .str (S p1), .str (S p2), .str (S p3), .str (S p4)]] = some (.fz (.str (S (TL.joinL [32] [p0, p1, p2, p3, p4])))) := by
    refine joinM_S (a := [32]) (ps := [p0, p1, p2, p3, p4]) ?_
    have := len_join [32] [p0, p1, p2, p3, p4]
    have q0 := this p0 (by simp)
    have q1 := this p1 (by simp)
    have q2 := this p2 (by simp)
    have q3 := this p3 (by simp)
    have q4 := this p4 (by simp)
    simp only [List.map_cons, List.map_nil, List.sum_cons, List.sum_nil, List.length_cons, List.length_nil]
    omega
  have hc := r__law_check (TL.joinL [32] [p0, p1, p2, p3, p4]) (by omega)
  have e13 : (S p1 == S p3) = decide (p1 = p3) := S_beq_eq
  have e5 : (S p5 == S (chk (TL.joinL [32] [p0, p1, p2, p3, p4]))) = decide (p5 = chk (TL.joinL [32] [p0, p1, p2, p3, p4])) := S_beq_eq
  unfold cond2 E1
  generalize six p0 p1 p2 p3 p4 p5 = sx at *
  generalize TL.joinL [32] [p0, p1, p2, p3, p4] = bd at *
  cases c1 : isName p1 with
  | false =>
    rw [c1] at n1
    simp only [ifS_ap, orT_ap, notT_ap, tstF_ap, callF_ap, argC_ap, argN_ap, binF_ap, varF_ap, List.getElem?_cons_succ, List.getElem?_cons_zero, Option.bind_some, Option.map_some, st_bo, st_fz, rd_bo, rd_fz, conF_ap, ix_l, a1, preA_no, preA_nil, fzn_fz, ixs_l, ixs_nil, List.nodup_nil, if_true, mkE_l, mkE_nil, n1, bak_l, bak_nil, Bool.not_false, retF_ap, Bool.false_and, Bool.false_eq_true, if_false]
  | true =>
    rw [c1] at n1
    cases c3 : isName p3 with
    | false =>
      rw [c3] at n3
      simp only [ifS_ap, orT_ap, notT_ap, tstF_ap, callF_ap, argC_ap, argN_ap, binF_ap, varF_ap, List.getElem?_cons_succ, List.getElem?_cons_zero, Option.bind_some, Option.map_some, st_bo, st_fz, rd_bo, rd_fz, conF_ap, ix_l, a1, a3, preA_no, preA_nil, fzn_fz, ixs_l, ixs_nil, List.nodup_nil, if_true, mkE_l, mkE_nil, n1, n3, bak_l, bak_nil, Bool.not_false, Bool.not_true, retF_ap, Bool.true_and, Bool.false_and, Bool.false_eq_true, if_false]
    | true =>
      rw [c3] at n3
      cases c13 : decide (p1 = p3) with
      | true =>
        rw [c13] at e13
        simp only [ifS_ap, orT_ap, notT_ap, tstF_ap, callF_ap, argC_ap, argN_ap, binF_ap, varF_ap, List.getElem?_cons_succ, List.getElem?_cons_zero, Option.bind_some, Option.map_some, st_bo, st_fz, rd_bo, rd_fz, conF_ap, ix_l, a1, a3, preA_no, preA_nil, fzn_fz, ixs_l, ixs_nil, List.nodup_nil, if_true, mkE_l, mkE_nil, n1, n3, bak_l, bak_nil, Bool.not_false, Bool.not_true, retF_ap, Bool.true_and, Bool.false_and, Bool.false_eq_true, if_false, eqD_ap, eqB_ss, e13]
      | false =>
        rw [c13] at e13
        cases c5 : decide (p5 = chk bd) with
        | false =>
          rw [c5] at e5
          simp only [ifS_ap, orT_ap, notT_ap, tstF_ap, callF_ap, argC_ap, argN_ap, binF_ap, varF_ap, List.getElem?_cons_succ, List.getElem?_cons_zero, Option.bind_some, Option.map_some, st_bo, st_fz, st_fr, rd_bo, rd_fz, conF_ap, ix_l, a1, a3, a5, preA_no, preA_nil, fzn_fz, ixs_l, ixs_nil, List.nodup_nil, if_true, mkE_l, mkE_nil, n1, n3, bak_l, bak_nil, Bool.not_false, Bool.not_true, retF_ap, Bool.true_and, Bool.false_and, Bool.false_eq_true, if_false, eqD_ap, eqB_ss, e13, neD_ap, mbF_ap, tyD, beq_self_eq_true, slF_ap, prtF_none, prtF_some, cut_l, hcut, rdAll_cons, rdAll_nil, lit_sp, hj, hc, e5]
        | true =>
          rw [c5] at e5
          simp only [ifS_ap, orT_ap, notT_ap, tstF_ap, callF_ap, argC_ap, argN_ap, binF_ap, varF_ap, List.getElem?_cons_succ, List.getElem?_cons_zero, Option.bind_some, Option.map_some, st_bo, st_fz, st_fr, rd_bo, rd_fz, conF_ap, ix_l, a1, a3, a5, preA_no, preA_nil, fzn_fz, ixs_l, ixs_nil, List.nodup_nil, if_true, mkE_l, mkE_nil, n1, n3, bak_l, bak_nil, Bool.not_false, Bool.not_true, retF_ap, Bool.true_and, Bool.false_and, Bool.false_eq_true, if_false, eqD_ap, eqB_ss, e13, neD_ap, mbF_ap, tyD, beq_self_eq_true, slF_ap, prtF_none, prtF_some, cut_l, hcut, rdAll_cons, rdAll_nil, lit_sp, hj, hc, e5, nopF_ap]
/-- the law's reading of six parts -/
theorem law_read_six (hl : l.length ≤ 300) (hA : ∀ c ∈ l, c < 128) (h : spl1 32 l = [p0, p1, p2, p3, p4, p5]) :
    ((cond1 p0 p2 p4 && cond2 p0 p1 p2 p3 p4 p5) = false ∧ M__law_read [.fz (.str (S l))] = some (.fz .none, [.un])) ∨
    ∃ a b v, a < 100 ∧ b < 100 ∧ v < 3 ∧ p0 = TL.numL a ∧ p4 = TL.numL b ∧ p2 = verb v ∧ cond2 p0 p1 p2 p3 p4 p5 = true ∧ M__law_read [.fz (.str (S l))] = some (.fz (slipD a p1 p3 v b), [.un]) := by
  have s1 : (setF 1 (mbF "str" splitM (varF 0) (argC (conF (.str " ")) argN))) [.fz (.str (S l)), .un] = some (.nx (E1 l (six p0 p1 p2 p3 p4 p5))) := by
    rw [setF_ap, split_step hl, PS_six h]
    rfl
  have i1 := law_if1 hA h
  have i2 := law_if2 hl hA h
  have e : M__law_read [.fz (.str (S l))] = (m__law_read [.fz (.str (S l)), .un]).bind _ := rfl
  cases c1 : cond1 p0 p2 p4 with
  | false =>
    refine .inl ⟨rfl, ?_⟩
    rw [e]
    unfold m__law_read
    rw [seqF_ap, s1, Option.bind_some]
    show ((seqF _ _) _).bind _ = _
    rw [seqF_ap, i1, c1]
    rfl
  | true =>
    cases c2 : cond2 p0 p1 p2 p3 p4 p5 with
    | false =>
      refine .inl ⟨rfl, ?_⟩
      rw [e]
      unfold m__law_read
      rw [seqF_ap, s1, Option.bind_some]
      show ((seqF _ _) _).bind _ = _
      rw [seqF_ap, i1, c1]
      show ((seqF _ _) (E1 l (six p0 p1 p2 p3 p4 p5))).bind _ = _
      rw [seqF_ap, i2, c2]
      rfl
    | true =>
      have c1' := c1
      unfold cond1 at c1'
      rw [Bool.and_eq_true, Bool.and_eq_true] at c1'
      obtain ⟨a, ha, e0⟩ := isNum_iff.mp c1'.1
      obtain ⟨b, hb, e4⟩ := isNum_iff.mp c1'.2.1
      obtain ⟨v, hv, e2⟩ := verb_of c1'.2.2
      refine .inr ⟨a, b, v, ha, hb, hv, e0, e4, e2, rfl, ?_⟩
      have a0 : atI (six p0 p1 p2 p3 p4 p5) 0 = some (.str (S p0)) := six_at 0 (by decide)
      have a1 : atI (six p0 p1 p2 p3 p4 p5) 1 = some (.str (S p1)) := six_at 1 (by decide)
      have a2 : atI (six p0 p1 p2 p3 p4 p5) 2 = some (.str (S (verb v))) := (six_at 2 (by decide)).trans (by rw [← e2]; rfl)
      have a3 : atI (six p0 p1 p2 p3 p4 p5) 3 = some (.str (S p3)) := six_at 3 (by decide)
      have a4 : atI (six p0 p1 p2 p3 p4 p5) 4 = some (.str (S p4)) := six_at 4 (by decide)
      have x0 : intG [.str (S p0)] = some (.fz (.int (a : Nat))) := by rw [e0]; exact int_num ha
      have x4 : intG [.str (S p4)] = some (.fz (.int (b : Nat))) := by rw [e4]; exact int_num hb
      have hz : ([PyData.str "slip", .int (a : Nat), .str (S p1), .str (S p3), .int (v : Nat), .int (b : Nat)] : List D).length ≤ sizeLine := by rw [sz16]; show 6 ≤ 16777216; decide
      have q2 : (binF ixD (varF 1) (conF (.int 2))) (E1 l (six p0 p1 p2 p3 p4 p5)) = some (.fz (.str (S (verb v))), E1 l (six p0 p1 p2 p3 p4 p5)) := by
        unfold E1
        simp only [binF_ap, varF_ap, List.getElem?_cons_succ, List.getElem?_cons_zero, Option.bind_some, Option.map_some, rd_bo, rd_fz, conF_ap, ix_l, a2]
      have d2 := dlk_verb hv q2 rfl
      have s4 : (retF (tupF (argC (conF (.str "slip")) (argC (cbF intG (argC (binF ixD (varF 1) (conF (.int 0))) argN)) (argC (binF ixD (varF 1) (conF (.int 1))) (argC (binF ixD (varF 1) (conF (.int 3))) (argC (dlkF [("beats", 2), ("draws", 1), ("yields", 0)] (binF ixD (varF 1) (conF (.int 2)))) (argC (cbF intG (argC (binF ixD (varF 1) (conF (.int 4))) argN)) argN)))))))) (E1 l (six p0 p1 p2 p3 p4 p5))
          = some (.rt (.fz (slipD a p1 p3 v b)) (E1 l (six p0 p1 p2 p3 p4 p5))) := by
        unfold E1 at d2 ⊢
        unfold slipD
        simp only [retF_ap, tupF_ap, argC_ap, argN_ap, conF_ap, cbF_ap, binF_ap, varF_ap, List.getElem?_cons_succ, List.getElem?_cons_zero, Option.bind_some, Option.map_some, rd_bo, rd_fz, ix_l, a0, a1, a3, a4, st_fz, rdAll_cons, rdAll_nil, x0, x4, d2, fzAll_cons, fzAll_nil, fzn_fz, hz, if_true]
      rw [e]
      unfold m__law_read
      rw [seqF_ap, s1, Option.bind_some]
      show ((seqF _ _) _).bind _ = _
      rw [seqF_ap, i1, c1]
      show ((seqF _ _) (E1 l (six p0 p1 p2 p3 p4 p5))).bind _ = _
      rw [seqF_ap, i2, c2]
      show ((retF _) (E1 l (six p0 p1 p2 p3 p4 p5))).bind _ = _
      rw [s4]
      rfl
end
end K26
end K26u__
section K26v__
set_option Elab.async false
set_option linter.all false
set_option autoImplicit false
set_option maxRecDepth 100000
set_option maxHeartbeats 400000
namespace K26
open PySem L2 PySem.Spec PyProof.Rows Sh SX

theorem numI_tab : ∀ a < 100, (match numI (TL.numL a) with | .int i => decide (i = (a : Int)) | _ => false) = true := by decide +kernel
theorem numI_num {a : Nat} (h : a < 100) : numI (TL.numL a) = .int (a : Nat) := by
  have := numI_tab a h
  split at this
  · rename_i i e
    rw [e, of_decide_eq_true this]
  · cases this
theorem no32_num (n : Nat) : 32 ∉ TL.numL n := fun h => by have := TL.numL_digits n 32 h; omega
theorem no32_verb : ∀ v, 32 ∉ verb v := by
  intro v
  rcases v with _ | _ | v
  · decide
  · decide
  · show 32 ∉ [98, 101, 97, 116, 115]; decide
theorem no32_chk (l : List Nat) : 32 ∉ chk l := by
  unfold chk pad3
  intro h
  simp only [List.mem_append, List.mem_cons, List.not_mem_nil, or_false] at h
  omega
theorem isLet_iff {c : Nat} : isLet c = true ↔ 97 ≤ c ∧ c ≤ 122 := by
  have e : (Str.ofString "abcdefghijklmnopqrstuvwxyz").cps = #[97, 98, 99, 100, 101, 102, 103, 104, 105, 106, 107, 108, 109, 110, 111, 112, 113, 114, 115, 116, 117, 118, 119, 120, 121, 122] := rfl
  unfold isLet
  rw [e, decide_eq_true_eq]
  simp
  omega
theorem name_mem {n : List Nat} (h : isName n = true) : ∀ c ∈ n, 97 ≤ c ∧ c ≤ 122 := fun c hc => by
  unfold isName at h
  simp only [Bool.and_eq_true] at h
  exact isLet_iff.mp (List.all_eq_true.mp h.2.2 c hc)
theorem no32_name {n : List Nat} (h : isName n = true) : 32 ∉ n := fun hc => by have := name_mem h 32 hc; omega
theorem text_join (a : Nat) (n1 n2 : List Nat) (v b : Nat) : textL a n1 n2 v b = TL.joinL [32] [TL.numL a, n1, verb v, n2, TL.numL b, chk (bodyL a n1 n2 v b)] := by
  rw [joinL_six]
  show bodyL a n1 n2 v b ++ [32] ++ chk (bodyL a n1 n2 v b) = bodyL a n1 n2 v b ++ ([32] ++ chk (bodyL a n1 n2 v b))
  rw [List.append_assoc]
theorem text_spl {a : Nat} {n1 n2 : List Nat} {v b : Nat} (h1 : 32 ∉ n1) (h2 : 32 ∉ n2) : spl1 32 (textL a n1 n2 v b) = [TL.numL a, n1, verb v, n2, TL.numL b, chk (bodyL a n1 n2 v b)] := by
  rw [text_join]
  refine spl_join (List.cons_ne_nil _ _) fun p hp => ?_
  simp only [List.mem_cons, List.not_mem_nil, or_false] at hp
  rcases hp with rfl | rfl | rfl | rfl | rfl | rfl
  · exact no32_num a
  · exact h1
  · exact no32_verb v
  · exact h2
  · exact no32_num b
  · exact no32_chk _
theorem okSlip_iff {n1 n2 : List Nat} : okSlip n1 n2 = true ↔ isName n1 = true ∧ isName n2 = true ∧ n1 ≠ n2 := by
  unfold okSlip
  simp only [Bool.and_eq_true, decide_eq_true_eq, and_assoc]
theorem verb_inj : ∀ v < 3, ∀ w < 3, verb v = verb w → v = w := by decide
theorem isVerb_verb : ∀ v < 3, isVerb (verb v) = true := by decide
/-- THE TWO READINGS AGREE -/
theorem agree {l : List Nat} (hl : l.length ≤ 300) (hA : ∀ c ∈ l, c < 128) : ∃ d, M_slip_in [.fz (.str (S l))] = some (.fz d, [.un]) ∧ M__law_read [.fz (.str (S l))] = some (.fz d, [.un]) ∧
    (d = .none ∨ ∃ a n1 n2 v b, a ≤ 99 ∧ b ≤ 99 ∧ v < 3 ∧ okSlip n1 n2 = true ∧ d = slipD a n1 n2 v b ∧ l = textL a n1 n2 v b) := by
  by_cases h6 : (spl1 32 l).length = 6
  · obtain ⟨p0, p1, p2, p3, p4, p5, h⟩ : ∃ p0 p1 p2 p3 p4 p5, spl1 32 l = [p0, p1, p2, p3, p4, p5] := by
      generalize spl1 32 l = P at h6
      rcases P with _ | ⟨a, _ | ⟨b, _ | ⟨c, _ | ⟨d, _ | ⟨e, _ | ⟨f, _ | ⟨g, r⟩⟩⟩⟩⟩⟩⟩ <;> simp at h6
      exact ⟨a, b, c, d, e, f, rfl⟩
    have f1 := (spl_ok hA (p := p1) (by rw [h]; simp)).2.2
    have f3 := (spl_ok hA (p := p3) (by rw [h]; simp)).2.2
    cases hv : isVerb p2 with
    | false =>
      refine ⟨.none, slip_in_verb hl hA h hv, ?_, .inl rfl⟩
      rcases law_read_six hl hA h with ⟨_, q⟩ | ⟨a, b, v, _, _, hv3, _, _, e2, _⟩
      · exact q
      · rw [e2, isVerb_verb v hv3] at hv
        cases hv
    | true =>
      obtain ⟨v, hv3, rfl⟩ := verb_of hv
      have hs := slip_in_six hl hA hv3 h
      rcases law_read_six hl hA h with ⟨hc, q⟩ | ⟨a, b, w, ha, hb, hw, e0, e4, e2, hc, q⟩
      · refine ⟨.none, ?_, q, .inl rfl⟩
        rw [hs]
        congr 2
        split
        · rename_i i j ei ej
          congr 1
          split
          · rename_i hk
            exfalso
            obtain ⟨ho, ht⟩ := hk
            unfold okI at ho
            rw [Bool.and_eq_true, Bool.and_eq_true] at ho
            obtain ⟨⟨i0, i4⟩, hok⟩ := ho
            rw [ei] at i0
            rw [ej] at i4
            have i0 : (decide (0 ≤ i) && decide (i ≤ 99)) = true := i0
            have i4 : (decide (0 ≤ j) && decide (j ≤ 99)) = true := i4
            rw [Bool.and_eq_true, decide_eq_true_eq, decide_eq_true_eq] at i0 i4
            have hP := text_spl (a := i.toNat) (v := v) (b := j.toNat) f1 f3
            rw [← ht, h] at hP
            simp only [List.cons.injEq, and_true, true_and] at hP
            obtain ⟨e0, e4, e5⟩ := hP
            obtain ⟨k1, k2, k3⟩ := okSlip_iff.mp hok
            have c1 : cond1 p0 (verb v) p4 = true := by
              unfold cond1
              rw [isNum_iff.mpr ⟨i.toNat, by omega, e0⟩, isNum_iff.mpr ⟨j.toNat, by omega, e4⟩, hv]
              rfl
            have c2 : cond2 p0 p1 (verb v) p3 p4 p5 = true := by
              unfold cond2
              rw [k1, k2, decide_eq_false k3, decide_eq_true (by rw [e5, e0, e4]; rfl)]
              rfl
            rw [c1, c2] at hc
            cases hc
          · rfl
        · rfl
      · have ew : w = v := (verb_inj v hv3 w hw e2).symm
        subst ew
        have hc' := hc
        unfold cond2 at hc'
        simp only [Bool.and_eq_true, Bool.not_eq_true', decide_eq_false_iff_not, decide_eq_true_eq] at hc'
        obtain ⟨k1, k2, k3, k5⟩ := hc'
        have hok : okSlip p1 p3 = true := okSlip_iff.mpr ⟨k1, k2, k3⟩
        have ht : l = textL a p1 p3 w b := by
          rw [text_join, joinL_six]
          rw [l_six h, k5, e0, e4]
          rfl
        refine ⟨slipD a p1 p3 w b, ?_, q, .inr ⟨a, p1, p3, w, b, by omega, by omega, hv3, hok, rfl, ht⟩⟩
        rw [hs, e0, e4, numI_num ha, numI_num hb]
        dsimp only
        have hO : okI (TL.numL a) p1 p3 (TL.numL b) = true := by
          unfold okI
          rw [numI_num ha, numI_num hb, isIn_nat (by omega : a ≤ 99), isIn_nat (by omega : b ≤ 99), hok]
          rfl
        rw [if_pos ⟨hO, ht⟩]
        rfl
  · exact ⟨.none, slip_in_few hl h6, law_read_few hl h6, .inl rfl⟩
end K26
end K26v__
section K26x__
set_option Elab.async false
set_option linter.all false
set_option autoImplicit false
set_option maxRecDepth 100000
set_option maxHeartbeats 400000
namespace K26
open PySem L2 PySem.Spec PyProof.Rows Sh SX

/-! ### what the check tells apart -/
theorem w1_set : ∀ (B : List Nat) (k c : Nat) (h : k < B.length), w1 (B.set k c) = w1 B + ((c : Int) - (B[k] : Nat))
  | [], k, c, h => absurd h (Nat.not_lt_zero _)
  | b :: B, 0, c, h => by show ((c : Int) - 32) + w1 B = ((b : Int) - 32) + w1 B + ((c : Int) - (b : Nat)); omega
  | b :: B, k + 1, c, h => by
    have := w1_set B k c (Nat.lt_of_succ_lt_succ h)
    show ((b : Int) - 32) + w1 (B.set k c) = ((b : Int) - 32) + w1 B + ((c : Int) - (B[k]'(Nat.lt_of_succ_lt_succ h) : Nat))
    omega
theorem w2_set : ∀ (B : List Nat) (i k c : Nat) (h : k < B.length), w2 i (B.set k c) = w2 i B + ((c : Int) - (B[k] : Nat)) * (((i + k : Nat) : Int) + 1)
  | [], i, k, c, h => absurd h (Nat.not_lt_zero _)
  | b :: B, i, 0, c, h => by
    show ((c : Int) - 32) * ((i : Int) + 1) + w2 (i + 1) B = ((b : Int) - 32) * ((i : Int) + 1) + w2 (i + 1) B + ((c : Int) - (b : Nat)) * (((i + 0 : Nat) : Int) + 1)
    have e : ((c : Int) - 32) * ((i : Int) + 1) = ((b : Int) - 32) * ((i : Int) + 1) + ((c : Int) - (b : Nat)) * ((i : Int) + 1) := by
      rw [← Int.add_mul]
      congr 1
      omega
    have e0 : (((i + 0 : Nat) : Int)) = (i : Int) := rfl
    rw [e0, e]
    omega
  | b :: B, i, k + 1, c, h => by
    have := w2_set B (i + 1) k c (Nat.lt_of_succ_lt_succ h)
    show ((b : Int) - 32) * ((i : Int) + 1) + w2 (i + 1) (B.set k c) = ((b : Int) - 32) * ((i : Int) + 1) + w2 (i + 1) B + ((c : Int) - (B[k]'(Nat.lt_of_succ_lt_succ h) : Nat)) * (((i + (k + 1) : Nat) : Int) + 1)
    have e : i + (k + 1) = i + 1 + k := by omega
    rw [this, e]
    omega
theorem cop : ∀ e < 95, 0 < e → Nat.Coprime 997 e := by decide
theorem no997 {e k : Int} (he : e ≠ 0) (h1 : e.natAbs < 95) (hk : k ≠ 0) (h2 : k.natAbs < 997) : ¬ (e * k) % 997 = 0 := by
  intro h
  have hd : (997 : Int) ∣ e * k := Int.dvd_of_emod_eq_zero h
  have hn : (997 : Nat) ∣ e.natAbs * k.natAbs := by
    rw [← Int.natAbs_mul]
    exact Int.natAbs_dvd_natAbs.mpr hd
  have := (cop e.natAbs h1 (by omega)).dvd_of_dvd_mul_left hn
  have := Nat.le_of_dvd (by omega) this
  omega
theorem pad3_inj {x y : Nat} (hx : x < 1000) (hy : y < 1000) (h : pad3 x = pad3 y) : x = y := by
  unfold pad3 at h
  simp only [List.cons.injEq, and_true] at h
  omega
def X1 (B : List Nat) : Nat := (w1 B % 997).toNat
def X2 (B : List Nat) : Nat := (w2 0 B % 997).toNat
theorem chk_eq (B : List Nat) : chk B = pad3 (X1 B) ++ pad3 (X2 B) := rfl
theorem chk_first {B B' : List Nat} (h : (chk B').take 3 = (chk B).take 3) : w1 B' % 997 = w1 B % 997 := by
  have : pad3 (X1 B') = pad3 (X1 B) := h
  have := pad3_inj (by unfold X1; omega) (by unfold X1; omega) this
  unfold X1 at this
  omega
theorem chk_second {B B' : List Nat} (h : (chk B').drop 3 = (chk B).drop 3) : w2 0 B' % 997 = w2 0 B % 997 := by
  have : pad3 (X2 B') = pad3 (X2 B) := h
  have := pad3_inj (by unfold X2; omega) (by unfold X2; omega) this
  unfold X2 at this
  omega
def Pr (c : Nat) : Prop := 32 ≤ c ∧ c ≤ 126
theorem mul_sub_one {e i j : Int} : e * (i + 1) + -e * (j + 1) = e * (i - j) := by
  rw [Int.neg_mul, Int.mul_add, Int.mul_add, Int.mul_sub]
  omega
/-- two signs changed in a text with its check: it is the same text, or no text with its check -/
theorem two_signs {B B' : List Nat} {i j c d : Nat} (hm : B.length ≤ 900) (hB : ∀ x ∈ B, Pr x) (hc : Pr c) (hd : Pr d)
    (h : B' ++ [32] ++ chk B' = (((B ++ [32] ++ chk B).set i c).set j d)) : B' ++ [32] ++ chk B' = B ++ [32] ++ chk B := by
  have hlen : B'.length = B.length := by
    have := congrArg List.length h
    rw [List.length_set, List.length_set] at this
    simp only [List.length_append, chk_len] at this
    omega
  have t : ∀ A : List Nat, (A ++ [32] ++ chk A).take A.length = A := fun A => by rw [List.append_assoc, List.take_left]
  have u : ∀ A : List Nat, (A ++ [32] ++ chk A).drop (A.length + 1) = chk A := fun A => by
    have : (A ++ [32]).length = A.length + 1 := by simp
    rw [← this, List.drop_left]
  have eB : B' = (B.set i c).set j d := by
    have := congrArg (List.take B.length) h
    rw [← hlen, t B', hlen, List.take_set, List.take_set, t B] at this
    exact this
  have eC : chk B' = (((B ++ [32] ++ chk B).set i c).set j d).drop (B.length + 1) := by
    rw [← h, ← hlen, u B']
  rw [List.drop_set, List.drop_set, u B] at eC
  have fin : B' = B → B' ++ [32] ++ chk B' = B ++ [32] ++ chk B := fun z => by rw [z]
  by_cases hi : i < B.length
  · by_cases hj : j < B.length
    · -- both in the body
      rw [if_pos (show i < B.length + 1 by omega), if_pos (show j < B.length + 1 by omega)] at eC
      have q1 := chk_first (by rw [eC]) (B := B) (B' := B')
      have q2 := chk_second (by rw [eC]) (B := B) (B' := B')
      by_cases hij : i = j
      · subst hij
        rw [List.set_set] at eB
        rw [eB, w1_set B i d hi] at q1
        have b1 := hB _ (List.getElem_mem hi)
        have : d = B[i] := by unfold Pr at *; omega
        refine fin ?_
        rw [eB, this, List.set_getElem_self]
      · have hj' : j < (B.set i c).length := by rw [List.length_set]; exact hj
        have g : (B.set i c)[j] = B[j] := List.getElem_set_ne hij _
        rw [eB, w1_set _ j d hj', w1_set B i c hi, g] at q1
        rw [eB, w2_set _ 0 j d hj', w2_set B 0 i c hi, g, Nat.zero_add, Nat.zero_add] at q2
        have b1 := hB _ (List.getElem_mem hi)
        have b2 := hB _ (List.getElem_mem hj)
        have he : (d : Int) - (B[j] : Nat) = -((c : Int) - (B[i] : Nat)) := by unfold Pr at *; omega
        rw [he] at q2
        have hz : ((c : Int) - (B[i] : Nat)) * ((i : Int) - (j : Int)) % 997 = 0 := by
          rw [← mul_sub_one]
          generalize ((c : Int) - (B[i] : Nat)) * ((i : Int) + 1) = s1 at *
          generalize -((c : Int) - (B[i] : Nat)) * ((j : Int) + 1) = s2 at *
          omega
        by_cases hz1 : (c : Int) - (B[i] : Nat) = 0
        · have e1 : c = B[i] := by omega
          have e2 : d = B[j] := by omega
          refine fin ?_
          rw [eB, e1, List.set_getElem_self, e2, List.set_getElem_self]
        · exact absurd hz (no997 hz1 (by unfold Pr at *; omega) (by omega) (by omega))
    · -- one in the body, one behind it
      have hij : (B.set i c).set j d = B.set i c := List.set_eq_of_length_le (by rw [List.length_set]; omega)
      rw [hij] at eB
      rw [if_pos (show i < B.length + 1 by omega)] at eC
      have b1 := hB _ (List.getElem_mem hi)
      by_cases hz1 : (c : Int) - (B[i] : Nat) = 0
      · have e1 : c = B[i] := by omega
        exact fin (by rw [eB, e1, List.set_getElem_self])
      · exfalso
        have n1 : ¬ w1 B' % 997 = w1 B % 997 := by
          rw [eB, w1_set B i c hi]
          unfold Pr at *
          omega
        have n2 : ¬ w2 0 B' % 997 = w2 0 B % 997 := by
          rw [eB, w2_set B 0 i c hi, Nat.zero_add]
          have := no997 (k := (i : Int) + 1) hz1 (by unfold Pr at *; omega) (by omega) (by omega)
          generalize ((c : Int) - (B[i] : Nat)) * ((i : Int) + 1) = s1 at *
          omega
        by_cases hk : j < B.length + 1
        · rw [if_pos hk] at eC
          exact n1 (chk_first (by rw [eC]))
        · rw [if_neg hk] at eC
          by_cases h3 : j - (B.length + 1) < 3
          · exact n2 (chk_second (by rw [eC, List.drop_set, if_pos h3]))
          · exact n1 (chk_first (by rw [eC, List.take_set, List.set_eq_of_length_le (by simp [chk_len]; omega)]))
  · have hsi : B.set i c = B := List.set_eq_of_length_le (by omega)
    rw [hsi] at eB
    by_cases hj : j < B.length
    · have b1 := hB _ (List.getElem_mem hj)
      rw [if_pos (by omega : j < B.length + 1)] at eC
      by_cases hz1 : (d : Int) - (B[j] : Nat) = 0
      · have e1 : d = B[j] := by omega
        exact fin (by rw [eB, e1, List.set_getElem_self])
      · exfalso
        have n1 : ¬ w1 B' % 997 = w1 B % 997 := by
          rw [eB, w1_set B j d hj]
          unfold Pr at *
          omega
        have n2 : ¬ w2 0 B' % 997 = w2 0 B % 997 := by
          rw [eB, w2_set B 0 j d hj, Nat.zero_add]
          have := no997 (k := (j : Int) + 1) hz1 (by unfold Pr at *; omega) (by omega) (by omega)
          generalize ((d : Int) - (B[j] : Nat)) * ((j : Int) + 1) = s1 at *
          omega
        by_cases hk : i < B.length + 1
        · rw [if_pos hk] at eC
          exact n1 (chk_first (by rw [eC]))
        · rw [if_neg hk] at eC
          by_cases h3 : i - (B.length + 1) < 3
          · exact n2 (chk_second (by rw [eC, List.drop_set, if_pos h3]))
          · exact n1 (chk_first (by rw [eC, List.take_set, List.set_eq_of_length_le (by simp [chk_len]; omega)]))
    · refine fin ?_
      rw [eB, List.set_eq_of_length_le (by omega)]
end K26
end K26x__
section K26d__
set_option Elab.async false
set_option linter.all false
set_option autoImplicit false
set_option maxRecDepth 100000
set_option maxHeartbeats 400000
namespace K26
open PySem L2 PySem.Spec PyProof.Rows Sh SX

/-! ### the law's draws -/
def Pot (d : D) : Prop := ∃ a b : Int, d = .list [.int a, .int b] ∧ 0 ≤ a
theorem at2_0 (x y : D) : atI [x, y] 0 = some x := atI_nat (j := 0) rfl
theorem at2_1 (x y : D) : atI [x, y] 1 = some y := atI_nat (j := 1) rfl
theorem p64 : (2 : Int) ^ 64 = 18446744073709551616 := by decide
theorem r_draw {d : D} (hp : Pot d) {m : Int} (hm : 0 < m) (hm2 : m < 1073741824) : ∃ r d', M__law_draw [.ow true d, .fz (.int m)] = some (.fz (.int r), [.ow true d', .un]) ∧ 0 ≤ r ∧ r < m ∧ Pot d' := by
  obtain ⟨a, b, rfl, ha⟩ := hp
  by_cases h0 : 0 < a
  · refine ⟨a % m, .list [.int (a / m), .int b], ?_, Int.emod_nonneg _ (by omega), Int.emod_lt_of_pos _ hm, _, _, rfl, Int.ediv_nonneg ha (by omega)⟩
    have c1 : (binF ixD (varF 0) (conF (.int 0))) [.ow true (.list [.int a, .int b]), .fz (.int m), .un] = some (.fz (.int a), [.ow true (.list [.int a, .int b]), .fz (.int m), .un]) := by
      simp only [binF_ap, varF_ap, List.getElem?_cons_zero, Option.bind_some, conF_ap, rd_bo, rd_fz, ix_l, at2_0, Option.map_some]
    have t1 : (tstF (binF gtD (binF ixD (varF 0) (conF (.int 0))) (conF (.int 0)))) [.ow true (.list [.int a, .int b]), .fz (.int m), .un] = some (true, [.ow true (.list [.int a, .int b]), .fz (.int m), .un]) := by
      rw [tstF_ap, binF_ap, c1]
      simp only [Option.bind_some, conF_ap, rd_fz, gt_ii, Option.map_some, decide_eq_true (show a > 0 from h0)]
    have dm : divmodG [.int a, .int m] = some (.fz (.tuple [.int (a / m), .int (a % m)])) := by rw [divmod_ii, if_pos ⟨hm, hm2⟩]
    have s1 : (asgF (cbF divmodG (argC (binF ixD (varF 0) (conF (.int 0))) (argC (varF 1) argN))) (gtF 2 (gsC (gxF 0 (conF (.int 0))) (gsC (gnF 2) gsN)))) [.ow true (.list [.int a, .int b]), .fz (.int m), .un] = some (.nx [.ow true (.list [.int (a / m), .int b]), .fz (.int m), .fz (.int (a % m))]) := by
      rw [asgF_ap, cbF_ap, argC_ap, c1]
      simp only [Option.bind_some, argC_ap, argN_ap, varF_ap, List.getElem?_cons_succ, List.getElem?_cons_zero, Option.map_some, st_fz, rdAll_cons, rdAll_nil, rd_fz, dm, fzn_fz]
      rfl
    show (m__law_draw [.ow true (.list [.int a, .int b]), .fz (.int m), .un]).bind _ = _
    unfold m__law_draw
    rw [seqF_ap, ifS_ap, t1]
    show (((seqF _ _) [.ow true (.list [.int a, .int b]), .fz (.int m), .un]).bind _).bind _ = _
    rw [seqF_ap, s1]
    rfl
  · have h1 : a = 0 := by omega
    subst h1
    obtain ⟨b1, hb1⟩ : ∃ b1, b1 = (b * 39373 + 3917) % 2147483587 := ⟨_, rfl⟩
    have hb2 : 0 ≤ b1 ∧ b1 < 2147483587 := by rw [hb1]; exact ⟨Int.emod_nonneg _ (by decide), Int.emod_lt_of_pos _ (by decide)⟩
    refine ⟨(b1 * b1 % 2147483563 / 19) % m, .list [.int 0, .int b1], ?_, Int.emod_nonneg _ (by omega), Int.emod_lt_of_pos _ hm, _, _, rfl, by omega⟩
    have t1 : (tstF (binF gtD (binF ixD (varF 0) (conF (.int 0))) (conF (.int 0)))) [.ow true (.list [.int 0, .int b]), .fz (.int m), .un] = some (false, [.ow true (.list [.int 0, .int b]), .fz (.int m), .un]) := by
      simp only [tstF_ap, binF_ap, varF_ap, List.getElem?_cons_zero, Option.bind_some, conF_ap, rd_bo, rd_fz, ix_l, at2_0, Option.map_some, gt_ii]
      rfl
    have hm1 : mulD (.int b) (.int 39373) = some (.fz (.int (b * 39373))) := by rw [mul_ii, if_pos (.inr (by rw [p64]; omega))]
    have hm3 : mulD (.int b1) (.int b1) = some (.fz (.int (b1 * b1))) := by rw [mul_ii, if_pos (.inr (by rw [p64]; omega))]
    have hmd : modD (.int (b * 39373 + 3917)) (.int 2147483587) = some (.fz (.int b1)) := by rw [mod_ii, if_pos (by decide), hb1]
    have hmd2 : modD (.int (b1 * b1)) (.int 2147483563) = some (.fz (.int (b1 * b1 % 2147483563))) := by rw [mod_ii, if_pos (by decide)]
    have hfd : fdivD (.int (b1 * b1 % 2147483563)) (.int 19) = some (.fz (.int (b1 * b1 % 2147483563 / 19))) := by rw [fdiv_ii, if_pos (by decide)]
    have hmd3 : modD (.int (b1 * b1 % 2147483563 / 19)) (.int m) = some (.fz (.int (b1 * b1 % 2147483563 / 19 % m))) := by rw [mod_ii, if_pos hm]
    have s1 : (asgF (binF modD (cbF intG (argC (binF addD (binF mulD (binF ixD (varF 0) (conF (.int 1))) (conF (.int 39373))) (conF (.int 3917))) argN)) (conF (.int 2147483587))) (gxF 0 (conF (.int 1)))) [.ow true (.list [.int 0, .int b]), .fz (.int m), .un] = some (.nx [.ow true (.list [.int 0, .int b1]), .fz (.int m), .un]) := by
      simp only [asgF_ap, binF_ap, cbF_ap, argC_ap, argN_ap, varF_ap, List.getElem?_cons_zero, Option.bind_some, conF_ap, rd_bo, rd_fz, ix_l, at2_1, Option.map_some, hm1, add_ii, st_fz, rdAll_cons, rdAll_nil, int_i, hmd, fzn_fz]
      rfl
    have s2 : (retF (binF modD (cbF intG (argC (binF fdivD (binF modD (cbF intG (argC (binF mulD (binF ixD (varF 0) (conF (.int 1))) (binF ixD (varF 0) (conF (.int 1)))) argN)) (conF (.int 2147483563))) (conF (.int 19))) argN)) (varF 1))) [.ow true (.list [.int 0, .int b1]), .fz (.int m), .un] = some (.rt (.fz (.int (b1 * b1 % 2147483563 / 19 % m))) [.ow true (.list [.int 0, .int b1]), .fz (.int m), .un]) := by
      simp only [retF_ap, binF_ap, cbF_ap, argC_ap, argN_ap, varF_ap, List.getElem?_cons_succ, List.getElem?_cons_zero, Option.bind_some, conF_ap, rd_bo, rd_fz, ix_l, at2_1, Option.map_some, hm3, st_fz, rdAll_cons, rdAll_nil, int_i, hmd2, hfd, hmd3]
    show (m__law_draw [.ow true (.list [.int 0, .int b]), .fz (.int m), .un]).bind _ = _
    unfold m__law_draw
    rw [seqF_ap, ifS_ap, t1]
    show ((seqF _ _) [.ow true (.list [.int 0, .int b]), .fz (.int m), .un]).bind _ = _
    rw [seqF_ap, s1]
    show ((retF _) [.ow true (.list [.int 0, .int b1]), .fz (.int m), .un]).bind _ = _
    rw [s2]
    rfl
/-- one of a list -/
theorem r_pick {d : D} (hp : Pot d) {xs : List D} (h0 : 0 < xs.length) (h1 : xs.length < 1073741824) : ∃ (r : Nat) (hr : r < xs.length) (d' : D), M__law_pick [.ow true d, .fz (.list xs)] = some (.fz xs[r], [.ow true d', .un]) ∧ Pot d' := by
  obtain ⟨r, d', h, hr0, hr1, hp'⟩ := r_draw hp (m := xs.length) (by omega) (by omega)
  refine ⟨r.toNat, by omega, d', ?_, hp'⟩
  have hat : atI xs r = some xs[r.toNat] := by
    have := atI_nat (xs := xs) (j := r.toNat) (v := xs[r.toNat]) (List.getElem?_eq_getElem _)
    rw [show ((r.toNat : Nat) : Int) = r by omega] at this
    exact this
  have c1 : (callF [true, false] M__law_draw (argC (varF 0) (argC (cbF lenG (argC (varF 1) argN)) argN))) [.ow true d, .fz (.list xs)] = some (.fz (.int r), [.ow true d', .fz (.list xs)]) := by
    simp only [callF_ap, argC_ap, argN_ap, varF_ap, List.getElem?_cons_succ, List.getElem?_cons_zero, Option.bind_some, cbF_ap, Option.map_some, st_bo, st_fz, rdAll_cons, rdAll_nil, rd_fz, len_l, preA_io, preA_no, preA_nil, fzn_fz, ixs_l, ixs_r, ixs_nil, List.nodup_cons, List.not_mem_nil, not_false_eq_true, List.nodup_nil, and_self, if_true, mkE_r, mkE_l, mkE_nil, h, bak_l, bak_r, bak_nil, List.set_cons_zero]
  show (m__law_pick [.ow true d, .fz (.list xs)]).bind _ = _
  unfold m__law_pick
  rw [retF_ap, binF_ap]
  show (((some (Va.fz (.list xs), _)).bind _ : Option (Va × En)).map _).bind _ = _
  rw [Option.bind_some, c1]
  simp only [Option.bind_some, rd_fz, ix_l, hat, Option.map_some]
  rfl
end K26
end K26d__
section K26e__
set_option Elab.async false
set_option linter.all false
set_option autoImplicit false
set_option maxRecDepth 100000
set_option maxHeartbeats 400000
namespace K26
open PySem L2 PySem.Spec PyProof.Rows Sh SX

def SIG : List Nat := (Str.ofString " 0123456789abcdefghijklmnopqrstuvwxyz~!A-").cps.toList
theorem sig_pr : ∀ c ∈ SIG, 32 ≤ c ∧ c ≤ 126 := by decide +kernel
theorem sig_len : SIG.length = 41 := by decide +kernel
theorem sig_lit : Str.ofString " 0123456789abcdefghijklmnopqrstuvwxyz~!A-" = S SIG := (S_tl _).symm
theorem signs_len (l : List Nat) : (signsD (S l)).length = l.length := by unfold signsD; rw [List.length_map]
theorem signs_get (l : List Nat) (r : Nat) (hr : r < (signsD (S l)).length) : ∃ c ∈ l, (signsD (S l))[r] = .str (S [c]) := by
  have hl : r < l.length := by rw [signs_len] at hr; exact hr
  have h : (signsD (S l))[r]? = some (.str (S [l[r]])) := by
    show (l.map fun c => PyData.str ⟨#[c]⟩)[r]? = _
    rw [List.getElem?_map, List.getElem?_eq_getElem hl]
    rfl
  exact ⟨l[r], List.getElem_mem hl, (List.getElem?_eq_some_iff.mp h).2⟩
theorem r_sign {d : D} (hp : Pot d) : ∃ c d', M__law_sign [.ow true d] = some (.fz (.str (S [c])), [.ow true d']) ∧ Pr c ∧ Pot d' := by
  obtain ⟨r, hr, d', h, hp'⟩ := r_pick hp (xs := signsD (S SIG)) (by rw [signs_len, sig_len]; decide) (by rw [signs_len, sig_len]; decide)
  obtain ⟨c, hc, e⟩ := signs_get SIG r hr
  rw [e] at h
  refine ⟨c, d', ?_, sig_pr c hc, hp'⟩
  have hb : m__law_sign [.ow true d] = some (.rt (.fz (.str (S [c]))) [.ow true d']) := by
    unfold m__law_sign
    rw [sig_lit]
    simp only [retF_ap, callF_ap, argC_ap, argN_ap, varF_ap, List.getElem?_cons_zero, Option.bind_some, cbF_ap, conF_ap, Option.map_some, st_bo, st_fz, st_fr, rdAll_cons, rdAll_nil, rd_fz, list_s, preA_io, preA_no, preA_nil, fzn_fz, ixs_l, ixs_r, ixs_nil, List.nodup_cons, List.not_mem_nil, not_false_eq_true, List.nodup_nil, and_self, if_true, mkE_r, mkE_l, mkE_nil, h, bak_l, bak_r, bak_nil, List.set_cons_zero]
  show (m__law_sign [.ow true d]).bind _ = _
  rw [hb]
  rfl
def ABC : List Nat := [97, 98, 99, 120, 121, 122]
theorem abc_lit : Str.ofString "abcxyz" = S ABC := rfl
/-- a letter -/
theorem pick_abc {d : D} (hp : Pot d) {e1 : Sl} (he : ∀ b x, e1 ≠ .ow b x) : ∃ c d', (callF [true, false] M__law_pick (argC (varF 0) (argC (cbF listG (argC (conF (.str "abcxyz")) argN)) argN))) [.ow true d, e1] = some (.fz (.str (S [c])), [.ow true d', e1]) ∧ c ∈ ABC ∧ Pot d' := by
  obtain ⟨r, hr, d', h, hp'⟩ := r_pick hp (xs := signsD (S ABC)) (by rw [signs_len]; decide) (by rw [signs_len]; decide)
  obtain ⟨c, hc, e⟩ := signs_get ABC r hr
  rw [e] at h
  refine ⟨c, d', ?_, hc, hp'⟩
  rw [abc_lit]
  simp only [callF_ap, argC_ap, argN_ap, varF_ap, List.getElem?_cons_zero, Option.bind_some, cbF_ap, conF_ap, Option.map_some, st_bo, st_fz, st_fr, rdAll_cons, rdAll_nil, rd_fz, list_s, preA_io, preA_no, preA_nil, fzn_fz, ixs_l, ixs_r, ixs_nil, List.nodup_cons, List.not_mem_nil, not_false_eq_true, List.nodup_nil, and_self, if_true, mkE_r, mkE_l, mkE_nil, h, bak_l, bak_r, bak_nil, List.set_cons_zero]
/-- a draw below a picked number -/
theorem draw_pick {d : D} (hp : Pot d) {xs : List Int} (h0 : 0 < xs.length) (hz : xs.length ≤ 10) (hx : ∀ x ∈ xs, 0 < x ∧ x ≤ 1000) {f : FE} {rest : En} (hf : ∀ d', f (.ow true d' :: rest) = some (.fr (.list (xs.map .int)), .ow true d' :: rest)) :
    ∃ r d', (callF [true, false] M__law_draw (argC (varF 0) (argC (callF [true, false] M__law_pick (argC (varF 0) (argC f argN))) argN))) (.ow true d :: rest) = some (.fz (.int r), .ow true d' :: rest) ∧ 0 ≤ r ∧ (∃ x ∈ xs, r < x) ∧ Pot d' := by
  obtain ⟨k, hk, d1, h1, hp1⟩ := r_pick hp (xs := xs.map .int) (by rw [List.length_map]; exact h0) (by rw [List.length_map]; omega)
  have hk' : k < xs.length := by rw [List.length_map] at hk; exact hk
  rw [List.getElem_map] at h1
  have hm := hx _ (List.getElem_mem hk')
  obtain ⟨r, d2, h2, hr0, hr1, hp2⟩ := r_draw hp1 (m := xs[k]) hm.1 (by omega)
  refine ⟨r, d2, ?_, hr0, ⟨_, List.getElem_mem hk', hr1⟩, hp2⟩
  simp only [callF_ap, argC_ap, argN_ap, varF_ap, List.getElem?_cons_zero, Option.bind_some, Option.map_some, hf, st_bo, st_fz, st_fr, preA_io, preA_no, preA_nil, fzn_fz, ixs_l, ixs_r, ixs_nil, List.nodup_cons, List.not_mem_nil, not_false_eq_true, List.nodup_nil, and_self, if_true, mkE_r, mkE_l, mkE_nil, h1, h2, bak_l, bak_r, bak_nil, List.set_cons_zero]
theorem rg1_nat {n : Nat} (h : n ≤ 1000000) : rg1 [.int (n : Nat)] = some ((List.range n).map fun i => .int ((i : Nat) : Int)) := by
  have p62 : (2 : Int) ^ 62 = 4611686018427387904 := by decide
  unfold rg1
  dsimp only
  rw [if_pos (by rw [p62]; omega), Int.toNat_natCast]
theorem abc_let : ∀ c ∈ ABC, isLet c = true := by decide +kernel
theorem join0 : ∀ cs : List Nat, TL.joinL [] (cs.map fun c => [c]) = cs
  | [] => rfl
  | [c] => rfl
  | c :: b :: cs => by
    have := join0 (b :: cs)
    show [c] ++ ([] ++ TL.joinL [] ((b :: cs).map fun c => [c])) = _
    rw [this]
    rfl
theorem paired_pick : ∀ {ds qs : List D}, Paired (fun _ q => ∃ c ∈ ABC, q = .str (S [c])) ds qs → ∃ cs : List Nat, qs = (cs.map fun c => [c]).map (fun p => .str (S p)) ∧ cs.length = ds.length ∧ ∀ c ∈ cs, c ∈ ABC
  | [], _, .nil => ⟨[], rfl, rfl, fun _ h => by simp at h⟩
  | d :: ds, _, .cons h t => by
    obtain ⟨c, hc, rfl⟩ := h
    obtain ⟨cs, e, l, m⟩ := paired_pick t
    exact ⟨c :: cs, by rw [e]; rfl, by rw [List.length_cons, l, List.length_cons], fun x hx => (List.mem_cons.mp hx).elim (fun h => h ▸ hc) (m x)⟩
theorem sum_ones (cs : List Nat) : ((cs.map fun c => [c]).map (·.length)).sum = cs.length := by
  induction cs with
  | nil => rfl
  | cons c cs ih =>
    rw [List.map_cons, List.map_cons, List.sum_cons, ih]
    show 1 + cs.length = cs.length + 1
    omega
theorem r_name {d : D} (hp : Pot d) : ∃ n d', M__law_name [.ow true d] = some (.fz (.str (S n)), [.ow true d']) ∧ isName n = true ∧ Pot d' := by
  have hf : ∀ d', (lstF (argC (conF (.int 1)) (argC (conF (.int 3)) (argC (conF (.int 12)) argN)))) [.ow true d', .un] = some (.fr (.list (([1, 3, 12] : List Int).map .int)), [.ow true d', .un]) := fun d' => by
    have hz : ([PyData.int 1, .int 3, .int 12] : List D).length ≤ sizeLine := by rw [sz16]; decide
    simp only [lstF_ap, argC_ap, argN_ap, conF_ap, Option.bind_some, Option.map_some, st_fz, fzAll_cons, fzAll_nil, fzn_fz, hz, if_true]
    rfl
  obtain ⟨r, d1, h1, hr0, ⟨x, hx, hrx⟩, hp1⟩ := draw_pick hp (xs := [1, 3, 12]) (by decide) (by decide) (by decide) hf
  have hr12 : r < 12 := by simp at hx; omega
  obtain ⟨k, hk⟩ : ∃ k : Nat, (k : Int) = 1 + r ∧ 1 ≤ k ∧ k ≤ 12 := ⟨(1 + r).toNat, by omega, by omega, by omega⟩
  have hg := rg1_nat (n := k) (by omega)
  obtain ⟨qs, e', c1, c2, d2, hp2, rfl⟩ : ∃ qs e', cmpL (gnF 1) yesT (callF [true, false] M__law_pick (argC (varF 0) (argC (cbF listG (argC (conF (.str "abcxyz")) argN)) argN))) [1] ((List.range k).map fun i => .int ((i : Nat) : Int)) [.ow true d1, .un] = some (qs, e') ∧
      Paired (fun _ q => ∃ c ∈ ABC, q = .str (S [c])) ((List.range k).map fun i => PyData.int ((i : Nat) : Int)) qs ∧ ∃ d2, Pot d2 ∧ e' = [.ow true d2, .un] := by
    refine cmpL_inv (I := fun e => ∃ d2, Pot d2 ∧ e = [.ow true d2, .un]) ⟨d1, hp1, rfl⟩ ?_
    rintro q hq e ⟨d2, hp2, rfl⟩
    obtain ⟨c, d3, h3, hc, hp3⟩ := pick_abc hp2 (e1 := .fz q) (by intro b x z; cases z)
    exact ⟨[.ow true d2, .fz q], _, _, _, .str (S [c]), [.ow true d3, .fz q], rfl, rfl, h3, rfl, ⟨c, hc, rfl⟩, d3, hp3, rfl⟩
  obtain ⟨cs, rfl, hl, hm⟩ := paired_pick c2
  have hlen : cs.length = k := by rw [hl, List.length_map, List.length_range]
  have hj : joinM (.str (S [])) [.list ((cs.map fun c => [c]).map fun p => .str (S p))] = some (.fz (.str (S cs))) := by
    have := joinM_S (a := []) (ps := cs.map fun c => [c]) (by
      have := sum_ones cs
      rw [this, List.length_map, List.length_nil]
      omega)
    rw [join0] at this
    exact this
  refine ⟨cs, d2, ?_, ?_, hp2⟩
  · have hz : ((List.range k).map fun i => PyData.int ((i : Nat) : Int)).length ≤ sizeLine := by rw [List.length_map, List.length_range, sz16]; omega
    have i1 : (ibF rg1 (argC (binF addD (conF (.int 1)) (callF [true, false] M__law_draw (argC (varF 0) (argC (callF [true, false] M__law_pick (argC (varF 0) (argC (lstF (argC (conF (.int 1)) (argC (conF (.int 3)) (argC (conF (.int 12)) argN)))) argN))) argN)))) argN)) [.ow true d, .un] = some ((List.range k).map (fun i => .int ((i : Nat) : Int)), [.ow true d1, .un]) := by
      rw [ibF_ap, argC_ap, binF_ap, conF_ap, Option.bind_some, h1]
      simp only [Option.bind_some, rd_fz, add_ii, Option.map_some, st_fz, argN_ap, rdAll_cons, rdAll_nil, ← hk.1, hg]
    have hb : m__law_name [.ow true d, .un] = some (.rt (.fz (.str (S cs))) [.ow true d2, .un]) := by
      unfold m__law_name
      have l0 : Str.ofString "" = S [] := rfl
      rw [l0]
      simp only [retF_ap, mbF_ap, conF_ap, Option.bind_some, rd_fz, tyD, beq_self_eq_true, if_true, argC_ap, argN_ap, cmpF_ap, i1, hz, wipeE, List.set_cons_succ, List.set_cons_zero, c1, Option.map_some, resE, List.getElem?_cons_succ, List.getElem?_cons_zero, st_fr, rdAll_cons, rdAll_nil, hj]
    show (m__law_name [.ow true d, .un]).bind _ = _
    rw [hb]
    rfl
  · unfold isName
    rw [decide_eq_true (by omega : 1 ≤ cs.length), decide_eq_true (by omega : cs.length ≤ 12), List.all_eq_true.mpr fun c hc => abc_let c (hm c hc)]
    rfl
end K26
end K26e__
section K26f__
set_option Elab.async false
set_option linter.all false
set_option autoImplicit false
set_option maxRecDepth 100000
set_option maxHeartbeats 400000
namespace K26
open PySem L2 PySem.Spec PyProof.Rows Sh SX

theorem call_name {d : D} (hp : Pot d) {rest : En} : ∃ n d', (callF [true] M__law_name (argC (varF 0) argN)) (.ow true d :: rest) = some (.fz (.str (S n)), .ow true d' :: rest) ∧ isName n = true ∧ Pot d' := by
  obtain ⟨n, d', h, hn, hp'⟩ := r_name hp
  refine ⟨n, d', ?_, hn, hp'⟩
  simp only [callF_ap, argC_ap, argN_ap, varF_ap, List.getElem?_cons_zero, Option.bind_some, Option.map_some, st_bo, preA_io, preA_nil, ixs_r, ixs_nil, List.nodup_cons, List.not_mem_nil, not_false_eq_true, List.nodup_nil, and_self, if_true, mkE_r, mkE_nil, h, bak_r, bak_nil, List.set_cons_zero]
theorem call_draw {d : D} (hp : Pot d) {m : Int} (hm : 0 < m) (hm2 : m < 1073741824) {f : FE} {rest : En} (hf : f (.ow true d :: rest) = some (.fz (.int m), .ow true d :: rest)) :
    ∃ r d', (callF [true, false] M__law_draw (argC (varF 0) (argC f argN))) (.ow true d :: rest) = some (.fz (.int r), .ow true d' :: rest) ∧ 0 ≤ r ∧ r < m ∧ Pot d' := by
  obtain ⟨r, d', h, h0, h1, hp'⟩ := r_draw hp hm hm2
  refine ⟨r, d', ?_, h0, h1, hp'⟩
  simp only [callF_ap, argC_ap, argN_ap, varF_ap, List.getElem?_cons_zero, Option.bind_some, Option.map_some, hf, st_bo, st_fz, preA_io, preA_no, preA_nil, fzn_fz, ixs_l, ixs_r, ixs_nil, List.nodup_cons, List.not_mem_nil, not_false_eq_true, List.nodup_nil, and_self, if_true, mkE_r, mkE_l, mkE_nil, h, bak_l, bak_r, bak_nil, List.set_cons_zero]
theorem name_ne {n : List Nat} (h : isName n = true) : ∃ c r, n = c :: r := by
  cases n with
  | nil => cases h
  | cons c r => exact ⟨c, r, rfl⟩
theorem name_head {c c' : Nat} {r : List Nat} (h : isName (c :: r) = true) (hc : isLet c' = true) : isName (c' :: r) = true := by
  unfold isName at h ⊢
  simp only [Bool.and_eq_true, List.all_cons, List.length_cons] at h ⊢
  exact ⟨h.1, h.2.1, hc, h.2.2.2⟩
theorem pick_two {d : D} (hp : Pot d) {rest : En} : ∃ r d', (callF [true, false] M__law_draw (argC (varF 0) (argC (callF [true, false] M__law_pick (argC (varF 0) (argC (lstF (argC (conF (.int 3)) (argC (conF (.int 100)) argN))) argN))) argN))) (.ow true d :: rest) = some (.fz (.int r), .ow true d' :: rest) ∧ 0 ≤ r ∧ r ≤ 99 ∧ Pot d' := by
  have hf : ∀ d', (lstF (argC (conF (.int 3)) (argC (conF (.int 100)) argN))) (.ow true d' :: rest) = some (.fr (.list (([3, 100] : List Int).map .int)), .ow true d' :: rest) := fun d' => by
    have hz : ([PyData.int 3, .int 100] : List D).length ≤ sizeLine := by rw [sz16]; decide
    simp only [lstF_ap, argC_ap, argN_ap, conF_ap, Option.bind_some, Option.map_some, st_fz, fzAll_cons, fzAll_nil, fzn_fz, hz, if_true]
    rfl
  obtain ⟨r, d', h, h0, ⟨x, hx, hrx⟩, hp'⟩ := draw_pick hp (xs := [3, 100]) (by decide) (by decide) (by decide) hf
  exact ⟨r, d', h, h0, by simp at hx; omega, hp'⟩
theorem r_slip {d : D} (hp : Pot d) : ∃ a n1 n2 v b d', M__law_slip [.ow true d] = some (.fz (slipD a n1 n2 v b), [.ow true d']) ∧ a ≤ 99 ∧ b ≤ 99 ∧ v < 3 ∧ okSlip n1 n2 = true ∧ Pot d' := by
  obtain ⟨n1, d1, h1, k1, p1⟩ := call_name hp (rest := [.un, .un])
  obtain ⟨m, d2, h2, k2, p2⟩ := call_name p1 (rest := [.un, .un])
  have s1 : (parS 2 1 (callF [true] M__law_name (argC (varF 0) argN)) (callF [true] M__law_name (argC (varF 0) argN))) [.ow true d, .un, .un] = some (.nx [.ow true d2, .fz (.str (S m)), .fz (.str (S n1))]) := by
    rw [parS_ap, h1, Option.bind_some]
    dsimp only
    rw [noBo_fz, if_pos rfl, h2, Option.bind_some]
    dsimp only
    rw [noBo_fz, if_pos rfl]
    rfl
  obtain ⟨c, r, e1⟩ := name_ne k1
  have hat : atI n1 0 = some c := atI_nat (j := 0) (by rw [e1]; rfl)
  have la : Str.ofString "a" = S [97] := rfl
  have lb : Str.ofString "b" = S [98] := rfl
  obtain ⟨n2, hn2, k3⟩ : ∃ n2, (setF 1 (ifF (tstF (binF neD (varF 1) (varF 2))) (varF 1) (binF addD (ifF (tstF (binF neD (binF ixD (varF 2) (conF (.int 0))) (conF (.str "a")))) (conF (.str "a")) (conF (.str "b"))) (slF cutD (varF 1) (some (conF (.int 1))) none)))) [.ow true d2, .fz (.str (S m)), .fz (.str (S n1))] = some (.nx [.ow true d2, .fz (.str (S n2)), .fz (.str (S n1))]) ∧ okSlip n1 n2 = true := by
    by_cases hm : m = n1
    · subst hm
      have eq1 : (S m == S m) = true := by rw [S_beq_eq]; exact decide_eq_true rfl
      have cut : cutL m (some 1) none = r := by rw [e1]; exact cutL_from _ 1
      have lm : m.length ≤ 12 := by
        have h := k1
        unfold isName at h
        simp only [Bool.and_eq_true, decide_eq_true_eq] at h
        exact h.2.1
      have lr : r.length ≤ 12 := by rw [e1, List.length_cons] at lm; omega
      have z1 : ((⟨#[c]⟩ : Str) == S [97]) = decide (c = 97) := by
        have := S_beq_eq (a := [c]) (b := [97])
        simpa using this
      have hcs : cutS (S m) (some 1) none = S r := by rw [cutS_S, cut]
      have ad : ∀ x : Nat, addD (.str (S [x])) (.str (S r)) = some (.fz (.str (S (x :: r)))) := fun x => add_S [x] r (by simp; omega)
      rw [la, lb]
      by_cases hc : c = 97
      · refine ⟨98 :: r, ?_, okSlip_iff.mpr ⟨k1, name_head (c := c) (e1 ▸ k1) (isLet_iff.mpr (by decide)), fun z => ?_⟩⟩
        · rw [decide_eq_true hc] at z1
          simp only [setF_ap, ifF_ap, tstF_ap, binF_ap, varF_ap, List.getElem?_cons_succ, List.getElem?_cons_zero, Option.bind_some, rd_fz, neD_ap, eqB_ss, eq1, Option.map_some, Bool.not_true, Bool.false_eq_true, if_false, conF_ap, ix_s, hat, z1, slF_ap, prtF_some, prtF_none, cut_s, hcs, ad, setSl_fz, List.set_cons_succ, List.set_cons_zero]
        · rw [e1] at z
          have := (List.cons.inj z).1
          omega
      · refine ⟨97 :: r, ?_, okSlip_iff.mpr ⟨k1, name_head (c := c) (e1 ▸ k1) (isLet_iff.mpr (by decide)), fun z => ?_⟩⟩
        · rw [decide_eq_false hc] at z1
          simp only [setF_ap, ifF_ap, tstF_ap, binF_ap, varF_ap, List.getElem?_cons_succ, List.getElem?_cons_zero, Option.bind_some, rd_fz, neD_ap, eqB_ss, eq1, Option.map_some, Bool.not_true, Bool.not_false, Bool.false_eq_true, if_false, if_true, conF_ap, ix_s, hat, z1, slF_ap, prtF_some, prtF_none, cut_s, hcs, ad, setSl_fz, List.set_cons_succ, List.set_cons_zero]
        · rw [e1] at z
          exact hc (List.cons.inj z).1
    · have eq1 : (S m == S n1) = false := by rw [S_beq_eq]; exact decide_eq_false hm
      refine ⟨m, ?_, okSlip_iff.mpr ⟨k1, k2, fun z => hm z.symm⟩⟩
      simp only [setF_ap, ifF_ap, tstF_ap, binF_ap, varF_ap, List.getElem?_cons_succ, List.getElem?_cons_zero, Option.bind_some, rd_fz, neD_ap, eqB_ss, eq1, Option.map_some, Bool.not_false, if_true, setSl_fz, List.set_cons_succ, List.set_cons_zero]
  obtain ⟨a, d3, h3, a0, a1, p3⟩ := pick_two p2 (rest := [.fz (.str (S n2)), .fz (.str (S n1))])
  obtain ⟨v, d4, h4, v0, v1, p4⟩ := call_draw p3 (m := 3) (by decide) (by decide) (f := conF (.int 3)) (rest := [.fz (.str (S n2)), .fz (.str (S n1))]) rfl
  obtain ⟨b, d5, h5, b0, b1, p5⟩ := pick_two p4 (rest := [.fz (.str (S n2)), .fz (.str (S n1))])
  refine ⟨a.toNat, n1, n2, v.toNat, b.toNat, d5, ?_, by omega, by omega, by omega, k3, p5⟩
  have hz : ([PyData.str "slip", .int a, .str (S n1), .str (S n2), .int v, .int b] : List D).length ≤ sizeLine := by rw [sz16]; show 6 ≤ 16777216; decide
  have ea : ((a.toNat : Nat) : Int) = a := by omega
  have eb : ((b.toNat : Nat) : Int) = b := by omega
  have ev : ((v.toNat : Nat) : Int) = v := by omega
  show (m__law_slip [.ow true d, .un, .un]).bind _ = _
  unfold m__law_slip slipD
  rw [seqF_ap, s1, Option.bind_some]
  show ((seqF _ _) [.ow true d2, .fz (.str (S m)), .fz (.str (S n1))]).bind _ = _
  rw [seqF_ap, hn2, Option.bind_some, ea, eb, ev]
  show ((retF _) [.ow true d2, .fz (.str (S n2)), .fz (.str (S n1))]).bind _ = _
  have s3 : (retF (tupF (argC (conF (.str "slip")) (argC (callF [true, false] M__law_draw (argC (varF 0) (argC (callF [true, false] M__law_pick (argC (varF 0) (argC (lstF (argC (conF (.int 3)) (argC (conF (.int 100)) argN))) argN))) argN))) (argC (varF 2) (argC (varF 1) (argC (callF [true, false] M__law_draw (argC (varF 0) (argC (conF (.int 3)) argN))) (argC (callF [true, false] M__law_draw (argC (varF 0) (argC (callF [true, false] M__law_pick (argC (varF 0) (argC (lstF (argC (conF (.int 3)) (argC (conF (.int 100)) argN))) argN))) argN))) argN)))))))) [.ow true d2, .fz (.str (S n2)), .fz (.str (S n1))] =
      some (.rt (.fz (.tuple [.str "slip", .int a, .str (S n1), .str (S n2), .int v, .int b])) [.ow true d5, .fz (.str (S n2)), .fz (.str (S n1))]) := by
    rw [retF_ap, tupF_ap, argC_ap, conF_ap, Option.bind_some, argC_ap, h3, Option.bind_some, argC_ap]
    simp only [varF_ap, List.getElem?_cons_succ, List.getElem?_cons_zero, Option.bind_some]
    rw [argC_ap]
    simp only [varF_ap, List.getElem?_cons_succ, List.getElem?_cons_zero, Option.bind_some]
    rw [argC_ap, h4, Option.bind_some, argC_ap, h5]
    simp only [Option.bind_some, argN_ap, Option.map_some, st_fz, fzAll_cons, fzAll_nil, fzn_fz, hz, if_true]
  rw [s3]
  rfl
end K26
end K26f__
section K26g__
set_option Elab.async false
set_option linter.all false
set_option autoImplicit false
set_option maxRecDepth 100000
set_option maxHeartbeats 400000
namespace K26
open PySem L2 PySem.Spec PyProof.Rows Sh SX

section
variable {l : List Nat} {e : En} {d : D}
theorem r_slip_of_text {r : Option (Va × En)} {x : D} (h : M_slip_in [.fz (.str (S l))] = some (.fz x, [.un])) : M_slip_of_text [.fz (.str (S l))] = some (.fz x, [.un]) := by
  have s1 : (ifS (notT (tstF (isiF "str" (varF 0)))) nevF nopF) [.fz (.str (S l))] = some (.nx [.fz (.str (S l))]) := rfl
  have s2 : (retF (callF [false] M_slip_in (argC (varF 0) argN))) [.fz (.str (S l))] = some (.rt (.fz x) [.fz (.str (S l))]) := by
    simp only [retF_ap, callF_ap, argC_ap, argN_ap, varF_ap, List.getElem?_cons_zero, Option.bind_some, Option.map_some, st_fz, preA_no, preA_nil, fzn_fz, ixs_l, ixs_nil, List.nodup_nil, if_true, mkE_l, mkE_nil, h, bak_l, bak_nil]
  show (m_slip_of_text [.fz (.str (S l))]).bind _ = _
  unfold m_slip_of_text
  rw [seqF_ap, s1, Option.bind_some]
  show ((retF _) [.fz (.str (S l))]).bind _ = _
  rw [s2]
  rfl
theorem call1 {M : FE} {f : FE} {x y : D} {s : Sl} (hf : f e = some (.fz x, e)) (hM : M [.fz x] = some (.fz y, [s])) : (callF [false] M (argC f argN)) e = some (.fz y, e) := by
  simp only [callF_ap, argC_ap, argN_ap, hf, Option.bind_some, Option.map_some, st_fz, preA_no, preA_nil, fzn_fz, ixs_l, ixs_nil, List.nodup_nil, if_true, mkE_l, mkE_nil, hM, bak_l, bak_nil]
theorem var_fz {i : Nat} (h : e[i]? = some (.fz d)) : (varF i) e = some (.fz d, e) := by
  rw [varF_ap, h]
/-! ### repr -/
theorem repr_of (hl : d.layable0 = true) (hi : d.intsShort 13 = true) (hs : d.showable = true) (hd : d.depth ≤ 60) : reprG [d] = some (.fz (.str d.shown)) := by
  have h := shown_le13 hl hi
  show (if d.showable = true ∧ d.depth ≤ 60 ∧ d.shown.length ≤ sizeLine then some (Va.fz (.str d.shown)) else none) = _
  rw [if_pos ⟨hs, hd, by rw [sz16]; omega⟩]
theorem repr_none : reprG [.none] = some (.fz (.str (PyData.shown .none))) := repr_of (by decide +kernel) (by decide +kernel) (by decide +kernel) (by decide +kernel)
/-- small data that shows -/
structure Sm (d : D) (k w : Nat) : Prop where
  lay : d.canLay0 = true
  short : d.intsShort 13 = true
  show_ : d.showable = true
  dep : d.depth ≤ k
  wt : d.weight ≤ w
theorem Sm.repr {k w : Nat} (h : Sm d k w) (hk : k ≤ 60) (hw : w ≤ 1000000) : reprG [d] = some (.fz (.str d.shown)) := by
  refine repr_of ?_ h.short h.show_ (Nat.le_trans h.dep hk)
  unfold PyData.layable0
  have := h.dep
  have := h.wt
  rw [h.lay, decide_eq_true (by omega), decide_eq_true (by have e : (2 : Nat) ^ 20 = 1048576 := by decide
                                                           omega)]
  rfl
theorem Sm.str {p : List Nat} (h : ∀ c ∈ p, c < 128) : Sm (.str (S p)) 0 p.length where
  lay := by rw [PyData.canLay0]; exact strOk_S h
  short := by rw [PyData.intsShort]
  show_ := by rw [PyData.showable]
  dep := by rw [PyData.depth]; exact Nat.le_refl _
  wt := by rw [PyData.weight]; show (S p).length ≤ _; rw [S_len]; exact Nat.le_refl _
theorem log_small {a : Nat} (h : a ≤ 99) : a.log2 ≤ 6 := by
  by_cases z : a = 0
  · subst z; decide
  · have := (Nat.log2_lt (n := a) (k := 7) z).mpr (by omega)
    omega
theorem Sm.int {a : Nat} (h : a ≤ 99) : Sm (.int (a : Nat)) 0 7 where
  lay := by rw [PyData.canLay0]
  short := by
    rw [PyData.intsShort]
    have e : PyData.shown (.int (a : Nat)) = S (TL.numL a) := by rw [PyData.shown]; exact num_S a
    rw [e, S_len]
    have := numL_len2 h
    exact decide_eq_true (by omega)
  show_ := by
    rw [PyData.showable]
    have := log_small h
    exact decide_eq_true (by show a.log2 < 1920; omega)
  dep := by rw [PyData.depth]; exact Nat.le_refl _
  wt := by
    rw [PyData.weight]
    have := log_small h
    split
    · omega
    · show a.log2 + 1 ≤ 7; omega
def SmAll (k w : Nat) : List D → Prop
  | [] => True
  | d :: ds => Sm d k w ∧ SmAll k w ds
theorem smAll {k w : Nat} : ∀ {ds : List D}, SmAll k w ds → PyData.canLayAll0 ds = true ∧ PyData.intsShortAll 13 ds = true ∧ PyData.showableAll ds = true ∧ PyData.depthAll ds ≤ k ∧ PyData.weightAll ds ≤ ds.length * (w + 1)
  | [], _ => ⟨by rw [PyData.canLayAll0], by rw [PyData.intsShortAll], by rw [PyData.showableAll], by rw [PyData.depthAll]; omega, by rw [PyData.weightAll]; omega⟩
  | d :: ds, ⟨h, t⟩ => by
    obtain ⟨a1, a2, a3, a4, a5⟩ := smAll t
    refine ⟨by rw [PyData.canLayAll0, h.lay, a1]; rfl, by rw [PyData.intsShortAll, h.short, a2]; rfl, by rw [PyData.showableAll, h.show_, a3]; rfl, by rw [PyData.depthAll]; exact Nat.max_le.mpr ⟨h.dep, a4⟩, ?_⟩
    rw [PyData.weightAll, List.length_cons, Nat.add_mul, Nat.one_mul]
    have := h.wt
    omega
theorem Sm.list {k w : Nat} {ds : List D} (h : SmAll k w ds) : Sm (.list ds) (k + 1) (ds.length * (w + 1)) := by
  obtain ⟨a1, a2, a3, a4, a5⟩ := smAll h
  exact ⟨by rw [PyData.canLay0, a1], by rw [PyData.intsShort, a2], by rw [PyData.showable, a3], by rw [PyData.depth]; omega, by rw [PyData.weight]; exact a5⟩
theorem Sm.tuple {k w : Nat} {ds : List D} (h : SmAll k w ds) : Sm (.tuple ds) (k + 1) (ds.length * (w + 1)) := by
  obtain ⟨a1, a2, a3, a4, a5⟩ := smAll h
  exact ⟨by rw [PyData.canLay0, a1], by rw [PyData.intsShort, a2], by rw [PyData.showable, a3], by rw [PyData.depth]; omega, by rw [PyData.weight]; exact a5⟩
theorem Sm.mono {k w k' w' : Nat} (h : Sm d k w) (hk : k ≤ k') (hw : w ≤ w') : Sm d k' w' := ⟨h.lay, h.short, h.show_, Nat.le_trans h.dep hk, Nat.le_trans h.wt hw⟩
theorem name_128 {n : List Nat} (h : isName n = true) : ∀ c ∈ n, c < 128 := fun c hc => by have := name_mem h c hc; omega
theorem slip_lit : (PyData.str "slip") = .str (S [115, 108, 105, 112]) := rfl
theorem Sm.slip {a b v : Nat} {n1 n2 : List Nat} (ha : a ≤ 99) (hb : b ≤ 99) (hv : v < 3) (ok : okSlip n1 n2 = true) : Sm (slipD a n1 n2 v b) 1 126 := by
  obtain ⟨k1, k2, _⟩ := okSlip_iff.mp ok
  obtain ⟨l1, l2⟩ := okSlip_len ok
  unfold slipD
  rw [slip_lit]
  exact Sm.tuple (k := 0) (w := 20) ⟨(Sm.str (by decide)).mono (Nat.le_refl _) (by decide), (Sm.int ha).mono (Nat.le_refl _) (by decide), (Sm.str (name_128 k1)).mono (Nat.le_refl _) (by omega), (Sm.str (name_128 k2)).mono (Nat.le_refl _) (by omega), (Sm.int (by omega : v ≤ 99)).mono (Nat.le_refl _) (by decide), (Sm.int hb).mono (Nat.le_refl _) (by decide), trivial⟩
/-! ### the law's tests of readings -/
theorem test_ok (h5 : e[5]? = some (.fz (.str (S l)))) (hl : l.length ≤ 300) (hA : ∀ c ∈ l, c < 128) :
    (ifS (tstF (binF neD (cbF reprG (argC (callF [false] M_slip_of_text (argC (varF 5) argN)) argN)) (cbF reprG (argC (callF [false] M__law_read (argC (varF 5) argN)) argN)))) (retF (conF (.bool false))) nopF) e = some (.nx e) := by
  obtain ⟨d, h1, h2, h3⟩ := agree hl hA
  have hr : reprG [d] = some (.fz (.str d.shown)) := by
    rcases h3 with rfl | ⟨a, n1, n2, v, b, ha, hb, hv, ok, rfl, _⟩
    · exact repr_none
    · exact (Sm.slip ha hb hv ok).repr (by decide) (by decide)
  have c1 := call1 (var_fz h5) (r_slip_of_text (r := none) h1)
  have c2 := call1 (var_fz h5) h2
  have hq : (d.shown == d.shown) = true := beq_self_eq_true _
  simp only [ifS_ap, tstF_ap, binF_ap, cbF_ap, argC_ap, argN_ap, c1, c2, Option.bind_some, Option.map_some, st_fz, rdAll_cons, rdAll_nil, rd_fz, hr, neD_ap, eqB_ss, hq, Bool.not_true, Bool.false_eq_true, if_false, nopF_ap]
end
end K26
end K26g__
section K26i__
set_option Elab.async false
set_option linter.all false
set_option autoImplicit false
set_option maxRecDepth 100000
set_option maxHeartbeats 400000
namespace K26
open PySem L2 PySem.Spec PyProof.Rows Sh SX

/-- the names of _law_text_right -/
structure V (t bd : List Nat) (sl : D) (e : En) : Prop where
  len : e.length = 11
  pot : ∃ d, Pot d ∧ e[0]? = some (.ow true d)
  s1 : e[1]? = some (.fz sl)
  s2 : e[2]? = some (.fz (.str (S bd)))
  s3 : e[3]? = some (.fz (.str (S t)))
  fr : ∀ (i : Nat) (s : Sl), 4 ≤ i → e[i]? = some s → ∀ d, s ≠ .ow true d
section
variable {t bd l : List Nat} {sl : D} {e : En} {i : Nat} {d : D}
theorem V.set (v : V t bd sl e) (hi : 4 ≤ i) (x : D) : V t bd sl (e.set i (.fz x)) where
  len := by rw [List.length_set]; exact v.len
  pot := by
    obtain ⟨d, hp, h⟩ := v.pot
    exact ⟨d, hp, by rw [List.getElem?_set_ne (by omega)]; exact h⟩
  s1 := by rw [List.getElem?_set_ne (by omega)]; exact v.s1
  s2 := by rw [List.getElem?_set_ne (by omega)]; exact v.s2
  s3 := by rw [List.getElem?_set_ne (by omega)]; exact v.s3
  fr := fun j s hj h d z => by
    by_cases hij : i = j
    · subst hij
      rw [List.getElem?_set] at h
      split at h
      · split at h
        · cases h; cases z
        · cases h
      · exact v.fr _ _ hj h d z
    · rw [List.getElem?_set_ne hij] at h
      exact v.fr j s hj h d z
theorem V.draw (v : V t bd sl e) (hp : Pot d) : V t bd sl (e.set 0 (.ow true d)) where
  len := by rw [List.length_set]; exact v.len
  pot := ⟨d, hp, List.getElem?_set_self (by rw [v.len]; decide)⟩
  s1 := by rw [List.getElem?_set_ne (by omega)]; exact v.s1
  s2 := by rw [List.getElem?_set_ne (by omega)]; exact v.s2
  s3 := by rw [List.getElem?_set_ne (by omega)]; exact v.s3
  fr := fun j s hj h d z => by
    rw [List.getElem?_set_ne (by omega)] at h
    exact v.fr j s hj h d z
theorem V.put (v : V t bd sl e) (hi : 4 ≤ i) (h2 : i < 11) (x : D) : setSl i (.fz x) e = some (e.set i (.fz x)) := by
  rw [setSl_fz]
  have hl : i < e.length := by rw [v.len]; exact h2
  have h := List.getElem?_eq_getElem hl
  rw [h]
  have := v.fr i _ hi h
  cases hs : e[i] with
  | un => rfl
  | fz d => rfl
  | ow io d => cases io with
    | true => exact absurd hs (this d)
    | false => rfl
theorem get_self (hl : i < e.length) {s : Sl} : (e.set i s)[i]? = some s := List.getElem?_set_self hl
theorem e_draw {f : FE} {m : Int} (h0 : e[0]? = some (.ow true d)) (hp : Pot d) (hm : 0 < m) (hm2 : m < 1073741824) (hf : f e = some (.fz (.int m), e)) :
    ∃ r d', (callF [true, false] M__law_draw (argC (varF 0) (argC f argN))) e = some (.fz (.int r), e.set 0 (.ow true d')) ∧ 0 ≤ r ∧ r < m ∧ Pot d' := by
  obtain ⟨r, d', h, a, b, hp'⟩ := r_draw hp hm hm2
  refine ⟨r, d', ?_, a, b, hp'⟩
  simp only [callF_ap, argC_ap, argN_ap, varF_ap, h0, Option.bind_some, Option.map_some, hf, st_bo, st_fz, preA_io, preA_no, preA_nil, fzn_fz, ixs_l, ixs_r, ixs_nil, List.nodup_cons, List.not_mem_nil, not_false_eq_true, List.nodup_nil, and_self, if_true, mkE_r, mkE_l, mkE_nil, h, bak_l, bak_r, bak_nil]
theorem e_sign (h0 : e[0]? = some (.ow true d)) (hp : Pot d) : ∃ c d', (callF [true] M__law_sign (argC (varF 0) argN)) e = some (.fz (.str (S [c])), e.set 0 (.ow true d')) ∧ Pr c ∧ Pot d' := by
  obtain ⟨c, d', h, a, hp'⟩ := r_sign hp
  refine ⟨c, d', ?_, a, hp'⟩
  simp only [callF_ap, argC_ap, argN_ap, varF_ap, h0, Option.bind_some, Option.map_some, st_bo, preA_io, preA_nil, ixs_r, ixs_nil, List.nodup_cons, List.not_mem_nil, not_false_eq_true, List.nodup_nil, and_self, if_true, mkE_r, mkE_nil, h, bak_r, bak_nil]
/-- x[:at] + sign + x[at+1:] -/
theorem spoil {j : Nat} (v : V t bd sl e) (hj : 0 < j) (hx : e[j]? = some (.fz (.str (S l)))) {k : Nat} (h9 : e[9]? = some (.fz (.int (k : Nat)))) (hl : l.length ≤ 500) :
    ∃ c d', (binF addD (binF addD (slF cutD (varF j) none (some (varF 9))) (callF [true] M__law_sign (argC (varF 0) argN))) (slF cutD (varF j) (some (binF addD (varF 9) (conF (.int 1)))) none)) e = some (.fz (.str (S (l.take k ++ [c] ++ l.drop (k + 1)))), e.set 0 (.ow true d')) ∧ Pr c ∧ Pot d' := by
  obtain ⟨d, hp, h0⟩ := v.pot
  obtain ⟨c, d', hs, hc, hp'⟩ := e_sign h0 hp
  refine ⟨c, d', ?_, hc, hp'⟩
  have hx' : (e.set 0 (.ow true d'))[j]? = some (.fz (.str (S l))) := by rw [List.getElem?_set_ne (by omega)]; exact hx
  have h9' : (e.set 0 (.ow true d'))[9]? = some (.fz (.int (k : Nat))) := by rw [List.getElem?_set_ne (by omega)]; exact h9
  have t1 : cutS (S l) none (some ((k : Nat) : Int)) = S (l.take k) := by rw [cutS_S, cutL_to]
  have t2 : cutS (S l) (some (((k : Nat) : Int) + 1)) none = S (l.drop (k + 1)) := by rw [cutS_S]; exact congrArg S (cutL_from l (k + 1))
  have a1 := add_S (l.take k) [c] (by rw [List.length_take]; simp; omega)
  have a2 := add_S (l.take k ++ [c]) (l.drop (k + 1)) (by rw [List.length_append, List.length_take, List.length_drop]; simp; omega)
  simp only [binF_ap, slF_ap, varF_ap, hx, h9, Option.bind_some, prtF_none, prtF_some, rd_fz, cut_s, t1, Option.map_some, hs, a1, hx', h9', conF_ap, add_ii, t2, a2]
theorem set_eq (k c : Nat) (h : k < l.length) : l.take k ++ [c] ++ l.drop (k + 1) = l.set k c := by
  rw [List.set_eq_take_append_cons_drop, if_pos h, List.append_assoc]
  rfl
noncomputable def bodyS : FS := seqF (setF 9 (callF [true, false] M__law_draw (argC (varF 0) (argC (cbF lenG (argC (varF 5) argN)) argN))))
  (setF 5 (binF addD (binF addD (slF cutD (varF 5) none (some (varF 9))) (callF [true] M__law_sign (argC (varF 0) argN))) (slF cutD (varF 5) (some (binF addD (varF 9) (conF (.int 1)))) none)))
theorem step_spoil (v : V t bd sl e) (h5 : e[5]? = some (.fz (.str (S l)))) (h0 : 0 < l.length) (hl : l.length ≤ 500) : ∃ k c e', k < l.length ∧ Pr c ∧ bodyS e = some (.nx e') ∧ V t bd sl e' ∧ e'[5]? = some (.fz (.str (S (l.set k c)))) := by
  obtain ⟨d, hp, hpot⟩ := v.pot
  have hf : (cbF lenG (argC (varF 5) argN)) e = some (.fz (.int (l.length : Nat)), e) := by
    simp only [cbF_ap, argC_ap, argN_ap, varF_ap, h5, Option.bind_some, Option.map_some, st_fz, rdAll_cons, rdAll_nil, rd_fz, len_s, S_len]
  obtain ⟨r, d1, h1, r0, r1, hp1⟩ := e_draw hpot hp (m := (l.length : Nat)) (by omega) (by omega) hf
  have v1 := v.draw hp1
  have w1 := v1.put (i := 9) (by decide) (by decide) (.int r)
  have v2 := v1.set (i := 9) (by decide) (.int r)
  obtain ⟨k, rfl⟩ : ∃ k : Nat, r = (k : Int) := ⟨r.toNat, by omega⟩
  have g9 : ((e.set 0 (.ow true d1)).set 9 (.fz (.int (k : Nat))))[9]? = some (.fz (.int (k : Nat))) := get_self (by rw [List.length_set, v.len]; decide)
  have g5 : ((e.set 0 (.ow true d1)).set 9 (.fz (.int (k : Nat))))[5]? = some (.fz (.str (S l))) := by rw [List.getElem?_set_ne (by omega), List.getElem?_set_ne (by omega)]; exact h5
  obtain ⟨c, d2, h2, hc, hp2⟩ := spoil v2 (j := 5) (by decide) g5 g9 hl
  rw [set_eq k c (by omega)] at h2
  have v3 := v2.draw hp2
  have w3 := v3.put (i := 5) (by decide) (by decide) (.str (S (l.set k c)))
  refine ⟨k, c, _, by omega, hc, ?_, v3.set (i := 5) (by decide) _, get_self (by rw [List.length_set, List.length_set, List.length_set, v.len]; decide)⟩
  unfold bodyS
  rw [seqF_ap, setF_ap, h1, Option.bind_some]
  dsimp only
  rw [w1]
  show (setF 5 _ _) = _
  rw [setF_ap, h2, Option.bind_some]
  dsimp only
  rw [w3]
  rfl
end
end K26
end K26i__
section K26j__
set_option Elab.async false
set_option linter.all false
set_option autoImplicit false
set_option maxRecDepth 100000
set_option maxHeartbeats 400000
namespace K26
open PySem L2 PySem.Spec PyProof.Rows Sh SX

section
variable {a b v : Nat} {n1 n2 : List Nat}
theorem num_pr (n : Nat) : ∀ c ∈ TL.numL n, Pr c := fun c hc => by have := TL.numL_digits n c hc; unfold Pr; omega
theorem chk_pr (l : List Nat) (hl : X1 l < 1000 ∧ X2 l < 1000) : ∀ c ∈ chk l, Pr c := by
  intro c hc
  rw [chk_eq] at hc
  unfold pad3 at hc
  simp only [List.mem_append, List.mem_cons, List.not_mem_nil, or_false] at hc
  unfold Pr
  omega
theorem x_lt (l : List Nat) : X1 l < 1000 ∧ X2 l < 1000 := by unfold X1 X2; omega
theorem verb_pr : ∀ v, ∀ c ∈ verb v, Pr c := by
  intro v
  rcases v with _ | _ | v
  · unfold Pr; decide
  · unfold Pr; decide
  · show ∀ c ∈ [98, 101, 97, 116, 115], Pr c
    unfold Pr; decide
theorem body_pr (ok : okSlip n1 n2 = true) : ∀ c ∈ bodyL a n1 n2 v b, Pr c := by
  obtain ⟨k1, k2, _⟩ := okSlip_iff.mp ok
  intro c hc
  unfold bodyL at hc
  rw [joinL_five] at hc
  simp only [List.mem_append, List.mem_cons, List.not_mem_nil, or_false] at hc
  rcases hc with h | h | h | h | h | h | h | h | h
  · exact num_pr _ c h
  · subst h; unfold Pr; omega
  · have := name_mem k1 c h; unfold Pr; omega
  · subst h; unfold Pr; omega
  · exact verb_pr _ c h
  · subst h; unfold Pr; omega
  · have := name_mem k2 c h; unfold Pr; omega
  · subst h; unfold Pr; omega
  · exact num_pr _ c h
theorem text_pr (ok : okSlip n1 n2 = true) : ∀ c ∈ textL a n1 n2 v b, Pr c := by
  intro c hc
  unfold textL at hc
  rcases List.mem_append.mp hc with h | h
  · rcases List.mem_append.mp h with h | h
    · exact body_pr ok c h
    · simp at h; subst h; unfold Pr; omega
  · exact chk_pr _ (x_lt _) c h
theorem body_len2 (ha : a ≤ 99) (hb : b ≤ 99) (ok : okSlip n1 n2 = true) : (bodyL a n1 n2 v b).length ≤ 40 := by
  have l1 := numL_len2 ha
  have l2 := numL_len2 hb
  have l3 := verb_len (v := v)
  obtain ⟨l4, l5⟩ := okSlip_len ok
  unfold bodyL
  rw [joinL_five]
  simp only [List.length_append, List.length_cons, List.length_nil]
  omega
theorem text_len (ha : a ≤ 99) (hb : b ≤ 99) (ok : okSlip n1 n2 = true) : (textL a n1 n2 v b).length ≤ 47 ∧ 7 ≤ (textL a n1 n2 v b).length := by
  have := body_len2 (v := v) ha hb ok
  unfold textL
  rw [List.length_append, List.length_append, chk_len]
  show _ + 1 + 6 ≤ _ ∧ _ ≤ _ + 1 + 6
  omega
/-- two changed signs are never read as a slip, but where they change nothing -/
theorem spoilt_none (ha : a ≤ 99) (hb : b ≤ 99) (hv : v < 3) (ok : okSlip n1 n2 = true) {i j c d : Nat} (hc : Pr c) (hd : Pr d) (hne : ((textL a n1 n2 v b).set i c).set j d ≠ textL a n1 n2 v b) :
    M_slip_in [.fz (.str (S (((textL a n1 n2 v b).set i c).set j d)))] = some (.fz .none, [.un]) := by
  have hl := (text_len (v := v) ha hb ok).1
  have hA : ∀ x ∈ ((textL a n1 n2 v b).set i c).set j d, x < 128 := fun x hx => by
    unfold Pr at hc hd
    rcases List.mem_or_eq_of_mem_set hx with h | h
    · rcases List.mem_or_eq_of_mem_set h with h | h
      · have := text_pr ok x h; unfold Pr at this; omega
      · omega
    · omega
  obtain ⟨D, h1, _, h3⟩ := agree (by rw [List.length_set, List.length_set]; omega) hA
  rcases h3 with rfl | ⟨a', m1, m2, v', b', ha', hb', hv', ok', rfl, ht⟩
  · exact h1
  · exfalso
    refine hne ?_
    rw [ht]
    exact two_signs (B := bodyL a n1 n2 v b) (B' := bodyL a' m1 m2 v' b') (i := i) (j := j) (c := c) (d := d) (by have := body_len2 (v := v) ha hb ok; omega) (body_pr ok) hc hd ht.symm
noncomputable def testB : FS := ifS (andT (tstF (binF neD (varF 5) (varF 3))) (tstF (binF isntD (callF [false] M_slip_of_text (argC (varF 5) argN)) (conF .none)))) (retF (conF (.bool false))) nopF
theorem testB_ok (ha : a ≤ 99) (hb : b ≤ 99) (hv : v < 3) (ok : okSlip n1 n2 = true) {i j c d : Nat} (hc : Pr c) (hd : Pr d) {e : En} (h3 : e[3]? = some (.fz (.str (S (textL a n1 n2 v b))))) (h5 : e[5]? = some (.fz (.str (S (((textL a n1 n2 v b).set i c).set j d))))) :
    testB e = some (.nx e) := by
  unfold testB
  by_cases hq : ((textL a n1 n2 v b).set i c).set j d = textL a n1 n2 v b
  · have e1 : (S (((textL a n1 n2 v b).set i c).set j d) == S (textL a n1 n2 v b)) = true := by rw [S_beq_eq]; exact decide_eq_true hq
    simp only [ifS_ap, andT_ap, tstF_ap, binF_ap, varF_ap, h3, h5, Option.bind_some, rd_fz, neD_ap, eqB_ss, e1, Option.map_some, Bool.not_true, Bool.false_eq_true, if_false, nopF_ap]
  · have e1 : (S (((textL a n1 n2 v b).set i c).set j d) == S (textL a n1 n2 v b)) = false := by rw [S_beq_eq]; exact decide_eq_false hq
    have c1 := call1 (var_fz h5) (r_slip_of_text (r := none) (spoilt_none ha hb hv ok hc hd hq))
    have nn : isNon .none = true := rfl
    simp only [ifS_ap, andT_ap, tstF_ap, binF_ap, varF_ap, h3, h5, Option.bind_some, rd_fz, neD_ap, eqB_ss, e1, Option.map_some, Bool.not_false, if_true, c1, conF_ap, isntD_ap, isB_none, nn, Bool.not_true, Bool.false_eq_true, if_false, nopF_ap]
noncomputable def loopB : FS := (seqF (setF 5 (varF 3)) (seqF (forS (ibF rg1 (argC (binF addD (conF (.int 1)) (callF [true, false] M__law_draw (argC (varF 0) (argC (conF (.int 2)) argN)))) argN)) (gnF 8) bodyS) testB))
theorem turnB (ha : a ≤ 99) (hb : b ≤ 99) (hv : v < 3) (ok : okSlip n1 n2 = true) {e : En} {bd : List Nat} {sl : D} (w : V (textL a n1 n2 v b) bd sl e) : ∃ e', loopB e = some (.nx e') ∧ V (textL a n1 n2 v b) bd sl e' := by
  have hl := text_len (v := v) ha hb ok
  have p1 := w.put (i := 5) (by decide) (by decide) (.str (S (textL a n1 n2 v b)))
  have w1 := w.set (i := 5) (by decide) (.str (S (textL a n1 n2 v b)))
  have g5 : (e.set 5 (.fz (.str (S (textL a n1 n2 v b)))))[5]? = some (.fz (.str (S (textL a n1 n2 v b)))) := get_self (by rw [w.len]; decide)
  obtain ⟨d, hp, hpot⟩ := w1.pot
  obtain ⟨r, d1, h1, r0, r1, hp1⟩ := e_draw (f := conF (.int 2)) hpot hp (m := 2) (by decide) (by decide) rfl
  have w2 := w1.draw hp1
  have g5' : ((e.set 5 (.fz (.str (S (textL a n1 n2 v b))))).set 0 (.ow true d1))[5]? = some (.fz (.str (S (textL a n1 n2 v b)))) := by rw [List.getElem?_set_ne (by omega)]; exact g5
  have s1 : (setF 5 (varF 3)) e = some (.nx (e.set 5 (.fz (.str (S (textL a n1 n2 v b)))))) := by
    rw [setF_ap, var_fz w.s3, Option.bind_some]
    dsimp only
    rw [p1]
    rfl
  -- the walked turns
  have it : ∀ n : Nat, (n : Int) = 1 + r → (ibF rg1 (argC (binF addD (conF (.int 1)) (callF [true, false] M__law_draw (argC (varF 0) (argC (conF (.int 2)) argN)))) argN)) (e.set 5 (.fz (.str (S (textL a n1 n2 v b))))) = some ((List.range n).map (fun i => .int ((i : Nat) : Int)), (e.set 5 (.fz (.str (S (textL a n1 n2 v b))))).set 0 (.ow true d1)) := by
    intro n hn
    have hg := rg1_nat (n := n) (by omega)
    rw [ibF_ap, argC_ap, binF_ap, conF_ap, Option.bind_some, h1]
    simp only [Option.bind_some, rd_fz, add_ii, Option.map_some, st_fz, argN_ap, rdAll_cons, rdAll_nil, ← hn, hg]
  generalize hE : (e.set 5 (.fz (.str (S (textL a n1 n2 v b))))).set 0 (.ow true d1) = e2 at *
  -- the first spoiling
  have q1 := w2.put (i := 8) (by decide) (by decide) (.int 0)
  have w3 := w2.set (i := 8) (by decide) (.int 0)
  have g5'' : (e2.set 8 (.fz (.int 0)))[5]? = some (.fz (.str (S (textL a n1 n2 v b)))) := by rw [List.getElem?_set_ne (by omega)]; exact g5'
  obtain ⟨k, c, e3, hk, hc, b1, w4, g6⟩ := step_spoil w3 g5'' (by omega) (by omega)
  have fin : ∀ {e' : En} {i j c d : Nat}, Pr c → Pr d → V (textL a n1 n2 v b) bd sl e' → e'[5]? = some (.fz (.str (S (((textL a n1 n2 v b).set i c).set j d)))) →
      (forS (ibF rg1 (argC (binF addD (conF (.int 1)) (callF [true, false] M__law_draw (argC (varF 0) (argC (conF (.int 2)) argN)))) argN)) (gnF 8) bodyS) (e.set 5 (.fz (.str (S (textL a n1 n2 v b))))) = some (.nx e') → ∃ e', loopB e = some (.nx e') ∧ V (textL a n1 n2 v b) bd sl e' := by
    intro e' i j c d hc hd w' g h
    refine ⟨e', ?_, w'⟩
    unfold loopB
    rw [seqF_ap, s1, Option.bind_some]
    dsimp only
    rw [seqF_ap, h, Option.bind_some]
    exact testB_ok ha hb hv ok hc hd w'.s3 g
  by_cases hr : r = 0
  · refine fin (i := k) (j := k) hc hc w4 (by rw [List.set_set]; exact g6) ?_
    rw [forS_ap, it 1 (by omega), Option.bind_some]
    show forL (gnF 8) bodyS [.int 0] e2 = _
    show (setSl 8 (.fz (.int 0)) e2).bind _ = _
    rw [q1, Option.bind_some, b1]
    rfl
  · have q2 := w4.put (i := 8) (by decide) (by decide) (.int 1)
    have w5 := w4.set (i := 8) (by decide) (.int 1)
    have g7 : (e3.set 8 (.fz (.int 1)))[5]? = some (.fz (.str (S ((textL a n1 n2 v b).set k c)))) := by rw [List.getElem?_set_ne (by omega)]; exact g6
    obtain ⟨k2, c2, e4, hk2, hc2, b2, w6, g8⟩ := step_spoil w5 g7 (by rw [List.length_set]; omega) (by rw [List.length_set]; omega)
    refine fin (i := k) (j := k2) hc hc2 w6 g8 ?_
    rw [forS_ap, it 2 (by omega), Option.bind_some]
    show (setSl 8 (.fz (.int 0)) e2).bind _ = _
    rw [q1, Option.bind_some, b1, Option.bind_some]
    show (setSl 8 (.fz (.int 1)) e3).bind _ = _
    rw [q2, Option.bind_some, b2]
    rfl
end
end K26
end K26j__
section K26k__
set_option Elab.async false
set_option linter.all false
set_option autoImplicit false
set_option maxRecDepth 100000
set_option maxHeartbeats 400000
namespace K26
open PySem L2 PySem.Spec PyProof.Rows Sh SX

section
variable {t bd l : List Nat} {sl : D} {e : En}
noncomputable def testT : FS := (ifS (tstF (binF neD (cbF reprG (argC (callF [false] M_slip_of_text (argC (varF 5) argN)) argN)) (cbF reprG (argC (callF [false] M__law_read (argC (varF 5) argN)) argN)))) (retF (conF (.bool false))) nopF)
def Ok (l : List Nat) : Prop := l.length ≤ 300 ∧ ∀ c ∈ l, c < 128
theorem loopT {ds : List D} (h : ∀ d ∈ ds, ∃ l, d = .str (S l) ∧ Ok l) (v : V t bd sl e) : ∃ e', forL (gnF 5) testT ds e = some (.nx e') ∧ V t bd sl e' := by
  refine forL_inv (I := V t bd sl) v fun d hd e w => ?_
  obtain ⟨l, rfl, hl, hA⟩ := h d hd
  refine ⟨e.set 5 (.fz (.str (S l))), e.set 5 (.fz (.str (S l))), w.put (by decide) (by decide) _, .inl ?_, w.set (by decide) _⟩
  exact test_ok (get_self (by rw [w.len]; decide)) hl hA
theorem it_list {f : FE} {e' : En} {ds : List D} (h : f e = some (.fr (.list ds), e')) : (itF isQ f) e = some (ds, e') := by
  rw [itF_ap, h]
  rfl
theorem Ok.app {x y : List Nat} (h : x.length + y.length ≤ 300) (hx : ∀ c ∈ x, c < 128) (hy : ∀ c ∈ y, c < 128) : Ok (x ++ y) := ⟨by rw [List.length_append]; exact h, fun c hc => (List.mem_append.mp hc).elim (hx c) (hy c)⟩
theorem pr_128 {x : List Nat} (h : ∀ c ∈ x, Pr c) : ∀ c ∈ x, c < 128 := fun c hc => by have := h c hc; unfold Pr at this; omega
theorem sub_take {x : List Nat} {P : Nat → Prop} (h : ∀ c ∈ x, P c) (k : Nat) : ∀ c ∈ x.take k, P c := fun c hc => h c (List.mem_of_mem_take hc)
theorem sub_drop {x : List Nat} {P : Nat → Prop} (h : ∀ c ∈ x, P c) (k : Nat) : ∀ c ∈ x.drop k, P c := fun c hc => h c (List.mem_of_mem_drop hc)
theorem sub_app {x y : List Nat} {P : Nat → Prop} (hx : ∀ c ∈ x, P c) (hy : ∀ c ∈ y, P c) : ∀ c ∈ x ++ y, P c := fun c hc => (List.mem_append.mp hc).elim (hx c) (hy c)
theorem sub_one {x : Nat} {P : Nat → Prop} (h : P x) : ∀ c ∈ [x], P c := fun c hc => by rw [List.mem_singleton] at hc; rw [hc]; exact h
noncomputable def listC : FE := (lstF (argC (binF addD (slF cutD (varF 3) none (some (varF 9))) (slF cutD (varF 3) (some (binF addD (varF 9) (conF (.int 1)))) none)) (argC (binF addD (binF addD (slF cutD (varF 3) none (some (varF 9))) (callF [true] M__law_sign (argC (varF 0) argN))) (slF cutD (varF 3) (some (varF 9)) none)) (argC (binF addD (binF addD (slF cutD (varF 3) none (some (varF 9))) (unF revD2 (slF cutD (varF 3) (some (varF 9)) (some (binF addD (varF 9) (conF (.int 2))))))) (slF cutD (varF 3) (some (binF addD (varF 9) (conF (.int 2)))) none)) (argC (binF addD (binF addD (varF 10) (conF (.str " "))) (callF [false] M__law_check (argC (varF 10) argN))) argN)))))
noncomputable def loopC2 : FS := (seqF (setF 9 (callF [true, false] M__law_draw (argC (varF 0) (argC (cbF lenG (argC (varF 3) argN)) argN))))
  (seqF (setF 10 (binF addD (binF addD (slF cutD (varF 2) none (some (varF 9))) (callF [true] M__law_sign (argC (varF 0) argN))) (slF cutD (varF 2) (some (binF addD (varF 9) (conF (.int 1)))) none)))
  (forS (itF isQ listC) (gnF 5) testT)))
theorem turnC (v : V t bd sl e) (ht : t.length ≤ 47) (h0 : 0 < t.length) (hb : bd.length ≤ 40) (pt : ∀ c ∈ t, Pr c) (pb : ∀ c ∈ bd, Pr c) : ∃ e', loopC2 e = some (.nx e') ∧ V t bd sl e' := by
  obtain ⟨d, hp, hpot⟩ := v.pot
  have hf : (cbF lenG (argC (varF 3) argN)) e = some (.fz (.int (t.length : Nat)), e) := by
    simp only [cbF_ap, argC_ap, argN_ap, varF_ap, v.s3, Option.bind_some, Option.map_some, st_fz, rdAll_cons, rdAll_nil, rd_fz, len_s, S_len]
  obtain ⟨r, d1, h1, r0, r1, hp1⟩ := e_draw hpot hp (m := (t.length : Nat)) (by omega) (by omega) hf
  obtain ⟨k, rfl⟩ : ∃ k : Nat, r = (k : Int) := ⟨r.toNat, by omega⟩
  have v1 := v.draw hp1
  have w1 := v1.put (i := 9) (by decide) (by decide) (.int (k : Nat))
  have v2 := v1.set (i := 9) (by decide) (.int (k : Nat))
  have g9 : ((e.set 0 (.ow true d1)).set 9 (.fz (.int (k : Nat))))[9]? = some (.fz (.int (k : Nat))) := get_self (by rw [List.length_set, v.len]; decide)
  generalize (e.set 0 (.ow true d1)).set 9 (.fz (.int (k : Nat))) = e1 at *
  obtain ⟨c, d2, h2, hc, hp2⟩ := spoil v2 (j := 2) (by decide) v2.s2 g9 (by omega)
  obtain ⟨o, ho⟩ : ∃ o, o = bd.take k ++ [c] ++ bd.drop (k + 1) := ⟨_, rfl⟩
  rw [← ho] at h2
  have lo : o.length ≤ 41 := by rw [ho, List.length_append, List.length_append, List.length_take, List.length_drop]; show _ + 1 + _ ≤ _; omega
  have po : ∀ x ∈ o, Pr x := by rw [ho]; exact sub_app (sub_app (sub_take pb k) (sub_one hc)) (sub_drop pb _)
  have v3 := v2.draw hp2
  have w3 := v3.put (i := 10) (by decide) (by decide) (.str (S o))
  have v4 := v3.set (i := 10) (by decide) (.str (S o))
  have g10 : ((e1.set 0 (.ow true d2)).set 10 (.fz (.str (S o))))[10]? = some (.fz (.str (S o))) := get_self (by rw [List.length_set, v2.len]; decide)
  have g9' : ((e1.set 0 (.ow true d2)).set 10 (.fz (.str (S o))))[9]? = some (.fz (.int (k : Nat))) := by rw [List.getElem?_set_ne (by omega), List.getElem?_set_ne (by omega)]; exact g9
  have st2 : (setF 10 (binF addD (binF addD (slF cutD (varF 2) none (some (varF 9))) (callF [true] M__law_sign (argC (varF 0) argN))) (slF cutD (varF 2) (some (binF addD (varF 9) (conF (.int 1)))) none))) e1 = some (.nx ((e1.set 0 (.ow true d2)).set 10 (.fz (.str (S o))))) := by
    rw [setF_ap, h2, Option.bind_some]
    dsimp only
    rw [w3]
    rfl
  have st1 : (setF 9 (callF [true, false] M__law_draw (argC (varF 0) (argC (cbF lenG (argC (varF 3) argN)) argN)))) e = some (.nx e1) := by
    rw [setF_ap, h1, Option.bind_some]
    dsimp only
    rw [w1]
    rfl
  generalize (e1.set 0 (.ow true d2)).set 10 (.fz (.str (S o))) = e2 at *
  obtain ⟨d3, hp3, hpot3⟩ := v4.pot
  obtain ⟨c', d4, h3, hc', hp4⟩ := e_sign hpot3 hp3
  have v5 := v4.draw hp4
  have k9 : (e2.set 0 (.ow true d4))[9]? = some (.fz (.int (k : Nat))) := by rw [List.getElem?_set_ne (by omega)]; exact g9'
  have k10 : (e2.set 0 (.ow true d4))[10]? = some (.fz (.str (S o))) := by rw [List.getElem?_set_ne (by omega)]; exact g10
  have k3 := v5.s3
  have t3 := v4.s3
  generalize e2.set 0 (.ow true d4) = e3 at *
  have c1 : cutS (S t) none (some ((k : Nat) : Int)) = S (t.take k) := by rw [cutS_S, cutL_to]
  have c2 : cutS (S t) (some (((k : Nat) : Int) + 1)) none = S (t.drop (k + 1)) := by rw [cutS_S]; exact congrArg S (cutL_from t (k + 1))
  have c3 : cutS (S t) (some ((k : Nat) : Int)) none = S (t.drop k) := by rw [cutS_S]; exact congrArg S (cutL_from t k)
  have c4 : cutS (S t) (some (((k : Nat) : Int) + 2)) none = S (t.drop (k + 2)) := by rw [cutS_S]; exact congrArg S (cutL_from t (k + 2))
  have c5 : cutS (S t) (some ((k : Nat) : Int)) (some (((k : Nat) : Int) + 2)) = S ((t.drop k).take (k + 2 - k)) := by rw [cutS_S]; exact congrArg S (cutL_mid t k (k + 2))
  have lt : (t.take k).length ≤ 47 := by rw [List.length_take]; omega
  have ld : ∀ j, (t.drop j).length ≤ 47 := fun j => by rw [List.length_drop]; omega
  have lm : ((t.drop k).take (k + 2 - k)).reverse.length ≤ 47 := by rw [List.length_reverse, List.length_take, List.length_drop]; omega
  have l1 := ld (k + 1)
  have l2 := ld k
  have l3 := ld (k + 2)
  have a1 := add_S (t.take k) (t.drop (k + 1)) (by omega)
  have a2 := add_S (t.take k) [c'] (by show _ + 1 ≤ _; omega)
  have a3 := add_S (t.take k ++ [c']) (t.drop k) (by rw [List.length_append]; show _ + 1 + _ ≤ _; omega)
  have a4 := add_S (t.take k) ((t.drop k).take (k + 2 - k)).reverse (by omega)
  have a5 := add_S (t.take k ++ ((t.drop k).take (k + 2 - k)).reverse) (t.drop (k + 2)) (by rw [List.length_append]; omega)
  have a6 := add_S o [32] (by show _ + 1 ≤ _; omega)
  have a7 := add_S (o ++ [32]) (chk o) (by rw [List.length_append, chk_len]; show _ + 1 + 6 ≤ _; omega)
  have rv : revD2 (.str (S ((t.drop k).take (k + 2 - k)))) = some (.fz (.str (S ((t.drop k).take (k + 2 - k)).reverse))) := by rw [rev_s]
  have hck := call1 (e := e3) (var_fz k10) (r__law_check o (by omega))
  have hz : ([PyData.str (S (t.take k ++ t.drop (k + 1))), .str (S (t.take k ++ [c'] ++ t.drop k)), .str (S (t.take k ++ ((t.drop k).take (k + 2 - k)).reverse ++ t.drop (k + 2))), .str (S (o ++ [32] ++ chk o))] : List D).length ≤ sizeLine := by rw [sz16]; show 4 ≤ 16777216; decide
  have hl : listC e2 = some (.fr (.list [.str (S (t.take k ++ t.drop (k + 1))), .str (S (t.take k ++ [c'] ++ t.drop k)), .str (S (t.take k ++ ((t.drop k).take (k + 2 - k)).reverse ++ t.drop (k + 2))), .str (S (o ++ [32] ++ chk o))]), e3) := by
    unfold listC
    simp only [lstF_ap, argC_ap, argN_ap, binF_ap, slF_ap, varF_ap, t3, g9', Option.bind_some, prtF_none, prtF_some, rd_fz, cut_s, c1, Option.map_some, conF_ap, add_ii, c2, a1, h3, a2, k3, k9, c3, a3, unF_ap, c5, rv, a4, c4, a5, k10, lit_sp, a6, hck, a7, st_fz, fzAll_cons, fzAll_nil, fzn_fz, hz, if_true]
  have pt8 := pr_128 pt
  have po8 := pr_128 po
  have cc : ∀ x ∈ [c'], x < 128 := sub_one (by unfold Pr at hc'; omega)
  obtain ⟨e4, hlp, v6⟩ := loopT (ds := [.str (S (t.take k ++ t.drop (k + 1))), .str (S (t.take k ++ [c'] ++ t.drop k)), .str (S (t.take k ++ ((t.drop k).take (k + 2 - k)).reverse ++ t.drop (k + 2))), .str (S (o ++ [32] ++ chk o))]) (by
    intro q hq
    simp only [List.mem_cons, List.not_mem_nil, or_false] at hq
    rcases hq with rfl | rfl | rfl | rfl
    · exact ⟨_, rfl, Ok.app (by omega) (sub_take pt8 k) (sub_drop pt8 _)⟩
    · exact ⟨_, rfl, Ok.app (by rw [List.length_append]; show _ + 1 + _ ≤ _; omega) (sub_app (sub_take pt8 k) cc) (sub_drop pt8 _)⟩
    · exact ⟨_, rfl, Ok.app (by rw [List.length_append]; omega) (sub_app (sub_take pt8 k) (fun x hx => sub_take (sub_drop pt8 k) (k + 2 - k) x (List.mem_reverse.mp hx))) (sub_drop pt8 _)⟩
    · exact ⟨_, rfl, Ok.app (by rw [List.length_append, chk_len]; show _ + 1 + 6 ≤ _; omega) (sub_app po8 (sub_one (by decide))) (pr_128 (chk_pr o (x_lt o)))⟩) v5
  refine ⟨e4, ?_, v6⟩
  unfold loopC2
  rw [seqF_ap, st1, Option.bind_some]
  dsimp only
  rw [seqF_ap, st2, Option.bind_some]
  dsimp only
  rw [forS_ap, it_list hl, Option.bind_some]
  exact hlp
end
end K26
end K26k__
section K26l__
set_option Elab.async false
set_option linter.all false
set_option autoImplicit false
set_option maxRecDepth 100000
set_option maxHeartbeats 400000
namespace K26
open PySem L2 PySem.Spec PyProof.Rows Sh SX

section
variable {t bd l : List Nat} {sl : D} {e : En}
noncomputable def listD : FE := (lstF (argC (binF addD (varF 3) (conF (.str " "))) (argC (binF addD (conF (.str " ")) (varF 3)) (argC (binF addD (varF 3) (conF (.str "0"))) (argC (slF cutD (varF 3) none (some (unF negD (conF (.int 1))))) (argC (varF 2) (argC (binF addD (conF (.str "0")) (varF 3)) (argC (mbF "str" upperM (varF 3) argN) (argC (conF (.str "")) (argC (conF (.str " ")) (argC (binF addD (varF 3) (conF (.str "\n"))) argN)))))))))))
theorem up_lt {c : Nat} (h : c < 128) : up1 c < 128 := by unfold up1; split <;> omega
theorem upper_t (ht : t.length ≤ 100) (h8 : ∀ c ∈ t, c < 128) : upperM (.str (S t)) [] = some (.fz (.str (S (t.map up1)))) := by
  have e1 : Txt.upper (S t) = S (t.map up1) := upper_S (List.all_eq_true.mpr fun c hc => decide_eq_true (h8 c hc))
  show (if (S t).length ≤ 5592405 ∧ (Txt.upper (S t)).length ≤ sizeLine then some (Va.fz (.str (Txt.upper (S t)))) else none) = _
  rw [e1, if_pos ⟨by rw [S_len]; omega, by rw [S_len, List.length_map, sz16]; omega⟩]
theorem lit_nl : Str.ofString "\n" = S [10] := rfl
theorem listD_ok (v : V t bd sl e) (ht : t.length ≤ 47) (hb : bd.length ≤ 40) (pt : ∀ c ∈ t, c < 128) (pb : ∀ c ∈ bd, c < 128) : ∃ ds, listD e = some (.fr (.list ds), e) ∧ ∀ d ∈ ds, ∃ l, d = .str (S l) ∧ Ok l := by
  have a1 := add_S t [32] (by show _ + 1 ≤ _; omega)
  have a2 := add_S [32] t (by show 1 + _ ≤ _; omega)
  have a3 := add_S t [48] (by show _ + 1 ≤ _; omega)
  have a4 := add_S [48] t (by show 1 + _ ≤ _; omega)
  have a5 := add_S t [10] (by show _ + 1 ≤ _; omega)
  have c1 : cutS (S t) none (some (-1)) = S (t.take (t.length - 1)) := by rw [cutS_S]; exact congrArg S (cutL_but t 1 (by decide))
  have u := upper_t (by omega) pt
  have hz : ([PyData.str (S (t ++ [32])), .str (S ([32] ++ t)), .str (S (t ++ [48])), .str (S (t.take (t.length - 1))), .str (S bd), .str (S ([48] ++ t)), .str (S (t.map up1)), .str (S []), .str (S [32]), .str (S (t ++ [10]))] : List D).length ≤ sizeLine := by rw [sz16]; show 10 ≤ 16777216; decide
  refine ⟨[.str (S (t ++ [32])), .str (S ([32] ++ t)), .str (S (t ++ [48])), .str (S (t.take (t.length - 1))), .str (S bd), .str (S ([48] ++ t)), .str (S (t.map up1)), .str (S []), .str (S [32]), .str (S (t ++ [10]))], ?_, ?_⟩
  · unfold listD
    simp only [lstF_ap, argC_ap, argN_ap, binF_ap, slF_ap, varF_ap, v.s2, v.s3, Option.bind_some, prtF_none, prtF_some, rd_fz, cut_s, Option.map_some, conF_ap, unF_ap, neg_i, mbF_ap, tyD, beq_self_eq_true, if_true, rdAll_nil, lit_sp, lit_zero, lit_none, lit_nl, a1, a2, a3, a4, a5, c1, u, st_fz, fzAll_cons, fzAll_nil, fzn_fz, hz]
  · have one : ∀ x : Nat, x < 128 → ∀ c ∈ [x], c < 128 := fun x hx => sub_one hx
    intro q hq
    simp only [List.mem_cons, List.not_mem_nil, or_false] at hq
    rcases hq with rfl | rfl | rfl | rfl | rfl | rfl | rfl | rfl | rfl | rfl
    · exact ⟨_, rfl, Ok.app (by show _ + 1 ≤ _; omega) pt (one 32 (by decide))⟩
    · exact ⟨_, rfl, Ok.app (by show 1 + _ ≤ _; omega) (one 32 (by decide)) pt⟩
    · exact ⟨_, rfl, Ok.app (by show _ + 1 ≤ _; omega) pt (one 48 (by decide))⟩
    · exact ⟨_, rfl, by rw [List.length_take]; omega, sub_take pt _⟩
    · exact ⟨_, rfl, by omega, pb⟩
    · exact ⟨_, rfl, Ok.app (by show 1 + _ ≤ _; omega) (one 48 (by decide)) pt⟩
    · refine ⟨_, rfl, by rw [List.length_map]; omega, fun c hc => ?_⟩
      obtain ⟨x, hx, rfl⟩ := List.mem_map.mp hc
      exact up_lt (pt x hx)
    · exact ⟨_, rfl, by decide, by decide⟩
    · exact ⟨_, rfl, by decide, by decide⟩
    · exact ⟨_, rfl, Ok.app (by show _ + 1 ≤ _; omega) pt (one 10 (by decide))⟩
/-! ### slip_text, check_of, is_slip at what they are asked -/
variable {a b v : Nat} {n1 n2 : List Nat}
theorem r_slip_text (ha : a ≤ 99) (hb : b ≤ 99) (hv : v < 3) (ok : okSlip n1 n2 = true) : M_slip_text [.fz (slipD a n1 n2 v b)] = some (.fz (.str (S (textL a n1 n2 v b))), [.un]) := by
  obtain ⟨l1, l2⟩ := okSlip_len ok
  have h1 := r_slip_ok (n1 := n1) (n2 := n2) ha hb hv (by omega) (by omega)
  rw [ok] at h1
  have h2 := r_text_of (n1 := n1) (n2 := n2) ha hb hv (by omega) (by omega)
  have c1 := call1 (e := [.fz (slipD a n1 n2 v b)]) (f := varF 0) rfl h1
  have c2 := call1 (e := [.fz (slipD a n1 n2 v b)]) (f := varF 0) rfl h2
  show (m_slip_text [.fz (slipD a n1 n2 v b)]).bind _ = _
  unfold m_slip_text
  simp only [seqF_ap, ifS_ap, notT_ap, tstF_ap, c1, Option.bind_some, Option.map_some, Bool.not_true, Bool.false_eq_true, if_false, nopF_ap, retF_ap, c2]
  rfl
theorem right_in (ha : a ≤ 99) (hb : b ≤ 99) (hv : v < 3) (ok : okSlip n1 n2 = true) : M_slip_in [.fz (.str (S (textL a n1 n2 v b)))] = some (.fz (slipD a n1 n2 v b), [.un]) := by
  obtain ⟨k1, k2, _⟩ := okSlip_iff.mp ok
  have hl := (text_len (v := v) ha hb ok).1
  have h := slip_in_six (l := textL a n1 n2 v b) (by omega) (pr_128 (text_pr ok)) hv (text_spl (no32_name k1) (no32_name k2))
  rw [h, numI_num (by omega), numI_num (by omega)]
  dsimp only
  have hO : okI (TL.numL a) n1 n2 (TL.numL b) = true := by
    unfold okI
    rw [numI_num (by omega), numI_num (by omega), isIn_nat ha, isIn_nat hb, ok]
    rfl
  rw [if_pos ⟨hO, rfl⟩]
  rfl
theorem r_is_printed (hl : l.length ≤ 1000) (hp : ∀ c ∈ l, Pr c) : M_is_printed [.fz (.str (S l))] = some (.fz (.bool true), [.un]) := by
  have hz : (signsD (S l)).length ≤ sizeLine := by rw [signs_len, sz16]; omega
  have hc : cmpL (gnF 1) yesT (chF leD leD (conF (.str " ")) (varF 1) (conF (.str "~"))) [1] (signsD (S l)) [.fz (.str (S l)), .un] = some ((signsD (S l)).map fun _ => .bool true, [.fz (.str (S l)), .un]) := by
    refine cmpL_map (φ := fun _ => .bool true) fun d hd => ?_
    obtain ⟨c, hc, rfl⟩ := List.mem_map.mp hd
    have hc := hp c (by simpa using hc)
    unfold Pr at hc
    refine ⟨[.fz (.str (S l)), .fz (.str ⟨#[c]⟩)], [.fz (.str (S l)), .fz (.str ⟨#[c]⟩)], .fz (.bool true), [.fz (.str (S l)), .fz (.str ⟨#[c]⟩)], [.fz (.str (S l)), .fz (.str ⟨#[c]⟩)], rfl, rfl, ?_, rfl, rfl⟩
    have e1 : (!decide ((⟨#[c]⟩ : Str).cps.toList < (Str.ofString " ").cps.toList)) = true := by
      have : ¬ ([c] : List Nat) < [32] := by simp [List.cons_lt_cons_iff]; omega
      rw [Bool.not_eq_true', decide_eq_false_iff_not]
      exact this
    have e2 : (!decide ((Str.ofString "~").cps.toList < (⟨#[c]⟩ : Str).cps.toList)) = true := by
      have : ¬ ([126] : List Nat) < [c] := by simp [List.cons_lt_cons_iff]; omega
      rw [Bool.not_eq_true', decide_eq_false_iff_not]
      exact this
    simp only [chF_ap, conF_ap, varF_ap, List.getElem?_cons_succ, List.getElem?_cons_zero, Option.bind_some, rd_fz, le_ss, e1, e2, if_true, Option.map_some]
  have hall : allG [.list ((signsD (S l)).map fun _ => .bool true)] = some (.fz (.bool true)) := by
    rw [all_l, boolsD_mapf (fun _ => true)]
    show some (Va.fz (.bool (((signsD (S l)).map fun _ => true).all id))) = _
    rw [List.all_map]
    congr 2
    exact congrArg PyData.bool (List.all_eq_true.mpr fun _ _ => rfl)
  have hb : m_is_printed [.fz (.str (S l)), .un] = some (.rt (.fz (.bool true)) [.fz (.str (S l)), .un]) := by
    unfold m_is_printed
    have hi : (tstF (isiF "str" (varF 0))) [.fz (.str (S l)), .un] = some (true, [.fz (.str (S l)), .un]) := rfl
    rw [retF_ap, andE_ap, hi]
    simp only [Option.bind_some, if_true, cbF_ap, argC_ap, argN_ap, cmpF_ap, itF_ap, varF_ap, List.getElem?_cons_succ, List.getElem?_cons_zero, st_fz, fzn_fz, isQ_s, items_s, Option.map_some, hz, wipeE, List.set_cons_succ, List.set_cons_zero, hc, resE, st_fr, rdAll_cons, rdAll_nil, rd_fz, hall]
  show (m_is_printed [.fz (.str (S l)), .un]).bind _ = _
  rw [hb]
  rfl
theorem r_check_of (hl : l.length ≤ 1000) (hp : ∀ c ∈ l, Pr c) : M_check_of [.fz (.str (S l))] = some (.fz (.str (S (chk l))), [.un]) := by
  have c1 := call1 (e := [.fz (.str (S l))]) (f := varF 0) rfl (r_is_printed hl hp)
  have c2 := call1 (e := [.fz (.str (S l))]) (f := varF 0) rfl (r_check_in l hl)
  show (m_check_of [.fz (.str (S l))]).bind _ = _
  unfold m_check_of
  simp only [seqF_ap, ifS_ap, notT_ap, tstF_ap, c1, Option.bind_some, Option.map_some, Bool.not_true, Bool.false_eq_true, if_false, nopF_ap, retF_ap, c2]
  rfl
end
end K26
end K26l__
section K26m__
set_option Elab.async false
set_option linter.all false
set_option autoImplicit false
set_option maxRecDepth 100000
set_option maxHeartbeats 400000
namespace K26
open PySem L2 PySem.Spec PyProof.Rows Sh SX

section
variable {a b v : Nat} {n1 n2 : List Nat} {e : En}
theorem call1K {M : FE} {f : FE} {x y : D} {s : Sl} (hf : f e = some (.fz x, e)) (hM : M [.fz x] = some (.fz y, [s])) : (callF [false] M (perF [0] (argC f argN))) e = some (.fz y, e) := by
  have hp : (perF [0] (argC f argN)) e = some ([.fz x], e) := by
    unfold perF
    rw [argC_ap, hf]
    rfl
  rw [callF_ap, hp]
  simp only [Option.bind_some, Option.map_some, preA_no, preA_nil, fzn_fz, ixs_l, ixs_nil, List.nodup_nil, if_true, mkE_l, mkE_nil, hM, bak_l, bak_nil]
noncomputable def bodyF : FE := (mbF "str" joinM (conF (.str " ")) (argC (lstF (argC (cbF strG (argC (binF ixD (varF 1) (conF (.int 1))) argN)) (argC (binF ixD (varF 1) (conF (.int 2))) (argC (binF ixD (lstF (argC (conF (.str "yields")) (argC (conF (.str "draws")) (argC (conF (.str "beats")) argN)))) (binF ixD (varF 1) (conF (.int 4)))) (argC (binF ixD (varF 1) (conF (.int 3))) (argC (cbF strG (argC (binF ixD (varF 1) (conF (.int 5))) argN)) argN)))))) argN))
theorem mk_body (h : e[1]? = some (.fz (slipD a n1 n2 v b))) (ha : a ≤ 99) (hb : b ≤ 99) (hv : v < 3) (h1 : n1.length ≤ 1000) (h2 : n2.length ≤ 1000) : bodyF e = some (.fz (.str (S (bodyL a n1 n2 v b))), e) := by
  have x1 : strG [.int (a : Nat)] = some (.fz (.str (S (TL.numL a)))) := strG_nat (by omega)
  have x5 : strG [.int (b : Nat)] = some (.fz (.str (S (TL.numL b)))) := strG_nat (by omega)
  have e1 : atI [PyData.str "slip", .int (a : Nat), .str (S n1), .str (S n2), .int (v : Nat), .int (b : Nat)] 1 = some (.int (a : Nat)) := at_slip 1 (by decide)
  have e2 : atI [PyData.str "slip", .int (a : Nat), .str (S n1), .str (S n2), .int (v : Nat), .int (b : Nat)] 2 = some (.str (S n1)) := at_slip 2 (by decide)
  have e3 : atI [PyData.str "slip", .int (a : Nat), .str (S n1), .str (S n2), .int (v : Nat), .int (b : Nat)] 3 = some (.str (S n2)) := at_slip 3 (by decide)
  have e4 : atI [PyData.str "slip", .int (a : Nat), .str (S n1), .str (S n2), .int (v : Nat), .int (b : Nat)] 4 = some (.int (v : Nat)) := at_slip 4 (by decide)
  have e5 : atI [PyData.str "slip", .int (a : Nat), .str (S n1), .str (S n2), .int (v : Nat), .int (b : Nat)] 5 = some (.int (b : Nat)) := at_slip 5 (by decide)
  have j : joinM (.str (S [32])) [.list [.str (S (TL.numL a)), .str (S n1), .str (S (verb v)), .str (S n2), .str (S (TL.numL b))]] = some (.fz (.str (S (bodyL a n1 n2 v b)))) := by
    have l1 := numL_len2 ha
    have l2 := numL_len2 hb
    have l3 := verb_len (v := v)
    exact joinM_S (a := [32]) (ps := [TL.numL a, n1, verb v, n2, TL.numL b]) (by simp; omega)
  have hz : ([PyData.str (S (TL.numL a)), .str (S n1), .str (S (verb v)), .str (S n2), .str (S (TL.numL b))] : List D).length ≤ sizeLine := by rw [sz16]; show 5 ≤ 16777216; decide
  have hz3 : ([PyData.str (S (verb 0)), .str (S (verb 1)), .str (S (verb 2))] : List D).length ≤ sizeLine := by rw [sz16]; show 3 ≤ 16777216; decide
  obtain ⟨v2, v1, v0⟩ := lit_verbs2
  unfold slipD at h
  unfold bodyF
  rw [v2, v1, v0]
  simp only [mbF_ap, conF_ap, Option.bind_some, rd_fz, lit_sp, tyD, beq_self_eq_true, if_true, argC_ap, argN_ap, lstF_ap, cbF_ap, binF_ap, varF_ap, h, ix_t, ix_l, e1, e2, e3, e4, e5, Option.map_some, st_fz, rdAll_cons, rdAll_nil, x1, x5, verb_at hv, fzAll_cons, fzAll_nil, fzn_fz, hz, hz3, rd_fr, st_fr, j]
/-- one round of the law: the texts of a slip hold -/
theorem text_right {d : D} (hp : Pot d) (ha : a ≤ 99) (hb : b ≤ 99) (hv : v < 3) (ok : okSlip n1 n2 = true) : ∃ d', M__law_text_right [.ow true d, .fz (slipD a n1 n2 v b)] = some (.fz (.bool true), [.ow true d', .un]) ∧ Pot d' := by
  obtain ⟨l1, l2⟩ := okSlip_len ok
  have hl := text_len (v := v) ha hb ok
  have hbl := body_len2 (v := v) ha hb ok
  have pt := text_pr (a := a) (v := v) (b := b) ok
  have pb := body_pr (a := a) (v := v) (b := b) ok
  obtain ⟨bd, hbd⟩ : ∃ bd, bd = bodyL a n1 n2 v b := ⟨_, rfl⟩
  obtain ⟨t, ht⟩ : ∃ t, t = textL a n1 n2 v b := ⟨_, rfl⟩
  obtain ⟨sl, hsl⟩ : ∃ sl, sl = slipD a n1 n2 v b := ⟨_, rfl⟩
  have htb : t = bd ++ [32] ++ chk bd := by rw [ht, hbd]; rfl
  -- body
  have s2 : (setF 2 bodyF) [.ow true d, .fz sl, .un, .un, .un, .un, .un, .un, .un, .un, .un] = some (.nx [.ow true d, .fz sl, .fz (.str (S bd)), .un, .un, .un, .un, .un, .un, .un, .un]) := by
    rw [setF_ap, mk_body (e := [.ow true d, .fz sl, .un, .un, .un, .un, .un, .un, .un, .un, .un]) (by rw [hsl]; rfl) ha hb hv (by omega) (by omega), ← hbd]
    rfl
  -- text
  have a1 := add_S bd [32] (by show _ + 1 ≤ _; rw [hbd]; omega)
  have a2 := add_S (bd ++ [32]) (chk bd) (by rw [List.length_append, chk_len]; show _ + 1 + 6 ≤ _; rw [hbd]; omega)
  rw [← htb] at a2
  have s3 : (setF 3 (binF addD (binF addD (varF 2) (conF (.str " "))) (callF [false] M__law_check (argC (varF 2) argN)))) [.ow true d, .fz sl, .fz (.str (S bd)), .un, .un, .un, .un, .un, .un, .un, .un] = some (.nx [.ow true d, .fz sl, .fz (.str (S bd)), .fz (.str (S t)), .un, .un, .un, .un, .un, .un, .un]) := by
    have c1 := call1 (e := [.ow true d, .fz sl, .fz (.str (S bd)), .un, .un, .un, .un, .un, .un, .un, .un]) (f := varF 2) rfl (r__law_check bd (by rw [hbd]; omega))
    simp only [setF_ap, binF_ap, varF_ap, List.getElem?_cons_succ, List.getElem?_cons_zero, Option.bind_some, conF_ap, rd_fz, lit_sp, a1, Option.map_some, c1, a2, setSl_fz, List.set_cons_succ, List.set_cons_zero]
  -- told, named
  have r1 := r_slip_text (n1 := n1) (n2 := n2) ha hb hv ok
  have r2 := r_slip_of_text (r := none) (right_in (n1 := n1) (n2 := n2) ha hb hv ok)
  have r3 := r_check_of (l := bd) (by rw [hbd]; omega) (by rw [hbd]; exact pb)
  rw [← hsl, ← ht] at r1
  rw [← hsl, ← ht] at r2
  obtain ⟨tri, htri⟩ : ∃ tri : D, tri = .list [.str (S t), sl, .str (S (chk bd))] := ⟨_, rfl⟩
  have hz : ([PyData.str (S t), sl, .str (S (chk bd))] : List D).length ≤ sizeLine := by rw [sz16]; show 3 ≤ 16777216; decide
  have E4 : ∀ x : En, x = [.ow true d, .fz sl, .fz (.str (S bd)), .fz (.str (S t)), .un, .un, .un, .un, .un, .un, .un] →
      (lstF (argC (callF [false] M_slip_text (argC (varF 1) argN)) (argC (callF [false] M_slip_of_text (argC (varF 3) argN)) (argC (callF [false] M_check_of (argC (varF 2) argN)) argN)))) x = some (.fr tri, x) ∧
      (lstF (argC (callF [false] M_slip_text (perF [0] (argC (varF 1) argN))) (argC (callF [false] M_slip_of_text (perF [0] (argC (varF 3) argN))) (argC (callF [false] M_check_of (perF [0] (argC (varF 2) argN))) argN)))) x = some (.fr tri, x) := by
    intro x hx
    have f1 : (varF 1) x = some (.fz sl, x) := by rw [hx]; rfl
    have f2 : (varF 2) x = some (.fz (.str (S bd)), x) := by rw [hx]; rfl
    have f3 : (varF 3) x = some (.fz (.str (S t)), x) := by rw [hx]; rfl
    have c1 := call1 f1 r1
    have c2 := call1 f3 r2
    have c3 := call1 f2 r3
    have k1 := call1K f1 r1
    have k2 := call1K f3 r2
    have k3 := call1K f2 r3
    rw [htri]
    constructor
    · rw [lstF_ap, argC_ap, c1, Option.bind_some, argC_ap, c2, Option.bind_some, argC_ap, c3, Option.bind_some]
      simp only [argN_ap, Option.map_some, Option.bind_some, st_fz, fzAll_cons, fzAll_nil, fzn_fz, hz, if_true]
    · rw [lstF_ap, argC_ap, k1, Option.bind_some, argC_ap, k2, Option.bind_some, argC_ap, k3, Option.bind_some]
      simp only [argN_ap, Option.map_some, Option.bind_some, st_fz, fzAll_cons, fzAll_nil, fzn_fz, hz, if_true]
  obtain ⟨t1, t2⟩ := E4 _ rfl
  have s4 : (parS 6 7 (lstF (argC (callF [false] M_slip_text (argC (varF 1) argN)) (argC (callF [false] M_slip_of_text (argC (varF 3) argN)) (argC (callF [false] M_check_of (argC (varF 2) argN)) argN)))) (lstF (argC (callF [false] M_slip_text (perF [0] (argC (varF 1) argN))) (argC (callF [false] M_slip_of_text (perF [0] (argC (varF 3) argN))) (argC (callF [false] M_check_of (perF [0] (argC (varF 2) argN))) argN)))))
      [.ow true d, .fz sl, .fz (.str (S bd)), .fz (.str (S t)), .un, .un, .un, .un, .un, .un, .un] = some (.nx [.ow true d, .fz sl, .fz (.str (S bd)), .fz (.str (S t)), .un, .un, .ow false tri, .ow false tri, .un, .un, .un]) := by
    rw [parS_ap, t1, Option.bind_some]
    dsimp only
    rw [noBo_fr, if_pos rfl, t2, Option.bind_some]
    dsimp only
    rw [noBo_fr, if_pos rfl]
    rfl
  -- repr
  have smt : Sm tri 2 508 := by
    rw [htri, hsl]
    have h8 := pr_128 pt
    rw [← ht] at h8
    have s1 : Sm (.str (S t)) 1 126 := (Sm.str h8).mono (by decide) (by rw [ht]; omega)
    have s2 : Sm (slipD a n1 n2 v b) 1 126 := Sm.slip ha hb hv ok
    have s3 : Sm (.str (S (chk bd))) 1 126 := (Sm.str (pr_128 (chk_pr bd (x_lt bd)))).mono (by decide) (by rw [chk_len]; decide)
    have s5 := Sm.list (k := 1) (w := 126) (ds := [.str (S t), slipD a n1 n2 v b, .str (S (chk bd))]) ⟨s1, s2, s3, trivial⟩
    exact s5.mono (by decide) (by simp only [List.length_cons, List.length_nil]; omega)
  have rp := (Sm.list (k := 2) (w := 508) (ds := [tri, tri]) ⟨smt, smt, trivial⟩).repr (by decide) (by simp only [List.length_cons, List.length_nil]; omega)
  have hz2 : ([tri, tri] : List D).length ≤ sizeLine := by rw [sz16]; show 2 ≤ 16777216; decide
  have hz1 : ([tri] : List D).length ≤ sizeLine := by rw [sz16]; show 1 ≤ 16777216; decide
  have s5 : (ifS (tstF (binF neD (cbF reprG (argC (lstF (argC (varF 6) (argC (varF 7) argN))) argN)) (cbF reprG (argC (repF (lstF (argC (lstF (argC (varF 3) (argC (varF 1) (argC (callF [false] M__law_check (argC (varF 2) argN)) argN)))) argN)) (conF (.int 2))) argN)))) (retF (conF (.bool false))) nopF)
      [.ow true d, .fz sl, .fz (.str (S bd)), .fz (.str (S t)), .un, .un, .ow false tri, .ow false tri, .un, .un, .un] = some (.nx [.ow true d, .fz sl, .fz (.str (S bd)), .fz (.str (S t)), .un, .un, .fz tri, .fz tri, .un, .un, .un]) := by
    have q1 : (lstF (argC (varF 6) (argC (varF 7) argN))) [.ow true d, .fz sl, .fz (.str (S bd)), .fz (.str (S t)), .un, .un, .ow false tri, .ow false tri, .un, .un, .un] = some (.fr (.list [tri, tri]), [.ow true d, .fz sl, .fz (.str (S bd)), .fz (.str (S t)), .un, .un, .fz tri, .fz tri, .un, .un, .un]) := by
      simp only [lstF_ap, argC_ap, argN_ap, varF_ap, List.getElem?_cons_succ, List.getElem?_cons_zero, Option.bind_some, Option.map_some, st_bo, fzAll_cons, fzAll_nil, fzn_bo, List.set_cons_succ, List.set_cons_zero, hz2, if_true]
    have c1 := call1 (e := [.ow true d, .fz sl, .fz (.str (S bd)), .fz (.str (S t)), .un, .un, .fz tri, .fz tri, .un, .un, .un]) (f := varF 2) rfl (r__law_check bd (by rw [hbd]; omega))
    have q2 : (lstF (argC (lstF (argC (varF 3) (argC (varF 1) (argC (callF [false] M__law_check (argC (varF 2) argN)) argN)))) argN)) [.ow true d, .fz sl, .fz (.str (S bd)), .fz (.str (S t)), .un, .un, .fz tri, .fz tri, .un, .un, .un] = some (.fr (.list [tri]), [.ow true d, .fz sl, .fz (.str (S bd)), .fz (.str (S t)), .un, .un, .fz tri, .fz tri, .un, .un, .un]) := by
      have q0 : (lstF (argC (varF 3) (argC (varF 1) (argC (callF [false] M__law_check (argC (varF 2) argN)) argN)))) [.ow true d, .fz sl, .fz (.str (S bd)), .fz (.str (S t)), .un, .un, .fz tri, .fz tri, .un, .un, .un] = some (.fr tri, [.ow true d, .fz sl, .fz (.str (S bd)), .fz (.str (S t)), .un, .un, .fz tri, .fz tri, .un, .un, .un]) := by
        rw [lstF_ap, argC_ap]
        simp only [argC_ap, argN_ap, varF_ap, List.getElem?_cons_succ, List.getElem?_cons_zero, Option.bind_some, Option.map_some, c1, st_fz, fzAll_cons, fzAll_nil, fzn_fz, hz, if_true]
        rw [← htri]
      rw [lstF_ap, argC_ap, q0]
      simp only [argN_ap, Option.bind_some, Option.map_some, st_fr, fzAll_cons, fzAll_nil, fzn_fz, hz1, if_true]
    have q3 : (repF (lstF (argC (lstF (argC (varF 3) (argC (varF 1) (argC (callF [false] M__law_check (argC (varF 2) argN)) argN)))) argN)) (conF (.int 2))) [.ow true d, .fz sl, .fz (.str (S bd)), .fz (.str (S t)), .un, .un, .fz tri, .fz tri, .un, .un, .un] = some (.fr (.list [tri, tri]), [.ow true d, .fz sl, .fz (.str (S bd)), .fz (.str (S t)), .un, .un, .fz tri, .fz tri, .un, .un, .un]) := by
      unfold repF
      rw [q2, Option.bind_some]
      dsimp only
      rw [conF_ap, Option.bind_some]
      dsimp only
      rw [if_pos ⟨by decide, by decide, by rw [sz16]; show 1 * 2 ≤ 16777216; decide⟩]
      rfl
    have hq : ((PyData.list [tri, tri]).shown == (PyData.list [tri, tri]).shown) = true := beq_self_eq_true _
    rw [ifS_ap, tstF_ap, binF_ap, cbF_ap, argC_ap, q1]
    simp only [Option.bind_some, argN_ap, Option.map_some, st_fr, rdAll_cons, rdAll_nil, rd_fz, rp]
    rw [cbF_ap, argC_ap, q3]
    simp only [Option.bind_some, argN_ap, Option.map_some, st_fr, rdAll_cons, rdAll_nil, rd_fz, rp, neD_ap, eqB_ss, hq, Bool.not_true, Bool.false_eq_true, if_false, nopF_ap]
  -- the loops
  have v0 : V (textL a n1 n2 v b) bd sl [.ow true d, .fz sl, .fz (.str (S bd)), .fz (.str (S t)), .un, .un, .fz tri, .fz tri, .un, .un, .un] := by
    refine ⟨rfl, ⟨d, hp, rfl⟩, rfl, rfl, by rw [ht]; rfl, fun i s hi h x z => ?_⟩
    have hlt : i < 11 := (List.getElem?_eq_some_iff.mp h).1
    have : i = 4 ∨ i = 5 ∨ i = 6 ∨ i = 7 ∨ i = 8 ∨ i = 9 ∨ i = 10 := by omega
    rcases this with rfl | rfl | rfl | rfl | rfl | rfl | rfl <;> (cases h; cases z)
  have g25 := rg1_nat (n := 25) (by decide)
  have g8 := rg1_nat (n := 8) (by decide)
  have i25 : ∀ x : En, (ibF rg1 (argC (conF (.int 25)) argN)) x = some ((List.range 25).map (fun i => .int ((i : Nat) : Int)), x) := fun x => by
    have g : rg1 [.int 25] = some ((List.range 25).map (fun i => .int ((i : Nat) : Int))) := g25
    simp only [ibF_ap, argC_ap, argN_ap, conF_ap, Option.bind_some, Option.map_some, st_fz, rdAll_cons, rdAll_nil, rd_fz, g]
  have i8 : ∀ x : En, (ibF rg1 (argC (conF (.int 8)) argN)) x = some ((List.range 8).map (fun i => .int ((i : Nat) : Int)), x) := fun x => by
    have g : rg1 [.int 8] = some ((List.range 8).map (fun i => .int ((i : Nat) : Int))) := g8
    simp only [ibF_ap, argC_ap, argN_ap, conF_ap, Option.bind_some, Option.map_some, st_fz, rdAll_cons, rdAll_nil, rd_fz, g]
  obtain ⟨e6, h6, v6⟩ : ∃ e6, (forS (ibF rg1 (argC (conF (.int 25)) argN)) (gnF 4) loopB) [.ow true d, .fz sl, .fz (.str (S bd)), .fz (.str (S t)), .un, .un, .fz tri, .fz tri, .un, .un, .un] = some (.nx e6) ∧ V (textL a n1 n2 v b) bd sl e6 := by
    rw [forS_ap, i25, Option.bind_some]
    refine forL_inv (I := V (textL a n1 n2 v b) bd sl) v0 fun q hq x w => ?_
    obtain ⟨y, hy, vy⟩ := turnB ha hb hv ok (w.set (i := 4) (by decide) q)
    exact ⟨_, y, w.put (by decide) (by decide) q, .inl hy, vy⟩
  obtain ⟨e7, h7, v7⟩ : ∃ e7, (forS (ibF rg1 (argC (conF (.int 8)) argN)) (gnF 4) loopC2) e6 = some (.nx e7) ∧ V (textL a n1 n2 v b) bd sl e7 := by
    rw [forS_ap, i8, Option.bind_some]
    refine forL_inv (I := V (textL a n1 n2 v b) bd sl) v6 fun q hq x w => ?_
    obtain ⟨y, hy, vy⟩ := turnC (w.set (i := 4) (by decide) q) hl.1 (by omega) (by rw [hbd]; exact hbl) pt (by rw [hbd]; exact pb)
    exact ⟨_, y, w.put (by decide) (by decide) q, .inl hy, vy⟩
  obtain ⟨ds, hds, okd⟩ := listD_ok v7 hl.1 (by rw [hbd]; exact hbl) (pr_128 pt) (pr_128 (by rw [hbd]; exact pb))
  obtain ⟨e8, h8, v8⟩ : ∃ e8, (forS (itF isQ listD) (gnF 5) testT) e7 = some (.nx e8) ∧ V (textL a n1 n2 v b) bd sl e8 := by
    rw [forS_ap, it_list hds, Option.bind_some]
    exact loopT okd v7
  obtain ⟨d', hp', hd'⟩ := v8.pot
  have hb8 : m__law_text_right [.ow true d, .fz sl, .un, .un, .un, .un, .un, .un, .un, .un, .un] = some (.rt (.fz (.bool true)) e8) := by
    have e9 : m__law_text_right = seqF (setF 2 bodyF) (seqF (setF 3 (binF addD (binF addD (varF 2) (conF (.str " "))) (callF [false] M__law_check (argC (varF 2) argN)))) (seqF (parS 6 7 (lstF (argC (callF [false] M_slip_text (argC (varF 1) argN)) (argC (callF [false] M_slip_of_text (argC (varF 3) argN)) (argC (callF [false] M_check_of (argC (varF 2) argN)) argN)))) (lstF (argC (callF [false] M_slip_text (perF [0] (argC (varF 1) argN))) (argC (callF [false] M_slip_of_text (perF [0] (argC (varF 3) argN))) (argC (callF [false] M_check_of (perF [0] (argC (varF 2) argN))) argN)))))
      (seqF (ifS (tstF (binF neD (cbF reprG (argC (lstF (argC (varF 6) (argC (varF 7) argN))) argN)) (cbF reprG (argC (repF (lstF (argC (lstF (argC (varF 3) (argC (varF 1) (argC (callF [false] M__law_check (argC (varF 2) argN)) argN)))) argN)) (conF (.int 2))) argN)))) (retF (conF (.bool false))) nopF)
      (seqF (forS (ibF rg1 (argC (conF (.int 25)) argN)) (gnF 4) loopB) (seqF (forS (ibF rg1 (argC (conF (.int 8)) argN)) (gnF 4) loopC2) (seqF (forS (itF isQ listD) (gnF 5) testT) (retF (conF (.bool true))))))))) := rfl
    rw [e9, seqF_ap, s2, Option.bind_some]
    dsimp only
    rw [seqF_ap, s3, Option.bind_some]
    dsimp only
    rw [seqF_ap, s4, Option.bind_some]
    dsimp only
    rw [seqF_ap, s5, Option.bind_some]
    dsimp only
    rw [seqF_ap, h6, Option.bind_some]
    dsimp only
    rw [seqF_ap, h7, Option.bind_some]
    dsimp only
    rw [seqF_ap, h8, Option.bind_some]
    rfl
  refine ⟨d', ?_, hp'⟩
  show (m__law_text_right [.ow true d, .fz (slipD a n1 n2 v b), .un, .un, .un, .un, .un, .un, .un, .un, .un]).bind _ = _
  rw [← hsl, hb8]
  show some (Va.fz (.bool true), finE [.ow true d, .fz sl] e8) = _
  have hcons : ∃ x y r, e8 = x :: y :: r := by
    have := v8.len
    rcases e8 with _ | ⟨x, _ | ⟨y, r⟩⟩
    · cases this
    · simp at this
    · exact ⟨x, y, r, rfl⟩
  obtain ⟨x, y, r, rfl⟩ := hcons
  cases hd'
  rfl
end
end K26
end K26m__
section K26n__
set_option Elab.async false
set_option linter.all false
set_option autoImplicit false
set_option maxRecDepth 100000
set_option maxHeartbeats 400000
namespace K26
open PySem L2 PySem.Spec PyProof.Rows Sh SX

theorem atL_nat {ns : List Int} {k : Nat} (h : k < ns.length) : atI (ns.map PyData.int) (k : Nat) = some (.int ns[k]) :=
  atI_nat (j := k) (by rw [List.getElem?_map, List.getElem?_eq_getElem h]; rfl)
theorem r_pot (ns : List Int) (k : Nat) : ∃ d, M__law_pot [.fz (.list (ns.map .int)), .fz (.int (k : Nat))] = some (.fr d, [.un, .un]) ∧ Pot d := by
  obtain ⟨big, hbig⟩ : ∃ big : D, big = .list (ns.map .int) := ⟨_, rfl⟩
  have c0 : (3911 : Int) * (k : Nat) + 12739 ≥ 0 := by omega
  -- the last line
  have hret : ∀ c : Int, ∃ d, (retF (lstF (argC (cbF maxG (argC (conF (.int 0)) (argC (binF subD (varF 2) (binF powD (conF (.int 10)) (conF (.int 18)))) argN))) (argC (binF addD (binF modD (cbF intG (argC (binF addD (binF addD (binF mulD (binF modD (cbF intG (argC (varF 2) argN)) (conF (.int 2147483549))) (conF (.int 40014))) (binF mulD (conF (.int 12739)) (varF 1))) (conF (.int 61))) argN)) (conF (.int 2147483563))) (conF (.int 1))) argN))))
      [.fz big, .fz (.int (k : Nat)), .fz (.int c)] = some (.rt (.fr d) [.fz big, .fz (.int (k : Nat)), .fz (.int c)]) ∧ Pot d := by
    intro c
    have hp : powD (.int 10) (.int 18) = some (.fz (.int 1000000000000000000)) := by
      rw [pow_ii, if_pos ⟨by decide, by decide, by decide⟩]
      rfl
    obtain ⟨m1, hm1⟩ : ∃ m1, m1 = c % 2147483549 := ⟨_, rfl⟩
    have hb : 0 ≤ m1 ∧ m1 < 2147483549 := by rw [hm1]; exact ⟨Int.emod_nonneg _ (by decide), Int.emod_lt_of_pos _ (by decide)⟩
    have e1 : modD (.int c) (.int 2147483549) = some (.fz (.int m1)) := by rw [mod_ii, if_pos (by decide), hm1]
    have e2 : mulD (.int m1) (.int 40014) = some (.fz (.int (m1 * 40014))) := by rw [mul_ii, if_pos (.inr (by rw [p64]; omega))]
    have e3 : mulD (.int 12739) (.int (k : Nat)) = some (.fz (.int (12739 * (k : Nat)))) := by rw [mul_ii, if_pos (.inl (by rw [p64]; omega))]
    obtain ⟨m2, hm2⟩ : ∃ m2, m2 = m1 * 40014 + 12739 * (k : Nat) + 61 := ⟨_, rfl⟩
    have e4 : modD (.int m2) (.int 2147483563) = some (.fz (.int (m2 % 2147483563))) := by rw [mod_ii, if_pos (by decide)]
    refine ⟨.list [.int (if c - 1000000000000000000 > 0 then c - 1000000000000000000 else 0), .int (m2 % 2147483563 + 1)], ?_, _, _, rfl, by split <;> omega⟩
    have hz : ([PyData.int (if c - 1000000000000000000 > 0 then c - 1000000000000000000 else 0), .int (m2 % 2147483563 + 1)] : List D).length ≤ sizeLine := by rw [sz16]; show 2 ≤ 16777216; decide
    simp only [retF_ap, lstF_ap, argC_ap, argN_ap, cbF_ap, binF_ap, conF_ap, varF_ap, List.getElem?_cons_succ, List.getElem?_cons_zero, Option.bind_some, Option.map_some, rd_fz, hp, sub_ii, st_fz, rdAll_cons, rdAll_nil, max_ii, int_i, e1, e2, e3, add_ii, ← hm2, e4, fzAll_cons, fzAll_nil, fzn_fz, hz, if_true]
  have e0 : mulD (.int 3911) (.int (k : Nat)) = some (.fz (.int (3911 * (k : Nat)))) := by rw [mul_ii, if_pos (.inl (by rw [p64]; omega))]
  have s1 : (setF 2 (binF addD (binF mulD (conF (.int 3911)) (varF 1)) (conF (.int 12739)))) [.fz big, .fz (.int (k : Nat)), .un] = some (.nx [.fz big, .fz (.int (k : Nat)), .fz (.int (3911 * (k : Nat) + 12739))]) := by
    simp only [setF_ap, binF_ap, conF_ap, varF_ap, List.getElem?_cons_succ, List.getElem?_cons_zero, Option.bind_some, Option.map_some, rd_fz, e0, add_ii, setSl_fz, List.set_cons_succ, List.set_cons_zero]
  obtain ⟨c, s2⟩ : ∃ c : Int, (ifS (tstF (binF ltD (varF 1) (cbF lenG (argC (varF 0) argN)))) (setF 2 (cbF absG (argC (binF ixD (varF 0) (varF 1)) argN))) nopF) [.fz big, .fz (.int (k : Nat)), .fz (.int (3911 * (k : Nat) + 12739))] = some (.nx [.fz big, .fz (.int (k : Nat)), .fz (.int c)]) := by
    by_cases h : k < ns.length
    · refine ⟨if ns[k] < 0 then -ns[k] else ns[k], ?_⟩
      have hd : decide (((k : Nat) : Int) < (((ns.map PyData.int).length : Nat) : Int)) = true := decide_eq_true (by rw [List.length_map]; omega)
      simp only [hbig, ifS_ap, tstF_ap, binF_ap, varF_ap, cbF_ap, argC_ap, argN_ap, List.getElem?_cons_succ, List.getElem?_cons_zero, Option.bind_some, Option.map_some, st_fz, rd_fz, rdAll_cons, rdAll_nil, len_l, lt_ii, hd, if_true, setF_ap, ix_l, atL_nat h, abs_i, setSl_fz, List.set_cons_succ, List.set_cons_zero]
    · refine ⟨3911 * (k : Nat) + 12739, ?_⟩
      have hd : decide (((k : Nat) : Int) < (((ns.map PyData.int).length : Nat) : Int)) = false := decide_eq_false (by rw [List.length_map]; omega)
      simp only [hbig, ifS_ap, tstF_ap, binF_ap, varF_ap, cbF_ap, argC_ap, argN_ap, List.getElem?_cons_succ, List.getElem?_cons_zero, Option.bind_some, Option.map_some, st_fz, rd_fz, rdAll_cons, rdAll_nil, len_l, lt_ii, hd, Bool.false_eq_true, if_false, nopF_ap]
  obtain ⟨d, s3, hp⟩ := hret c
  refine ⟨d, ?_, hp⟩
  rw [← hbig]
  show (m__law_pot [.fz big, .fz (.int (k : Nat)), .un]).bind _ = _
  unfold m__law_pot
  rw [seqF_ap, s1, Option.bind_some]
  dsimp only
  rw [seqF_ap, s2, Option.bind_some]
  dsimp only
  rw [s3]
  rfl

/-! ### the law -/
theorem ok_won : okSlip [97, 110, 110] [98, 111, 98] = true := by decide +kernel
theorem won_lit : (PyData.tuple [.str "slip", .int 0, .str "ann", .str "bob", .int 2, .int 0] : D) = slipD 0 [97, 110, 110] [98, 111, 98] 2 0 := rfl
theorem won_text : textL 0 [97, 110, 110] [98, 111, 98] 2 0 = [48, 32, 97, 110, 110, 32, 98, 101, 97, 116, 115, 32, 98, 111, 98, 32, 48, 32, 56, 51, 49, 53, 49, 50] := by decide +kernel
theorem won_str : Str.ofString "0 ann beats bob 0 831512" = S [48, 32, 97, 110, 110, 32, 98, 101, 97, 116, 115, 32, 98, 111, 98, 32, 48, 32, 56, 51, 49, 53, 49, 50] := rfl
theorem chk_nil : chk [] = [48, 48, 48, 48, 48, 48] := by decide +kernel
theorem chk_tilde : chk [126] = [48, 57, 52, 48, 57, 52] := by decide +kernel
theorem str_0 : Str.ofString "000000" = S [48, 48, 48, 48, 48, 48] := rfl
theorem str_t : Str.ofString "094094" = S [48, 57, 52, 48, 57, 52] := rfl
theorem str_e : Str.ofString "" = S [] := rfl
theorem str_tl : Str.ofString "~" = S [126] := rfl
theorem call_right' {d : D} (hp : Pot d) {A B C : Sl} {q : D} : ∃ d', (callF [true, false] M__law_text_right (argC (varF 3) (argC (callF [true] M__law_slip (argC (varF 3) argN)) argN))) [A, B, C, .ow false d, .fz q] = some (.fz (.bool true), [A, B, C, .ow false d', .fz q]) ∧ Pot d' := by
  obtain ⟨a, n1, n2, v, b, d1, h1, ha, hb, hv, ok, p1⟩ := r_slip hp
  obtain ⟨d2, h2, p2⟩ := text_right (n1 := n1) (n2 := n2) p1 ha hb hv ok
  refine ⟨d2, ?_, p2⟩
  have c1 : (callF [true] M__law_slip (argC (varF 3) argN)) [A, B, C, .ow false d, .fz q] = some (.fz (slipD a n1 n2 v b), [A, B, C, .ow false d1, .fz q]) := by
    simp only [callF_ap, argC_ap, argN_ap, varF_ap, List.getElem?_cons_succ, List.getElem?_cons_zero, Option.bind_some, Option.map_some, st_bo, preA_io, preA_nil, ixs_r, ixs_nil, List.nodup_cons, List.not_mem_nil, not_false_eq_true, List.nodup_nil, and_self, if_true, mkE_r, mkE_nil, h1, bak_r, bak_nil, List.set_cons_succ, List.set_cons_zero]
  rw [callF_ap, argC_ap]
  simp only [argC_ap, c1, argN_ap, varF_ap, List.getElem?_cons_succ, List.getElem?_cons_zero, Option.bind_some, Option.map_some, st_bo, st_fz, preA_io, preA_no, fzn_fz, preA_nil, ixs_r, ixs_l, ixs_nil, List.nodup_cons, List.not_mem_nil, not_false_eq_true, List.nodup_nil, and_self, if_true, mkE_r, mkE_l, mkE_nil, h2, bak_r, bak_l, bak_nil, List.set_cons_succ, List.set_cons_zero]
theorem allT {P : D → D → Prop} (hP : ∀ x y, P x y → y = .bool true) : ∀ {ds qs : List D}, Paired P ds qs → ∃ ns, boolsD qs = some ns ∧ ns.all id = true
  | _, _, .nil => ⟨[], rfl, rfl⟩
  | _, _, .cons (l₂ := qs) h t => by
    obtain ⟨ns, h1, h2⟩ := allT hP t
    refine ⟨true :: ns, ?_, ?_⟩
    · rw [hP _ _ h]
      show (boolsD qs).map (fun l => true :: l) = _
      rw [h1]
      rfl
    · simpa using h2
noncomputable def testL : FT := (notT (tstF (cbF allG (argC (cmpF (ibF rg1 (argC (conF (.int 3)) argN)) (gnF 4) yesT (callF [true, false] M__law_text_right (argC (varF 3) (argC (callF [true] M__law_slip (argC (varF 3) argN)) argN))) [4]) argN))))
theorem r_turn {d : D} (hp : Pot d) {A B C s : Sl} : ∃ d', testL [A, B, C, .ow false d, s] = some (false, [A, B, C, .ow false d', s]) := by
  have g3 : rg1 [.int 3] = some ((List.range 3).map (fun i => .int ((i : Nat) : Int))) := rg1_nat (n := 3) (by decide)
  have hz : ((List.range 3).map (fun i => (PyData.int ((i : Nat) : Int) : D))).length ≤ sizeLine := by rw [sz16, List.length_map, List.length_range]; decide
  obtain ⟨qs, e', h1, h2, d', hp', he'⟩ := cmpL_inv (g := gnF 4) (ft := yesT) (fe := callF [true, false] M__law_text_right (argC (varF 3) (argC (callF [true] M__law_slip (argC (varF 3) argN)) argN))) (vs := [4]) (I := fun e => ∃ d, Pot d ∧ e = [A, B, C, .ow false d, .un]) (P := fun _ q => q = .bool true)
    (ds := (List.range 3).map (fun i => .int ((i : Nat) : Int))) (e0 := [A, B, C, .ow false d, .un]) ⟨d, hp, rfl⟩ (by
      rintro q hq e ⟨d, hp, rfl⟩
      obtain ⟨d', h, hp'⟩ := call_right' hp (A := A) (B := B) (C := C) (q := q)
      exact ⟨[A, B, C, .ow false d, .fz q], [A, B, C, .ow false d, .fz q], .fz (.bool true), [A, B, C, .ow false d', .fz q], .bool true, [A, B, C, .ow false d', .fz q], rfl, rfl, h, rfl, rfl, d', hp', rfl⟩)
  subst he'
  obtain ⟨ns, b1, b2⟩ := allT (fun _ _ h => h) h2
  refine ⟨d', ?_⟩
  have w0 : wipeE [A, B, C, .ow false d, s] [4] = [A, B, C, .ow false d, .un] := rfl
  have hc : (cmpF (ibF rg1 (argC (conF (.int 3)) argN)) (gnF 4) yesT (callF [true, false] M__law_text_right (argC (varF 3) (argC (callF [true] M__law_slip (argC (varF 3) argN)) argN))) [4]) [A, B, C, .ow false d, s] = some (.fr (.list qs), [A, B, C, .ow false d', s]) := by
    rw [cmpF_ap]
    simp only [ibF_ap, argC_ap, argN_ap, conF_ap, Option.bind_some, Option.map_some, st_fz, rdAll_cons, rdAll_nil, rd_fz, g3, hz, if_true, w0, h1]
    rfl
  unfold testL
  rw [notT_ap, tstF_ap, cbF_ap, argC_ap, hc]
  simp only [Option.bind_some, argN_ap, Option.map_some, st_fr, rdAll_cons, rdAll_nil, rd_fz, all_l, b1, b2, Bool.not_true]
theorem law_right (ns : List Int) (h63 : ns.length ≤ 63) : ∃ e', M_law [.fz (.list (ns.map .int))] = some (.fz (.bool true), e') := by
  obtain ⟨big, hbig⟩ : ∃ big : D, big = .list (ns.map .int) := ⟨_, rfl⟩
  obtain ⟨won, hwon⟩ : ∃ won : D, won = slipD 0 [97, 110, 110] [98, 111, 98] 2 0 := ⟨_, rfl⟩
  have s1 : (setF 1 (tupF (argC (conF (.str "slip")) (argC (conF (.int 0)) (argC (conF (.str "ann")) (argC (conF (.str "bob")) (argC (conF (.int 2)) (argC (conF (.int 0)) argN)))))))) [.fz big, .un, .un, .un, .un] = some (.nx [.fz big, .fz won, .un, .un, .un]) := by
    have hz : ([PyData.str "slip", .int 0, .str "ann", .str "bob", .int 2, .int 0] : List D).length ≤ sizeLine := by rw [sz16]; show 6 ≤ 16777216; decide
    rw [hwon, ← won_lit]
    simp only [setF_ap, tupF_ap, argC_ap, argN_ap, conF_ap, Option.bind_some, Option.map_some, st_fz, fzAll_cons, fzAll_nil, fzn_fz, hz, if_true, setSl_fz, List.getElem?_cons_succ, List.getElem?_cons_zero, List.set_cons_succ, List.set_cons_zero]
  have k1 : ∀ x : En, x = [.fz big, .fz won, .un, .un, .un] → (orT (tstF (binF neD (callF [false] M_slip_text (argC (varF 1) argN)) (conF (.str "0 ann beats bob 0 831512")))) (orT (tstF (binF neD (callF [false] M_check_of (argC (conF (.str "")) argN)) (conF (.str "000000")))) (orT (tstF (binF neD (callF [false] M_check_of (argC (conF (.str "~")) argN)) (conF (.str "094094")))) (tstF (binF isntD (callF [false] M_is_slip (argC (varF 1) argN)) (conF (.bool true))))))) x = some (false, x) := by
    intro x hx
    have f1 : (varF 1) x = some (.fz won, x) := by rw [hx]; rfl
    have r1 := r_slip_text (a := 0) (b := 0) (v := 2) (n1 := [97, 110, 110]) (n2 := [98, 111, 98]) (by decide) (by decide) (by decide) ok_won
    have r4 := r_slip_ok (a := 0) (b := 0) (v := 2) (n1 := [97, 110, 110]) (n2 := [98, 111, 98]) (by decide) (by decide) (by decide) (by decide) (by decide)
    rw [won_text, ← hwon] at r1
    rw [ok_won, ← hwon] at r4
    have r4' : M_is_slip [.fz won] = some (.fz (.bool true), [.un]) := by
      have c := call1 (e := [.fz won]) (f := varF 0) rfl r4
      show (m_is_slip [.fz won]).bind _ = _
      unfold m_is_slip
      rw [retF_ap, c]
      rfl
    have r2 := r_check_of (l := []) (by decide) (fun c h => by cases h)
    have r3 := r_check_of (l := [126]) (by decide) (by intro c h; simp at h; subst h; unfold Pr; decide)
    rw [chk_nil] at r2
    rw [chk_tilde] at r3
    have c1 := call1 f1 r1
    have c2 := call1 (e := x) (f := conF (.str (S []))) rfl r2
    have c3 := call1 (e := x) (f := conF (.str (S [126]))) rfl r3
    have c4 := call1 f1 r4'
    have ib : isB (.bool true) (.bool true) = some true := rfl
    rw [won_str, str_0, str_t, str_e, str_tl]
    simp only [orT_ap, tstF_ap, binF_ap, c1, c2, c3, c4, conF_ap, Option.bind_some, Option.map_some, rd_fz, neD_ap, eqB_ss, beq_self_eq_true, Bool.not_true, Bool.false_eq_true, if_false, isntD_ap, ib]
  obtain ⟨e4, s3, h4⟩ : ∃ e4, (forS (ibF rg1 (argC (cbF maxG (argC (conF (.int 1)) (argC (cbF minG (argC (conF (.int 3)) (argC (cbF lenG (argC (varF 0) argN)) argN))) argN))) argN)) (gnF 2)
      (seqF (setF 3 (callF [false, false] M__law_pot (argC (varF 0) (argC (varF 2) argN))))
      (ifS testL (retF (conF (.bool false))) nopF))) [.fz big, .fz won, .un, .un, .un] = some (.nx e4) ∧ ∃ A B C D', e4 = [A, B, C, D', .un] := by
    obtain ⟨m, hm, hm1, hm2⟩ : ∃ m : Nat, (if (if ((ns.map PyData.int).length : Int) < 3 then ((ns.map PyData.int).length : Int) else 3) > 1 then (if ((ns.map PyData.int).length : Int) < 3 then ((ns.map PyData.int).length : Int) else 3) else 1) = ((m : Nat) : Int) ∧ 1 ≤ m ∧ m ≤ 3 := by
      generalize (ns.map PyData.int).length = L
      by_cases q1 : (L : Int) < 3
      · rw [if_pos q1]
        by_cases q2 : (L : Int) > 1
        · exact ⟨L, by rw [if_pos q2], by omega, by omega⟩
        · exact ⟨1, by rw [if_neg q2]; rfl, by omega, by omega⟩
      · rw [if_neg q1]
        exact ⟨3, rfl, by omega, by omega⟩
    have gm := rg1_nat (n := m) (by omega)
    have hi : (ibF rg1 (argC (cbF maxG (argC (conF (.int 1)) (argC (cbF minG (argC (conF (.int 3)) (argC (cbF lenG (argC (varF 0) argN)) argN))) argN))) argN)) [.fz big, .fz won, .un, .un, .un] = some ((List.range m).map (fun i => .int ((i : Nat) : Int)), [.fz big, .fz won, .un, .un, .un]) := by
      rw [hbig]
      simp only [ibF_ap, argC_ap, argN_ap, conF_ap, cbF_ap, varF_ap, List.getElem?_cons_zero, Option.bind_some, Option.map_some, st_fz, rdAll_cons, rdAll_nil, rd_fz, len_l, min_ii, max_ii, hm, gm]
    rw [forS_ap, hi, Option.bind_some]
    have key := forL_inv (g := gnF 2) (b := (seqF (setF 3 (callF [false, false] M__law_pot (argC (varF 0) (argC (varF 2) argN)))) (ifS testL (retF (conF (.bool false))) nopF))) (I := fun e => ∃ (B D' : Sl), e = [.fz big, .fz won, B, D', .un] ∧ ((∃ b, B = .fz b) ∨ B = .un) ∧ (D' = .un ∨ ∃ d, D' = .ow false d)) (ds := (List.range m).map (fun i => .int ((i : Nat) : Int))) (e := [.fz big, .fz won, .un, .un, .un]) ⟨_, _, rfl, .inr rfl, .inl rfl⟩ (by
      rintro q hq e ⟨B, D', rfl, hB, hD⟩
      obtain ⟨k, _, rfl⟩ := List.mem_map.mp hq
      obtain ⟨d, hd, hp⟩ := r_pot ns k
      rw [← hbig] at hd
      obtain ⟨d', ht⟩ := r_turn hp (A := .fz big) (B := .fz won) (C := .fz (.int (k : Nat))) (s := .un)
      refine ⟨[.fz big, .fz won, .fz (.int (k : Nat)), D', .un], [.fz big, .fz won, .fz (.int (k : Nat)), .ow false d', .un], ?_, .inl ?_, _, _, rfl, .inl ⟨_, rfl⟩, .inr ⟨_, rfl⟩⟩
      · rcases hB with ⟨b, rfl⟩ | rfl <;> rfl
      · have c1 : (callF [false, false] M__law_pot (argC (varF 0) (argC (varF 2) argN))) [.fz big, .fz won, .fz (.int (k : Nat)), D', .un] = some (.fr d, [.fz big, .fz won, .fz (.int (k : Nat)), D', .un]) := by
          simp only [callF_ap, argC_ap, argN_ap, varF_ap, List.getElem?_cons_succ, List.getElem?_cons_zero, Option.bind_some, Option.map_some, st_fz, preA_no, fzn_fz, preA_nil, ixs_l, ixs_nil, List.nodup_nil, if_true, mkE_l, mkE_nil, hd, bak_l, bak_nil]
        have c2 : (setF 3 (callF [false, false] M__law_pot (argC (varF 0) (argC (varF 2) argN)))) [.fz big, .fz won, .fz (.int (k : Nat)), D', .un] = some (.nx [.fz big, .fz won, .fz (.int (k : Nat)), .ow false d, .un]) := by
          rw [setF_ap, c1]
          rcases hD with rfl | ⟨x, rfl⟩ <;> rfl
        rw [seqF_ap, c2, Option.bind_some]
        dsimp only
        rw [ifS_ap, ht]
        rfl)
    obtain ⟨e', he, B, D', rfl, _, _⟩ := key
    exact ⟨_, he, _, _, _, _, rfl⟩
  obtain ⟨A, B, C, D', rfl⟩ := h4
  have hb : m_law [.fz big, .un, .un, .un, .un] = some (.rt (.fz (.bool true)) [A, B, C, D', .un]) := by
    have e9 : m_law = seqF (setF 1 (tupF (argC (conF (.str "slip")) (argC (conF (.int 0)) (argC (conF (.str "ann")) (argC (conF (.str "bob")) (argC (conF (.int 2)) (argC (conF (.int 0)) argN))))))))
      (seqF (ifS (orT (tstF (binF neD (callF [false] M_slip_text (argC (varF 1) argN)) (conF (.str "0 ann beats bob 0 831512")))) (orT (tstF (binF neD (callF [false] M_check_of (argC (conF (.str "")) argN)) (conF (.str "000000")))) (orT (tstF (binF neD (callF [false] M_check_of (argC (conF (.str "~")) argN)) (conF (.str "094094")))) (tstF (binF isntD (callF [false] M_is_slip (argC (varF 1) argN)) (conF (.bool true))))))) (retF (conF (.bool false))) nopF)
      (seqF (forS (ibF rg1 (argC (cbF maxG (argC (conF (.int 1)) (argC (cbF minG (argC (conF (.int 3)) (argC (cbF lenG (argC (varF 0) argN)) argN))) argN))) argN)) (gnF 2)
      (seqF (setF 3 (callF [false, false] M__law_pot (argC (varF 0) (argC (varF 2) argN))))
      (ifS testL (retF (conF (.bool false))) nopF))) (retF (conF (.bool true))))) := rfl
    rw [e9, seqF_ap, s1, Option.bind_some]
    dsimp only
    rw [seqF_ap, ifS_ap, k1 _ rfl, Option.bind_some]
    dsimp only
    rw [if_neg (by decide), nopF_ap, Option.bind_some]
    dsimp only
    rw [seqF_ap, s3, Option.bind_some]
    rfl
  refine ⟨finE [.fz big] [A, B, C, D', .un], ?_⟩
  rw [← hbig]
  have ea : ([Sl.fz big] ++ List.replicate 4 Sl.un) = [.fz big, .un, .un, .un, .un] := rfl
  unfold M_law funF
  rw [ea, hb, Option.bind_some]
end K26
end K26n__
section K26h__
set_option Elab.async false
set_option linter.all false
set_option autoImplicit false
set_option maxRecDepth 100000
set_option maxHeartbeats 4000000
namespace K26
open PySem L2 PySem.Spec PyProof.Rows Sh
/-! ### the head -/
def lo0 : List Str := ["is_integer", "is_within", "is_tuple", "ContestError", "InvalidText", "InvalidSlip", "LETTERS", "DIGITS_forms", "MINUS", "MOST_NAME", "MOST_DIGITS", "is_name_value", "number_in", "SLIP", "VERBS", "MOST_NUMBER", "PRIME", "DIGITS_slips", "is_printed", "is_slip_value", "padded", "check_in", "body_of", "text_of", "slip_in", "is_slip", "slip_text", "slip_of_text", "check_of", "_law_pot"]
def lo1 : List Str := ["_law_draw", "_law_pick", "_law_mixed", "_law_padded", "_law_check", "_law_name", "_law_slip", "_law_is_number", "_law_is_name", "_law_read", "_law_sign", "_law_text_right"]
def loose : List Str := lo0 ++ lo1
abbrev R : PySem.W.OpenRow := PySem.W.OpenLaw.row Lw
abbrev hk : PySem.W.Hook := hookS 5 (faOf fr fn) cs fn
def ob (s : PySem.W.SharedT) : He.AlD := obsSG 5 (faOf fr fn) cs fn (HandSHeadRun.getT s)
theorem ob_eq (s : PySem.W.SharedT) : ob s = hk.obs s.abs := obsSG_eq (HandSHeadRun.getT_eq s)
theorem run (w : World) : HandSHeadRun.RunEq R (PySem.W.view R.prog [47]) hk ob 3000 loose w := by
  intro os
  kernel_rfl
theorem goal {q : Program} {lo : List Str} {XP : (Str → Option Value) → Heap → Prop} {d : DefRec} (hdn : d.name = ("law" : Str)) (hdf : d.params.defaults = []) (pure : ∀ ns : List Int, ns.length ≤ 63 → ∃ e', M_law [.fz (.list (ns.map .int))] = some (.fz (.bool true), e')) :
    PySem.W.WalkO q lo XP hk.says Lw.row.toRowW d [] (fun f vs => PySem.call f vs) := by
  refine walkG (l := Lw) (n := 63) (k := 7) (x := "script") (CX := CX0) rfl (by rw [sizeLine_eq]; decide) hdf ⟨⟨rfl, by decide, by decide⟩, rfl⟩ ?_ (fun _ _ _ _ z => z)
  intro w mg fa h Y G hmg0
  obtain ⟨K, KX, c⟩ := Y
  rw [hdn] at hmg0
  have B : Bk K mg fr cs fn := Bk.of KX G c (by decide +kernel)
  obtain ⟨f, fd, hm, F⟩ := B.fns 28 rfl
  obtain rfl : fa = f := by
    have := hmg0.symm.trans hm
    cases this
    rfl
  refine ⟨K, fd, spF K 1 M_law, KX, fun s u => F.bindsA (ps := ["script"]) (fun _ _ _ _ _ _ us hl => match us, hl with | [_], _ => rfl) s [u] rfl, fun H a ns hl _ hS => ?_, fun base KB GB => ?_⟩
  · obtain ⟨e', he⟩ := pure ns hl
    exact law_sp he hS
  · obtain ⟨f', fd', hm', F', _, Gf⟩ := ok_law (P := Lw.prog) (w := w) (base := base) B
    have e1 := hm.symm.trans hm'
    cases e1
    have e2 : fd = fd' := fd_same F F'
    subst e2
    exact Gf
end K26
open PySem PySem.W PySem.Calls PyProof.Rows
theorem PySem.Challenge.cw_contesthouse_k26_whole_texts_of_slips_sp_holds : PySem.Challenge.rw_contesthouse_k26_whole_texts_of_slips_sp.Holds := by
  w_on; o_law
  refine HandSHeadRun.head_any (r := OpenLaw.row K26.Lw) (q := view (OpenLaw.row K26.Lw).prog [47]) (H := K26.hk) (ob := K26.ob) (M := 3000) (loose := K26.loose) (d := HandSHeadRun.topDef (OpenLaw.row K26.Lw).prog 47) (kwd := []) K26.ob_eq
    (by kernel_rfl) (fun s => by kernel_rfl) K26.run (by kernel_rfl) (by kernel_rfl) (by kernel_rfl) (by rfl) (by first | assumption | decide +kernel) (by decide +kernel) ⟨rfl, rfl, rfl, rfl, rfl, by decide +kernel⟩ ?hw ?hc
  case hw => w_witness2
  case hc => exact K26.goal (by kernel_rfl) (by kernel_rfl) (fun ns h => (K26.law_right ns h))
end K26h__

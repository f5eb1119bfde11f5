import PyProof.Rows.All
import HandS.ForMost
import HandS.IsInst
import HandS.TupAny
import HandS.TupLe
import HandS.Star
import HandS.Deep
import HandS.NoneIn
import HandS.Zip
import HandS.TupMul
import HandS.SetFor
import HandS.Wide
import HandS.Flow
import KE.GoesNew
import KE.GoesMore
import KE.GoesEnum
import KE.KSuper
import HandS.Nested
import HandS.MethStar
import HandS.SortInts
import HandS.RaiseMore
import HandS.Strs
import HandS.Style
import HandS.Defaults
import KE.KTupSum
import HandS.Head0
import HandS.Head1
import HandS.Head2
import HandS.HeadEnd
import HandS.HeadHook1
import HandS.HeadHook2
import KE.KDictZip
import HandS.RevTup
import PySem.Challenge.RW_opencuts_k21_whole_words_of_many_points
set_option Elab.async false
set_option linter.all false
section
set_option maxRecDepth 100000
set_option maxHeartbeats 2000000
/-! D1: data without the heap (D), what stands for it (Rep), a def's slots (Sl), the relation of a state to slots (ER). -/
namespace DL
open PySem L2

/-- data, without the heap -/
inductive D where
  | non | bl (b : Bool) | int (i : Int) | str (s : Str) | tup (xs : List D) | lst (xs : List D) | ins (C : Addr) (fs : List (Str × D)) | scr (ns : List Int) | ty (n : String) | cls (C : Addr)

mutual
/-- the value v, in the heap H, is the data d -/
inductive Rep (K : PySem.W.Frag) (H : Hp) : V → D → Prop
  | non : Rep K H .non .non
  | bl (b : Bool) : Rep K H (.bl b) (.bl b)
  | int (i : Int) : Rep K H (.int i) (.int i)
  | str (x : Str) : Rep K H (.str x) (.str x)
  | lst {a : Addr} {xs : List V} {ds : List D} : H a = some (.lst xs) → Reps K H xs ds → Rep K H (.ref a) (.lst ds)
  | tup {a : Addr} {xs : List V} {ds : List D} : SqT K H a xs → Reps K H xs ds → Rep K H (.ref a) (.tup ds)
  | ins {a C dx : Addr} {fs : List (Str × V)} {gs : List (Str × D)} : H a = some (.ins C dx fs) → RepF K H fs gs → Rep K H (.ref a) (.ins C gs)
  | scr {a : Addr} {ns : List Int} : SqL K H a (ns.map V.int) → Rep K H (.ref a) (.scr ns)
  | ty (n : String) : Rep K H (.ty n) (.ty n)
  | cls (C : Addr) : Rep K H (.ref C) (.cls C)
inductive Reps (K : PySem.W.Frag) (H : Hp) : List V → List D → Prop
  | nil : Reps K H [] []
  | cons {v : V} {vs : List V} {d : D} {ds : List D} : Rep K H v d → Reps K H vs ds → Reps K H (v :: vs) (d :: ds)
inductive RepF (K : PySem.W.Frag) (H : Hp) : List (Str × V) → List (Str × D) → Prop
  | nil : RepF K H [] []
  | cons {f : Str} {v : V} {vs : List (Str × V)} {d : D} {ds : List (Str × D)} : Rep K H v d → RepF K H vs ds → RepF K H ((f, v) :: vs) ((f, d) :: ds)
end

/-- what is known stays -/
def Ex (H H' : Hp) : Prop := ∀ a o, H a = some o → H' a = some o
theorem Ex.refl (H : Hp) : Ex H H := fun _ _ h => h
theorem Ex.trans {H H1 H2 : Hp} (a : Ex H H1) (b : Ex H1 H2) : Ex H H2 := fun x o h => b x o (a x o h)
theorem Ex.new {H : Hp} {p : Addr} {o : HO} (h : H p = none) : Ex H (upd H p o) := fun a u e => by
  rw [upd_ne (ne_of_none e h)]
  exact e
theorem Ex.mut {H H' : Hp} {p : Addr} {o : HO} (e : Ex H H') (h : H p = none) : Ex H (upd H' p o) := fun a u ha => by
  rw [upd_ne (ne_of_none ha h)]
  exact e a u ha
theorem Ex.free {H H' : Hp} {p : Addr} (e : Ex H H') (h : H' p = none) : H p = none := by
  cases h1 : H p with
  | none => rfl
  | some o =>
    rw [e p o h1] at h
    cases h
theorem Ex.sqL {K : PySem.W.Frag} {H H' : Hp} {a : Addr} {xs : List V} (e : Ex H H') (h : SqL K H a xs) : SqL K H' a xs := by
  rcases h with (h | ⟨o, h⟩) | h
  · exact .inl (.inl (e _ _ h))
  · exact .inl (.inr ⟨o, e _ _ h⟩)
  · exact .inr h
theorem Ex.sqT {K : PySem.W.Frag} {H H' : Hp} {a : Addr} {xs : List V} (e : Ex H H') (h : SqT K H a xs) : SqT K H' a xs := by
  rcases h with (h | ⟨o, h⟩) | h
  · exact .inl (.inl (e _ _ h))
  · exact .inl (.inr ⟨o, e _ _ h⟩)
  · exact .inr h
mutual
theorem Rep.mono {K : PySem.W.Frag} {H H' : Hp} (e : Ex H H') : ∀ {v : V} {d : D}, Rep K H v d → Rep K H' v d
  | _, _, .non => .non
  | _, _, .bl b => .bl b
  | _, _, .int i => .int i
  | _, _, .str x => .str x
  | _, _, .lst h r => .lst (e _ _ h) (Reps.mono e r)
  | _, _, .tup h r => .tup (e.sqT h) (Reps.mono e r)
  | _, _, .ins h r => .ins (e _ _ h) (RepF.mono e r)
  | _, _, .scr h => .scr (e.sqL h)
  | _, _, .ty n => .ty n
  | _, _, .cls C => .cls C
theorem Reps.mono {K : PySem.W.Frag} {H H' : Hp} (e : Ex H H') : ∀ {v : List V} {d : List D}, Reps K H v d → Reps K H' v d
  | _, _, .nil => .nil
  | _, _, .cons h r => .cons (Rep.mono e h) (Reps.mono e r)
theorem RepF.mono {K : PySem.W.Frag} {H H' : Hp} (e : Ex H H') : ∀ {v : List (Str × V)} {d : List (Str × D)}, RepF K H v d → RepF K H' v d
  | _, _, .nil => .nil
  | _, _, .cons h r => .cons (Rep.mono e h) (RepF.mono e r)
end
theorem Reps.length {K : PySem.W.Frag} {H : Hp} : ∀ {vs : List V} {ds : List D}, Reps K H vs ds → vs.length = ds.length
  | _, _, .nil => rfl
  | _, _, .cons _ r => by rw [List.length_cons, List.length_cons, Reps.length r]
theorem Reps.get {K : PySem.W.Frag} {H : Hp} : ∀ {vs : List V} {ds : List D} {i : Nat} {d : D}, Reps K H vs ds → ds[i]? = some d → ∃ v, vs[i]? = some v ∧ Rep K H v d
  | _, _, _, _, .nil, e => by simp at e
  | _, _, 0, _, .cons r _, e => by simp at e; subst e; exact ⟨_, rfl, r⟩
  | _, _, i + 1, _, .cons _ t, e => by
    obtain ⟨v, h1, h2⟩ := Reps.get (i := i) t (by simpa using e)
    exact ⟨v, by simpa using h1, h2⟩
theorem Reps.getV {K : PySem.W.Frag} {H : Hp} : ∀ {vs : List V} {ds : List D} {i : Nat} {v : V}, Reps K H vs ds → vs[i]? = some v → ∃ d, ds[i]? = some d ∧ Rep K H v d
  | _, _, _, _, .nil, e => by simp at e
  | _, _, 0, _, .cons r _, e => by simp at e; subst e; exact ⟨_, rfl, r⟩
  | _, _, i + 1, _, .cons _ t, e => by
    obtain ⟨v, h1, h2⟩ := Reps.getV (i := i) t (by simpa using e)
    exact ⟨v, by simpa using h1, h2⟩
theorem Reps.append {K : PySem.W.Frag} {H : Hp} : ∀ {vs ws : List V} {ds es : List D}, Reps K H vs ds → Reps K H ws es → Reps K H (vs ++ ws) (ds ++ es)
  | _, _, _, _, .nil, s => s
  | _, _, _, _, .cons r t, s => .cons r (Reps.append t s)
theorem Reps.set {K : PySem.W.Frag} {H : Hp} {v : V} {d : D} (r : Rep K H v d) : ∀ {vs : List V} {ds : List D} (i : Nat), Reps K H vs ds → Reps K H (vs.set i v) (ds.set i d)
  | _, _, _, .nil => .nil
  | _, _, 0, .cons _ t => .cons r t
  | _, _, i + 1, .cons q t => .cons q (Reps.set r i t)
theorem Reps.take {K : PySem.W.Frag} {H : Hp} : ∀ {vs : List V} {ds : List D} (n : Nat), Reps K H vs ds → Reps K H (vs.take n) (ds.take n)
  | _, _, 0, _ => .nil
  | _, _, _ + 1, .nil => .nil
  | _, _, n + 1, .cons r t => .cons r (Reps.take n t)
theorem Reps.drop {K : PySem.W.Frag} {H : Hp} : ∀ {vs : List V} {ds : List D} (n : Nat), Reps K H vs ds → Reps K H (vs.drop n) (ds.drop n)
  | _, _, 0, r => r
  | _, _, _ + 1, .nil => .nil
  | _, _, n + 1, .cons _ t => Reps.drop n t
theorem Reps.erase {K : PySem.W.Frag} {H : Hp} : ∀ {vs : List V} {ds : List D} (n : Nat), Reps K H vs ds → Reps K H (vs.eraseIdx n) (ds.eraseIdx n)
  | _, _, _, .nil => .nil
  | _, _, 0, .cons _ t => t
  | _, _, n + 1, .cons r t => .cons r (Reps.erase n t)
theorem Reps.one {K : PySem.W.Frag} {H : Hp} {vs : List V} {d : D} (r : Reps K H vs [d]) : ∃ v, vs = [v] ∧ Rep K H v d := by
  cases r with
  | cons a b => cases b; exact ⟨_, rfl, a⟩
theorem Reps.two {K : PySem.W.Frag} {H : Hp} {vs : List V} {d e : D} (r : Reps K H vs [d, e]) : ∃ v w, vs = [v, w] ∧ Rep K H v d ∧ Rep K H w e := by
  cases r with
  | cons a b =>
    obtain ⟨w, rfl, q⟩ := Reps.one b
    exact ⟨_, _, rfl, a, q⟩
theorem Reps.ints {K : PySem.W.Frag} {H : Hp} : ∀ {ns : List Int} {vs : List V}, Reps K H vs (ns.map D.int) → vs = ns.map V.int
  | [], _, .nil => rfl
  | n :: ns, _, .cons a b => by
    cases a
    rw [Reps.ints b]
    rfl
theorem Reps.ofInts {K : PySem.W.Frag} {H : Hp} : ∀ {ns : List Int}, Reps K H (ns.map V.int) (ns.map D.int)
  | [] => .nil
  | n :: ns => .cons (.int n) Reps.ofInts
theorem Reps.bls {K : PySem.W.Frag} {H : Hp} : ∀ {ns : List Bool} {vs : List V}, Reps K H vs (ns.map D.bl) → vs = ns.map V.bl
  | [], _, .nil => rfl
  | n :: ns, _, .cons a b => by
    cases a
    rw [Reps.bls b]
    rfl
theorem Reps.strs {K : PySem.W.Frag} {H : Hp} : ∀ {ns : List Str} {vs : List V}, Reps K H vs (ns.map D.str) → vs = ns.map V.str
  | [], _, .nil => rfl
  | n :: ns, _, .cons a b => by
    cases a
    rw [Reps.strs b]
    rfl
theorem Reps.ofStrs {K : PySem.W.Frag} {H : Hp} : ∀ {ns : List Str}, Reps K H (ns.map V.str) (ns.map D.str)
  | [] => .nil
  | n :: ns => .cons (.str n) Reps.ofStrs
theorem RepF.look {K : PySem.W.Frag} {H : Hp} {f : Str} : ∀ {vs : List (Str × V)} {ds : List (Str × D)} {d : D}, RepF K H vs ds → ds.lookup f = some d → ∃ v, vs.lookup f = some v ∧ Rep K H v d
  | _, _, _, .nil, e => by simp at e
  | _, _, d, .cons (f := g) (v := v) (vs := vs) (d := d') (ds := ds) r t, e => by
    by_cases h : (f == g) = true
    · simp only [List.lookup, h] at e ⊢
      cases e
      exact ⟨v, rfl, r⟩
    · have h' : (f == g) = false := by simpa using h
      simp only [List.lookup, h'] at e ⊢
      exact RepF.look t e
theorem RepF.none {K : PySem.W.Frag} {H : Hp} {f : Str} : ∀ {vs : List (Str × V)} {ds : List (Str × D)}, RepF K H vs ds → ds.lookup f = none → vs.lookup f = none
  | _, _, .nil, _ => rfl
  | _, _, .cons (f := g) r t, e => by
    by_cases h : (f == g) = true
    · simp only [List.lookup, h] at e
      cases e
    · have h' : (f == g) = false := by simpa using h
      simp only [List.lookup, h'] at e ⊢
      exact RepF.none t e
theorem RepF.length {K : PySem.W.Frag} {H : Hp} : ∀ {vs : List (Str × V)} {ds : List (Str × D)}, RepF K H vs ds → vs.length = ds.length
  | _, _, .nil => rfl
  | _, _, .cons _ r => by rw [List.length_cons, List.length_cons, RepF.length r]
/-- the attributes of an instance of data -/
def putD (f : Str) (v : D) : List (Str × D) → List (Str × D)
  | [] => [(f, v)]
  | (g, x) :: r => if g = f then (g, v) :: r else (g, x) :: putD f v r
theorem RepF.put {K : PySem.W.Frag} {H : Hp} {f : Str} {v : V} {d : D} (r : Rep K H v d) : ∀ {vs : List (Str × V)} {ds : List (Str × D)}, RepF K H vs ds → RepF K H (putF f v vs) (putD f d ds)
  | _, _, .nil => .cons r .nil
  | _, _, .cons (f := g) (v := w) (vs := vs) (d := e) (ds := ds) a b => by
    show RepF K H (if g = f then (g, v) :: vs else (g, w) :: putF f v vs) (if g = f then (g, d) :: ds else (g, e) :: putD f d ds)
    by_cases h : g = f
    · rw [if_pos h, if_pos h]
      exact .cons r b
    · rw [if_neg h, if_neg h]
      exact .cons a (RepF.put r b)

/-- a slot of a def: not bound, data that is shared (never changed), a list of its own, a list that was handed in to be changed, an instance that is being made -/
inductive Sl where
  | un | sh (d : D) | ow (ds : List D) | io (ds : List D) | oi (C : Addr) (fs : List (Str × D))
/-- a call's frame: what stood at the entry but what may be changed (B), what stood still (S0), where there was nothing (N) -/
structure Fm where
  B : Hp
  S0 : Hp
  N : Addr → Prop
  bn : ∀ a, N a → B a = none
/-- a slot in a state -/
def SlAt (K : PySem.W.Frag) (F : Fm) (S H : Hp) (o : Option (Option V)) : Sl → Prop
  | .un => True
  | .sh d => ∃ v, o = some (some v) ∧ Rep K S v d
  | .ow ds => ∃ p vs, o = some (some (.ref p)) ∧ S p = none ∧ F.N p ∧ H p = some (.lst vs) ∧ Reps K S vs ds
  | .io ds => ∃ p vs, o = some (some (.ref p)) ∧ S p = none ∧ (F.B p = none ∧ ¬ F.N p) ∧ H p = some (.lst vs) ∧ Reps K S vs ds
  | .oi C fs => ∃ p dx vs, o = some (some (.ref p)) ∧ S p = none ∧ (F.B p = none ∧ ¬ F.N p) ∧ H p = some (.ins C dx vs) ∧ RepF K S vs fs
def Sl.own : Sl → Bool
  | .ow _ => true
  | .io _ => true
  | .oi _ _ => true
  | _ => false
/-- at slot i stands an object of its own, at p -/
def OwnAt (σ : L2.St) (sl : List Sl) (i : Nat) (p : Addr) : Prop := σ[i]? = some (some (.ref p)) ∧ ∃ s, sl[i]? = some s ∧ s.own = true
/-- the state has these slots -/
structure ER (K : PySem.W.Frag) (F : Fm) (sl : List Sl) (σ : L2.St) (S H : Hp) : Prop where
  bh : Ex F.B H
  sh : Ex S H
  ss : Ex F.S0 S
  nw : ∀ a, S a ≠ none → F.S0 a ≠ none ∨ F.N a
  dm : ∀ a, H a = none → F.N a
  at_ : ∀ (i : Nat) (s : Sl), sl[i]? = some s → SlAt K F S H σ[i]? s
  ap : ∀ (i j : Nat) (p : Addr), OwnAt σ sl i p → OwnAt σ sl j p → i = j
/-- a step in which nothing known changes -/
structure Gr (S H S' H' : Hp) : Prop where
  s : Ex S S'
  sh : Ex S' H'
  h : Ex H H'
  nw : ∀ a, S' a ≠ none → S a ≠ none ∨ H a = none
theorem Gr.refl {S H : Hp} (h : Ex S H) : Gr S H S H := ⟨Ex.refl _, h, Ex.refl _, fun _ x => .inl x⟩
theorem Gr.trans {S H S1 H1 S2 H2 : Hp} (a : Gr S H S1 H1) (b : Gr S1 H1 S2 H2) : Gr S H S2 H2 :=
  ⟨a.s.trans b.s, b.sh, a.h.trans b.h, fun x hx => by
    rcases b.nw x hx with z | z
    · exact a.nw x z
    · exact .inr (a.h.free z)⟩
/-- a new object that will not change -/
theorem Gr.new {S H : Hp} {p : Addr} {o : HO} (e : Ex S H) (h : H p = none) : Gr S H (upd S p o) (upd H p o) :=
  ⟨Ex.new (e.free h), fun a u q => by
    by_cases ha : a = p
    · subst ha
      rw [upd_same] at q ⊢
      exact q
    · rw [upd_ne ha] at q ⊢
      exact e a u q, Ex.new h, fun a ha => by
    by_cases hap : a = p
    · subst hap
      exact .inr h
    · rw [upd_ne hap] at ha
      exact .inl ha⟩
/-- a new object that may change -/
theorem Gr.own {S H : Hp} {p : Addr} {o : HO} (e : Ex S H) (h : H p = none) : Gr S H S (upd H p o) :=
  ⟨Ex.refl _, e.mut (e.free h), Ex.new h, fun _ ha => .inl ha⟩
theorem SlAt.grow {K : PySem.W.Frag} {F : Fm} {S H S' H' : Hp} {o : Option (Option V)} {s : Sl} (g : Gr S H S' H') (h : SlAt K F S H o s) : SlAt K F S' H' o s := by
  have fr : ∀ (p : Addr) (u : HO), S p = none → H p = some u → S' p = none := fun p u hs hu => by
    cases q : S' p with
    | none => rfl
    | some w =>
      rcases g.nw p (by rw [q]; simp) with z | z
      · exact absurd hs z
      · rw [hu] at z; cases z
  cases s with
  | un => trivial
  | sh d =>
    obtain ⟨v, e, r⟩ := h
    exact ⟨v, e, r.mono g.s⟩
  | ow ds =>
    obtain ⟨p, vs, e, n, b, q, r⟩ := h
    exact ⟨p, vs, e, fr p _ n q, b, g.h _ _ q, r.mono g.s⟩
  | io ds =>
    obtain ⟨p, vs, e, n, b, q, r⟩ := h
    exact ⟨p, vs, e, fr p _ n q, b, g.h _ _ q, r.mono g.s⟩
  | oi C fs =>
    obtain ⟨p, dx, vs, e, n, b, q, r⟩ := h
    exact ⟨p, dx, vs, e, fr p _ n q, b, g.h _ _ q, r.mono g.s⟩
theorem ER.grow {K : PySem.W.Frag} {F : Fm} {sl : List Sl} {σ : L2.St} {S H S' H' : Hp} (R : ER K F sl σ S H) (g : Gr S H S' H') : ER K F sl σ S' H' :=
  ⟨R.bh.trans g.h, g.sh, R.ss.trans g.s, fun a ha => by
    rcases g.nw a ha with z | z
    · exact R.nw a z
    · exact .inr (R.dm a z), fun a ha => R.dm a (g.h.free ha), fun i s e => (R.at_ i s e).grow g, R.ap⟩
end DL
end
section
set_option maxRecDepth 100000
set_option maxHeartbeats 2000000
/-! D2: readings over data, expressions. -/
namespace DL
open PySem L2

abbrev DE := List Sl → (D → List Sl → Prop) → Prop
abbrev DT := List Sl → (Bool → List Sl → Prop) → Prop
abbrev DA := List Sl → (List D → List Sl → Prop) → Prop
def tE (K : PySem.W.Frag) (F : Fm) (de : DE) : TE := fun σ H Q => ∃ sl S P, ER K F sl σ S H ∧ de sl P ∧ ∀ v d sl' S' H', P d sl' → ER K F sl' σ S' H' → Ex S S' → Rep K S' v d → Q v H'
def tTs (K : PySem.W.Frag) (F : Fm) (dt : DT) : TT := fun σ H Q => ∃ sl S P, ER K F sl σ S H ∧ dt sl P ∧ ∀ b sl' S' H', P b sl' → ER K F sl' σ S' H' → Ex S S' → Q b H'
def tAs (K : PySem.W.Frag) (F : Fm) (da : DA) : TA := fun σ H Q => ∃ sl S P, ER K F sl σ S H ∧ da sl P ∧ ∀ vs ds sl' S' H', P ds sl' → ER K F sl' σ S' H' → Ex S S' → Reps K S' vs ds → Q vs H'
/-- an expression, a test, an argument list, read over data -/
def PDE (X : Cx) (F : Fm) (e : Expr) (de : DE) : Prop := PE X e (tE X.K F de)
def PDT (X : Cx) (F : Fm) (e : Expr) (dt : DT) : Prop := PT X e (tTs X.K F dt)
def PDW (X : Cx) (F : Fm) (e : Expr) (dt : DT) : Prop := PW X e (tTs X.K F dt)
def PDA (X : Cx) (F : Fm) (es : List Expr) (da : DA) : Prop := PA X es (tAs X.K F da)
theorem PE_imp {X : Cx} {e : Expr} {t t' : TE} (h : PE X e t) (i : ∀ σ H Q, t' σ H Q → t σ H Q) : PE X e t' := ⟨fun pins s σ H Q I q => h.run pins s σ H Q I (i _ _ _ q)⟩
theorem PT_imp {X : Cx} {e : Expr} {t t' : TT} (h : PT X e t) (i : ∀ σ H Q, t' σ H Q → t σ H Q) : PT X e t' := ⟨fun pins s σ H Q I q => h.run pins s σ H Q I (i _ _ _ q)⟩
theorem PW_imp {X : Cx} {e : Expr} {t t' : TT} (h : PW X e t) (i : ∀ σ H Q, t' σ H Q → t σ H Q) : PW X e t' := ⟨fun wh pins s σ H Q I q => h.run wh pins s σ H Q I (i _ _ _ q)⟩
theorem PA_imp {X : Cx} {e : List Expr} {t t' : TA} (h : PA X e t) (i : ∀ σ H Q, t' σ H Q → t σ H Q) : PA X e t' := ⟨fun pos pins s σ H Q I q => h.run pos pins s σ H Q I (i _ _ _ q)⟩

section
variable {X : Cx} {F : Fm} {a b c e : Expr} {es : List Expr} {pos : Pos} {da db dc de : DE}

/-! ### constants and names -/
def dC (d : D) : DE := fun sl P => P d sl
theorem de_const {v : V} {d : D} (h : PE X e (tC v)) (r : ∀ S, Rep X.K S v d) : PDE X F e (dC d) := PE_imp h fun σ H Q ⟨sl, S, P, R, p, k⟩ => k v d sl S H p R (Ex.refl _) (r S)
theorem de_int {i : Int} {j} : PDE X F (.Constant (.int i) j pos) (dC (.int i)) := de_const pe_int fun _ => .int i
theorem de_bl {i : Bool} {j} : PDE X F (.Constant (.bool i) j pos) (dC (.bl i)) := de_const pe_bl fun _ => .bl i
theorem de_non {j} : PDE X F (.Constant .none j pos) (dC .non) := de_const pe_non fun _ => .non
theorem de_str {i : Str} {j} : PDE X F (.Constant (.str i) j pos) (dC (.str i)) := de_const pe_str fun _ => .str i
theorem de_glob {x : Str} {v : V} {u : Value} {d : D} (hg : Gl X x) (hm : X.mg x = some u) (r : RelV v u) (rd : ∀ S, Rep X.K S v d) (hd : (x == ("__debug__" : Str)) = false := by decide) : PDE X F (.Name x pos) (dC d) := de_const (pe_glob hg hm r hd) rd

/-- a list of one's own that will not change any more -/
theorem ER.freeze {K : PySem.W.Frag} {sl : List Sl} {σ : L2.St} {S H : Hp} {i : Nat} {ds : List D} (R : ER K F sl σ S H) (h : sl[i]? = some (.ow ds)) :
    ∃ p vs, σ[i]? = some (some (.ref p)) ∧ Rep K (upd S p (.lst vs)) (.ref p) (.lst ds) ∧ Ex S (upd S p (.lst vs)) ∧ ER K F (sl.set i (.sh (.lst ds))) σ (upd S p (.lst vs)) H := by
  obtain ⟨p, vs, e, n, b, q, r⟩ := R.at_ i _ h
  have hi : i < sl.length := (List.getElem?_eq_some_iff.mp h).1
  have ex : Ex S (upd S p (.lst vs)) := Ex.new n
  refine ⟨p, vs, e, .lst upd_same (r.mono ex), ex, ⟨R.bh, fun a u z => ?_, R.ss.trans ex, fun a ha => ?_, R.dm, fun j s z => ?_, fun j k q' h1 h2 => ?_⟩⟩
  · by_cases ha : a = p
    · subst ha
      rw [upd_same] at z
      rw [← z]
      exact q
    · rw [upd_ne ha] at z
      exact R.sh a u z
  · by_cases hap : a = p
    · subst hap
      exact .inr b
    · rw [upd_ne hap] at ha
      exact R.nw a ha
  · by_cases hj : i = j
    · subst hj
      rw [List.getElem?_set_self hi] at z
      cases z
      exact ⟨_, e, .lst upd_same (r.mono ex)⟩
    · rw [List.getElem?_set_ne hj] at z
      have w := R.at_ j s z
      have ne : s.own = true → ∀ q', σ[j]? = some (some (.ref q')) → q' ≠ p := fun ho q' hq' hh => by
        subst hh
        exact hj (R.ap i j q' ⟨e, _, h, rfl⟩ ⟨hq', _, z, ho⟩)
      cases s with
      | un => trivial
      | sh d =>
        obtain ⟨v, e1, r1⟩ := w
        exact ⟨v, e1, r1.mono ex⟩
      | ow fs =>
        obtain ⟨p', ws, e1, n1, b1, q1, r1⟩ := w
        exact ⟨p', ws, e1, by rw [upd_ne (ne rfl p' e1)]; exact n1, b1, q1, r1.mono ex⟩
      | io fs =>
        obtain ⟨p', ws, e1, n1, b1, q1, r1⟩ := w
        exact ⟨p', ws, e1, by rw [upd_ne (ne rfl p' e1)]; exact n1, b1, q1, r1.mono ex⟩
      | oi C fs =>
        obtain ⟨p', dx, ws, e1, n1, b1, q1, r1⟩ := w
        exact ⟨p', dx, ws, e1, by rw [upd_ne (ne rfl p' e1)]; exact n1, b1, q1, r1.mono ex⟩
  · have back : ∀ {m : Nat}, OwnAt σ (sl.set i (.sh (.lst ds))) m q' → OwnAt σ sl m q' := fun {m} ⟨g1, s, g2, g3⟩ => by
      by_cases hm : i = m
      · subst hm
        rw [List.getElem?_set_self hi] at g2
        cases g2
        cases g3
      · rw [List.getElem?_set_ne hm] at g2
        exact ⟨g1, s, g2, g3⟩
    exact R.ap j k q' (back h1) (back h2)
/-- a name: data as it stands; a list of one's own is given away (it will not change any more) -/
def dVar (i : Nat) : DE := fun sl P => match sl[i]? with
  | some (.sh d) => P d sl
  | some (.ow ds) => P (.lst ds) (sl.set i (.sh (.lst ds)))
  | _ => False
theorem de_var (i : Nat) {x : Str} (hN : X.N[i]? = some x := by rfl) (hv : Vis X.env.scope x := by first | exact Or.inl rfl | exact Or.inr (Or.inl rfl) | exact Or.inr (Or.inr rfl)) (hd : (x == ("__debug__" : Str)) = false := by decide)
    (hcd : (x == ("__classdict__" : Str)) = false := by decide) : PDE X F (.Name x pos) (dVar i) := PE_imp (pe_var hN hv hd hcd) fun σ H Q ⟨sl, S, P, R, p, k⟩ => by
  unfold dVar at p
  split at p
  · rename_i d h
    obtain ⟨v, e, r⟩ := R.at_ i _ h
    exact ⟨v, e, k v d sl S H p R (Ex.refl _) r⟩
  · rename_i ds h
    obtain ⟨q, vs, e, r, ex, R'⟩ := R.freeze h
    exact ⟨_, e, k _ _ _ _ H p R' ex r⟩
  · exact p.elim

/-! ### operators -/
/-- a two-place operation, over data -/
abbrev RD2 := D → D → (D → Prop) → Prop
def LR2 (K : PySem.W.Frag) (r : R2) (rd : RD2) : Prop := ∀ (x y : V) (a b : D) (S H : Hp) (P : D → Prop) (Q : VK), Ex S H → Rep K S x a → Rep K S y b → rd a b P → (∀ v d S' H', P d → Gr S H S' H' → Rep K S' v d → Q v H') → r x y H Q
def dOp (rd : RD2) (da db : DE) : DE := fun sl P => da sl fun x sl1 => db sl1 fun y sl2 => rd x y fun d => P d sl2
theorem lift2 {K : PySem.W.Frag} {r : R2} {rd : RD2} (l : LR2 K r rd) : ∀ σ H Q, tE K F (dOp rd da db) σ H Q → tOp r (tE K F da) (tE K F db) σ H Q := fun σ H Q ⟨sl, S, P, R, p, k⟩ =>
  ⟨sl, S, _, R, p, fun x dx sl1 S1 H1 p1 R1 e1 r1 => ⟨sl1, S1, _, R1, p1, fun y dy sl2 S2 H2 p2 R2 e2 r2 =>
    l x y dx dy S2 H2 _ Q R2.sh (r1.mono e2) r2 p2 fun v d S3 H3 p3 g r3 => k v d sl2 S3 H3 p3 (R2.grow g) (e1.trans (e2.trans g.s)) r3⟩⟩
theorem de_op {op : Operator} {r : R2} {rd : RD2} (ho : OpR X (binaryOp op) r) (l : LR2 X.K r rd) (ha : PDE X F a da) (hb : PDE X F b db) : PDE X F (.BinOp a op b pos) (dOp rd da db) := PE_imp (pe_op ho ha hb) (lift2 l)
def rdI (C : Int → Int → Prop) (g : Int → Int → D) : RD2 := fun a b P => match a, b with
  | .int i, .int j => C i j ∧ P (g i j)
  | _, _ => False
def rdI0 (g : Int → Int → D) : RD2 := fun a b P => match a, b with
  | .int i, .int j => P (g i j)
  | _, _ => False
theorem lr_I0 {K : PySem.W.Frag} {g : Int → Int → V} {gd : Int → Int → D} (h : ∀ i j S, Rep K S (g i j) (gd i j)) : LR2 K (rI0 g) (rdI0 gd) := fun x y a b S H P Q e ra rb p k => by
  cases ra <;> first | exact p.elim | skip
  cases rb <;> first | exact p.elim | skip
  exact ⟨_, _, rfl, rfl, k _ _ S H p (Gr.refl e) (h _ _ S)⟩
theorem lr_I {K : PySem.W.Frag} {C : Int → Int → Prop} {g : Int → Int → V} {gd : Int → Int → D} (h : ∀ i j S, Rep K S (g i j) (gd i j)) : LR2 K (rI C g) (rdI C gd) := fun x y a b S H P Q e ra rb p k => by
  cases ra <;> first | exact p.elim | skip
  cases rb <;> first | exact p.elim | skip
  exact ⟨_, _, rfl, rfl, p.1, k _ _ S H p.2 (Gr.refl e) (h _ _ S)⟩
theorem de_add (ha : PDE X F a da) (hb : PDE X F b db) : PDE X F (.BinOp a .Add b pos) (dOp (rdI0 fun i j => .int (i + j)) da db) := de_op op_add (lr_I0 fun _ _ _ => .int _) ha hb
theorem de_sub (ha : PDE X F a da) (hb : PDE X F b db) : PDE X F (.BinOp a .Sub b pos) (dOp (rdI0 fun i j => .int (i - j)) da db) := de_op op_sub (lr_I0 fun _ _ _ => .int _) ha hb
theorem de_mul (ha : PDE X F a da) (hb : PDE X F b db) : PDE X F (.BinOp a .Mult b pos) (dOp (rdI CMul fun i j => .int (i * j)) da db) := de_op op_mul (lr_I fun _ _ _ => .int _) ha hb
theorem de_fdiv (ha : PDE X F a da) (hb : PDE X F b db) : PDE X F (.BinOp a .FloorDiv b pos) (dOp (rdI CDiv fun i j => .int (i / j)) da db) := de_op op_fdiv (lr_I fun _ _ _ => .int _) ha hb
theorem de_mod (ha : PDE X F a da) (hb : PDE X F b db) : PDE X F (.BinOp a .Mod b pos) (dOp (rdI (fun _ j => 0 < j) fun i j => .int (i % j)) da db) := de_op op_mod (lr_I fun _ _ _ => .int _) ha hb
theorem de_pow (ha : PDE X F a da) (hb : PDE X F b db) : PDE X F (.BinOp a .Pow b pos) (dOp (rdI CPow fun i j => .int (i ^ j.toNat)) da db) := de_op op_pow (lr_I fun _ _ _ => .int _) ha hb
def dUn (g : Int → Int) (da : DE) : DE := fun sl P => da sl fun x sl1 => match x with
  | .int i => P (.int (g i)) sl1
  | _ => False
theorem de_neg (ha : PDE X F a da) : PDE X F (.UnaryOp .USub a pos) (dUn (fun i => -i) da) := PE_imp (pe_un un_neg ha) fun σ H Q ⟨sl, S, P, R, p, k⟩ => ⟨sl, S, _, R, p, fun x d sl1 S1 H1 p1 R1 e1 r1 => by
  cases r1 <;> first | exact p1.elim | skip
  exact ⟨_, rfl, k _ _ sl1 S1 H1 p1 R1 e1 (.int _)⟩⟩

/-! ### comparisons -/
theorem de_cmp {op : CmpOp} {r : R2} {rd : RD2} (ho : OpR X (compareOp op) r) (l : LR2 X.K r rd) (ha : PDE X F a da) (hb : PDE X F b db) (h1 : behindInMarks op b = false := by first | exact nomark _ | rfl) : PDE X F (.Compare a [op] [b] pos) (dOp rd da db) := PE_imp (pe_cmpR ho ha hb h1) (lift2 l)
/-- a truth as a test -/
def dTest (de : DE) : DT := fun sl P => de sl fun x sl1 => match x with
  | .bl k => P k sl1
  | _ => False
theorem liftTest {K : PySem.W.Frag} {te : TE} (h : ∀ σ H Q, tE K F de σ H Q → te σ H Q) : ∀ σ H Q, tTs K F (dTest de) σ H Q → tTest te σ H Q := fun σ H Q ⟨sl, S, P, R, p, k⟩ =>
  h _ _ _ ⟨sl, S, _, R, p, fun x d sl1 S1 H1 p1 R1 e1 r1 => by
    cases r1 <;> first | exact p1.elim | skip
    exact ⟨_, rfl, k _ sl1 S1 H1 p1 R1 e1⟩⟩
theorem dt_cmp {op : CmpOp} {r : R2} {rd : RD2} (ho : OpR X (compareOp op) r) (l : LR2 X.K r rd) (ha : PDE X F a da) (hb : PDE X F b db) (h1 : behindInMarks op b = false := by first | exact nomark _ | rfl) : PDT X F (.Compare a [op] [b] pos) (dTest (dOp rd da db)) := PT_imp (pt_cmpR ho ha hb h1) (liftTest (lift2 l))
theorem dt_val (h : PDE X F e de) (he : ∀ whole, isTrue e X.env whole = (do let v ← whole; standAt e.pos; holding [v] (truthy v)) := by intro _; rfl) : PDT X F e (dTest de) := PT_imp (pt_val h he) (liftTest fun _ _ _ q => q)
end
end DL
end
section
set_option maxRecDepth 100000
set_option maxHeartbeats 2000000
/-! D3: truth, equality, displays, subscripts, fields, calls. -/
namespace DL
open PySem L2 StX

section
variable {X : Cx} {F : Fm} {a b c e : Expr} {es rest : List Expr} {pos : Pos} {da db dc de : DE} {ta tb : DT} {dA : DA}

/-! ### and, or, not, if .. else -/
def dAnd (t u : DT) : DT := fun sl P => t sl fun k sl1 => if k = true then u sl1 P else P false sl1
def dOr (t u : DT) : DT := fun sl P => t sl fun k sl1 => if k = true then P true sl1 else u sl1 P
def dNot (t : DT) : DT := fun sl P => t sl fun k sl1 => P (!k) sl1
theorem dw_and1 (ha : PDT X F a ta) : PDW X F (.BoolOp .And [a] pos) ta := pw_and1 ha
theorem dw_or1 (ha : PDT X F a ta) : PDW X F (.BoolOp .Or [a] pos) ta := pw_or1 ha
theorem dw_and (ha : PDT X F a ta) (hb : PDW X F (.BoolOp .And (b :: rest) pos) tb) : PDW X F (.BoolOp .And (a :: b :: rest) pos) (dAnd ta tb) := PW_imp (pw_and ha hb) fun σ H Q ⟨sl, S, P, R, p, k⟩ =>
  ⟨sl, S, _, R, p, fun t sl1 S1 H1 p1 R1 e1 => by
    cases t with
    | true => exact iteT ⟨sl1, S1, P, R1, by simpa using p1, fun b sl2 S2 H2 p2 R2 e2 => k b sl2 S2 H2 p2 R2 (e1.trans e2)⟩
    | false => exact iteF (k _ sl1 S1 H1 (by simpa using p1) R1 e1)⟩
theorem dw_or (ha : PDT X F a ta) (hb : PDW X F (.BoolOp .Or (b :: rest) pos) tb) : PDW X F (.BoolOp .Or (a :: b :: rest) pos) (dOr ta tb) := PW_imp (pw_or ha hb) fun σ H Q ⟨sl, S, P, R, p, k⟩ =>
  ⟨sl, S, _, R, p, fun t sl1 S1 H1 p1 R1 e1 => by
    cases t with
    | false => exact iteF ⟨sl1, S1, P, R1, by simpa using p1, fun b sl2 S2 H2 p2 R2 e2 => k b sl2 S2 H2 p2 R2 (e1.trans e2)⟩
    | true => exact iteT (k _ sl1 S1 H1 (by simpa using p1) R1 e1)⟩
theorem dt_w (h : PDW X F e ta) : PDT X F e ta := PW.pt h
theorem dt_not (ha : PDT X F a ta) : PDT X F (.UnaryOp .Not a pos) (dNot ta) := PT_imp (pt_not ha) fun σ H Q ⟨sl, S, P, R, p, k⟩ => ⟨sl, S, _, R, p, fun t sl1 S1 H1 p1 R1 e1 => k _ sl1 S1 H1 p1 R1 e1⟩
/-- as values: truths -/
def dAndV (a b : DE) : DE := fun sl P => a sl fun x sl1 => match x with
  | .bl k => if k = true then b sl1 P else P (.bl false) sl1
  | _ => False
def dOrV (a b : DE) : DE := fun sl P => a sl fun x sl1 => match x with
  | .bl k => if k = true then P (.bl true) sl1 else b sl1 P
  | _ => False
def dNotV (a : DE) : DE := fun sl P => a sl fun x sl1 => match x with
  | .bl k => P (.bl (!k)) sl1
  | _ => False
theorem de_one {op} (ha : PDE X F a da) : PDE X F (.BoolOp op [a] pos) da := pe_one ha
theorem de_and (ha : PDE X F a da) (hb : PDE X F (.BoolOp .And (b :: rest) pos) db) : PDE X F (.BoolOp .And (a :: b :: rest) pos) (dAndV da db) := PE_imp (pe_and ha hb) fun σ H Q ⟨sl, S, P, R, p, k⟩ =>
  ⟨sl, S, _, R, p, fun v d sl1 S1 H1 p1 R1 e1 r1 => by
    cases r1 <;> first | exact p1.elim | skip
    rename_i t
    refine ⟨_, rfl, ?_⟩
    cases t with
    | true => exact iteT ⟨sl1, S1, P, R1, by simpa using p1, fun b d sl2 S2 H2 p2 R2 e2 r2 => k b d sl2 S2 H2 p2 R2 (e1.trans e2) r2⟩
    | false => exact iteF (k _ _ sl1 S1 H1 (by simpa using p1) R1 e1 (.bl _))⟩
theorem de_or (ha : PDE X F a da) (hb : PDE X F (.BoolOp .Or (b :: rest) pos) db) : PDE X F (.BoolOp .Or (a :: b :: rest) pos) (dOrV da db) := PE_imp (pe_or ha hb) fun σ H Q ⟨sl, S, P, R, p, k⟩ =>
  ⟨sl, S, _, R, p, fun v d sl1 S1 H1 p1 R1 e1 r1 => by
    cases r1 <;> first | exact p1.elim | skip
    rename_i t
    refine ⟨_, rfl, ?_⟩
    cases t with
    | false => exact iteF ⟨sl1, S1, P, R1, by simpa using p1, fun b d sl2 S2 H2 p2 R2 e2 r2 => k b d sl2 S2 H2 p2 R2 (e1.trans e2) r2⟩
    | true => exact iteT (k _ _ sl1 S1 H1 (by simpa using p1) R1 e1 (.bl _))⟩
theorem de_not (ha : PDE X F a da) : PDE X F (.UnaryOp .Not a pos) (dNotV da) := PE_imp (pe_not ha) fun σ H Q ⟨sl, S, P, R, p, k⟩ =>
  ⟨sl, S, _, R, p, fun v d sl1 S1 H1 p1 R1 e1 r1 => by
    cases r1 <;> first | exact p1.elim | skip
    exact ⟨_, rfl, k _ _ sl1 S1 H1 p1 R1 e1 (.bl _)⟩⟩
def dIf (t : DT) (a b : DE) : DE := fun sl P => t sl fun k sl1 => if k = true then a sl1 P else b sl1 P
theorem de_if (hc : PDT X F c ta) (ha : PDE X F a da) (hb : PDE X F b db) : PDE X F (.IfExp c a b pos) (dIf ta da db) := PE_imp (pe_ifExp hc ha hb) fun σ H Q ⟨sl, S, P, R, p, k⟩ =>
  ⟨sl, S, _, R, p, fun t sl1 S1 H1 p1 R1 e1 => by
    cases t with
    | true => exact iteT ⟨sl1, S1, P, R1, by simpa using p1, fun b d sl2 S2 H2 p2 R2 e2 r2 => k b d sl2 S2 H2 p2 R2 (e1.trans e2) r2⟩
    | false => exact iteF ⟨sl1, S1, P, R1, by simpa using p1, fun b d sl2 S2 H2 p2 R2 e2 r2 => k b d sl2 S2 H2 p2 R2 (e1.trans e2) r2⟩⟩
/-- a op b op' c -/
def dChain (r r' : RD2) (a b c : DE) : DE := fun sl P => a sl fun x sl1 => b sl1 fun y sl2 => r x y fun z => match z with
  | .bl k => if k = true then c sl2 fun w sl3 => r' y w fun d => P d sl3 else P (.bl false) sl2
  | _ => False
theorem liftC {K : PySem.W.Frag} {r r' : R2} {rd rd' : RD2} (l : LR2 K r rd) (l' : LR2 K r' rd') : ∀ σ H Q, tE K F (dChain rd rd' da db dc) σ H Q → tChain r r' (tE K F da) (tE K F db) (tE K F dc) σ H Q := fun σ H Q ⟨sl, S, P, R, p, k⟩ =>
  ⟨sl, S, _, R, p, fun x dx sl1 S1 H1 p1 R1 e1 r1 => ⟨sl1, S1, _, R1, p1, fun y dy sl2 S2 H2 p2 R2 e2 r2 =>
    l x y dx dy S2 H2 _ _ R2.sh (r1.mono e2) r2 p2 fun v d S3 H3 p3 g r3 => by
      cases r3 <;> first | exact p3.elim | skip
      rename_i t
      refine ⟨_, rfl, ?_⟩
      cases t with
      | true => exact iteT ⟨sl2, S3, _, R2.grow g, by simpa using p3, fun w dw sl4 S4 H4 p4 R4 e4 r4 => l' y w dy dw S4 H4 _ _ R4.sh (r2.mono (g.s.trans e4)) r4 p4 fun v d S5 H5 p5 g5 r5 =>
          k v d sl4 S5 H5 p5 (R4.grow g5) (e1.trans (e2.trans (g.s.trans (e4.trans g5.s)))) r5⟩
      | false => exact iteF (k _ _ sl2 S3 H3 (by simpa using p3) (R2.grow g) (e1.trans (e2.trans g.s)) (.bl _))⟩⟩
theorem de_chain {op op' : CmpOp} {r r' : R2} {rd rd' : RD2} (ho : OpR X (compareOp op) r) (l : LR2 X.K r rd) (ho' : OpR X (compareOp op') r') (l' : LR2 X.K r' rd') (ha : PDE X F a da) (hb : PDE X F b db) (hc : PDE X F c dc)
    (hm : lastMarks [op, op'] [b, c] = false := by with_unfolding_all rfl) : PDE X F (.Compare a [op, op'] [b, c] pos) (dChain rd rd' da db dc) := PE_imp (pe_chain ho ho' ha hb hc hm) (liftC l l')
theorem dt_chain {op op' : CmpOp} {r r' : R2} {rd rd' : RD2} (ho : OpR X (compareOp op) r) (l : LR2 X.K r rd) (ho' : OpR X (compareOp op') r') (l' : LR2 X.K r' rd') (ha : PDE X F a da) (hb : PDE X F b db) (hc : PDE X F c dc)
    (hm : lastMarks [op, op'] [b, c] = false := by with_unfolding_all rfl) : PDT X F (.Compare a [op, op'] [b, c] pos) (dTest (dChain rd rd' da db dc)) := PT_imp (pt_chain ho ho' ha hb hc hm) (liftTest (liftC l l'))
/-- orders of ints -/
abbrev rdLt : RD2 := rdI0 fun i j => .bl (decide (i < j))
abbrev rdLe : RD2 := rdI0 fun i j => .bl (decide (i ≤ j))
abbrev rdGt : RD2 := rdI0 fun i j => .bl (decide (j < i))
abbrev rdGe : RD2 := rdI0 fun i j => .bl (decide (j ≤ i))
theorem lr_lt {K} : LR2 K (rI0 fun i j => .bl (decide (i < j))) rdLt := lr_I0 fun _ _ _ => .bl _
theorem lr_le {K} : LR2 K (rI0 fun i j => .bl (decide (i ≤ j))) rdLe := lr_I0 fun _ _ _ => .bl _
theorem lr_gt {K} : LR2 K (rI0 fun i j => .bl (decide (j < i))) rdGt := lr_I0 fun _ _ _ => .bl _
theorem lr_ge {K} : LR2 K (rI0 fun i j => .bl (decide (j ≤ i))) rdGe := lr_I0 fun _ _ _ => .bl _

/-! ### equality of data -/
mutual
def D.py : D → Option PyData
  | .non => some .none
  | .bl b => some (.bool b)
  | .int i => some (.int i)
  | .str s => some (.str s)
  | .tup xs => (D.pys xs).map .tuple
  | .lst xs => (D.pys xs).map .list
  | _ => none
def D.pys : List D → Option (List PyData)
  | [] => some []
  | x :: xs => (D.py x).bind fun p => (D.pys xs).map fun ps => p :: ps
end
mutual
theorem Rep.dp {K : PySem.W.Frag} {H : Hp} : ∀ {v : V} {d : D} {p : PyData}, Rep K H v d → d.py = some p → Dp K H v p
  | _, _, _, .non, e => by cases e; exact .non
  | _, _, _, .bl b, e => by cases e; exact .bl b
  | _, _, _, .int b, e => by cases e; exact .int b
  | _, _, _, .str b, e => by cases e; exact .str b
  | _, _, p, .lst (ds := ds) h r, e => by
    rw [D.py] at e
    cases q : D.pys ds with
    | none => rw [q] at e; cases e
    | some ps =>
      rw [q] at e
      cases e
      exact .lst (.inl (.inl h)) (Reps.dp r q)
  | _, _, p, .tup (ds := ds) h r, e => by
    rw [D.py] at e
    cases q : D.pys ds with
    | none => rw [q] at e; cases e
    | some ps =>
      rw [q] at e
      cases e
      exact .tup h (Reps.dp r q)
  | _, _, _, .ins _ _, e => by simp [D.py] at e
  | _, _, _, .scr _, e => by simp [D.py] at e
  | _, _, _, .ty _, e => by simp [D.py] at e
  | _, _, _, .cls _, e => by simp [D.py] at e
theorem Reps.dp {K : PySem.W.Frag} {H : Hp} : ∀ {v : List V} {d : List D} {p : List PyData}, Reps K H v d → D.pys d = some p → DpAll K H v p
  | _, _, _, .nil, e => by rw [D.pys] at e; cases e; exact .nil
  | _, _, p, .cons (d := d) (ds := ds) h r, e => by
    rw [D.pys] at e
    cases q : D.py d with
    | none => rw [q] at e; cases e
    | some x =>
      rw [q] at e
      cases q2 : D.pys ds with
      | none => rw [q2] at e; cases e
      | some ps =>
        rw [q2] at e
        cases e
        exact .cons (Rep.dp h q) (Reps.dp r q2)
end
def rdEq : RD2 := fun a b P => match a, b with
  | .int i, .int j => P (.bl (decide (i = j)))
  | .str i, .str j => P (.bl (decide (i = j)))
  | .bl i, .bl j => P (.bl (decide (i = j)))
  | a, b => ∃ p q, a.py = some p ∧ b.py = some q ∧ SeqAt.shaped p = true ∧ SeqAt.shaped q = true ∧ P (.bl (PyData.eqv p q))
def rdNe : RD2 := fun a b P => match a, b with
  | .int i, .int j => P (.bl (!decide (i = j)))
  | .str i, .str j => P (.bl (!decide (i = j)))
  | .bl i, .bl j => P (.bl (!decide (i = j)))
  | a, b => ∃ p q, a.py = some p ∧ b.py = some q ∧ SeqAt.shaped p = true ∧ SeqAt.shaped q = true ∧ P (.bl (!PyData.eqv p q))
theorem beq_dec {α : Type} [BEq α] [LawfulBEq α] [DecidableEq α] (a b : α) : (a == b) = decide (a = b) := by
  rw [Bool.eq_iff_iff]
  simp
theorem shaped_int (i : Int) : SeqAt.shaped (.int i) = true := by simp [SeqAt.shaped, PyData.canLay0, PyData.depth]
theorem shaped_bool (i : Bool) : SeqAt.shaped (.bool i) = true := by simp [SeqAt.shaped, PyData.canLay0, PyData.depth]
theorem OpR_or {X : Cx} {f : Value → Value → Sem Value} {r r' : R2} (h : OpR X f r) (h' : OpR X f r') : OpR X f (fun x y H Q => r x y H Q ∨ r' x y H Q) := fun pins s σ H x y v u Q I rx ry q => by
  rcases q with q | q
  · exact h pins s σ H x y v u Q I rx ry q
  · exact h' pins s σ H x y v u Q I rx ry q
def rEq2 (K : PySem.W.Frag) : R2 := fun x y H Q => rEq x y H Q ∨ rEqD K x y H Q
def rNe2 (K : PySem.W.Frag) : R2 := fun x y H Q => rNe x y H Q ∨ rNeD K x y H Q
theorem op_eq2 {X : Cx} (hu : X.A.units + 64 < cLine) : OpR X (compareOp .Eq) (rEq2 X.K) := OpR_or op_eq (op_eqD hu)
theorem op_ne2 {X : Cx} (hu : X.A.units + 64 < cLine) : OpR X (compareOp .NotEq) (rNe2 X.K) := OpR_or op_ne (op_neD hu)
theorem lr_eq {K} : LR2 K (rEq2 K) rdEq := fun x y a b S H P Q e ra rb p k => by
  unfold rdEq at p
  split at p
  · cases ra; cases rb
    exact .inl ⟨rfl, k _ _ S H p (Gr.refl e) (by simp only [V.int.injEq]; exact .bl _)⟩
  · cases ra; cases rb
    exact .inl ⟨rfl, k _ _ S H p (Gr.refl e) (by simp only [V.str.injEq]; exact .bl _)⟩
  · cases ra; cases rb
    exact .inl ⟨rfl, k _ _ S H p (Gr.refl e) (by simp only [V.bl.injEq]; exact .bl _)⟩
  · obtain ⟨u, w, h1, h2, h3, h4, h5⟩ := p
    exact .inr ⟨u, w, (ra.mono e).dp h1, (rb.mono e).dp h2, h3, h4, k _ _ S H h5 (Gr.refl e) (.bl _)⟩
theorem lr_ne {K} : LR2 K (rNe2 K) rdNe := fun x y a b S H P Q e ra rb p k => by
  unfold rdNe at p
  split at p
  · cases ra; cases rb
    exact .inl ⟨rfl, k _ _ S H p (Gr.refl e) (by simp only [V.int.injEq]; exact .bl _)⟩
  · cases ra; cases rb
    exact .inl ⟨rfl, k _ _ S H p (Gr.refl e) (by simp only [V.str.injEq]; exact .bl _)⟩
  · cases ra; cases rb
    exact .inl ⟨rfl, k _ _ S H p (Gr.refl e) (by simp only [V.bl.injEq]; exact .bl _)⟩
  · obtain ⟨u, w, h1, h2, h3, h4, h5⟩ := p
    exact .inr ⟨u, w, (ra.mono e).dp h1, (rb.mono e).dp h2, h3, h4, k _ _ S H h5 (Gr.refl e) (.bl _)⟩
/-- is None -/
def D.isNon : D → Bool
  | .non => true
  | _ => false
theorem Rep.isNon {K : PySem.W.Frag} {H : Hp} {v : V} {d : D} (r : Rep K H v d) : decide (v = .non) = d.isNon := by
  cases r <;> simp [D.isNon]
def rdIsN : RD2 := fun a b P => match b with
  | .non => P (.bl a.isNon)
  | _ => False
def rdNotN : RD2 := fun a b P => match b with
  | .non => P (.bl (!a.isNon))
  | _ => False
theorem lr_isN {K} : LR2 K (fun x y H Q => y = .non ∧ Q (.bl (decide (x = .non))) H) rdIsN := fun x y a b S H P Q e ra rb p k => by
  cases rb <;> first | exact p.elim | skip
  exact ⟨rfl, k _ _ S H p (Gr.refl e) (by rw [ra.isNon]; exact .bl _)⟩
theorem lr_notN {K} : LR2 K (fun x y H Q => y = .non ∧ Q (.bl (!decide (x = .non))) H) rdNotN := fun x y a b S H P Q e ra rb p k => by
  cases rb <;> first | exact p.elim | skip
  exact ⟨rfl, k _ _ S H p (Gr.refl e) (by rw [ra.isNon]; exact .bl _)⟩
/-- x in a list, by == of data -/
def rdIn (neg : Bool) : RD2 := fun a b P => ∃ p ps, a.py = some p ∧ b.py = some (.list ps) ∧ SeqAt.shaped p = true ∧ SeqAt.shaped (.list ps) = true ∧ P (.bl (if neg then !ps.any fun z => PyData.eqv z p else ps.any fun z => PyData.eqv z p))
theorem lr_in {K} : LR2 K (rInD K) (rdIn false) := fun x y a b S H P Q e ra rb p k => by
  obtain ⟨u, w, h1, h2, h3, h4, h5⟩ := p
  exact ⟨u, w, (ra.mono e).dp h1, (rb.mono e).dp h2, h3, h4, k _ _ S H h5 (Gr.refl e) (.bl _)⟩
theorem lr_notIn {K} : LR2 K (rNotInD K) (rdIn true) := fun x y a b S H P Q e ra rb p k => by
  obtain ⟨u, w, h1, h2, h3, h4, h5⟩ := p
  exact ⟨u, w, (ra.mono e).dp h1, (rb.mono e).dp h2, h3, h4, k _ _ S H h5 (Gr.refl e) (.bl _)⟩

/-! ### displays -/
def dNil : DA := fun sl P => P [] sl
def dCons (a : DE) (r : DA) : DA := fun sl P => a sl fun x sl1 => r sl1 fun xs sl2 => P (x :: xs) sl2
theorem da_nil : PDA X F [] dNil := PA_imp pa_nil fun σ H Q ⟨sl, S, P, R, p, k⟩ => k [] [] sl S H p R (Ex.refl _) .nil
theorem da_cons (ha : PDE X F e da) (hr : PDA X F es dA) (hs : starEach (e :: es) X.env = (false, eval e X.env) :: starEach es X.env := by rfl) : PDA X F (e :: es) (dCons da dA) := PA_imp (pa_cons ha hr hs) fun σ H Q ⟨sl, S, P, R, p, k⟩ =>
  ⟨sl, S, _, R, p, fun v d sl1 S1 H1 p1 R1 e1 r1 => ⟨sl1, S1, _, R1, p1, fun vs ds sl2 S2 H2 p2 R2 e2 r2 => k (v :: vs) (d :: ds) sl2 S2 H2 p2 R2 (e1.trans e2) (.cons (r1.mono e2) r2)⟩⟩
/-- *e -/
def dStar (a : DE) (r : DA) : DA := fun sl P => a sl fun x sl1 => match x with
  | .lst xs => r sl1 fun ys sl2 => P (xs ++ ys) sl2
  | .tup xs => r sl1 fun ys sl2 => P (xs ++ ys) sl2
  | _ => False
theorem da_star {p : Pos} (ha : PDE X F e da) (hr : PDA X F es dA) (hs : starEach (.Starred e p :: es) X.env = (true, eval e X.env) :: starEach es X.env := by rfl) : PDA X F (.Starred e p :: es) (dStar da dA) := PA_imp (pa_star ha hr hs) fun σ H Q ⟨sl, S, P, R, p, k⟩ =>
  ⟨sl, S, _, R, p, fun v d sl1 S1 H1 p1 R1 e1 r1 => by
    cases r1 <;> first | exact p1.elim | skip
    · rename_i a xs ds h r
      exact ⟨a, xs, rfl, .inr (.inl (.inl (R1.sh _ _ h))), sl1, S1, _, R1, p1, fun vs ds sl2 S2 H2 p2 R2 e2 r2 => k _ _ sl2 S2 H2 p2 R2 (e1.trans e2) ((r.mono e2).append r2)⟩
    · rename_i a xs ds h r
      exact ⟨a, xs, rfl, .inl (R1.sh.sqT h), sl1, S1, _, R1, p1, fun vs ds sl2 S2 H2 p2 R2 e2 r2 => k _ _ sl2 S2 H2 p2 R2 (e1.trans e2) ((r.mono e2).append r2)⟩⟩
def dTup (r : DA) : DE := fun sl P => r sl fun xs sl1 => xs.length ≤ sizeLine ∧ P (.tup xs) sl1
theorem de_tup {x1} (h : PDA X F es dA) : PDE X F (.Tuple es x1 pos) (dTup dA) := PE_imp (pe_tup h) fun σ H Q ⟨sl, S, P, R, p, k⟩ =>
  ⟨sl, S, _, R, p, fun vs ds sl1 S1 H1 p1 R1 e1 r1 => ⟨by rw [r1.length]; exact p1.1, fun q hq => by
    have g : Gr S1 H1 (upd S1 q (.tup vs)) (upd H1 q (.tup vs)) := Gr.new R1.sh hq
    exact k _ _ sl1 _ _ p1.2 (R1.grow g) (e1.trans g.s) (.tup (SqT.of upd_same) (r1.mono g.s))⟩⟩
/-- an expression that makes a new list -/
def tN (K : PySem.W.Frag) (F : Fm) (da : DA) : TE := fun σ H Q => ∃ sl S P, ER K F sl σ S H ∧ da sl P ∧ ∀ p vs ds sl' S' H', P ds sl' → ER K F sl' σ S' H' → Ex S S' → S' p = none → F.N p → H' p = some (.lst vs) → Reps K S' vs ds → (∀ i, ¬ OwnAt σ sl' i p) → Q (.ref p) H'
def PDN (X : Cx) (F : Fm) (e : Expr) (da : DA) : Prop := PE X e (tN X.K F da)
/-- what stands at a new address is no slot's own -/
theorem ER.notOwn {K : PySem.W.Frag} {sl : List Sl} {σ : L2.St} {S H : Hp} (R : ER K F sl σ S H) {q : Addr} (hq : H q = none) (i : Nat) : ¬ OwnAt σ sl i q := fun ⟨h1, s, h2, h3⟩ => by
  have w := R.at_ i s h2
  cases s with
  | un => cases h3
  | sh _ => cases h3
  | ow ds =>
    obtain ⟨p, vs, e, _, _, z, _⟩ := w
    rw [h1] at e
    cases e
    rw [hq] at z
    cases z
  | io ds =>
    obtain ⟨p, vs, e, _, _, z, _⟩ := w
    rw [h1] at e
    cases e
    rw [hq] at z
    cases z
  | oi C fs =>
    obtain ⟨p, dx, vs, e, _, _, z, _⟩ := w
    rw [h1] at e
    cases e
    rw [hq] at z
    cases z
def dLst (r : DA) : DA := fun sl P => r sl fun xs sl1 => xs.length ≤ sizeLine ∧ P xs sl1
theorem dn_lst (h : PDA X F es dA) : PDN X F (.List es pos) (dLst dA) := PE_imp (pe_lst h) fun σ H Q ⟨sl, S, P, R, p, k⟩ =>
  ⟨sl, S, _, R, p, fun vs ds sl1 S1 H1 p1 R1 e1 r1 => ⟨by rw [r1.length]; exact p1.1, fun q hq => by
    have g : Gr S1 H1 S1 (upd H1 q (.lst vs)) := Gr.own R1.sh hq
    exact k _ _ _ sl1 _ _ p1.2 (R1.grow g) e1 (R1.sh.free hq) (R1.dm q hq) upd_same r1 (R1.notOwn hq)⟩⟩
/-- a new list, as data -/
def dShare (a : DA) : DE := fun sl P => a sl fun xs sl1 => P (.lst xs) sl1
theorem ER.share {K : PySem.W.Frag} {sl : List Sl} {σ : L2.St} {S H : Hp} {p : Addr} {vs : List V} (R : ER K F sl σ S H) (n : S p = none) (hN : F.N p) (q : H p = some (.lst vs)) (no : ∀ i, ¬ OwnAt σ sl i p) : ER K F sl σ (upd S p (.lst vs)) H := by
  have ex : Ex S (upd S p (.lst vs)) := Ex.new n
  refine ⟨R.bh, fun a u z => ?_, R.ss.trans ex, fun a ha => ?_, R.dm, fun j s z => ?_, R.ap⟩
  · by_cases ha : a = p
    · subst ha
      rw [upd_same] at z
      rw [← z]
      exact q
    · rw [upd_ne ha] at z
      exact R.sh a u z
  · by_cases hap : a = p
    · subst hap
      exact .inr hN
    · rw [upd_ne hap] at ha
      exact R.nw a ha
  · have w := R.at_ j s z
    have ne : s.own = true → ∀ q', σ[j]? = some (some (.ref q')) → q' ≠ p := fun ho q' hq' hh => by
      subst hh
      exact no j ⟨hq', _, z, ho⟩
    cases s with
    | un => trivial
    | sh d =>
      obtain ⟨v, e1, r1⟩ := w
      exact ⟨v, e1, r1.mono ex⟩
    | ow fs =>
      obtain ⟨p', ws, e1, n1, b1, q1, r1⟩ := w
      exact ⟨p', ws, e1, by rw [upd_ne (ne rfl p' e1)]; exact n1, b1, q1, r1.mono ex⟩
    | io fs =>
      obtain ⟨p', ws, e1, n1, b1, q1, r1⟩ := w
      exact ⟨p', ws, e1, by rw [upd_ne (ne rfl p' e1)]; exact n1, b1, q1, r1.mono ex⟩
    | oi C fs =>
      obtain ⟨p', dx, ws, e1, n1, b1, q1, r1⟩ := w
      exact ⟨p', dx, ws, e1, by rw [upd_ne (ne rfl p' e1)]; exact n1, b1, q1, r1.mono ex⟩
theorem de_new (h : PDN X F e dA) : PDE X F e (dShare dA) := PE_imp h fun σ H Q ⟨sl, S, P, R, p, k⟩ =>
  ⟨sl, S, _, R, p, fun q vs ds sl1 S1 H1 p1 R1 e1 n1 hN h1 r1 no => by
    have ex : Ex S1 (upd S1 q (.lst vs)) := Ex.new n1
    exact k _ _ sl1 _ H1 p1 (R1.share n1 hN h1 no) (e1.trans ex) (.lst upd_same (r1.mono ex))⟩
end
end DL
end
section
set_option maxRecDepth 100000
set_option maxHeartbeats 2000000
/-! D4: subscripts, slices, fields, borrowed lists, calls of defs. -/
namespace DL
open PySem L2

/-- the list at a slot -/
def lstAt (sl : List Sl) (i : Nat) : Option (List D) := match sl[i]? with
  | some (.ow ds) => some ds
  | some (.io ds) => some ds
  | _ => none
def setLst (sl : List Sl) (i : Nat) (ds : List D) : List Sl := match sl[i]? with
  | some (.ow _) => sl.set i (.ow ds)
  | some (.io _) => sl.set i (.io ds)
  | _ => sl
def D.flat : D → Bool
  | .non => true
  | .bl _ => true
  | .int _ => true
  | .str _ => true
  | _ => false
theorem Rep.flat {K : PySem.W.Frag} {H H' : Hp} {v : V} {d : D} (r : Rep K H v d) (h : d.flat = true) : Rep K H' v d := by
  cases r with
  | non => exact .non
  | bl b => exact .bl b
  | int i => exact .int i
  | str x => exact .str x
  | _ => exact absurd h (by simp [D.flat])
section
variable {K : PySem.W.Frag} {F : Fm} {sl : List Sl} {σ : L2.St} {S H : Hp}
theorem ER.lst (R : ER K F sl σ S H) {i : Nat} {ds : List D} (h : lstAt sl i = some ds) : ∃ p vs, σ[i]? = some (some (.ref p)) ∧ S p = none ∧ F.B p = none ∧ H p = some (.lst vs) ∧ Reps K S vs ds ∧ OwnAt σ sl i p := by
  unfold lstAt at h
  split at h
  · rename_i fs e
    cases h
    obtain ⟨p, vs, e1, n, b, q, r⟩ := R.at_ i _ e
    exact ⟨p, vs, e1, n, F.bn p b, q, r, e1, _, e, rfl⟩
  · rename_i fs e
    cases h
    obtain ⟨p, vs, e1, n, b, q, r⟩ := R.at_ i _ e
    exact ⟨p, vs, e1, n, b.1, q, r, e1, _, e, rfl⟩
  · cases h
/-- a step in which the object at p may change, all else that is known stands -/
structure GrM (p : Addr) (S H S' H' : Hp) : Prop where
  s : Ex S S'
  sh : Ex S' H'
  h : ∀ a o, a ≠ p → H a = some o → H' a = some o
  nw : ∀ a, S' a ≠ none → S a ≠ none ∨ H a = none
theorem ER.mut (R : ER K F sl σ S H) {i : Nat} {ds ds' : List D} {S' H' : Hp} {p : Addr} {vs' : List V} (h : lstAt sl i = some ds) (hp : σ[i]? = some (some (.ref p))) (g : GrM p S H S' H') (q : H' p = some (.lst vs')) (r : Reps K S' vs' ds') :
    ER K F (setLst sl i ds') σ S' H' := by
  obtain ⟨p0, vs0, e0, n0, b0, q0, r0, o0⟩ := R.lst h
  rw [hp] at e0
  cases e0
  have hi : i < sl.length := by
    unfold lstAt at h
    cases z : sl[i]? with
    | none => rw [z] at h; cases h
    | some s => exact (List.getElem?_eq_some_iff.mp z).1
  have np : S' p = none := by
    cases z : S' p with
    | none => rfl
    | some o =>
      rcases g.nw p (by rw [z]; simp) with w | w
      · exact absurd n0 w
      · rw [q0] at w; cases w
  have old : ∀ (j : Nat) (s : Sl), i ≠ j → sl[j]? = some s → SlAt K F S' H' σ[j]? s := fun j s hj z => by
    have w := R.at_ j s z
    have ne : s.own = true → ∀ q', σ[j]? = some (some (.ref q')) → q' ≠ p := fun ho q' hq' hh => by
      subst hh
      exact hj (R.ap i j q' o0 ⟨hq', _, z, ho⟩)
    have fr : ∀ (p' : Addr) (u : HO), S p' = none → H p' = some u → S' p' = none := fun p' u hs hu => by
      cases q : S' p' with
      | none => rfl
      | some w =>
        rcases g.nw p' (by rw [q]; simp) with z | z
        · exact absurd hs z
        · rw [hu] at z; cases z
    cases s with
    | un => trivial
    | sh d =>
      obtain ⟨v, e, r⟩ := w
      exact ⟨v, e, r.mono g.s⟩
    | ow ds =>
      obtain ⟨p', vs, e, n, b, q, r⟩ := w
      exact ⟨p', vs, e, fr p' _ n q, b, g.h _ _ (ne rfl p' e) q, r.mono g.s⟩
    | io ds =>
      obtain ⟨p', vs, e, n, b, q, r⟩ := w
      exact ⟨p', vs, e, fr p' _ n q, b, g.h _ _ (ne rfl p' e) q, r.mono g.s⟩
    | oi C fs =>
      obtain ⟨p', dx, vs, e, n, b, q, r⟩ := w
      exact ⟨p', dx, vs, e, fr p' _ n q, b, g.h _ _ (ne rfl p' e) q, r.mono g.s⟩
  have nn : ∀ a, H' a = none → H a = none := fun a ha => by
    by_cases hap : a = p
    · subst hap
      rw [q] at ha; cases ha
    · cases z : H a with
      | none => rfl
      | some o =>
        rw [g.h a o hap z] at ha; cases ha
  have bh : Ex F.B H' := fun a o ha => by
    by_cases hap : a = p
    · subst hap
      rw [b0] at ha; cases ha
    · exact g.h a o hap (R.bh a o ha)
  have nw : ∀ a, S' a ≠ none → F.S0 a ≠ none ∨ F.N a := fun a ha => by
    rcases g.nw a ha with z | z
    · exact R.nw a z
    · exact .inr (R.dm a z)
  unfold lstAt at h
  unfold setLst
  cases z : sl[i]? with
  | none => rw [z] at h; cases h
  | some s =>
    rw [z] at h
    cases s with
    | un => cases h
    | sh d => cases h
    | oi C fs => cases h
    | ow fs =>
      obtain ⟨p1, vs1, e1, n1, b1, q1, r1⟩ := R.at_ i _ z
      rw [hp] at e1
      cases e1
      refine ⟨bh, g.sh, R.ss.trans g.s, nw, fun a ha => R.dm a (nn a ha), fun j s' z' => ?_, fun j k p' h1 h2 => R.ap j k p' ?_ ?_⟩
      · by_cases hj : i = j
        · subst hj
          simp only at z'
          rw [List.getElem?_set_self hi] at z'
          cases z'
          exact ⟨p, vs', hp, np, b1, q, r⟩
        · simp only at z'
          rw [List.getElem?_set_ne hj] at z'
          exact old j s' hj z'
      · obtain ⟨h3, s3, h4, h5⟩ := h1
        by_cases hj : i = j
        · subst hj
          exact ⟨h3, _, z, rfl⟩
        · simp only at h4
          rw [List.getElem?_set_ne hj] at h4
          exact ⟨h3, s3, h4, h5⟩
      · obtain ⟨h3, s3, h4, h5⟩ := h2
        by_cases hj : i = k
        · subst hj
          exact ⟨h3, _, z, rfl⟩
        · simp only at h4
          rw [List.getElem?_set_ne hj] at h4
          exact ⟨h3, s3, h4, h5⟩
    | io fs =>
      obtain ⟨p1, vs1, e1, n1, b1, q1, r1⟩ := R.at_ i _ z
      rw [hp] at e1
      cases e1
      refine ⟨bh, g.sh, R.ss.trans g.s, nw, fun a ha => R.dm a (nn a ha), fun j s' z' => ?_, fun j k p' h1 h2 => R.ap j k p' ?_ ?_⟩
      · by_cases hj : i = j
        · subst hj
          simp only at z'
          rw [List.getElem?_set_self hi] at z'
          cases z'
          exact ⟨p, vs', hp, np, b1, q, r⟩
        · simp only at z'
          rw [List.getElem?_set_ne hj] at z'
          exact old j s' hj z'
      · obtain ⟨h3, s3, h4, h5⟩ := h1
        by_cases hj : i = j
        · subst hj
          exact ⟨h3, _, z, rfl⟩
        · simp only at h4
          rw [List.getElem?_set_ne hj] at h4
          exact ⟨h3, s3, h4, h5⟩
      · obtain ⟨h3, s3, h4, h5⟩ := h2
        by_cases hj : i = k
        · subst hj
          exact ⟨h3, _, z, rfl⟩
        · simp only at h4
          rw [List.getElem?_set_ne hj] at h4
          exact ⟨h3, s3, h4, h5⟩
/-- a list of one's own, seen as data for one step that hands back a flat value -/
theorem ER.borrow (R : ER K F sl σ S H) {i : Nat} {ds : List D} (h : lstAt sl i = some ds) {p : Addr} (hp : σ[i]? = some (some (.ref p))) :
    ∃ S1, Ex S1 H ∧ Ex S S1 ∧ Rep K S1 (.ref p) (.lst ds) ∧ ∀ S2 H2, Gr S1 H S2 H2 → ∃ S3, Gr S H S3 H2 := by
  obtain ⟨p0, vs, e, n, b, q, r, o⟩ := R.lst h
  rw [hp] at e
  cases e
  have ex : Ex S (upd S p (.lst vs)) := Ex.new n
  refine ⟨upd S p (.lst vs), fun a u z => ?_, ex, .lst upd_same (r.mono ex), fun S2 H2 g => ⟨fun a => if a = p then none else S2 a, fun a u z => ?_, fun a u z => ?_, g.h, fun a z => ?_⟩⟩
  · by_cases ha : a = p
    · subst ha
      rw [upd_same] at z
      rw [← z]
      exact q
    · rw [upd_ne ha] at z
      exact R.sh a u z
  · have ha : a ≠ p := ne_of_none z n
    show (if a = p then none else S2 a) = some u
    rw [if_neg ha]
    exact g.s a u (ex a u z)
  · have z' : (if a = p then none else S2 a) = some u := z
    by_cases ha : a = p
    · rw [if_pos ha] at z'; cases z'
    · rw [if_neg ha] at z'
      exact g.sh a u z'
  · have z' : (if a = p then none else S2 a) ≠ none := z
    by_cases ha : a = p
    · rw [if_pos ha] at z'; exact absurd rfl z'
    · rw [if_neg ha] at z'
      rcases g.nw a z' with w | w
      · rw [upd_ne ha] at w
        exact .inl w
      · exact .inr w
end

section
variable {X : Cx} {F : Fm} {a b c e : Expr} {es rest : List Expr} {pos : Pos} {da db dc de : DE} {ta tb : DT} {dA : DA}
/-- a comparison whose left side is a list of one's own -/
def dOpB (i : Nat) (rd : RD2) (db : DE) : DE := fun sl P => db sl fun y sl1 => ∃ ds, lstAt sl1 i = some ds ∧ rd (.lst ds) y fun d => d.flat = true ∧ P d sl1
/-- the slot i holds a reference, whatever comes -/
theorem liftB {K : PySem.W.Frag} {r : R2} {rd : RD2} (l : LR2 K r rd) (i : Nat) : ∀ σ H Q, tE K F (fun sl P => (∃ ds, lstAt sl i = some ds) ∧ dOpB i rd db sl P) σ H Q → tOp r (tVar i) (tE K F db) σ H Q := fun σ H Q ⟨sl, S, P, R, ⟨⟨ds0, h0⟩, p⟩, k⟩ => by
  obtain ⟨p0, vs0, e0, _⟩ := R.lst h0
  refine ⟨.ref p0, e0, sl, S, _, R, p, fun y dy sl2 S2 H2 ⟨ds, h, p2⟩ R2 e2 r2 => ?_⟩
  obtain ⟨S1, x1, x2, x3, x4⟩ := R2.borrow h e0
  refine l _ y _ dy S1 H2 _ Q x1 x3 (r2.mono x2) p2 fun v d S3 H3 ⟨hf, p3⟩ g r3 => ?_
  obtain ⟨S4, g4⟩ := x4 S3 H3 g
  exact k v d sl2 S4 H3 p3 (R2.grow g4) (e2.trans g4.s) (r3.flat hf)
def dOpB' (i : Nat) (rd : RD2) (db : DE) : DE := fun sl P => (∃ ds, lstAt sl i = some ds) ∧ dOpB i rd db sl P
theorem de_cmpB {op : CmpOp} {r : R2} {rd : RD2} (i : Nat) {x : Str} {p : Pos} (ho : OpR X (compareOp op) r) (l : LR2 X.K r rd) (hb : PDE X F b db) (hN : X.N[i]? = some x := by rfl) (hv : Vis X.env.scope x := by first | exact Or.inl rfl | exact Or.inr (Or.inl rfl) | exact Or.inr (Or.inr rfl))
    (hd : (x == ("__debug__" : Str)) = false := by decide) (hcd : (x == ("__classdict__" : Str)) = false := by decide) (h1 : behindInMarks op b = false := by first | exact nomark _ | rfl) : PDE X F (.Compare (.Name x p) [op] [b] pos) (dOpB' i rd db) := PE_imp (pe_cmpR ho (pe_var hN hv hd hcd) hb h1) (liftB l i)
theorem dt_cmpB {op : CmpOp} {r : R2} {rd : RD2} (i : Nat) {x : Str} {p : Pos} (ho : OpR X (compareOp op) r) (l : LR2 X.K r rd) (hb : PDE X F b db) (hN : X.N[i]? = some x := by rfl) (hv : Vis X.env.scope x := by first | exact Or.inl rfl | exact Or.inr (Or.inl rfl) | exact Or.inr (Or.inr rfl))
    (hd : (x == ("__debug__" : Str)) = false := by decide) (hcd : (x == ("__classdict__" : Str)) = false := by decide) (h1 : behindInMarks op b = false := by first | exact nomark _ | rfl) : PDT X F (.Compare (.Name x p) [op] [b] pos) (dTest (dOpB' i rd db)) := PT_imp (pt_cmpR ho (pe_var hN hv hd hcd) hb h1) (liftTest (liftB l i))

/-! ### subscripts -/
def rdIx : RD2 := fun a b P => match a, b with
  | .lst xs, .int i => ∃ d, atI xs i = some d ∧ P d
  | .tup xs, .int i => ∃ d, atI xs i = some d ∧ P d
  | _, _ => False
theorem atI_rep {K : PySem.W.Frag} {H : Hp} {vs : List V} {ds : List D} {i : Int} {d : D} (r : Reps K H vs ds) (h : atI ds i = some d) : ∃ v, atI vs i = some v ∧ Rep K H v d := by
  unfold atI at h ⊢
  rw [r.length]
  cases q : ixN ds.length i with
  | none => rw [q] at h; cases h
  | some j =>
    rw [q] at h
    exact r.get h
theorem lr_ix {K : PySem.W.Frag} : LR2 K (rIx K) rdIx := fun x y a b S H P Q e ra rb p k => by
  cases rb with
  | int i =>
    cases ra with
    | lst h r =>
      obtain ⟨d, h1, h2⟩ := p
      obtain ⟨v, h3, h4⟩ := atI_rep r h1
      exact .inl ⟨_, _, _, v, rfl, rfl, .inl (.inl (e _ _ h)), h3, k v d S H h2 (Gr.refl e) h4⟩
    | tup h r =>
      obtain ⟨d, h1, h2⟩ := p
      obtain ⟨v, h3, h4⟩ := atI_rep r h1
      exact .inr (.inl ⟨_, _, _, v, rfl, rfl, e.sqT h, h3, k v d S H h2 (Gr.refl e) h4⟩)
    | _ => exact p.elim
  | _ => cases ra <;> exact p.elim
theorem de_ix (ha : PDE X F a da) (hb : PDE X F b db) (hs : PlainIx b := by exact fun _ _ => rfl) : PDE X F (.Subscript a b pos) (dOp rdIx da db) := PE_imp (pe_ix ix_seq ha hb hs) (lift2 lr_ix)
/-- an item of a list of one's own -/
def dIxB (i : Nat) (db : DE) : DE := fun sl P => (∃ ds, lstAt sl i = some ds) ∧ db sl fun y sl1 => match y with
  | .int j => ∃ ds d, lstAt sl1 i = some ds ∧ atI ds j = some d ∧ P d sl1
  | _ => False
theorem de_ixB (i : Nat) {x : Str} {p : Pos} (hb : PDE X F b db) (hs : PlainIx b := by exact fun _ _ => rfl) (hN : X.N[i]? = some x := by rfl) (hv : Vis X.env.scope x := by first | exact Or.inl rfl | exact Or.inr (Or.inl rfl) | exact Or.inr (Or.inr rfl))
    (hd : (x == ("__debug__" : Str)) = false := by decide) (hcd : (x == ("__classdict__" : Str)) = false := by decide) : PDE X F (.Subscript (.Name x p) b pos) (dIxB i db) := PE_imp (pe_ix ix_list (pe_var hN hv hd hcd) hb hs) fun σ H Q ⟨sl, S, P, R, ⟨⟨ds0, h0⟩, p⟩, k⟩ => by
  obtain ⟨p0, vs0, e0, _⟩ := R.lst h0
  refine ⟨.ref p0, e0, sl, S, _, R, p, fun y dy sl2 S2 H2 p2 R2 e2 r2 => ?_⟩
  cases r2 <;> first | exact p2.elim | skip
  obtain ⟨ds, d, h, h1, h2⟩ := p2
  obtain ⟨p1, vs1, e1, n1, b1, q1, r1, _⟩ := R2.lst h
  rw [e0] at e1
  cases e1
  obtain ⟨v, h3, h4⟩ := atI_rep r1 h1
  exact ⟨_, _, _, v, rfl, rfl, .inl (.inl q1), h3, k v d sl2 S2 H2 h2 R2 e2 h4⟩
/-- an optional place of a slice -/
abbrev DO := List Sl → (Option Int → List Sl → Prop) → Prop
def tOs (K : PySem.W.Frag) (F : Fm) (d : DO) : TO := fun σ H Q => ∃ sl S P, ER K F sl σ S H ∧ d sl P ∧ ∀ o sl' S' H', P o sl' → ER K F sl' σ S' H' → Ex S S' → Q o H'
def PDO (X : Cx) (F : Fm) (e : Option Expr) (d : DO) : Prop := PO X e (tOs X.K F d)
theorem PO_imp {X : Cx} {e : Option Expr} {t t' : TO} (h : PO X e t) (i : ∀ σ H Q, t' σ H Q → t σ H Q) : PO X e t' := ⟨fun pins s σ H Q I q => h.run pins s σ H Q I (i _ _ _ q)⟩
def dNoP : DO := fun sl P => P none sl
def dPart (d : DE) : DO := fun sl P => d sl fun x sl1 => match x with
  | .int i => P (some i) sl1
  | _ => False
theorem do_none : PDO X F none dNoP := PO_imp po_none fun σ H Q ⟨sl, S, P, R, p, k⟩ => k _ sl S H p R (Ex.refl _)
theorem do_some (h : PDE X F e de) : PDO X F (some e) (dPart de) := PO_imp (po_some h) fun σ H Q ⟨sl, S, P, R, p, k⟩ => ⟨sl, S, _, R, p, fun v d sl1 S1 H1 p1 R1 e1 r1 => by
  cases r1 <;> first | exact p1.elim | skip
  exact ⟨_, rfl, k _ sl1 S1 H1 p1 R1 e1⟩⟩
def cutL {α : Type} (xs : List α) (lo hi : Option Int) : List α := (xs.drop (HT.sIx xs.length 0 lo)).take (HT.sIx xs.length xs.length hi - HT.sIx xs.length 0 lo)
theorem cut_rep {K : PySem.W.Frag} {H : Hp} {vs : List V} {ds : List D} {lo hi : Option Int} (r : Reps K H vs ds) : Reps K H (cutV vs lo hi) (cutL ds lo hi) := by
  unfold cutV cutL
  rw [r.length]
  exact (r.drop _).take _
theorem cut_whole {α : Type} (xs : List α) (lo hi : Option Int) (h : HT.sIx xs.length 0 lo = 0 ∧ HT.sIx xs.length xs.length hi = xs.length) : cutL xs lo hi = xs := by
  unfold cutL
  rw [h.1, h.2]
  simp
def dSl (d : DE) (l h : DO) : DE := fun sl P => d sl fun x sl1 => l sl1 fun lo sl2 => h sl2 fun hi sl3 => match x with
  | .lst xs => P (.lst (cutL xs lo hi)) sl3
  | .tup xs => P (.tup (cutL xs lo hi)) sl3
  | _ => False
theorem de_sl {lo hi : Option Expr} {p2 : Pos} {dl dh : DO} (he : PDE X F e de) (hl : PDO X F lo dl) (hh : PDO X F hi dh) : PDE X F (.Subscript e (.Slice lo hi none p2) pos) (dSl de dl dh) := PE_imp (pe_slice (sl_list.or sl_tupA) he hl hh) fun σ H Q ⟨sl, S, P, R, p, k⟩ =>
  ⟨sl, S, _, R, p, fun v d sl1 S1 H1 p1 R1 e1 r1 => ⟨sl1, S1, _, R1, p1, fun o1 sl2 S2 H2 p2 R2 e2 => ⟨sl2, S2, _, R2, p2, fun o2 sl3 S3 H3 p3 R3 e3 => by
    have r3 := r1.mono (e2.trans e3)
    cases r3 with
    | @lst _ vs _ h r =>
      refine .inl ⟨_, _, rfl, .inl (.inl (R3.sh _ _ h)), fun q hq => ?_⟩
      have g : Gr S3 H3 (upd S3 q (.lst (cutV vs o1 o2))) (upd H3 q (.lst (cutV vs o1 o2))) := Gr.new R3.sh hq
      exact k _ _ sl3 _ _ p3 (R3.grow g) (e1.trans (e2.trans (e3.trans g.s))) (.lst upd_same ((cut_rep r).mono g.s))
    | @tup _ vs _ h r =>
      refine .inr ⟨_, _, rfl, R3.sh.sqT h, fun hw => ?_, fun hw q hq => ?_⟩
      · rw [r.length] at hw
        have e := cut_whole _ o1 o2 hw
        exact k _ _ sl3 S3 H3 p3 R3 (e1.trans (e2.trans e3)) (by rw [e]; exact .tup h r)
      · have g : Gr S3 H3 (upd S3 q (.tup (cutV vs o1 o2))) (upd H3 q (.tup (cutV vs o1 o2))) := Gr.new R3.sh hq
        exact k _ _ sl3 _ _ p3 (R3.grow g) (e1.trans (e2.trans (e3.trans g.s))) (.tup (SqT.of upd_same) ((cut_rep r).mono g.s))
    | _ => exact p3.elim⟩⟩⟩

/-! ### fields -/
structure FldOk (K : PySem.W.Frag) (C : Addr) (f : Str) : Prop where
  c : Cls K C
  n : NoAttr K C f
def dFld (K : PySem.W.Frag) (d : DE) (f : Str) : DE := fun sl P => d sl fun x sl1 => match x with
  | .ins C fs => FldOk K C f ∧ ∃ y, fs.lookup f = some y ∧ P y sl1
  | _ => False
theorem de_fld {f : Str} (h : PDE X F e de) (hb : attributeBase e f X.env (eval e X.env) = eval e X.env := by rfl) : PDE X F (.Attribute e f pos) (dFld X.K de f) := PE_imp (pe_fld h hb) fun σ H Q ⟨sl, S, P, R, p, k⟩ =>
  ⟨sl, S, _, R, p, fun v d sl1 S1 H1 p1 R1 e1 r1 => by
    cases r1 with
    | ins h r =>
      obtain ⟨ok, y, h1, h2⟩ := p1
      obtain ⟨w, h3, h4⟩ := r.look h1
      exact ⟨_, _, _, _, w, rfl, R1.sh _ _ h, ok.c, ok.n, h3, k w y sl1 S1 H1 h2 R1 e1 h4⟩
    | _ => exact p1.elim⟩
end
end DL
end
section
set_option maxRecDepth 100000
set_option maxHeartbeats 2000000
/-! D5: calls of defs, methods, classes; built-ins. -/
namespace DL
open PySem L2

/-- the promise of a def that changes nothing that stands: arguments, what is wanted of the value -/
abbrev SD := List D → (D → Prop) → Prop
def SpD (K : PySem.W.Frag) (sp : SD) : Sp := fun vs H Q _ => ∃ S ds P, Ex S H ∧ Reps K S vs ds ∧ sp ds P ∧ ∀ v d S' H', P d → Gr S H S' H' → Rep K S' v d → Q v H'
/-- .. of a def whose first argument is a list that it changes: the list, the other arguments, what is wanted of the value and of the list -/
abbrev SM := List D → List D → (D → List D → Prop) → Prop
def SpM (K : PySem.W.Frag) (sp : SM) : Sp := fun vs H Q _ => ∃ S p xs vs' c ds P, vs = .ref p :: vs' ∧ Ex S H ∧ S p = none ∧ H p = some (.lst xs) ∧ Reps K S xs c ∧ Reps K S vs' ds ∧ sp c ds P ∧
  ∀ v d c' xs' S' H', P d c' → GrM p S H S' H' → H' p = some (.lst xs') → Reps K S' xs' c' → Rep K S' v d → Q v H'
/-- .. of an __init__: the attributes so far, the other arguments, what is wanted of the attributes -/
abbrev SI := List (Str × D) → List D → (List (Str × D) → Prop) → Prop
def SpI (K : PySem.W.Frag) (C : Addr) (sp : SI) : Sp := fun vs H Q _ => ∃ S p dx gs vs' fs ds P, vs = .ref p :: vs' ∧ Ex S H ∧ S p = none ∧ H p = some (.ins C dx gs) ∧ RepF K S gs fs ∧ Reps K S vs' ds ∧ sp fs ds P ∧
  ∀ fs' gs' dx' S' H', P fs' → GrM p S H S' H' → H' p = some (.ins C dx' gs') → RepF K S' gs' fs' → Q .non H'
section
variable {X : Cx} {F : Fm} {a b c e o : Expr} {es rest : List Expr} {pos p apos : Pos} {da db dc de : DE} {ta tb : DT} {dA : DA} {k : Nat} {f C : Addr} {fd : FuncData} {ps : List Str} {x m : Str} {ds : List Value} {dvs : List V} {dds : List D}

def dCall (sp : SD) (dds : List D) (r : DA) : DE := fun sl P => r sl fun xs sl1 => sp (xs ++ dds) fun d => P d sl1
theorem liftCall {K : PySem.W.Frag} {sp : SD} {E : XK} (hd : ∀ S, Reps K S dvs dds) : ∀ σ H Q, tE K F (dCall sp dds dA) σ H Q → tCall (SpD K sp) dvs E (tAs K F dA) σ H Q := fun σ H Q ⟨sl, S, P, R, p, k⟩ =>
  ⟨sl, S, _, R, p, fun vs ds sl1 S1 H1 p1 R1 e1 r1 => ⟨S1, _, _, R1.sh, r1.append (hd S1), p1, fun v d S' H' p2 g r2 => k v d sl1 S' H' p2 (R1.grow g) (e1.trans g.s) r2⟩⟩
theorem de_call {sp : SD} (G : FnOk X.prog X.w X.K X.mg X.base CX0 k f fd ps (SpD X.K sp)) (hr : Room k X.A) (hg : Gl X x) (hm : X.mg x = some (.ref f)) (hk : PySem.W.keepIn X.K (.ref f) = true) (hb : Binds X.K fd ps ds) (hv : Vals dvs ds) (hd : ∀ S, Reps X.K S dvs dds)
    (ha : PDA X F (e :: es) dA) (hdb : (x == ("__debug__" : Str)) = false := by decide) (he : starEach (e :: es) X.env = (false, eval e X.env) :: starEach es X.env := by rfl) (hpl : (backTo pos (starEach es X.env)).any (·.1) = false := by rfl) :
    PDE X F (.Call (.Name x p) (e :: es) [] pos) (dCall sp dds dA) := PE_imp (pe_call G hr hg hm hk hb hv pass0 ha hdb he hpl) (liftCall hd)
theorem de_call0 {sp : SD} (G : FnOk X.prog X.w X.K X.mg X.base CX0 k f fd ps (SpD X.K sp)) (hr : Room k X.A) (hg : Gl X x) (hm : X.mg x = some (.ref f)) (hk : PySem.W.keepIn X.K (.ref f) = true) (hb : Binds X.K fd ps ds) (hv : Vals dvs ds) (hd : ∀ S, Reps X.K S dvs dds)
    (hdb : (x == ("__debug__" : Str)) = false := by decide) : PDE X F (.Call (.Name x p) [] [] pos) (dCall sp dds dNil) := PE_imp (pe_call0 G hr hg hm hk hb hv pass0 hdb) fun σ H Q ⟨sl, S, P, R, p, k⟩ => by
  show SpD X.K sp ([] ++ dvs) H Q E0
  exact ⟨S, [] ++ dds, _, R.sh, (Reps.append .nil (hd S)), p, fun v d S' H' p2 g r2 => k v d sl S' H' p2 (R.grow g) g.s r2⟩
/-- f(xs, ..), xs a list of one's own that f changes, at slot i -/
def dCallM (i : Nat) (sp : SM) (r : DA) : DE := fun sl P => (∃ c, lstAt sl i = some c) ∧ r sl fun xs sl1 => ∃ c, lstAt sl1 i = some c ∧ sp c xs fun d c' => P d (setLst sl1 i c')
theorem de_callM {sp : SM} {y : Str} (i : Nat) {py : Pos} (G : FnOk X.prog X.w X.K X.mg X.base CX0 k f fd ps (SpM X.K sp)) (hr : Room k X.A) (hg : Gl X x) (hm : X.mg x = some (.ref f)) (hk : PySem.W.keepIn X.K (.ref f) = true) (hb : Binds X.K fd ps [])
    (ha : PDA X F es dA) (hN : X.N[i]? = some y := by rfl) (hv : Vis X.env.scope y := by first | exact Or.inl rfl | exact Or.inr (Or.inl rfl) | exact Or.inr (Or.inr rfl)) (hd : (y == ("__debug__" : Str)) = false := by decide) (hcd : (y == ("__classdict__" : Str)) = false := by decide)
    (hdb : (x == ("__debug__" : Str)) = false := by decide) (he : starEach (.Name y py :: es) X.env = (false, eval (.Name y py) X.env) :: starEach es X.env := by rfl) (hpl : (backTo pos (starEach es X.env)).any (·.1) = false := by rfl) :
    PDE X F (.Call (.Name x p) (.Name y py :: es) [] pos) (dCallM i sp dA) := PE_imp (pe_call G hr hg hm hk hb .nil pass0 (pa_cons (pe_var hN hv hd hcd) ha he) hdb he hpl) fun σ H Q ⟨sl, S, P, R, ⟨⟨c0, h0⟩, p⟩, k⟩ => by
  obtain ⟨q0, vs0, e0, _⟩ := R.lst h0
  refine ⟨.ref q0, e0, sl, S, _, R, p, fun vs ds sl1 S1 H1 ⟨c, hc, p1⟩ R1 e1 r1 => ?_⟩
  obtain ⟨q1, vs1, e2, n1, b1, h1, r2, _⟩ := R1.lst hc
  rw [e0] at e2
  cases e2
  refine ⟨S1, q0, vs1, vs ++ [], c, ds, _, by simp, R1.sh, n1, h1, r2, by simpa using r1, p1, fun v d c' xs' S' H' p2 g hq r3 r4 => ?_⟩
  exact k v d _ S' H' p2 (R1.mut hc e0 g hq r3) (e1.trans g.s) r4

/-- o.m(..), o an instance -/
def dMeth (C : Addr) (m : Str) (sp : SD) (dds : List D) (d : DE) (r : DA) : DE := fun sl P => d sl fun x sl1 => match x with
  | .ins C' fs => C' = C ∧ fs.lookup m = none ∧ r sl1 fun xs sl2 => sp (.ins C' fs :: (xs ++ dds)) fun y => P y sl2
  | _ => False
theorem de_meth {sp : SD} {pl : Sem Bool} (ho : PDE X F o da) (c : Cls X.K C) (hm : Meth X.K C m f) (G : FnOk X.prog X.w X.K X.mg X.base CX0 k f fd ps (SpD X.K sp)) (hr : Room k X.A) (hb : Binds X.K fd ps ds) (hv : Vals dvs ds) (hd : ∀ S, Reps X.K S dvs dds) (ha : PDA X F (e :: es) dA)
    (hst : starEach (e :: es) X.env = (false, eval e X.env) :: starEach es X.env := by rfl) (hpl : (backTo pos (starEach es X.env)).any (·.1) = false := by rfl)
    (ht : eval (.Call (.Attribute o m apos) (e :: es) [] pos) X.env = (do
      let ov ← eval o X.env
      standAt apos.atName
      let (f, first) ← holding [ov] (getMethod ov m pl)
      callWith pos f first (backTo pos (starEach (e :: es) X.env)) (backToKw pos (keywordEach [] X.env))) := by rfl) :
    PDE X F (.Call (.Attribute o m apos) (e :: es) [] pos) (dMeth C m sp dds da dA) := PE_imp (pe_meth ho c hm G hr hb hv pass0 ha hst hpl ht) fun σ H Q ⟨sl, S, P, R, p, k⟩ =>
  ⟨sl, S, _, R, p, fun v d sl1 S1 H1 p1 R1 e1 r1 => by
    cases r1 with
    | ins h r =>
      obtain ⟨rfl, h1, h2⟩ := p1
      refine ⟨_, _, _, rfl, R1.sh _ _ h, r.none h1, sl1, S1, _, R1, h2, fun vs ds sl2 S2 H2 p2 R2 e2 r2 => ?_⟩
      exact ⟨S2, _, _, R2.sh, .cons (.ins (e2 _ _ h) (r.mono e2)) (r2.append (hd S2)), p2, fun v d S' H' p3 g r3 => k v d sl2 S' H' p3 (R2.grow g) (e1.trans (e2.trans g.s)) r3⟩
    | _ => exact p1.elim⟩
theorem de_meth0 {sp : SD} {pl : Sem Bool} (ho : PDE X F o da) (c : Cls X.K C) (hm : Meth X.K C m f) (G : FnOk X.prog X.w X.K X.mg X.base CX0 k f fd ps (SpD X.K sp)) (hr : Room k X.A) (hb : Binds X.K fd ps ds) (hv : Vals dvs ds) (hd : ∀ S, Reps X.K S dvs dds)
    (ht : eval (.Call (.Attribute o m apos) [] [] pos) X.env = (do
      let ov ← eval o X.env
      standAt apos.atName
      let (f, first) ← holding [ov] (getMethod ov m pl)
      callWith pos f first (backTo pos (starEach [] X.env)) (backToKw pos (keywordEach [] X.env))) := by rfl) :
    PDE X F (.Call (.Attribute o m apos) [] [] pos) (dMeth C m sp dds da dNil) := PE_imp (pe_meth0 ho c hm G hr hb hv pass0 ht) fun σ H Q ⟨sl, S, P, R, p, k⟩ =>
  ⟨sl, S, _, R, p, fun v d sl1 S1 H1 p1 R1 e1 r1 => by
    cases r1 with
    | ins h r =>
      obtain ⟨rfl, h1, h2⟩ := p1
      refine ⟨_, _, _, rfl, R1.sh _ _ h, r.none h1, ?_⟩
      show SpD X.K sp (V.ref _ :: ([] ++ dvs)) H1 Q E0
      exact ⟨S1, _, _, R1.sh, .cons (.ins h r) (hd S1), h2, fun v d S' H' p3 g r3 => k v d sl1 S' H' p3 (R1.grow g) (e1.trans g.s) r3⟩
    | _ => exact p1.elim⟩
/-- C(..): a new instance, as data -/
def dMake (C : Addr) (sp : SI) (dds : List D) (r : DA) : DE := fun sl P => r sl fun xs sl1 => sp [] (xs ++ dds) fun fs => P (.ins C fs) sl1
theorem liftMake {K : PySem.W.Frag} {sp : SI} {E : XK} (hd : ∀ S, Reps K S dvs dds) : ∀ σ H Q, tE K F (dMake C sp dds dA) σ H Q → tMake C (SpI K C sp) dvs E (tAs K F dA) σ H Q := fun σ H Q ⟨sl, S, P, R, p, k⟩ =>
  ⟨sl, S, _, R, p, fun vs ds sl1 S1 H1 p1 R1 e1 r1 x dx nx ndx ne => by
    have ex : Ex H1 (upd (upd H1 dx (.own x)) x (.ins C dx [])) := fun b o z => by
      rw [upd_ne (ne_of_none z nx), upd_ne (ne_of_none z ndx)]
      exact z
    refine ⟨S1, x, dx, [], vs ++ dvs, [], ds ++ dds, _, rfl, R1.sh.trans ex, R1.sh.free nx, upd_same, .nil, r1.append (hd S1), p1, fun fs' gs' dx' S' H' p2 g hq r2 => ⟨rfl, ?_⟩⟩
    have nS : S' x = none := by
      cases z : S' x with
      | none => rfl
      | some w =>
        rcases g.nw x (by rw [z]; simp) with y | y
        · exact absurd (R1.sh.free nx) y
        · rw [upd_same] at y; cases y
    have eS : Ex S' (upd S' x (.ins C dx' gs')) := Ex.new nS
    have G : Gr S1 H1 (upd S' x (.ins C dx' gs')) H' := by
      refine ⟨g.s.trans eS, fun b o z => ?_, fun b o z => g.h b o (ne_of_none z nx) (ex b o z), fun b z => ?_⟩
      · by_cases hb : b = x
        · subst hb
          rw [upd_same] at z
          rw [← z]
          exact hq
        · rw [upd_ne hb] at z
          exact g.sh b o z
      · by_cases hb : b = x
        · subst hb
          exact .inr nx
        · rw [upd_ne hb] at z
          rcases g.nw b z with w | w
          · exact .inl w
          · exact .inr (ex.free w)
    exact k _ _ sl1 _ H' p2 (R1.grow G) (e1.trans G.s) (.ins upd_same (r2.mono eS))⟩
theorem de_make {sp : SI} (M : Mk X.K C f) (G : FnOk X.prog X.w X.K X.mg X.base CX0 k f fd ps (SpI X.K C sp)) (hr : Room (k + 1) X.A) (hg : Gl X x) (hm : X.mg x = some (.ref C)) (hb : Binds X.K fd ps ds) (hv : Vals dvs ds) (hd : ∀ S, Reps X.K S dvs dds)
    (ha : PDA X F (e :: es) dA) (hdb : (x == ("__debug__" : Str)) = false := by decide) (he : starEach (e :: es) X.env = (false, eval e X.env) :: starEach es X.env := by rfl) (hpl : (backTo pos (starEach es X.env)).any (·.1) = false := by rfl) :
    PDE X F (.Call (.Name x p) (e :: es) [] pos) (dMake C sp dds dA) := PE_imp (pe_make M G hr hg hm hb hv pass0 ha hdb he hpl) (liftMake hd)

/-! ### built-ins called by name -/
abbrev RDC := List D → (D → Prop) → Prop
def LRC (K : PySem.W.Frag) (r : List V → Hp → VK → Prop) (rd : RDC) : Prop := ∀ (vs : List V) (ds : List D) (S H : Hp) (P : D → Prop) (Q : VK), Ex S H → Reps K S vs ds → rd ds P → (∀ v d S' H', P d → Gr S H S' H' → Rep K S' v d → Q v H') → r vs H Q
def dCB (rd : RDC) (r : DA) : DE := fun sl P => r sl fun xs sl1 => rd xs fun d => P d sl1
theorem liftCB {K : PySem.W.Frag} {r : List V → Hp → VK → Prop} {rd : RDC} (l : LRC K r rd) : ∀ σ H Q, tE K F (dCB rd dA) σ H Q → tCB r (tAs K F dA) σ H Q := fun σ H Q ⟨sl, S, P, R, p, k⟩ =>
  ⟨sl, S, _, R, p, fun vs ds sl1 S1 H1 p1 R1 e1 r1 => l vs ds S1 H1 _ Q R1.sh r1 p1 fun v d S' H' p2 g r2 => k v d sl1 S' H' p2 (R1.grow g) (e1.trans g.s) r2⟩
theorem de_callB {id : String} {r : List V → Hp → VK → Prop} {rd : RDC} (hc : CallR X (.builtin id) r) (l : LRC X.K r rd) (hg : Gl X x) (hm : X.mg x = none) (hv : bootBuiltins x = some (.builtin id)) (ha : PDA X F (e :: es) dA) (hn : x ≠ "__name__" := by decide) (hdb : (x == ("__debug__" : Str)) = false := by decide)
    (he : starEach (e :: es) X.env = (false, eval e X.env) :: starEach es X.env := by rfl) (hpl : (backTo pos (starEach es X.env)).any (·.1) = false := by rfl) : PDE X F (.Call (.Name x p) (e :: es) [] pos) (dCB rd dA) := PE_imp (pe_callB hc hg hm hv ha hn hdb he hpl) (liftCB l)
theorem de_callTy {T : String} {r : List V → Hp → VK → Prop} {rd : RDC} (hc : CallR X (.type T) r) (l : LRC X.K r rd) (hg : Gl X x) (hm : X.mg x = none) (hv : bootBuiltins x = some (.type T)) (ha : PDA X F (e :: es) dA) (hn : x ≠ "__name__" := by decide) (hdb : (x == ("__debug__" : Str)) = false := by decide)
    (he : starEach (e :: es) X.env = (false, eval e X.env) :: starEach es X.env := by rfl) (hpl : (backTo pos (starEach es X.env)).any (·.1) = false := by rfl) : PDE X F (.Call (.Name x p) (e :: es) [] pos) (dCB rd dA) := PE_imp (pe_callTy hc hg hm hv ha hn hdb he hpl) (liftCB l)
/-- len of a list or tuple (data) -/
def rdLen : RDC := fun xs P => match xs with
  | [.lst ds] => P (.int ds.length)
  | [.tup ds] => P (.int ds.length)
  | _ => False
theorem lr_len {K : PySem.W.Frag} : LRC K (fun xs H Q => ∃ p ys, xs = [.ref p] ∧ (SqL K H p ys ∨ SqT K H p ys) ∧ Q (.int ys.length) H) rdLen := fun vs ds S H P Q e r p k => by
  cases r with
  | nil => exact p.elim
  | cons r1 r2 =>
    cases r2 with
    | cons _ _ => cases r1 <;> exact p.elim
    | nil =>
      cases r1 with
      | lst h q => exact ⟨_, _, rfl, .inl (.inl (.inl (e _ _ h))), k _ _ S H p (Gr.refl e) (by rw [q.length]; exact .int _)⟩
      | tup h q => exact ⟨_, _, rfl, .inr (e.sqT h), k _ _ S H p (Gr.refl e) (by rw [q.length]; exact .int _)⟩
      | _ => exact p.elim
theorem de_len (hg : Gl X "len") (hm : X.mg "len" = none) (ha : PDE X F e de) (he : starEach [e] X.env = (false, eval e X.env) :: starEach [] X.env := by rfl) : PDE X F (.Call (.Name "len" p) [e] [] pos) (dCB rdLen (dCons de dNil)) :=
  de_callB call_len_seq lr_len hg hm PySem.boot_len (da_cons ha da_nil he) (by decide) (by decide) he rfl
/-- len of a list of one's own -/
def dLenB (i : Nat) : DE := fun sl P => ∃ ds, lstAt sl i = some ds ∧ P (.int ds.length) sl
theorem de_lenB (i : Nat) {y : Str} {py : Pos} (hg : Gl X "len") (hm : X.mg "len" = none) (hN : X.N[i]? = some y := by rfl) (hv : Vis X.env.scope y := by first | exact Or.inl rfl | exact Or.inr (Or.inl rfl) | exact Or.inr (Or.inr rfl))
    (hd : (y == ("__debug__" : Str)) = false := by decide) (hcd : (y == ("__classdict__" : Str)) = false := by decide) (he : starEach [.Name y py] X.env = (false, eval (.Name y py) X.env) :: starEach [] X.env := by rfl) : PDE X F (.Call (.Name "len" p) [.Name y py] [] pos) (dLenB i) :=
  PE_imp (pe_callB call_len_seq hg hm PySem.boot_len (pa_cons (pe_var hN hv hd hcd) pa_nil he) (by decide) (by decide) he rfl) fun σ H Q ⟨sl, S, P, R, ⟨ds, h, p⟩, k⟩ => by
    obtain ⟨q, vs, e1, n1, b1, h1, r, _⟩ := R.lst h
    exact ⟨.ref q, e1, q, vs, rfl, .inl (.inl (.inl h1)), k _ _ sl S H p R (Ex.refl _) (by rw [r.length]; exact .int _)⟩
end
end DL
end
section
set_option maxRecDepth 100000
set_option maxHeartbeats 2000000
/-! D6: targets, statements, loops. -/
namespace DL
open PySem L2

/-- what is wanted behind a statement -/
structure DN where
  nx : List Sl → Prop
  rt : D → List Sl → Prop
  bk : List Sl → Prop := fun _ => False
  ct : List Sl → Prop := fun _ => False
  ro : List D → List Sl → Prop := fun _ _ => False
abbrev DS := DN → List Sl → Prop
structure Lk (K : PySem.W.Frag) (F : Fm) (N : DN) (S : Hp) (D' : Ends) : Prop where
  nx : ∀ sl' σ' S' H', N.nx sl' → ER K F sl' σ' S' H' → Ex S S' → D'.nx σ' H'
  rt : ∀ v d sl' σ' S' H', N.rt d sl' → ER K F sl' σ' S' H' → Ex S S' → Rep K S' v d → D'.rt v H'
  bk : ∀ sl' σ' S' H', N.bk sl' → ER K F sl' σ' S' H' → Ex S S' → D'.bk σ' H'
  ct : ∀ sl' σ' S' H', N.ct sl' → ER K F sl' σ' S' H' → Ex S S' → D'.ct σ' H'
  ro : ∀ p vs c sl' σ' S' H', N.ro c sl' → ER K F sl' σ' S' H' → Ex S S' → S' p = none → F.N p → H' p = some (.lst vs) → Reps K S' vs c → D'.rt (.ref p) H'
theorem Lk.mono {K : PySem.W.Frag} {F : Fm} {N : DN} {S S1 : Hp} {D' : Ends} (l : Lk K F N S D') (e : Ex S S1) : Lk K F N S1 D' :=
  ⟨fun a b c d p q r => l.nx a b c d p q (e.trans r), fun v d a b c f p q r => l.rt v d a b c f p q (e.trans r), fun a b c d p q r => l.bk a b c d p q (e.trans r), fun a b c d p q r => l.ct a b c d p q (e.trans r), fun p vs c a b d f h q r => l.ro p vs c a b d f h q (e.trans r)⟩
def tSt (K : PySem.W.Frag) (F : Fm) (ds : DS) : TS := fun D' σ H => ∃ sl S N, ER K F sl σ S H ∧ ds N sl ∧ Lk K F N S D'
def PDS (X : Cx) (F : Fm) (st : Stmt) (ds : DS) : Prop := PS X st (tSt X.K F ds)
def PDSs (X : Cx) (F : Fm) (st : List Stmt) (ds : DS) : Prop := PSs X st (tSt X.K F ds)
theorem PS_imp {X : Cx} {e : Stmt} {t t' : TS} (h : PS X e t) (i : ∀ D' σ H, t' D' σ H → t D' σ H) : PS X e t' := ⟨fun pins s σ H Q I q => h.run pins s σ H Q I (i _ _ _ q)⟩
theorem PSs_imp {X : Cx} {e : List Stmt} {t t' : TS} (h : PSs X e t) (i : ∀ D' σ H, t' D' σ H → t D' σ H) : PSs X e t' := ⟨fun pins s σ H Q I q => h.run pins s σ H Q I (i _ _ _ q)⟩
/-- a target -/
abbrev DG := D → List Sl → (List Sl → Prop) → Prop
abbrev DGs := List D → List Sl → (List Sl → Prop) → Prop
/-- slots but those of V are as they were -/
def Off (V : Nat → Prop) (σ σ' : L2.St) : Prop := σ'.length = σ.length ∧ ∀ i, ¬ V i → σ'[i]? = σ[i]?
theorem Off.refl {V : Nat → Prop} (σ : L2.St) : Off V σ σ := ⟨rfl, fun _ _ => rfl⟩
theorem Off.trans {V : Nat → Prop} {a b c : L2.St} (h : Off V a b) (h' : Off V b c) : Off V a c := ⟨h'.1.trans h.1, fun i n => (h'.2 i n).trans (h.2 i n)⟩
theorem Off.set {V : Nat → Prop} {σ : L2.St} {i : Nat} {x : Option L2.V} (h : V i) : Off V σ (σ.set i x) := ⟨by simp, fun j n => List.getElem?_set_ne (fun (e : i = j) => n (by rw [← e]; exact h))⟩
def tGt (K : PySem.W.Frag) (F : Fm) (V : Nat → Prop) (g : DG) : TG := fun v σ H Q => ∃ d sl S P, ER K F sl σ S H ∧ Rep K S v d ∧ g d sl P ∧ ∀ sl' σ' S' H', P sl' → ER K F sl' σ' S' H' → Ex S S' → Off V σ σ' → Q σ' H'
def tGs (K : PySem.W.Frag) (F : Fm) (V : Nat → Prop) (g : DGs) : TGs := fun vs σ H Q => ∃ ds sl S P, ER K F sl σ S H ∧ Reps K S vs ds ∧ g ds sl P ∧ ∀ sl' σ' S' H', P sl' → ER K F sl' σ' S' H' → Ex S S' → Off V σ σ' → Q σ' H'
def PDG (X : Cx) (F : Fm) (V : Nat → Prop) (e : Expr) (g : DG) : Prop := PG X e (tGt X.K F V g)
def PDGs (X : Cx) (F : Fm) (V : Nat → Prop) (es : List Expr) (g : DGs) : Prop := PGs X es (tGs X.K F V g)
abbrev Any : Nat → Prop := fun _ => True
theorem PG_imp {X : Cx} {e : Expr} {t t' : TG} (h : PG X e t) (i : ∀ v σ H Q, t' v σ H Q → t v σ H Q) : PG X e t' := ⟨fun pins s σ H v u Q I r q => h.run pins s σ H v u Q I r (i _ _ _ _ q)⟩
theorem PGs_imp {X : Cx} {e : List Expr} {t t' : TGs} (h : PGs X e t) (i : ∀ v σ H Q, t' v σ H Q → t v σ H Q) : PGs X e t' := ⟨fun pins s σ H v u Q I r q => h.run pins s σ H v u Q I r (i _ _ _ _ q)⟩

section
variable {K : PySem.W.Frag} {F : Fm} {sl : List Sl} {σ : L2.St} {S H : Hp}
/-- a slot is bound anew -/
theorem ER.setSh (R : ER K F sl σ S H) {i : Nat} {v : V} {d : D} (hi : i < σ.length) (r : Rep K S v d) : ER K F (sl.set i (.sh d)) (σ.set i (some v)) S H := by
  have own : ∀ {j p}, OwnAt (σ.set i (some v)) (sl.set i (.sh d)) j p → OwnAt σ sl j p := fun {j p} ⟨h1, s, h2, h3⟩ => by
    by_cases hj : i = j
    · subst hj
      by_cases hl : i < sl.length
      · rw [List.getElem?_set_self hl] at h2
        cases h2
        cases h3
      · rw [List.getElem?_eq_none (by simpa using hl)] at h2
        cases h2
    · rw [List.getElem?_set_ne hj] at h1 h2
      exact ⟨h1, s, h2, h3⟩
  refine ⟨R.bh, R.sh, R.ss, R.nw, R.dm, fun j s z => ?_, fun j k p h1 h2 => R.ap j k p (own h1) (own h2)⟩
  by_cases hj : i = j
  · subst hj
    by_cases hl : i < sl.length
    · rw [List.getElem?_set_self hl] at z
      cases z
      exact ⟨v, List.getElem?_set_self hi, r⟩
    · rw [List.getElem?_eq_none (by simpa using hl)] at z
      cases z
  · rw [List.getElem?_set_ne hj] at z
    rw [List.getElem?_set_ne hj]
    exact R.at_ j s z
/-- a slot gets a new list of its own -/
theorem ER.setOw (R : ER K F sl σ S H) {i : Nat} {p : Addr} {vs : List V} {ds : List D} (hi : i < σ.length) (n : S p = none) (hN : F.N p) (q : H p = some (.lst vs)) (r : Reps K S vs ds) (no : ∀ j, ¬ OwnAt σ sl j p) :
    ER K F (sl.set i (.ow ds)) (σ.set i (some (.ref p))) S H := by
  have own : ∀ {j p'}, i ≠ j → OwnAt (σ.set i (some (.ref p))) (sl.set i (.ow ds)) j p' → OwnAt σ sl j p' := fun {j p'} hj ⟨h1, s, h2, h3⟩ => by
    rw [List.getElem?_set_ne hj] at h1 h2
    exact ⟨h1, s, h2, h3⟩
  have at_i : ∀ {p'}, OwnAt (σ.set i (some (.ref p))) (sl.set i (.ow ds)) i p' → p' = p := fun {p'} ⟨h1, _⟩ => by
    rw [List.getElem?_set_self hi] at h1
    cases h1
    rfl
  refine ⟨R.bh, R.sh, R.ss, R.nw, R.dm, fun j s z => ?_, fun j k p' h1 h2 => ?_⟩
  · by_cases hj : i = j
    · subst hj
      by_cases hl : i < sl.length
      · rw [List.getElem?_set_self hl] at z
        cases z
        exact ⟨p, vs, List.getElem?_set_self hi, n, hN, q, r⟩
      · rw [List.getElem?_eq_none (by simpa using hl)] at z
        cases z
    · rw [List.getElem?_set_ne hj] at z
      rw [List.getElem?_set_ne hj]
      exact R.at_ j s z
  · by_cases hj : i = j
    · subst hj
      by_cases hk : i = k
      · exact hk
      · have e := at_i h1
        subst e
        exact absurd (own hk h2) (no k)
    · by_cases hk : i = k
      · subst hk
        have e := at_i h2
        subst e
        exact absurd (own hj h1) (no j)
      · exact R.ap j k p' (own hj h1) (own hk h2)
end
section
variable {X : Cx} {F : Fm} {a b c e o : Expr} {es : List Expr} {rest st : List Stmt} {s1 : Stmt} {pos p apos pos' : Pos} {da db dc de : DE} {ta tb : DT} {dA : DA} {g : DG} {gs : DGs} {t u : DS} {V : Nat → Prop}

/-! ### blocks -/
def dNext : DS := fun N sl => N.nx sl
def dSeq (t u : DS) : DS := fun N sl => t { N with nx := u N } sl
theorem dss_nil : PDSs X F [] dNext := PSs_imp pss_nil fun D' σ H ⟨sl, S, N, R, h, l⟩ => l.nx sl σ S H h R (Ex.refl _)
theorem dss_cons (h1 : PDS X F s1 t) (h2 : PDSs X F rest u) : PDSs X F (s1 :: rest) (dSeq t u) := PSs_imp (pss_cons h1 h2) fun D' σ H ⟨sl, S, N, R, h, l⟩ =>
  ⟨sl, S, _, R, h, ⟨fun sl' σ' S' H' p R' e => ⟨sl', S', N, R', p, l.mono e⟩, l.rt, l.bk, l.ct, l.ro⟩⟩
theorem dss_one (h1 : PDS X F s1 t) : PDSs X F [s1] t := pss_one h1
theorem ds_pass : PDS X F (.Pass pos) dNext := PS_imp ps_pass fun D' σ H ⟨sl, S, N, R, h, l⟩ => l.nx sl σ S H h R (Ex.refl _)
def dBreak : DS := fun N sl => N.bk sl
def dCont : DS := fun N sl => N.ct sl
theorem ds_break : PDS X F (.Break pos) dBreak := PS_imp ps_break fun D' σ H ⟨sl, S, N, R, h, l⟩ => l.bk sl σ S H h R (Ex.refl _)
theorem ds_continue : PDS X F (.Continue pos) dCont := PS_imp ps_continue fun D' σ H ⟨sl, S, N, R, h, l⟩ => l.ct sl σ S H h R (Ex.refl _)
def dNever : DS := fun _ _ => False
theorem ds_never : PDS X F s1 dNever := PS_imp ps_never fun D' σ H ⟨sl, S, N, R, h, l⟩ => h
def dDrop (d : DE) : DS := fun N sl => d sl fun _ sl1 => N.nx sl1
theorem ds_expr (he : PDE X F e de) (hs : swapsWith e none pos.line X.env = pure false := by rfl) : PDS X F (.Expr e pos) (dDrop de) := PS_imp (ps_expr he hs) fun D' σ H ⟨sl, S, N, R, h, l⟩ => ⟨sl, S, _, R, h, fun v d sl1 S1 H1 p R1 e1 r1 => l.nx sl1 σ S1 H1 p R1 e1⟩
def dRet (d : DE) : DS := fun N sl => d sl N.rt
theorem ds_ret (he : PDE X F e de) : PDS X F (.Return (some e) pos) (dRet de) := PS_imp (ps_ret he) fun D' σ H ⟨sl, S, N, R, h, l⟩ => ⟨sl, S, _, R, h, fun v d sl1 S1 H1 p R1 e1 r1 => l.rt v d sl1 σ S1 H1 p R1 e1 r1⟩
/-- return e, a new list: it is the caller's own -/
def dRetO (d : DA) : DS := fun N sl => d sl N.ro
theorem ds_retO (he : PDN X F e dA) : PDS X F (.Return (some e) pos) (dRetO dA) := PS_imp (ps_ret he) fun D' σ H ⟨sl, S, N, R, h, l⟩ => ⟨sl, S, _, R, h, fun p vs c sl1 S1 H1 q R1 e1 n1 hN h1 r1 _ => l.ro p vs c sl1 σ S1 H1 q R1 e1 n1 hN h1 r1⟩
/-- return xs, a list of one's own -/
def dRetV (i : Nat) : DS := fun N sl => match sl[i]? with
  | some (.ow ds) => N.ro ds sl
  | _ => False
theorem ds_retV (i : Nat) {x : Str} {p : Pos} (hN : X.N[i]? = some x := by rfl) (hv : Vis X.env.scope x := by first | exact Or.inl rfl | exact Or.inr (Or.inl rfl) | exact Or.inr (Or.inr rfl)) (hd : (x == ("__debug__" : Str)) = false := by decide)
    (hcd : (x == ("__classdict__" : Str)) = false := by decide) : PDS X F (.Return (some (.Name x p)) pos) (dRetV i) := PS_imp (ps_ret (pe_var hN hv hd hcd)) fun D' σ H ⟨sl, S, N, R, h, l⟩ => by
  unfold dRetV at h
  split at h
  · rename_i ds he
    obtain ⟨q, vs, e, n, b, z, r⟩ := R.at_ i _ he
    exact ⟨_, e, l.ro q vs ds sl σ S H h R (Ex.refl _) n b z r⟩
  · exact h.elim
def dRetN : DS := fun N sl => N.rt .non sl
theorem ds_retN : PDS X F (.Return none pos) dRetN := PS_imp ps_retN fun D' σ H ⟨sl, S, N, R, h, l⟩ => l.rt .non .non sl σ S H h R (Ex.refl _) .non
def dIfS (c : DT) (t u : DS) : DS := fun N sl => c sl fun b sl1 => if b = true then t N sl1 else u N sl1
theorem ds_if {x y : List Stmt} (hc : PDT X F c ta) (hx : PDSs X F x t) (hy : PDSs X F y u) : PDS X F (.If c x y pos) (dIfS ta t u) := PS_imp (ps_if hc hx hy) fun D' σ H ⟨sl, S, N, R, h, l⟩ =>
  ⟨sl, S, _, R, h, fun b sl1 S1 H1 p R1 e1 => by
    cases b with
    | true => exact iteT ⟨sl1, S1, N, R1, by simpa using p, l.mono e1⟩
    | false => exact iteF ⟨sl1, S1, N, R1, by simpa using p, l.mono e1⟩⟩

/-! ### targets -/
/-- a name, as data -/
def gNm (i : Nat) : DG := fun d sl P => P (sl.set i (.sh d))
theorem ER.ltσ {pins : List (Addr × Obj)} {σ : L2.St} {H : Hp} {s : Shared} (I : Inv X pins σ H s) {i : Nat} {x : Str} (hi : X.N[i]? = some x) : i < σ.length := by
  rw [I.len]
  exact (List.getElem?_eq_some_iff.mp hi).1
/-- weaken, with the state's own facts -/
theorem PG_impI {X : Cx} {e : Expr} {t t' : TG} (h : PG X e t) (i : ∀ v σ H Q, σ.length = X.N.length → t' v σ H Q → t v σ H Q) : PG X e t' := ⟨fun pins s σ H v u Q I r q => h.run pins s σ H v u Q I r (i _ _ _ _ I.len q)⟩
theorem PS_impI {X : Cx} {e : Stmt} {t t' : TS} (h : PS X e t) (i : ∀ D' σ H, σ.length = X.N.length → t' D' σ H → t D' σ H) : PS X e t' := ⟨fun pins s σ H Q I q => h.run pins s σ H Q I (i _ _ _ I.len q)⟩
theorem dg_name {i : Nat} {x : Str} (hN : X.N.Nodup) (hi : X.N[i]? = some x) (hx : Loc X.env.scope x) (hf : X.fn x = true ∨ X.env.scope.names.lookup x = some .local := by first | exact .inl rfl | exact .inr rfl | assumption) (hV : V i := by first | exact trivial | decide) : PDG X F V (.Name x pos) (gNm i) :=
  PG_impI (pg_name hN hi hx hf) fun v σ H Q hl ⟨d, sl, S, P, R, r, p, k⟩ => k _ _ S H p (R.setSh (by rw [hl]; exact (List.getElem?_eq_some_iff.mp hi).1) r) (Ex.refl _) (Off.set hV)
def gNl : DGs := fun ds sl P => match ds with
  | [] => P sl
  | _ => False
def gCn (g : DG) (r : DGs) : DGs := fun ds sl P => match ds with
  | d :: ds => g d sl fun sl1 => r ds sl1 P
  | _ => False
theorem dgs_nil : PDGs X F V [] gNl := PGs_imp pgs_nil fun vs σ H Q ⟨ds, sl, S, P, R, r, p, k⟩ => by
  cases r with
  | nil => exact ⟨rfl, k sl σ S H p R (Ex.refl _) (Off.refl σ)⟩
  | cons _ _ => exact p.elim
theorem dgs_cons (h1 : PDG X F V e g) (h2 : PDGs X F V es gs) (hs : (assignEach (e :: es) X.env).map (·.2) = assign e X.env :: (assignEach es X.env).map (·.2) := by rfl) : PDGs X F V (e :: es) (gCn g gs) := PGs_imp (pgs_cons h1 h2 hs) fun vs σ H Q ⟨ds, sl, S, P, R, r, p, k⟩ => by
  cases r with
  | nil => exact p.elim
  | cons r1 r2 => exact ⟨_, _, rfl, _, sl, S, _, R, r1, p, fun sl1 σ1 S1 H1 p1 R1 e1 o1 => ⟨_, sl1, S1, P, R1, r2.mono e1, p1, fun sl2 σ2 S2 H2 p2 R2 e2 o2 => k sl2 σ2 S2 H2 p2 R2 (e1.trans e2) (o1.trans o2)⟩⟩
/-- (a, b, ..) = a tuple -/
def gTp (n : Nat) (r : DGs) : DG := fun d sl P => match d with
  | .tup ds => ds.length = n ∧ r ds sl P
  | _ => False
theorem dg_tup {k n : Nat} (hc : X.calm = true) (h : PDGs X F V es gs) (hn : (assignEach es X.env).length = n := by rfl) (hst : (assignEach es X.env).findIdx? (·.1) = none := by rfl) : PDG X F V (.Tuple es k pos) (gTp n gs) := PG_imp (pg_tup hc h hn hst) fun v σ H Q ⟨d, sl, S, P, R, r, p, k⟩ => by
  cases r with
  | tup h r => exact ⟨_, _, rfl, R.sh.sqT h, r.length.trans p.1, _, sl, S, P, R, r, p.2, k⟩
  | _ => exact p.elim
/-- (a, b, ..) = a list -/
def gLs (n : Nat) (r : DGs) : DG := fun d sl P => match d with
  | .lst ds => ds.length = n ∧ r ds sl P
  | _ => False
theorem dg_unl {k n : Nat} (hc : X.calm = true) (h : PDGs X F V es gs) (hn : (assignEach es X.env).length = n := by rfl) (hst : (assignEach es X.env).findIdx? (·.1) = none := by rfl) : PDG X F V (.Tuple es k pos) (gLs n gs) := PG_imp (pg_unl hc h hn hst) fun v σ H Q ⟨d, sl, S, P, R, r, p, k⟩ => by
  cases r with
  | lst h r => exact ⟨_, _, rfl, .inl (.inl (R.sh _ _ h)), r.length.trans p.1, _, sl, S, P, R, r, p.2, k⟩
  | _ => exact p.elim
/-- target = e -/
def dAsg (d : DE) (g : DG) : DS := fun N sl => d sl fun x sl1 => g x sl1 N.nx
theorem ds_asg (he : PDE X F e de) (hg : PDG X F Any a g) (hs : swapsWithSole [a] e pos.line X.env = pure false := by rfl) (hw : swappedStores [a] e X.env = pure none := by rfl) (h1 : (assignEach [a] X.env).map (·.2) = [assign a X.env] := by rfl) : PDS X F (.Assign [a] e pos) (dAsg de g) :=
  PS_imp (ps_asg he hg hs hw h1) fun D' σ H ⟨sl, S, N, R, h, l⟩ => ⟨sl, S, _, R, h, fun v d sl1 S1 H1 p R1 e1 r1 => ⟨d, sl1, S1, _, R1, r1, p, fun sl2 σ2 S2 H2 p2 R2 e2 _ => l.nx sl2 σ2 S2 H2 p2 R2 (e1.trans e2)⟩⟩
theorem ds_set {i : Nat} {x : Str} {pos' : Pos} (hN : X.N.Nodup) (hi : X.N[i]? = some x) (hx : Loc X.env.scope x) (he : PDE X F e de) (hs : swapsWith e (some (.Name x pos')) pos.line X.env = pure false := by rfl) (hf : X.fn x = true ∨ X.env.scope.names.lookup x = some .local := by first | exact .inl rfl | exact .inr rfl | assumption) :
    PDS X F (.Assign [.Name x pos'] e pos) (dAsg de (gNm i)) := PS_impI (ps_set hN hi hx he hs hf) fun D' σ H hl ⟨sl, S, N, R, h, l⟩ => ⟨sl, S, _, R, h, fun v d sl1 S1 H1 p R1 e1 r1 => l.nx _ _ S1 H1 p (R1.setSh (by rw [hl]; exact (List.getElem?_eq_some_iff.mp hi).1) r1) e1⟩
/-- name = a new list, to be changed -/
def dSetN (i : Nat) (r : DA) : DS := fun N sl => r sl fun xs sl1 => N.nx (sl1.set i (.ow xs))
theorem ds_setN {i : Nat} {x : Str} {pos' : Pos} (hN : X.N.Nodup) (hi : X.N[i]? = some x) (hx : Loc X.env.scope x) (he : PDN X F e dA) (hs : swapsWith e (some (.Name x pos')) pos.line X.env = pure false := by rfl) (hf : X.fn x = true ∨ X.env.scope.names.lookup x = some .local := by first | exact .inl rfl | exact .inr rfl | assumption) :
    PDS X F (.Assign [.Name x pos'] e pos) (dSetN i dA) := PS_impI (ps_set hN hi hx he hs hf) fun D' σ H hl ⟨sl, S, N, R, h, l⟩ => ⟨sl, S, _, R, h, fun q vs ds sl1 S1 H1 p R1 e1 n1 hn h1 r1 no => l.nx _ _ S1 H1 p (R1.setOw (by rw [hl]; exact (List.getElem?_eq_some_iff.mp hi).1) n1 hn h1 r1 no) e1⟩
/-- name op= e -/
def dAug (i : Nat) (f : Int → Int → Int) (d : DE) : DS := fun N sl => ∃ x, sl[i]? = some (.sh (.int x)) ∧ d sl fun y sl1 => match y with
  | .int j => N.nx (sl1.set i (.sh (.int (f x j))))
  | _ => False
theorem ds_aug {i : Nat} {x : Str} {op : Operator} {f : Int → Int → Int} {pos' : Pos} (hN : X.N.Nodup) (hi : X.N[i]? = some x) (hx : Loc X.env.scope x) (ho : PIp X op (ipI f)) (he : PDE X F e de) (hf : X.fn x = true ∨ X.env.scope.names.lookup x = some .local := by first | exact .inl rfl | exact .inr rfl | assumption) :
    PDS X F (.AugAssign (.Name x pos') op e pos) (dAug i f de) := PS_impI (ps_aug hN hi hx he ho hf) fun D' σ H hl ⟨sl, S, N, R, ⟨n, hn, h⟩, l⟩ => by
  obtain ⟨v, e0, r0⟩ := R.at_ i _ hn
  cases r0
  refine ⟨_, e0, sl, S, _, R, h, fun v d sl1 S1 H1 p R1 e1 r1 => ?_⟩
  cases r1 <;> first | exact p.elim | skip
  exact ⟨_, _, rfl, rfl, l.nx _ _ S1 H1 p (R1.setSh (by rw [hl]; exact (List.getElem?_eq_some_iff.mp hi).1) (.int _)) e1⟩
end
end DL
end
section
set_option maxRecDepth 100000
set_option maxHeartbeats 2000000
/-! D7: what is walked, for, while, list comprehensions. -/
namespace DL
open PySem L2 RZ

/-- J walks over the data ds, what stands in S0 standing -/
structure Walk (K : PySem.W.Frag) (J : It) (S0 : Hp) (ds : List D) : Prop where
  stop : ∀ H, Ex S0 H → J.stop ds.length H
  go : ∀ i H, i < ds.length → Ex S0 H → J.go i H
  yld : ∀ i x H H' d, ds[i]? = some d → J.yld i H x H' → ∀ S, Ex S0 S → Ex S H → ∃ S', Gr S H S' H' ∧ Rep K S' x d
theorem Walk.mono {K : PySem.W.Frag} {J : It} {S0 S1 : Hp} {ds : List D} (w : Walk K J S0 ds) (e : Ex S0 S1) : Walk K J S1 ds :=
  ⟨fun H h => w.stop H (e.trans h), fun i H hi h => w.go i H hi (e.trans h), fun i x H H' d h y S h1 h2 => w.yld i x H H' d h y S (e.trans h1) h2⟩
theorem Walk.list {K : PySem.W.Frag} {a : Addr} {vs : List V} {S : Hp} {ds : List D} (h : SqL K S a vs) (r : Reps K S vs ds) : Walk K (Itl K a) S ds where
  stop := fun H e => ⟨vs, e.sqL h, by rw [r.length]; exact Nat.le_refl _⟩
  go := fun i H hi e => by
    obtain ⟨v, h1, _⟩ := r.get (show ds[i]? = some ds[i] by simp [hi])
    exact ⟨vs, v, e.sqL h, h1⟩
  yld := fun i x H H' d hd y S1 e1 e2 => by
    obtain ⟨rfl, y⟩ := y
    obtain ⟨v, h1, h2⟩ := r.get hd
    have q := y vs ((e1.trans e2).sqL h)
    rw [h1] at q
    cases q
    exact ⟨S1, Gr.refl e2, h2.mono e1⟩
theorem Walk.tup {K : PySem.W.Frag} {a : Addr} {vs : List V} {S : Hp} {ds : List D} (h : SqT K S a vs) (r : Reps K S vs ds) : Walk K (Itt K a) S ds where
  stop := fun H e => ⟨vs, e.sqT h, by rw [r.length]; exact Nat.le_refl _⟩
  go := fun i H hi e => by
    obtain ⟨v, h1, _⟩ := r.get (show ds[i]? = some ds[i] by simp [hi])
    exact ⟨vs, v, e.sqT h, h1⟩
  yld := fun i x H H' d hd y S1 e1 e2 => by
    obtain ⟨rfl, y⟩ := y
    obtain ⟨v, h1, h2⟩ := r.get hd
    have q := y vs ((e1.trans e2).sqT h)
    rw [h1] at q
    cases q
    exact ⟨S1, Gr.refl e2, h2.mono e1⟩
/-- the numbers lo, lo + 1, .. -/
def rngD (lo : Int) (n : Nat) : List D := (List.range n).map fun (i : Nat) => .int (lo + (i : Int))
theorem rngD_len (lo : Int) (n : Nat) : (rngD lo n).length = n := by simp [rngD]
theorem Walk.rng {K : PySem.W.Frag} {lo : Int} {n : Nat} {S : Hp} : Walk K (Itr lo n) S (rngD lo n) where
  stop := fun H e => by rw [rngD_len]; exact Nat.le_refl _
  go := fun i H hi e => by rw [rngD_len] at hi; exact hi
  yld := fun i x H H' d hd y S1 e1 e2 => by
    obtain ⟨rfl, rfl⟩ := y
    have hi : i < n := by
      have := (List.getElem?_eq_some_iff.mp hd).1
      rwa [rngD_len] at this
    have : d = .int (lo + (i : Int)) := by
      simp only [rngD, List.getElem?_map, List.getElem?_range hi, Option.map_some, Option.some.injEq] at hd
      exact hd.symm
    subst this
    exact ⟨S1, Gr.refl e2, .int _⟩
/-- pairs of a number and an item -/
def enumD (ds : List D) : List D := ds.zipIdx.map fun p => .tup [.int (p.2 : Nat), p.1]
theorem enumD_len (ds : List D) : (enumD ds).length = ds.length := by simp [enumD]
theorem enumD_get {ds : List D} {i : Nat} {d : D} (h : (enumD ds)[i]? = some d) : ∃ x, ds[i]? = some x ∧ d = .tup [.int (i : Nat), x] := by
  simp only [enumD, List.getElem?_map, List.getElem?_zipIdx, Option.map_eq_some_iff] at h
  obtain ⟨p, ⟨a, h1, h2⟩, h3⟩ := h
  subst h2
  exact ⟨a, h1, by rw [← h3]; simp⟩
theorem Walk.enum {K : PySem.W.Frag} {a : Addr} {vs : List V} {S : Hp} {ds : List D} (h : SqL K S a vs) (r : Reps K S vs ds) : Walk K (Ite K a) S (enumD ds) where
  stop := fun H e => ⟨vs, e.sqL h, by rw [r.length, enumD_len]; exact Nat.le_refl _⟩
  go := fun i H hi e => by
    rw [enumD_len] at hi
    obtain ⟨v, h1, _⟩ := r.get (show ds[i]? = some ds[i] by simp [hi])
    exact ⟨vs, v, e.sqL h, h1⟩
  yld := fun i x H H' d hd y S1 e1 e2 => by
    obtain ⟨T, v, rfl, hT, rfl, hv⟩ := y
    obtain ⟨z, h1, rfl⟩ := enumD_get hd
    obtain ⟨w, h2, h3⟩ := r.get h1
    have q := hv vs ((e1.trans e2).sqL h)
    rw [h2] at q
    cases q
    have g : Gr S1 H (upd S1 T (.tup [.int (i : Nat), v])) (upd H T (.tup [.int (i : Nat), v])) := Gr.new e2 hT
    exact ⟨_, g, .tup (SqT.of upd_same) (.cons (.int _) (.cons ((h3.mono e1).mono g.s) .nil))⟩
/-- pairs -/
def zipD (xs ys : List D) : List D := (xs.zip ys).map fun p => .tup [p.1, p.2]
theorem zipD_len (xs ys : List D) : (zipD xs ys).length = min xs.length ys.length := by simp [zipD]
theorem zipD_get {xs ys : List D} {i : Nat} {d : D} (h : (zipD xs ys)[i]? = some d) : ∃ x y, xs[i]? = some x ∧ ys[i]? = some y ∧ d = .tup [x, y] := by
  simp only [zipD, List.getElem?_map, Option.map_eq_some_iff] at h
  obtain ⟨p, h1, h2⟩ := h
  obtain ⟨h3, h4⟩ := List.getElem?_zip_eq_some.mp h1
  exact ⟨p.1, p.2, h3, h4, h2.symm⟩
theorem Walk.zipL {K : PySem.W.Frag} {a b : Addr} {vs ws : List V} {S : Hp} {ds es : List D} (h : SqL K S a vs) (r : Reps K S vs ds) (h' : SqL K S b ws) (r' : Reps K S ws es) : Walk K (Itz K a b) S (zipD ds es) where
  stop := fun H e => ⟨vs, ws, e.sqL h, e.sqL h', by rw [r.length, r'.length, zipD_len]; omega⟩
  go := fun i H hi e => by
    rw [zipD_len] at hi
    obtain ⟨v, h1, _⟩ := r.get (show ds[i]? = some (ds[i]'(by omega)) by simp)
    obtain ⟨w, h2, _⟩ := r'.get (show es[i]? = some (es[i]'(by omega)) by simp)
    exact ⟨vs, ws, v, w, e.sqL h, e.sqL h', h1, h2⟩
  yld := fun i x H H' d hd y S1 e1 e2 => by
    obtain ⟨T, v, w, rfl, hT, rfl, hv, hw⟩ := y
    obtain ⟨x, y, h1, h2, rfl⟩ := zipD_get hd
    obtain ⟨v2, h3, h4⟩ := r.get h1
    obtain ⟨w2, h5, h6⟩ := r'.get h2
    have q := hv vs ((e1.trans e2).sqL h)
    rw [h3] at q
    cases q
    have q := hw ws ((e1.trans e2).sqL h')
    rw [h5] at q
    cases q
    have g : Gr S1 H (upd S1 T (.tup [v, w])) (upd H T (.tup [v, w])) := Gr.new e2 hT
    exact ⟨_, g, .tup (SqT.of upd_same) (.cons ((h4.mono e1).mono g.s) (.cons ((h6.mono e1).mono g.s) .nil))⟩
theorem Walk.zipT {K : PySem.W.Frag} {a b : Addr} {vs ws : List V} {S : Hp} {ds es : List D} (h : SqT K S a vs) (r : Reps K S vs ds) (h' : SqT K S b ws) (r' : Reps K S ws es) : Walk K (ItzT K a b) S (zipD ds es) where
  stop := fun H e => ⟨vs, ws, e.sqT h, e.sqT h', by rw [r.length, r'.length, zipD_len]; omega⟩
  go := fun i H hi e => by
    rw [zipD_len] at hi
    obtain ⟨v, h1, _⟩ := r.get (show ds[i]? = some (ds[i]'(by omega)) by simp)
    obtain ⟨w, h2, _⟩ := r'.get (show es[i]? = some (es[i]'(by omega)) by simp)
    exact ⟨vs, ws, v, w, e.sqT h, e.sqT h', h1, h2⟩
  yld := fun i x H H' d hd y S1 e1 e2 => by
    obtain ⟨T, v, w, rfl, hT, rfl, hv, hw⟩ := y
    obtain ⟨x, y, h1, h2, rfl⟩ := zipD_get hd
    obtain ⟨v2, h3, h4⟩ := r.get h1
    obtain ⟨w2, h5, h6⟩ := r'.get h2
    have q := hv vs ((e1.trans e2).sqT h)
    rw [h3] at q
    cases q
    have q := hw ws ((e1.trans e2).sqT h')
    rw [h5] at q
    cases q
    have g : Gr S1 H (upd S1 T (.tup [v, w])) (upd H T (.tup [v, w])) := Gr.new e2 hT
    exact ⟨_, g, .tup (SqT.of upd_same) (.cons ((h4.mono e1).mono g.s) (.cons ((h6.mono e1).mono g.s) .nil))⟩

/-- what is walked, over data: the items -/
abbrev DI := List Sl → (List D → List Sl → Prop) → Prop
def tI (K : PySem.W.Frag) (F : Fm) (di : DI) : TI := fun σ H R => ∃ sl S P, ER K F sl σ S H ∧ di sl P ∧ ∀ J ds sl' S' H', P ds sl' → ER K F sl' σ S' H' → Ex S S' → Walk K J S' ds → R J H'
def PDI (X : Cx) (F : Fm) (tg e : Expr) (di : DI) : Prop := PI X tg e (tI X.K F di)
theorem PI_imp {X : Cx} {tg e : Expr} {t t' : TI} (h : PI X tg e t) (i : ∀ σ H Q, t' σ H Q → t σ H Q) : PI X tg e t' := ⟨fun pins s σ H Q I q => h.run pins s σ H Q I (i _ _ _ q)⟩
section
variable {X : Cx} {F : Fm} {a b c e o tg : Expr} {es : List Expr} {rest st : List Stmt} {s1 : Stmt} {pos p apos pos' : Pos} {da db dc de : DE} {ta tb : DT} {dA : DA} {g : DG} {gs : DGs} {t u : DS} {di : DI}
/-- a list (data) -/
def iLs (d : DE) : DI := fun sl P => d sl fun x sl1 => match x with
  | .lst ds => P ds sl1
  | _ => False
def iTp (d : DE) : DI := fun sl P => d sl fun x sl1 => match x with
  | .tup ds => P ds sl1
  | _ => False
theorem di_list (h : PDE X F e de) : PDI X F tg e (iLs de) := PI_imp (pi_list h) fun σ H Q ⟨sl, S, P, R, p, k⟩ => ⟨sl, S, _, R, p, fun v d sl1 S1 H1 p1 R1 e1 r1 => by
  cases r1 with
  | lst h r => exact ⟨_, rfl, ⟨_, .inl (.inl (R1.sh _ _ h))⟩, k _ _ sl1 S1 H1 p1 R1 e1 (Walk.list (.inl (.inl h)) r)⟩
  | _ => exact p1.elim⟩
theorem di_tup (h : PDE X F e de) : PDI X F tg e (iTp de) := PI_imp (pi_tup h) fun σ H Q ⟨sl, S, P, R, p, k⟩ => ⟨sl, S, _, R, p, fun v d sl1 S1 H1 p1 R1 e1 r1 => by
  cases r1 with
  | tup h r => exact ⟨_, rfl, ⟨_, R1.sh.sqT h⟩, k _ _ sl1 S1 H1 p1 R1 e1 (Walk.tup h r)⟩
  | _ => exact p1.elim⟩
def iRg1 (d : DE) : DI := fun sl P => d sl fun x sl1 => match x with
  | .int j => (-(2 ^ 62) ≤ j ∧ j < 2 ^ 62) ∧ P (rngD 0 j.toNat) sl1
  | _ => False
def iRg2 (a b : DE) : DI := fun sl P => a sl fun x sl1 => b sl1 fun y sl2 => match x, y with
  | .int i, .int j => (-(2 ^ 62) ≤ i ∧ i < 2 ^ 62 ∧ -(2 ^ 62) ≤ j ∧ j < 2 ^ 62) ∧ P (rngD i (j - i).toNat) sl2
  | _, _ => False
theorem di_range1 (hg : Gl X "range") (hm : X.mg "range" = none) (ha : PDE X F a da) (hs : starEach [a] X.env = [(false, eval a X.env)] := by rfl) (hs' : starEach [a] X.env = (false, eval a X.env) :: starEach [] X.env := by rfl) : PDI X F tg (.Call (.Name "range" p) [a] [] pos) (iRg1 da) :=
  PI_imp (pi_range1 hg hm (pa_cons ha pa_nil hs') hs) fun σ H Q ⟨sl, S, P, R, p, k⟩ => ⟨sl, S, _, R, p, fun v d sl1 S1 H1 p1 R1 e1 r1 => by
    cases r1 with
    | int j => exact ⟨j, rfl, p1.1.1, p1.1.2, k _ _ sl1 S1 H1 p1.2 R1 e1 Walk.rng⟩
    | _ => exact p1.elim⟩
theorem di_range2 (hg : Gl X "range") (hm : X.mg "range" = none) (ha : PDE X F a da) (hb : PDE X F b db) (hs : starEach [a, b] X.env = [(false, eval a X.env), (false, eval b X.env)] := by rfl) (hs2 : starEach [b] X.env = [(false, eval b X.env)] := by rfl)
    (hs' : starEach [a, b] X.env = (false, eval a X.env) :: starEach [b] X.env := by rfl) (hs2' : starEach [b] X.env = (false, eval b X.env) :: starEach [] X.env := by rfl) : PDI X F tg (.Call (.Name "range" p) [a, b] [] pos) (iRg2 da db) :=
  PI_imp (pi_range2 hg hm (pa_cons ha (pa_cons hb pa_nil hs2') hs') hs hs2) fun σ H Q ⟨sl, S, P, R, p, k⟩ => ⟨sl, S, _, R, p, fun v d sl1 S1 H1 p1 R1 e1 r1 => ⟨sl1, S1, _, R1, p1, fun v2 d2 sl2 S2 H2 p2 R2 e2 r2 => by
    cases r1 with
    | int i =>
      cases r2 with
      | int j => exact ⟨i, j, rfl, p2.1, k _ _ sl2 S2 H2 p2.2 R2 (e1.trans e2) Walk.rng⟩
      | _ => exact p2.elim
    | _ => exact p2.elim⟩⟩
def iEn (d : DE) : DI := fun sl P => d sl fun x sl1 => match x with
  | .lst ds => P (enumD ds) sl1
  | _ => False
theorem di_enum {kk : Nat} {tpos : Pos} {elts : List Expr} (hg : Gl X "enumerate") (hm : X.mg "enumerate" = none) (ha : PDE X F a da) (hs : starEach [a] X.env = [(false, eval a X.env)] := by rfl) (hs' : starEach [a] X.env = (false, eval a X.env) :: starEach [] X.env := by rfl) :
    PDI X F (.Tuple elts kk tpos) (.Call (.Name "enumerate" p) [a] [] pos) (iEn da) :=
  PI_imp (pi_enum hg hm (pa_cons ha pa_nil hs') hs) fun σ H Q ⟨sl, S, P, R, p, k⟩ => ⟨sl, S, _, R, p, fun v d sl1 S1 H1 p1 R1 e1 r1 => by
    cases r1 with
    | lst h r => exact ⟨_, _, rfl, .inl (.inl (R1.sh _ _ h)), k _ _ sl1 S1 H1 p1 R1 e1 (Walk.enum (.inl (.inl h)) r)⟩
    | _ => exact p1.elim⟩
def iZp (a b : DE) : DI := fun sl P => a sl fun x sl1 => b sl1 fun y sl2 => match x, y with
  | .lst ds, .lst es => P (zipD ds es) sl2
  | .tup ds, .tup es => P (zipD ds es) sl2
  | _, _ => False
theorem di_zip {kk : Nat} {tpos : Pos} {elts : List Expr} (hg : Gl X "zip") (hm : X.mg "zip" = none) (ha : PDE X F a da) (hb : PDE X F b db) (hs : starEach [a, b] X.env = (false, eval a X.env) :: starEach [b] X.env := by rfl) (hs2 : starEach [b] X.env = (false, eval b X.env) :: starEach [] X.env := by rfl) (hpl : (backTo pos (starEach [b] X.env)).any (·.1) = false := by rfl) :
    PDI X F (.Tuple elts kk tpos) (.Call (.Name "zip" p) [a, b] [] pos) (iZp da db) :=
  PI_imp (pi_zipA hg hm (pa_cons ha (pa_cons hb pa_nil hs2) hs) hs hpl) fun σ H Q ⟨sl, S, P, R, p, k⟩ => ⟨sl, S, _, R, p, fun v d sl1 S1 H1 p1 R1 e1 r1 => ⟨sl1, S1, _, R1, p1, fun v2 d2 sl2 S2 H2 p2 R2 e2 r2 => by
    have r3 := r1.mono e2
    cases r3 with
    | lst h r =>
      cases r2 with
      | lst h' r' => exact ⟨_, _, _, _, rfl, .inl ⟨.inl (.inl (R2.sh _ _ h)), .inl (.inl (R2.sh _ _ h')), k _ _ sl2 S2 H2 p2 R2 (e1.trans e2) (Walk.zipL (.inl (.inl h)) r (.inl (.inl h')) r')⟩⟩
      | _ => exact p2.elim
    | tup h r =>
      cases r2 with
      | tup h' r' => exact ⟨_, _, _, _, rfl, .inr ⟨R2.sh.sqT h, R2.sh.sqT h', k _ _ sl2 S2 H2 p2 R2 (e1.trans e2) (Walk.zipT h r h' r')⟩⟩
      | _ => exact p2.elim
    | _ => exact p2.elim⟩⟩

/-! ### for -/
def dFor (di : DI) (g : DG) (t : DS) : DS := fun N sl => di sl fun items sl1 => ∃ I : Nat → List Sl → Prop, I 0 sl1 ∧ (∀ i x sl, items[i]? = some x → I i sl → g x sl fun sl2 => t { nx := I (i + 1), ct := I (i + 1), bk := N.nx, rt := N.rt, ro := N.ro } sl2) ∧ ∀ sl, I items.length sl → N.nx sl
theorem ds_for {body : List Stmt} (hp : PassesOwn (model X.prog X.w) X.A X.env X.xe) (hc : X.calm = true) (hi : PDI X F tg e di) (hg : PDG X F Any tg g) (hb : PDSs X F body t) (hs : ∀ x, foldedSetIterable e X.env x = pure x := by intro _; rfl) :
    PDS X F (.For tg e body [] pos) (dFor di g t) := PS_imp (ps_for hp hc hi hg hb hs) fun D' σ H ⟨sl, S, N, R, h, l⟩ =>
  ⟨sl, S, _, R, h, fun J ds sl1 S1 H1 ⟨I, i0, step, fin⟩ R1 e1 w => by
    refine ⟨fun i m σ H => m = ds.length - i ∧ i ≤ ds.length ∧ ∃ sl S, ER X.K F sl σ S H ∧ I i sl ∧ Ex S1 S, ⟨ds.length, by simp, Nat.zero_le _, sl1, S1, R1, i0, Ex.refl _⟩, ?_⟩
    rintro i m σ H ⟨rfl, hi, sl, S, R, hI, e2⟩
    by_cases hlt : i < ds.length
    · refine .inr ⟨w.go i H hlt (e2.trans R.sh), fun σ' H' => ∃ sl' S', ER X.K F sl' σ' S' H' ∧ I (i + 1) sl' ∧ Ex S1 S', fun σ' H' ⟨sl', S', R', hI', e'⟩ => ⟨ds.length - (i + 1), by omega, rfl, hlt, sl', S', R', hI', e'⟩, fun x H' y => ?_⟩
      obtain ⟨S', gr, rx⟩ := w.yld i x H H' ds[i] (by simp [hlt]) y S e2 R.sh
      have R' := R.grow gr
      refine ⟨_, sl, S', _, R', rx, step i _ sl (by simp [hlt]) hI, fun sl2 σ2 S2 H2 p2 R2 e3 _ => ⟨sl2, S2, _, R2, p2, ⟨?_, ?_, ?_, ?_, ?_⟩⟩⟩
      · exact fun sl' σ' S' H' p R' e => ⟨sl', S', R', p, e2.trans (gr.s.trans (e3.trans e))⟩
      · exact fun v d sl' σ' S' H' p R' e r => l.rt v d sl' σ' S' H' p R' (e1.trans (e2.trans (gr.s.trans (e3.trans e)))) r
      · exact fun sl' σ' S' H' p R' e => l.nx sl' σ' S' H' p R' (e1.trans (e2.trans (gr.s.trans (e3.trans e))))
      · exact fun sl' σ' S' H' p R' e => ⟨sl', S', R', p, e2.trans (gr.s.trans (e3.trans e))⟩
      · exact fun p vs c sl' σ' S' H' q R' e => l.ro p vs c sl' σ' S' H' q R' (e1.trans (e2.trans (gr.s.trans (e3.trans e))))
    · have e : i = ds.length := by omega
      subst e
      exact .inl ⟨w.stop H (e2.trans R.sh), l.nx sl σ S H (fin sl hI) R (e1.trans e2)⟩⟩
/-! ### while -/
def dWhile (c : DT) (t : DS) : DS := fun N sl => ∃ I : Nat → List Sl → Prop, (∃ m, I m sl) ∧ ∀ m sl, I m sl → c sl fun b sl1 => if b = true then t { nx := fun sl' => ∃ m', m' < m ∧ I m' sl', ct := fun sl' => ∃ m', m' < m ∧ I m' sl', bk := N.nx, rt := N.rt, ro := N.ro } sl1 else N.nx sl1
theorem ds_while {body : List Stmt} (hp : PassesOwn (model X.prog X.w) X.A X.env X.xe) (hc : PDT X F c ta) (hb : PDSs X F body t) : PDS X F (.While c body [] pos) (dWhile ta t) := PS_imp (ps_while hp hc hb) fun D' σ H ⟨sl, S, N, R, ⟨I, ⟨m0, h0⟩, step⟩, l⟩ => by
  refine ⟨fun m σ H => ∃ sl S', ER X.K F sl σ S' H ∧ I m sl ∧ Ex S S', ⟨m0, sl, S, R, h0, Ex.refl _⟩, ?_⟩
  rintro m σ H ⟨sl, S', R, hI, e⟩
  refine ⟨sl, S', _, R, step m sl hI, fun b sl1 S1 H1 p R1 e1 => ?_⟩
  cases b with
  | true =>
    refine iteT ⟨fun σ' H' => ∃ m', m' < m ∧ ∃ sl S', ER X.K F sl σ' S' H' ∧ I m' sl ∧ Ex S S', fun σ' H' ⟨m', hm, q⟩ => ⟨m', hm, q⟩, sl1, S1, _, R1, by simpa using p, ⟨?_, ?_, ?_, ?_, ?_⟩⟩
    · exact fun sl' σ' S' H' ⟨m', hm, q⟩ R' e2 => ⟨m', hm, sl', S', R', q, e.trans (e1.trans e2)⟩
    · exact fun v d sl' σ' S' H' p R' e2 r => l.rt v d sl' σ' S' H' p R' (e.trans (e1.trans e2)) r
    · exact fun sl' σ' S' H' p R' e2 => l.nx sl' σ' S' H' p R' (e.trans (e1.trans e2))
    · exact fun sl' σ' S' H' ⟨m', hm, q⟩ R' e2 => ⟨m', hm, sl', S', R', q, e.trans (e1.trans e2)⟩
    · exact fun p vs c sl' σ' S' H' q R' e2 => l.ro p vs c sl' σ' S' H' q R' (e.trans (e1.trans e2))
  | false => exact iteF (l.nx sl1 σ S1 H1 (by simpa using p) R1 (e.trans e1))
end
end DL
end
section
set_option maxRecDepth 100000
set_option maxHeartbeats 2000000
/-! D8: list comprehensions. -/
namespace DL
open PySem L2 RZ

/-- the slots of a comprehension's own names forgotten; put back -/
def wipeS (sl : List Sl) : List Nat → List Sl
  | [] => sl
  | v :: vs => (wipeS sl vs).set v .un
def backS (sl sl' : List Sl) : List Nat → List Sl
  | [] => sl'
  | v :: vs => match sl[v]? with
    | some s => (backS sl sl' vs).set v s
    | none => backS sl sl' vs
theorem wipeS_at {sl : List Sl} {i : Nat} {s : Sl} : ∀ {vs : List Nat}, (wipeS sl vs)[i]? = some s → (i ∈ vs ∧ s = .un) ∨ (i ∉ vs ∧ sl[i]? = some s)
  | [], h => .inr ⟨by simp, h⟩
  | v :: vs, h => by
    unfold wipeS at h
    by_cases hi : v = i
    · subst hi
      by_cases hl : v < (wipeS sl vs).length
      · rw [List.getElem?_set_self hl] at h
        cases h
        exact .inl ⟨by simp, rfl⟩
      · rw [List.getElem?_eq_none (by simpa using hl)] at h
        cases h
    · rw [List.getElem?_set_ne hi] at h
      rcases wipeS_at h with ⟨h1, h2⟩ | ⟨h1, h2⟩
      · exact .inl ⟨by simp [h1], h2⟩
      · exact .inr ⟨by simp only [List.mem_cons, not_or]; exact ⟨fun e => hi e.symm, h1⟩, h2⟩
theorem backS_at {sl sl' : List Sl} {i : Nat} {s : Sl} : ∀ {vs : List Nat}, (backS sl sl' vs)[i]? = some s → (i ∈ vs ∧ sl[i]? = some s) ∨ (i ∉ vs ∧ sl'[i]? = some s) ∨ (i ∈ vs ∧ sl[i]? = none)
  | [], h => .inr (.inl ⟨by simp, h⟩)
  | v :: vs, h => by
    unfold backS at h
    split at h
    · rename_i t e
      by_cases hi : v = i
      · subst hi
        by_cases hl : v < (backS sl sl' vs).length
        · rw [List.getElem?_set_self hl] at h
          cases h
          exact .inl ⟨by simp, e⟩
        · rw [List.getElem?_eq_none (by simpa using hl)] at h
          cases h
      · rw [List.getElem?_set_ne hi] at h
        rcases backS_at h with ⟨h1, h2⟩ | ⟨h1, h2⟩ | ⟨h1, h2⟩
        · exact .inl ⟨by simp [h1], h2⟩
        · exact .inr (.inl ⟨by simp only [List.mem_cons, not_or]; exact ⟨fun e => hi e.symm, h1⟩, h2⟩)
        · exact .inr (.inr ⟨by simp [h1], h2⟩)
    · rename_i e
      by_cases hi : v = i
      · subst hi
        exact .inr (.inr ⟨by simp, e⟩)
      · rcases backS_at h with ⟨h1, h2⟩ | ⟨h1, h2⟩ | ⟨h1, h2⟩
        · exact .inl ⟨by simp [h1], h2⟩
        · exact .inr (.inl ⟨by simp only [List.mem_cons, not_or]; exact ⟨fun e => hi e.symm, h1⟩, h2⟩)
        · exact .inr (.inr ⟨by simp [h1], h2⟩)
theorem wipe_un {σ : L2.St} {i : Nat} {x : V} {vs : List Nat} (h : σ[i]? = some (some x)) (n : i ∉ vs) : (wipe σ vs)[i]? = some (some x) := by rw [wipe_out n]; exact h
theorem wipe_in {σ : L2.St} {i : Nat} : ∀ {vs : List Nat}, i ∈ vs → (wipe σ vs)[i]? = if i < σ.length then some none else none
  | v :: vs, h => by
    unfold wipe
    by_cases hi : v = i
    · subst hi
      by_cases hl : v < σ.length
      · rw [if_pos hl, List.getElem?_set_self (by rw [wipe_length]; exact hl)]
      · rw [if_neg hl, List.getElem?_eq_none (by rw [List.length_set, wipe_length]; omega)]
    · rw [List.getElem?_set_ne hi]
      have h' : i ∈ vs := by
        rcases List.mem_cons.mp h with e | e
        · exact absurd e.symm hi
        · exact e
      exact wipe_in h'
theorem wipe_off {σ σ' : L2.St} {vs : List Nat} (o : Off (fun i => i ∈ vs) σ σ') : wipe σ' vs = wipe σ vs := by
  refine List.ext_getElem? fun i => ?_
  by_cases hi : i ∈ vs
  · rw [wipe_in hi, wipe_in hi, o.1]
  · rw [wipe_out hi, wipe_out hi, o.2 i hi]
theorem wipe_wipe (σ : L2.St) (vs : List Nat) : wipe (wipe σ vs) vs = wipe σ vs := by
  refine List.ext_getElem? fun i => ?_
  by_cases hi : i ∈ vs
  · rw [wipe_in hi, wipe_in hi, wipe_length]
  · rw [wipe_out hi]
/-- the frame in which one more object stands: a list that a comprehension fills -/
def Fm.plus (F : Fm) (q : Addr) (o : HO) : Fm where
  B := upd F.B q o
  S0 := F.S0
  N := fun a => F.N a ∧ a ≠ q
  bn := fun a ⟨h1, h2⟩ => by rw [upd_ne h2]; exact F.bn a h1
section
variable {K : PySem.W.Frag} {F : Fm} {sl sl' : List Sl} {σ σ' : L2.St} {S S' H H' : Hp}
theorem ER.wiped (R : ER K F sl σ S H) (vs : List Nat) : ER K F (wipeS sl vs) (wipe σ vs) S H := by
  have own : ∀ {j p}, OwnAt (wipe σ vs) (wipeS sl vs) j p → OwnAt σ sl j p := fun {j p} ⟨h1, s, h2, h3⟩ => by
    rcases wipeS_at h2 with ⟨_, e⟩ | ⟨n, e⟩
    · subst e; cases h3
    · rw [wipe_out n] at h1
      exact ⟨h1, s, e, h3⟩
  refine ⟨R.bh, R.sh, R.ss, R.nw, R.dm, fun j s z => ?_, fun j k p h1 h2 => R.ap j k p (own h1) (own h2)⟩
  rcases wipeS_at z with ⟨_, e⟩ | ⟨n, e⟩
  · subst e; trivial
  · rw [wipe_out n]
    exact R.at_ j s e
/-- no slot among vs holds an object of its own -/
def NoOwn (sl : List Sl) (vs : List Nat) : Prop := ∀ v ∈ vs, ∀ s, sl[v]? = some s → s.own = false
theorem ER.back (R0 : ER K F sl σ S H) (R : ER K F sl' σ' S' H') (vs : List Nat) (no : NoOwn sl vs) (e : wipe σ' vs = wipe σ vs) (ex : Ex S S') (hl : ∀ i ∈ vs, i < sl.length) : ER K F (backS sl sl' vs) σ S' H' := by
  have out : ∀ {i}, i ∉ vs → σ'[i]? = σ[i]? := fun {i} n => by
    have h := congrArg (fun l => l[i]?) e
    simp only [wipe_out n] at h
    exact h
  have own : ∀ {j p}, OwnAt σ (backS sl sl' vs) j p → OwnAt σ' sl' j p := fun {j p} ⟨h1, s, h2, h3⟩ => by
    rcases backS_at h2 with ⟨h4, h5⟩ | ⟨h4, h5⟩ | ⟨h4, h5⟩
    · rw [no j h4 s h5] at h3; cases h3
    · exact ⟨by rw [out h4]; exact h1, s, h5, h3⟩
    · have := hl j h4
      rw [List.getElem?_eq_none_iff] at h5
      omega
  refine ⟨R.bh, R.sh, R.ss, R.nw, R.dm, fun j s z => ?_, fun j k p h1 h2 => R.ap j k p (own h1) (own h2)⟩
  rcases backS_at z with ⟨h4, h5⟩ | ⟨h4, h5⟩ | ⟨h4, h5⟩
  · have w := R0.at_ j s h5
    have nn := no j h4 s h5
    cases s with
    | un => trivial
    | sh d =>
      obtain ⟨v, e1, r1⟩ := w
      exact ⟨v, e1, r1.mono ex⟩
    | ow _ => cases nn
    | io _ => cases nn
    | oi _ _ => cases nn
  · rw [← out h4]
    exact R.at_ j s h5
  · have := hl j h4
    rw [List.getElem?_eq_none_iff] at h5
    omega
/-- the new list is part of the frame for a turn -/
theorem ER.plus (R : ER K F sl σ S H) {q : Addr} {o : HO} (n : S q = none) (h : H q = some o) (no : ∀ i, ¬ OwnAt σ sl i q) : ER K (F.plus q o) sl σ S H := by
  refine ⟨fun a u z => ?_, R.sh, R.ss, fun a ha => ?_, fun a ha => ⟨R.dm a ha, fun e => by subst e; rw [h] at ha; cases ha⟩, fun j s z => ?_, R.ap⟩
  · by_cases ha : a = q
    · subst ha
      have z' : upd F.B a o a = some u := z
      rw [upd_same] at z'
      rw [← z']
      exact h
    · have z' : upd F.B q o a = some u := z
      rw [upd_ne ha] at z'
      exact R.bh a u z'
  · rcases R.nw a ha with z | z
    · exact .inl z
    · exact .inr ⟨z, fun e => by subst e; exact ha n⟩
  · have w := R.at_ j s z
    have ne : s.own = true → ∀ q', σ[j]? = some (some (.ref q')) → q' ≠ q := fun ho q' hq' hh => by
      subst hh
      exact no j ⟨hq', _, z, ho⟩
    cases s with
    | un => trivial
    | sh d => exact w
    | ow ds =>
      obtain ⟨p, vs, e, n, b, q, r⟩ := w
      exact ⟨p, vs, e, n, ⟨b, ne rfl p e⟩, q, r⟩
    | io ds =>
      obtain ⟨p, vs, e, n, b, q, r⟩ := w
      exact ⟨p, vs, e, n, ⟨by show upd F.B _ o p = none; rw [upd_ne (ne rfl p e)]; exact b.1, fun z => b.2 z.1⟩, q, r⟩
    | oi C fs =>
      obtain ⟨p, dx, vs, e, n, b, q, r⟩ := w
      exact ⟨p, dx, vs, e, n, ⟨by show upd F.B _ o p = none; rw [upd_ne (ne rfl p e)]; exact b.1, fun z => b.2 z.1⟩, q, r⟩
theorem ER.minus {q : Addr} {o : HO} (R : ER K (F.plus q o) sl σ S H) (hq : F.N q) : ER K F sl σ S H ∧ H q = some o ∧ ∀ i, ¬ OwnAt σ sl i q := by
  have hB : F.B q = none := F.bn q hq
  refine ⟨⟨fun a u z => R.bh a u (by show upd F.B q o a = some u; rw [upd_ne (ne_of_none z hB)]; exact z), R.sh, R.ss, fun a ha => (R.nw a ha).imp id And.left, fun a ha => (R.dm a ha).1, fun j s z => ?_, R.ap⟩, R.bh q o upd_same, fun i ⟨h1, s, h2, h3⟩ => ?_⟩
  · have w := R.at_ j s z
    cases s with
    | un => trivial
    | sh d => exact w
    | ow ds =>
      obtain ⟨p, vs, e, n, b, q, r⟩ := w
      exact ⟨p, vs, e, n, b.1, q, r⟩
    | io ds =>
      obtain ⟨p, vs, e, n, b, q', r⟩ := w
      have hp : p ≠ q := fun hh => by
        subst hh
        have b' : upd F.B p o p = none := b.1
        rw [upd_same] at b'; cases b'
      exact ⟨p, vs, e, n, ⟨by have b' : upd F.B q o p = none := b.1; rw [upd_ne hp] at b'; exact b', fun z => b.2 ⟨z, hp⟩⟩, q', r⟩
    | oi C fs =>
      obtain ⟨p, dx, vs, e, n, b, q', r⟩ := w
      have hp : p ≠ q := fun hh => by
        subst hh
        have b' : upd F.B p o p = none := b.1
        rw [upd_same] at b'; cases b'
      exact ⟨p, dx, vs, e, n, ⟨by have b' : upd F.B q o p = none := b.1; rw [upd_ne hp] at b'; exact b', fun z => b.2 ⟨z, hp⟩⟩, q', r⟩
  · have w := R.at_ i s h2
    cases s with
    | un => cases h3
    | sh d => cases h3
    | ow ds =>
      obtain ⟨p, vs, e, n, b, q', r⟩ := w
      rw [h1] at e
      cases e
      exact b.2 rfl
    | io ds =>
      obtain ⟨p, vs, e, n, b, q', r⟩ := w
      rw [h1] at e
      cases e
      have b' : upd F.B q o q = none := b.1
      rw [upd_same] at b'; cases b'
    | oi C fs =>
      obtain ⟨p, dx, vs, e, n, b, q', r⟩ := w
      rw [h1] at e
      cases e
      have b' : upd F.B q o q = none := b.1
      rw [upd_same] at b'; cases b'
/-- an object that belongs to nobody changes -/
theorem ER.upd (R : ER K F sl σ S H) {q : Addr} {o : HO} (n : S q = none) (hq : F.N q) (no : ∀ i, ¬ OwnAt σ sl i q) : ER K F sl σ S (upd H q o) := by
  refine ⟨R.bh.mut (F.bn q hq), R.sh.mut n, R.ss, R.nw, fun a ha => ?_, fun j s z => ?_, R.ap⟩
  · by_cases hap : a = q
    · subst hap; exact hq
    · rw [upd_ne hap] at ha
      exact R.dm a ha
  · have w := R.at_ j s z
    have ne : s.own = true → ∀ q', σ[j]? = some (some (.ref q')) → q' ≠ q := fun ho q' hq' hh => by
      subst hh
      exact no j ⟨hq', _, z, ho⟩
    cases s with
    | un => trivial
    | sh d => exact w
    | ow ds =>
      obtain ⟨p, vs, e, n, b, q, r⟩ := w
      exact ⟨p, vs, e, n, b, by rw [upd_ne (ne rfl p e)]; exact q, r⟩
    | io ds =>
      obtain ⟨p, vs, e, n, b, q, r⟩ := w
      exact ⟨p, vs, e, n, b, by rw [upd_ne (ne rfl p e)]; exact q, r⟩
    | oi C fs =>
      obtain ⟨p, dx, vs, e, n, b, q, r⟩ := w
      exact ⟨p, dx, vs, e, n, b, by rw [upd_ne (ne rfl p e)]; exact q, r⟩
end
/-- several tests of a comprehension -/
def PDTs (X : Cx) (F : Fm) (ifs : List Expr) (dt : DT) : Prop := PTs X ifs (tTs X.K F dt)
def dYes : DT := fun sl P => P true sl
section
variable {X : Cx} {F : Fm} {a b c e o tg iter elt : Expr} {es ifs : List Expr} {pos p apos pos' : Pos} {de : DE} {tt : DT} {g : DG} {di : DI} {scope : Scope} {own : List (Str × Nat)}
theorem PTs_imp {X : Cx} {e : List Expr} {t t' : TT} (h : PTs X e t) (i : ∀ σ H Q, t' σ H Q → t σ H Q) : PTs X e t' := ⟨fun pins s σ H Q I q => h.run pins s σ H Q I (i _ _ _ q)⟩
theorem dts_nil : PDTs X F [] dYes := PTs_imp pts_nil fun σ H Q ⟨sl, S, P, R, p, k⟩ => k _ sl S H p R (Ex.refl _)
theorem dts_one (h : PDT X F c tt) : PDTs X F [c] tt := pts_one h
/-- a comprehension's readings for any frame -/
def tGtA (K : PySem.W.Frag) (V : Nat → Prop) (g : DG) : TG := fun v σ H Q => ∃ F, tGt K F V g v σ H Q
def tTsA (K : PySem.W.Frag) (t : DT) : TT := fun σ H Q => ∃ F, tTs K F t σ H Q
def tEA (K : PySem.W.Frag) (t : DE) : TE := fun σ H Q => ∃ F, tE K F t σ H Q
def dLc (di : DI) (g : DG) (tt : DT) (de : DE) (vs : List Nat) : DA := fun sl P => di sl fun items sl1 => (NoOwn sl1 vs ∧ ∀ i ∈ vs, i < sl1.length) ∧ ∃ I : Nat → List Sl → List D → Prop, I 0 sl1 [] ∧
  (∀ i x sl2 acc, items[i]? = some x → I i sl2 acc → (NoOwn sl2 vs ∧ ∀ i ∈ vs, i < sl2.length) ∧ g x (wipeS sl2 vs) fun sl3 => tt sl3 fun b sl4 =>
    if b = true then de sl4 fun d sl5 => acc.length < sizeLine ∧ I (i + 1) (backS sl2 sl5 vs) (acc ++ [d]) else I (i + 1) (backS sl2 sl4 vs) acc) ∧
  ∀ sl2 acc, I items.length sl2 acc → P acc sl2
theorem lc_imp (K : PySem.W.Frag) (F : Fm) (di : DI) (g : DG) (tt : DT) (de : DE) (ws : List Nat) : ∀ σ H Q, tN K F (dLc di g tt de ws) σ H Q → tLc (tI K F di) (tGtA K (fun i => i ∈ ws) g) (tTsA K tt) (tEA K de) ws σ H Q := by
  intro σ H Q ⟨sl, S, P, R, p, k⟩
  refine ⟨sl, S, _, R, p, fun J items sl1 S1 H1 ⟨no1, I, i0, step, fin⟩ R1 e1 w q hq => ?_⟩
  have g0 : Gr S1 H1 S1 (upd H1 q (.lst [])) := Gr.own R1.sh hq
  have hN' : F.N q := R1.dm q hq
  refine ⟨fun i m H => m = items.length - i ∧ i ≤ items.length ∧ ∃ sl2 S2 acc vs, ER K F sl2 σ S2 H ∧ I i sl2 acc ∧ Ex S1 S2 ∧ S2 q = none ∧ H q = some (.lst vs) ∧ Reps K S2 vs acc ∧ ∀ j, ¬ OwnAt σ sl2 j q,
    ⟨items.length, by simp, Nat.zero_le _, sl1, S1, [], [], R1.grow g0, i0, Ex.refl _, R1.sh.free hq, upd_same, .nil, R1.notOwn hq⟩, ?_⟩
  rintro i m H ⟨rfl, hi', sl2, S2, acc, vs, R2, hI, e2, n2, h2, r2, no2⟩
  by_cases hlt : i < items.length
  · refine .inr ⟨w.go i H hlt (e2.trans R2.sh), fun H' => ∃ sl2 S2 acc vs, ER K F sl2 σ S2 H' ∧ I (i + 1) sl2 acc ∧ Ex S1 S2 ∧ S2 q = none ∧ H' q = some (.lst vs) ∧ Reps K S2 vs acc ∧ ∀ j, ¬ OwnAt σ sl2 j q,
      fun H' hx => ⟨items.length - (i + 1), by omega, rfl, hlt, hx⟩, fun x H' y => ?_⟩
    obtain ⟨S3, gr, rx⟩ := w.yld i x H H' items[i] (by simp [hlt]) y S2 e2 R2.sh
    have R3 := R2.grow gr
    have nq : ∀ {S' : Hp}, Gr S2 H S' H' → S' q = none := fun {S'} gr' => by
      cases z : S' q with
      | none => rfl
      | some o =>
        rcases gr'.nw q (by rw [z]; simp) with w | w
        · exact absurd n2 w
        · rw [h2] at w; cases w
    have n3 : S3 q = none := nq gr
    have h3 : H' q = some (.lst vs) := gr.h _ _ h2
    obtain ⟨⟨hno, hlen⟩, st⟩ := step i items[i] sl2 acc (by simp [hlt]) hI
    have R4 := ((R3.plus n3 h3 no2).wiped (ws))
    -- what a turn ends with
    have stay : ∀ {sl' : List Sl} {σ' : L2.St} {S' H'' : Hp}, wipe σ' (ws) = wipe σ (ws) → Ex S3 S' → ER K (F.plus q (.lst vs)) sl' σ' S' H'' →
        ER K F (backS sl2 sl' (ws)) σ S' H'' ∧ S' q = none ∧ H'' q = some (.lst vs) ∧ ∀ j, ¬ OwnAt σ (backS sl2 sl' (ws)) j q := fun {sl' σ' S' H''} ew ex R' => by
      have RB := (R3.plus n3 h3 no2).back R' (ws) hno ew ex hlen
      obtain ⟨RM, hq', no'⟩ := RB.minus hN'
      refine ⟨RM, ?_, hq', no'⟩
      cases z : S' q with
      | none => rfl
      | some o =>
        rcases R'.nw q (by rw [z]; simp) with w | w
        · have w' : F.S0 q ≠ none := w
          exact absurd (R3.ss.free n3) w'
        · exact absurd rfl w.2
    refine ⟨F.plus q (.lst vs), _, _, S3, _, R4, rx, st, fun sl3 σ3 S4 H4 p4 R5 e4 o4 => ?_⟩
    have ew : wipe σ3 (ws) = wipe σ (ws) := (wipe_off o4).trans (wipe_wipe σ _)
    refine ⟨ew, F.plus q (.lst vs), sl3, S4, _, R5, p4, fun b sl4 S5 H5 p5 R6 e5 => ?_⟩
    cases b with
    | false =>
      refine iteF ?_
      obtain ⟨RM, nS, hq', no'⟩ := stay ew (e4.trans e5) R6
      exact ⟨_, S5, acc, vs, RM, by simpa using p5, e2.trans (gr.s.trans (e4.trans e5)), nS, hq', r2.mono (gr.s.trans (e4.trans e5)), no'⟩
    | true =>
      refine iteT ⟨F.plus q (.lst vs), sl4, S5, fun d sl5 => acc.length < sizeLine ∧ I (i + 1) (backS sl2 sl5 (ws)) (acc ++ [d]), R6, by simpa using p5, fun y d sl5 S6 H6 ⟨hz, p6⟩ R7 e6 ry => ?_⟩
      obtain ⟨RM, nS, hq', no'⟩ := stay ew (e4.trans (e5.trans e6)) R7
      refine ⟨vs, hq', by rw [r2.length]; exact hz, _, S6, acc ++ [d], vs ++ [y], RM.upd nS hN' no', p6, e2.trans (gr.s.trans (e4.trans (e5.trans e6))), nS, upd_same, (r2.mono (gr.s.trans (e4.trans (e5.trans e6)))).append (.cons ry .nil), no'⟩
  · have e : i = items.length := by omega
    subst e
    exact .inl ⟨w.stop H (e2.trans R2.sh), k q vs acc sl2 S2 H (fin sl2 acc hI) R2 (e1.trans e2) n2 hN' h2 r2 no2⟩
theorem dn_lc (hc : X.calm = true) (hN : X.N.Nodup) (hi : PDI X F tg iter di) (ok : BlkOk X.N X.env.scope scope own)
    (hg : ∀ (F : Fm) (s : Shared) (H : Hp) (C : Addr) (cl : List (Str × Addr)) (fp : List Addr), PDG (X.blk s H scope (compEnvC scope cl C X.env) fp) F (fun i => i ∈ own.map (·.2)) tg g) (ht : ∀ (F : Fm) (s : Shared) (H : Hp) (C : Addr) (cl : List (Str × Addr)) (fp : List Addr), PDTs (X.blk s H scope (compEnvC scope cl C X.env) fp) F ifs tt)
    (he : ∀ (F : Fm) (s : Shared) (H : Hp) (C : Addr) (cl : List (Str × Addr)) (fp : List Addr), PDE (X.blk s H scope (compEnvC scope cl C X.env) fp) F elt de) (hs : ∀ x, foldedSetIterable iter X.env x = pure x := by intro _; rfl) :
    PDN X F (.ListComp elt [⟨tg, iter, ifs, 0⟩] scope pos) (dLc di g tt de (own.map (·.2))) := by
  have hg' : ∀ (s : Shared) (H : Hp) (C : Addr) (cl : List (Str × Addr)) (fp : List Addr), PG (X.blk s H scope (compEnvC scope cl C X.env) fp) tg (tGtA X.K (fun i => i ∈ own.map (·.2)) g) := fun s H C cl fp => ⟨fun pins s' σ H' v u Q I r ⟨F, q⟩ => (hg F s H C cl fp).run pins s' σ H' v u Q I r q⟩
  have ht' : ∀ (s : Shared) (H : Hp) (C : Addr) (cl : List (Str × Addr)) (fp : List Addr), PTs (X.blk s H scope (compEnvC scope cl C X.env) fp) ifs (tTsA X.K tt) := fun s H C cl fp => ⟨fun pins s' σ H' Q I ⟨F, q⟩ => (ht F s H C cl fp).run pins s' σ H' Q I q⟩
  have he' : ∀ (s : Shared) (H : Hp) (C : Addr) (cl : List (Str × Addr)) (fp : List Addr), PE (X.blk s H scope (compEnvC scope cl C X.env) fp) elt (tEA X.K de) := fun s H C cl fp => ⟨fun pins s' σ H' Q I ⟨F, q⟩ => (he F s H C cl fp).run pins s' σ H' Q I q⟩
  exact PE_imp (pe_lc hc hN hi ok hg' ht' he' hs) (lc_imp X.K F di g tt de _)
end
end DL
end
section
set_option maxRecDepth 100000
set_option maxHeartbeats 2000000
/-! D9: a def's promise by its body. -/
namespace DL
open PySem PySem.Spec PyProof.Rows L2 RZ

/-- the slots at the entry -/
def startS (N : List Str) (ds : List D) : List Sl := ds.map .sh ++ List.replicate (N.length - ds.length) .un
def startM (N : List Str) (c ds : List D) : List Sl := .io c :: (ds.map .sh ++ List.replicate (N.length - ds.length - 1) .un)
def startI (N : List Str) (C : Addr) (fs : List (Str × D)) (ds : List D) : List Sl := .oi C fs :: (ds.map .sh ++ List.replicate (N.length - ds.length - 1) .un)
theorem rest_at {K : PySem.W.Frag} {F : Fm} {S H : Hp} {n : Nat} : ∀ {vs : List V} {ds : List D} {m : Nat}, Reps K S vs ds → ∀ (i : Nat) (s : Sl), (ds.map Sl.sh ++ List.replicate n Sl.un)[i]? = some s → SlAt K F S H (vs.map some ++ List.replicate m none)[i]? s
  | _, _, _, .nil, i, s, h => by
    simp only [List.map_nil, List.nil_append] at h
    rw [List.getElem?_replicate] at h
    split at h
    · cases h; trivial
    · cases h
  | _, _, _, .cons r t, 0, s, h => by
    simp at h
    subst h
    exact ⟨_, rfl, r⟩
  | _, _, _, .cons r t, i + 1, s, h => by
    simp only [List.map_cons, List.cons_append, List.getElem?_cons_succ] at h ⊢
    exact rest_at t i s h
theorem rest_own {n : Nat} : ∀ {ds : List D} {i : Nat} {s : Sl}, (ds.map Sl.sh ++ List.replicate n Sl.un)[i]? = some s → s.own = false
  | [], i, s, h => by
    simp only [List.map_nil, List.nil_append] at h
    rw [List.getElem?_replicate] at h
    split at h
    · cases h; rfl
    · cases h
  | d :: ds, 0, s, h => by
    simp at h
    subst h
    rfl
  | d :: ds, i + 1, s, h => by
    simp only [List.map_cons, List.cons_append, List.getElem?_cons_succ] at h
    exact rest_own h
/-- the frame of a call that changes nothing; of one that may change the object at p -/
def frD (S H : Hp) : Fm := ⟨H, S, fun a => H a = none, fun _ h => h⟩
def frM (p : Addr) (S H : Hp) : Fm := ⟨fun a => if a = p then none else H a, S, fun a => H a = none, fun a h => by
  by_cases e : a = p
  · rw [if_pos e]
  · rw [if_neg e]; exact h⟩
theorem startD_ok {K : PySem.W.Frag} {N : List Str} {S H : Hp} {vs : List V} {ds : List D} (e : Ex S H) (r : Reps K S vs ds) : ER K (frD S H) (startS N ds) (L2.start N vs) S H :=
  ⟨Ex.refl _, e, Ex.refl _, fun _ h => .inl h, fun _ h => h, fun i s h => rest_at r i s h, fun i j p ⟨_, s, h, h3⟩ _ => by rw [rest_own h] at h3; cases h3⟩
theorem frM_bh {p : Addr} {S H : Hp} : Ex (frM p S H).B H := fun a o z => by
  have z' : (if a = p then none else H a) = some o := z
  by_cases e : a = p
  · rw [if_pos e] at z'; cases z'
  · rw [if_neg e] at z'; exact z'
theorem start_cons {N : List Str} {v : V} {vs : List V} : L2.start N (v :: vs) = some v :: (vs.map some ++ List.replicate (N.length - vs.length - 1) none) := by
  unfold L2.start
  rw [List.map_cons, List.cons_append, List.length_cons, Nat.sub_sub]
theorem startM_ok {K : PySem.W.Frag} {N : List Str} {S H : Hp} {p : Addr} {xs vs : List V} {c ds : List D} (e : Ex S H) (n : S p = none) (q : H p = some (.lst xs)) (rc : Reps K S xs c) (r : Reps K S vs ds) :
    ER K (frM p S H) (startM N c ds) (L2.start N (.ref p :: vs)) S H := by
  refine ⟨frM_bh, e, Ex.refl _, fun _ h => .inl h, fun _ h => h, fun i s h => ?_, fun i j p' ⟨_, s, h, h3⟩ ⟨_, s', h', h3'⟩ => ?_⟩
  · rw [start_cons]
    cases i with
    | zero =>
      have : s = .io c := by simpa [startM] using h.symm
      subst this
      exact ⟨p, xs, rfl, n, ⟨if_pos rfl, fun z => by have z' : H p = none := z; rw [q] at z'; cases z'⟩, q, rc⟩
    | succ i => exact rest_at r i s h
  · cases i with
    | zero =>
      cases j with
      | zero => rfl
      | succ j => rw [rest_own (show (ds.map Sl.sh ++ _)[j]? = some s' from h')] at h3'; cases h3'
    | succ i => rw [rest_own (show (ds.map Sl.sh ++ _)[i]? = some s from h)] at h3; cases h3
theorem startI_ok {K : PySem.W.Frag} {N : List Str} {S H : Hp} {p C dx : Addr} {xs : List (Str × V)} {vs : List V} {c : List (Str × D)} {ds : List D} (e : Ex S H) (n : S p = none) (q : H p = some (.ins C dx xs)) (rc : RepF K S xs c) (r : Reps K S vs ds) :
    ER K (frM p S H) (startI N C c ds) (L2.start N (.ref p :: vs)) S H := by
  refine ⟨frM_bh, e, Ex.refl _, fun _ h => .inl h, fun _ h => h, fun i s h => ?_, fun i j p' ⟨_, s, h, h3⟩ ⟨_, s', h', h3'⟩ => ?_⟩
  · rw [start_cons]
    cases i with
    | zero =>
      have : s = .oi C c := by simpa [startI] using h.symm
      subst this
      exact ⟨p, dx, xs, rfl, n, ⟨if_pos rfl, fun z => by have z' : H p = none := z; rw [q] at z'; cases z'⟩, q, rc⟩
    | succ i => exact rest_at r i s h
  · cases i with
    | zero =>
      cases j with
      | zero => rfl
      | succ j => rw [rest_own (show (ds.map Sl.sh ++ _)[j]? = some s' from h')] at h3'; cases h3'
    | succ i => rw [rest_own (show (ds.map Sl.sh ++ _)[i]? = some s from h)] at h3; cases h3
/-- what a frame says of a slot that was handed in: it is the object at p -/
theorem frM_io {K : PySem.W.Frag} {p : Addr} {S H S' H' : Hp} {sl : List Sl} {σ : L2.St} {i : Nat} {c : List D} (R : ER K (frM p S H) sl σ S' H') (h : sl[i]? = some (.io c)) : S' p = none ∧ ∃ vs, H' p = some (.lst vs) ∧ Reps K S' vs c := by
  obtain ⟨p', vs, e, n, ⟨b1, b2⟩, q, r⟩ := R.at_ i _ h
  have b1' : (if p' = p then none else H p') = none := b1
  by_cases e' : p' = p
  · subst e'
    exact ⟨n, vs, q, r⟩
  · rw [if_neg e'] at b1'
    exact absurd b1' b2
theorem frM_oi {K : PySem.W.Frag} {p C : Addr} {S H S' H' : Hp} {sl : List Sl} {σ : L2.St} {i : Nat} {c : List (Str × D)} (R : ER K (frM p S H) sl σ S' H') (h : sl[i]? = some (.oi C c)) : S' p = none ∧ ∃ dx vs, H' p = some (.ins C dx vs) ∧ RepF K S' vs c := by
  obtain ⟨p', dx, vs, e, n, ⟨b1, b2⟩, q, r⟩ := R.at_ i _ h
  have b1' : (if p' = p then none else H p') = none := b1
  by_cases e' : p' = p
  · subst e'
    exact ⟨n, dx, vs, q, r⟩
  · rw [if_neg e'] at b1'
    exact absurd b1' b2
theorem frM_end {K : PySem.W.Frag} {p : Addr} {S H S' H' : Hp} {sl : List Sl} {σ : L2.St} (R : ER K (frM p S H) sl σ S' H') : GrM p S H S' H' :=
  ⟨R.ss, R.sh, fun a o ha z => R.bh a o (by show (if a = p then none else H a) = some o; rw [if_neg ha]; exact z), R.nw⟩
section
variable {P : Program} {w : World} {K : PySem.W.Frag} {mg : Str → Option Value} {base : Heap} {x qual : Str} {st : Stmt} {f C : Addr} {fd : FuncData} {N ps : List Str} {k : Nat}
/-- THE RULE for a def that changes nothing: its body's reading over data -/
theorem okD {sp : SD} {dt : DS} (G : Fun K x qual st f fd) (Sc : FnScope N ps (defScope st)) (len : ∀ ds P, sp ds P → ds.length = ps.length)
    (hb : ∀ (cdv : Value) (A : Around) (outer : List Env) (s : Shared) (H : Hp) (E : XK) (F : Fm), Room k (A.deeper (envOfC qual (defScope st) s.heap.objs.size f cdv)) → PDSs (cxOf CX0 P w K mg base N qual (defScope st) f cdv A outer s H E).nox F (defBody st) dt)
    (hd : ∀ ds Q, sp ds Q → dt { nx := fun _ => Q .non, rt := fun d _ => Q d } (startS N ds)) : FnOk P w K mg base CX0 (k + 1) f fd ps (SpD K sp) := by
  refine G.ok Sc (fun vs H Q E ⟨S, ds, P, e, r, h, _⟩ => r.length.trans (len ds P h)) (fun cdv A outer s H vs Q E hr ⟨S, ds, P', e, r, h, kk⟩ => ?_)
  refine ⟨_, hb cdv A outer s H E (frD S H) hr, startS N ds, S, _, startD_ok e r, hd ds P' h, ⟨fun sl σ S' H' p R e' => kk .non .non S' H' p ⟨R.ss, R.sh, R.bh, R.nw⟩ .non, fun v d sl σ S' H' p R e' rv => kk v d S' H' p ⟨R.ss, R.sh, R.bh, R.nw⟩ rv, fun _ _ _ _ z => z.elim, fun _ _ _ _ z => z.elim, fun _ _ _ _ _ _ _ z => z.elim⟩⟩
/-- .. for one whose first argument is a list that it changes -/
theorem okM {sp : SM} {dt : DS} (G : Fun K x qual st f fd) (Sc : FnScope N ps (defScope st)) (len : ∀ c ds P, sp c ds P → ds.length + 1 = ps.length)
    (hb : ∀ (cdv : Value) (A : Around) (outer : List Env) (s : Shared) (H : Hp) (E : XK) (F : Fm), Room k (A.deeper (envOfC qual (defScope st) s.heap.objs.size f cdv)) → PDSs (cxOf CX0 P w K mg base N qual (defScope st) f cdv A outer s H E).nox F (defBody st) dt)
    (hd : ∀ c ds Q, sp c ds Q → dt { nx := fun sl => ∃ c', sl[0]? = some (.io c') ∧ Q .non c', rt := fun d sl => ∃ c', sl[0]? = some (.io c') ∧ Q d c' } (startM N c ds)) : FnOk P w K mg base CX0 (k + 1) f fd ps (SpM K sp) := by
  refine G.ok Sc (fun vs H Q E ⟨S, p, xs, vs', c, ds, P, ev, e, n, q, rc, r, h, _⟩ => by rw [ev, List.length_cons, r.length]; exact len c ds P h) (fun cdv A outer s H vs Q E hr ⟨S, p, xs, vs', c, ds, P', ev, e, n, q, rc, r, h, kk⟩ => ?_)
  subst ev
  refine ⟨_, hb cdv A outer s H E (frM p S H) hr, startM N c ds, S, _, startM_ok e n q rc r, hd c ds P' h, ⟨fun sl σ S' H' ⟨c', h0, p'⟩ R e' => ?_, fun v d sl σ S' H' ⟨c', h0, p'⟩ R e' rv => ?_, fun _ _ _ _ z => z.elim, fun _ _ _ _ z => z.elim, fun _ _ _ _ _ _ _ z => z.elim⟩⟩
  · obtain ⟨_, vs2, q2, r2⟩ := frM_io R h0
    exact kk .non .non c' vs2 S' H' p' (frM_end R) q2 r2 .non
  · obtain ⟨_, vs2, q2, r2⟩ := frM_io R h0
    exact kk v d c' vs2 S' H' p' (frM_end R) q2 r2 rv
/-- .. for an __init__ -/
theorem okI {sp : SI} {dt : DS} (G : Fun K x qual st f fd) (Sc : FnScope N ps (defScope st)) (len : ∀ c ds P, sp c ds P → ds.length + 1 = ps.length)
    (hb : ∀ (cdv : Value) (A : Around) (outer : List Env) (s : Shared) (H : Hp) (E : XK) (F : Fm), Room k (A.deeper (envOfC qual (defScope st) s.heap.objs.size f cdv)) → PDSs (cxOf CX0 P w K mg base N qual (defScope st) f cdv A outer s H E).nox F (defBody st) dt)
    (hd : ∀ c ds Q, sp c ds Q → dt { nx := fun sl => ∃ c', sl[0]? = some (.oi C c') ∧ Q c', rt := fun d sl => d = .non ∧ ∃ c', sl[0]? = some (.oi C c') ∧ Q c' } (startI N C c ds)) : FnOk P w K mg base CX0 (k + 1) f fd ps (SpI K C sp) := by
  refine G.ok Sc (fun vs H Q E ⟨S, p, dx, xs, vs', c, ds, P, ev, e, n, q, rc, r, h, _⟩ => by rw [ev, List.length_cons, r.length]; exact len c ds P h) (fun cdv A outer s H vs Q E hr ⟨S, p, dx, xs, vs', c, ds, P', ev, e, n, q, rc, r, h, kk⟩ => ?_)
  subst ev
  refine ⟨_, hb cdv A outer s H E (frM p S H) hr, startI N C c ds, S, _, startI_ok e n q rc r, hd c ds P' h, ⟨fun sl σ S' H' ⟨c', h0, p'⟩ R e' => ?_, fun v d sl σ S' H' ⟨hd', c', h0, p'⟩ R e' rv => ?_, fun _ _ _ _ z => z.elim, fun _ _ _ _ z => z.elim, fun _ _ _ _ _ _ _ z => z.elim⟩⟩
  · obtain ⟨_, dx2, vs2, q2, r2⟩ := frM_oi R h0
    exact kk c' vs2 dx2 S' H' p' (frM_end R) q2 r2
  · obtain ⟨_, dx2, vs2, q2, r2⟩ := frM_oi R h0
    subst hd'
    cases rv
    exact kk c' vs2 dx2 S' H' p' (frM_end R) q2 r2
end
end DL
end
section
set_option maxRecDepth 100000
set_option maxHeartbeats 2000000
/-! D10: built-ins over data. -/
namespace DL
open PySem PySem.Spec PyProof.Rows L2 RZ

section
variable {K : PySem.W.Frag}
/-- one argument -/
theorem lr1 {r : List V → Hp → VK → Prop} {rd : D → (D → Prop) → Prop} (h : ∀ (v : V) (d : D) (S H : Hp) (P : D → Prop) (Q : VK), Ex S H → Rep K S v d → rd d P → (∀ v d S' H', P d → Gr S H S' H' → Rep K S' v d → Q v H') → r [v] H Q) :
    LRC K r (fun xs P => match xs with | [d] => rd d P | _ => False) := fun vs ds S H P Q e r p k => by
  cases r with
  | nil => exact p.elim
  | cons r1 r2 =>
    cases r2 with
    | cons _ _ => exact p.elim
    | nil => exact h _ _ S H P Q e r1 p k
theorem lr2 {r : List V → Hp → VK → Prop} {rd : D → D → (D → Prop) → Prop} (h : ∀ (v w : V) (d e : D) (S H : Hp) (P : D → Prop) (Q : VK), Ex S H → Rep K S v d → Rep K S w e → rd d e P → (∀ v d S' H', P d → Gr S H S' H' → Rep K S' v d → Q v H') → r [v, w] H Q) :
    LRC K r (fun xs P => match xs with | [d, e] => rd d e P | _ => False) := fun vs ds S H P Q e r p k => by
  cases r with
  | nil => exact p.elim
  | cons r1 r2 =>
    cases r2 with
    | nil => exact p.elim
    | cons r3 r4 =>
      cases r4 with
      | cons _ _ => exact p.elim
      | nil => exact h _ _ _ _ S H P Q e r1 r3 p k
def rdInt : D → (D → Prop) → Prop := fun d P => match d with
  | .int i => P (.int i)
  | .bl k => P (.int (if k then 1 else 0))
  | _ => False
theorem lr_int : LRC K (fun xs H Q => (∃ i, xs = [.int i] ∧ Q (.int i) H) ∨ ∃ k, xs = [.bl k] ∧ Q (.int (if k then 1 else 0)) H) (fun xs P => match xs with | [d] => rdInt d P | _ => False) := lr1 fun v d S H P Q e r p k => by
  cases r with
  | int i => exact .inl ⟨i, rfl, k _ _ S H p (Gr.refl e) (.int _)⟩
  | bl b => exact .inr ⟨b, rfl, k _ _ S H p (Gr.refl e) (.int _)⟩
  | _ => exact p.elim
def rdAbs : D → (D → Prop) → Prop := fun d P => match d with
  | .int i => P (.int (if i < 0 then -i else i))
  | _ => False
theorem lr_abs : LRC K (fun xs H Q => ∃ i, xs = [.int i] ∧ Q (.int (if i < 0 then -i else i)) H) (fun xs P => match xs with | [d] => rdAbs d P | _ => False) := lr1 fun v d S H P Q e r p k => by
  cases r with
  | int i => exact ⟨i, rfl, k _ _ S H p (Gr.refl e) (.int _)⟩
  | _ => exact p.elim
def rdMax2 : D → D → (D → Prop) → Prop := fun a b P => match a, b with
  | .int i, .int j => P (.int (if j > i then j else i))
  | _, _ => False
def rdMin2 : D → D → (D → Prop) → Prop := fun a b P => match a, b with
  | .int i, .int j => P (.int (if j < i then j else i))
  | _, _ => False
theorem lr_max2 : LRC K (fun xs H Q => ∃ i j, xs = [.int i, .int j] ∧ Q (.int (if j > i then j else i)) H) (fun xs P => match xs with | [d, e] => rdMax2 d e P | _ => False) := lr2 fun v w d e S H P Q ex r r' p k => by
  cases r <;> first | exact p.elim | skip
  cases r' <;> first | exact p.elim | skip
  exact ⟨_, _, rfl, k _ _ S H p (Gr.refl ex) (.int _)⟩
theorem lr_min2 : LRC K (fun xs H Q => ∃ i j, xs = [.int i, .int j] ∧ Q (.int (if j < i then j else i)) H) (fun xs P => match xs with | [d, e] => rdMin2 d e P | _ => False) := lr2 fun v w d e S H P Q ex r r' p k => by
  cases r <;> first | exact p.elim | skip
  cases r' <;> first | exact p.elim | skip
  exact ⟨_, _, rfl, k _ _ S H p (Gr.refl ex) (.int _)⟩
/-- a list of truths; of intsD -/
def boolsD : List D → Option (List Bool)
  | [] => some []
  | .bl b :: r => (boolsD r).map fun bs => b :: bs
  | _ => none
def intsD : List D → Option (List Int)
  | [] => some []
  | .int b :: r => (intsD r).map fun bs => b :: bs
  | _ => none
theorem bools_map (bs : List Bool) : boolsD (bs.map D.bl) = some bs := by
  induction bs with
  | nil => rfl
  | cons b bs ih => simp [boolsD, ih]
theorem ints_map (bs : List Int) : intsD (bs.map D.int) = some bs := by
  induction bs with
  | nil => rfl
  | cons b bs ih => simp [intsD, ih]
theorem bools_of : ∀ {ds : List D} {bs : List Bool}, boolsD ds = some bs → ds = bs.map D.bl
  | [], bs, h => by simp [boolsD] at h; subst h; rfl
  | .bl b :: r, bs, h => by
    simp only [boolsD, Option.map_eq_some_iff] at h
    obtain ⟨cs, h1, h2⟩ := h
    subst h2
    rw [bools_of h1]
    rfl
  | .non :: _, _, h => by simp [boolsD] at h
  | .int _ :: _, _, h => by simp [boolsD] at h
  | .str _ :: _, _, h => by simp [boolsD] at h
  | .tup _ :: _, _, h => by simp [boolsD] at h
  | .lst _ :: _, _, h => by simp [boolsD] at h
  | .ins _ _ :: _, _, h => by simp [boolsD] at h
  | .scr _ :: _, _, h => by simp [boolsD] at h
  | .ty _ :: _, _, h => by simp [boolsD] at h
  | .cls _ :: _, _, h => by simp [boolsD] at h
theorem ints_of : ∀ {ds : List D} {bs : List Int}, intsD ds = some bs → ds = bs.map D.int
  | [], bs, h => by simp [intsD] at h; subst h; rfl
  | .int b :: r, bs, h => by
    simp only [intsD, Option.map_eq_some_iff] at h
    obtain ⟨cs, h1, h2⟩ := h
    subst h2
    rw [ints_of h1]
    rfl
  | .non :: _, _, h => by simp [intsD] at h
  | .bl _ :: _, _, h => by simp [intsD] at h
  | .str _ :: _, _, h => by simp [intsD] at h
  | .tup _ :: _, _, h => by simp [intsD] at h
  | .lst _ :: _, _, h => by simp [intsD] at h
  | .ins _ _ :: _, _, h => by simp [intsD] at h
  | .scr _ :: _, _, h => by simp [intsD] at h
  | .ty _ :: _, _, h => by simp [intsD] at h
  | .cls _ :: _, _, h => by simp [intsD] at h
def rdAll : D → (D → Prop) → Prop := fun d P => match d with
  | .lst ds => ∃ bs, boolsD ds = some bs ∧ P (.bl (bs.all id))
  | _ => False
def rdAny : D → (D → Prop) → Prop := fun d P => match d with
  | .lst ds => ∃ bs, boolsD ds = some bs ∧ P (.bl (bs.any id))
  | _ => False
def rdSum : D → (D → Prop) → Prop := fun d P => match d with
  | .lst ds => ∃ ns, intsD ds = some ns ∧ P (.int ns.sum)
  | _ => False
def rdMax : D → (D → Prop) → Prop := fun d P => match d with
  | .lst ds => ∃ ns, intsD ds = some ns ∧ 0 < ns.length ∧ ∀ m, m ∈ ns → (∀ y, y ∈ ns → y ≤ m) → P (.int m)
  | _ => False
def rdMin : D → (D → Prop) → Prop := fun d P => match d with
  | .lst ds => ∃ ns, intsD ds = some ns ∧ 0 < ns.length ∧ ∀ m, m ∈ ns → (∀ y, y ∈ ns → m ≤ y) → P (.int m)
  | _ => False
theorem lr_all : LRC K (L2.rAll K) (fun xs P => match xs with | [d] => rdAll d P | _ => False) := lr1 fun v d S H P Q e r p k => by
  cases r with
  | lst h r =>
    obtain ⟨bs, h1, h2⟩ := p
    have := bools_of h1
    subst this
    exact ⟨_, bs, rfl, .inl (.inl (by rw [← r.bls]; exact e _ _ h)), k _ _ S H h2 (Gr.refl e) (.bl _)⟩
  | _ => exact p.elim
theorem lr_any : LRC K (L2.rAny K) (fun xs P => match xs with | [d] => rdAny d P | _ => False) := lr1 fun v d S H P Q e r p k => by
  cases r with
  | lst h r =>
    obtain ⟨bs, h1, h2⟩ := p
    have := bools_of h1
    subst this
    exact ⟨_, bs, rfl, .inl (.inl (by rw [← r.bls]; exact e _ _ h)), k _ _ S H h2 (Gr.refl e) (.bl _)⟩
  | _ => exact p.elim
theorem lr_sum : LRC K (L2.rSum K) (fun xs P => match xs with | [d] => rdSum d P | _ => False) := lr1 fun v d S H P Q e r p k => by
  cases r with
  | lst h r =>
    obtain ⟨bs, h1, h2⟩ := p
    have := ints_of h1
    subst this
    exact ⟨_, bs, rfl, .inl (.inl (by rw [← r.ints]; exact e _ _ h)), k _ _ S H h2 (Gr.refl e) (.int _)⟩
  | _ => exact p.elim
theorem lr_max : LRC K (L2.rMax K) (fun xs P => match xs with | [d] => rdMax d P | _ => False) := lr1 fun v d S H P Q e r p k => by
  cases r with
  | lst h r =>
    obtain ⟨bs, h1, h2, h3⟩ := p
    have := ints_of h1
    subst this
    exact ⟨_, bs, rfl, .inl (.inl (by rw [← r.ints]; exact e _ _ h)), h2, fun m m1 m2 => k _ _ S H (h3 m m1 m2) (Gr.refl e) (.int _)⟩
  | _ => exact p.elim
theorem lr_min : LRC K (L2.rMin K) (fun xs P => match xs with | [d] => rdMin d P | _ => False) := lr1 fun v d S H P Q e r p k => by
  cases r with
  | lst h r =>
    obtain ⟨bs, h1, h2, h3⟩ := p
    have := ints_of h1
    subst this
    exact ⟨_, bs, rfl, .inl (.inl (by rw [← r.ints]; exact e _ _ h)), h2, fun m m1 m2 => k _ _ S H (h3 m m1 m2) (Gr.refl e) (.int _)⟩
  | _ => exact p.elim
def rdTuple : D → (D → Prop) → Prop := fun d P => match d with
  | .lst ds => P (.tup ds)
  | .tup ds => P (.tup ds)
  | _ => False
theorem lr_tuple : LRC K (fun xs H Q => ∃ p ys, xs = [.ref p] ∧ ((SqL K H p ys ∧ ∀ l, H l = none → Q (.ref l) (L2.upd H l (.tup ys))) ∨ (SqT K H p ys ∧ Q (.ref p) H))) (fun xs P => match xs with | [d] => rdTuple d P | _ => False) := lr1 fun v d S H P Q e r p k => by
  cases r with
  | @lst a vs ds h r =>
    refine ⟨_, vs, rfl, .inl ⟨.inl (.inl (e _ _ h)), fun l hl => ?_⟩⟩
    have g : Gr S H (L2.upd S l (.tup vs)) (L2.upd H l (.tup vs)) := Gr.new e hl
    exact k _ _ _ _ p g (.tup (SqT.of upd_same) (r.mono g.s))
  | @tup a vs ds h r => exact ⟨_, vs, rfl, .inr ⟨e.sqT h, k _ _ S H p (Gr.refl e) (.tup h r)⟩⟩
  | _ => exact p.elim
/-- text of data -/
def rdRepr : D → (D → Prop) → Prop := fun d P => ∃ p, d.py = some p ∧ PyData.layable0 p = true ∧ PyData.showable p = true ∧ p.shown.length ≤ sizeLine ∧ P (.str p.shown)
end
section
variable {X : Cx} {F : Fm} {a b c e o : Expr} {es rest : List Expr} {pos p apos : Pos} {da db dc de : DE} {ta tb : DT} {dA dB : DA} {k : Nat} {x : Str}
/-! ### new lists -/
/-- list(x) -/
def dList (d : DE) : DA := fun sl P => d sl fun x sl1 => match x with
  | .lst ds => P ds sl1
  | .tup ds => P ds sl1
  | _ => False
theorem dn_list (hg : Gl X "list") (hm : X.mg "list" = none) (ha : PDE X F e de) (he : starEach [e] X.env = (false, eval e X.env) :: starEach [] X.env := by rfl) (hpl : (backTo pos (starEach [] X.env)).any (·.1) = false := by rfl) : PDN X F (.Call (.Name "list" p) [e] [] pos) (dList de) :=
  PE_imp (pe_callTy call_list_of hg hm (by decide +kernel) (pa_cons ha pa_nil he) (by decide) (by decide) he hpl) fun σ H Q ⟨sl, S, P, R, p, k⟩ => ⟨sl, S, _, R, p, fun v d sl1 S1 H1 p1 R1 e1 r1 => by
    cases r1 with
    | @lst a vs ds h r => exact ⟨_, vs, rfl, .inl (.inl (.inl (R1.sh _ _ h))), fun l hl => k l vs ds sl1 S1 _ p1 (R1.grow (Gr.own R1.sh hl)) e1 (R1.sh.free hl) (R1.dm l hl) upd_same r (R1.notOwn hl)⟩
    | @tup a vs ds h r => exact ⟨_, vs, rfl, .inr (R1.sh.sqT h), fun l hl => k l vs ds sl1 S1 _ p1 (R1.grow (Gr.own R1.sh hl)) e1 (R1.sh.free hl) (R1.dm l hl) upd_same r (R1.notOwn hl)⟩
    | _ => exact p1.elim⟩
/-- xs + ys -/
def dCat (a b : DE) : DA := fun sl P => a sl fun x sl1 => b sl1 fun y sl2 => match x, y with
  | .lst ds, .lst es => ds.length + es.length ≤ sizeLine ∧ P (ds ++ es) sl2
  | _, _ => False
theorem dn_cat (ha : PDE X F a da) (hb : PDE X F b db) : PDN X F (.BinOp a .Add b pos) (dCat da db) := PE_imp (pe_op op_cat ha hb) fun σ H Q ⟨sl, S, P, R, p, k⟩ => ⟨sl, S, _, R, p, fun v d sl1 S1 H1 p1 R1 e1 r1 => ⟨sl1, S1, _, R1, p1, fun v2 d2 sl2 S2 H2 p2 R2 e2 r2 => by
  have r3 := r1.mono e2
  cases r3 <;> first | exact p2.elim | skip
  cases r2 <;> first | exact p2.elim | skip
  rename_i a vs ds h r b ws es h' r'
  exact ⟨_, _, vs, ws, rfl, rfl, R2.sh _ _ h, R2.sh _ _ h', by rw [r.length, r'.length]; exact p2.1, fun l hl => k l _ _ sl2 S2 _ p2.2 (R2.grow (Gr.own R2.sh hl)) (e1.trans e2) (R2.sh.free hl) (R2.dm l hl) upd_same (r.append r') (R2.notOwn hl)⟩⟩⟩
/-- script[lo:hi] -/
def dSlScr (d : DE) (l h : DO) : DA := fun sl P => d sl fun x sl1 => l sl1 fun lo sl2 => h sl2 fun hi sl3 => match x with
  | .scr ns => P (cutL (ns.map D.int) lo hi) sl3
  | _ => False
theorem dn_slScr {lo hi : Option Expr} {p2 : Pos} {dl dh : DO} (he : PDE X F e de) (hl : PDO X F lo dl) (hh : PDO X F hi dh) : PDN X F (.Subscript e (.Slice lo hi none p2) pos) (dSlScr de dl dh) := PE_imp (pe_slice sl_list he hl hh) fun σ H Q ⟨sl, S, P, R, p, k⟩ =>
  ⟨sl, S, _, R, p, fun v d sl1 S1 H1 p1 R1 e1 r1 => ⟨sl1, S1, _, R1, p1, fun o1 sl2 S2 H2 p2 R2 e2 => ⟨sl2, S2, _, R2, p2, fun o2 sl3 S3 H3 p3 R3 e3 => by
    have r3 := r1.mono (e2.trans e3)
    cases r3 with
    | @scr a ns h =>
      exact ⟨_, ns.map V.int, rfl, R3.sh.sqL h, fun q hq => k q _ _ sl3 S3 _ p3 (R3.grow (Gr.own R3.sh hq)) (e1.trans (e2.trans e3)) (R3.sh.free hq) (R3.dm q hq) upd_same (cut_rep Reps.ofInts) (R3.notOwn hq)⟩
    | _ => exact p3.elim⟩⟩⟩
/-! ### lists of one's own, changed -/
/-- xs.append(e) -/
def dApp (i : Nat) (d : DE) : DE := fun sl P => (∃ c, lstAt sl i = some c) ∧ d sl fun x sl1 => ∃ c, lstAt sl1 i = some c ∧ c.length < sizeLine ∧ P .non (setLst sl1 i (c ++ [x]))
theorem Gr.mutM {S H : Hp} {q : Addr} {o u : HO} (e : Ex S H) (n : S q = none) (h : H q = some o) : GrM q S H S (L2.upd H q u) := ⟨Ex.refl _, e.mut n, fun a w ha z => by rw [upd_ne ha]; exact z, fun _ h => .inl h⟩
theorem de_app (i : Nat) {y : Str} {py : Pos} (ha : PDE X F e de) (hN : X.N[i]? = some y := by rfl) (hv : Vis X.env.scope y := by first | exact Or.inl rfl | exact Or.inr (Or.inl rfl) | exact Or.inr (Or.inr rfl)) (hd : (y == ("__debug__" : Str)) = false := by decide) (hcd : (y == ("__classdict__" : Str)) = false := by decide)
    (hst : starEach [e] X.env = (false, eval e X.env) :: starEach [] X.env := by rfl) (hpl : (backTo pos (starEach [] X.env)).any (·.1) = false := by rfl) (hb : attributeBase (.Name y py) "append" X.env (eval (.Name y py) X.env) = eval (.Name y py) X.env := by rfl)
    (hfew : ((backTo pos (starEach [e] X.env)).all (fun x => !x.1) && (backToKw pos (keywordEach [] X.env)).all (fun x => x.1.isSome) && decide ([e].length + ([] : List Keyword).length + (if ([] : List Keyword).isEmpty then 0 else 1) < 30)) = true := by rfl)
    (hline : (apos.endLine == pos.line) = true := by rfl) :
    PDE X F (.Call (.Attribute (.Name y py) "append" apos) [e] [] pos) (dApp i de) := by
  refine PE_imp (pe_bm PySem.F.plainAttrs_list PySem.F.slot_list_append PySem.F.type_list_append mt_append (pe_var hN hv hd hcd) (pa_cons ha pa_nil hst) hb hfew hline hst hpl) fun σ H Q ⟨sl, S, P, R, ⟨⟨c0, h0⟩, p⟩, k⟩ => ?_
  obtain ⟨q0, vs0, e0, _, _, hH, _, _⟩ := R.lst h0
  refine ⟨.ref q0, e0, .inl ⟨rfl, _, .inl (.inl hH)⟩, sl, S, _, R, p, fun v d sl1 S1 H1 ⟨c, hc, hz, p1⟩ R1 e1 r1 => ?_⟩
  obtain ⟨q1, vs1, e2, n1, b1, h1, r2, _⟩ := R1.lst hc
  rw [e0] at e2
  cases e2
  exact ⟨q0, vs1, v, rfl, rfl, h1, by rw [r2.length]; exact hz, k _ _ _ S1 _ p1 (R1.mut hc e0 (Gr.mutM R1.sh n1 h1) upd_same (r2.append (.cons r1 .nil))) e1 .non⟩
end
end DL
end
section
set_option maxRecDepth 100000
set_option maxHeartbeats 2000000
/-! D11: stores to places, two names at once, division of great numbers, an instance being made. -/
namespace DL
open PySem PySem.Spec PyProof.Rows L2 RZ

def CDiv100 (_ j : Int) : Prop := 0 < j ∧ j < 1267650600228229401496703205376
theorem CDiv100.w {i j : Int} (h : CDiv100 i j) : CDivW i j := wide_div (b := 100) h.1 (by have h1 := h.1; have h2 := h.2; show j.natAbs < 1267650600228229401496703205376; omega) (by decide) (by decide)
section
variable {X : Cx} {F : Fm} {a b c e o : Expr} {es : List Expr} {rest st : List Stmt} {pos p apos pos' : Pos} {da db dc de di : DE} {ta tb : DT} {dA dB : DA} {g : DG} {gs : DGs} {V : Nat → Prop}
theorem op_fdiv100 : OpR X (binaryOp .FloorDiv) (rI CDiv100 fun i j => .int (i / j)) := fun pins s σ H x y v u Q I rx ry ⟨i, j, h1, h2, h3, h4⟩ => op_fdivW pins s σ H x y v u Q I rx ry ⟨i, j, h1, h2, h3.w, h4⟩
theorem de_fdivW (ha : PDE X F a da) (hb : PDE X F b db) : PDE X F (.BinOp a .FloorDiv b pos) (dOp (rdI CDiv100 fun i j => .int (i / j)) da db) := de_op op_fdiv100 (lr_I fun _ _ _ => .int _) ha hb

/-! ### xs[i] = .. , xs of one's own -/
def gSb (i : Nat) (d : DE) : DG := fun y sl P => (∃ c, lstAt sl i = some c) ∧ d sl fun x sl1 => match x with
  | .int k => ∃ c j, lstAt sl1 i = some c ∧ ixN c.length k = some j ∧ P (setLst sl1 i (c.set j y))
  | _ => False
theorem dg_sub (i : Nat) {x : Str} {px : Pos} (hi : PDE X F e de) (hN : X.N[i]? = some x := by rfl) (hv : Vis X.env.scope x := by first | exact Or.inl rfl | exact Or.inr (Or.inl rfl) | exact Or.inr (Or.inr rfl)) (hd : (x == ("__debug__" : Str)) = false := by decide) (hcd : (x == ("__classdict__" : Str)) = false := by decide)
    (ha : ∀ v, assign (.Subscript (.Name x px) e pos) X.env v = (do
      let ov ← holding [v] (eval (.Name x px) X.env)
      let iv ← holding [v, ov] (eval e X.env)
      standAt pos
      holding [v, ov, iv] (setItem ov iv v)
      release [v, ov, iv] []) := by intro _; rfl) : PDG X F V (.Subscript (.Name x px) e pos) (gSb i de) :=
  PG_imp (pg_sub (pe_var hN hv hd hcd) hi set_list ha) fun v σ H Q ⟨d, sl, S, P, R, r, ⟨⟨c0, h0⟩, p⟩, k⟩ => by
    obtain ⟨q0, vs0, e0, _⟩ := R.lst h0
    refine ⟨.ref q0, e0, sl, S, _, R, p, fun y dy sl1 S1 H1 p1 R1 e1 r1 => ?_⟩
    cases r1 <;> first | exact p1.elim | skip
    obtain ⟨c, j, hc, hj, p2⟩ := p1
    obtain ⟨q1, vs1, e2, n1, b1, h1, r2, _⟩ := R1.lst hc
    rw [e0] at e2
    cases e2
    exact ⟨q0, vs1, _, j, rfl, rfl, h1, by rw [r2.length]; exact hj, k _ σ S1 _ p2 (R1.mut hc e0 (Gr.mutM R1.sh n1 h1) upd_same (r2.set (r.mono e1) j)) e1 (Off.refl σ)⟩

/-! ### a, b = x, y -/
def dPar (i j : Nat) (a b : DE) : DS := fun N sl => a sl fun x sl1 => b sl1 fun y sl2 => N.nx ((sl2.set i (.sh x)).set j (.sh y))
theorem ds_par {i j : Nat} {x y : Str} {px py pt : Pos} {kt k2 pt2} (hc : X.calm = true) (hN : X.N.Nodup) (hi : X.N[i]? = some x) (hj : X.N[j]? = some y) (hij : i ≠ j) (hx : X.env.scope.names.lookup x = some .local) (hy : X.env.scope.names.lookup y = some .local)
    (ha : PDE X F a da) (hb : PDE X F b db) (hw : swappedStores [.Tuple [.Name x px, .Name y py] kt pt] (.Tuple [a, b] k2 pt2) X.env = pure (some [x, y])) (hs : swapsWithSole [.Tuple [.Name x px, .Name y py] kt pt] (.Tuple [a, b] k2 pt2) pos.line X.env = pure false := by rfl)
    (h1 : starEach [a, b] X.env = (false, eval a X.env) :: starEach [b] X.env := by rfl) (h2 : starEach [b] X.env = (false, eval b X.env) :: starEach [] X.env := by rfl) :
    PDS X F (.Assign [.Tuple [.Name x px, .Name y py] kt pt] (.Tuple [a, b] k2 pt2) pos) (dPar i j da db) :=
  PS_impI (ps_par hc hN hi hj hij hx hy (pa_cons ha (pa_cons hb pa_nil h2) h1) hw hs) fun D' σ H hl ⟨sl, S, N, R, h, l⟩ => ⟨sl, S, _, R, h, fun v d sl1 S1 H1 p R1 e1 r1 => ⟨sl1, S1, _, R1, p, fun v2 d2 sl2 S2 H2 p2 R2 e2 r2 =>
    ⟨v, v2, rfl, l.nx _ _ S2 H2 p2 ((R2.setSh (by rw [hl]; exact (List.getElem?_eq_some_iff.mp hi).1) (r1.mono e2)).setSh (by rw [List.length_set, hl]; exact (List.getElem?_eq_some_iff.mp hj).1) r2) (e1.trans e2)⟩⟩⟩
theorem ER.setSh' {K : PySem.W.Frag} {sl : List Sl} {σ : L2.St} {S H : Hp} (R : ER K F sl σ S H) {i : Nat} {v : L2.V} {d : D} (hi : i < σ.length) (r : Rep K S v d) (q : Addr) (no : ∀ j, ¬ OwnAt σ sl j q) : ER K F (sl.set i (.sh d)) (σ.set i (some v)) S H ∧ ∀ j, ¬ OwnAt (σ.set i (some v)) (sl.set i (.sh d)) j q := by
  refine ⟨R.setSh hi r, fun j ⟨h1, s, h2, h3⟩ => ?_⟩
  by_cases hj : i = j
  · subst hj
    by_cases hl : i < sl.length
    · rw [List.getElem?_set_self hl] at h2
      cases h2
      cases h3
    · rw [List.getElem?_eq_none (by simpa using hl)] at h2
      cases h2
  · rw [List.getElem?_set_ne hj] at h1 h2
    exact no j ⟨h1, s, h2, h3⟩
/-- the first a new list -/
def dParN1 (i j : Nat) (a : DA) (b : DE) : DS := fun N sl => a sl fun xs sl1 => b sl1 fun y sl2 => N.nx ((sl2.set i (.ow xs)).set j (.sh y))
/-- the second a new list -/
def dParN2 (i j : Nat) (a : DE) (b : DA) : DS := fun N sl => a sl fun x sl1 => b sl1 fun ys sl2 => N.nx ((sl2.set i (.sh x)).set j (.ow ys))
theorem ds_parN2 {i j : Nat} {x y : Str} {px py pt : Pos} {kt k2 pt2} (hc : X.calm = true) (hN : X.N.Nodup) (hi : X.N[i]? = some x) (hj : X.N[j]? = some y) (hij : i ≠ j) (hx : X.env.scope.names.lookup x = some .local) (hy : X.env.scope.names.lookup y = some .local)
    (ha : PDE X F a da) (hb : PDN X F b dB) (hw : swappedStores [.Tuple [.Name x px, .Name y py] kt pt] (.Tuple [a, b] k2 pt2) X.env = pure (some [x, y])) (hs : swapsWithSole [.Tuple [.Name x px, .Name y py] kt pt] (.Tuple [a, b] k2 pt2) pos.line X.env = pure false := by rfl)
    (h1 : starEach [a, b] X.env = (false, eval a X.env) :: starEach [b] X.env := by rfl) (h2 : starEach [b] X.env = (false, eval b X.env) :: starEach [] X.env := by rfl) :
    PDS X F (.Assign [.Tuple [.Name x px, .Name y py] kt pt] (.Tuple [a, b] k2 pt2) pos) (dParN2 i j da dB) :=
  PS_impI (ps_par hc hN hi hj hij hx hy (pa_cons ha (pa_cons hb pa_nil h2) h1) hw hs) fun D' σ H hl ⟨sl, S, N, R, h, l⟩ => ⟨sl, S, _, R, h, fun v d sl1 S1 H1 p R1 e1 r1 => ⟨sl1, S1, _, R1, p, fun q vs ds sl2 S2 H2 p2 R2 e2 n2 hn h2 r2 no => by
    obtain ⟨R3, no3⟩ := R2.setSh' (i := i) (by rw [hl]; exact (List.getElem?_eq_some_iff.mp hi).1) (r1.mono e2) q no
    exact ⟨v, .ref q, rfl, l.nx _ _ S2 H2 p2 (R3.setOw (by rw [List.length_set, hl]; exact (List.getElem?_eq_some_iff.mp hj).1) n2 hn h2 r2 no3) (e1.trans e2)⟩⟩⟩
end
end DL
namespace DL
open PySem PySem.Spec PyProof.Rows L2 RZ
section
variable {X : Cx} {F : Fm} {a b c e o : Expr} {es : List Expr} {rest st : List Stmt} {pos p apos pos' : Pos} {da db dc de di : DE} {ta tb : DT} {dA dB : DA} {g : DG} {gs : DGs} {V : Nat → Prop}
theorem ds_parN1 {i j : Nat} {x y : Str} {px py pt : Pos} {kt k2 pt2} (hc : X.calm = true) (hN : X.N.Nodup) (hi : X.N[i]? = some x) (hj : X.N[j]? = some y) (hij : i ≠ j) (hx : X.env.scope.names.lookup x = some .local) (hy : X.env.scope.names.lookup y = some .local)
    (ha : PDN X F a dA) (hb : ∀ F, PDE X F b db) (hw : swappedStores [.Tuple [.Name x px, .Name y py] kt pt] (.Tuple [a, b] k2 pt2) X.env = pure (some [x, y])) (hs : swapsWithSole [.Tuple [.Name x px, .Name y py] kt pt] (.Tuple [a, b] k2 pt2) pos.line X.env = pure false := by rfl)
    (h1 : starEach [a, b] X.env = (false, eval a X.env) :: starEach [b] X.env := by rfl) (h2 : starEach [b] X.env = (false, eval b X.env) :: starEach [] X.env := by rfl) :
    PDS X F (.Assign [.Tuple [.Name x px, .Name y py] kt pt] (.Tuple [a, b] k2 pt2) pos) (dParN1 i j dA db) :=
  have hbA : PE X b (tEA X.K db) := ⟨fun pins s σ H Q I ⟨F, q⟩ => (hb F).run pins s σ H Q I q⟩
  PS_impI (ps_par hc hN hi hj hij hx hy (pa_cons ha (pa_cons hbA pa_nil h2) h1) hw hs) fun D' σ H hl ⟨sl, S, N, R, h, l⟩ => ⟨sl, S, _, R, h, fun q vs ds sl1 S1 H1 p1 R1 e1 n1 hn q1 r1 no => by
    refine ⟨F.plus q (.lst vs), sl1, S1, _, R1.plus n1 q1 no, p1, fun w d sl2 S2 H2 p2 R2 e2 rw => ?_⟩
    have n2 : S2 q = none := by
      cases z : S2 q with
      | none => rfl
      | some o =>
        rcases R2.nw q (by rw [z]; simp) with w | w
        · have w' : F.S0 q ≠ none := w
          exact absurd (R1.ss.free n1) w'
        · exact absurd rfl w.2
    obtain ⟨RM, hq', no'⟩ := R2.minus hn
    refine ⟨.ref q, w, rfl, l.nx _ _ S2 H2 p2 ((RM.setOw (by rw [hl]; exact (List.getElem?_eq_some_iff.mp hi).1) n2 hn hq' (r1.mono e2) no').setSh (by rw [List.length_set, hl]; exact (List.getElem?_eq_some_iff.mp hj).1) rw) (e1.trans e2)⟩⟩
/-- both new lists -/
def dParNN (i j : Nat) (a : DA) (b : DA) : DS := fun N sl => a sl fun xs sl1 => b sl1 fun ys sl2 => N.nx ((sl2.set i (.ow xs)).set j (.ow ys))
def tNA (K : PySem.W.Frag) (t : DA) : TE := fun σ H Q => ∃ F, tN K F t σ H Q
theorem ds_parNN {i j : Nat} {x y : Str} {px py pt : Pos} {kt k2 pt2} (hc : X.calm = true) (hN : X.N.Nodup) (hi : X.N[i]? = some x) (hj : X.N[j]? = some y) (hij : i ≠ j) (hx : X.env.scope.names.lookup x = some .local) (hy : X.env.scope.names.lookup y = some .local)
    (ha : PDN X F a dA) (hb : ∀ F, PDN X F b dB) (hw : swappedStores [.Tuple [.Name x px, .Name y py] kt pt] (.Tuple [a, b] k2 pt2) X.env = pure (some [x, y])) (hs : swapsWithSole [.Tuple [.Name x px, .Name y py] kt pt] (.Tuple [a, b] k2 pt2) pos.line X.env = pure false := by rfl)
    (h1 : starEach [a, b] X.env = (false, eval a X.env) :: starEach [b] X.env := by rfl) (h2 : starEach [b] X.env = (false, eval b X.env) :: starEach [] X.env := by rfl) :
    PDS X F (.Assign [.Tuple [.Name x px, .Name y py] kt pt] (.Tuple [a, b] k2 pt2) pos) (dParNN i j dA dB) :=
  have hbA : PE X b (tNA X.K dB) := ⟨fun pins s σ H Q I ⟨F, q⟩ => (hb F).run pins s σ H Q I q⟩
  PS_impI (ps_par hc hN hi hj hij hx hy (pa_cons ha (pa_cons hbA pa_nil h2) h1) hw hs) fun D' σ H hl ⟨sl, S, N, R, h, l⟩ => ⟨sl, S, _, R, h, fun q vs ds sl1 S1 H1 p1 R1 e1 n1 hn q1 r1 no => by
    refine ⟨F.plus q (.lst vs), sl1, S1, _, R1.plus n1 q1 no, p1, fun q2 ws es sl2 S2 H2 p2 R2 e2 n2 hn2 h2' r2 no2 => ?_⟩
    have n2' : S2 q = none := by
      cases z : S2 q with
      | none => rfl
      | some o =>
        rcases R2.nw q (by rw [z]; simp) with w | w
        · have w' : F.S0 q ≠ none := w
          exact absurd (R1.ss.free n1) w'
        · exact absurd rfl w.2
    obtain ⟨RM, hq', no'⟩ := R2.minus hn
    have A := RM.setOw (i := i) (by rw [hl]; exact (List.getElem?_eq_some_iff.mp hi).1) n2' hn hq' (r1.mono e2) no'
    have no3 : ∀ k, ¬ OwnAt (σ.set i (some (.ref q))) (sl2.set i (.ow ds)) k q2 := fun k ⟨g1, s, g2, g3⟩ => by
      by_cases hk : i = k
      · subst hk
        rw [List.getElem?_set_self (by rw [hl]; exact (List.getElem?_eq_some_iff.mp hi).1)] at g1
        cases g1
        exact hn2.2 rfl
      · rw [List.getElem?_set_ne hk] at g1 g2
        exact no2 k ⟨g1, s, g2, g3⟩
    exact ⟨.ref q, .ref q2, rfl, l.nx _ _ S2 H2 p2 (A.setOw (by rw [List.length_set, hl]; exact (List.getElem?_eq_some_iff.mp hj).1) n2 hn2.1 h2' r2 no3) (e1.trans e2)⟩⟩
end
end DL
end
section
set_option maxRecDepth 100000
set_option maxHeartbeats 2000000
/-! D12: zip of lists and tuples in any mix, of three; enumerate of a tuple. -/
namespace DL
open PySem PySem.Spec PyProof.Rows L2 RZ

/-- a list, a tuple -/
inductive Kd where
  | l | t
def SqK (K : PySem.W.Frag) : Kd → Hp → Addr → List L2.V → Prop
  | .l => SqL K
  | .t => SqT K
def itAt : Kd → Heap → Addr → Addr → Nat → Prop
  | .l => fun h it a i => h.IsListIter it a i
  | .t => fun h it a i => h.IsTupleIter it a i
def sqAt : Kd → Heap → Addr → Array Value → Prop
  | .l => fun h a xs => h.IsList a xs
  | .t => fun h a xs => h.IsTuple a xs
def itObj : Kd → Addr → Obj
  | .l => fun a => { cls := .type "list_iterator", data := .fields #[.ref a, .int 0 0] }
  | .t => fun a => { cls := .type "tuple_iterator", data := .fields #[.ref a, .int 0 0] }
theorem drawsK {prog : Program} {w : World} {A : Around} (k : Kd) (hh : A.handled = none) (it a : Addr) (hne : a ≠ it) (items : Array Value) :
    Draws prog w A it [it, a] items.size (fun i v => items[i]? = some v) (fun i h => itAt k h it a i ∧ sqAt k h a items) := by
  cases k with
  | l => exact Draws.list hh it a hne items
  | t => exact Draws.tuple hh it a hne items
theorem beginsK (k : Kd) (a : Addr) (items : Array Value) : Begins (.ref a) (itObj k a) (fun h => sqAt k h a items) := by
  cases k with
  | l => exact begins_list a items
  | t => exact begins_tuple a items
theorem itAt_new (k : Kd) {h : Heap} {it a : Addr} (e : h.get? it = some (itObj k a)) : itAt k h it a 0 := by
  cases k with
  | l => exact ⟨_, e, rfl, rfl⟩
  | t => exact ⟨_, e, rfl, rfl⟩
theorem itAt_obj (k : Kd) {h : Heap} {it a : Addr} {i : Nat} (e : itAt k h it a i) : ∃ o, h.get? it = some o ∧ ∀ v, o.data ≠ .cell v := by
  cases k with
  | l =>
    obtain ⟨o, ho, hc, hd⟩ := e
    exact ⟨o, ho, fun v q => by rw [hd] at q; cases q⟩
  | t =>
    obtain ⟨o, ho, hc, hd⟩ := e
    exact ⟨o, ho, fun v q => by rw [hd] at q; cases q⟩
theorem itAt_at (k : Kd) {h h' : Heap} {it a : Addr} {i : Nat} (e : itAt k h it a i) (f : ∀ o, h.get? it = some o → h'.get? it = some o) : itAt k h' it a i := by
  cases k with
  | l => exact Heap.IsListIter.at e f
  | t => exact Heap.IsTupleIter.at e f
section
variable {X : Cx} {pins : List (Addr × Obj)} {σ : L2.St} {H : Hp} {s : Shared} {a : Addr} {xs ys : List L2.V}
theorem sqK_heap (I : Inv X pins σ H s) (k : Kd) (h : SqK X.K k H a xs) : ∃ its : List Value, Vals xs its ∧ sqAt k s.heap a its.toArray := by
  cases k with
  | l =>
    obtain ⟨its, r, p, _⟩ := I.list h
    exact ⟨its, r, p.isList⟩
  | t =>
    obtain ⟨its, r, p, _⟩ := I.tuple h
    exact ⟨its, r, p⟩
theorem sqK_inj (I : Inv X pins σ H s) (k : Kd) (h : SqK X.K k H a xs) (h' : SqK X.K k H a ys) : xs = ys := by
  cases k with
  | l => exact I.list_inj h h'
  | t => exact I.tuple_inj h h'
theorem sqAt_lt (k : Kd) {h : Heap} {its : Array Value} (e : sqAt k h a its) : a < h.objs.size := by
  cases k with
  | l =>
    obtain ⟨o, ho, _⟩ := e
    exact Heap.lt_size ho
  | t =>
    obtain ⟨o, ho, _⟩ := e
    exact Heap.lt_size ho
end
/-- pairs of the items -/
def ItzK (K : PySem.W.Frag) (k1 k2 : Kd) (a b : Addr) : It :=
  ⟨fun i H => ∃ (xs ys : List L2.V) (x y : L2.V), SqK K k1 H a xs ∧ SqK K k2 H b ys ∧ xs[i]? = some x ∧ ys[i]? = some y,
    fun i H v H' => ∃ T x y, v = .ref T ∧ H T = none ∧ H' = L2.upd H T (.tup [x, y]) ∧ (∀ xs, SqK K k1 H a xs → xs[i]? = some x) ∧ ∀ ys, SqK K k2 H b ys → ys[i]? = some y,
    fun i H => ∃ xs ys : List L2.V, SqK K k1 H a xs ∧ SqK K k2 H b ys ∧ i = min xs.length ys.length⟩
theorem turn_zipK {P : Program} {w : World} {K : PySem.W.Frag} {elts : List Expr} {kk : Nat} {tpos : Pos} {k1 k2 : Kd} {a b z TI TO i1 i2 : Addr} (D : ZipSep2 z TI TO i1 i2 [i1, a] [i2, b]) (ha : a ≠ i1) (hb : b ≠ i2) :
    Turn P w K (.Tuple elts kk tpos) (ItzK K k1 k2 a b) [z, TI, TO, i1, i2] z (fun i h => IsZip h z TI TO .none ∧ IsTupOf2 h TI (.ref i1) (.ref i2) ∧ (∃ x y, IsTupOf2 h TO x y) ∧ itAt k1 h i1 a i ∧ itAt k2 h i2 b i) where
  mem := by simp
  obj := fun i h st c hc => by
    obtain ⟨hz, hTI, ⟨x, y, hTO⟩, h1, h2⟩ := st
    have e' : c = z ∨ c = TI ∨ c = TO ∨ c = i1 ∨ c = i2 := by simpa using hc
    rcases e' with q | q | q | q | q
    · rw [q]; exact ⟨_, hz, fun v q => nomatch q⟩
    · rw [q]; exact ⟨_, hTI, fun v q => nomatch q⟩
    · rw [q]; exact ⟨_, hTO, fun v q => nomatch q⟩
    · rw [q]; exact itAt_obj k1 h1
    · rw [q]; exact itAt_obj k2 h2
  keep := fun i h h' st k => by
    obtain ⟨hz, hTI, ⟨x, y, hTO⟩, h1, h2⟩ := st
    exact ⟨k z (by simp) _ hz, k TI (by simp) _ hTI, ⟨x, y, k TO (by simp) _ hTO⟩, itAt_at k1 h1 fun o q => k i1 (by simp) o q, itAt_at k2 h2 fun o q => k i2 (by simp) o q⟩
  item := by
    intro X hP hw hK hc i pins s σ H E I hf st hg
    subst hP hw hK
    obtain ⟨hz, hTI, hTO, h1, h2⟩ := st
    obtain ⟨xs, ys, x, y, hqx, hqy, hx, hy⟩ := hg
    obtain ⟨its, rv, p⟩ := sqK_heap I k1 hqx
    obtain ⟨its2, rv2, p2⟩ := sqK_heap I k2 hqy
    have l1 : i < its.toArray.size := by have := (List.getElem?_eq_some_iff.mp hx).1; have := rv.length; simp; omega
    have l2 : i < its2.toArray.size := by have := (List.getElem?_eq_some_iff.mp hy).1; have := rv2.length; simp; omega
    refine (GoesN.zip2 (A := X.A) D (drawsK k1 (A := X.A.in1) (I.ok.hd hc) i1 a ha its.toArray) (drawsK k2 (A := X.A.in1) (I.ok.hd hc) i2 b hb its2.toArray)).goes i s _ E (by omega) ⟨hz, hTI, hTO, ⟨h1, p⟩, ⟨h2, p2⟩⟩
      fun v h' tk ⟨T, u, u2, ev, hT, hu, hu2, hTup⟩ ⟨hz', hTI', hTO', ⟨h1', _⟩, ⟨h2', _⟩⟩ hk _ => ?_
    subst ev
    have ru : RelV x u := by
      obtain ⟨u', q1, q2⟩ := rv.get hx
      have : its.toArray[i]? = some u' := by simpa using q1
      rw [hu] at this
      cases this
      exact q2
    have ru2 : RelV y u2 := by
      obtain ⟨u', q1, q2⟩ := rv2.get hy
      have : its2.toArray[i]? = some u' := by simpa using q1
      rw [hu2] at this
      cases this
      exact q2
    have new : ObjOk X.prog X.w (L2.upd H T (.tup [x, y])) h' T (.tup [x, y]) := ⟨by show 2 ≤ sizeLine; decide, [u, u2], .cons ru (.cons ru2 .nil), hTup⟩
    have I1 : Inv X pins σ (L2.upd H T (.tup [x, y])) { s with heap := h', toks := tk } :=
      I.turnedNew (t' := tk) (ch := [z, TI, TO, i1, i2]) (fun c o hb q => hk c o (fun m => hb (by
        have e : c = z ∨ c = TO ∨ c = i1 ∨ c = i2 := by simpa using m
        rcases e with e | e | e | e <;> simp [e])) q) hf hT new
    refine ⟨.ref T, _, I1, rfl, ⟨T, x, y, rfl, I.hok.fresh hT, rfl, fun l hl => by rw [sqK_inj I k1 hl hqx]; exact hx, fun l hl => by rw [sqK_inj I k2 hl hqy]; exact hy⟩, ⟨hz', hTI', hTO', h1', h2'⟩, fun c hcm => ?_⟩
    have hc' : ∃ o, s.heap.get? c = some o := by
      have e' : c = z ∨ c = TI ∨ c = TO ∨ c = i1 ∨ c = i2 := by simpa using hcm
      rcases e' with q | q | q | q | q
      · rw [q]; exact ⟨_, hz⟩
      · rw [q]; exact ⟨_, hTI⟩
      · rw [q]; obtain ⟨_, _, hTO⟩ := hTO; exact ⟨_, hTO⟩
      · rw [q]; obtain ⟨o, ho, _⟩ := itAt_obj k1 h1; exact ⟨o, ho⟩
      · rw [q]; obtain ⟨o, ho, _⟩ := itAt_obj k2 h2; exact ⟨o, ho⟩
    obtain ⟨o, ho⟩ := hc'
    rw [upd_ne (Nat.ne_of_lt (Nat.lt_of_lt_of_le (Heap.lt_size ho) hT))]
    exact (hf c hcm).1
  done := by
    intro X hP hw hK hc i pins s σ H E I hf st hg
    subst hP hw hK
    obtain ⟨hz, hTI, hTO, h1, h2⟩ := st
    obtain ⟨xs, ys, hqx, hqy, hi⟩ := hg
    obtain ⟨its, rv, p⟩ := sqK_heap I k1 hqx
    obtain ⟨its2, rv2, p2⟩ := sqK_heap I k2 hqy
    have e : i = min its.toArray.size its2.toArray.size := by
      have := rv.length
      have := rv2.length
      simp
      omega
    subst e
    refine (GoesN.zip2 (A := X.A) (elts := elts) (x1 := kk) (pos := tpos) D (drawsK k1 (A := X.A.in1) (I.ok.hd hc) i1 a ha its.toArray) (drawsK k2 (A := X.A.in1) (I.ok.hd hc) i2 b hb its2.toArray)).stops s _ E ⟨hz, hTI, hTO, ⟨h1, p⟩, ⟨h2, p2⟩⟩ fun h' tk hk _ => ?_
    exact I.turnedL (t' := tk) (ch := [z, TI, TO, i1, i2]) (fun c o hb q => hk c o (fun m => hb (by
        have e : c = z ∨ c = TO ∨ c = i1 ∨ c = i2 := by simpa using m
        rcases e with e | e | e | e <;> simp [e])) q) hf
  self := fun A i s Q E st h => wpAny_pyIter_zip st.1 h
def iZipK (K : PySem.W.Frag) (ta : TA) : TI := fun σ H R => ta σ H fun vs H1 => ∃ k1 k2 a b xs ys, vs = [.ref a, .ref b] ∧ SqK K k1 H1 a xs ∧ SqK K k2 H1 b ys ∧ R (ItzK K k1 k2 a b) H1
theorem pi_zipK {X : Cx} {e e2 : Expr} {ta : TA} {p pos tpos : Pos} {elts : List Expr} {kk : Nat} (hg : Gl X "zip") (hm : X.mg "zip" = none) (ha : PA X [e, e2] ta)
    (hs : starEach [e, e2] X.env = (false, eval e X.env) :: starEach [e2] X.env := by rfl) (hpl : (backTo pos (starEach [e2] X.env)).any (·.1) = false := by rfl) :
    PI X (.Tuple elts kk tpos) (.Call (.Name "zip" p) [e, e2] [] pos) (iZipK X.K ta) := by
  refine ⟨fun pins s σ H R I h => ?_⟩
  refine Call_ (ld_blt I hg hm PyProof.Rows.boot_zip (PyProof.Rows.callWith_type1 (thn (ha.run pos pins s σ H _ I h) fun us s1 ⟨vs, H1, I1, r1, q1⟩ => ?_) hs hpl))
  obtain ⟨k1, k2, a, b, xs, ys, ex, hqx, hqy, q⟩ := q1
  subst ex
  cases r1 with
  | cons r rr =>
    cases rr with
    | cons r' rr =>
      cases rr
      cases r
      cases r'
      obtain ⟨its, rv, p1⟩ := sqK_heap I1 k1 hqx
      obtain ⟨its2, rv2, p2⟩ := sqK_heap I1 k2 hqy
      have la := sqAt_lt k1 p1
      have lb := sqAt_lt k2 p2
      refine zip_begins2 (beginsK k1 a its.toArray) (beginsK k2 b its2.toArray) p1 p2 fun h' hz hTI hTO h1 h2 hsz hk => wpAny_pyIter_zip hz ?_
      have I2 : Inv X pins σ H1 { s1 with heap := h' } := I1.kept (t' := s1.toks) hk
      refine ⟨s1.heap.objs.size + 4, [s1.heap.objs.size + 4, s1.heap.objs.size + 2, s1.heap.objs.size + 3, s1.heap.objs.size, s1.heap.objs.size + 1], _, _, H1, rfl, I2,
        turn_zipK (zip_sep2 (fp1 := [a]) (fp2 := [b]) (by simpa using la) (by simpa using lb)) (Nat.ne_of_lt la) (Nat.ne_of_lt (Nat.lt_succ_of_lt lb)), ⟨hz, hTI, ⟨_, _, hTO⟩, itAt_new k1 h1, itAt_new k2 h2⟩, fun c hcm => ?_, q⟩
      have e' : c = s1.heap.objs.size + 4 ∨ c = s1.heap.objs.size + 2 ∨ c = s1.heap.objs.size + 3 ∨ c = s1.heap.objs.size ∨ c = s1.heap.objs.size + 1 := by simpa using hcm
      have hle : s1.heap.objs.size ≤ c := by
        rcases e' with z | z | z | z | z
        · rw [z]; exact Nat.le_add_right _ _
        · rw [z]; exact Nat.le_add_right _ _
        · rw [z]; exact Nat.le_add_right _ _
        · rw [z]; exact Nat.le_refl _
        · rw [z]; exact Nat.le_add_right _ _
      exact I1.fpOk hle (I1.hok.fresh hle)
/-- a list or a tuple of data, at an address -/
theorem Rep.seq {K : PySem.W.Frag} {S H : Hp} (ex : Ex S H) {v : L2.V} {d : D} {ds : List D} (r : Rep K S v d) (e : d = .lst ds ∨ d = .tup ds) : ∃ k a xs, v = .ref a ∧ SqK K k S a xs ∧ SqK K k H a xs ∧ Reps K S xs ds := by
  rcases e with e | e
  · subst e
    cases r with
    | lst h r => exact ⟨.l, _, _, rfl, .inl (.inl h), .inl (.inl (ex _ _ h)), r⟩
  · subst e
    cases r with
    | tup h r => exact ⟨.t, _, _, rfl, h, ex.sqT h, r⟩
theorem SqK.mono {K : PySem.W.Frag} {k : Kd} {S H : Hp} {a : Addr} {xs : List L2.V} (h : SqK K k S a xs) (e : Ex S H) : SqK K k H a xs := by
  cases k with
  | l => exact e.sqL h
  | t => exact e.sqT h
theorem Walk.zipK {K : PySem.W.Frag} {k1 k2 : Kd} {a b : Addr} {vs ws : List L2.V} {S : Hp} {ds es : List D} (h : SqK K k1 S a vs) (r : Reps K S vs ds) (h' : SqK K k2 S b ws) (r' : Reps K S ws es) : Walk K (ItzK K k1 k2 a b) S (zipD ds es) where
  stop := fun H e => ⟨vs, ws, h.mono e, h'.mono e, by rw [r.length, r'.length, zipD_len]⟩
  go := fun i H hi e => by
    rw [zipD_len] at hi
    obtain ⟨v, h1, _⟩ := r.get (show ds[i]? = some (ds[i]'(by omega)) by simp)
    obtain ⟨w, h2, _⟩ := r'.get (show es[i]? = some (es[i]'(by omega)) by simp)
    exact ⟨vs, ws, v, w, h.mono e, h'.mono e, h1, h2⟩
  yld := fun i x H H' d hd y S1 e1 e2 => by
    obtain ⟨T, v, w, rfl, hT, rfl, hv, hw⟩ := y
    obtain ⟨x, y, h1, h2, rfl⟩ := zipD_get hd
    obtain ⟨v2, h3, h4⟩ := r.get h1
    obtain ⟨w2, h5, h6⟩ := r'.get h2
    have q := hv vs (h.mono (e1.trans e2))
    rw [h3] at q
    cases q
    have q := hw ws (h'.mono (e1.trans e2))
    rw [h5] at q
    cases q
    have g : Gr S1 H (L2.upd S1 T (.tup [v, w])) (L2.upd H T (.tup [v, w])) := Gr.new e2 hT
    exact ⟨_, g, .tup (SqT.of upd_same) (.cons ((h4.mono e1).mono g.s) (.cons ((h6.mono e1).mono g.s) .nil))⟩
/-- the items of a list or tuple -/
def D.seq : D → Option (List D)
  | .lst ds => some ds
  | .tup ds => some ds
  | _ => none
theorem D.seq_of {d : D} {ds : List D} (h : d.seq = some ds) : d = .lst ds ∨ d = .tup ds := by
  cases d <;> first | (cases h; exact .inl rfl) | (cases h; exact .inr rfl) | cases h
section
variable {X : Cx} {F : Fm} {a b c e o tg : Expr} {pos p apos pos' : Pos} {da db dc de : DE}
def iZq (a b : DE) : DI := fun sl P => a sl fun x sl1 => b sl1 fun y sl2 => ∃ ds es, x.seq = some ds ∧ y.seq = some es ∧ P (zipD ds es) sl2
theorem di_zipq {kk : Nat} {tpos : Pos} {elts : List Expr} (hg : Gl X "zip") (hm : X.mg "zip" = none) (ha : PDE X F a da) (hb : PDE X F b db) (hs : starEach [a, b] X.env = (false, eval a X.env) :: starEach [b] X.env := by rfl) (hs2 : starEach [b] X.env = (false, eval b X.env) :: starEach [] X.env := by rfl) (hpl : (backTo pos (starEach [b] X.env)).any (·.1) = false := by rfl) :
    PDI X F (.Tuple elts kk tpos) (.Call (.Name "zip" p) [a, b] [] pos) (iZq da db) :=
  PI_imp (pi_zipK hg hm (pa_cons ha (pa_cons hb pa_nil hs2) hs) hs hpl) fun σ H Q ⟨sl, S, P, R, p, k⟩ => ⟨sl, S, _, R, p, fun v d sl1 S1 H1 p1 R1 e1 r1 => ⟨sl1, S1, _, R1, p1, fun v2 d2 sl2 S2 H2 ⟨ds, es, h1, h2, p2⟩ R2 e2 r2 => by
    obtain ⟨k1, a1, xs1, ev1, q1, q1', rr1⟩ := (r1.mono e2).seq R2.sh (D.seq_of h1)
    obtain ⟨k2, a2, xs2, ev2, q2, q2', rr2⟩ := r2.seq R2.sh (D.seq_of h2)
    subst ev1 ev2
    exact ⟨k1, k2, a1, a2, xs1, xs2, rfl, q1', q2', k _ _ sl2 S2 H2 p2 R2 (e1.trans e2) (Walk.zipK q1 rr1 q2 rr2)⟩⟩⟩
/-- a list or a tuple -/
def iSq (d : DE) : DI := fun sl P => d sl fun x sl1 => ∃ ds, x.seq = some ds ∧ P ds sl1
theorem PI_or {X : Cx} {tg e : Expr} {t t' : TI} (h : PI X tg e t) (h' : PI X tg e t') : PI X tg e (fun σ H R => t σ H R ∨ t' σ H R) := ⟨fun pins s σ H R I q => by
  rcases q with q | q
  · exact h.run pins s σ H R I q
  · exact h'.run pins s σ H R I q⟩
end
end DL
end
section
set_option maxRecDepth 100000
set_option maxHeartbeats 2000000
/-! D13: an instance that is being made: its attributes; super().__init__(..) ahead of a body; defs with a star parameter. -/
namespace DL
open PySem PySem.Spec PyProof.Rows L2 RZ StX NdefX

theorem ER.mutI {K : PySem.W.Frag} {F : Fm} {sl : List Sl} {σ : L2.St} {S H : Hp} (R : ER K F sl σ S H) {i : Nat} {C : Addr} {fs fs' : List (Str × D)} {S' H' : Hp} {p dx' : Addr} {vs' : List (Str × V)} (h : sl[i]? = some (.oi C fs)) (hp : σ[i]? = some (some (.ref p)))
    (g : GrM p S H S' H') (q : H' p = some (.ins C dx' vs')) (r : RepF K S' vs' fs') : ER K F (sl.set i (.oi C fs')) σ S' H' := by
  obtain ⟨p0, dx0, vs0, e0, n0, b0, q0, r0⟩ := R.at_ i _ h
  have o0 : OwnAt σ sl i p := ⟨hp, _, h, rfl⟩
  rw [hp] at e0
  cases e0
  have hi : i < sl.length := (List.getElem?_eq_some_iff.mp h).1
  have np : S' p = none := by
    cases z : S' p with
    | none => rfl
    | some o =>
      rcases g.nw p (by rw [z]; simp) with w | w
      · exact absurd n0 w
      · rw [q0] at w; cases w
  have old : ∀ (j : Nat) (s : Sl), i ≠ j → sl[j]? = some s → SlAt K F S' H' σ[j]? s := fun j s hj z => by
    have w := R.at_ j s z
    have ne : s.own = true → ∀ q', σ[j]? = some (some (.ref q')) → q' ≠ p := fun ho q' hq' hh => by
      subst hh
      exact hj (R.ap i j q' o0 ⟨hq', _, z, ho⟩)
    have fr : ∀ (p' : Addr) (u : HO), S p' = none → H p' = some u → S' p' = none := fun p' u hs hu => by
      cases q : S' p' with
      | none => rfl
      | some w =>
        rcases g.nw p' (by rw [q]; simp) with z | z
        · exact absurd hs z
        · rw [hu] at z; cases z
    cases s with
    | un => trivial
    | sh d =>
      obtain ⟨v, e, r⟩ := w
      exact ⟨v, e, r.mono g.s⟩
    | ow ds =>
      obtain ⟨p', vs, e, n, b, q, r⟩ := w
      exact ⟨p', vs, e, fr p' _ n q, b, g.h _ _ (ne rfl p' e) q, r.mono g.s⟩
    | io ds =>
      obtain ⟨p', vs, e, n, b, q, r⟩ := w
      exact ⟨p', vs, e, fr p' _ n q, b, g.h _ _ (ne rfl p' e) q, r.mono g.s⟩
    | oi C fs =>
      obtain ⟨p', dx, vs, e, n, b, q, r⟩ := w
      exact ⟨p', dx, vs, e, fr p' _ n q, b, g.h _ _ (ne rfl p' e) q, r.mono g.s⟩
  have nn : ∀ a, H' a = none → H a = none := fun a ha => by
    by_cases hap : a = p
    · subst hap
      rw [q] at ha; cases ha
    · cases z : H a with
      | none => rfl
      | some o =>
        rw [g.h a o hap z] at ha; cases ha
  have bh : Ex F.B H' := fun a o ha => by
    by_cases hap : a = p
    · subst hap
      rw [b0.1] at ha; cases ha
    · exact g.h a o hap (R.bh a o ha)
  have nw : ∀ a, S' a ≠ none → F.S0 a ≠ none ∨ F.N a := fun a ha => by
    rcases g.nw a ha with z | z
    · exact R.nw a z
    · exact .inr (R.dm a z)
  have back : ∀ {m : Nat} {p' : Addr}, OwnAt σ (sl.set i (.oi C fs')) m p' → OwnAt σ sl m p' := fun {m p'} ⟨h3, s3, h4, h5⟩ => by
    by_cases hj : i = m
    · subst hj
      exact ⟨h3, _, h, rfl⟩
    · rw [List.getElem?_set_ne hj] at h4
      exact ⟨h3, s3, h4, h5⟩
  refine ⟨bh, g.sh, R.ss.trans g.s, nw, fun a ha => R.dm a (nn a ha), fun j s' z' => ?_, fun j k p' h1 h2 => R.ap j k p' (back h1) (back h2)⟩
  by_cases hj : i = j
  · subst hj
    rw [List.getElem?_set_self hi] at z'
    cases z'
    exact ⟨p, dx', vs', hp, np, b0, q, r⟩
  · rw [List.getElem?_set_ne hj] at z'
    exact old j s' hj z'

section
variable {X : Cx} {F : Fm} {a b c e o : Expr} {es rest : List Expr} {pos p apos pos' : Pos} {da db dc de : DE} {V : Nat → Prop}
/-- self.f = e -/
def dFset (K : PySem.W.Frag) (i : Nat) (f : Str) (d : DE) : DS := fun N sl => d sl fun x sl1 => ∃ C fs, sl1[i]? = some (.oi C fs) ∧ FldOk K C f ∧ fs.length < 1000 ∧ N.nx (sl1.set i (.oi C (putD f x fs)))
theorem ds_fset (i : Nat) {x f : Str} {px : Pos} (he : PDE X F e de) (hs : swapsWith e (some (.Attribute (.Name x px) f pos')) pos.line X.env = pure false := by rfl) (hN : X.N[i]? = some x := by rfl) (hv : Vis X.env.scope x := by first | exact Or.inl rfl | exact Or.inr (Or.inl rfl) | exact Or.inr (Or.inr rfl))
    (hd : (x == ("__debug__" : Str)) = false := by decide) (hcd : (x == ("__classdict__" : Str)) = false := by decide) : PDS X F (.Assign [.Attribute (.Name x px) f pos'] e pos) (dFset X.K i f de) :=
  PS_imp (ps_fld (pe_var hN hv hd hcd) he hs) fun D' σ H ⟨sl, S, N, R, h, l⟩ => ⟨sl, S, _, R, h, fun v d sl1 S1 H1 ⟨C, fs, h1, ok, hl, p⟩ R1 e1 r1 => by
    obtain ⟨q, dx, vs, e2, n2, b2, q2, r2⟩ := R1.at_ i _ h1
    refine ⟨_, e2, q, C, dx, vs, rfl, q2, ok.c, ok.n, by rw [r2.length]; exact hl, l.nx _ _ S1 _ p (R1.mutI h1 e2 (Gr.mutM R1.sh n2 q2) upd_same (r2.put r1)) e1⟩⟩
/-- self.f -/
def dFldI (K : PySem.W.Frag) (i : Nat) (f : Str) : DE := fun sl P => ∃ C fs, sl[i]? = some (.oi C fs) ∧ FldOk K C f ∧ ∃ y, fs.lookup f = some y ∧ P y sl
theorem de_fldI (i : Nat) {x f : Str} (hb : attributeBase (.Name x p) f X.env (eval (.Name x p) X.env) = eval (.Name x p) X.env := by rfl) (hN : X.N[i]? = some x := by rfl) (hv : Vis X.env.scope x := by first | exact Or.inl rfl | exact Or.inr (Or.inl rfl) | exact Or.inr (Or.inr rfl))
    (hd : (x == ("__debug__" : Str)) = false := by decide) (hcd : (x == ("__classdict__" : Str)) = false := by decide) : PDE X F (.Attribute (.Name x p) f pos) (dFldI X.K i f) := PE_imp (pe_fld (pe_var hN hv hd hcd) hb) fun σ H Q ⟨sl, S, P, R, ⟨C, fs, h, ok, y, hy, pp⟩, k⟩ => by
  obtain ⟨q, dx, vs, e2, n2, b2, q2, r2⟩ := R.at_ i _ h
  obtain ⟨w, h3, h4⟩ := r2.look hy
  exact ⟨_, e2, q, C, dx, vs, w, rfl, q2, ok.c, ok.n, h3, k w y sl S H pp R (Ex.refl _) h4⟩
/-- self.f as a target -/
def gFld (K : PySem.W.Frag) (te : TE) (f : Str) : TG := fun y σ H Q => te σ H fun x H2 => ∃ a C dx fs, x = .ref a ∧ H2 a = some (.ins C dx fs) ∧ Cls K C ∧ NoAttr K C f ∧ fs.length < 1000 ∧ Q σ (upd H2 a (.ins C dx (putF f y fs)))
theorem pg_fld {te : TE} {f : Str} (ho : PE X o te) : PG X (.Attribute o f pos) (gFld X.K te f) := by
  refine ⟨fun pins s σ H v u Q I r h => ?_⟩
  rw [assign_Attribute]
  refine wpAny_bind (wpAny_holding (thn (ho.run pins s σ H _ I h) fun ov s1 ⟨x, H1, I1, r1, a, C, dx, fs, ex, ea, c, n, hl, q⟩ => ?_))
  subst ex
  obtain rfl : ov = Value.ref a := r1
  refine wpAny_bind (wpAny_standAt (wpAny_bind (wpAny_holding (setattr_ok I1 ea c n hl r fun s3 I3 => ?_))))
  exact wpAny_release ⟨σ, _, I3, q⟩
def gFs (K : PySem.W.Frag) (i : Nat) (f : Str) : DG := fun d sl P => ∃ C fs, sl[i]? = some (.oi C fs) ∧ FldOk K C f ∧ fs.length < 1000 ∧ P (sl.set i (.oi C (putD f d fs)))
theorem dg_fld (i : Nat) {x f : Str} (hN : X.N[i]? = some x := by rfl) (hv : Vis X.env.scope x := by first | exact Or.inl rfl | exact Or.inr (Or.inl rfl) | exact Or.inr (Or.inr rfl))
    (hd : (x == ("__debug__" : Str)) = false := by decide) (hcd : (x == ("__classdict__" : Str)) = false := by decide) : PDG X F V (.Attribute (.Name x p) f pos) (gFs X.K i f) := PG_imp (pg_fld (pe_var hN hv hd hcd)) fun v σ H Q ⟨d, sl, S, P, R, r, ⟨C, fs, h, ok, hl, pp⟩, k⟩ => by
  obtain ⟨q, dx, vs, e2, n2, b2, q2, r2⟩ := R.at_ i _ h
  exact ⟨_, e2, q, C, dx, vs, rfl, q2, ok.c, ok.n, by rw [r2.length]; exact hl, k _ σ S _ pp (R.mutI h e2 (Gr.mutM R.sh n2 q2) upd_same (r2.put r)) (Ex.refl _) (Off.refl σ)⟩
end

/-! ### super().__init__(..) -/
open PySem.W in
/-- what the text must have -/
structure SupK (P : Program) (K : PySem.W.Frag) (cc cda Dc C g : Addr) : Prop where
  cell : ∃ cl cld csl, K.lookup cc = some ⟨cl, cld, .cell (some (.ref Dc)), csl⟩
  dcl : ∃ cd, clsIn K Dc = some cd
  ccl : ∃ cd, clsIn K C = some cd
  code : ∃ ccl cdd vs ccs file tf, K.lookup cda = some ⟨ccl, cdd, .fields vs, ccs⟩ ∧ vs[2]? = some (.str file tf) ∧ ((P.main.file : Str) == file) = true
  sub : mroIn K C (.ref Dc) = some true
  sup : ks_superIn K C Dc "__init__" = some (some (.ref g))
  tg : typeIn K (.ref g) = some (.type "function")
  fg : fnIn K g = true
  any : nsIn K cStatics "thirdparty.any" = some none
  top : (P.main.scope.names.lookup ("super" : Str)).isSome = false
/-- a def whose first statement is super().__init__(..) -/
structure FunS (K : PySem.W.Frag) (x qual : Str) (st : Stmt) (f cc cda : Addr) (fd : FuncData) : Prop where
  ex : ∃ (oc : Value) (od : Option Addr) (kV doc pm : Value) (an : Option Addr) (ct : Value) (osl : Array (Option Value)),
    fd = PySem.W.ksFn x qual (defArgs st) (defBody st) (defScope st) .none kV doc pm an (.ref cda) ct cc ∧ K.lookup f = some ⟨oc, od, .func fd, osl⟩ ∧ PySem.W.codeIn K (.ref cda) qual = true
  kp : PySem.W.keepIn K (.ref f) = true
abbrev nfS (x qual : Str) (st : Stmt) (cc cda : Addr) : NF := ⟨x, qual, defArgs st, defBody st, defScope st, [("__class__", cc)], cda⟩
theorem PA_nox {X : Cx} {es : List Expr} {t : TA} (h : PA X.nox es t) : PA X es t := ⟨fun pos pins s σ H Q I hw =>
  wpAny_mono (h.run pos pins s σ H Q (I.wish _) hw) (fun _ _ ⟨v, H', I', r, q⟩ => ⟨v, H', I'.unwish, r, q⟩) fun _ _ z => False.elim z⟩
section
variable {P : Program} {w : World} {K : PySem.W.Frag} {mg : Str → Option Value} {base : Heap} {x qual : Str} {st : Stmt} {f cc cda Dc C g : Addr} {fd : FuncData} {N ps : List Str} {k j : Nat} {sp spg : Sp}
open PySem.W in
/-- THE RULE for a def that begins with super().__init__(..) -/
theorem ok_super {p1 : Str} {ar : Arg} {q0 q1 apos pos pos' : Pos} {es : List Expr} {rest : List Stmt} (hF : FunS K x qual st f cc cda fd) (S : NScope N ps ["__class__"] (defScope st)) (Z : SupK P K cc cda Dc C g)
    (hps : ps.head? = some p1) (har : ((defArgs st).posonlyargs ++ (defArgs st).args).head? = some ar) (hap : ar.arg = p1)
    (hst : defBody st = .Expr (.Call (.Attribute (.Call (.Name "super" q0) [] [] q1) "__init__" apos) es [] pos) pos' :: rest)
    (hsn : (defScope st).names.lookup ("super" : Str) = some .globalImplicit) (hms : mg "super" = none) (hj : j ≤ k)
    (hpl : ∀ env, (backTo pos (starEach es env)).any (·.1) = false) (hse : ∀ env, ∃ c r, backTo pos (starEach es env) = (false, c) :: r)
    (hev : ∀ env, ∃ pl, eval (.Call (.Attribute (.Call (.Name "super" q0) [] [] q1) "__init__" apos) es [] pos) env = (do
      let ov ← attributeBase (.Call (.Name "super" q0) [] [] q1) "__init__" env (eval (.Call (.Name "super" q0) [] [] q1) env)
      standAt apos.atName
      let (f, first) ← holding [ov] (getMethod ov "__init__" pl)
      callWith pos f first (backTo pos (starEach es env)) []))
    (hsw : ∀ env, swapsWith (.Call (.Attribute (.Call (.Name "super" q0) [] [] q1) "__init__" apos) es [] pos) none pos'.line env = pure false)
    (G : FnR P w K mg base CX0 j g spg) (len : ∀ vs H Q E, sp vs H Q E → vs.length = ps.length)
    (hbody : ∀ (A : Around) (outer : List Env) (s : Shared) (H : Hp) (vs : List V) (Q : VK) (E : XK), Room k (A.deeper (envF (nfS x qual st cc cda) f s.heap.objs.size)) → sp vs H Q E →
      ∃ a dx fs t ts, vs.head? = some (.ref a) ∧ H a = some (.ins C dx fs) ∧ PA (ncx CX0 P w K mg base N (nfS x qual st cc cda) f A outer s H E).nox es t ∧ PSs (ncx CX0 P w K mg base N (nfS x qual st cc cda) f A outer s H E).nox rest ts ∧
        ∀ q, H q = none → t (startF N vs [none]) (upd H q (.met g a)) fun us H1 => H1 q = some (.met g a) ∧ spg (.ref a :: us) H1 (fun v H2 => ts { nx := fun _ H' => Q .non H', rt := Q } (startF N vs [none]) H2) E0) :
    FnOk P w K mg base CX0 (k + 1) f fd ps sp := by
  refine ⟨len, fun A outer s H args us vs Q E hr e0 hb r hsp => ?_⟩
  obtain ⟨oc, od, kV, doc, pm, an, ct, osl, rfl, lk, hcd⟩ := hF.ex
  obtain ⟨cl, cld, csl, hcell⟩ := Z.cell
  obtain ⟨ccl, cdd, vsc, ccs, file, tf, hcode, hvs, hfile⟩ := Z.code
  obtain ⟨cdD, hD⟩ := Z.dcl
  obtain ⟨cdC, hC⟩ := Z.ccl
  have hl := len _ _ _ _ hsp
  have KX : K.In s.heap := e0.mod.kin.keeps fun b o e => (e0.bs b o e).1
  have lim : s.heap.NoLimit := e0.mod.nolimit.keeps fun b o e => (e0.bs b o e).1
  have hloc : ∀ y ∈ ps.zip us, (defScope st).names.lookup y.1 = some .local := fun ⟨n, _⟩ hy => S.par n (List.of_mem_zip hy).1
  refine ks_codeAny_call_defAt (body := defBody st) hr.depth (KX _ _ lk) rfl lim (codeRec_of KX hcd) rfl hb S.nocell hloc (fun h₁ hns kp => ?_) S.co S.gen S.kind
  have hbc : base.get? cc = some ⟨cl, cld, .cell (some (.ref Dc)), csl⟩ := e0.mod.kin _ _ hcell
  have CA : CellsAt (nfS x qual st cc cda).cl ["__class__"] [none] s.heap H := by
    refine ⟨rfl, fun y c hy => ?_, fun a b c ha hb => ?_, fun i y hi => ?_⟩
    · have hc : c = cc := by
        have : List.lookup y [(("__class__" : Str), cc)] = some c := hy
        simp only [List.lookup] at this
        split at this <;> simp_all
      subst hc
      exact ⟨(e0.bs _ _ hbc).2, some (.ref Dc), _, (e0.bs _ _ hbc).1, rfl⟩
    · have h1 : List.lookup a [(("__class__" : Str), cc)] = some c := ha
      have h2 : List.lookup b [(("__class__" : Str), cc)] = some c := hb
      simp only [List.lookup] at h1 h2
      split at h1 <;> split at h2 <;> simp_all
    · cases i with
      | succ i => simp at hi
      | zero =>
        have : y = "__class__" := by simpa using hi.symm
        subst this
        exact ⟨cc, rfl, fun v hv => by simp at hv⟩
  obtain ⟨a, dx, fs, t, ts, hv0, ha, hpa, hps', hq⟩ := hbody A outer s H vs Q E (hr.deeper _) hsp
  have I0 : Inv (ncx CX0 P w K mg base N (nfS x qual st cc cda) f A outer s H E) [] (startF N vs [none]) H { s with heap := h₁, toks := s.toks + (ps.zip us).length } := inv_startN S hr.hd e0 hl r CA hns kp
  have hself : (fun y => (ps.zip us).reverse.lookup y) p1 = some (.ref a) := by
    have nd : ps.Nodup := by
      have q := S.nd.sublist (List.take_sublist (ps.length + 1) N)
      have e : N.take (ps.length + 1) = ps ++ [("__class__" : Str)] := S.pre
      rw [e] at q
      exact (List.nodup_append.mp q).1
    have hp0 : ps[0]? = some p1 := by rw [← hps, List.head?_eq_getElem?]
    have hv1 : vs[0]? = some (.ref a) := by rw [← hv0, List.head?_eq_getElem?]
    obtain ⟨u, hu, ru⟩ := r.get hv1
    obtain rfl : u = Value.ref a := ru
    exact zip_look nd hp0 hu
  have e2 : execs (defBody st) (envF (nfS x qual st cc cda) f s.heap.objs.size) = execs (.Expr (.Call (.Attribute (.Call (.Name "super" q0) [] [] q1) "__init__" apos) es [] pos) pos' :: rest) (envF (nfS x qual st cc cda) f s.heap.objs.size) := by rw [hst]
  show PySem.wpAt (model P w) (A.deeper (envF (nfS x qual st cc cda) f s.heap.objs.size)) (.func (defBody st) (envF (nfS x qual st cc cda) f s.heap.objs.size)) (execs (defBody st) (envF (nfS x qual st cc cda) f s.heap.objs.size)) _ _ _
  rw [e2]
  have hkn : (defScope st).kind = .function := S.kind
  have hkc : (envF (nfS x qual st cc cda) f s.heap.objs.size).kindOf "__class__" = some .free := S.frk "__class__" (by simp)
  have hka : (envF (nfS x qual st cc cda) f s.heap.objs.size).kindOf p1 = some .local := S.par p1 (by
    cases ps with
    | nil => cases hps
    | cons p ps => cases hps; simp)
  have K1 : K.In h₁ := KX.keeps kp
  obtain ⟨oD, hD1, hD2⟩ : ∃ oD, h₁.get? Dc = some oD ∧ oD.data = .cls cdD := by
    unfold clsIn at hD
    split at hD
    · rename_i c d cd' sl ho
      cases hD
      exact ⟨_, K1 _ _ ho, rfl⟩
    · cases hD
  obtain ⟨mA, O, _, _, _, _⟩ := ins_get I0.hok ha
  obtain ⟨odx, IA, _⟩ := O.look
  obtain ⟨mb, hb1, hb2⟩ := I0.mod.blt
  obtain ⟨pl, hev'⟩ := hev (envF (nfS x qual st cc cda) f s.heap.objs.size)
  refine ks_wpAt_execs_cons (ks_wpAt_Expr_any (ks_wpAt_MethodCall (pl := pl) ?_ hev') ?_ (hsw _))
  · refine ks_wpAt_super_base (env := envF (nfS x qual st cc cda) f s.heap.objs.size) hsn hkc (by decide) rfl (K1 _ _ lk) rfl har rfl (K1 _ _ hcode) rfl hvs hfile Z.top ?_
    refine ks_loadName_global hkn hsn (Calls.loadGlobal_builtin (env := envF (nfS x qual st cc cda) f s.heap.objs.size) (I0.mod.glob.keeps I0.bk) hms (hb1.keeps I0.bk) ((hb2 _ (by decide)).trans (by decide +kernel)) ⟨rfl, ?_⟩)
    refine wpAny_loadName_free hkn hkc rfl ⟨_, K1 _ _ hcell, rfl⟩ ?_
    rw [hap]
    refine wpAny_loadName_local hkn hka hns hself ?_
    refine ks_wpAny_isType_cls hD1 hD2 ⟨rfl, ?_⟩
    refine ks_wpAny_call_super hD1 hD2 IA.at_ IA.cls (fun c e => ?_) (looks_mroIn K1 Z.sub) (fun h' e kp2 => ?_)
    · have := IA.no
      unfold notCls at this
      rw [e] at this
      exact Bool.noConfusion this
    · have up : ∀ b o, h₁.get? b = some o → h'.get? b = some o := kp2
      have I1 := I0.kept (h' := h') (t' := s.toks + (ps.zip us).length) up
      have K2 : K.In h' := K1.keeps up
      obtain ⟨of, hof, hofc⟩ : ∃ of, h'.get? g = some of ∧ of.cls = .type "function" := by
        have ht' : (K.lookup g).map (·.cls) = some (.type "function") := Z.tg
        cases z : K.lookup g with
        | none => rw [z] at ht'; cases ht'
        | some of => rw [z] at ht'; exact ⟨of, K2 _ _ z, Option.some.inj ht'⟩
      have hsup := Z.sup
      unfold ks_superIn at hsup
      rw [hC, Option.bind_some] at hsup
      obtain ⟨mA2, O2, _, _, _, _⟩ := ins_get I1.hok ha
      obtain ⟨odx2, IA2, _⟩ := O2.look
      refine ks_wpAny_getMethod_super e (looks_opaque K2 Z.any) (l₀ := cdC.mro) ?_ rfl K2 hsup hof hofc (ks_ne K2 IA2 hC) (by decide) ?_
      · exact fun A Q E s k q => wpAny_bind ((looks_clsIn K2 hC) A _ E s k (wpAny_pure q))
      have hfree : H h'.objs.size = none := I1.hok.fresh (Nat.le_refl _)
      have I2 := I1.laid (t' := s.toks + (ps.zip us).length + 1) (a := h'.objs.size) (o := .met g a) (fun b u z => Heap.get?_push_of_some _ z) (Nat.le_refl _)
        (show (h'.push (methodObj (.ref g) (.ref a))).get? h'.objs.size = some (methodObj (.ref g) (.ref a)) from Heap.get?_push_size h' rfl)
      obtain ⟨c1, r1, hse'⟩ := hse (envF (nfS x qual st cc cda) f s.heap.objs.size)
      have hpl' := hpl (envF (nfS x qual st cc cda) f s.heap.objs.size)
      have ev : wpAny (model P w) (A.deeper (envF (nfS x qual st cc cda) f s.heap.objs.size)) (spliced (backTo pos (starEach es (envF (nfS x qual st cc cda) f s.heap.objs.size)))) _ _ _ := (PA_nox hpa).run pos [] _ _ _ _ I2 (hq _ hfree)
      show wpAny (model P w) (A.deeper (envF (nfS x qual st cc cda) f s.heap.objs.size)) (callWith pos (.ref h'.objs.size) [] (backTo pos (starEach es (envF (nfS x qual st cc cda) f s.heap.objs.size))) []) _ _ _
      rw [hse'] at hpl' ev ⊢
      refine callWith_of (P := MethP K h'.objs.size g (.ref a)) (by rw [hpl']; rfl) (keeps_M Z.fg) (Calls.evalArgs_plain (thn ev fun us2 s2 ⟨ys, H2, I3, rv, hm, hg⟩ => ?_))
      refine ⟨met_P I3 hm, wpAny_call (method_call (met_P I3 hm).1 (codeAny_mono (run_fnR (us := .ref a :: us2) (vs := .ref a :: ys) G (Room.mono (hr.deeper _) hj) pass0 I3 (.cons rfl rv) hg) fun r s3 hr3 => ?_))⟩
      cases r with
      | error e => exact hr3
      | ok fl =>
        cases fl with
        | next => exact hr3
        | brk => exact hr3
        | cont => exact hr3
        | ret u =>
          obtain ⟨v, H3, I4, rv4, q4⟩ := hr3
          refine wpAt_of_wpAny (wpAny_mono (hps'.nox.run [] s3 _ H3 _ I4 q4) (fun fl s' hs => ?_) fun e s' hs => hs)
          have fin : ∀ {σ' : L2.St} {H' : Hp} {v : V} {u : Value}, L2.Inv (ncx CX0 P w K mg base N (nfS x qual st cc cda) f A outer s H E) [] σ' H' s' → L2.RelV v u → Q v H' → CE outer P w H s Q u s' :=
            fun {σ' H' v u} J rv q => ⟨v, H', J.os, J.bare, J.base, J.hok, rv, q⟩
          cases fl with
          | ret u =>
            obtain ⟨v, σ', H', J, rv, q⟩ := hs
            exact fin J rv q
          | next =>
            obtain ⟨σ', H', J, q⟩ := hs
            exact fin (v := V.non) (u := Value.none) J rfl q
          | brk =>
            obtain ⟨_, _, _, q⟩ := hs
            exact False.elim q
          | cont =>
            obtain ⟨_, _, _, q⟩ := hs
            exact False.elim q
  · unfold interactive
    show ((defScope st).kind == .module && _) = false
    rw [S.kind]
    rfl

/-- an argument list of the super call, over data -/
abbrev DIS := List Sl → ((List (Str × D)) → List Sl → Prop) → Prop
/-- super().__init__(args) at an instance in slot 0, then the rest -/
def dSup (C : Addr) (spg : SI) (r : DA) (u : DS) : DS := fun N sl => r sl fun xs sl1 => ∃ c, sl1[0]? = some (.oi C c) ∧ spg c xs fun c' => u N (sl1.set 0 (.oi C c'))
theorem startF_eq {N : List Str} {vs : List V} (h : vs.length < N.length) : startF N vs [none] = L2.start N vs := by
  unfold startF L2.start
  rw [show N.length - vs.length = (N.length - vs.length - 1) + 1 by omega, List.replicate_succ]
  rfl
/-- .. over data -/
theorem okSup {p1 : Str} {ar : Arg} {q0 q1 apos pos pos' : Pos} {es : List Expr} {rest : List Stmt} {sp sg : SI} {da : DA} {dt : DS} (hF : FunS K x qual st f cc cda fd) (S : NScope N ps ["__class__"] (defScope st)) (Z : SupK P K cc cda Dc C g)
    (G : FnR P w K mg base CX0 j g (SpI K C sg)) (hj : j ≤ k) (hms : mg "super" = none)
    (hst : defBody st = .Expr (.Call (.Attribute (.Call (.Name "super" q0) [] [] q1) "__init__" apos) es [] pos) pos' :: rest)
    (hps : ps.head? = some p1) (har : ((defArgs st).posonlyargs ++ (defArgs st).args).head? = some ar) (hap : ar.arg = p1)
    (hsn : (defScope st).names.lookup ("super" : Str) = some .globalImplicit)
    (hpl : ∀ env, (backTo pos (starEach es env)).any (·.1) = false) (hse : ∀ env, ∃ c r, backTo pos (starEach es env) = (false, c) :: r)
    (hev : ∀ env, ∃ pl, eval (.Call (.Attribute (.Call (.Name "super" q0) [] [] q1) "__init__" apos) es [] pos) env = (do
      let ov ← attributeBase (.Call (.Name "super" q0) [] [] q1) "__init__" env (eval (.Call (.Name "super" q0) [] [] q1) env)
      standAt apos.atName
      let (f, first) ← holding [ov] (getMethod ov "__init__" pl)
      callWith pos f first (backTo pos (starEach es env)) []))
    (hsw : ∀ env, swapsWith (.Call (.Attribute (.Call (.Name "super" q0) [] [] q1) "__init__" apos) es [] pos) none pos'.line env = pure false)
    (len : ∀ c ds P, sp c ds P → ds.length + 1 = ps.length) (hN : ps.length < N.length)
    (hb : ∀ (A : Around) (outer : List Env) (s : Shared) (H : Hp) (E : XK) (F : Fm), Room k (A.deeper (envF (nfS x qual st cc cda) f s.heap.objs.size)) →
      PDA (ncx CX0 P w K mg base N (nfS x qual st cc cda) f A outer s H E).nox F es da ∧ PDSs (ncx CX0 P w K mg base N (nfS x qual st cc cda) f A outer s H E).nox F rest dt)
    (hd : ∀ c ds Q, sp c ds Q → dSup C sg da dt { nx := fun sl => ∃ c', sl[0]? = some (.oi C c') ∧ Q c', rt := fun d sl => d = .non ∧ ∃ c', sl[0]? = some (.oi C c') ∧ Q c' } (startI N C c ds)) :
    FnOk P w K mg base CX0 (k + 1) f fd ps (SpI K C sp) := by
  have ln : ∀ vs H Q E, SpI K C sp vs H Q E → vs.length = ps.length := fun vs H Q E ⟨S, p, dx, xs, vs', c, ds, P, ev, e, n, q, rc, r, h, _⟩ => by rw [ev, List.length_cons, r.length]; exact len c ds P h
  refine ok_super hF S Z hps har hap hst hsn hms hj hpl hse hev hsw G ln fun A outer s H vs Q E hr hsp => ?_
  have hlen := ln _ _ _ _ hsp
  obtain ⟨S0, p, dx, xs, vs', c, ds, P', ev, e, n, q, rc, r, h, kk⟩ := hsp
  subst ev
  obtain ⟨h1, h2⟩ := hb A outer s H E (frM p S0 H) hr
  refine ⟨p, dx, xs, _, _, rfl, q, h1, h2, fun m hm => ?_⟩
  have R0 := startI_ok (N := N) e n q rc r
  rw [startF_eq (by omega)]
  have nS : S0 m = none := e.free hm
  have g0 : Gr S0 H (upd S0 m (.met g p)) (upd H m (.met g p)) := Gr.new e hm
  refine ⟨_, _, _, R0.grow g0, hd c ds P' h, fun us ys sl1 S1 H1 ⟨c1, hc1, hsg⟩ R1 e1 r1 => ?_⟩
  refine ⟨R1.sh _ _ (e1 _ _ upd_same), ?_⟩
  obtain ⟨p2, dx2, xs2, ep, n2, b2, q2, r2⟩ := R1.at_ 0 _ hc1
  have hp0 : (L2.start N (.ref p :: vs'))[0]? = some (some (.ref p)) := by
    rw [start_cons]
    rfl
  rw [hp0] at ep
  cases ep
  refine ⟨S1, p, dx2, xs2, us, c1, ys, _, rfl, R1.sh, n2, q2, r2, r1, hsg, fun fs' gs' dx' S' H' pp gm hq hr' => ?_⟩
  have R2 := R1.mutI hc1 hp0 gm hq hr'
  refine ⟨_, S', _, R2, pp, ⟨fun sl σ S'' H'' ⟨c', h0, p'⟩ R e' => ?_, fun v d sl σ S'' H'' ⟨hd', c', h0, p'⟩ R e' rv => ?_, fun _ _ _ _ z => z.elim, fun _ _ _ _ z => z.elim, fun _ _ _ _ _ _ _ z => z.elim⟩⟩
  · obtain ⟨_, dx3, vs3, q3, r3⟩ := frM_oi R h0
    exact kk c' vs3 dx3 S'' H'' p' (frM_end R) q3 r3
  · obtain ⟨_, dx3, vs3, q3, r3⟩ := frM_oi R h0
    subst hd'
    cases rv
    exact kk c' vs3 dx3 S'' H'' p' (frM_end R) q3 r3
/-- an __init__ with a star parameter: (self, ps .., *pv) -/
theorem okStarI {pv p0 : Str} {sp : SI} {dt : DS} {oc kV doc pm cdv ct : Value} {od an : Option Addr} {osl : Array (Option Value)} (lk : K.lookup f = some ⟨oc, od, .func (PySem.W.fnOf x qual (defArgs st) (defBody st) (defScope st) .none kV doc pm an cdv ct), osl⟩) (hcd : PySem.W.codeIn K cdv qual = true)
    (Sc : FnScope N (p0 :: ps ++ [pv]) (defScope st))
    (hb0 : ∀ us rest : List Value, us.length = (p0 :: ps).length → bindArgs (PySem.W.fnOf x qual (defArgs st) (defBody st) (defScope st) .none kV doc pm an cdv ct) ⟨us ++ rest, []⟩ = (newTuple rest >>= fun t => pure ((p0 :: ps).zip us ++ [(pv, t)])))
    (len : ∀ c ds P, sp c ds P → ps.length ≤ ds.length ∧ ds.length ≤ sizeLine)
    (hb : ∀ (A : Around) (outer : List Env) (s : Shared) (H : Hp) (E : XK) (F : Fm), Room k (A.deeper (envOfC qual (defScope st) s.heap.objs.size f cdv)) → PDSs (cxOf CX0 P w K mg base N qual (defScope st) f cdv A outer s H E).nox F (defBody st) dt)
    (hd : ∀ c ds Q, sp c ds Q → dt { nx := fun sl => ∃ c', sl[0]? = some (.oi C c') ∧ Q c', rt := fun d sl => d = .non ∧ ∃ c', sl[0]? = some (.oi C c') ∧ Q c' } (startI N C c (ds.take ps.length ++ [.tup (ds.drop ps.length)]))) :
    FnR P w K mg base CX0 (k + 1) f (SpI K C sp) := by
  refine FnR.imp (fn_star (sp := fun vs H Q E => ∃ S p dx gs vs' fs ds P, vs = .ref p :: vs' ∧ Ex S H ∧ S p = none ∧ H p = some (.ins C dx gs) ∧ RepF K S gs fs ∧ Reps K S vs' (ds.take ps.length ++ [.tup (ds.drop ps.length)]) ∧ sp fs ds P ∧
      ∀ fs' gs' dx' S' H', P fs' → GrM p S H S' H' → H' p = some (.ins C dx' gs') → RepF K S' gs' fs' → Q .non H') lk hcd Sc cxUp_none hb0 fun A outer s H vs Q E hr ⟨S, p, dx, gs, vs', fs, ds, P', ev, e, n, q, rc, r, h, kk⟩ => ?_) fun vs H Q E ⟨S, p, dx, gs, vs', fs, ds, P', ev, e, n, q, rc, r, h, kk⟩ => ?_
  · subst ev
    refine ⟨_, (hb A outer s H E (frM p S H) hr).nox, startI N C fs _, S, _, startI_ok e n q rc r, hd fs ds P' h, ⟨fun sl σ S' H' ⟨c', h0, p'⟩ R e' => ?_, fun v d sl σ S' H' ⟨hd', c', h0, p'⟩ R e' rv => ?_, fun _ _ _ _ z => z.elim, fun _ _ _ _ z => z.elim, fun _ _ _ _ _ _ _ z => z.elim⟩⟩
    · obtain ⟨_, dx2, vs2, q2, r2⟩ := frM_oi R h0
      exact kk c' vs2 dx2 S' H' p' (frM_end R) q2 r2
    · obtain ⟨_, dx2, vs2, q2, r2⟩ := frM_oi R h0
      subst hd'
      cases rv
      exact kk c' vs2 dx2 S' H' p' (frM_end R) q2 r2
  · obtain ⟨l1, l2⟩ := len _ _ _ h
    subst ev
    refine ⟨.ref p :: vs'.take ps.length, vs'.drop ps.length, by simp, by simp [r.length]; omega, by rw [List.length_drop, r.length]; omega, fun t ht => ?_⟩
    have g : Gr S H (upd S t (.tup (vs'.drop ps.length))) (upd H t (.tup (vs'.drop ps.length))) := Gr.new e ht
    have hpt : p ≠ t := fun z => by subst z; rw [q] at ht; cases ht
    refine ⟨_, p, dx, gs, vs'.take ps.length ++ [V.ref t], fs, ds, P', rfl, g.sh, by rw [upd_ne hpt]; exact n, by rw [upd_ne hpt]; exact q, rc.mono g.s, ((r.mono g.s).take _).append (.cons (.tup (SqT.of upd_same) ((r.mono g.s).drop _)) .nil), h, fun fs' gs' dx' S' H' pp gm hq hr => ?_⟩
    refine kk fs' gs' dx' S' H' pp ⟨g.s.trans gm.s, gm.sh, fun a o ha z => gm.h a o ha (g.h a o z), fun a ha => ?_⟩ hq hr
    rcases gm.nw a ha with z | z
    · exact g.nw a z
    · exact .inr (g.h.free z)
end
end DL
end
section
set_option maxRecDepth 100000
set_option maxHeartbeats 2000000
/-! D14: isinstance, repr, is, in, list methods, stores to places, products of tuples. -/
namespace DL
open PySem PySem.Spec PyProof.Rows L2 RZ StX

/-! ### isinstance -/
/-- the type of data, as a value -/
def D.ty' : D → Value
  | .non => .type "NoneType"
  | .bl _ => .type "bool"
  | .int _ => .type "int"
  | .str _ => .type "str"
  | .tup _ => .type "tuple"
  | .lst _ => .type "list"
  | .ins C _ => .ref C
  | .scr _ => .type "list"
  | .ty _ => .type "type"
  | .cls _ => .type "type"
/-- a class as a value -/
def D.cv : D → Option Value
  | .ty n => some (.type n)
  | .cls C => some (.ref C)
  | _ => none
def D.cvs : List D → Option (List Value)
  | [] => some []
  | d :: ds => (D.cv d).bind fun v => (D.cvs ds).map fun vs => v :: vs
/-- what isinstance asks of the class of an instance -/
structure InsT (K : PySem.W.Frag) (C : Addr) : Prop where
  cl : Cls K C
  ha : PySem.W.findIn K (.ref C) "__class__" = some (some (.builtin "object.__class__"))
  hn : PySem.W.specialIn K (.builtin "object.__class__") "__get__" = some (some (.builtin "getset_descriptor.__get__"))
  htk : PySem.W.takesIn K (.builtin "object.__class__") = some true
  hm : PySem.W.mroIn K C (.type "object") = some true
def TyOk (K : PySem.W.Frag) : D → Prop
  | .ins C _ => InsT K C
  | .ty _ => False
  | .cls _ => False
  | _ => True
theorem sqL_tyx {K : PySem.W.Frag} {H : Hp} {a : Addr} {xs : List V} (h : SqL K H a xs) : TyX K H (.ref a) (.type "list") := by
  rcases h with (h | ⟨o, h⟩) | ⟨o, its, n, lk, c, _⟩
  · exact .base (.lst h)
  · exact .base (.frz h)
  · exact .kList lk c
theorem sqT_tyx {K : PySem.W.Frag} {H : Hp} {a : Addr} {xs : List V} (h : SqT K H a xs) : TyX K H (.ref a) (.type "tuple") := by
  rcases h with (h | ⟨o, h⟩) | ⟨o, its, n, lk, c, _⟩
  · exact .base (.tup h)
  · exact .fTuple h
  · exact .kTuple lk c
theorem Rep.tyx {K : PySem.W.Frag} {S H : Hp} {v : L2.V} {d : D} (ex : Ex S H) (r : Rep K S v d) (ok : TyOk K d) : TyX K H v d.ty' := by
  cases r with
  | non => exact .base .non
  | bl b => exact .base (.bl b)
  | int i => exact .base (.int i)
  | str s => exact .base (.str s)
  | lst h r => exact .base (.lst (ex _ _ h))
  | tup h r => exact sqT_tyx (ex.sqT h)
  | ins h r => exact .base (.ins (ex _ _ h) ok.cl ok.ha ok.hn ok.htk ok.hm)
  | scr h => exact sqL_tyx (ex.sqL h)
  | ty n => exact ok.elim
  | cls C => exact ok.elim
theorem Rep.cv {K : PySem.W.Frag} {S : Hp} {v : L2.V} {d : D} {c : Value} (r : Rep K S v d) (h : d.cv = some c) : ClsV v c := by
  cases r with
  | ty n => cases h; exact .ty n
  | cls C => cases h; exact .own C
  | _ => cases h
theorem Reps.cvs {K : PySem.W.Frag} {S : Hp} : ∀ {vs : List L2.V} {ds : List D} {cs : List Value}, Reps K S vs ds → D.cvs ds = some cs → Paired ClsV vs cs
  | _, _, _, .nil, h => by cases h; exact .nil
  | _, _, cs, .cons (d := d) (ds := ds) a b, h => by
    unfold D.cvs at h
    cases h1 : d.cv with
    | none => rw [h1] at h; cases h
    | some c =>
      rw [h1] at h
      cases h2 : D.cvs ds with
      | none => rw [h2] at h; cases h
      | some cs' =>
        rw [h2] at h
        cases h
        exact .cons (a.cv h1) (Reps.cvs b h2)
section
variable {X : Cx} {F : Fm} {a b c e o : Expr} {es rest : List Expr} {pos p p2 apos pos' : Pos} {da db dc de : DE} {dA : DA} {ta tb : DT} {V : Nat → Prop} {K : PySem.W.Frag}
/-- a built-in type's name -/
theorem de_bltn {x : Str} {n : String} (hg : Gl X x) (hm : X.mg x = none) (hv : bootBuiltins x = some (.type n)) (hn : x ≠ "__name__" := by decide) (hd : (x == ("__debug__" : Str)) = false := by decide) : PDE X F (.Name x pos) (dC (.ty n)) :=
  de_const (pe_bltn hg hm hv (show RelV (.ty n) (.type n) from rfl) hn hd) fun _ => .ty n
/-- isinstance(e, c) -/
def rdIsi (K : PySem.W.Frag) : RDC := fun xs P => match xs with
  | [d, c] => TyOk K d ∧ ∃ u, c.cv = some u ∧ ∃ b, PySem.W.kitOne K d.ty' u = some b ∧ P (.bl b)
  | _ => False
theorem lr_isi : LRC K (rIsi K) (rdIsi K) := lr2 (rd := fun d c P => TyOk K d ∧ ∃ u, c.cv = some u ∧ ∃ b, PySem.W.kitOne K d.ty' u = some b ∧ P (.bl b)) fun v w d c S H P Q ex r r' ⟨ok, u, hu, b, hb, p⟩ k => ⟨v, w, d.ty', u, b, rfl, r'.cv hu, r.tyx ex ok, hb, k _ _ S H p (Gr.refl ex) (.bl _)⟩
theorem de_isi (hg : Gl X "isinstance") (hm : X.mg "isinstance" = none) (ha : PDE X F a da) (hb : PDE X F b db) (he : starEach [a, b] X.env = (false, eval a X.env) :: starEach [b] X.env := by rfl) (he2 : starEach [b] X.env = (false, eval b X.env) :: starEach [] X.env := by rfl) (hpl : (backTo pos (starEach [b] X.env)).any (·.1) = false := by rfl) :
    PDE X F (.Call (.Name "isinstance" p) [a, b] [] pos) (dCB (rdIsi X.K) (dCons da (dCons db dNil))) :=
  de_callB call_isi lr_isi hg hm (by decide +kernel) (da_cons ha (da_cons hb da_nil he2) he) (by decide) (by decide) he hpl
/-- isinstance(e, (c1, ..)) -/
def dIsiT (K : PySem.W.Frag) (d : DE) (r : DA) : DE := fun sl P => d sl fun x sl1 => r sl1 fun cs sl2 => cs.length ≤ sizeLine ∧ TyOk K x ∧ ∃ us, D.cvs cs = some us ∧ ∃ b, PySem.W.kitAny K x.ty' us = some b ∧ P (.bl b) sl2
theorem de_isiT {x1} (hg : Gl X "isinstance") (hm : X.mg "isinstance" = none) (ha : PDE X F a da) (hr : PDA X F es dA) (he : starEach [a, .Tuple es x1 p2] X.env = (false, eval a X.env) :: starEach [.Tuple es x1 p2] X.env := by rfl) (he2 : starEach [.Tuple es x1 p2] X.env = (false, eval (.Tuple es x1 p2) X.env) :: starEach [] X.env := by rfl)
    (hpl : (backTo pos (starEach [.Tuple es x1 p2] X.env)).any (·.1) = false := by rfl) : PDE X F (.Call (.Name "isinstance" p) [a, .Tuple es x1 p2] [] pos) (dIsiT X.K da dA) :=
  PE_imp (pe_callB call_isiT hg hm (by decide +kernel) (pa_cons ha (pa_cons (pe_tup hr) pa_nil he2) he) (by decide) (by decide) he hpl) fun σ H Q ⟨sl, S, P, R, pp, k⟩ => ⟨sl, S, _, R, pp, fun v d sl1 S1 H1 p1 R1 e1 r1 => ⟨sl1, S1, _, R1, p1, fun vs ds sl2 S2 H2 ⟨hl, ok, us, hus, bb, hb, p2⟩ R2 e2 r2 => ⟨by rw [r2.length]; exact hl, fun q hq => by
    have g : Gr S2 H2 (upd S2 q (.tup vs)) (upd H2 q (.tup vs)) := Gr.new R2.sh hq
    exact ⟨v, q, vs, d.ty', us, bb, rfl, upd_same, r2.cvs hus, (r1.mono (e2.trans g.s)).tyx g.sh ok, hb, k _ _ sl2 _ _ p2 (R2.grow g) (e1.trans (e2.trans g.s)) (.bl _)⟩⟩⟩⟩

/-! ### is, repr, bool -/
def rdIsB (neg : Bool) : RD2 := fun a b P => match a, b with
  | .bl i, .bl j => P (.bl (if neg then !decide (i = j) else decide (i = j)))
  | _, _ => False
theorem lr_isB : LR2 K (fun x y H Q => ∃ a b, x = .bl a ∧ y = .bl b ∧ Q (.bl (decide (a = b))) H) (rdIsB false) := fun x y a b S H P Q e ra rb p k => by
  cases ra <;> first | exact p.elim | skip
  cases rb <;> first | exact p.elim | skip
  exact ⟨_, _, rfl, rfl, k _ _ S H p (Gr.refl e) (.bl _)⟩
theorem lr_isnotB : LR2 K (fun x y H Q => ∃ a b, x = .bl a ∧ y = .bl b ∧ Q (.bl (!decide (a = b))) H) (rdIsB true) := fun x y a b S H P Q e ra rb p k => by
  cases ra <;> first | exact p.elim | skip
  cases rb <;> first | exact p.elim | skip
  exact ⟨_, _, rfl, rfl, k _ _ S H p (Gr.refl e) (.bl _)⟩
/-- repr of a flat value -/
theorem call_reprF : CallR X (.builtin "repr") (fun xs H Q => (∃ b, xs = [.bl b] ∧ Q (.str (if b then "True" else "False")) H) ∨ (xs = [.non] ∧ Q (.str "None") H) ∨ ∃ i, xs = [.int i] ∧ i.natAbs.log2 < 1920 ∧ Q (.str (toString i)) H) := by
  intro pins s σ H xs us Q I r h
  rcases h with ⟨b, rfl, q⟩ | ⟨rfl, q⟩ | ⟨i, rfl, hz, q⟩
  · obtain ⟨u, rfl, r1⟩ := vals1 r
    cases r1
    exact PySem.P.repr_of_bool ⟨.str _, H, I.tok _, ⟨_, rfl⟩, q⟩
  · obtain ⟨u, rfl, r1⟩ := vals1 r
    cases r1
    exact PySem.P.repr_of_none ⟨.str _, H, I.tok _, ⟨_, rfl⟩, q⟩
  · obtain ⟨u, rfl, t, rfl⟩ := vals1 r
    exact PySem.P.repr_of_int hz ⟨.str _, H, I.tok _, ⟨_, rfl⟩, q⟩
def rdReprF : D → (D → Prop) → Prop := fun d P => match d with
  | .bl b => P (.str (if b then "True" else "False"))
  | .non => P (.str "None")
  | .int i => i.natAbs.log2 < 1920 ∧ P (.str (toString i))
  | _ => False
theorem lr_reprF : LRC K (fun xs H Q => (∃ b, xs = [.bl b] ∧ Q (.str (if b then "True" else "False")) H) ∨ (xs = [.non] ∧ Q (.str "None") H) ∨ ∃ i, xs = [.int i] ∧ i.natAbs.log2 < 1920 ∧ Q (.str (toString i)) H) (fun xs P => match xs with | [d] => rdReprF d P | _ => False) := lr1 fun v d S H P Q e r p k => by
  cases r with
  | bl b => exact .inl ⟨b, rfl, k _ _ S H p (Gr.refl e) (.str _)⟩
  | non => exact .inr (.inl ⟨rfl, k _ _ S H p (Gr.refl e) (.str _)⟩)
  | int i => exact .inr (.inr ⟨i, rfl, p.1, k _ _ S H p.2 (Gr.refl e) (.str _)⟩)
  | _ => exact p.elim
def rdBool : D → (D → Prop) → Prop := fun d P => match d with
  | .bl b => P (.bl b)
  | .int i => P (.bl (i != 0))
  | _ => False
theorem lr_bool : LRC K (fun xs H Q => (∃ i, xs = [.int i] ∧ Q (.bl (i != 0)) H) ∨ ∃ k, xs = [.bl k] ∧ Q (.bl k) H) (fun xs P => match xs with | [d] => rdBool d P | _ => False) := lr1 fun v d S H P Q e r p k => by
  cases r with
  | bl b => exact .inr ⟨b, rfl, k _ _ S H p (Gr.refl e) (.bl _)⟩
  | int i => exact .inl ⟨i, rfl, k _ _ S H p (Gr.refl e) (.bl _)⟩
  | _ => exact p.elim

/-! ### t * k, t + u of tuples -/
def rdRepT : RD2 := fun a b P => match a, b with
  | .tup xs, .int k => xs ≠ [] ∧ 2 ≤ k ∧ k ≤ 1000 ∧ xs.length ≤ 1000 ∧ P (.tup (List.replicate k.toNat xs).flatten)
  | _, _ => False
theorem Reps.rep {K : PySem.W.Frag} {H : Hp} {vs : List L2.V} {ds : List D} (r : Reps K H vs ds) : ∀ n : Nat, Reps K H (List.replicate n vs).flatten (List.replicate n ds).flatten
  | 0 => .nil
  | n + 1 => by
    rw [List.replicate_succ, List.replicate_succ, List.flatten_cons, List.flatten_cons]
    exact r.append (Reps.rep r n)
theorem lr_repT : LR2 K (rRepT K) rdRepT := fun x y a b S H P Q e ra rb p k => by
  cases ra <;> first | exact p.elim | skip
  cases rb <;> first | exact p.elim | skip
  rename_i l vs ds h r i
  obtain ⟨h1, h2, h3, h4, h5⟩ := p
  refine ⟨l, i, vs, rfl, rfl, e.sqT h, fun z => h1 (by have := r.length; rw [z] at this; exact List.length_eq_zero_iff.mp this.symm), h2, h3, by rw [r.length]; exact h4, fun q hq => ?_⟩
  have g : Gr S H (upd S q (.tup (List.replicate i.toNat vs).flatten)) (upd H q (.tup (List.replicate i.toNat vs).flatten)) := Gr.new e hq
  exact k _ _ _ _ h5 g (.tup (SqT.of upd_same) ((r.rep _).mono g.s))
def rdCatT : RD2 := fun a b P => match a, b with
  | .tup xs, .tup ys => xs.length + ys.length ≤ sizeLine ∧ P (.tup (xs ++ ys))
  | _, _ => False
theorem lr_catT : LR2 K (rCatA K) rdCatT := fun x y a b S H P Q e ra rb p k => by
  cases ra <;> first | exact p.elim | skip
  cases rb <;> first | exact p.elim | skip
  rename_i l vs ds h r l2 vs2 ds2 h2 r2
  obtain ⟨h5, h6⟩ := p
  refine ⟨l, l2, vs, vs2, rfl, rfl, e.sqT h, e.sqT h2, by rw [r.length, r2.length]; exact h5, fun z => ?_, fun _ z => ?_, fun _ _ q hq => ?_⟩
  · subst z
    cases r
    exact k _ _ _ _ h6 (Gr.refl e) (.tup h2 r2)
  · subst z
    cases r2
    rw [List.append_nil] at h6
    exact k _ _ _ _ h6 (Gr.refl e) (.tup h r)
  · have g : Gr S H (upd S q (.tup (vs ++ vs2))) (upd H q (.tup (vs ++ vs2))) := Gr.new e hq
    exact k _ _ _ _ h6 g (.tup (SqT.of upd_same) ((r.append r2).mono g.s))
/-- xs * k, a new list -/
def dRep (a b : DE) : DA := fun sl P => a sl fun x sl1 => b sl1 fun y sl2 => match x, y with
  | .lst ds, .int k => -(2 ^ 63) ≤ k ∧ k < 2 ^ 63 ∧ ds.length * k.toNat ≤ sizeLine ∧ P (List.replicate k.toNat ds).flatten sl2
  | _, _ => False
theorem dn_rep (ha : PDE X F a da) (hb : PDE X F b db) : PDN X F (.BinOp a .Mult b pos) (dRep da db) := PE_imp (pe_op op_rep ha hb) fun σ H Q ⟨sl, S, P, R, p, k⟩ => ⟨sl, S, _, R, p, fun v d sl1 S1 H1 p1 R1 e1 r1 => ⟨sl1, S1, _, R1, p1, fun v2 d2 sl2 S2 H2 p2 R2 e2 r2 => by
  have r3 := r1.mono e2
  cases r3 <;> first | exact p2.elim | skip
  cases r2 <;> first | exact p2.elim | skip
  rename_i a vs ds h r i
  obtain ⟨h1, h2, h3, h4⟩ := p2
  exact ⟨_, _, vs, rfl, rfl, R2.sh _ _ h, h1, h2, by rw [r.length]; exact h3, fun l hl => k l _ _ sl2 S2 _ h4 (R2.grow (Gr.own R2.sh hl)) (e1.trans e2) (R2.sh.free hl) (R2.dm l hl) upd_same (r.rep _) (R2.notOwn hl)⟩⟩⟩

/-! ### sorted -/
def dSort (d : DE) : DA := fun sl P => d sl fun x sl1 => match x with
  | .lst ds => ∃ ns, intsD ds = some ns ∧ ∀ ms : List Int, ms.Perm ns → ms.Pairwise (· ≤ ·) → P (ms.map D.int) sl1
  | _ => False
theorem dn_sort (hg : Gl X "sorted") (hm : X.mg "sorted" = none) (ha : PDE X F e de) (he : starEach [e] X.env = (false, eval e X.env) :: starEach [] X.env := by rfl) (hpl : (backTo pos (starEach [] X.env)).any (·.1) = false := by rfl) : PDN X F (.Call (.Name "sorted" p) [e] [] pos) (dSort de) :=
  PE_imp (pe_callB cr_sortedI hg hm (by decide +kernel) (pa_cons ha pa_nil he) (by decide) (by decide) he hpl) fun σ H Q ⟨sl, S, P, R, p, k⟩ => ⟨sl, S, _, R, p, fun v d sl1 S1 H1 p1 R1 e1 r1 => by
    cases r1 <;> first | exact p1.elim | skip
    rename_i a vs ds h r
    obtain ⟨ns, h1, h2⟩ := p1
    have := ints_of h1
    subst this
    refine ⟨_, ns, rfl, .inl (.inl (by rw [← r.ints]; exact R1.sh _ _ h)), fun ms q hp hs hq => ?_⟩
    exact k q _ _ sl1 S1 _ (h2 ms hp hs) (R1.grow (Gr.own R1.sh hq)) e1 (R1.sh.free hq) (R1.dm q hq) upd_same Reps.ofInts (R1.notOwn hq)⟩

/-! ### methods of lists of one's own -/
/-- xs.pop(e) -/
def dPopAt (i : Nat) (d : DE) : DE := fun sl P => (∃ c, lstAt sl i = some c) ∧ d sl fun x sl1 => match x with
  | .int n => -(2 ^ 63) ≤ n ∧ n < 2 ^ 63 ∧ ∃ c j y, lstAt sl1 i = some c ∧ seqIndex? n c.length = some j ∧ c[j]? = some y ∧ P y (setLst sl1 i (c.eraseIdx j))
  | _ => False
theorem de_popAt (i : Nat) {y : Str} {py : Pos} (ha : PDE X F e de) (hN : X.N[i]? = some y := by rfl) (hv : Vis X.env.scope y := by first | exact Or.inl rfl | exact Or.inr (Or.inl rfl) | exact Or.inr (Or.inr rfl)) (hd : (y == ("__debug__" : Str)) = false := by decide) (hcd : (y == ("__classdict__" : Str)) = false := by decide)
    (hst : starEach [e] X.env = (false, eval e X.env) :: starEach [] X.env := by rfl) (hpl : (backTo pos (starEach [] X.env)).any (·.1) = false := by rfl) (hb : attributeBase (.Name y py) "pop" X.env (eval (.Name y py) X.env) = eval (.Name y py) X.env := by rfl)
    (hfew : ((backTo pos (starEach [e] X.env)).all (fun x => !x.1) && (backToKw pos (keywordEach [] X.env)).all (fun x => x.1.isSome) && decide ([e].length + ([] : List Keyword).length + (if ([] : List Keyword).isEmpty then 0 else 1) < 30)) = true := by rfl)
    (hline : (apos.endLine == pos.line) = true := by rfl) :
    PDE X F (.Call (.Attribute (.Name y py) "pop" apos) [e] [] pos) (dPopAt i de) := by
  refine PE_imp (pe_bm PySem.F.plainAttrs_list PySem.F.slot_list_pop PySem.F.type_list_pop mt_popAt (pe_var hN hv hd hcd) (pa_cons ha pa_nil hst) hb hfew hline hst hpl) fun σ H Q ⟨sl, S, P, R, ⟨⟨c0, h0⟩, p⟩, k⟩ => ?_
  obtain ⟨q0, vs0, e0, _, _, hH, _, _⟩ := R.lst h0
  refine ⟨.ref q0, e0, .inl ⟨rfl, _, .inl (.inl hH)⟩, sl, S, _, R, p, fun v d sl1 S1 H1 p1 R1 e1 r1 => ?_⟩
  cases r1 <;> first | exact p1.elim | skip
  obtain ⟨g1, g2, c, j, y, hc, hj, hy, p2⟩ := p1
  obtain ⟨q1, vs1, e2, n1, b1, h1, r2, _⟩ := R1.lst hc
  rw [e0] at e2
  cases e2
  obtain ⟨w, hw, rw'⟩ := r2.get hy
  exact ⟨q0, vs1, _, j, w, rfl, rfl, h1, g1, g2, by rw [r2.length]; exact hj, hw, k _ _ _ S1 _ p2 (R1.mut hc e0 (Gr.mutM R1.sh n1 h1) upd_same (r2.erase j)) e1 rw'⟩
/-- xs.pop() -/
def dPop (i : Nat) : DE := fun sl P => ∃ c y, lstAt sl i = some c ∧ c[c.length - 1]? = some y ∧ P y (setLst sl i c.dropLast)
theorem Reps.dropLast {K : PySem.W.Frag} {H : Hp} {vs : List L2.V} {ds : List D} (r : Reps K H vs ds) : Reps K H vs.dropLast ds.dropLast := by
  rw [List.dropLast_eq_take, List.dropLast_eq_take, r.length]
  exact r.take _
theorem de_pop (i : Nat) {y : Str} {py : Pos} (hN : X.N[i]? = some y := by rfl) (hv : Vis X.env.scope y := by first | exact Or.inl rfl | exact Or.inr (Or.inl rfl) | exact Or.inr (Or.inr rfl)) (hd : (y == ("__debug__" : Str)) = false := by decide) (hcd : (y == ("__classdict__" : Str)) = false := by decide)
    (hb : attributeBase (.Name y py) "pop" X.env (eval (.Name y py) X.env) = eval (.Name y py) X.env := by rfl) (hline : (apos.endLine == pos.line) = true := by rfl) :
    PDE X F (.Call (.Attribute (.Name y py) "pop" apos) [] [] pos) (dPop i) := by
  refine PE_imp (pe_bm0 PySem.F.plainAttrs_list PySem.F.slot_list_pop PySem.F.type_list_pop mt_pop (pe_var hN hv hd hcd) hb hline) fun σ H Q ⟨sl, S, P, R, ⟨c, y, hc, hy, p⟩, k⟩ => ?_
  obtain ⟨q1, vs1, e2, n1, b1, h1, r2, _⟩ := R.lst hc
  obtain ⟨w, hw, rw'⟩ := r2.get hy
  exact ⟨.ref q1, e2, .inl ⟨rfl, _, .inl (.inl h1)⟩, q1, vs1, w, rfl, rfl, h1, by rw [r2.length]; exact hw, k _ _ _ S _ p (R.mut hc e2 (Gr.mutM R.sh n1 h1) upd_same r2.dropLast) (Ex.refl _) rw'⟩
/-- xs.extend(ys), ys a list -/
def dExt (i : Nat) (d : DE) : DE := fun sl P => (∃ c, lstAt sl i = some c) ∧ d sl fun x sl1 => match x with
  | .lst ds => ∃ c, lstAt sl1 i = some c ∧ c.length + ds.length ≤ sizeLine ∧ P .non (setLst sl1 i (c ++ ds))
  | _ => False
/-- xs.index(e), xs a list (data) -/
def rdIndex (d y : D) (P : D → Prop) : Prop := ∃ p ps j z, y.py = some p ∧ d.py = some (.list ps) ∧ SeqAt.shaped (.list ps) = true ∧ SeqAt.shaped p = true ∧ ps[j]? = some z ∧ PyData.eqv z p = true ∧ (∀ (m : Nat) (z' : PyData), m < j → ps[m]? = some z' → PyData.eqv z' p = false) ∧ P (.int (j : Nat))
def dIndex (d y : DE) : DE := fun sl P => d sl fun x sl1 => (∃ ds, x = .lst ds) ∧ y sl1 fun z sl2 => rdIndex x z fun v => P v sl2
theorem de_index (hu : X.A.units + 65 < cLine) (ho : PDE X F o da) (ha : PDE X F e de) (hst : starEach [e] X.env = (false, eval e X.env) :: starEach [] X.env := by rfl) (hpl : (backTo pos (starEach [] X.env)).any (·.1) = false := by rfl) (hb : attributeBase o "index" X.env (eval o X.env) = eval o X.env := by rfl)
    (hfew : ((backTo pos (starEach [e] X.env)).all (fun x => !x.1) && (backToKw pos (keywordEach [] X.env)).all (fun x => x.1.isSome) && decide ([e].length + ([] : List Keyword).length + (if ([] : List Keyword).isEmpty then 0 else 1) < 30)) = true := by rfl)
    (hline : (apos.endLine == pos.line) = true := by rfl) :
    PDE X F (.Call (.Attribute o "index" apos) [e] [] pos) (dIndex da de) := by
  refine PE_imp (pe_bm PySem.F.plainAttrs_list PySem.F.slot_list_index PySem.F.type_list_index (mt_indexD hu) ho (pa_cons ha pa_nil hst) hb hfew hline hst hpl) fun σ H Q ⟨sl, S, P, R, p, k⟩ => ⟨sl, S, _, R, p, fun v d sl1 S1 H1 ⟨⟨ds, hd⟩, p1⟩ R1 e1 r1 => ?_⟩
  subst hd
  cases r1 with
  | lst h r =>
    refine ⟨.inl ⟨rfl, _, .inl (.inl (R1.sh _ _ h))⟩, sl1, S1, _, R1, p1, fun w dw sl2 S2 H2 ⟨q, qs, j, z, h1, h2, h3, h4, h5, h6, h7, p2⟩ R2 e2 r2 => ?_⟩
    exact ⟨_, w, q, qs, j, z, rfl, rfl, (((Rep.lst h r).mono e2).mono R2.sh).dp h2, (r2.mono R2.sh).dp h1, h3, h4, h5, h6, h7, k _ _ sl2 S2 H2 p2 R2 (e1.trans e2) (.int _)⟩
/-- xs.count(e), ints -/
def dCount (d y : DE) : DE := fun sl P => d sl fun x sl1 => (∃ ds, x = .lst ds) ∧ y sl1 fun z sl2 => match x, z with
  | .lst ds, .int n => ∃ ns, intsD ds = some ns ∧ P (.int (ns.count n : Nat)) sl2
  | _, _ => False
theorem de_count (ho : PDE X F o da) (ha : PDE X F e de) (hst : starEach [e] X.env = (false, eval e X.env) :: starEach [] X.env := by rfl) (hpl : (backTo pos (starEach [] X.env)).any (·.1) = false := by rfl) (hb : attributeBase o "count" X.env (eval o X.env) = eval o X.env := by rfl)
    (hfew : ((backTo pos (starEach [e] X.env)).all (fun x => !x.1) && (backToKw pos (keywordEach [] X.env)).all (fun x => x.1.isSome) && decide ([e].length + ([] : List Keyword).length + (if ([] : List Keyword).isEmpty then 0 else 1) < 30)) = true := by rfl)
    (hline : (apos.endLine == pos.line) = true := by rfl) :
    PDE X F (.Call (.Attribute o "count" apos) [e] [] pos) (dCount da de) := by
  refine PE_imp (pe_bm PySem.F.plainAttrs_list PySem.F.slot_list_count PySem.F.type_list_count mt_lcount ho (pa_cons ha pa_nil hst) hb hfew hline hst hpl) fun σ H Q ⟨sl, S, P, R, p, k⟩ => ⟨sl, S, _, R, p, fun v d sl1 S1 H1 ⟨⟨ds, hd⟩, p1⟩ R1 e1 r1 => ?_⟩
  subst hd
  cases r1 with
  | lst h r =>
    refine ⟨.inl ⟨rfl, _, .inl (.inl (R1.sh _ _ h))⟩, sl1, S1, _, R1, p1, fun w dw sl2 S2 H2 p2 R2 e2 r2 => ?_⟩
    cases r2 <;> first | exact p2.elim | skip
    obtain ⟨ns, h1, p3⟩ := p2
    have := ints_of h1
    subst this
    exact ⟨_, ns, _, rfl, rfl, .inl (.inl (by rw [← r.ints]; exact R2.sh _ _ (e2 _ _ h))), k _ _ sl2 S2 H2 p3 R2 (e1.trans e2) (.int _)⟩

/-! ### xs[i] op= e; a = b = e -/
def rGetL (K : PySem.W.Frag) : L2.V → L2.V → Hp → VK → Prop := fun o i H Q => ∃ p xs k v, o = .ref p ∧ i = .int k ∧ SqL K H p xs ∧ atI xs k = some v ∧ Q v H
theorem get_own : PGet X (rGetL X.K) := by
  intro pins s σ H x y v u Q I rx ry ⟨p, xs, i, z, hx, hy, hq, he, q⟩
  subst hx hy
  cases rx
  obtain ⟨t, rfl⟩ := ry
  obtain ⟨its, r, pl, hz⟩ := I.list hq
  obtain ⟨j, h1, h2, h3, h4, h5⟩ := atI_get he
  obtain ⟨w, ew, rw'⟩ := r.get h2
  have hl := r.length
  have hn := line63
  have fin : EP X pins σ Q w s := ⟨z, H, I, rw', q⟩
  by_cases h0 : 0 ≤ i
  · have hj : i.toNat = j := by
      rw [seqIndex_of h0 h5] at h1
      exact Option.some.inj h1
    exact wpAny_getItem_list pl.isList h0 (by omega) (by rw [hj]; simpa using ew) fin
  · have hj : (i + (its.toArray.size : Int)).toNat = j := by
      rw [seqIndex_neg (by omega) h4] at h1
      rw [List.size_toArray, ← hl]
      exact Option.some.inj h1
    exact wpAny_getItem_list_neg pl.isList (by omega) (by rw [List.size_toArray] <;> omega) (by omega) (by rw [hj]; simpa using ew) fin
/-- xs[e] op= y, ints -/
def dAugS (i : Nat) (f : Int → Int → Int) (d e : DE) : DS := fun N sl => (∃ c, lstAt sl i = some c) ∧ d sl fun x sl1 => ∃ k c n j, x = .int k ∧ lstAt sl1 i = some c ∧ ixN c.length k = some j ∧ c[j]? = some (.int n) ∧ e sl1 fun y sl2 => match y with
  | .int m => ∃ c' j', lstAt sl2 i = some c' ∧ ixN c'.length k = some j' ∧ N.nx (setLst sl2 i (c'.set j' (.int (f n m))))
  | _ => False
theorem ds_augS (i : Nat) {x : Str} {px tpos : Pos} {op : Operator} {f : Int → Int → Int} (hi : PDE X F a da) (ho : PIp X op (ipI f)) (he : PDE X F e de) (hN : X.N[i]? = some x := by rfl) (hv : Vis X.env.scope x := by first | exact Or.inl rfl | exact Or.inr (Or.inl rfl) | exact Or.inr (Or.inr rfl))
    (hd : (x == ("__debug__" : Str)) = false := by decide) (hcd : (x == ("__classdict__" : Str)) = false := by decide)
    (ha : ∀ ov iv new, augStore a ov iv new = (do holding [new, ov, iv] (setItem ov iv new); release [new, ov, iv] []; pure .next) := by intros; rfl) : PDS X F (.AugAssign (.Subscript (.Name x px) a tpos) op e pos) (dAugS i f da de) :=
  PS_imp (ps_augS (pe_var hN hv hd hcd) hi get_own he ho set_list ha) fun D' σ H ⟨sl, S, N, R, ⟨⟨c0, h0⟩, h⟩, l⟩ => by
    obtain ⟨q0, vs0, e0, _⟩ := R.lst h0
    refine ⟨.ref q0, e0, sl, S, _, R, h, fun v d sl1 S1 H1 ⟨k, c, n, j, hx, hc, hj, hn, h2⟩ R1 e1 r1 => ?_⟩
    subst hx
    cases r1
    obtain ⟨q1, vs1, e2, n1, b1, h1, r2, _⟩ := R1.lst hc
    rw [e0] at e2
    cases e2
    obtain ⟨w, hw, rw'⟩ := r2.get hn
    cases rw'
    refine ⟨q0, vs1, k, .int n, rfl, rfl, .inl (.inl h1), ?_, sl1, S1, _, R1, h2, fun v2 d2 sl2 S2 H2 p2 R2 e2 r3 => ?_⟩
    · unfold atI
      rw [r2.length, hj]
      exact hw
    · cases r3 <;> first | exact p2.elim | skip
      obtain ⟨c', j', hc', hj', p3⟩ := p2
      obtain ⟨q2, vs2, e3, n2, b2, h2', r4, _⟩ := R2.lst hc'
      rw [e0] at e3
      cases e3
      exact ⟨n, _, rfl, rfl, q0, vs2, k, j', rfl, rfl, h2', by rw [r4.length]; exact hj', l.nx _ σ S2 _ p3 (R2.mut hc' e0 (Gr.mutM R2.sh n2 h2') upd_same (r4.set (.int _) j')) (e1.trans e2)⟩
/-- t1 = t2 = e -/
def dAsg2 (d : DE) (g1 g2 : DG) : DS := fun N sl => d sl fun x sl1 => g1 x sl1 fun sl2 => g2 x sl2 N.nx
theorem ds_asg2 {t1 t2 : Expr} {g1 g2 : DG} (he : PDE X F e de) (h1 : PDG X F Any t1 g1) (h2 : PDG X F Any t2 g2) (ha : (assignEach [t1, t2] X.env).map (·.2) = [assign t1 X.env, assign t2 X.env] := by rfl) (hw : swappedStores [t1, t2] e X.env = pure none := by rfl) :
    PDS X F (.Assign [t1, t2] e pos) (dAsg2 de g1 g2) := PS_imp (ps_asg2 he h1 h2 ha hw) fun D' σ H ⟨sl, S, N, R, h, l⟩ =>
  ⟨sl, S, _, R, h, fun v d sl1 S1 H1 p1 R1 e1 r1 => ⟨d, sl1, S1, _, R1, r1, p1, fun sl2 σ2 S2 H2 p2 R2 e2 _ => ⟨d, sl2, S2, _, R2, r1.mono e2, p2, fun sl3 σ3 S3 H3 p3 R3 e3 _ => l.nx sl3 σ3 S3 H3 p3 R3 (e1.trans (e2.trans e3))⟩⟩⟩
end
end DL
end
section
set_option maxRecDepth 100000
set_option maxHeartbeats 2000000
/-! D15: enumerate of a list or tuple, walks over either, sorted(set(..)), two fors in a comprehension, tuple(zip(..)), chains of three. -/
namespace DL
open PySem PySem.Spec PyProof.Rows L2 RZ StX

set_option maxHeartbeats 4000000 in
theorem meets_enumB1 {v : Value} {o : Obj} {H : Heap → Prop} (B : Begins v o H) :
    Meets (Builtin.«enumerate.__new__» ⟨[.type "enumerate", v], []⟩) (fun _ R s => H s.heap ∧
      R (.ok (.ret (.ref (s.heap.push o).objs.size))) { s with heap := (s.heap.push o).push { cls := .type "enumerate", data := .fields #[.none, .bool false, .ref s.heap.objs.size, rawInt 0, .none, .none] } }) :=
  .of_wp fun prog w A R s h => by
    obtain ⟨hp, g, d, tk, os⟩ := s; obtain ⟨h1, h⟩ := h
    have hsub := sub_enumerate
    have q1 : ∀ {A' : Around} {E : Value → Shared → Prop} {Q : Value → Shared → Prop}, Q (.ref hp.objs.size) ⟨hp.push o, g, d, tk, os⟩ → wpAny (model prog w) A' (pyIter v) Q E ⟨hp, g, d, tk, os⟩ :=
      fun q => B.iter prog w _ _ ⟨hp, g, d, tk, os⟩ _ h1 q
    wp_walk using q1
    refine wpAny_stack_any fun st => wpAny_pure ?_
    split
    · rename_i c _ _ _ _ _
      cases (c == Value.type "enumerate")
      · wp_walk using q1
        exact ⟨_, rfl, h⟩
      · wp_walk using q1
        exact ⟨_, rfl, h⟩
    · wp_walk using q1
      exact ⟨_, rfl, h⟩
section
variable {prog : Program} {w : World} {A : Around} {E : Value → Shared → Prop} {s : Shared}
theorem enum_begins1 {v : Value} {o : Obj} {H : Heap → Prop} {Q : Value → Shared → Prop} (B : Begins v o H) (h1 : H s.heap)
    (h : ∀ h', IsEnum h' (s.heap.objs.size + 1) s.heap.objs.size 0 .none → h'.get? s.heap.objs.size = some o → h'.objs.size = s.heap.objs.size + 2 →
      (∀ b o, s.heap.get? b = some o → h'.get? b = some o) → Q (.ref (s.heap.objs.size + 1)) { s with heap := h' }) :
    wpAny (model prog w) A (call (.type "enumerate") [v]) Q E s := by
  refine callType_new F.called_enumerate (by decide) (F.typeCall_enumerate_1 _) (F.newCall_enumerate_1 _) (fun obj => F.args_object_init_2 obj _) F.entry_enumerate_new
    (meets_enumB1 B) ⟨h1, ?_⟩
  have hz : (s.heap.push o).objs.size = s.heap.objs.size + 1 := Heap.size_push ..
  show _ ∧ _
  rw [hz]
  have he : IsEnum ((s.heap.push o).push { cls := .type "enumerate", data := .fields #[.none, .bool false, .ref s.heap.objs.size, rawInt 0, .none, .none] }) (s.heap.objs.size + 1) s.heap.objs.size 0 .none := by
    have := Heap.get?_push_size (s.heap.push o) (o := { cls := .type "enumerate", data := .fields #[.none, .bool false, .ref s.heap.objs.size, rawInt 0, .none, .none] }) rfl
    rw [hz] at this; exact this
  refine ⟨⟨_, he, rfl⟩, h _ he (Heap.get?_push_of_some _ (Heap.get?_push_size _ B.free)) (by rw [Heap.size_push, hz]) fun b o x => Heap.get?_push_of_some _ (Heap.get?_push_of_some _ x)⟩
end

/-- pairs of a number and an item -/
def IteK (K : PySem.W.Frag) (k : Kd) (a : Addr) : It :=
  ⟨fun i H => ∃ (xs : List L2.V) (x : L2.V), SqK K k H a xs ∧ xs[i]? = some x, fun i H v H' => ∃ T x, v = .ref T ∧ H T = none ∧ H' = L2.upd H T (.tup [.int (i : Nat), x]) ∧ ∀ xs, SqK K k H a xs → xs[i]? = some x, fun i H => ∃ xs : List L2.V, SqK K k H a xs ∧ i = xs.length⟩
theorem turn_enumK {P : Program} {w : World} {K : PySem.W.Frag} {elts : List Expr} {kk : Nat} {tpos : Pos} {k : Kd} {a e it : Addr} (hei : e ≠ it) (hea : e ≠ a) (hai : a ≠ it) :
    Turn P w K (.Tuple elts kk tpos) (IteK K k a) [e, it] e (fun i h => (∃ old, IsEnum h e it (0 + (i : Int)) old) ∧ itAt k h it a i) where
  mem := by simp
  obj := fun i h st c hc => by
    obtain ⟨⟨old, he⟩, h1⟩ := st
    have e' : c = e ∨ c = it := by simpa using hc
    rcases e' with q | q
    · rw [q]; exact ⟨_, he, fun v q => nomatch q⟩
    · rw [q]; exact itAt_obj k h1
  keep := fun i h h' st q => by
    obtain ⟨⟨old, he⟩, h1⟩ := st
    exact ⟨⟨old, q e (by simp) _ he⟩, itAt_at k h1 fun o z => q it (by simp) o z⟩
  item := by
    intro X hP hw hK hc i pins s σ H E I hf st hg
    subst hP hw hK
    obtain ⟨he, h1⟩ := st
    obtain ⟨xs, x, hqx, hx⟩ := hg
    obtain ⟨its, rv, p⟩ := sqK_heap I k hqx
    have l1 : i < its.toArray.size := by have := (List.getElem?_eq_some_iff.mp hx).1; have := rv.length; simp; omega
    refine (GoesN.enumFrom (A := X.A) 0 (drawsK k (A := X.A.in1) (I.ok.hd hc) it a hai its.toArray) e hei (by simp [hei, hea]) (by simp)).goes i s _ E l1 ⟨he, h1, p⟩
      fun v h' tk ⟨T, t, u, ev, hT, hu, hTup⟩ ⟨he', h1', _⟩ hk _ => ?_
    subst ev
    have ru : RelV x u := by
      obtain ⟨u', q1, q2⟩ := rv.get hx
      have : its.toArray[i]? = some u' := by simpa using q1
      rw [hu] at this
      cases this
      exact q2
    have hTup' : h'.IsTuple T #[.int ((i : Nat) : Int) t, u] := by rw [Int.zero_add] at hTup; exact hTup
    have new : ObjOk X.prog X.w (L2.upd H T (.tup [.int (i : Nat), x])) h' T (.tup [.int (i : Nat), x]) := ⟨by show 2 ≤ sizeLine; decide, [_, u], .cons ⟨_, rfl⟩ (.cons ru .nil), hTup'⟩
    have I1 : Inv X pins σ (L2.upd H T (.tup [.int (i : Nat), x])) { s with heap := h', toks := tk } :=
      I.turnedNew (t' := tk) (ch := [e, it]) (fun c o hb q => hk c o hb q) hf hT new
    refine ⟨.ref T, _, I1, rfl, ⟨T, x, rfl, I.hok.fresh hT, rfl, fun l hl => by rw [sqK_inj I k hl hqx]; exact hx⟩, ⟨he', h1'⟩, fun c hcm => ?_⟩
    have hc' : ∃ o, s.heap.get? c = some o := by
      have e' : c = e ∨ c = it := by simpa using hcm
      rcases e' with q | q
      · rw [q]; obtain ⟨_, he⟩ := he; exact ⟨_, he⟩
      · rw [q]; obtain ⟨o, ho, _⟩ := itAt_obj k h1; exact ⟨o, ho⟩
    obtain ⟨o, ho⟩ := hc'
    rw [upd_ne (Nat.ne_of_lt (Nat.lt_of_lt_of_le (Heap.lt_size ho) hT))]
    exact (hf c hcm).1
  done := by
    intro X hP hw hK hc i pins s σ H E I hf st hg
    subst hP hw hK
    obtain ⟨he, h1⟩ := st
    obtain ⟨xs, hqx, hi⟩ := hg
    obtain ⟨its, rv, p⟩ := sqK_heap I k hqx
    have e : i = its.toArray.size := by
      have := rv.length
      simp
      omega
    subst e
    refine (GoesN.enumFrom (A := X.A) (elts := elts) (x1 := kk) (pos := tpos) 0 (drawsK k (A := X.A.in1) (I.ok.hd hc) it a hai its.toArray) _ hei (by simp [hei, hea]) (by simp)).stops s _ E ⟨he, h1, p⟩ fun h' tk hk _ => ?_
    exact I.turnedL (t' := tk) (fun c o hb q => hk c o hb q) hf
  self := fun A i s Q E st h => by
    obtain ⟨⟨old, he⟩, _⟩ := st
    exact wpAny_pyIter_enum he h
def iEnumK (K : PySem.W.Frag) (ta : TA) : TI := fun σ H R => ta σ H fun vs H1 => ∃ k a xs, vs = [.ref a] ∧ SqK K k H1 a xs ∧ R (IteK K k a) H1
theorem pi_enumK {X : Cx} {e : Expr} {ta : TA} {p pos tpos : Pos} {elts : List Expr} {kk : Nat} (hg : Gl X "enumerate") (hm : X.mg "enumerate" = none) (ha : PA X [e] ta) (hs : starEach [e] X.env = [(false, eval e X.env)] := by rfl) :
    PI X (.Tuple elts kk tpos) (.Call (.Name "enumerate" p) [e] [] pos) (iEnumK X.K ta) := by
  refine ⟨fun pins s σ H R I h => ?_⟩
  refine Call_ (ld_blt I hg hm boot_enumerate (PyProof.Rows.callWith_type1 (thn (ha.run pos pins s σ H _ I h) fun us s1 ⟨vs, H1, I1, r1, q1⟩ => ?_) hs rfl))
  obtain ⟨k, a, xs, ex, hqx, q⟩ := q1
  subst ex
  cases r1 with
  | cons r rr =>
    cases rr
    cases r
    obtain ⟨its, rv, p1⟩ := sqK_heap I1 k hqx
    have la := sqAt_lt k p1
    refine enum_begins1 (beginsK k a its.toArray) p1 fun h' he hit hsz hk => wpAny_pyIter_enum he ?_
    have I2 : Inv X pins σ H1 { s1 with heap := h' } := I1.kept (t' := s1.toks) hk
    refine ⟨s1.heap.objs.size + 1, [s1.heap.objs.size + 1, s1.heap.objs.size], _, _, H1, rfl, I2, turn_enumK (Nat.succ_ne_self _) (Nat.ne_of_gt (Nat.lt_succ_of_lt la)) (Nat.ne_of_lt la), ⟨⟨.none, he⟩, itAt_new k hit⟩, fun b hb => ?_, q⟩
    have e' : b = s1.heap.objs.size + 1 ∨ b = s1.heap.objs.size := by simpa using hb
    have hle : s1.heap.objs.size ≤ b := by
      rcases e' with z | z
      · rw [z]; exact Nat.le_add_right _ _
      · rw [z]; exact Nat.le_refl _
    exact I1.fpOk hle (I1.hok.fresh hle)
theorem Walk.enumK {K : PySem.W.Frag} {k : Kd} {a : Addr} {vs : List L2.V} {S : Hp} {ds : List D} (h : SqK K k S a vs) (r : Reps K S vs ds) : Walk K (IteK K k a) S (enumD ds) where
  stop := fun H e => ⟨vs, h.mono e, by rw [r.length, enumD_len]⟩
  go := fun i H hi e => by
    rw [enumD_len] at hi
    obtain ⟨v, h1, _⟩ := r.get (show ds[i]? = some ds[i] by simp [hi])
    exact ⟨vs, v, h.mono e, h1⟩
  yld := fun i x H H' d hd y S1 e1 e2 => by
    obtain ⟨T, v, rfl, hT, rfl, hv⟩ := y
    obtain ⟨z, h1, rfl⟩ := enumD_get hd
    obtain ⟨w, h2, h3⟩ := r.get h1
    have q := hv vs (h.mono (e1.trans e2))
    rw [h2] at q
    cases q
    have g : Gr S1 H (upd S1 T (.tup [.int (i : Nat), v])) (upd H T (.tup [.int (i : Nat), v])) := Gr.new e2 hT
    exact ⟨_, g, .tup (SqT.of upd_same) (.cons (.int _) (.cons ((h3.mono e1).mono g.s) .nil))⟩
def Itk (K : PySem.W.Frag) : Kd → Addr → It
  | .l => Itl K
  | .t => Itt K
theorem Walk.seqK {K : PySem.W.Frag} {k : Kd} {a : Addr} {vs : List L2.V} {S : Hp} {ds : List D} (h : SqK K k S a vs) (r : Reps K S vs ds) : Walk K (Itk K k a) S ds := by
  cases k with
  | l => exact Walk.list h r
  | t => exact Walk.tup h r
def iSeqK (K : PySem.W.Frag) (tl : TE) : TI := fun σ H R => tl σ H fun x H1 => ∃ k a, x = .ref a ∧ (∃ xs, SqK K k H1 a xs) ∧ R (Itk K k a) H1
theorem pi_seqK {X : Cx} {tg l : Expr} {tl : TE} (hl : PE X l tl) : PI X tg l (iSeqK X.K tl) := by
  refine ⟨fun pins s σ H R I h => ?_⟩
  refine thn (hl.run pins s σ H _ I h) fun v s1 ⟨x, H1, I1, r1, q1⟩ => ?_
  obtain ⟨k, a, e, ⟨xs, hq⟩, q⟩ := q1
  subst e
  cases r1
  have hb : ∀ b ∈ [s1.heap.objs.size], b = s1.heap.objs.size := fun b hb => by simpa using hb
  cases k with
  | l =>
    obtain ⟨its, rv, p, hz⟩ := I1.list hq
    refine wpAny_pyIter_list p.isList ?_
    refine ⟨s1.heap.objs.size, [s1.heap.objs.size], _, _, H1, rfl, I1.kept (t' := s1.toks) fun b o e => Heap.get?_push_of_some _ e, turn_list a _, ⟨_, Heap.get?_push_size _ rfl, rfl, rfl⟩, fun b hb' => ?_, q⟩
    have e := hb b hb'
    subst e
    exact I1.fpOk (Nat.le_refl _) (I1.hok.fresh (Nat.le_refl _))
  | t =>
    obtain ⟨its, rv, p, hz⟩ := I1.tuple hq
    refine wpAny_pyIter_tuple (show s1.heap.IsTuple a its.toArray from p) ?_
    refine ⟨s1.heap.objs.size, [s1.heap.objs.size], _, _, H1, rfl, I1.kept (t' := s1.toks) fun b o e => Heap.get?_push_of_some _ e, turn_tuple a _, ⟨_, Heap.get?_push_size _ rfl, rfl, rfl⟩, fun b hb' => ?_, q⟩
    have e := hb b hb'
    subst e
    exact I1.fpOk (Nat.le_refl _) (I1.hok.fresh (Nat.le_refl _))
section
variable {X : Cx} {F : Fm} {a b c e o tg : Expr} {es rest : List Expr} {pos p apos pos' : Pos} {da db dc de : DE}
def iEnq (d : DE) : DI := fun sl P => d sl fun x sl1 => ∃ ds, x.seq = some ds ∧ P (enumD ds) sl1
theorem di_enumq {kk : Nat} {tpos : Pos} {elts : List Expr} (hg : Gl X "enumerate") (hm : X.mg "enumerate" = none) (ha : PDE X F a da) (hs : starEach [a] X.env = [(false, eval a X.env)] := by rfl) (hs' : starEach [a] X.env = (false, eval a X.env) :: starEach [] X.env := by rfl) :
    PDI X F (.Tuple elts kk tpos) (.Call (.Name "enumerate" p) [a] [] pos) (iEnq da) :=
  PI_imp (pi_enumK hg hm (pa_cons ha pa_nil hs') hs) fun σ H Q ⟨sl, S, P, R, p, k⟩ => ⟨sl, S, _, R, p, fun v d sl1 S1 H1 ⟨ds, hd, p1⟩ R1 e1 r1 => by
    obtain ⟨k1, a1, xs1, ev1, q1, q1', rr1⟩ := r1.seq R1.sh (D.seq_of hd)
    subst ev1
    exact ⟨k1, a1, xs1, rfl, q1', k _ _ sl1 S1 H1 p1 R1 e1 (Walk.enumK q1 rr1)⟩⟩
/-- a list or a tuple -/
theorem di_seq (h : PDE X F e de) : PDI X F tg e (iSq de) := PI_imp (pi_seqK h) fun σ H Q ⟨sl, S, P, R, p, k⟩ => ⟨sl, S, _, R, p, fun v d sl1 S1 H1 ⟨ds, hd, p1⟩ R1 e1 r1 => by
  obtain ⟨k1, a1, xs1, ev1, q1, q1', rr1⟩ := r1.seq R1.sh (D.seq_of hd)
  subst ev1
  exact ⟨k1, a1, rfl, ⟨_, q1'⟩, k _ _ sl1 S1 H1 p1 R1 e1 (Walk.seqK q1 rr1)⟩⟩
end
end DL
end
section
set_option maxRecDepth 100000
set_option maxHeartbeats 2000000
/-! D16: comprehensions with two fors. -/
namespace DL
open PySem PySem.Spec PyProof.Rows L2 RZ StX

section
variable {K : PySem.W.Frag} {F : Fm} {sl2 sl' : List Sl} {σ σ' : L2.St} {S3 S' H3 H' : Hp} {q : Addr} {o : HO} {ws : List Nat}
theorem plus_none (n0 : F.S0 q = none) (R' : ER K (F.plus q o) sl' σ' S' H') : S' q = none := by
  cases z : S' q with
  | none => rfl
  | some o =>
    rcases R'.nw q (by rw [z]; simp) with w | w
    · have w' : F.S0 q ≠ none := w
      exact absurd n0 w'
    · exact absurd rfl w.2
theorem stayL (R3 : ER K F sl2 σ S3 H3) (n3 : S3 q = none) (h3 : H3 q = some o) (no2 : ∀ j, ¬ OwnAt σ sl2 j q) (hN : F.N q) (R' : ER K (F.plus q o) sl' σ' S' H') (ew : wipe σ' ws = wipe σ ws) (ex : Ex S3 S') (hno : NoOwn sl2 ws) (hlen : ∀ i ∈ ws, i < sl2.length) :
    ER K F (backS sl2 sl' ws) σ S' H' ∧ S' q = none ∧ H' q = some o ∧ ∀ j, ¬ OwnAt σ (backS sl2 sl' ws) j q := by
  obtain ⟨RM, hq', no'⟩ := ((R3.plus n3 h3 no2).back R' ws hno ew ex hlen).minus hN
  exact ⟨RM, plus_none (R3.ss.free n3) R', hq', no'⟩
theorem back_no {sl : List Sl} (no : NoOwn sl ws) (e : wipe σ' ws = wipe σ ws) (n : ∀ j, ¬ OwnAt σ' sl' j q) (hl : ∀ i ∈ ws, i < sl.length) : ∀ j, ¬ OwnAt σ (backS sl sl' ws) j q := fun j ⟨h1, s, h2, h3⟩ => by
  have out : ∀ {i}, i ∉ ws → σ'[i]? = σ[i]? := fun {i} n => by
    have h := congrArg (fun l => l[i]?) e
    simp only [wipe_out n] at h
    exact h
  rcases backS_at h2 with ⟨h4, h5⟩ | ⟨h4, h5⟩ | ⟨h4, h5⟩
  · rw [no j h4 s h5] at h3; cases h3
  · exact n j ⟨by rw [out h4]; exact h1, s, h5, h3⟩
  · have := hl j h4
    rw [List.getElem?_eq_none_iff] at h5
    omega
end
section
variable {X : Cx} {F : Fm} {a b c e o tg iter elt tg1 iter1 : Expr} {es ifs ifs1 : List Expr} {pos p apos pos' : Pos} {de : DE} {tt tt1 : DT} {g g1 : DG} {di di1 : DI} {scope : Scope} {own : List (Str × Nat)} {vs1 : List Nat}
def tIA (K : PySem.W.Frag) (di : DI) : TI := fun σ H R => ∃ F, tI K F di σ H R
def dLc2 (di : DI) (g : DG) (tt : DT) (di1 : DI) (g1 : DG) (tt1 : DT) (de : DE) (vs vs1 : List Nat) : DA := fun sl P => di sl fun items sl1 => (NoOwn sl1 vs ∧ ∀ i ∈ vs, i < sl1.length) ∧ ∃ I : Nat → List Sl → List D → Prop, I 0 sl1 [] ∧
  (∀ i x sl2 acc, items[i]? = some x → I i sl2 acc → (NoOwn sl2 vs ∧ ∀ i ∈ vs, i < sl2.length) ∧ g x (wipeS sl2 vs) fun sl3 => tt sl3 fun b sl4 => if b = true then
    di1 sl4 fun items1 sl5 => ∃ I1 : Nat → List Sl → List D → Prop, I1 0 sl5 acc ∧
      (∀ j y sl6 acc1, items1[j]? = some y → I1 j sl6 acc1 → (NoOwn sl6 vs1 ∧ ∀ i ∈ vs1, i < sl6.length) ∧ g1 y (wipeS sl6 vs1) fun sl7 => tt1 sl7 fun b sl8 =>
        if b = true then de sl8 fun d sl9 => acc1.length < sizeLine ∧ I1 (j + 1) (backS sl6 sl9 vs1) (acc1 ++ [d]) else I1 (j + 1) (backS sl6 sl8 vs1) acc1) ∧
      ∀ sl6 acc1, I1 items1.length sl6 acc1 → I (i + 1) (backS sl2 sl6 vs) acc1
    else I (i + 1) (backS sl2 sl4 vs) acc) ∧
  ∀ sl2 acc, I items.length sl2 acc → P acc sl2
theorem dn_lc2 (hc : X.calm = true) (hN : X.N.Nodup) (hi : PDI X F tg iter di) (ok : BlkOk X.N X.env.scope scope own) (hv : ∀ i ∈ vs1, i ∈ own.map (·.2))
    (hg : ∀ (F : Fm) (s : Shared) (H : Hp) (C : Addr) (cl : List (Str × Addr)) (fp : List Addr), PDG (X.blk s H scope (compEnvC scope cl C X.env) fp) F (fun i => i ∈ own.map (·.2)) tg g) (ht : ∀ (F : Fm) (s : Shared) (H : Hp) (C : Addr) (cl : List (Str × Addr)) (fp : List Addr), PDTs (X.blk s H scope (compEnvC scope cl C X.env) fp) F ifs tt)
    (hi1 : ∀ (F : Fm) (s : Shared) (H : Hp) (C : Addr) (cl : List (Str × Addr)) (fp : List Addr), PDI (X.blk s H scope (compEnvC scope cl C X.env) fp) F tg1 iter1 di1)
    (hg1 : ∀ (F : Fm) (s : Shared) (H : Hp) (C : Addr) (cl : List (Str × Addr)) (fp : List Addr), PDG (X.blk s H scope (compEnvC scope cl C X.env) fp) F (fun i => i ∈ vs1) tg1 g1) (ht1 : ∀ (F : Fm) (s : Shared) (H : Hp) (C : Addr) (cl : List (Str × Addr)) (fp : List Addr), PDTs (X.blk s H scope (compEnvC scope cl C X.env) fp) F ifs1 tt1)
    (he : ∀ (F : Fm) (s : Shared) (H : Hp) (C : Addr) (cl : List (Str × Addr)) (fp : List Addr), PDE (X.blk s H scope (compEnvC scope cl C X.env) fp) F elt de) (hs : ∀ x, foldedSetIterable iter X.env x = pure x := by intro _; rfl) (hs1 : ∀ env x, foldedSetIterable iter1 env x = pure x := by intro _ _; rfl) :
    PDN X F (.ListComp elt [⟨tg, iter, ifs, 0⟩, ⟨tg1, iter1, ifs1, 0⟩] scope pos) (dLc2 di g tt di1 g1 tt1 de (own.map (·.2)) vs1) := by
  have hg' : ∀ (s : Shared) (H : Hp) (C : Addr) (cl : List (Str × Addr)) (fp : List Addr), PG (X.blk s H scope (compEnvC scope cl C X.env) fp) tg (tGtA X.K (fun i => i ∈ own.map (·.2)) g) := fun s H C cl fp => ⟨fun pins s' σ H' v u Q I r ⟨F, q⟩ => (hg F s H C cl fp).run pins s' σ H' v u Q I r q⟩
  have ht' : ∀ (s : Shared) (H : Hp) (C : Addr) (cl : List (Str × Addr)) (fp : List Addr), PTs (X.blk s H scope (compEnvC scope cl C X.env) fp) ifs (tTsA X.K tt) := fun s H C cl fp => ⟨fun pins s' σ H' Q I ⟨F, q⟩ => (ht F s H C cl fp).run pins s' σ H' Q I q⟩
  have hi1' : ∀ (s : Shared) (H : Hp) (C : Addr) (cl : List (Str × Addr)) (fp : List Addr), PI (X.blk s H scope (compEnvC scope cl C X.env) fp) tg1 iter1 (tIA X.K di1) := fun s H C cl fp => ⟨fun pins s' σ H' Q I ⟨F, q⟩ => (hi1 F s H C cl fp).run pins s' σ H' Q I q⟩
  have hg1' : ∀ (s : Shared) (H : Hp) (C : Addr) (cl : List (Str × Addr)) (fp : List Addr), PG (X.blk s H scope (compEnvC scope cl C X.env) fp) tg1 (tGtA X.K (fun i => i ∈ vs1) g1) := fun s H C cl fp => ⟨fun pins s' σ H' v u Q I r ⟨F, q⟩ => (hg1 F s H C cl fp).run pins s' σ H' v u Q I r q⟩
  have ht1' : ∀ (s : Shared) (H : Hp) (C : Addr) (cl : List (Str × Addr)) (fp : List Addr), PTs (X.blk s H scope (compEnvC scope cl C X.env) fp) ifs1 (tTsA X.K tt1) := fun s H C cl fp => ⟨fun pins s' σ H' Q I ⟨F, q⟩ => (ht1 F s H C cl fp).run pins s' σ H' Q I q⟩
  have he' : ∀ (s : Shared) (H : Hp) (C : Addr) (cl : List (Str × Addr)) (fp : List Addr), PE (X.blk s H scope (compEnvC scope cl C X.env) fp) elt (tEA X.K de) := fun s H C cl fp => ⟨fun pins s' σ H' Q I ⟨F, q⟩ => (he F s H C cl fp).run pins s' σ H' Q I q⟩
  refine PE_imp (pe_lc2 hc hN hi ok hv hg' ht' hi1' hg1' ht1' he' hs hs1) fun σ H Q ⟨sl, S, P, R, p, k⟩ => ⟨sl, S, _, R, p, fun J items sl1 S1 H1 ⟨no1, I, i0, step, fin⟩ R1 e1 w q hq => ?_⟩
  have g0 : Gr S1 H1 S1 (upd H1 q (.lst [])) := Gr.own R1.sh hq
  have hN' : F.N q := R1.dm q hq
  refine ⟨fun i m H => m = items.length - i ∧ i ≤ items.length ∧ ∃ sl2 S2 acc vs, ER X.K F sl2 σ S2 H ∧ I i sl2 acc ∧ Ex S1 S2 ∧ S2 q = none ∧ H q = some (.lst vs) ∧ Reps X.K S2 vs acc ∧ ∀ j, ¬ OwnAt σ sl2 j q,
    ⟨items.length, by simp, Nat.zero_le _, sl1, S1, [], [], R1.grow g0, i0, Ex.refl _, R1.sh.free hq, upd_same, .nil, R1.notOwn hq⟩, ?_⟩
  rintro i m H ⟨rfl, hi', sl2, S2, acc, vs, R2, hI, e2, n2, h2, r2, no2⟩
  by_cases hlt : i < items.length
  · refine .inr ⟨w.go i H hlt (e2.trans R2.sh), fun H' => ∃ sl2 S2 acc vs, ER X.K F sl2 σ S2 H' ∧ I (i + 1) sl2 acc ∧ Ex S1 S2 ∧ S2 q = none ∧ H' q = some (.lst vs) ∧ Reps X.K S2 vs acc ∧ ∀ j, ¬ OwnAt σ sl2 j q,
      fun H' hx => ⟨items.length - (i + 1), by omega, rfl, hlt, hx⟩, fun x H' y => ?_⟩
    obtain ⟨S3, gr, rx⟩ := w.yld i x H H' items[i] (by simp [hlt]) y S2 e2 R2.sh
    have R3 := R2.grow gr
    have nq : ∀ {S' : Hp}, Gr S2 H S' H' → S' q = none := fun {S'} gr' => by
      cases z : S' q with
      | none => rfl
      | some o =>
        rcases gr'.nw q (by rw [z]; simp) with w | w
        · exact absurd n2 w
        · rw [h2] at w; cases w
    have n3 : S3 q = none := nq gr
    have h3 : H' q = some (.lst vs) := gr.h _ _ h2
    have n0 : F.S0 q = none := R3.ss.free n3
    obtain ⟨⟨hno, hlen⟩, st⟩ := step i items[i] sl2 acc (by simp [hlt]) hI
    have R4 := ((R3.plus n3 h3 no2).wiped (own.map (·.2)))
    refine ⟨F.plus q (.lst vs), _, _, S3, _, R4, rx, st, fun sl3 σ3 S4 H4 p4 R5 e4 o4 => ?_⟩
    have ew : wipe σ3 (own.map (·.2)) = wipe σ (own.map (·.2)) := (wipe_off o4).trans (wipe_wipe σ _)
    refine ⟨ew, F.plus q (.lst vs), sl3, S4, _, R5, p4, fun b sl4 S5 H5 p5 R6 e5 => ?_⟩
    cases b with
    | false =>
      refine iteF ?_
      obtain ⟨RM, nS, hq', no'⟩ := stayL R3 n3 h3 no2 hN' R6 ew (e4.trans e5) hno hlen
      exact ⟨_, S5, acc, vs, RM, by simpa using p5, e2.trans (gr.s.trans (e4.trans e5)), nS, hq', r2.mono (gr.s.trans (e4.trans e5)), no'⟩
    | true =>
      rw [if_pos rfl] at p5
      refine iteT ⟨F.plus q (.lst vs), sl4, S5, _, R6, p5, fun J1 items1 sl5 S6 H6 ⟨I1, i10, step1, fin1⟩ R7 e6 w1 => ?_⟩
      -- the inner loop's state: at σ3, in F
      obtain ⟨R8, hq8, no8⟩ := R7.minus hN'
      have n8 : S6 q = none := plus_none n0 R7
      have e36 : Ex S3 S6 := e4.trans (e5.trans e6)
      refine ⟨fun j m H => m = items1.length - j ∧ j ≤ items1.length ∧ ∃ sl6 S acc vs, ER X.K F sl6 σ3 S H ∧ I1 j sl6 acc ∧ Ex S6 S ∧ S q = none ∧ H q = some (.lst vs) ∧ Reps X.K S vs acc ∧ ∀ j, ¬ OwnAt σ3 sl6 j q,
        ⟨items1.length, by simp, Nat.zero_le _, sl5, S6, acc, vs, R8, i10, Ex.refl _, n8, hq8, r2.mono (gr.s.trans e36), no8⟩, ?_⟩
      rintro j m Hj ⟨rfl, hj', sl6, S7, acc1, ws, R9, hI1, e7, n7, h7, r7, no7⟩
      by_cases hlt1 : j < items1.length
      · refine .inr ⟨w1.go j Hj hlt1 (e7.trans R9.sh), fun H' => ∃ sl6 S acc vs, ER X.K F sl6 σ3 S H' ∧ I1 (j + 1) sl6 acc ∧ Ex S6 S ∧ S q = none ∧ H' q = some (.lst vs) ∧ Reps X.K S vs acc ∧ ∀ j, ¬ OwnAt σ3 sl6 j q,
          fun H' hx => ⟨items1.length - (j + 1), by omega, rfl, hlt1, hx⟩, fun x H' y => ?_⟩
        obtain ⟨S8, gr1, rx1⟩ := w1.yld j x Hj H' items1[j] (by simp [hlt1]) y S7 e7 R9.sh
        have R10 := R9.grow gr1
        have n10 : S8 q = none := by
          cases z : S8 q with
          | none => rfl
          | some o =>
            rcases gr1.nw q (by rw [z]; simp) with w | w
            · exact absurd n7 w
            · rw [h7] at w; cases w
        have h10 : H' q = some (.lst ws) := gr1.h _ _ h7
        obtain ⟨⟨hno1, hlen1⟩, st1⟩ := step1 j items1[j] sl6 acc1 (by simp [hlt1]) hI1
        have R11 := ((R10.plus n10 h10 no7).wiped vs1)
        refine ⟨F.plus q (.lst ws), _, _, S8, _, R11, rx1, st1, fun sl7 σ4 S9 H9 p9 R12 e9 o9 => ?_⟩
        have ew1 : wipe σ4 vs1 = wipe σ3 vs1 := (wipe_off o9).trans (wipe_wipe σ3 _)
        refine ⟨ew1, F.plus q (.lst ws), sl7, S9, _, R12, p9, fun b sl8 S10 H10 p10 R13 e10 => ?_⟩
        cases b with
        | false =>
          refine iteF ?_
          obtain ⟨RM, nS, hq', no'⟩ := stayL R10 n10 h10 no7 hN' R13 ew1 (e9.trans e10) hno1 hlen1
          exact ⟨_, S10, acc1, ws, RM, by simpa using p10, e7.trans (gr1.s.trans (e9.trans e10)), nS, hq', r7.mono (gr1.s.trans (e9.trans e10)), no'⟩
        | true =>
          refine iteT ⟨F.plus q (.lst ws), sl8, S10, fun d sl9 => acc1.length < sizeLine ∧ I1 (j + 1) (backS sl6 sl9 vs1) (acc1 ++ [d]), R13, by simpa using p10, fun y d sl9 S11 H11 ⟨hz, p11⟩ R14 e11 ry => ?_⟩
          obtain ⟨RM, nS, hq', no'⟩ := stayL R10 n10 h10 no7 hN' R14 ew1 (e9.trans (e10.trans e11)) hno1 hlen1
          refine ⟨ws, hq', by rw [r7.length]; exact hz, _, S11, acc1 ++ [d], ws ++ [y], RM.upd nS hN' no', p11, e7.trans (gr1.s.trans (e9.trans (e10.trans e11))), nS, upd_same, (r7.mono (gr1.s.trans (e9.trans (e10.trans e11)))).append (.cons ry .nil), no'⟩
      · have e : j = items1.length := by omega
        subst e
        exact .inl ⟨w1.stop Hj (e7.trans R9.sh), _, S7, acc1, ws, R3.back R9 (own.map (·.2)) hno ew (e36.trans e7) hlen, fin1 sl6 acc1 hI1, e2.trans (gr.s.trans (e36.trans e7)), n7, h7, r7, back_no hno ew no7 hlen⟩
  · have e : i = items.length := by omega
    subst e
    exact .inl ⟨w.stop H (e2.trans R2.sh), k q vs acc sl2 S2 H (fin sl2 acc hI) R2 (e1.trans e2) n2 hN' h2 r2 no2⟩
end
end DL
end
section
set_option maxRecDepth 100000
set_option maxHeartbeats 2000000
/-! D17: sorted(set(list)), chains of three, a, b, c = .., freezing. -/
namespace DL
open PySem PySem.Spec PyProof.Rows L2 RZ StX

/-- the set object as it is made -/
abbrev setObj0 (w : World) : Obj := { cls := .type "set", dict := none, data := .set #[] 0 (.fresh 0 0 (!w.params.followText "set-order")) }
section
variable {P : Program} {w : World} {A : Around} {E : Value → Shared → Prop} {s : Shared}
/-- set.__init__ of the new set, by a list of ints -/
theorem setInitL {l : Addr} {items : Array Value} (ns : List Int) {R : Result → Shared → Prop} (hh : A.handled = none) (hl : s.heap.IsList l items) (hit : IntsAre items.toList ns) (hb : ns.length + 1 < scanBound)
    (h : ∀ (h' : Heap) (tk c : Nat), SetR w h' s.heap.objs.size (fun j => decide (j ∈ ns)) c → c ≤ ns.length → (∀ b o, s.heap.get? b = some o → h'.get? b = some o) → R (.ok (.ret .none)) { s with heap := h', toks := tk }) :
    codeAny (model P w) A (.call (.builtin "set.__init__") ⟨[.ref s.heap.objs.size, .ref l], []⟩) R { s with heap := s.heap.push (setObj0 w) } := by
  have hS : (s.heap.push (setObj0 w)).get? s.heap.objs.size = some (setObj0 w) := Heap.get?_push_size _ rfl
  have hT : Shared.TypeIs { s with heap := s.heap.push (setObj0 w) } (.ref s.heap.objs.size) "set" := ⟨_, hS, rfl⟩
  have hn : items.size = ns.length := by have q := IntsAre.length hit; simpa using q
  have hval : ∀ (i : Nat) (v : Value), items[i]? = some v → ∃ k t, ns[i]? = some k ∧ v = .int k t := fun i v hv => by
    have hi : i < ns.length := hn ▸ (Array.getElem?_eq_some_iff.mp hv).1
    obtain ⟨t, e⟩ := PyProof.Rows.IntsAre.int_at hit i v (by rw [Array.getElem?_toList]; exact hv)
    exact ⟨ns[i], t, List.getElem?_eq_getElem hi, by rw [e, List.getD_eq_getElem?_getD, List.getElem?_eq_getElem hi] <;> rfl⟩
  have hlt : l < s.heap.objs.size := by obtain ⟨_, ho, _⟩ := hl; exact Heap.lt_size ho
  have hl1 : (s.heap.push (setObj0 w)).IsList l items := hl.push _
  have hz : (s.heap.push (setObj0 w)).objs.size = s.heap.objs.size + 1 := Heap.size_push ..
  refine codeAny_call_builtin F.called_set.init.plain F.entry_set_init (check_set_init_1 hT ?_)
  obtain ⟨ol, hol, hcl, nl, hdl⟩ := hl1
  obtain ⟨ocls, odict, odata, oslots⟩ := ol
  simp only at hcl hdl
  subst hcl hdl
  have hl2 : (s.heap.push (setObj0 w)).IsList l items := ⟨_, hol, rfl, nl, rfl⟩
  have q1 := F.sub_list_set
  have q2 := F.sub_list_frozenset
  have q3 : (Value.type "list" == Value.type "dict") = false := by decide
  unfold Builtin.«set.__init__» noKeywords Builtin.Frozenset.updateFrom
  generalize hPI : pyIter = PI
  wp_walk
  subst hPI
  refine wpAny_pyIter_list hl2 (wpAny_bind (wpAny_runValue ?_))
  refine set_update_ints ((Walks.list (by simp [hh]) _ l (by rw [hz]; exact Nat.ne_of_lt (Nat.lt_succ_of_lt hlt)) items).toS) s.heap.objs.size (by
      rw [hz]
      simp only [List.mem_cons, List.not_mem_nil, or_false, not_or]
      exact ⟨Nat.ne_of_lt (Nat.lt_succ_self _), Nat.ne_of_gt hlt⟩) ns hn hb hval (items.size - 0) 0 _ (by omega) (Nat.zero_le _)
    ⟨⟨_, Heap.get?_push_size _ rfl, rfl, rfl⟩, hl2.push _⟩ ⟨0, Nat.le_refl 0, setR_new_at (Heap.get?_push_of_some _ hS)⟩ fun s' c' hm hc' hS' => ?_
  obtain ⟨h', g2, d', tk', os'⟩ := s'
  obtain rfl : g2 = s.gens := hm.gens
  obtain rfl : d' = s.drawn := hm.drawn
  obtain rfl : os' = s.os := hm.os
  refine wpAny_pure (wpAny_pure (h h' tk' c' hS' (hn ▸ hc') fun b o e => ?_))
  have hb0 : b < s.heap.objs.size := Heap.lt_size e
  refine hm.heap b o ?_ (Heap.get?_push_of_some _ (Heap.get?_push_of_some _ e))
  rw [hz]
  simp only [List.mem_cons, List.not_mem_nil, or_false, not_or]
  exact ⟨Nat.ne_of_lt hb0, Nat.ne_of_lt (Nat.lt_succ_of_lt hb0)⟩
theorem call_setL {l : Addr} {items : Array Value} (ns : List Int) {Q : Value → Shared → Prop} (hh : A.handled = none) (hl : s.heap.IsList l items) (hit : IntsAre items.toList ns) (hb : ns.length + 1 < scanBound)
    (h : ∀ (h' : Heap) (tk c : Nat), SetR w h' s.heap.objs.size (fun j => decide (j ∈ ns)) c → c ≤ ns.length → (∀ b o, s.heap.get? b = some o → h'.get? b = some o) → Q (.ref s.heap.objs.size) { s with heap := h', toks := tk }) :
    wpAny (model P w) A (call (.type "set") [.ref l]) Q E s := by
  obtain ⟨c, tl, hmro⟩ := F.called_set.mro
  have q1 := F.called_set.made
  have q2 := F.called_set.sub
  have q3 := F.called_set.notType
  have q4 := F.called_set.canCreate
  have q5 := F.typeCall_set_1 (.ref l)
  refine wpAny_call (codeAny_of_tree ?_)
  refine wpAny_pure ⟨Code.quiet_builtin _ (by decide +kernel), codeAny_builtin F.entry_type_call ?_⟩
  rw [Around.under_plain (weight_type_call_type "set" [.ref l] []) rfl]
  repeat (any_goals (first | assumption | wp_step))
  refine codeAny_mono (code_set_led1 (.ref l) (E := E) (Q₁ := fun obj s₁ => obj = .ref s.heap.objs.size ∧ s₁ = { s with heap := s.heap.push (setObj0 w) }) ⟨rfl, rfl⟩) fun r s₁ hr => ?_
  cases r with
  | error e => exact hr
  | ok fl =>
    cases fl with
    | ret obj =>
      obtain ⟨rfl, rfl⟩ := hr
      have hS : (s.heap.push (setObj0 w)).get? s.heap.objs.size = some (setObj0 w) := Heap.get?_push_size _ rfl
      have q6 : Shared.TypeIs { s with heap := s.heap.push (setObj0 w) } (.ref s.heap.objs.size) "set" := ⟨_, hS, rfl⟩
      have q7 := F.called_set.init.lookup
      have q8 := F.called_set.init.bind (.ref s.heap.objs.size)
      repeat (any_goals (first | assumption | wp_step))
      refine codeAny_mono (setInitL (R := wants (fun r s₂ => r = .none ∧ Q (.ref s.heap.objs.size) s₂) E) ns (by simp [hh]) hl hit hb fun h' tk c a b k => ⟨rfl, h h' tk c a b k⟩) fun r₂ s₂ hr₂ => ?_
      cases r₂ with
      | error e => exact hr₂
      | ok fl₂ =>
        cases fl₂ with
        | ret r =>
          obtain ⟨rfl, hr2⟩ := hr₂
          repeat (any_goals (first | assumption | wp_step))
        | _ => exact hr₂.elim
    | _ => exact hr.elim
end

/-! ### sorted(set(xs)) -/
def rSetL (K : PySem.W.Frag) (w : World) : List L2.V → Hp → VK → Prop := fun vs H Q => ∃ (a : Addr) (ns : List Int), vs = [.ref a] ∧ SqL K H a (ns.map V.int) ∧ ns.length < 64 ∧ ∀ p c, H p = none → c ≤ ns.length → Q (.ref p) (L2.upd H p (SetO w p (fun j => decide (j ∈ ns)) c))
theorem cr_setL {X : Cx} (hc : X.calm = true) : CallR X (.type "set") (rSetL X.K X.w) := by
  intro pins s σ H vs us Q I r h
  obtain ⟨a, ns, rfl, hs, hz, q⟩ := h
  obtain ⟨its, rv, pl, _⟩ := I.list hs
  rw [Vals.ref1 r]
  refine call_setL ns (I.ok.hd hc) pl.isList (by simpa using rv.ints) (by unfold scanBound; omega) fun h' tk c R hcn k => ?_
  exact ⟨.ref s.heap.objs.size, L2.upd H s.heap.objs.size (SetO X.w s.heap.objs.size (fun j => decide (j ∈ ns)) c), I.laid (t' := tk) k (Nat.le_refl _) (setO_new R), rfl, q _ c (I.hok.fresh (Nat.le_refl _)) hcn⟩
section
variable {X : Cx} {F : Fm} {a b c d e o tg : Expr} {es rest : List Expr} {st : List Stmt} {pos p p2 apos pos' : Pos} {da db dc dd de : DE} {dt : DS}
def dSortSet (d : DE) : DA := fun sl P => d sl fun x sl1 => match x with
  | .lst ds => ∃ ns, intsD ds = some ns ∧ ns.length < 64 ∧ ∀ ms : List Int, ms.Pairwise (· < ·) → (∀ k, k ∈ ms ↔ k ∈ ns) → P (ms.map D.int) sl1
  | _ => False
theorem dn_sortSet (hc : X.calm = true) (hg : Gl X "sorted") (hm : X.mg "sorted" = none) (hg2 : Gl X "set") (hm2 : X.mg "set" = none) (ha : PDE X F e de) (he : starEach [e] X.env = (false, eval e X.env) :: starEach [] X.env := by rfl) (hpl : (backTo p2 (starEach [] X.env)).any (·.1) = false := by rfl)
    (he2 : starEach [.Call (.Name "set" p) [e] [] p2] X.env = (false, eval (.Call (.Name "set" p) [e] [] p2) X.env) :: starEach [] X.env := by rfl) (hpl2 : (backTo pos (starEach [] X.env)).any (·.1) = false := by rfl) :
    PDN X F (.Call (.Name "sorted" apos) [.Call (.Name "set" p) [e] [] p2] [] pos) (dSortSet de) :=
  PE_imp (pe_callB (cr_sortedSet hc) hg hm (by decide +kernel) (pa_cons (pe_callTy (cr_setL hc) hg2 hm2 (by decide +kernel) (pa_cons ha pa_nil he) (by decide) (by decide) he hpl) pa_nil he2) (by decide) (by decide) he2 hpl2) fun σ H Q ⟨sl, S, P, R, p, k⟩ => ⟨sl, S, _, R, p, fun v d sl1 S1 H1 p1 R1 e1 r1 => by
    cases r1 <;> first | exact p1.elim | skip
    rename_i a vs ds h r
    obtain ⟨ns, h1, h2, h3⟩ := p1
    have := ints_of h1
    subst this
    refine ⟨_, ns, rfl, .inl (.inl (by rw [← r.ints]; exact R1.sh _ _ h)), h2, fun q c hq hcn => ?_⟩
    have R2 := R1.grow (Gr.own (o := SetO X.w q (fun j => decide (j ∈ ns)) c) R1.sh hq)
    refine ⟨q, _, c, rfl, upd_same, by omega, fun ms l hs hm hlen hl => ?_⟩
    exact k l _ _ sl1 S1 _ (h3 ms hs fun k => by rw [hm k]; simp) (R2.grow (Gr.own R2.sh hl)) e1 (R2.sh.free hl) (R2.dm l hl) upd_same Reps.ofInts (R2.notOwn hl)⟩

/-! ### a op b op' c op'' d -/
def tChain3 (r r' r'' : R2) (ta tb tc td : TE) : TE := fun σ H Q => ta σ H fun x H1 => tb σ H1 fun y H2 => r x y H2 fun z H3 => ∃ k, z = .bl k ∧
  (if k = true then tc σ H3 fun w' H4 => r' y w' H4 fun z' H5 => ∃ k', z' = .bl k' ∧ (if k' = true then td σ H5 fun w2 H6 => r'' w' w2 H6 Q else Q (.bl false) H5) else Q (.bl false) H3)
theorem pt_chain3 {op op' op'' : CmpOp} {r r' r'' : R2} {ta tb tc td : TE} (ho : OpR X (compareOp op) r) (ho' : OpR X (compareOp op') r') (ho'' : OpR X (compareOp op'') r'') (ha : PE X a ta) (hb : PE X b tb) (hc : PE X c tc) (hd : PE X d td)
    (hm : lastMarks [op, op', op''] [b, c, d] = false := by with_unfolding_all rfl) : PT X (.Compare a [op, op', op''] [b, c, d] pos) (tTest (tChain3 r r' r'' ta tb tc td)) := by
  refine ⟨fun pins s σ H Q I h => ?_⟩
  refine isTrue_chain (thn (ha.run pins s σ H _ I h) fun v s1 ⟨x, H1, I1, r1, q1⟩ => test_link (thn (hb.run pins s1 σ H1 _ I1 q1) fun u s2 ⟨y, H2, I2, r2, q2⟩ =>
    thn (ho pins s2 σ H2 x y v u _ I2 r1 r2 q2) fun d' s3 ⟨z, H3, I3, r3, k, e, q3⟩ => ?_)) hm
  subst e
  cases r3
  refine wpAny_truthy_bool ?_
  cases k with
  | false =>
    obtain ⟨k', e', q'⟩ := q3
    cases e'
    exact ite_ff ⟨H3, I3, q'⟩
  | true =>
    refine ite_tt (test_link (thn (hc.run pins s3 σ H3 _ I3 q3) fun w' s4 ⟨z', H4, I4, r4, q4⟩ => thn (ho' pins s4 σ H4 y z' u w' _ I4 r2 r4 q4) fun d' s5 ⟨z2, H5, I5, r5, k2, e2, q5⟩ => ?_))
    subst e2
    cases r5
    refine wpAny_truthy_bool ?_
    cases k2 with
    | false =>
      obtain ⟨k', e', q'⟩ := q5
      cases e'
      exact ite_ff ⟨H5, I5, q'⟩
    | true =>
      refine ite_tt (test_last (thn (hd.run pins s5 σ H5 _ I5 q5) fun w2 s6 ⟨z3, H6, I6, r6, q6⟩ => thn (ho'' pins s6 σ H6 z' z3 w' w2 _ I6 r4 r6 q6) fun d' s7 ⟨z4, H7, I7, r7, k3, e3, q7⟩ => ?_))
      subst e3
      cases r7
      exact wpAny_truthy_bool ⟨H7, I7, q7⟩
theorem pe_chain3 {op op' op'' : CmpOp} {r r' r'' : R2} {ta tb tc td : TE} (ho : OpR X (compareOp op) r) (ho' : OpR X (compareOp op') r') (ho'' : OpR X (compareOp op'') r'') (ha : PE X a ta) (hb : PE X b tb) (hc : PE X c tc) (hd : PE X d td)
    (hm : lastMarks [op, op', op''] [b, c, d] = false := by with_unfolding_all rfl) : PE X (.Compare a [op, op', op''] [b, c, d] pos) (tChain3 r r' r'' ta tb tc td) := by
  refine ⟨fun pins s σ H Q I h => ?_⟩
  refine Compare_chain (thn (ha.run pins s σ H _ I h) fun v s1 ⟨x, H1, I1, r1, q1⟩ => chain_link (thn (hb.run pins s1 σ H1 _ I1 q1) fun u s2 ⟨y, H2, I2, r2, q2⟩ =>
    thn (ho pins s2 σ H2 x y v u _ I2 r1 r2 q2) fun d' s3 ⟨z, H3, I3, r3, k, e, q3⟩ => ?_)) hm
  subst e
  cases r3
  refine wpAny_truthy_bool ?_
  cases k with
  | false => exact ite_ff ⟨.bl false, H3, I3, rfl, q3⟩
  | true =>
    refine ite_tt (chain_link (thn (hc.run pins s3 σ H3 _ I3 q3) fun w' s4 ⟨z', H4, I4, r4, q4⟩ => thn (ho' pins s4 σ H4 y z' u w' _ I4 r2 r4 q4) fun d' s5 ⟨z2, H5, I5, r5, k2, e2, q5⟩ => ?_))
    subst e2
    cases r5
    refine wpAny_truthy_bool ?_
    cases k2 with
    | false => exact ite_ff ⟨.bl false, H5, I5, rfl, q5⟩
    | true => exact ite_tt (chain_last (thn (hd.run pins s5 σ H5 _ I5 q5) fun w2 s6 ⟨z3, H6, I6, r6, q6⟩ => ho'' pins s6 σ H6 z' z3 w' w2 Q I6 r4 r6 q6))
def dChain3 (r r' r'' : RD2) (a b c d : DE) : DE := fun sl P => a sl fun x sl1 => b sl1 fun y sl2 => r x y fun z => match z with
  | .bl k => if k = true then c sl2 fun w sl3 => r' y w fun z2 => match z2 with
    | .bl k2 => if k2 = true then d sl3 fun w2 sl4 => r'' w w2 fun e => P e sl4 else P (.bl false) sl3
    | _ => False
    else P (.bl false) sl2
  | _ => False
theorem liftC3 {K : PySem.W.Frag} {r r' r'' : R2} {rd rd' rd'' : RD2} (l : LR2 K r rd) (l' : LR2 K r' rd') (l'' : LR2 K r'' rd'') : ∀ σ H Q, tE K F (dChain3 rd rd' rd'' da db dc dd) σ H Q → tChain3 r r' r'' (tE K F da) (tE K F db) (tE K F dc) (tE K F dd) σ H Q := fun σ H Q ⟨sl, S, P, R, p, k⟩ =>
  ⟨sl, S, _, R, p, fun x dx sl1 S1 H1 p1 R1 e1 r1 => ⟨sl1, S1, _, R1, p1, fun y dy sl2 S2 H2 p2 R2 e2 r2 =>
    l x y dx dy S2 H2 _ _ R2.sh (r1.mono e2) r2 p2 fun v d S3 H3 p3 g r3 => by
      cases r3 <;> first | exact p3.elim | skip
      rename_i t
      refine ⟨_, rfl, ?_⟩
      cases t with
      | true => exact iteT ⟨sl2, S3, _, R2.grow g, by simpa using p3, fun w dw sl4 S4 H4 p4 R4 e4 r4 => l' y w dy dw S4 H4 _ _ R4.sh (r2.mono (g.s.trans e4)) r4 p4 fun v d S5 H5 p5 g5 r5 => by
          cases r5 <;> first | exact p5.elim | skip
          rename_i t2
          refine ⟨_, rfl, ?_⟩
          cases t2 with
          | true => exact iteT ⟨sl4, S5, _, R4.grow g5, by simpa using p5, fun w2 dw2 sl6 S6 H6 p6 R6 e6 r6 => l'' w w2 dw dw2 S6 H6 _ _ R6.sh (r4.mono (g5.s.trans e6)) r6 p6 fun v d S7 H7 p7 g7 r7 =>
              k v d sl6 S7 H7 p7 (R6.grow g7) (e1.trans (e2.trans (g.s.trans (e4.trans (g5.s.trans (e6.trans g7.s)))))) r7⟩
          | false => exact iteF (k _ _ sl4 S5 H5 (by simpa using p5) (R4.grow g5) (e1.trans (e2.trans (g.s.trans (e4.trans g5.s)))) (.bl _))⟩
      | false => exact iteF (k _ _ sl2 S3 H3 (by simpa using p3) (R2.grow g) (e1.trans (e2.trans g.s)) (.bl _))⟩⟩
theorem de_chain3 {op op' op'' : CmpOp} {r r' r'' : R2} {rd rd' rd'' : RD2} (ho : OpR X (compareOp op) r) (l : LR2 X.K r rd) (ho' : OpR X (compareOp op') r') (l' : LR2 X.K r' rd') (ho'' : OpR X (compareOp op'') r'') (l'' : LR2 X.K r'' rd'') (ha : PDE X F a da) (hb : PDE X F b db) (hc : PDE X F c dc) (hd : PDE X F d dd)
    (hm : lastMarks [op, op', op''] [b, c, d] = false := by with_unfolding_all rfl) : PDE X F (.Compare a [op, op', op''] [b, c, d] pos) (dChain3 rd rd' rd'' da db dc dd) := PE_imp (pe_chain3 ho ho' ho'' ha hb hc hd hm) (liftC3 l l' l'')
theorem dt_chain3 {op op' op'' : CmpOp} {r r' r'' : R2} {rd rd' rd'' : RD2} (ho : OpR X (compareOp op) r) (l : LR2 X.K r rd) (ho' : OpR X (compareOp op') r') (l' : LR2 X.K r' rd') (ho'' : OpR X (compareOp op'') r'') (l'' : LR2 X.K r'' rd'') (ha : PDE X F a da) (hb : PDE X F b db) (hc : PDE X F c dc) (hd : PDE X F d dd)
    (hm : lastMarks [op, op', op''] [b, c, d] = false := by with_unfolding_all rfl) : PDT X F (.Compare a [op, op', op''] [b, c, d] pos) (dTest (dChain3 rd rd' rd'' da db dc dd)) := PT_imp (pt_chain3 ho ho' ho'' ha hb hc hd hm) (liftTest (liftC3 l l' l''))

/-! ### a, b, c = x, y, z -/
def dPar3 (i j l : Nat) (a b c : DE) : DS := fun N sl => a sl fun x sl1 => b sl1 fun y sl2 => c sl2 fun z sl3 => N.nx (((sl3.set i (.sh x)).set j (.sh y)).set l (.sh z))
theorem ds_par3 {i j l : Nat} {x y z : Str} {px py pz pt : Pos} {kt k2 pt2} (hc : X.calm = true) (hN : X.N.Nodup) (hi : X.N[i]? = some x) (hj : X.N[j]? = some y) (hl : X.N[l]? = some z) (hij : i ≠ j) (hil : i ≠ l) (hjl : j ≠ l)
    (hx : X.env.scope.names.lookup x = some .local) (hy : X.env.scope.names.lookup y = some .local) (hz : X.env.scope.names.lookup z = some .local) (ha : PDE X F a da) (hb : PDE X F b db) (hcc : PDE X F c dc)
    (hw : swappedStores [.Tuple [.Name x px, .Name y py, .Name z pz] kt pt] (.Tuple [a, b, c] k2 pt2) X.env = pure (some [x, y, z]))
    (hs : swapsWithSole [.Tuple [.Name x px, .Name y py, .Name z pz] kt pt] (.Tuple [a, b, c] k2 pt2) pos.line X.env = pure false := by rfl)
    (h1 : starEach [a, b, c] X.env = (false, eval a X.env) :: starEach [b, c] X.env := by rfl) (h2 : starEach [b, c] X.env = (false, eval b X.env) :: starEach [c] X.env := by rfl) (h3 : starEach [c] X.env = (false, eval c X.env) :: starEach [] X.env := by rfl) :
    PDS X F (.Assign [.Tuple [.Name x px, .Name y py, .Name z pz] kt pt] (.Tuple [a, b, c] k2 pt2) pos) (dPar3 i j l da db dc) :=
  PS_impI (ps_par3 hc hN hi hj hl hij hil hjl hx hy hz (pa_cons ha (pa_cons hb (pa_cons hcc pa_nil h3) h2) h1) hw hs) fun D' σ H hlen ⟨sl, S, N, R, h, lk⟩ => ⟨sl, S, _, R, h, fun v d sl1 S1 H1 p R1 e1 r1 => ⟨sl1, S1, _, R1, p, fun v2 d2 sl2 S2 H2 p2 R2 e2 r2 => ⟨sl2, S2, _, R2, p2, fun v3 d3 sl3 S3 H3 p3 R3 e3 r3 =>
    ⟨v, v2, v3, rfl, lk.nx _ _ S3 H3 p3 (((R3.setSh (by rw [hlen]; exact (List.getElem?_eq_some_iff.mp hi).1) (r1.mono (e2.trans e3))).setSh (by rw [List.length_set, hlen]; exact (List.getElem?_eq_some_iff.mp hj).1) (r2.mono e3)).setSh (by rw [List.length_set, List.length_set, hlen]; exact (List.getElem?_eq_some_iff.mp hl).1) r3) (e1.trans (e2.trans e3))⟩⟩⟩⟩
/-- a list of one's own will not change from here on -/
def frz (i : Nat) (sl : List Sl) : List Sl := match sl[i]? with
  | some (.ow ds) => sl.set i (.sh (.lst ds))
  | _ => sl
def dFrz (i : Nat) (t : DS) : DS := fun N sl => t N (frz i sl)
theorem dss_frz (i : Nat) (h : PDSs X F st dt) : PDSs X F st (dFrz i dt) := PSs_imp h fun D' σ H ⟨sl, S, N, R, p, l⟩ => by
  unfold dFrz frz at p
  split at p
  · rename_i ds e
    obtain ⟨q, vs, e1, r, ex, R'⟩ := R.freeze e
    exact ⟨_, _, N, R', p, l.mono ex⟩
  · exact ⟨sl, S, N, R, p, l⟩
end
end DL
end
section
set_option maxRecDepth 100000
set_option maxHeartbeats 2000000
/-! D18: + and * of any data, global constants, defs with defaults, comprehensions in short. -/
namespace DL
open PySem PySem.Spec PyProof.Rows L2 RZ StX

section
variable {K : PySem.W.Frag}
/-- a + b: ints, tuples, lists, texts -/
def rdPlus : RD2 := fun a b P => match a, b with
  | .int i, .int j => P (.int (i + j))
  | .tup xs, .tup ys => xs.length + ys.length ≤ sizeLine ∧ P (.tup (xs ++ ys))
  | .lst xs, .lst ys => xs.length + ys.length ≤ sizeLine ∧ P (.lst (xs ++ ys))
  | .str i, .str j => i.length + j.length ≤ sizeLine ∧ P (.str (i ++ j))
  | _, _ => False
def rPlus (K : PySem.W.Frag) : R2 := fun x y H Q => ((rI0 fun i j => .int (i + j)) x y H Q ∨ rCatA K x y H Q) ∨ rCat x y H Q ∨ ∃ i j, x = .str i ∧ y = .str j ∧ i.length + j.length ≤ sizeLine ∧ Q (.str (i ++ j)) H
theorem op_plus {X : Cx} : OpR X (binaryOp .Add) (rPlus X.K) := OpR_or (OpR_or op_add op_catA) (OpR_or op_cat op_add_str)
theorem lr_plus : LR2 K (rPlus K) rdPlus := fun x y a b S H P Q e ra rb p k => by
  unfold rdPlus at p
  split at p
  · cases ra; cases rb
    exact .inl (.inl ⟨_, _, rfl, rfl, k _ _ S H p (Gr.refl e) (.int _)⟩)
  · exact .inl (.inr (lr_catT x y _ _ S H P Q e ra rb p k))
  · cases ra with
    | @lst a1 vs1 _ h r =>
      cases rb with
      | @lst a2 vs2 _ h2 r2 =>
        refine .inr (.inl ⟨_, _, _, _, rfl, rfl, e _ _ h, e _ _ h2, by rw [r.length, r2.length]; exact p.1, fun q hq => ?_⟩)
        have g : Gr S H (upd S q (.lst (vs1 ++ vs2))) (upd H q (.lst (vs1 ++ vs2))) := Gr.new e hq
        exact k _ _ _ _ p.2 g (.lst upd_same ((r.append r2).mono g.s))
  · cases ra; cases rb
    exact .inr (.inr ⟨_, _, rfl, rfl, p.1, k _ _ S H p.2 (Gr.refl e) (.str _)⟩)
  · exact p.elim
/-- t * 1: the tuple itself -/
theorem tuple_mul1 (l : Addr) (items : Array Value) (n : Nat) (dd : Option Addr) (sl : Array (Option Value)) (u : Tok) :
    Meets (Builtin.«tuple.__mul__» ⟨[.ref l, .int 1 u], []⟩) (fun _ R s => s.heap.get? l = some { cls := .type "tuple", dict := dd, data := .seq items n, slots := sl } ∧ R (.ok (.ret (Value.ref l))) s) :=
  .of_wp fun prog w A R s h => by
    obtain ⟨hp, g, d, tk, os⟩ := s
    obtain ⟨hl, h⟩ := h
    have f1 := AutoSeq1.idx_int
    have c1 : (items.isEmpty || (1 : Int) == 1) = true := by simp
    wp_walk using AutoSeq1.wpAny_loadPart' hl
    exact ⟨_, rfl, h⟩
def rRepT1 (K : PySem.W.Frag) : R2 := fun x y H Q => ∃ l xs, x = .ref l ∧ y = .int 1 ∧ SqT K H l xs ∧ Q (.ref l) H
theorem op_repT1 {X : Cx} : OpR X (binaryOp .Mult) (rRepT1 X.K) := by
  intro pins s σ H x y v u Q I rx ry h
  obtain ⟨l, xs, rfl, rfl, hT, q⟩ := h
  cases rx
  obtain ⟨t, rfl⟩ := ry
  obtain ⟨its, r, ⟨⟨cls, dd, data, sl⟩, ho, hc, n, hd⟩, hs⟩ := I.tuple hT
  simp only at hc hd
  subst hc hd
  exact wpAny_binaryOp_repeat_ref (T := "tuple") (U := "int") (by decide) ⟨_, ho, rfl⟩ (fun s' => typeIs_int s' 1 t) noFill_tuple_mul F.fills_int_mul F.slot_int_rmul repeat_tuple F.slot_int_index.lookup
    (call_meets F.slot_int_rmul (typeIs_int s 1 t) F.entry_int_rmul (F.args_int_rmul_2 _ _) (int_rmul_tuple 1 t l its.toArray n dd sl)
      ⟨ho, rfl, ⟨_, ho, rfl⟩, call_meets F.slot_tuple_mul ⟨_, ho, rfl⟩ F.entry_tuple_mul (F.args_tuple_mul_2 _ _) (tuple_mul1 l its.toArray n dd sl t) ⟨ho, ⟨.ref l, H, I, rfl, q⟩⟩⟩)
/-- a * b: ints, a tuple or list and an int -/
def rdTimes : RD2 := fun a b P => match a, b with
  | .int i, .int j => CMul i j ∧ P (.int (i * j))
  | .tup xs, .int k => xs ≠ [] ∧ 1 ≤ k ∧ k ≤ 1000 ∧ xs.length ≤ 1000 ∧ P (.tup (List.replicate k.toNat xs).flatten)
  | .lst xs, .int k => -(2 ^ 63) ≤ k ∧ k < 2 ^ 63 ∧ xs.length * k.toNat ≤ sizeLine ∧ P (.lst (List.replicate k.toNat xs).flatten)
  | _, _ => False
def rTimes (K : PySem.W.Frag) : R2 := fun x y H Q => ((rI CMul fun i j => .int (i * j)) x y H Q ∨ rRepT K x y H Q ∨ rRepT1 K x y H Q) ∨ rRep x y H Q
theorem op_times {X : Cx} : OpR X (binaryOp .Mult) (rTimes X.K) := OpR_or (OpR_or op_mul (OpR_or op_repT op_repT1)) op_rep
theorem lr_times : LR2 K (rTimes K) rdTimes := fun x y a b S H P Q e ra rb p k => by
  unfold rdTimes at p
  split at p
  · cases ra; cases rb
    exact .inl (.inl ⟨_, _, rfl, rfl, p.1, k _ _ S H p.2 (Gr.refl e) (.int _)⟩)
  · rename_i xs kk
    obtain ⟨h1, h2, h3, h4, h5⟩ := p
    by_cases h1' : kk = 1
    · subst h1'
      rw [show (List.replicate (1 : Int).toNat xs).flatten = xs by simp] at h5
      cases rb
      cases ra with
      | tup h r => exact .inl (.inr (.inr ⟨_, _, rfl, rfl, e.sqT h, k _ _ S H h5 (Gr.refl e) (.tup h r)⟩))
    · exact .inl (.inr (.inl (lr_repT x y _ _ S H P Q e ra rb (show rdRepT (.tup xs) (.int kk) P from ⟨h1, by omega, h3, h4, h5⟩) k)))
  · cases rb
    rename_i kk
    cases ra with
    | @lst a1 vs1 _ h r =>
      obtain ⟨h1, h2, h3, h4⟩ := p
      refine .inr ⟨_, _, _, rfl, rfl, e _ _ h, h1, h2, by rw [r.length]; exact h3, fun q hq => ?_⟩
      have g : Gr S H (upd S q (.lst (List.replicate kk.toNat vs1).flatten)) (upd H q (.lst (List.replicate kk.toNat vs1).flatten)) := Gr.new e hq
      exact k _ _ _ _ h4 g (.lst upd_same ((r.rep _).mono g.s))
  · exact p.elim
end
section
variable {X : Cx} {F : Fm} {a b c d e o tg : Expr} {es rest : List Expr} {st : List Stmt} {pos p p2 apos pos' : Pos} {da db dc dd de : DE} {dt : DS}
theorem de_plus (ha : PDE X F a da) (hb : PDE X F b db) : PDE X F (.BinOp a .Add b pos) (dOp rdPlus da db) := de_op op_plus lr_plus ha hb
theorem de_times (ha : PDE X F a da) (hb : PDE X F b db) : PDE X F (.BinOp a .Mult b pos) (dOp rdTimes da db) := de_op op_times lr_times ha hb
/-- a module's int -/
theorem de_gi {x : Str} {i : Int} (hg : Gl X x) (hm : ∃ t, X.mg x = some (.int i t)) (hd : (x == ("__debug__" : Str)) = false := by decide) : PDE X F (.Name x pos) (dC (.int i)) := by
  obtain ⟨t, h⟩ := hm
  exact de_glob hg h (show RelV (.int i) (.int i t) from ⟨t, rfl⟩) (fun _ => .int i) hd
/-- a class, as a value -/
theorem de_gcl {x : Str} {C : Addr} (hg : Gl X x) (hm : X.mg x = some (.ref C)) (hd : (x == ("__debug__" : Str)) = false := by decide) : PDE X F (.Name x pos) (dC (.cls C)) := de_glob hg hm (show RelV (.ref C) (.ref C) from rfl) (fun _ => .cls C) hd
/-- a data list as a list of one's own: a slice -/
def dSlN (d : DE) (l h : DO) : DA := fun sl P => d sl fun x sl1 => l sl1 fun lo sl2 => h sl2 fun hi sl3 => match x with
  | .lst xs => P (cutL xs lo hi) sl3
  | _ => False
theorem dn_sl {lo hi : Option Expr} {p2 : Pos} {dl dh : DO} (he : PDE X F e de) (hl : PDO X F lo dl) (hh : PDO X F hi dh) : PDN X F (.Subscript e (.Slice lo hi none p2) pos) (dSlN de dl dh) := PE_imp (pe_slice sl_list he hl hh) fun σ H Q ⟨sl, S, P, R, p, k⟩ =>
  ⟨sl, S, _, R, p, fun v d sl1 S1 H1 p1 R1 e1 r1 => ⟨sl1, S1, _, R1, p1, fun o1 sl2 S2 H2 p2 R2 e2 => ⟨sl2, S2, _, R2, p2, fun o2 sl3 S3 H3 p3 R3 e3 => by
    have r3 := r1.mono (e2.trans e3)
    cases r3 with
    | @lst a vs ds h r => exact ⟨_, vs, rfl, .inl (.inl (R3.sh _ _ h)), fun q hq => k q _ _ sl3 S3 _ p3 (R3.grow (Gr.own R3.sh hq)) (e1.trans (e2.trans e3)) (R3.sh.free hq) (R3.dm q hq) upd_same (cut_rep r) (R3.notOwn hq)⟩
    | _ => exact p3.elim⟩⟩⟩
end

/-! ### comprehensions without effects, in short -/
theorem take_fm {α β : Type} (f : α → Option β) : ∀ (l : List α) (i : Nat) (x : α), l[i]? = some x → (l.take (i + 1)).filterMap f = (l.take i).filterMap f ++ (f x).toList
  | [], i, x, h => by simp at h
  | a :: l, 0, x, h => by
    simp at h
    subst h
    simp only [List.take_succ_cons, List.take_zero, List.filterMap_cons, List.filterMap_nil, List.nil_append]
    cases f a <;> rfl
  | a :: l, i + 1, x, h => by
    have ih := take_fm f l i x (by simpa using h)
    simp only [List.take_succ_cons, List.filterMap_cons] at ih ⊢
    cases f a <;> simp [ih]
theorem filterMap_take_le {α β : Type} (f : α → Option β) (l : List α) (i : Nat) : ((l.take i).filterMap f).length ≤ l.length := Nat.le_trans (List.length_filterMap_le _ _) (by rw [List.length_take]; omega)
/-- a comprehension whose items are told, each turn of which gives f x (or nothing), the slots staying -/
theorem dLc_fm {di : DI} {g : DG} {tt : DT} {de : DE} {vs : List Nat} {sl sl1 : List Sl} {P : List D → List Sl → Prop} (items : List D) (f : D → Option D)
    (hd : ∀ Q : List D → List Sl → Prop, Q items sl1 → di sl Q) (no : NoOwn sl1 vs) (hl : ∀ i ∈ vs, i < sl1.length) (hz : items.length < sizeLine)
    (step : ∀ x ∈ items, ∀ Q1 : Option D → List Sl → Prop, Q1 (f x) sl1 → g x (wipeS sl1 vs) fun sl3 => tt sl3 fun b sl4 => if b = true then de sl4 fun d sl5 => Q1 (some d) (backS sl1 sl5 vs) else Q1 none (backS sl1 sl4 vs))
    (fin : P (items.filterMap f) sl1) : dLc di g tt de vs sl P := by
  refine hd _ ⟨⟨no, hl⟩, fun i sl acc => sl = sl1 ∧ acc = (items.take i).filterMap f, ⟨rfl, rfl⟩, ?_, ?_⟩
  · rintro i x sl2 acc hi ⟨rfl, rfl⟩
    refine ⟨⟨no, hl⟩, step x (List.mem_of_getElem? hi) (fun o sl' => match o with
      | some d => ((items.take i).filterMap f).length < sizeLine ∧ sl' = sl2 ∧ (items.take i).filterMap f ++ [d] = (items.take (i + 1)).filterMap f
      | none => sl' = sl2 ∧ (items.take i).filterMap f = (items.take (i + 1)).filterMap f) ?_⟩
    have t := take_fm f items i x hi
    have z := filterMap_take_le f items i
    cases hx : f x with
    | none => rw [hx] at t; exact ⟨rfl, by rw [t]; simp⟩
    | some d => rw [hx] at t; exact ⟨by omega, rfl, by rw [t]; rfl⟩
  · rintro sl2 acc ⟨rfl, rfl⟩
    rw [List.take_length]
    exact fin
/-- every item gives h x -/
theorem dLc_map {di : DI} {g : DG} {de : DE} {vs : List Nat} {sl sl1 : List Sl} {P : List D → List Sl → Prop} (items : List D) (h : D → D)
    (hd : ∀ Q : List D → List Sl → Prop, Q items sl1 → di sl Q) (no : NoOwn sl1 vs) (hl : ∀ i ∈ vs, i < sl1.length) (hz : items.length < sizeLine)
    (step : ∀ x ∈ items, ∀ Q1 : D → List Sl → Prop, Q1 (h x) sl1 → g x (wipeS sl1 vs) fun sl3 => de sl3 fun d sl5 => Q1 d (backS sl1 sl5 vs))
    (fin : P (items.map h) sl1) : dLc di g dYes de vs sl P := by
  refine hd _ ⟨⟨no, hl⟩, fun i sl acc => sl = sl1 ∧ acc = (items.take i).map h, ⟨rfl, rfl⟩, ?_, ?_⟩
  · rintro i x sl2 acc hi ⟨rfl, rfl⟩
    refine ⟨⟨no, hl⟩, ?_⟩
    have hlen : ((items.take i).map h).length < sizeLine := by rw [List.length_map, List.length_take]; omega
    have ht : (items.take i).map h ++ [h x] = (items.take (i + 1)).map h := by
      rw [List.take_add_one, hi, List.map_append]
      rfl
    have s := step x (List.mem_of_getElem? hi) (fun d sl' => ((items.take i).map h).length < sizeLine ∧ sl' = sl2 ∧ (items.take i).map h ++ [d] = (items.take (i + 1)).map h) ⟨hlen, rfl, ht⟩
    have e : ∀ (Q2 : Bool → List Sl → Prop), (fun sl3 => dYes sl3 Q2) = fun sl3 => Q2 true sl3 := fun _ => rfl
    rw [e]
    have e2 : ∀ (A B : List Sl → Prop), (fun sl3 => if true = true then A sl3 else B sl3) = A := fun A B => funext fun _ => if_pos rfl
    rw [e2]
    exact s
  · rintro sl2 acc ⟨rfl, rfl⟩
    rw [List.take_length]
    exact fin

/-! ### defs with defaults -/
structure FunA (K : PySem.W.Frag) (x qual : Str) (st : Stmt) (f : Addr) (fd : FuncData) : Prop where
  ex : ∃ (oc : Value) (od : Option Addr) (dV kV doc pm : Value) (an : Option Addr) (cdv ct : Value) (osl : Array (Option Value)),
    fd = PySem.W.fnOf x qual (defArgs st) (defBody st) (defScope st) dV kV doc pm an cdv ct ∧ K.lookup f = some ⟨oc, od, .func fd, osl⟩ ∧ PySem.W.codeIn K cdv qual = true
  kp : PySem.W.keepIn K (.ref f) = true
section
variable {P : Program} {w : World} {K : PySem.W.Frag} {mg : Str → Option Value} {base : Heap} {x qual : Str} {st : Stmt} {f C : Addr} {fd : FuncData} {N ps : List Str} {k : Nat}
theorem okDA {sp : SD} {dt : DS} (G : FunA K x qual st f fd) (Sc : FnScope N ps (defScope st)) (len : ∀ ds P, sp ds P → ds.length = ps.length)
    (hb : ∀ (cdv : Value) (A : Around) (outer : List Env) (s : Shared) (H : Hp) (E : XK) (F : Fm), Room k (A.deeper (envOfC qual (defScope st) s.heap.objs.size f cdv)) → PDSs (cxOf CX0 P w K mg base N qual (defScope st) f cdv A outer s H E).nox F (defBody st) dt)
    (hd : ∀ ds Q, sp ds Q → dt { nx := fun _ => Q .non, rt := fun d _ => Q d } (startS N ds)) : FnOk P w K mg base CX0 (k + 1) f fd ps (SpD K sp) := by
  obtain ⟨oc, od, dV, kV, doc, pm, an, cdv, ct, osl, rfl, lk, hcd⟩ := G.ex
  refine fn_of lk hcd Sc (fun vs H Q E ⟨S, ds, P, e, r, h, _⟩ => r.length.trans (len ds P h)) fun A outer s H vs Q E hr ⟨S, ds, P', e, r, h, kk⟩ => ?_
  refine ⟨_, (hb cdv A outer s H E (frD S H) hr).nox, startS N ds, S, _, startD_ok e r, hd ds P' h, ⟨fun sl σ S' H' p R e' => kk .non .non S' H' p ⟨R.ss, R.sh, R.bh, R.nw⟩ .non, fun v d sl σ S' H' p R e' rv => kk v d S' H' p ⟨R.ss, R.sh, R.bh, R.nw⟩ rv, fun _ _ _ _ z => z.elim, fun _ _ _ _ z => z.elim, fun _ _ _ _ _ _ _ z => z.elim⟩⟩
end

/-! ### the rules whose readings name K, with K given -/
section
variable {X : Cx} {F : Fm} {a b c d e o tg : Expr} {es rest : List Expr} {st : List Stmt} {pos p p2 apos pos' : Pos} {da db dc dd de : DE} {dt : DS} {dA : DA} {V : Nat → Prop}
theorem de_fldK (K : PySem.W.Frag) {f : Str} (h : PDE X F e de) (hK : X.K = K := by rfl) (hb : attributeBase e f X.env (eval e X.env) = eval e X.env := by rfl) : PDE X F (.Attribute e f pos) (dFld K de f) := by
  subst hK
  exact de_fld h hb
theorem de_fldIK (K : PySem.W.Frag) (i : Nat) {x f : Str} (hK : X.K = K := by rfl) (hb : attributeBase (.Name x p) f X.env (eval (.Name x p) X.env) = eval (.Name x p) X.env := by rfl) (hN : X.N[i]? = some x := by rfl) (hv : Vis X.env.scope x := by first | exact Or.inl rfl | exact Or.inr (Or.inl rfl) | exact Or.inr (Or.inr rfl))
    (hd : (x == ("__debug__" : Str)) = false := by decide) (hcd : (x == ("__classdict__" : Str)) = false := by decide) : PDE X F (.Attribute (.Name x p) f pos) (dFldI K i f) := by
  subst hK
  exact de_fldI i hb hN hv hd hcd
theorem ds_fsetK (K : PySem.W.Frag) (i : Nat) {x f : Str} {px : Pos} (he : PDE X F e de) (hK : X.K = K := by rfl) (hs : swapsWith e (some (.Attribute (.Name x px) f pos')) pos.line X.env = pure false := by rfl) (hN : X.N[i]? = some x := by rfl) (hv : Vis X.env.scope x := by first | exact Or.inl rfl | exact Or.inr (Or.inl rfl) | exact Or.inr (Or.inr rfl))
    (hd : (x == ("__debug__" : Str)) = false := by decide) (hcd : (x == ("__classdict__" : Str)) = false := by decide) : PDS X F (.Assign [.Attribute (.Name x px) f pos'] e pos) (dFset K i f de) := by
  subst hK
  exact ds_fset i he hs hN hv hd hcd
theorem dg_fldK (K : PySem.W.Frag) (i : Nat) {x f : Str} (hK : X.K = K := by rfl) (hN : X.N[i]? = some x := by rfl) (hv : Vis X.env.scope x := by first | exact Or.inl rfl | exact Or.inr (Or.inl rfl) | exact Or.inr (Or.inr rfl))
    (hd : (x == ("__debug__" : Str)) = false := by decide) (hcd : (x == ("__classdict__" : Str)) = false := by decide) : PDG X F V (.Attribute (.Name x p) f pos) (gFs K i f) := by
  subst hK
  exact dg_fld i hN hv hd hcd
theorem de_isiK (K : PySem.W.Frag) (hg : Gl X "isinstance") (hm : X.mg "isinstance" = none) (ha : PDE X F a da) (hb : PDE X F b db) (hK : X.K = K := by rfl) (he : starEach [a, b] X.env = (false, eval a X.env) :: starEach [b] X.env := by rfl) (he2 : starEach [b] X.env = (false, eval b X.env) :: starEach [] X.env := by rfl) (hpl : (backTo pos (starEach [b] X.env)).any (·.1) = false := by rfl) :
    PDE X F (.Call (.Name "isinstance" p) [a, b] [] pos) (dCB (rdIsi K) (dCons da (dCons db dNil))) := by
  subst hK
  exact de_isi hg hm ha hb he he2 hpl
theorem de_isiTK (K : PySem.W.Frag) {x1} (hg : Gl X "isinstance") (hm : X.mg "isinstance" = none) (ha : PDE X F a da) (hr : PDA X F es dA) (hK : X.K = K := by rfl) (he : starEach [a, .Tuple es x1 p2] X.env = (false, eval a X.env) :: starEach [.Tuple es x1 p2] X.env := by rfl) (he2 : starEach [.Tuple es x1 p2] X.env = (false, eval (.Tuple es x1 p2) X.env) :: starEach [] X.env := by rfl)
    (hpl : (backTo pos (starEach [.Tuple es x1 p2] X.env)).any (·.1) = false := by rfl) : PDE X F (.Call (.Name "isinstance" p) [a, .Tuple es x1 p2] [] pos) (dIsiT K da dA) := by
  subst hK
  exact de_isiT hg hm ha hr he he2 hpl
end
end DL
end
section
set_option maxRecDepth 100000
set_option maxHeartbeats 2000000
/-! D19: name = [.. for ..]. -/
namespace DL
open PySem PySem.Spec PyProof.Rows L2 RZ StX

section
variable {X : Cx} {F : Fm} {tg iter elt : Expr} {ifs : List Expr} {pos spos py : Pos} {de : DE} {tt : DT} {g : DG} {di : DI} {scope : Scope} {own : List (Str × Nat)} {i : Nat} {y : Str}
theorem ps_lcN (hc : X.calm = true) (hN : X.N.Nodup) (hy : X.N[i]? = some y) (hyl : X.env.scope.names.lookup y = some .local) (hsw : swapsWith (.ListComp elt [⟨tg, iter, ifs, 0⟩] scope pos) (some (.Name y py)) spos.line X.env = pure true)
    (hi : PDI X F tg iter di) (ok : BlkOk X.N X.env.scope scope own)
    (hg : ∀ (F : Fm) (s : Shared) (H : Hp) (C : Addr) (cl : List (Str × Addr)) (fp : List Addr), PDG (X.blk s H scope (compEnvC scope cl C X.env) fp) F (fun i => i ∈ own.map (·.2)) tg g) (ht : ∀ (F : Fm) (s : Shared) (H : Hp) (C : Addr) (cl : List (Str × Addr)) (fp : List Addr), PDTs (X.blk s H scope (compEnvC scope cl C X.env) fp) F ifs tt)
    (he : ∀ (F : Fm) (s : Shared) (H : Hp) (C : Addr) (cl : List (Str × Addr)) (fp : List Addr), PDE (X.blk s H scope (compEnvC scope cl C X.env) fp) F elt de) (hs : ∀ x, foldedSetIterable iter X.env x = pure x := by intro _; rfl) :
    PS X (.Assign [.Name y py] (.ListComp elt [⟨tg, iter, ifs, 0⟩] scope pos) spos) (tAsg (tN X.K F (dLc di g tt de (own.map (·.2)))) (gName i)) := by
  have hg' : ∀ (s : Shared) (H : Hp) (C : Addr) (cl : List (Str × Addr)) (fp : List Addr), PG (X.blk s H scope (compEnvC scope cl C X.env) fp) tg (tGtA X.K (fun i => i ∈ own.map (·.2)) g) := fun s H C cl fp => ⟨fun pins s' σ H' v u Q I r ⟨F, q⟩ => (hg F s H C cl fp).run pins s' σ H' v u Q I r q⟩
  have ht' : ∀ (s : Shared) (H : Hp) (C : Addr) (cl : List (Str × Addr)) (fp : List Addr), PTs (X.blk s H scope (compEnvC scope cl C X.env) fp) ifs (tTsA X.K tt) := fun s H C cl fp => ⟨fun pins s' σ H' Q I ⟨F, q⟩ => (ht F s H C cl fp).run pins s' σ H' Q I q⟩
  have he' : ∀ (s : Shared) (H : Hp) (C : Addr) (cl : List (Str × Addr)) (fp : List Addr), PE (X.blk s H scope (compEnvC scope cl C X.env) fp) elt (tEA X.K de) := fun s H C cl fp => ⟨fun pins s' σ H' Q I ⟨F, q⟩ => (he F s H C cl fp).run pins s' σ H' Q I q⟩
  exact PS_imp (ps_setLc hc hN hy hyl hsw hi ok hg' ht' he' hs) fun D' σ H q => lc_imp X.K F di g tt de _ σ H _ q
/-- name = a comprehension, data -/
theorem ds_setLc (hc : X.calm = true) (hN : X.N.Nodup) (hy : X.N[i]? = some y) (hyl : X.env.scope.names.lookup y = some .local) (hsw : swapsWith (.ListComp elt [⟨tg, iter, ifs, 0⟩] scope pos) (some (.Name y py)) spos.line X.env = pure true)
    (hi : PDI X F tg iter di) (ok : BlkOk X.N X.env.scope scope own)
    (hg : ∀ (F : Fm) (s : Shared) (H : Hp) (C : Addr) (cl : List (Str × Addr)) (fp : List Addr), PDG (X.blk s H scope (compEnvC scope cl C X.env) fp) F (fun i => i ∈ own.map (·.2)) tg g) (ht : ∀ (F : Fm) (s : Shared) (H : Hp) (C : Addr) (cl : List (Str × Addr)) (fp : List Addr), PDTs (X.blk s H scope (compEnvC scope cl C X.env) fp) F ifs tt)
    (he : ∀ (F : Fm) (s : Shared) (H : Hp) (C : Addr) (cl : List (Str × Addr)) (fp : List Addr), PDE (X.blk s H scope (compEnvC scope cl C X.env) fp) F elt de) (hs : ∀ x, foldedSetIterable iter X.env x = pure x := by intro _; rfl) :
    PDS X F (.Assign [.Name y py] (.ListComp elt [⟨tg, iter, ifs, 0⟩] scope pos) spos) (dAsg (dShare (dLc di g tt de (own.map (·.2)))) (gNm i)) :=
  PS_impI (ps_lcN hc hN hy hyl hsw hi ok hg ht he hs) fun D' σ H hl ⟨sl, S, N, R, h, l⟩ => ⟨sl, S, _, R, h, fun q vs ds sl1 S1 H1 p R1 e1 n1 hn h1 r1 no => by
    have ex : Ex S1 (upd S1 q (.lst vs)) := Ex.new n1
    exact l.nx _ _ (upd S1 q (.lst vs)) H1 p ((R1.share n1 hn h1 no).setSh (by rw [hl]; exact (List.getElem?_eq_some_iff.mp hy).1) (.lst upd_same (r1.mono ex))) (e1.trans ex)⟩
/-- .. a list of one's own -/
theorem ds_setLcN (hc : X.calm = true) (hN : X.N.Nodup) (hy : X.N[i]? = some y) (hyl : X.env.scope.names.lookup y = some .local) (hsw : swapsWith (.ListComp elt [⟨tg, iter, ifs, 0⟩] scope pos) (some (.Name y py)) spos.line X.env = pure true)
    (hi : PDI X F tg iter di) (ok : BlkOk X.N X.env.scope scope own)
    (hg : ∀ (F : Fm) (s : Shared) (H : Hp) (C : Addr) (cl : List (Str × Addr)) (fp : List Addr), PDG (X.blk s H scope (compEnvC scope cl C X.env) fp) F (fun i => i ∈ own.map (·.2)) tg g) (ht : ∀ (F : Fm) (s : Shared) (H : Hp) (C : Addr) (cl : List (Str × Addr)) (fp : List Addr), PDTs (X.blk s H scope (compEnvC scope cl C X.env) fp) F ifs tt)
    (he : ∀ (F : Fm) (s : Shared) (H : Hp) (C : Addr) (cl : List (Str × Addr)) (fp : List Addr), PDE (X.blk s H scope (compEnvC scope cl C X.env) fp) F elt de) (hs : ∀ x, foldedSetIterable iter X.env x = pure x := by intro _; rfl) :
    PDS X F (.Assign [.Name y py] (.ListComp elt [⟨tg, iter, ifs, 0⟩] scope pos) spos) (dSetN i (dLc di g tt de (own.map (·.2)))) :=
  PS_impI (ps_lcN hc hN hy hyl hsw hi ok hg ht he hs) fun D' σ H hl ⟨sl, S, N, R, h, l⟩ => ⟨sl, S, _, R, h, fun q vs ds sl1 S1 H1 p R1 e1 n1 hn h1 r1 no => l.nx _ _ S1 H1 p (R1.setOw (by rw [hl]; exact (List.getElem?_eq_some_iff.mp hy).1) n1 hn h1 r1 no) e1⟩
end
end DL
end
section
set_option maxRecDepth 100000
set_option maxHeartbeats 2000000
/-! D20: sum of a tuple. -/
namespace DL
open PySem PySem.Spec PyProof.Rows L2 RZ
/-- sum(xs) of a list or tuple of ints -/
def rSumA (K : PySem.W.Frag) : List V → Hp → VK → Prop := fun vs H Q => ∃ (a : Addr) (ns : List Int), vs = [V.ref a] ∧ (SqL K H a (ns.map V.int) ∨ SqT K H a (ns.map V.int)) ∧ Q (.int ns.sum) H
section
variable {X : Cx}
theorem cr_sumA (hc : X.calm = true) : CallR X (.builtin "sum") (rSumA X.K) := by
  intro pins s σ H vs us Q I r h
  obtain ⟨a, ns, rfl, hs | hs, q⟩ := h
  · obtain ⟨its, rv, hl, _⟩ := I.list hs
    rw [Vals.ref1 r]
    exact sum_raw (I.ok.hd hc) hl.isList rv.ints fun h' tk t' hk => ⟨.int _, H, I.kept hk, ⟨_, rfl⟩, q⟩
  · obtain ⟨its, rv, hl, _⟩ := I.tuple hs
    rw [Vals.ref1 r]
    obtain ⟨xs, hx⟩ := rv.ints.allInts.items
    have hn : numsOf its.toArray.toList = ns := by rw [show its.toArray.toList = its from rfl, rv.ints.numsOf]
    rw [hx] at hl hn
    rw [nums_intItems] at hn
    refine PySem.W.ktm_sumG (I.ok.hd hc) hl fun h' tk t' hk => ?_
    rw [preSum_eq, List.take_of_length_le (by simp), hn]
    exact ⟨.int _, H, I.kept hk, ⟨_, rfl⟩, q⟩
end
section
variable {K : PySem.W.Frag}
def rdSumA : D → (D → Prop) → Prop := fun d P => match d with
  | .lst ds => ∃ ns, intsD ds = some ns ∧ P (.int ns.sum)
  | .tup ds => ∃ ns, intsD ds = some ns ∧ P (.int ns.sum)
  | _ => False
theorem lr_sumA : LRC K (rSumA K) (fun xs P => match xs with | [d] => rdSumA d P | _ => False) := lr1 fun v d S H P Q e r p k => by
  cases r with
  | lst h r =>
    obtain ⟨bs, h1, h2⟩ := p
    have := ints_of h1
    subst this
    exact ⟨_, bs, rfl, .inl (.inl (.inl (by rw [← r.ints]; exact e _ _ h))), k _ _ S H h2 (Gr.refl e) (.int _)⟩
  | tup h r =>
    obtain ⟨bs, h1, h2⟩ := p
    have := ints_of h1
    subst this
    exact ⟨_, bs, rfl, .inr (by rw [← r.ints]; exact e.sqT h), k _ _ S H h2 (Gr.refl e) (.int _)⟩
  | _ => exact p.elim
end
end DL
end
section
set_option maxRecDepth 100000
set_option maxHeartbeats 2000000
/-! X1: the head's facts for the layer: defs with their closures, facts as truths of the part of the heap. -/
namespace DL
open PySem PySem.Spec PyProof.Rows L2 He NdefX

/-- what a part of the heap tells of a def -/
abbrev FnXV : Type := Option (Str × Str × Arguments × FuncBody × Scope × Addr × List Str × Addr)
def fnXV (K : PySem.W.Frag) (p : Str × Option Str) : FnXV := match K.lookup (fAd K p) with
  | some ⟨_, _, .func fd, _⟩ => some (fd.name, fd.qualname, fd.params, fd.body, fd.scope, fd.globals, fd.closure.map (·.1), fd.builtins)
  | _ => none
/-- one def: where it stands, its names, its statement, its captured names, its defaults -/
structure DefX where
  at_ : Str × Option Str
  name : Str
  qual : Str
  st : Stmt
  clo : List Str := []
  dfl : List Dv := []
def DefX.val (d : DefX) : FnXV := some (d.name, d.qual, defArgs d.st, .stmts (defBody d.st), defScope d.st, mainGlobals, d.clo, builtinsNs)
def DefX.ok (K : PySem.W.Frag) (d : DefX) : Bool := PySem.W.keepIn K (.ref (fAd K d.at_)) && (match K.lookup (fAd K d.at_) with
  | some ⟨_, _, .func fd, _⟩ => PySem.W.codeIn K fd.code d.qual && dflB K fd.defaults (d.dfl.map (Dv.v K))
  | _ => false)
/-- the data of a def -/
def fdX (K : PySem.W.Frag) (p : Str × Option Str) : Option FuncData := match K.lookup (fAd K p) with
  | some ⟨_, _, .func fd, _⟩ => some fd
  | _ => none
theorem DefX.fn {K : PySem.W.Frag} {d : DefX} (e : fnXV K d.at_ = d.val) (c : d.ok K = true) : ∃ (oc : Value) (od : Option Addr) (fd : FuncData) (osl : Array (Option Value)) (cl : List (Str × Addr)) (dV kV doc pm : Value) (an : Option Addr) (cdv ct : Value),
    K.lookup (fAd K d.at_) = some ⟨oc, od, .func fd, osl⟩ ∧ fd = PySem.W.fnX d.name d.qual (defArgs d.st) (defBody d.st) (defScope d.st) cl dV kV doc pm an cdv ct ∧ cl.map (·.1) = d.clo ∧ PySem.W.codeIn K cdv d.qual = true ∧ DflV K dV (d.dfl.map (Dv.v K)) ∧ PySem.W.keepIn K (.ref (fAd K d.at_)) = true := by
  obtain ⟨kp, c2⟩ := ba c
  unfold fnXV at e
  cases q : K.lookup (fAd K d.at_) with
  | none =>
    rw [q] at c2
    cases c2
  | some o =>
    obtain ⟨oc, od, dt, osl⟩ := o
    rw [q] at c2 e
    cases dt with
    | func fd =>
      obtain ⟨n1, n2, n3, n4, n5, n6, n7, n8, n9, n10, n11, n12, n13, n14, n15⟩ := fd
      have e2 : (some (n1, n2, n3, n4, n5, n6, n7.map (·.1), n15) : FnXV) = some (d.name, d.qual, defArgs d.st, .stmts (defBody d.st), defScope d.st, mainGlobals, d.clo, builtinsNs) := e
      simp only [Option.some.injEq, Prod.mk.injEq] at e2
      obtain ⟨h1, h2, h3, h4, h5, h6, h7, h8⟩ := e2
      subst h1 h2 h3 h4 h5 h6 h8
      obtain ⟨k1, k2⟩ := ba (show (PySem.W.codeIn K n13 d.qual && dflB K n8 (d.dfl.map (Dv.v K))) = true from c2)
      exact ⟨oc, od, _, osl, n7, n8, n9, n10, n11, n12, n13, n14, rfl, rfl, h7, k1, dflB_ok k2, kp⟩
    | _ => cases c2
theorem DefX.fun_ {K : PySem.W.Frag} {d : DefX} (hc : d.clo = []) (hd : d.dfl = []) (e : fnXV K d.at_ = d.val) (c : d.ok K = true) : ∃ fd, Fun K d.name d.qual d.st (fAd K d.at_) fd := by
  obtain ⟨oc, od, fd, osl, cl, dV, kV, doc, pm, an, cdv, ct, lk, hf, hcl, hcd, dv, kp⟩ := d.fn e c
  rw [hc] at hcl
  obtain rfl : cl = [] := by simpa using hcl
  rw [hd] at dv
  rcases dv with ⟨_, rfl⟩ | ⟨h, _⟩
  · subst hf
    exact ⟨_, ⟨oc, od, kV, doc, pm, an, cdv, ct, osl, rfl, lk, hcd⟩, kp⟩
  · exact absurd rfl h
theorem DefX.funA {K : PySem.W.Frag} {d : DefX} (hc : d.clo = []) (e : fnXV K d.at_ = d.val) (c : d.ok K = true) : ∃ fd, FunD K d.name d.qual (defArgs d.st) (defBody d.st) (defScope d.st) (d.dfl.map (Dv.v K)) [] (fAd K d.at_) fd ∧ FunA K d.name d.qual d.st (fAd K d.at_) fd := by
  obtain ⟨oc, od, fd, osl, cl, dV, kV, doc, pm, an, cdv, ct, lk, hf, hcl, hcd, dv, kp⟩ := d.fn e c
  rw [hc] at hcl
  obtain rfl : cl = [] := by simpa using hcl
  subst hf
  exact ⟨_, ⟨⟨oc, od, dV, kV, doc, pm, an, cdv, ct, osl, rfl, lk, hcd, dv, .inl rfl⟩, kp⟩, ⟨oc, od, dV, kV, doc, pm, an, cdv, ct, osl, rfl, lk, hcd⟩, kp⟩
/-- the cell of a def's class -/
def ccX (K : PySem.W.Frag) (p : Str × Option Str) : Addr := match K.lookup (fAd K p) with
  | some ⟨_, _, .func fd, _⟩ => (match fd.closure with
    | (_, c) :: _ => c
    | [] => 0)
  | _ => 0
def cdX (K : PySem.W.Frag) (p : Str × Option Str) : Addr := match K.lookup (fAd K p) with
  | some ⟨_, _, .func fd, _⟩ => (match fd.code with
    | .ref c => c
    | _ => 0)
  | _ => 0
theorem DefX.funS {K : PySem.W.Frag} {d : DefX} (hc : d.clo = [("__class__" : Str)]) (hd : d.dfl = []) (e : fnXV K d.at_ = d.val) (c : d.ok K = true) : ∃ fd, FunS K d.name d.qual d.st (fAd K d.at_) (ccX K d.at_) (cdX K d.at_) fd := by
  obtain ⟨oc, od, fd, osl, cl, dV, kV, doc, pm, an, cdv, ct, lk, hf, hcl, hcd, dv, kp⟩ := d.fn e c
  rw [hc] at hcl
  obtain ⟨cc, rfl⟩ : ∃ cc, cl = [(("__class__" : Str), cc)] := by
    cases cl with
    | nil => cases hcl
    | cons p r =>
      cases r with
      | cons _ _ => simp at hcl
      | nil =>
        obtain ⟨y, cc⟩ := p
        have : y = "__class__" := by simpa using hcl
        subst this
        exact ⟨cc, rfl⟩
  rw [hd] at dv
  have ecc : ccX K d.at_ = cc := by unfold ccX; rw [lk, hf]
  obtain ⟨cda, rfl⟩ : ∃ a, cdv = .ref a := by
    unfold PySem.W.codeIn at hcd
    split at hcd
    · exact ⟨_, rfl⟩
    · cases hcd
  have ecd : cdX K d.at_ = cda := by unfold cdX; rw [lk, hf]
  rcases dv with ⟨_, rfl⟩ | ⟨h, _⟩
  · subst hf
    rw [ecc, ecd]
    exact ⟨_, ⟨oc, od, kV, doc, pm, an, ct, osl, rfl, lk, hcd⟩, kp⟩
  · exact absurd rfl h

/-! ### the Hook -/
def asX (g : Addr → Option Obj) : Nat → List Addr
  | 0 => [mainGlobals, PySem.cStatics]
  | n + 1 => growD g (asX g n)
abbrev AlX : Type := Bool × List FnXV
def obsX (ck : List (PySem.W.Frag → Bool)) (fn : List DefX) (K : PySem.W.Frag) : AlX := ((ck.all fun f => f K) && fn.all fun d => d.ok K, fn.map fun d => fnXV K d.at_)
def valX (fn : List DefX) : AlX := (true, fn.map DefX.val)
def SaysX (ck : List (PySem.W.Frag → Bool)) (fn : List DefX) (K : PySem.W.Frag) : Prop := obsX ck fn K = valX fn
def obsXG (n : Nat) (ck : List (PySem.W.Frag → Bool)) (fn : List DefX) (g : Addr → Option Obj) : AlX := obsX ck fn (frG g (asX g n))
def hookX (n : Nat) (ck : List (PySem.W.Frag → Bool)) (fn : List DefX) : PySem.W.Hook where
  α := AlX
  obs := fun s => obsXG n ck fn s.heap.get?
  val := fun _ => valX fn
  says := fun _ h => ∃ K : PySem.W.Frag, K.In h ∧ SaysX ck fn K
  of := fun _ _ e => ⟨_, frG_in, e⟩
  keeps := fun _ _ _ ⟨K, hK, c⟩ k => ⟨K, PySem.W.Frag.In.keeps hK k, c⟩
theorem obsXG_eq {n : Nat} {ck : List (PySem.W.Frag → Bool)} {fn : List DefX} {g : Addr → Option Obj} {s : Shared} (h : ∀ a, g a = s.heap.get? a) : obsXG n ck fn g = (hookX n ck fn).obs s := by
  have e : g = s.heap.get? := funext h
  rw [e] <;> rfl
section
variable {ck : List (PySem.W.Frag → Bool)} {fn : List DefX} {K : PySem.W.Frag}
theorem SaysX.fact (c : SaysX ck fn K) (i : Nat) {f : PySem.W.Frag → Bool} (h : ck[i]? = some f := by rfl) : f K = true := by
  have c1 := (ba (show ((ck.all fun f => f K) && fn.all fun d => d.ok K) = true from congrArg (fun z : AlX => z.1) c)).1
  exact List.all_eq_true.mp c1 f (List.mem_of_getElem? h)
theorem SaysX.def_ (c : SaysX ck fn K) (i : Nat) {d : DefX} (h : fn[i]? = some d := by rfl) : fnXV K d.at_ = d.val ∧ d.ok K = true := by
  have c2 := (ba (show ((ck.all fun f => f K) && fn.all fun d => d.ok K) = true from congrArg (fun z : AlX => z.1) c)).2
  have e : fn.map (fun d => fnXV K d.at_) = fn.map DefX.val := congrArg (fun z : AlX => z.2) c
  have e2 : (fn.map fun d => fnXV K d.at_)[i]? = (fn.map DefX.val)[i]? := by rw [e]
  rw [List.getElem?_map, List.getElem?_map, h] at e2
  exact ⟨Option.some.inj e2, List.all_eq_true.mp c2 d (List.mem_of_getElem? h)⟩
end
/-! ### facts -/
/-- a class with instances: what isinstance asks -/
def insB (x : Str) (K : PySem.W.Frag) : Bool := (Fa.cls x).ok K && (eqO (PySem.W.findIn K (.ref (ga K x)) "__class__") (some (some (.builtin "object.__class__"))) && (eqO (PySem.W.specialIn K (.builtin "object.__class__") "__get__") (some (some (.builtin "getset_descriptor.__get__"))) &&
  (decide (PySem.W.takesIn K (.builtin "object.__class__") = some true) && decide (PySem.W.mroIn K (ga K x) (.type "object") = some true))))
theorem insB_ok {x : Str} {K : PySem.W.Frag} (c : insB x K = true) : InsT K (ga K x) := by
  obtain ⟨c1, c⟩ := ba c
  obtain ⟨c2, c⟩ := ba c
  obtain ⟨c3, c⟩ := ba c
  obtain ⟨c4, c5⟩ := ba c
  exact ⟨cls_ok c1, eqO_ok c2, eqO_ok c3, of_decide_eq_true c4, of_decide_eq_true c5⟩
/-- fields: not told by the class -/
def fldB (x : Str) (fs : List Str) (K : PySem.W.Frag) : Bool := (Fa.cls x).ok K && fs.all fun f => eqO (PySem.W.findIn K (.ref (ga K x)) f) (some none)
theorem fldB_ok {x f : Str} {fs : List Str} {K : PySem.W.Frag} (c : fldB x fs K = true) (h : f ∈ fs) : FldOk K (ga K x) f := by
  obtain ⟨c1, c2⟩ := ba c
  exact ⟨cls_ok c1, eqO_ok (List.all_eq_true.mp c2 f h)⟩
/-- isinstance of two own classes; of a built-in type's value and an own class; of an instance and a built-in type -/
def kitB2 (x y : Str) (b : Bool) (K : PySem.W.Frag) : Bool := decide (PySem.W.kitOne K (.ref (ga K x)) (.ref (ga K y)) = some b)
def kitBt (t : String) (y : Str) (b : Bool) (K : PySem.W.Frag) : Bool := decide (PySem.W.kitOne K (.type t) (.ref (ga K y)) = some b)
def kitBi (x : Str) (t : String) (b : Bool) (K : PySem.W.Frag) : Bool := decide (PySem.W.kitOne K (.ref (ga K x)) (.type t) = some b)
/-- super() in the def at p (the class x's __init__), whose next __init__ is the class y's -/
def supB (P : Program) (p : Str × Option Str) (x y : Str) (K : PySem.W.Frag) : Bool :=
  (match K.lookup (ccX K p) with
    | some ⟨_, _, .cell (some (.ref D)), _⟩ => decide (D = ga K x)
    | _ => false) &&
  ((PySem.W.clsIn K (ga K x)).isSome && ((match K.lookup (cdX K p) with
    | some ⟨_, _, .fields vs, _⟩ => (match vs[2]? with
      | some (Value.str file _) => (P.main.file : Str) == file
      | _ => false)
    | _ => false) && (decide (PySem.W.mroIn K (ga K x) (.ref (ga K x)) = some true) && (eqO (PySem.W.ks_superIn K (ga K x) (ga K x) "__init__") (some (some (.ref (ma K (ga K y) "__init__")))) &&
  (decide (PySem.W.typeIn K (.ref (ma K (ga K y) "__init__")) = some (.type "function")) && (PySem.W.fnIn K (ma K (ga K y) "__init__") && (eqO (PySem.W.nsIn K PySem.cStatics "thirdparty.any") (some none) && !(P.main.scope.names.lookup ("super" : Str)).isSome)))))))
theorem supB_ok {P : Program} {p : Str × Option Str} {x y : Str} {K : PySem.W.Frag} (c : supB P p x y K = true) : SupK P K (ccX K p) (cdX K p) (ga K x) (ga K x) (ma K (ga K y) "__init__") := by
  obtain ⟨c1, c⟩ := ba c
  obtain ⟨c2, c⟩ := ba c
  obtain ⟨c3, c⟩ := ba c
  obtain ⟨c4, c⟩ := ba c
  obtain ⟨c5, c⟩ := ba c
  obtain ⟨c6, c⟩ := ba c
  obtain ⟨c7, c⟩ := ba c
  obtain ⟨c8, c9⟩ := ba c
  have hcl : ∃ cd, PySem.W.clsIn K (ga K x) = some cd := Option.isSome_iff_exists.mp c2
  refine ⟨?_, hcl, hcl, ?_, of_decide_eq_true c4, eqO_ok c5, of_decide_eq_true c6, c7, eqO_ok c8, by simpa using c9⟩
  · split at c1
    · rename_i oc od D osl e
      have := of_decide_eq_true c1
      subst this
      exact ⟨oc, od, osl, e⟩
    · cases c1
  · split at c3
    · rename_i oc od vs osl e
      split at c3
      · rename_i file tf e2
        exact ⟨oc, od, vs, osl, file, tf, e, e2, c3⟩
      · cases c3
    · cases c3
end DL
end
section
set_option maxRecDepth 100000
set_option maxHeartbeats 4000000
/-! the text of the law by places; what its head must tell; the head's run. Printed by genhead.py. -/
namespace K21
open PySem PySem.Spec PyProof.Rows L2 RZ StX NdefX DL
def top (i : Nat) : Stmt := PySem.Challenge.pw_opencuts_k21_whole_words_of_many_points.main.body.getD i (.Pass ⟨0, 0, 0, 0⟩)
/-- a def of the text -/
structure FT (K : PySem.W.Frag) (mg : Str → Option Value) (x qual : Str) (st : Stmt) (ps : List Str) : Type where
  f : Addr
  fd : FuncData
  fu : Fun K x qual st f fd
  mgf : mg x = some (.ref f)
  bi : Binds K fd ps []
/-- .. with defaults, called without the last ones -/
structure FA (K : PySem.W.Frag) (mg : Str → Option Value) (x qual : Str) (st : Stmt) (ps : List Str) (dvs : List L2.V) (dds : List D) : Type where
  f : Addr
  fd : FuncData
  fu : FunA K x qual st f fd
  kp : PySem.W.keepIn K (.ref f) = true
  mgf : mg x = some (.ref f)
  vs : List Value
  bi : Binds K fd ps vs
  dv : Vals dvs vs
  dr : ∀ S, Reps K S dvs dds
/-- a method -/
structure MT (K : PySem.W.Frag) (C : Addr) (m qual : Str) (st : Stmt) (ps : List Str) : Type where
  f : Addr
  fd : FuncData
  fu : Fun K m qual st f fd
  bi : Binds K fd ps []
  mt : Meth K C m f
/-- an __init__ -/
structure IT (K : PySem.W.Frag) (C : Addr) (qual : Str) (st : Stmt) (ps : List Str) : Type where
  f : Addr
  fd : FuncData
  fu : Fun K "__init__" qual st f fd
  bi : Binds K fd ps []
/-- .. that begins with super().__init__ -/
structure IS (P : Program) (K : PySem.W.Frag) (C g : Addr) (qual : Str) (st : Stmt) (ps : List Str) : Type where
  f : Addr
  fd : FuncData
  cc : Addr
  cda : Addr
  fu : FunS K "__init__" qual st f cc cda fd
  z : SupK P K cc cda C C g
  bi : Binds K fd ps []
/-- a class -/
structure CT (K : PySem.W.Frag) (mg : Str → Option Value) (x : Str) (C fi : Addr) : Prop where
  mkk : Mk K C fi
  g : mg x = some (.ref C)
  c : Cls K C
  it : InsT K C
abbrev Prog : Program := PySem.Challenge.pw_opencuts_k21_whole_words_of_many_points
theorem un65 {k : Nat} {A : Around} (r : Room k A) : A.units + 65 < cLine := by have := r.un; omega

abbrev s_is_integer : Stmt := top 6
theorem sc_is_integer : FnScope ["value"] ["value"] (defScope s_is_integer) := ⟨rfl, rfl, rfl, by decide +kernel, rfl, by decide +kernel, by decide +kernel⟩
abbrev s_is_within : Stmt := top 7
theorem sc_is_within : FnScope ["value", "least", "most"] ["value", "least", "most"] (defScope s_is_within) := ⟨rfl, rfl, rfl, by decide +kernel, rfl, by decide +kernel, by decide +kernel⟩
abbrev s_is_listed : Stmt := top 8
theorem sc_is_listed : FnScope ["value"] ["value"] (defScope s_is_listed) := ⟨rfl, rfl, rfl, by decide +kernel, rfl, by decide +kernel, by decide +kernel⟩
abbrev s_are_integers : Stmt := top 9
theorem sc_are_integers : FnScope ["value", "many", "part"] ["value", "many"] (defScope s_are_integers) := ⟨rfl, rfl, rfl, by decide +kernel, rfl, by decide +kernel, by decide +kernel⟩
abbrev s_fixed : Stmt := top 11
theorem sc_fixed : FnScope ["value", "part"] ["value"] (defScope s_fixed) := ⟨rfl, rfl, rfl, by decide +kernel, rfl, by decide +kernel, by decide +kernel⟩
abbrev s_are_like : Stmt := top 12
theorem sc_are_like : FnScope ["one", "other", "here", "there"] ["one", "other"] (defScope s_are_like) := ⟨rfl, rfl, rfl, by decide +kernel, rfl, by decide +kernel, by decide +kernel⟩
abbrev s_Paper___init__ : Stmt := inClass (top 13) 0
theorem sc_Paper___init__ : FnScope ["self", "word", "parts"] ["self", "word", "parts"] (defScope s_Paper___init__) := ⟨rfl, rfl, rfl, by decide +kernel, rfl, by decide +kernel, by decide +kernel⟩
abbrev s_Paper___bool__ : Stmt := inClass (top 13) 1
theorem sc_Paper___bool__ : FnScope ["self"] ["self"] (defScope s_Paper___bool__) := ⟨rfl, rfl, rfl, by decide +kernel, rfl, by decide +kernel, by decide +kernel⟩
abbrev s_Paper___eq__ : Stmt := inClass (top 13) 2
theorem sc_Paper___eq__ : FnScope ["self", "other"] ["self", "other"] (defScope s_Paper___eq__) := ⟨rfl, rfl, rfl, by decide +kernel, rfl, by decide +kernel, by decide +kernel⟩
abbrev s_class_in : Stmt := top 20
theorem sc_class_in : FnScope ["row", "number", "cut"] ["row", "number"] (defScope s_class_in) := ⟨rfl, rfl, rfl, by decide +kernel, rfl, by decide +kernel, by decide +kernel⟩
abbrev s_are_cuts_row : Stmt := top 21
theorem sc_are_cuts_row : FnScope ["value", "least", "most", "many", "one", "other"] ["value", "least", "most", "many"] (defScope s_are_cuts_row) := ⟨rfl, rfl, rfl, by decide +kernel, rfl, by decide +kernel, by decide +kernel⟩
abbrev s_need_cuts : Stmt := top 22
theorem sc_need_cuts : FnScope ["cuts"] ["cuts"] (defScope s_need_cuts) := ⟨rfl, rfl, rfl, by decide +kernel, rfl, by decide +kernel, by decide +kernel⟩
abbrev s_is_cuts : Stmt := top 23
theorem sc_is_cuts : FnScope ["value"] ["value"] (defScope s_is_cuts) := ⟨rfl, rfl, rfl, by decide +kernel, rfl, by decide +kernel, by decide +kernel⟩
abbrev s_spans_in : Stmt := top 25
theorem sc_spans_in : FnScope ["cuts", "low", "high", "found", "at", "least", "most"] ["cuts", "low", "high"] (defScope s_spans_in) := ⟨rfl, rfl, rfl, by decide +kernel, rfl, by decide +kernel, by decide +kernel⟩
abbrev s_more_in : Stmt := top 26
theorem sc_more_in : FnScope ["counts", "at"] ["counts", "at"] (defScope s_more_in) := ⟨rfl, rfl, rfl, by decide +kernel, rfl, by decide +kernel, by decide +kernel⟩
abbrev s_sums_in : Stmt := top 27
theorem sc_sums_in : FnScope ["spans", "counts", "told", "many", "span"] ["spans", "counts"] (defScope s_sums_in) := ⟨rfl, rfl, rfl, by decide +kernel, rfl, by decide +kernel, by decide +kernel⟩
abbrev s_are_met : Stmt := top 28
theorem sc_are_met : FnScope ["spans", "counts", "many", "span"] ["spans", "counts"] (defScope s_are_met) := ⟨rfl, rfl, rfl, by decide +kernel, rfl, by decide +kernel, by decide +kernel⟩
abbrev s_Block___init__ : Stmt := inClass (top 29) 0
theorem sc_Block___init__ : FnScope ["self", "entry", "ahead", "cuts", "at", "span"] ["self", "entry", "ahead", "cuts"] (defScope s_Block___init__) := ⟨rfl, rfl, rfl, by decide +kernel, rfl, by decide +kernel, by decide +kernel⟩
abbrev s_Block_none : Stmt := inClass (top 29) 1
theorem sc_Block_none : FnScope ["self"] ["self"] (defScope s_Block_none) := ⟨rfl, rfl, rfl, by decide +kernel, rfl, by decide +kernel, by decide +kernel⟩
abbrev s_Block_letters : Stmt := inClass (top 29) 2
theorem sc_Block_letters : FnScope ["self", "gone", "gaps", "at", "span", "gap"] ["self", "gone"] (defScope s_Block_letters) := ⟨rfl, rfl, rfl, by decide +kernel, rfl, by decide +kernel, by decide +kernel⟩
abbrev s_Block_behind : Stmt := inClass (top 29) 3
theorem sc_Block_behind : FnScope ["self", "gone", "counts", "sign", "values", "gaps"] ["self", "gone", "counts", "sign"] (defScope s_Block_behind) := ⟨rfl, rfl, rfl, by decide +kernel, rfl, by decide +kernel, by decide +kernel⟩
abbrev s_Block_wanted : Stmt := inClass (top 29) 4
theorem sc_Block_wanted : FnScope ["self", "values"] ["self", "values"] (defScope s_Block_wanted) := ⟨rfl, rfl, rfl, by decide +kernel, rfl, by decide +kernel, by decide +kernel⟩
abbrev s_Block_values_go_on : Stmt := inClass (top 29) 5
theorem sc_Block_values_go_on : FnScope ["self", "values", "rest", "low", "high", "free", "least", "most", "one", "other", "third", "fourth"] ["self", "values"] (defScope s_Block_values_go_on) := ⟨rfl, rfl, rfl, by decide +kernel, rfl, by decide +kernel, by decide +kernel⟩
abbrev s_Block_gaps_go_on : Stmt := inClass (top 29) 6
theorem sc_Block_gaps_go_on : FnScope ["self", "gaps", "rest", "least", "most"] ["self", "gaps"] (defScope s_Block_gaps_go_on) := ⟨rfl, rfl, rfl, by decide +kernel, rfl, by decide +kernel, by decide +kernel⟩
abbrev s_Block_goes_on : Stmt := inClass (top 29) 7
theorem sc_Block_goes_on : FnScope ["self", "counts"] ["self", "counts"] (defScope s_Block_goes_on) := ⟨rfl, rfl, rfl, by decide +kernel, rfl, by decide +kernel, by decide +kernel⟩
abbrev s_first_gap : Stmt := top 30
theorem sc_first_gap : FnScope ["cuts", "entry", "ahead"] ["cuts", "entry", "ahead"] (defScope s_first_gap) := ⟨rfl, rfl, rfl, by decide +kernel, rfl, by decide +kernel, by decide +kernel⟩
abbrev s_Entry___init__ : Stmt := inClass (top 36) 0
theorem sc_Entry___init__ : NScope ["self", "bits", "count", "first", "last", "total", "least", "greatest", "__class__"] ["self", "bits", "count", "first", "last", "total", "least", "greatest"] ["__class__"] (defScope s_Entry___init__) := nscope_by (by decide +kernel)
abbrev s_is_possible : Stmt := top 37
theorem sc_is_possible : FnScope ["entry", "many", "low", "high", "total"] ["entry"] (defScope s_is_possible) := ⟨rfl, rfl, rfl, by decide +kernel, rfl, by decide +kernel, by decide +kernel⟩
abbrev s_need_entry : Stmt := top 38
theorem sc_need_entry : FnScope ["value", "part"] ["value", "part"] (defScope s_need_entry) := ⟨rfl, rfl, rfl, by decide +kernel, rfl, by decide +kernel, by decide +kernel⟩
abbrev s_need_ahead : Stmt := top 40
theorem sc_need_ahead : FnScope ["value"] ["value"] (defScope s_need_ahead) := ⟨rfl, rfl, rfl, by decide +kernel, rfl, by decide +kernel, by decide +kernel⟩
abbrev s_is_sign : Stmt := top 42
theorem sc_is_sign : FnScope ["value"] ["value"] (defScope s_is_sign) := ⟨rfl, rfl, rfl, by decide +kernel, rfl, by decide +kernel, by decide +kernel⟩
abbrev s_is_word : Stmt := top 43
theorem sc_is_word : FnScope ["block", "value", "counts", "gone", "sign", "one"] ["block", "value"] (defScope s_is_word) := ⟨rfl, rfl, rfl, by decide +kernel, rfl, by decide +kernel, by decide +kernel⟩
abbrev s_spread : Stmt := top 44
theorem sc_spread : FnScope ["numbers", "tops", "total", "found", "rest", "at", "top", "more"] ["numbers", "tops", "total"] (defScope s_spread) := ⟨rfl, rfl, rfl, by decide +kernel, rfl, by decide +kernel, by decide +kernel⟩
abbrev s_values_of : Stmt := top 45
theorem sc_values_of : FnScope ["block", "word", "entry", "classes", "least", "most", "low", "spots", "sign", "at", "one"] ["block", "word"] (defScope s_values_of) := ⟨rfl, rfl, rfl, by decide +kernel, rfl, by decide +kernel, by decide +kernel⟩
abbrev s_moments_of : Stmt := top 46
theorem sc_moments_of : FnScope ["block", "word", "spans", "gaps", "found", "gap", "sign", "span"] ["block", "word"] (defScope s_moments_of) := ⟨rfl, rfl, rfl, by decide +kernel, rfl, by decide +kernel, by decide +kernel⟩
abbrev s_points_by : Stmt := top 47
theorem sc_points_by : FnScope ["block", "word"] ["block", "word"] (defScope s_points_by) := ⟨rfl, rfl, rfl, by decide +kernel, rfl, by decide +kernel, by decide +kernel⟩
abbrev s_need_block : Stmt := top 48
theorem sc_need_block : FnScope ["entry", "ahead", "cuts", "told"] ["entry", "ahead", "cuts"] (defScope s_need_block) := ⟨rfl, rfl, rfl, by decide +kernel, rfl, by decide +kernel, by decide +kernel⟩
abbrev s_can_be : Stmt := top 49
theorem sc_can_be : FnScope ["entry", "ahead", "cuts", "word", "told", "sign"] ["entry", "ahead", "cuts", "word"] (defScope s_can_be) := ⟨rfl, rfl, rfl, by decide +kernel, rfl, by decide +kernel, by decide +kernel⟩
abbrev s_filled : Stmt := top 50
theorem sc_filled : FnScope ["entry", "ahead", "cuts", "word", "block", "told", "sign"] ["entry", "ahead", "cuts", "word"] (defScope s_filled) := ⟨rfl, rfl, rfl, by decide +kernel, rfl, by decide +kernel, by decide +kernel⟩
abbrev s_law_pen : Stmt := top 52
theorem sc_law_pen : FnScope ["script"] ["script"] (defScope s_law_pen) := ⟨rfl, rfl, rfl, by decide +kernel, rfl, by decide +kernel, by decide +kernel⟩
abbrev s_law_draw : Stmt := top 53
theorem sc_law_draw : FnScope ["pen", "many", "digit", "at", "cell", "great", "mixed"] ["pen", "many"] (defScope s_law_draw) := ⟨rfl, rfl, rfl, by decide +kernel, rfl, by decide +kernel, by decide +kernel⟩
abbrev s_law_pick : Stmt := top 54
theorem sc_law_pick : FnScope ["pen", "some"] ["pen", "some"] (defScope s_law_pick) := ⟨rfl, rfl, rfl, by decide +kernel, rfl, by decide +kernel, by decide +kernel⟩
abbrev s_law_mixed : Stmt := top 55
theorem sc_law_mixed : FnScope ["pen", "some", "rest", "found", "turn"] ["pen", "some"] (defScope s_law_mixed) := ⟨rfl, rfl, rfl, by decide +kernel, rfl, by decide +kernel, by decide +kernel⟩
abbrev s_law_entry : Stmt := top 56
theorem sc_law_entry : FnScope ["row", "size", "values", "moment", "value"] ["row", "size"] (defScope s_law_entry) := ⟨rfl, rfl, rfl, by decide +kernel, rfl, by decide +kernel, by decide +kernel⟩
abbrev s_law_signs : Stmt := top 57
theorem sc_law_signs : FnScope ["row", "ahead", "cuts", "found", "before", "moment", "value", "gap", "cut"] ["row", "ahead", "cuts"] (defScope s_law_signs) := ⟨rfl, rfl, rfl, by decide +kernel, rfl, by decide +kernel, by decide +kernel⟩
abbrev s_law_paper : Stmt := top 58
theorem sc_law_paper : FnScope ["entry"] ["entry"] (defScope s_law_paper) := ⟨rfl, rfl, rfl, by decide +kernel, rfl, by decide +kernel, by decide +kernel⟩
abbrev s_law_span : Stmt := top 59
theorem sc_law_span : FnScope ["cuts", "at", "low", "high", "least", "most"] ["cuts", "at", "low", "high"] (defScope s_law_span) := ⟨rfl, rfl, rfl, by decide +kernel, rfl, by decide +kernel, by decide +kernel⟩
abbrev s_law_can : Stmt := top 60
theorem sc_law_can : FnScope ["entry", "ahead", "cuts", "word", "size", "many", "first", "last", "total", "low", "high", "spans", "gaps", "known", "above", "bottom", "classes", "least", "most", "sign", "cut", "span"] ["entry", "ahead", "cuts", "word"] (defScope s_law_can) := ⟨rfl, rfl, rfl, by decide +kernel, rfl, by decide +kernel, by decide +kernel⟩
abbrev s_law : Stmt := top 61
theorem sc_law : FnScope ["script", "pen", "turn", "many", "wide", "row", "at", "values", "gaps", "entry", "cuts", "ahead", "paper", "own", "lap", "word", "spot", "due", "told", "one"] ["script"] (defScope s_law) := ⟨rfl, rfl, rfl, by decide +kernel, rfl, by decide +kernel, by decide +kernel⟩
structure Txt (K : PySem.W.Frag) (mg : Str → Option Value) : Type where
  b_abs : mg "abs" = none
  b_all : mg "all" = none
  b_bool : mg "bool" = none
  b_enumerate : mg "enumerate" = none
  b_int : mg "int" = none
  b_isinstance : mg "isinstance" = none
  b_len : mg "len" = none
  b_list : mg "list" = none
  b_max : mg "max" = none
  b_min : mg "min" = none
  b_range : mg "range" = none
  b_repr : mg "repr" = none
  b_set : mg "set" = none
  b_sorted : mg "sorted" = none
  b_sum : mg "sum" = none
  b_tuple : mg "tuple" = none
  b_zip : mg "zip" = none
  b_super : mg "super" = none
  c_MOST_MOMENT : ∃ t, mg "MOST_MOMENT" = some (.int (1099511627775) t)
  c_MOST_VALUE : ∃ t, mg "MOST_VALUE" = some (.int (1099511627776) t)
  c_MOST_VALUE_CUTS : ∃ t, mg "MOST_VALUE_CUTS" = some (.int (6) t)
  c_MOST_GAP_CUTS : ∃ t, mg "MOST_GAP_CUTS" = some (.int (3) t)
  c_MOST_GAP_CUT : ∃ t, mg "MOST_GAP_CUT" = some (.int (1048576) t)
  c_MOMENTS : ∃ t, mg "MOMENTS" = some (.int (1099511627776) t)
  c_VALUES : ∃ t, mg "VALUES" = some (.int (1099511627776) t)
  c_POINTS : ∃ t, mg "POINTS" = some (.int (68719476736) t)
  c_FIELDS : ∃ t, mg "FIELDS" = some (.int (7) t)
  a_Paper : Addr
  a_Block : Addr
  a_Entry : Addr
  is_integer : FT K mg "is_integer" "is_integer" s_is_integer ["value"]
  is_within : FT K mg "is_within" "is_within" s_is_within ["value", "least", "most"]
  is_listed : FT K mg "is_listed" "is_listed" s_is_listed ["value"]
  are_integers : FT K mg "are_integers" "are_integers" s_are_integers ["value", "many"]
  fixed : FT K mg "fixed" "fixed" s_fixed ["value"]
  are_like : FT K mg "are_like" "are_like" s_are_like ["one", "other"]
  Paper___init__ : ∃ fd, Fun K "__init__" "Paper.__init__" s_Paper___init__ (He.ma K (He.ga K "Paper") "__init__") fd
  Paper___bool__ : MT K a_Paper "__bool__" "Paper.__bool__" s_Paper___bool__ ["self"]
  Paper___eq__ : MT K a_Paper "__eq__" "Paper.__eq__" s_Paper___eq__ ["self", "other"]
  class_in : FT K mg "class_in" "class_in" s_class_in ["row", "number"]
  are_cuts_row : FT K mg "are_cuts_row" "are_cuts_row" s_are_cuts_row ["value", "least", "most", "many"]
  need_cuts : FT K mg "need_cuts" "need_cuts" s_need_cuts ["cuts"]
  is_cuts : FT K mg "is_cuts" "is_cuts" s_is_cuts ["value"]
  spans_in : FT K mg "spans_in" "spans_in" s_spans_in ["cuts", "low", "high"]
  more_in : FT K mg "more_in" "more_in" s_more_in ["counts", "at"]
  sums_in : FT K mg "sums_in" "sums_in" s_sums_in ["spans", "counts"]
  are_met : FT K mg "are_met" "are_met" s_are_met ["spans", "counts"]
  Block___init__ : IT K a_Block "Block.__init__" s_Block___init__ ["self", "entry", "ahead", "cuts"]
  Block_none : MT K a_Block "none" "Block.none" s_Block_none ["self"]
  Block_letters : MT K a_Block "letters" "Block.letters" s_Block_letters ["self", "gone"]
  Block_behind : MT K a_Block "behind" "Block.behind" s_Block_behind ["self", "gone", "counts", "sign"]
  Block_wanted : MT K a_Block "wanted" "Block.wanted" s_Block_wanted ["self", "values"]
  Block_values_go_on : MT K a_Block "values_go_on" "Block.values_go_on" s_Block_values_go_on ["self", "values"]
  Block_gaps_go_on : MT K a_Block "gaps_go_on" "Block.gaps_go_on" s_Block_gaps_go_on ["self", "gaps"]
  Block_goes_on : MT K a_Block "goes_on" "Block.goes_on" s_Block_goes_on ["self", "counts"]
  first_gap : FT K mg "first_gap" "first_gap" s_first_gap ["cuts", "entry", "ahead"]
  Entry___init__ : IS Prog K a_Entry (He.ma K (He.ga K "Paper") "__init__") "Entry.__init__" s_Entry___init__ ["self", "bits", "count", "first", "last", "total", "least", "greatest"]
  is_possible : FT K mg "is_possible" "is_possible" s_is_possible ["entry"]
  need_entry : FA K mg "need_entry" "need_entry" s_need_entry ["value", "part"] [.str "entry"] [.str "entry"]
  need_ahead : FT K mg "need_ahead" "need_ahead" s_need_ahead ["value"]
  is_sign : FT K mg "is_sign" "is_sign" s_is_sign ["value"]
  is_word : FT K mg "is_word" "is_word" s_is_word ["block", "value"]
  spread : FT K mg "spread" "spread" s_spread ["numbers", "tops", "total"]
  values_of : FT K mg "values_of" "values_of" s_values_of ["block", "word"]
  moments_of : FT K mg "moments_of" "moments_of" s_moments_of ["block", "word"]
  points_by : FT K mg "points_by" "points_by" s_points_by ["block", "word"]
  need_block : FT K mg "need_block" "need_block" s_need_block ["entry", "ahead", "cuts"]
  can_be : FT K mg "can_be" "can_be" s_can_be ["entry", "ahead", "cuts", "word"]
  filled : FT K mg "filled" "filled" s_filled ["entry", "ahead", "cuts", "word"]
  law_pen : FT K mg "_law_pen" "_law_pen" s_law_pen ["script"]
  law_draw : FT K mg "_law_draw" "_law_draw" s_law_draw ["pen", "many"]
  law_pick : FT K mg "_law_pick" "_law_pick" s_law_pick ["pen", "some"]
  law_mixed : FT K mg "_law_mixed" "_law_mixed" s_law_mixed ["pen", "some"]
  law_entry : FT K mg "_law_entry" "_law_entry" s_law_entry ["row", "size"]
  law_signs : FT K mg "_law_signs" "_law_signs" s_law_signs ["row", "ahead", "cuts"]
  law_paper : FT K mg "_law_paper" "_law_paper" s_law_paper ["entry"]
  law_span : FT K mg "_law_span" "_law_span" s_law_span ["cuts", "at", "low", "high"]
  law_can : FT K mg "_law_can" "_law_can" s_law_can ["entry", "ahead", "cuts", "word"]
  law : FT K mg "law" "law" s_law ["script"]
  C_Paperg : mg "Paper" = some (.ref a_Paper)
  i_Paper : InsT K a_Paper
  f_Paper : ∀ f ∈ (["word", "parts"] : List Str), FldOk K a_Paper f
  k_Paper_Paper : PySem.W.kitOne K (.ref a_Paper) (.ref a_Paper) = some true
  k_Paper_Block : PySem.W.kitOne K (.ref a_Paper) (.ref a_Block) = some false
  k_Paper_Entry : PySem.W.kitOne K (.ref a_Paper) (.ref a_Entry) = some false
  k_Paper_int : PySem.W.kitOne K (.ref a_Paper) (.type "int") = some false
  k_Paper_bool : PySem.W.kitOne K (.ref a_Paper) (.type "bool") = some false
  k_Paper_list : PySem.W.kitOne K (.ref a_Paper) (.type "list") = some false
  k_Paper_tuple : PySem.W.kitOne K (.ref a_Paper) (.type "tuple") = some false
  k_Paper_str : PySem.W.kitOne K (.ref a_Paper) (.type "str") = some false
  k_int_Paper : PySem.W.kitOne K (.type "int") (.ref a_Paper) = some false
  k_bool_Paper : PySem.W.kitOne K (.type "bool") (.ref a_Paper) = some false
  k_list_Paper : PySem.W.kitOne K (.type "list") (.ref a_Paper) = some false
  k_tuple_Paper : PySem.W.kitOne K (.type "tuple") (.ref a_Paper) = some false
  k_str_Paper : PySem.W.kitOne K (.type "str") (.ref a_Paper) = some false
  k_NoneType_Paper : PySem.W.kitOne K (.type "NoneType") (.ref a_Paper) = some false
  C_Blockg : mg "Block" = some (.ref a_Block)
  i_Block : InsT K a_Block
  C_Block : CT K mg "Block" a_Block Block___init__.f
  f_Block : ∀ f ∈ (["entry", "many", "first", "length", "spans", "steps", "bottom", "top", "inner"] : List Str), FldOk K a_Block f
  k_Block_Paper : PySem.W.kitOne K (.ref a_Block) (.ref a_Paper) = some false
  k_Block_Block : PySem.W.kitOne K (.ref a_Block) (.ref a_Block) = some true
  k_Block_Entry : PySem.W.kitOne K (.ref a_Block) (.ref a_Entry) = some false
  k_Block_int : PySem.W.kitOne K (.ref a_Block) (.type "int") = some false
  k_Block_bool : PySem.W.kitOne K (.ref a_Block) (.type "bool") = some false
  k_Block_list : PySem.W.kitOne K (.ref a_Block) (.type "list") = some false
  k_Block_tuple : PySem.W.kitOne K (.ref a_Block) (.type "tuple") = some false
  k_Block_str : PySem.W.kitOne K (.ref a_Block) (.type "str") = some false
  k_int_Block : PySem.W.kitOne K (.type "int") (.ref a_Block) = some false
  k_bool_Block : PySem.W.kitOne K (.type "bool") (.ref a_Block) = some false
  k_list_Block : PySem.W.kitOne K (.type "list") (.ref a_Block) = some false
  k_tuple_Block : PySem.W.kitOne K (.type "tuple") (.ref a_Block) = some false
  k_str_Block : PySem.W.kitOne K (.type "str") (.ref a_Block) = some false
  k_NoneType_Block : PySem.W.kitOne K (.type "NoneType") (.ref a_Block) = some false
  C_Entryg : mg "Entry" = some (.ref a_Entry)
  i_Entry : InsT K a_Entry
  C_Entry : CT K mg "Entry" a_Entry Entry___init__.f
  f_Entry : ∀ f ∈ (["bits", "count", "first", "last", "total", "least", "greatest", "word", "parts"] : List Str), FldOk K a_Entry f
  k_Entry_Paper : PySem.W.kitOne K (.ref a_Entry) (.ref a_Paper) = some true
  k_Entry_Block : PySem.W.kitOne K (.ref a_Entry) (.ref a_Block) = some false
  k_Entry_Entry : PySem.W.kitOne K (.ref a_Entry) (.ref a_Entry) = some true
  k_Entry_int : PySem.W.kitOne K (.ref a_Entry) (.type "int") = some false
  k_Entry_bool : PySem.W.kitOne K (.ref a_Entry) (.type "bool") = some false
  k_Entry_list : PySem.W.kitOne K (.ref a_Entry) (.type "list") = some false
  k_Entry_tuple : PySem.W.kitOne K (.ref a_Entry) (.type "tuple") = some false
  k_Entry_str : PySem.W.kitOne K (.ref a_Entry) (.type "str") = some false
  k_int_Entry : PySem.W.kitOne K (.type "int") (.ref a_Entry) = some false
  k_bool_Entry : PySem.W.kitOne K (.type "bool") (.ref a_Entry) = some false
  k_list_Entry : PySem.W.kitOne K (.type "list") (.ref a_Entry) = some false
  k_tuple_Entry : PySem.W.kitOne K (.type "tuple") (.ref a_Entry) = some false
  k_str_Entry : PySem.W.kitOne K (.type "str") (.ref a_Entry) = some false
  k_NoneType_Entry : PySem.W.kitOne K (.type "NoneType") (.ref a_Entry) = some false
def dx0 : DefX := { at_ := ("is_integer", none), name := "is_integer", qual := "is_integer", st := s_is_integer }
def dx1 : DefX := { at_ := ("is_within", none), name := "is_within", qual := "is_within", st := s_is_within }
def dx2 : DefX := { at_ := ("is_listed", none), name := "is_listed", qual := "is_listed", st := s_is_listed }
def dx3 : DefX := { at_ := ("are_integers", none), name := "are_integers", qual := "are_integers", st := s_are_integers }
def dx4 : DefX := { at_ := ("fixed", none), name := "fixed", qual := "fixed", st := s_fixed }
def dx5 : DefX := { at_ := ("are_like", none), name := "are_like", qual := "are_like", st := s_are_like }
def dx6 : DefX := { at_ := ("Paper", some "__init__"), name := "__init__", qual := "Paper.__init__", st := s_Paper___init__ }
def dx7 : DefX := { at_ := ("Paper", some "__bool__"), name := "__bool__", qual := "Paper.__bool__", st := s_Paper___bool__ }
def dx8 : DefX := { at_ := ("Paper", some "__eq__"), name := "__eq__", qual := "Paper.__eq__", st := s_Paper___eq__ }
def dx9 : DefX := { at_ := ("class_in", none), name := "class_in", qual := "class_in", st := s_class_in }
def dx10 : DefX := { at_ := ("are_cuts_row", none), name := "are_cuts_row", qual := "are_cuts_row", st := s_are_cuts_row }
def dx11 : DefX := { at_ := ("need_cuts", none), name := "need_cuts", qual := "need_cuts", st := s_need_cuts }
def dx12 : DefX := { at_ := ("is_cuts", none), name := "is_cuts", qual := "is_cuts", st := s_is_cuts }
def dx13 : DefX := { at_ := ("spans_in", none), name := "spans_in", qual := "spans_in", st := s_spans_in }
def dx14 : DefX := { at_ := ("more_in", none), name := "more_in", qual := "more_in", st := s_more_in }
def dx15 : DefX := { at_ := ("sums_in", none), name := "sums_in", qual := "sums_in", st := s_sums_in }
def dx16 : DefX := { at_ := ("are_met", none), name := "are_met", qual := "are_met", st := s_are_met }
def dx17 : DefX := { at_ := ("Block", some "__init__"), name := "__init__", qual := "Block.__init__", st := s_Block___init__ }
def dx18 : DefX := { at_ := ("Block", some "none"), name := "none", qual := "Block.none", st := s_Block_none }
def dx19 : DefX := { at_ := ("Block", some "letters"), name := "letters", qual := "Block.letters", st := s_Block_letters }
def dx20 : DefX := { at_ := ("Block", some "behind"), name := "behind", qual := "Block.behind", st := s_Block_behind }
def dx21 : DefX := { at_ := ("Block", some "wanted"), name := "wanted", qual := "Block.wanted", st := s_Block_wanted }
def dx22 : DefX := { at_ := ("Block", some "values_go_on"), name := "values_go_on", qual := "Block.values_go_on", st := s_Block_values_go_on }
def dx23 : DefX := { at_ := ("Block", some "gaps_go_on"), name := "gaps_go_on", qual := "Block.gaps_go_on", st := s_Block_gaps_go_on }
def dx24 : DefX := { at_ := ("Block", some "goes_on"), name := "goes_on", qual := "Block.goes_on", st := s_Block_goes_on }
def dx25 : DefX := { at_ := ("first_gap", none), name := "first_gap", qual := "first_gap", st := s_first_gap }
def dx26 : DefX := { at_ := ("Entry", some "__init__"), name := "__init__", qual := "Entry.__init__", st := s_Entry___init__, clo := [("__class__" : Str)] }
def dx27 : DefX := { at_ := ("is_possible", none), name := "is_possible", qual := "is_possible", st := s_is_possible }
def dx28 : DefX := { at_ := ("need_entry", none), name := "need_entry", qual := "need_entry", st := s_need_entry, dfl := [.str "entry"] }
def dx29 : DefX := { at_ := ("need_ahead", none), name := "need_ahead", qual := "need_ahead", st := s_need_ahead }
def dx30 : DefX := { at_ := ("is_sign", none), name := "is_sign", qual := "is_sign", st := s_is_sign }
def dx31 : DefX := { at_ := ("is_word", none), name := "is_word", qual := "is_word", st := s_is_word }
def dx32 : DefX := { at_ := ("spread", none), name := "spread", qual := "spread", st := s_spread }
def dx33 : DefX := { at_ := ("values_of", none), name := "values_of", qual := "values_of", st := s_values_of }
def dx34 : DefX := { at_ := ("moments_of", none), name := "moments_of", qual := "moments_of", st := s_moments_of }
def dx35 : DefX := { at_ := ("points_by", none), name := "points_by", qual := "points_by", st := s_points_by }
def dx36 : DefX := { at_ := ("need_block", none), name := "need_block", qual := "need_block", st := s_need_block }
def dx37 : DefX := { at_ := ("can_be", none), name := "can_be", qual := "can_be", st := s_can_be }
def dx38 : DefX := { at_ := ("filled", none), name := "filled", qual := "filled", st := s_filled }
def dx39 : DefX := { at_ := ("_law_pen", none), name := "_law_pen", qual := "_law_pen", st := s_law_pen }
def dx40 : DefX := { at_ := ("_law_draw", none), name := "_law_draw", qual := "_law_draw", st := s_law_draw }
def dx41 : DefX := { at_ := ("_law_pick", none), name := "_law_pick", qual := "_law_pick", st := s_law_pick }
def dx42 : DefX := { at_ := ("_law_mixed", none), name := "_law_mixed", qual := "_law_mixed", st := s_law_mixed }
def dx43 : DefX := { at_ := ("_law_entry", none), name := "_law_entry", qual := "_law_entry", st := s_law_entry }
def dx44 : DefX := { at_ := ("_law_signs", none), name := "_law_signs", qual := "_law_signs", st := s_law_signs }
def dx45 : DefX := { at_ := ("_law_paper", none), name := "_law_paper", qual := "_law_paper", st := s_law_paper }
def dx46 : DefX := { at_ := ("_law_span", none), name := "_law_span", qual := "_law_span", st := s_law_span }
def dx47 : DefX := { at_ := ("_law_can", none), name := "_law_can", qual := "_law_can", st := s_law_can }
def dx48 : DefX := { at_ := ("law", none), name := "law", qual := "law", st := s_law }
def fnL0 : List DefX := [dx0, dx1, dx2, dx3, dx4, dx5, dx6, dx7, dx8, dx9, dx10, dx11, dx12, dx13, dx14, dx15, dx16, dx17, dx18, dx19, dx20, dx21, dx22, dx23, dx24]
def fnL1 : List DefX := [dx25, dx26, dx27, dx28, dx29, dx30, dx31, dx32, dx33, dx34, dx35, dx36, dx37, dx38, dx39, dx40, dx41, dx42, dx43, dx44, dx45, dx46, dx47, dx48]
def fnL : List DefX := fnL0 ++ fnL1
def ck0 : PySem.W.Frag → Bool := fun K => (He.Fa.free "abs").ok K
def ck1 : PySem.W.Frag → Bool := fun K => (He.Fa.free "all").ok K
def ck2 : PySem.W.Frag → Bool := fun K => (He.Fa.free "bool").ok K
def ck3 : PySem.W.Frag → Bool := fun K => (He.Fa.free "enumerate").ok K
def ck4 : PySem.W.Frag → Bool := fun K => (He.Fa.free "int").ok K
def ck5 : PySem.W.Frag → Bool := fun K => (He.Fa.free "isinstance").ok K
def ck6 : PySem.W.Frag → Bool := fun K => (He.Fa.free "len").ok K
def ck7 : PySem.W.Frag → Bool := fun K => (He.Fa.free "list").ok K
def ck8 : PySem.W.Frag → Bool := fun K => (He.Fa.free "max").ok K
def ck9 : PySem.W.Frag → Bool := fun K => (He.Fa.free "min").ok K
def ck10 : PySem.W.Frag → Bool := fun K => (He.Fa.free "range").ok K
def ck11 : PySem.W.Frag → Bool := fun K => (He.Fa.free "repr").ok K
def ck12 : PySem.W.Frag → Bool := fun K => (He.Fa.free "set").ok K
def ck13 : PySem.W.Frag → Bool := fun K => (He.Fa.free "sorted").ok K
def ck14 : PySem.W.Frag → Bool := fun K => (He.Fa.free "sum").ok K
def ck15 : PySem.W.Frag → Bool := fun K => (He.Fa.free "tuple").ok K
def ck16 : PySem.W.Frag → Bool := fun K => (He.Fa.free "zip").ok K
def ck17 : PySem.W.Frag → Bool := fun K => (He.Fa.free "super").ok K
def ck18 : PySem.W.Frag → Bool := fun K => (He.Fa.int "MOST_MOMENT" 1099511627775).ok K
def ck19 : PySem.W.Frag → Bool := fun K => (He.Fa.int "MOST_VALUE" 1099511627776).ok K
def ck20 : PySem.W.Frag → Bool := fun K => (He.Fa.int "MOST_VALUE_CUTS" 6).ok K
def ck21 : PySem.W.Frag → Bool := fun K => (He.Fa.int "MOST_GAP_CUTS" 3).ok K
def ck22 : PySem.W.Frag → Bool := fun K => (He.Fa.int "MOST_GAP_CUT" 1048576).ok K
def ck23 : PySem.W.Frag → Bool := fun K => (He.Fa.int "MOMENTS" 1099511627776).ok K
def ck24 : PySem.W.Frag → Bool := fun K => (He.Fa.int "VALUES" 1099511627776).ok K
def ck25 : PySem.W.Frag → Bool := fun K => (He.Fa.int "POINTS" 68719476736).ok K
def ck26 : PySem.W.Frag → Bool := fun K => (He.Fa.int "FIELDS" 7).ok K
def ck27 : PySem.W.Frag → Bool := fun K => (He.Fa.glo "is_integer").ok K
def ck28 : PySem.W.Frag → Bool := fun K => (He.Fa.glo "is_within").ok K
def ck29 : PySem.W.Frag → Bool := fun K => (He.Fa.glo "is_listed").ok K
def ck30 : PySem.W.Frag → Bool := fun K => (He.Fa.glo "are_integers").ok K
def ck31 : PySem.W.Frag → Bool := fun K => (He.Fa.glo "fixed").ok K
def ck32 : PySem.W.Frag → Bool := fun K => (He.Fa.glo "are_like").ok K
def ck33 : PySem.W.Frag → Bool := fun K => (He.Fa.meth "Paper" "__bool__").ok K
def ck34 : PySem.W.Frag → Bool := fun K => (He.Fa.meth "Paper" "__eq__").ok K
def ck35 : PySem.W.Frag → Bool := fun K => (He.Fa.glo "class_in").ok K
def ck36 : PySem.W.Frag → Bool := fun K => (He.Fa.glo "are_cuts_row").ok K
def ck37 : PySem.W.Frag → Bool := fun K => (He.Fa.glo "need_cuts").ok K
def ck38 : PySem.W.Frag → Bool := fun K => (He.Fa.glo "is_cuts").ok K
def ck39 : PySem.W.Frag → Bool := fun K => (He.Fa.glo "spans_in").ok K
def ck40 : PySem.W.Frag → Bool := fun K => (He.Fa.glo "more_in").ok K
def ck41 : PySem.W.Frag → Bool := fun K => (He.Fa.glo "sums_in").ok K
def ck42 : PySem.W.Frag → Bool := fun K => (He.Fa.glo "are_met").ok K
def ck43 : PySem.W.Frag → Bool := fun K => (He.Fa.meth "Block" "none").ok K
def ck44 : PySem.W.Frag → Bool := fun K => (He.Fa.meth "Block" "letters").ok K
def ck45 : PySem.W.Frag → Bool := fun K => (He.Fa.meth "Block" "behind").ok K
def ck46 : PySem.W.Frag → Bool := fun K => (He.Fa.meth "Block" "wanted").ok K
def ck47 : PySem.W.Frag → Bool := fun K => (He.Fa.meth "Block" "values_go_on").ok K
def ck48 : PySem.W.Frag → Bool := fun K => (He.Fa.meth "Block" "gaps_go_on").ok K
def ck49 : PySem.W.Frag → Bool := fun K => (He.Fa.meth "Block" "goes_on").ok K
def ck50 : PySem.W.Frag → Bool := fun K => (He.Fa.glo "first_gap").ok K
def ck51 : PySem.W.Frag → Bool := supB Prog ("Entry", some "__init__") "Entry" "Paper"
def ck52 : PySem.W.Frag → Bool := fun K => (He.Fa.glo "is_possible").ok K
def ck53 : PySem.W.Frag → Bool := fun K => (He.Fa.glo "need_entry").ok K
def ck54 : PySem.W.Frag → Bool := fun K => (He.Fa.glo "need_ahead").ok K
def ck55 : PySem.W.Frag → Bool := fun K => (He.Fa.glo "is_sign").ok K
def ck56 : PySem.W.Frag → Bool := fun K => (He.Fa.glo "is_word").ok K
def ck57 : PySem.W.Frag → Bool := fun K => (He.Fa.glo "spread").ok K
def ck58 : PySem.W.Frag → Bool := fun K => (He.Fa.glo "values_of").ok K
def ck59 : PySem.W.Frag → Bool := fun K => (He.Fa.glo "moments_of").ok K
def ck60 : PySem.W.Frag → Bool := fun K => (He.Fa.glo "points_by").ok K
def ck61 : PySem.W.Frag → Bool := fun K => (He.Fa.glo "need_block").ok K
def ck62 : PySem.W.Frag → Bool := fun K => (He.Fa.glo "can_be").ok K
def ck63 : PySem.W.Frag → Bool := fun K => (He.Fa.glo "filled").ok K
def ck64 : PySem.W.Frag → Bool := fun K => (He.Fa.glo "_law_pen").ok K
def ck65 : PySem.W.Frag → Bool := fun K => (He.Fa.glo "_law_draw").ok K
def ck66 : PySem.W.Frag → Bool := fun K => (He.Fa.glo "_law_pick").ok K
def ck67 : PySem.W.Frag → Bool := fun K => (He.Fa.glo "_law_mixed").ok K
def ck68 : PySem.W.Frag → Bool := fun K => (He.Fa.glo "_law_entry").ok K
def ck69 : PySem.W.Frag → Bool := fun K => (He.Fa.glo "_law_signs").ok K
def ck70 : PySem.W.Frag → Bool := fun K => (He.Fa.glo "_law_paper").ok K
def ck71 : PySem.W.Frag → Bool := fun K => (He.Fa.glo "_law_span").ok K
def ck72 : PySem.W.Frag → Bool := fun K => (He.Fa.glo "_law_can").ok K
def ck73 : PySem.W.Frag → Bool := fun K => (He.Fa.glo "law").ok K
def ck74 : PySem.W.Frag → Bool := fun K => (He.Fa.glo "Paper").ok K
def ck75 : PySem.W.Frag → Bool := insB "Paper"
def ck76 : PySem.W.Frag → Bool := fldB "Paper" ["word", "parts"]
def ck77 : PySem.W.Frag → Bool := kitB2 "Paper" "Paper" true
def ck78 : PySem.W.Frag → Bool := kitB2 "Paper" "Block" false
def ck79 : PySem.W.Frag → Bool := kitB2 "Paper" "Entry" false
def ck80 : PySem.W.Frag → Bool := kitBi "Paper" "int" false
def ck81 : PySem.W.Frag → Bool := kitBi "Paper" "bool" false
def ck82 : PySem.W.Frag → Bool := kitBi "Paper" "list" false
def ck83 : PySem.W.Frag → Bool := kitBi "Paper" "tuple" false
def ck84 : PySem.W.Frag → Bool := kitBi "Paper" "str" false
def ck85 : PySem.W.Frag → Bool := kitBt "int" "Paper" false
def ck86 : PySem.W.Frag → Bool := kitBt "bool" "Paper" false
def ck87 : PySem.W.Frag → Bool := kitBt "list" "Paper" false
def ck88 : PySem.W.Frag → Bool := kitBt "tuple" "Paper" false
def ck89 : PySem.W.Frag → Bool := kitBt "str" "Paper" false
def ck90 : PySem.W.Frag → Bool := kitBt "NoneType" "Paper" false
def ck91 : PySem.W.Frag → Bool := fun K => (He.Fa.glo "Block").ok K
def ck92 : PySem.W.Frag → Bool := insB "Block"
def ck93 : PySem.W.Frag → Bool := fun K => (He.Fa.mkr "Block").ok K
def ck94 : PySem.W.Frag → Bool := fldB "Block" ["entry", "many", "first", "length", "spans", "steps", "bottom", "top", "inner"]
def ck95 : PySem.W.Frag → Bool := kitB2 "Block" "Paper" false
def ck96 : PySem.W.Frag → Bool := kitB2 "Block" "Block" true
def ck97 : PySem.W.Frag → Bool := kitB2 "Block" "Entry" false
def ck98 : PySem.W.Frag → Bool := kitBi "Block" "int" false
def ck99 : PySem.W.Frag → Bool := kitBi "Block" "bool" false
def ck100 : PySem.W.Frag → Bool := kitBi "Block" "list" false
def ck101 : PySem.W.Frag → Bool := kitBi "Block" "tuple" false
def ck102 : PySem.W.Frag → Bool := kitBi "Block" "str" false
def ck103 : PySem.W.Frag → Bool := kitBt "int" "Block" false
def ck104 : PySem.W.Frag → Bool := kitBt "bool" "Block" false
def ck105 : PySem.W.Frag → Bool := kitBt "list" "Block" false
def ck106 : PySem.W.Frag → Bool := kitBt "tuple" "Block" false
def ck107 : PySem.W.Frag → Bool := kitBt "str" "Block" false
def ck108 : PySem.W.Frag → Bool := kitBt "NoneType" "Block" false
def ck109 : PySem.W.Frag → Bool := fun K => (He.Fa.glo "Entry").ok K
def ck110 : PySem.W.Frag → Bool := insB "Entry"
def ck111 : PySem.W.Frag → Bool := fun K => (He.Fa.mkr "Entry").ok K
def ck112 : PySem.W.Frag → Bool := fldB "Entry" ["bits", "count", "first", "last", "total", "least", "greatest", "word", "parts"]
def ck113 : PySem.W.Frag → Bool := kitB2 "Entry" "Paper" true
def ck114 : PySem.W.Frag → Bool := kitB2 "Entry" "Block" false
def ck115 : PySem.W.Frag → Bool := kitB2 "Entry" "Entry" true
def ck116 : PySem.W.Frag → Bool := kitBi "Entry" "int" false
def ck117 : PySem.W.Frag → Bool := kitBi "Entry" "bool" false
def ck118 : PySem.W.Frag → Bool := kitBi "Entry" "list" false
def ck119 : PySem.W.Frag → Bool := kitBi "Entry" "tuple" false
def ck120 : PySem.W.Frag → Bool := kitBi "Entry" "str" false
def ck121 : PySem.W.Frag → Bool := kitBt "int" "Entry" false
def ck122 : PySem.W.Frag → Bool := kitBt "bool" "Entry" false
def ck123 : PySem.W.Frag → Bool := kitBt "list" "Entry" false
def ck124 : PySem.W.Frag → Bool := kitBt "tuple" "Entry" false
def ck125 : PySem.W.Frag → Bool := kitBt "str" "Entry" false
def ck126 : PySem.W.Frag → Bool := kitBt "NoneType" "Entry" false
def ckL0 : List (PySem.W.Frag → Bool) := [ck0, ck1, ck2, ck3, ck4, ck5, ck6, ck7, ck8, ck9, ck10, ck11, ck12, ck13, ck14, ck15, ck16, ck17, ck18, ck19, ck20, ck21, ck22, ck23, ck24]
def ckL1 : List (PySem.W.Frag → Bool) := [ck25, ck26, ck27, ck28, ck29, ck30, ck31, ck32, ck33, ck34, ck35, ck36, ck37, ck38, ck39, ck40, ck41, ck42, ck43, ck44, ck45, ck46, ck47, ck48, ck49]
def ckL2 : List (PySem.W.Frag → Bool) := [ck50, ck51, ck52, ck53, ck54, ck55, ck56, ck57, ck58, ck59, ck60, ck61, ck62, ck63, ck64, ck65, ck66, ck67, ck68, ck69, ck70, ck71, ck72, ck73, ck74]
def ckL3 : List (PySem.W.Frag → Bool) := [ck75, ck76, ck77, ck78, ck79, ck80, ck81, ck82, ck83, ck84, ck85, ck86, ck87, ck88, ck89, ck90, ck91, ck92, ck93, ck94, ck95, ck96, ck97, ck98, ck99]
def ckL4 : List (PySem.W.Frag → Bool) := [ck100, ck101, ck102, ck103, ck104, ck105, ck106, ck107, ck108, ck109, ck110, ck111, ck112, ck113, ck114, ck115, ck116, ck117, ck118, ck119, ck120, ck121, ck122, ck123, ck124]
def ckL5 : List (PySem.W.Frag → Bool) := [ck125, ck126]
def ckL : List (PySem.W.Frag → Bool) := ckL0 ++ ckL1 ++ ckL2 ++ ckL3 ++ ckL4 ++ ckL5
def nmL0 : List Str := ["BellError", "BadNumber", "BadPattern", "Misfit", "is_integer", "is_within", "is_listed", "are_integers", "fixed", "are_like", "Paper", "MOST_MOMENT", "MOST_VALUE", "MOST_VALUE_CUTS", "MOST_GAP_CUTS", "MOST_GAP_CUT", "class_in", "are_cuts_row", "need_cuts", "is_cuts", "spans_in", "more_in", "sums_in", "are_met", "Block"]
def nmL1 : List Str := ["first_gap", "MOMENTS", "VALUES", "POINTS", "FIELDS", "Entry", "is_possible", "need_entry", "need_ahead", "is_sign", "is_word", "spread", "values_of", "moments_of", "points_by", "need_block", "can_be", "filled", "_law_pen", "_law_draw", "_law_pick", "_law_mixed", "_law_entry", "_law_signs", "_law_paper"]
def nmL2 : List Str := ["_law_span", "_law_can"]
def nmL : List Str := nmL0 ++ nmL1 ++ nmL2
abbrev R : PySem.W.OpenRow := PySem.W.OpenLaw.row PySem.Challenge.rw_opencuts_k21_whole_words_of_many_points
abbrev hk : PySem.W.Hook := hookX 6 ckL fnL
def ob (s : PySem.W.SharedT) : AlX := obsXG 6 ckL fnL (HandSHeadRun.getT s)
theorem ob_eq (s : PySem.W.SharedT) : ob s = hk.obs s.abs := obsXG_eq (HandSHeadRun.getT_eq s)
theorem run (w : World) : HandSHeadRun.RunEq R (PySem.W.view R.prog [61]) hk ob 9000 nmL w := by
  intro os
  kernel_rfl

theorem bindsS_Entry___init__ {K : PySem.W.Frag} {f cc cda : Addr} {fd : FuncData} (F : FunS K "__init__" "Entry.__init__" s_Entry___init__ f cc cda fd) : Binds K fd ["self", "bits", "count", "first", "last", "total", "least", "greatest"] [] := by
  obtain ⟨oc, od, kV, doc, pm, an, ct, osl, rfl, _, _⟩ := F.ex
  exact .all fun us hl => match us, hl with | [_, _, _, _, _, _, _, _], _ => rfl
theorem bindsD_need_entry {K : PySem.W.Frag} {f : Addr} {fd : FuncData} (F : L2.FunD K "need_entry" "need_entry" (defArgs s_need_entry) (defBody s_need_entry) (defScope s_need_entry) (([.str "entry"] : List He.Dv).map (He.Dv.v K)) [] f fd) : ∃ vs, Binds K fd ["value", "part"] vs ∧ Vals [.str "entry"] vs := by
  obtain ⟨ds, h1, h2⟩ := F.binds1 (ps := ["value", "part"]) 1 0 (by simp) rfl (fun _ _ _ _ _ _ _ us its hl hi => match us, hl, its, hi with | [_], _, [_], _ => ⟨_, rfl, rfl⟩)
  exact ⟨ds, h2, h1⟩
theorem txt {K : PySem.W.Frag} {h : Heap} {mg : Str → Option Value} (X : K.In h) (G : h.Ns mainGlobals mg) (c : SaysX ckL fnL K) : Nonempty (Txt K mg) := by
  obtain ⟨fd0, F0⟩ := DefX.fun_ (d := dx0) rfl rfl (c.def_ 0 rfl).1 (c.def_ 0 rfl).2
  obtain ⟨fd1, F1⟩ := DefX.fun_ (d := dx1) rfl rfl (c.def_ 1 rfl).1 (c.def_ 1 rfl).2
  obtain ⟨fd2, F2⟩ := DefX.fun_ (d := dx2) rfl rfl (c.def_ 2 rfl).1 (c.def_ 2 rfl).2
  obtain ⟨fd3, F3⟩ := DefX.fun_ (d := dx3) rfl rfl (c.def_ 3 rfl).1 (c.def_ 3 rfl).2
  obtain ⟨fd4, F4⟩ := DefX.fun_ (d := dx4) rfl rfl (c.def_ 4 rfl).1 (c.def_ 4 rfl).2
  obtain ⟨fd5, F5⟩ := DefX.fun_ (d := dx5) rfl rfl (c.def_ 5 rfl).1 (c.def_ 5 rfl).2
  obtain ⟨fd7, F7⟩ := DefX.fun_ (d := dx7) rfl rfl (c.def_ 7 rfl).1 (c.def_ 7 rfl).2
  obtain ⟨fd8, F8⟩ := DefX.fun_ (d := dx8) rfl rfl (c.def_ 8 rfl).1 (c.def_ 8 rfl).2
  obtain ⟨fd9, F9⟩ := DefX.fun_ (d := dx9) rfl rfl (c.def_ 9 rfl).1 (c.def_ 9 rfl).2
  obtain ⟨fd10, F10⟩ := DefX.fun_ (d := dx10) rfl rfl (c.def_ 10 rfl).1 (c.def_ 10 rfl).2
  obtain ⟨fd11, F11⟩ := DefX.fun_ (d := dx11) rfl rfl (c.def_ 11 rfl).1 (c.def_ 11 rfl).2
  obtain ⟨fd12, F12⟩ := DefX.fun_ (d := dx12) rfl rfl (c.def_ 12 rfl).1 (c.def_ 12 rfl).2
  obtain ⟨fd13, F13⟩ := DefX.fun_ (d := dx13) rfl rfl (c.def_ 13 rfl).1 (c.def_ 13 rfl).2
  obtain ⟨fd14, F14⟩ := DefX.fun_ (d := dx14) rfl rfl (c.def_ 14 rfl).1 (c.def_ 14 rfl).2
  obtain ⟨fd15, F15⟩ := DefX.fun_ (d := dx15) rfl rfl (c.def_ 15 rfl).1 (c.def_ 15 rfl).2
  obtain ⟨fd16, F16⟩ := DefX.fun_ (d := dx16) rfl rfl (c.def_ 16 rfl).1 (c.def_ 16 rfl).2
  obtain ⟨fd17, F17⟩ := DefX.fun_ (d := dx17) rfl rfl (c.def_ 17 rfl).1 (c.def_ 17 rfl).2
  obtain ⟨fd18, F18⟩ := DefX.fun_ (d := dx18) rfl rfl (c.def_ 18 rfl).1 (c.def_ 18 rfl).2
  obtain ⟨fd19, F19⟩ := DefX.fun_ (d := dx19) rfl rfl (c.def_ 19 rfl).1 (c.def_ 19 rfl).2
  obtain ⟨fd20, F20⟩ := DefX.fun_ (d := dx20) rfl rfl (c.def_ 20 rfl).1 (c.def_ 20 rfl).2
  obtain ⟨fd21, F21⟩ := DefX.fun_ (d := dx21) rfl rfl (c.def_ 21 rfl).1 (c.def_ 21 rfl).2
  obtain ⟨fd22, F22⟩ := DefX.fun_ (d := dx22) rfl rfl (c.def_ 22 rfl).1 (c.def_ 22 rfl).2
  obtain ⟨fd23, F23⟩ := DefX.fun_ (d := dx23) rfl rfl (c.def_ 23 rfl).1 (c.def_ 23 rfl).2
  obtain ⟨fd24, F24⟩ := DefX.fun_ (d := dx24) rfl rfl (c.def_ 24 rfl).1 (c.def_ 24 rfl).2
  obtain ⟨fd25, F25⟩ := DefX.fun_ (d := dx25) rfl rfl (c.def_ 25 rfl).1 (c.def_ 25 rfl).2
  obtain ⟨fd26, F26⟩ := DefX.funS (d := dx26) rfl rfl (c.def_ 26 rfl).1 (c.def_ 26 rfl).2
  obtain bi26 := bindsS_Entry___init__ F26
  obtain ⟨fd27, F27⟩ := DefX.fun_ (d := dx27) rfl rfl (c.def_ 27 rfl).1 (c.def_ 27 rfl).2
  obtain ⟨fd28, FD28, F28⟩ := DefX.funA (d := dx28) rfl (c.def_ 28 rfl).1 (c.def_ 28 rfl).2
  obtain ⟨vs28, bi28, dv28⟩ := bindsD_need_entry FD28
  obtain ⟨fd29, F29⟩ := DefX.fun_ (d := dx29) rfl rfl (c.def_ 29 rfl).1 (c.def_ 29 rfl).2
  obtain ⟨fd30, F30⟩ := DefX.fun_ (d := dx30) rfl rfl (c.def_ 30 rfl).1 (c.def_ 30 rfl).2
  obtain ⟨fd31, F31⟩ := DefX.fun_ (d := dx31) rfl rfl (c.def_ 31 rfl).1 (c.def_ 31 rfl).2
  obtain ⟨fd32, F32⟩ := DefX.fun_ (d := dx32) rfl rfl (c.def_ 32 rfl).1 (c.def_ 32 rfl).2
  obtain ⟨fd33, F33⟩ := DefX.fun_ (d := dx33) rfl rfl (c.def_ 33 rfl).1 (c.def_ 33 rfl).2
  obtain ⟨fd34, F34⟩ := DefX.fun_ (d := dx34) rfl rfl (c.def_ 34 rfl).1 (c.def_ 34 rfl).2
  obtain ⟨fd35, F35⟩ := DefX.fun_ (d := dx35) rfl rfl (c.def_ 35 rfl).1 (c.def_ 35 rfl).2
  obtain ⟨fd36, F36⟩ := DefX.fun_ (d := dx36) rfl rfl (c.def_ 36 rfl).1 (c.def_ 36 rfl).2
  obtain ⟨fd37, F37⟩ := DefX.fun_ (d := dx37) rfl rfl (c.def_ 37 rfl).1 (c.def_ 37 rfl).2
  obtain ⟨fd38, F38⟩ := DefX.fun_ (d := dx38) rfl rfl (c.def_ 38 rfl).1 (c.def_ 38 rfl).2
  obtain ⟨fd39, F39⟩ := DefX.fun_ (d := dx39) rfl rfl (c.def_ 39 rfl).1 (c.def_ 39 rfl).2
  obtain ⟨fd40, F40⟩ := DefX.fun_ (d := dx40) rfl rfl (c.def_ 40 rfl).1 (c.def_ 40 rfl).2
  obtain ⟨fd41, F41⟩ := DefX.fun_ (d := dx41) rfl rfl (c.def_ 41 rfl).1 (c.def_ 41 rfl).2
  obtain ⟨fd42, F42⟩ := DefX.fun_ (d := dx42) rfl rfl (c.def_ 42 rfl).1 (c.def_ 42 rfl).2
  obtain ⟨fd43, F43⟩ := DefX.fun_ (d := dx43) rfl rfl (c.def_ 43 rfl).1 (c.def_ 43 rfl).2
  obtain ⟨fd44, F44⟩ := DefX.fun_ (d := dx44) rfl rfl (c.def_ 44 rfl).1 (c.def_ 44 rfl).2
  obtain ⟨fd45, F45⟩ := DefX.fun_ (d := dx45) rfl rfl (c.def_ 45 rfl).1 (c.def_ 45 rfl).2
  obtain ⟨fd46, F46⟩ := DefX.fun_ (d := dx46) rfl rfl (c.def_ 46 rfl).1 (c.def_ 46 rfl).2
  obtain ⟨fd47, F47⟩ := DefX.fun_ (d := dx47) rfl rfl (c.def_ 47 rfl).1 (c.def_ 47 rfl).2
  obtain ⟨fd48, F48⟩ := DefX.fun_ (d := dx48) rfl rfl (c.def_ 48 rfl).1 (c.def_ 48 rfl).2
  exact ⟨{
    b_abs := He.free_ok X G (x := ("abs" : Str)) (c.fact 0 rfl)
    b_all := He.free_ok X G (x := ("all" : Str)) (c.fact 1 rfl)
    b_bool := He.free_ok X G (x := ("bool" : Str)) (c.fact 2 rfl)
    b_enumerate := He.free_ok X G (x := ("enumerate" : Str)) (c.fact 3 rfl)
    b_int := He.free_ok X G (x := ("int" : Str)) (c.fact 4 rfl)
    b_isinstance := He.free_ok X G (x := ("isinstance" : Str)) (c.fact 5 rfl)
    b_len := He.free_ok X G (x := ("len" : Str)) (c.fact 6 rfl)
    b_list := He.free_ok X G (x := ("list" : Str)) (c.fact 7 rfl)
    b_max := He.free_ok X G (x := ("max" : Str)) (c.fact 8 rfl)
    b_min := He.free_ok X G (x := ("min" : Str)) (c.fact 9 rfl)
    b_range := He.free_ok X G (x := ("range" : Str)) (c.fact 10 rfl)
    b_repr := He.free_ok X G (x := ("repr" : Str)) (c.fact 11 rfl)
    b_set := He.free_ok X G (x := ("set" : Str)) (c.fact 12 rfl)
    b_sorted := He.free_ok X G (x := ("sorted" : Str)) (c.fact 13 rfl)
    b_sum := He.free_ok X G (x := ("sum" : Str)) (c.fact 14 rfl)
    b_tuple := He.free_ok X G (x := ("tuple" : Str)) (c.fact 15 rfl)
    b_zip := He.free_ok X G (x := ("zip" : Str)) (c.fact 16 rfl)
    b_super := He.free_ok X G (x := "super") (c.fact 17 rfl)
    c_MOST_MOMENT := He.int_ok X G (x := ("MOST_MOMENT" : Str)) (i := 1099511627775) (c.fact 18 rfl)
    c_MOST_VALUE := He.int_ok X G (x := ("MOST_VALUE" : Str)) (i := 1099511627776) (c.fact 19 rfl)
    c_MOST_VALUE_CUTS := He.int_ok X G (x := ("MOST_VALUE_CUTS" : Str)) (i := 6) (c.fact 20 rfl)
    c_MOST_GAP_CUTS := He.int_ok X G (x := ("MOST_GAP_CUTS" : Str)) (i := 3) (c.fact 21 rfl)
    c_MOST_GAP_CUT := He.int_ok X G (x := ("MOST_GAP_CUT" : Str)) (i := 1048576) (c.fact 22 rfl)
    c_MOMENTS := He.int_ok X G (x := ("MOMENTS" : Str)) (i := 1099511627776) (c.fact 23 rfl)
    c_VALUES := He.int_ok X G (x := ("VALUES" : Str)) (i := 1099511627776) (c.fact 24 rfl)
    c_POINTS := He.int_ok X G (x := ("POINTS" : Str)) (i := 68719476736) (c.fact 25 rfl)
    c_FIELDS := He.int_ok X G (x := ("FIELDS" : Str)) (i := 7) (c.fact 26 rfl)
    a_Paper := He.ga K "Paper"
    a_Block := He.ga K "Block"
    a_Entry := He.ga K "Entry"
    is_integer := ⟨_, fd0, F0, He.glo_ok X G (c.fact 27 rfl), F0.binds (ps := ["value"]) fun _ _ _ _ _ _ us hl => match us, hl with | [_], _ => rfl⟩
    is_within := ⟨_, fd1, F1, He.glo_ok X G (c.fact 28 rfl), F1.binds (ps := ["value", "least", "most"]) fun _ _ _ _ _ _ us hl => match us, hl with | [_, _, _], _ => rfl⟩
    is_listed := ⟨_, fd2, F2, He.glo_ok X G (c.fact 29 rfl), F2.binds (ps := ["value"]) fun _ _ _ _ _ _ us hl => match us, hl with | [_], _ => rfl⟩
    are_integers := ⟨_, fd3, F3, He.glo_ok X G (c.fact 30 rfl), F3.binds (ps := ["value", "many"]) fun _ _ _ _ _ _ us hl => match us, hl with | [_, _], _ => rfl⟩
    fixed := ⟨_, fd4, F4, He.glo_ok X G (c.fact 31 rfl), F4.binds (ps := ["value"]) fun _ _ _ _ _ _ us hl => match us, hl with | [_], _ => rfl⟩
    are_like := ⟨_, fd5, F5, He.glo_ok X G (c.fact 32 rfl), F5.binds (ps := ["one", "other"]) fun _ _ _ _ _ _ us hl => match us, hl with | [_, _], _ => rfl⟩
    Paper___init__ := DefX.fun_ (d := dx6) rfl rfl (c.def_ 6 rfl).1 (c.def_ 6 rfl).2
    Paper___bool__ := ⟨_, fd7, F7, F7.binds (ps := ["self"]) fun _ _ _ _ _ _ us hl => match us, hl with | [_], _ => rfl, He.meth_ok (c.fact 33 rfl)⟩
    Paper___eq__ := ⟨_, fd8, F8, F8.binds (ps := ["self", "other"]) fun _ _ _ _ _ _ us hl => match us, hl with | [_, _], _ => rfl, He.meth_ok (c.fact 34 rfl)⟩
    class_in := ⟨_, fd9, F9, He.glo_ok X G (c.fact 35 rfl), F9.binds (ps := ["row", "number"]) fun _ _ _ _ _ _ us hl => match us, hl with | [_, _], _ => rfl⟩
    are_cuts_row := ⟨_, fd10, F10, He.glo_ok X G (c.fact 36 rfl), F10.binds (ps := ["value", "least", "most", "many"]) fun _ _ _ _ _ _ us hl => match us, hl with | [_, _, _, _], _ => rfl⟩
    need_cuts := ⟨_, fd11, F11, He.glo_ok X G (c.fact 37 rfl), F11.binds (ps := ["cuts"]) fun _ _ _ _ _ _ us hl => match us, hl with | [_], _ => rfl⟩
    is_cuts := ⟨_, fd12, F12, He.glo_ok X G (c.fact 38 rfl), F12.binds (ps := ["value"]) fun _ _ _ _ _ _ us hl => match us, hl with | [_], _ => rfl⟩
    spans_in := ⟨_, fd13, F13, He.glo_ok X G (c.fact 39 rfl), F13.binds (ps := ["cuts", "low", "high"]) fun _ _ _ _ _ _ us hl => match us, hl with | [_, _, _], _ => rfl⟩
    more_in := ⟨_, fd14, F14, He.glo_ok X G (c.fact 40 rfl), F14.binds (ps := ["counts", "at"]) fun _ _ _ _ _ _ us hl => match us, hl with | [_, _], _ => rfl⟩
    sums_in := ⟨_, fd15, F15, He.glo_ok X G (c.fact 41 rfl), F15.binds (ps := ["spans", "counts"]) fun _ _ _ _ _ _ us hl => match us, hl with | [_, _], _ => rfl⟩
    are_met := ⟨_, fd16, F16, He.glo_ok X G (c.fact 42 rfl), F16.binds (ps := ["spans", "counts"]) fun _ _ _ _ _ _ us hl => match us, hl with | [_, _], _ => rfl⟩
    Block___init__ := ⟨_, fd17, F17, F17.binds (ps := ["self", "entry", "ahead", "cuts"]) fun _ _ _ _ _ _ us hl => match us, hl with | [_, _, _, _], _ => rfl⟩
    Block_none := ⟨_, fd18, F18, F18.binds (ps := ["self"]) fun _ _ _ _ _ _ us hl => match us, hl with | [_], _ => rfl, He.meth_ok (c.fact 43 rfl)⟩
    Block_letters := ⟨_, fd19, F19, F19.binds (ps := ["self", "gone"]) fun _ _ _ _ _ _ us hl => match us, hl with | [_, _], _ => rfl, He.meth_ok (c.fact 44 rfl)⟩
    Block_behind := ⟨_, fd20, F20, F20.binds (ps := ["self", "gone", "counts", "sign"]) fun _ _ _ _ _ _ us hl => match us, hl with | [_, _, _, _], _ => rfl, He.meth_ok (c.fact 45 rfl)⟩
    Block_wanted := ⟨_, fd21, F21, F21.binds (ps := ["self", "values"]) fun _ _ _ _ _ _ us hl => match us, hl with | [_, _], _ => rfl, He.meth_ok (c.fact 46 rfl)⟩
    Block_values_go_on := ⟨_, fd22, F22, F22.binds (ps := ["self", "values"]) fun _ _ _ _ _ _ us hl => match us, hl with | [_, _], _ => rfl, He.meth_ok (c.fact 47 rfl)⟩
    Block_gaps_go_on := ⟨_, fd23, F23, F23.binds (ps := ["self", "gaps"]) fun _ _ _ _ _ _ us hl => match us, hl with | [_, _], _ => rfl, He.meth_ok (c.fact 48 rfl)⟩
    Block_goes_on := ⟨_, fd24, F24, F24.binds (ps := ["self", "counts"]) fun _ _ _ _ _ _ us hl => match us, hl with | [_, _], _ => rfl, He.meth_ok (c.fact 49 rfl)⟩
    first_gap := ⟨_, fd25, F25, He.glo_ok X G (c.fact 50 rfl), F25.binds (ps := ["cuts", "entry", "ahead"]) fun _ _ _ _ _ _ us hl => match us, hl with | [_, _, _], _ => rfl⟩
    Entry___init__ := ⟨_, fd26, _, _, F26, supB_ok (c.fact 51 rfl), bi26⟩
    is_possible := ⟨_, fd27, F27, He.glo_ok X G (c.fact 52 rfl), F27.binds (ps := ["entry"]) fun _ _ _ _ _ _ us hl => match us, hl with | [_], _ => rfl⟩
    need_entry := ⟨_, fd28, F28, F28.kp, He.glo_ok X G (c.fact 53 rfl), vs28, bi28, dv28, (fun _ => .cons (.str _) (.nil))⟩
    need_ahead := ⟨_, fd29, F29, He.glo_ok X G (c.fact 54 rfl), F29.binds (ps := ["value"]) fun _ _ _ _ _ _ us hl => match us, hl with | [_], _ => rfl⟩
    is_sign := ⟨_, fd30, F30, He.glo_ok X G (c.fact 55 rfl), F30.binds (ps := ["value"]) fun _ _ _ _ _ _ us hl => match us, hl with | [_], _ => rfl⟩
    is_word := ⟨_, fd31, F31, He.glo_ok X G (c.fact 56 rfl), F31.binds (ps := ["block", "value"]) fun _ _ _ _ _ _ us hl => match us, hl with | [_, _], _ => rfl⟩
    spread := ⟨_, fd32, F32, He.glo_ok X G (c.fact 57 rfl), F32.binds (ps := ["numbers", "tops", "total"]) fun _ _ _ _ _ _ us hl => match us, hl with | [_, _, _], _ => rfl⟩
    values_of := ⟨_, fd33, F33, He.glo_ok X G (c.fact 58 rfl), F33.binds (ps := ["block", "word"]) fun _ _ _ _ _ _ us hl => match us, hl with | [_, _], _ => rfl⟩
    moments_of := ⟨_, fd34, F34, He.glo_ok X G (c.fact 59 rfl), F34.binds (ps := ["block", "word"]) fun _ _ _ _ _ _ us hl => match us, hl with | [_, _], _ => rfl⟩
    points_by := ⟨_, fd35, F35, He.glo_ok X G (c.fact 60 rfl), F35.binds (ps := ["block", "word"]) fun _ _ _ _ _ _ us hl => match us, hl with | [_, _], _ => rfl⟩
    need_block := ⟨_, fd36, F36, He.glo_ok X G (c.fact 61 rfl), F36.binds (ps := ["entry", "ahead", "cuts"]) fun _ _ _ _ _ _ us hl => match us, hl with | [_, _, _], _ => rfl⟩
    can_be := ⟨_, fd37, F37, He.glo_ok X G (c.fact 62 rfl), F37.binds (ps := ["entry", "ahead", "cuts", "word"]) fun _ _ _ _ _ _ us hl => match us, hl with | [_, _, _, _], _ => rfl⟩
    filled := ⟨_, fd38, F38, He.glo_ok X G (c.fact 63 rfl), F38.binds (ps := ["entry", "ahead", "cuts", "word"]) fun _ _ _ _ _ _ us hl => match us, hl with | [_, _, _, _], _ => rfl⟩
    law_pen := ⟨_, fd39, F39, He.glo_ok X G (c.fact 64 rfl), F39.binds (ps := ["script"]) fun _ _ _ _ _ _ us hl => match us, hl with | [_], _ => rfl⟩
    law_draw := ⟨_, fd40, F40, He.glo_ok X G (c.fact 65 rfl), F40.binds (ps := ["pen", "many"]) fun _ _ _ _ _ _ us hl => match us, hl with | [_, _], _ => rfl⟩
    law_pick := ⟨_, fd41, F41, He.glo_ok X G (c.fact 66 rfl), F41.binds (ps := ["pen", "some"]) fun _ _ _ _ _ _ us hl => match us, hl with | [_, _], _ => rfl⟩
    law_mixed := ⟨_, fd42, F42, He.glo_ok X G (c.fact 67 rfl), F42.binds (ps := ["pen", "some"]) fun _ _ _ _ _ _ us hl => match us, hl with | [_, _], _ => rfl⟩
    law_entry := ⟨_, fd43, F43, He.glo_ok X G (c.fact 68 rfl), F43.binds (ps := ["row", "size"]) fun _ _ _ _ _ _ us hl => match us, hl with | [_, _], _ => rfl⟩
    law_signs := ⟨_, fd44, F44, He.glo_ok X G (c.fact 69 rfl), F44.binds (ps := ["row", "ahead", "cuts"]) fun _ _ _ _ _ _ us hl => match us, hl with | [_, _, _], _ => rfl⟩
    law_paper := ⟨_, fd45, F45, He.glo_ok X G (c.fact 70 rfl), F45.binds (ps := ["entry"]) fun _ _ _ _ _ _ us hl => match us, hl with | [_], _ => rfl⟩
    law_span := ⟨_, fd46, F46, He.glo_ok X G (c.fact 71 rfl), F46.binds (ps := ["cuts", "at", "low", "high"]) fun _ _ _ _ _ _ us hl => match us, hl with | [_, _, _, _], _ => rfl⟩
    law_can := ⟨_, fd47, F47, He.glo_ok X G (c.fact 72 rfl), F47.binds (ps := ["entry", "ahead", "cuts", "word"]) fun _ _ _ _ _ _ us hl => match us, hl with | [_, _, _, _], _ => rfl⟩
    law := ⟨_, fd48, F48, He.glo_ok X G (c.fact 73 rfl), F48.binds (ps := ["script"]) fun _ _ _ _ _ _ us hl => match us, hl with | [_], _ => rfl⟩
    C_Paperg := He.glo_ok X G (c.fact 74 rfl)
    i_Paper := insB_ok (c.fact 75 rfl)
    f_Paper := fun f h => fldB_ok (c.fact 76 rfl) h
    k_Paper_Paper := of_decide_eq_true (c.fact 77 rfl)
    k_Paper_Block := of_decide_eq_true (c.fact 78 rfl)
    k_Paper_Entry := of_decide_eq_true (c.fact 79 rfl)
    k_Paper_int := of_decide_eq_true (c.fact 80 rfl)
    k_Paper_bool := of_decide_eq_true (c.fact 81 rfl)
    k_Paper_list := of_decide_eq_true (c.fact 82 rfl)
    k_Paper_tuple := of_decide_eq_true (c.fact 83 rfl)
    k_Paper_str := of_decide_eq_true (c.fact 84 rfl)
    k_int_Paper := of_decide_eq_true (c.fact 85 rfl)
    k_bool_Paper := of_decide_eq_true (c.fact 86 rfl)
    k_list_Paper := of_decide_eq_true (c.fact 87 rfl)
    k_tuple_Paper := of_decide_eq_true (c.fact 88 rfl)
    k_str_Paper := of_decide_eq_true (c.fact 89 rfl)
    k_NoneType_Paper := of_decide_eq_true (c.fact 90 rfl)
    C_Blockg := He.glo_ok X G (c.fact 91 rfl)
    i_Block := insB_ok (c.fact 92 rfl)
    C_Block := ⟨He.mkr_ok (c.fact 93 rfl), He.glo_ok X G (c.fact 91 rfl), (insB_ok (c.fact 92 rfl)).cl, insB_ok (c.fact 92 rfl)⟩
    f_Block := fun f h => fldB_ok (c.fact 94 rfl) h
    k_Block_Paper := of_decide_eq_true (c.fact 95 rfl)
    k_Block_Block := of_decide_eq_true (c.fact 96 rfl)
    k_Block_Entry := of_decide_eq_true (c.fact 97 rfl)
    k_Block_int := of_decide_eq_true (c.fact 98 rfl)
    k_Block_bool := of_decide_eq_true (c.fact 99 rfl)
    k_Block_list := of_decide_eq_true (c.fact 100 rfl)
    k_Block_tuple := of_decide_eq_true (c.fact 101 rfl)
    k_Block_str := of_decide_eq_true (c.fact 102 rfl)
    k_int_Block := of_decide_eq_true (c.fact 103 rfl)
    k_bool_Block := of_decide_eq_true (c.fact 104 rfl)
    k_list_Block := of_decide_eq_true (c.fact 105 rfl)
    k_tuple_Block := of_decide_eq_true (c.fact 106 rfl)
    k_str_Block := of_decide_eq_true (c.fact 107 rfl)
    k_NoneType_Block := of_decide_eq_true (c.fact 108 rfl)
    C_Entryg := He.glo_ok X G (c.fact 109 rfl)
    i_Entry := insB_ok (c.fact 110 rfl)
    C_Entry := ⟨He.mkr_ok (c.fact 111 rfl), He.glo_ok X G (c.fact 109 rfl), (insB_ok (c.fact 110 rfl)).cl, insB_ok (c.fact 110 rfl)⟩
    f_Entry := fun f h => fldB_ok (c.fact 112 rfl) h
    k_Entry_Paper := of_decide_eq_true (c.fact 113 rfl)
    k_Entry_Block := of_decide_eq_true (c.fact 114 rfl)
    k_Entry_Entry := of_decide_eq_true (c.fact 115 rfl)
    k_Entry_int := of_decide_eq_true (c.fact 116 rfl)
    k_Entry_bool := of_decide_eq_true (c.fact 117 rfl)
    k_Entry_list := of_decide_eq_true (c.fact 118 rfl)
    k_Entry_tuple := of_decide_eq_true (c.fact 119 rfl)
    k_Entry_str := of_decide_eq_true (c.fact 120 rfl)
    k_int_Entry := of_decide_eq_true (c.fact 121 rfl)
    k_bool_Entry := of_decide_eq_true (c.fact 122 rfl)
    k_list_Entry := of_decide_eq_true (c.fact 123 rfl)
    k_tuple_Entry := of_decide_eq_true (c.fact 124 rfl)
    k_str_Entry := of_decide_eq_true (c.fact 125 rfl)
    k_NoneType_Entry := of_decide_eq_true (c.fact 126 rfl) }⟩
end K21
end
section
set_option maxRecDepth 100000
set_option maxHeartbeats 4000000
namespace K21
open PySem PySem.Spec PyProof.Rows L2 RZ StX NdefX DL
local macro_rules | `(tactic| walk_at "dl") => `(tactic| simp only [dSeq, dIfS, dTest, dOp, rdLt, rdLe, rdGt, rdGe, rdEq, rdNe, rdI0, rdI, rdPlus, rdTimes, rdIsN, rdNotN, rdIsB, rdIsi, dIsiT, dVar, dC, dRet, dRetN, dNext, dNever, dDrop, dAsg, dSetN, gNm, gTp, gCn, gNl, dCB, dCall, dCallM, dCons, dNil, dStar, dTup, rdInt, rdAbs, rdLen, rdBool, rdReprF, rdTuple, rdAll, rdAny, rdSum, rdSumA, rdMax2, rdMin2, dLenB, dIxB, gSb, dAnd, dOr, dNot, dAndV, dOrV, dNotV, dIf, dChain, dChain3, dUn, rdIx, dShare, dLst, dPar, dPar3, dFld, dFldI, dFset, gFs, dMeth, dMake, dSl, dNoP, dPart, dAug, dYes, wipeS, backS, iSq, iLs, iTp, iEnq, iZq, iRg1, iRg2, startS, startM, startI, lstAt, setLst, D.cv, D.cvs, D.isNon, D.seq, atI, ixN, List.getElem?_cons_succ, List.getElem?_cons_zero, List.length_cons, List.length_nil, List.map_cons, List.map_nil, List.cons_append, List.nil_append, List.append_nil, Nat.reduceAdd, Nat.reduceSub, List.replicate, Option.some.injEq, exists_eq_left', exists_eq_left, exists_eq', exists_and_left, exists_and_right, true_and, and_true, List.set_cons_zero, List.set_cons_succ, decide_eq_true_eq, Option.bind_some, Option.map_some, reduceIte, if_true, if_false, Bool.false_eq_true, Bool.not_true, Bool.not_false, Sl.io.injEq, Sl.sh.injEq])
theorem no_of {sl : List Sl} {vs : List Nat} (h : (vs.all fun v => match sl[v]? with | some s => !s.own | none => true) = true) : NoOwn sl vs := fun v hv s hs => by
  have q := List.all_eq_true.mp h v hv
  rw [hs] at q
  simpa using q
theorem len_of {sl : List Sl} {vs : List Nat} (h : (vs.all fun v => decide (v < sl.length)) = true) : ∀ v ∈ vs, v < sl.length := fun v hv => of_decide_eq_true (List.all_eq_true.mp h v hv)
section
variable {K : PySem.W.Frag}
/-- data without instances and classes at the top -/
def plainD : D → Bool
  | .ins _ _ => false
  | .ty _ => false
  | .cls _ => false
  | _ => true
theorem plain_ok {d : D} (h : plainD d = true) : TyOk K d := by
  cases d <;> first | trivial | cases h
def isIntD : D → Bool
  | .int _ => true
  | _ => false
def isSeqD : D → Bool
  | .lst _ => true
  | .tup _ => true
  | .scr _ => true
  | _ => false
def isTupD : D → Bool
  | .tup _ => true
  | _ => false
def isBlD : D → Bool
  | .bl _ => true
  | _ => false
theorem kit_int : ∀ {d : D}, plainD d = true → PySem.W.kitOne K d.ty' (.type "int") = some (isIntD d || isBlD d)
  | .non, _ => kit_ty (r := false) (by decide +kernel)
  | .bl _, _ => kit_ty (r := true) (by decide +kernel)
  | .int _, _ => kit_ty (r := true) (by decide +kernel)
  | .str _, _ => kit_ty (r := false) (by decide +kernel)
  | .tup _, _ => kit_ty (r := false) (by decide +kernel)
  | .lst _, _ => kit_ty (r := false) (by decide +kernel)
  | .scr _, _ => kit_ty (r := false) (by decide +kernel)
theorem kit_bool : ∀ {d : D}, plainD d = true → PySem.W.kitOne K d.ty' (.type "bool") = some (isBlD d)
  | .non, _ => kit_ty (r := false) (by decide +kernel)
  | .bl _, _ => kit_ty (r := true) (by decide +kernel)
  | .int _, _ => kit_ty (r := false) (by decide +kernel)
  | .str _, _ => kit_ty (r := false) (by decide +kernel)
  | .tup _, _ => kit_ty (r := false) (by decide +kernel)
  | .lst _, _ => kit_ty (r := false) (by decide +kernel)
  | .scr _, _ => kit_ty (r := false) (by decide +kernel)
theorem kit_list : ∀ {d : D}, plainD d = true → PySem.W.kitOne K d.ty' (.type "list") = some (isSeqD d && !isTupD d)
  | .non, _ => kit_ty (r := false) (by decide +kernel)
  | .bl _, _ => kit_ty (r := false) (by decide +kernel)
  | .int _, _ => kit_ty (r := false) (by decide +kernel)
  | .str _, _ => kit_ty (r := false) (by decide +kernel)
  | .tup _, _ => kit_ty (r := false) (by decide +kernel)
  | .lst _, _ => kit_ty (r := true) (by decide +kernel)
  | .scr _, _ => kit_ty (r := true) (by decide +kernel)
theorem kit_tuple : ∀ {d : D}, plainD d = true → PySem.W.kitOne K d.ty' (.type "tuple") = some (isTupD d)
  | .non, _ => kit_ty (r := false) (by decide +kernel)
  | .bl _, _ => kit_ty (r := false) (by decide +kernel)
  | .int _, _ => kit_ty (r := false) (by decide +kernel)
  | .str _, _ => kit_ty (r := false) (by decide +kernel)
  | .tup _, _ => kit_ty (r := true) (by decide +kernel)
  | .lst _, _ => kit_ty (r := false) (by decide +kernel)
  | .scr _, _ => kit_ty (r := false) (by decide +kernel)
theorem kit_lt {d : D} (h : plainD d = true) : PySem.W.kitAny K d.ty' [.type "list", .type "tuple"] = some (isSeqD d) := by
  unfold PySem.W.kitAny
  rw [kit_list h]
  unfold PySem.W.kitAny
  rw [kit_tuple h]
  unfold PySem.W.kitAny
  cases d <;> first | rfl | cases h
end
/-! ### data -/
def tI (xs : List Int) : D := .tup (xs.map D.int)
def prD (p : Int × Int) : D := .tup [.int p.1, .int p.2]
def spD : Option (Int × Int) → D
  | none => .non
  | some p => prD p
theorem bls_all (bs : List Bool) : boolsD (bs.map D.bl) = some bs := bools_map bs
section
variable {P : Program} {w : World} {K : PySem.W.Frag} {mg : Str → Option Value} {base : Heap}
def sp_is_integer : SD := fun ds P => ∃ d, ds = [d] ∧ plainD d = true ∧ P (.bl (isIntD d))
theorem ok_is_integer (T : Txt K mg) : FnOk P w K mg base CX0 1 T.is_integer.f T.is_integer.fd ["value"] (SpD K sp_is_integer) := by
  refine okD T.is_integer.fu sc_is_integer (fun ds P ⟨d, e, _⟩ => by rw [e]; rfl) (fun cdv A outer s H E Fm hr =>
    (dss_one (ds_ret (de_and (de_isiK K (by rfl) T.b_isinstance (de_var 0) (de_bltn (n := "int") (by rfl) T.b_int (by decide +kernel))) (de_one (de_not (de_isiK K (by rfl) T.b_isinstance (de_var 0) (de_bltn (n := "bool") (by rfl) T.b_bool (by decide +kernel))))))))) (fun ds Q ⟨d, e, h1, h2⟩ => ?_)
  subst e
  walk_at "dl"
  refine ⟨plain_ok h1, _, kit_int h1, ?_⟩
  cases d <;> simp only [isIntD, isBlD, Bool.or_false, Bool.or_true, if_true, if_false, Bool.false_eq_true] at h2 ⊢ <;> first | exact h2 | exact ⟨plain_ok h1, _, kit_bool h1, h2⟩
def sp_is_within : SD := fun ds P => ∃ v a b : Int, ds = [.int v, .int a, .int b] ∧ P (.bl (decide (a ≤ v ∧ v ≤ b)))
theorem ok_is_within (T : Txt K mg) : FnOk P w K mg base CX0 2 T.is_within.f T.is_within.fd ["value", "least", "most"] (SpD K sp_is_within) := by
  have G_is_integer : FnOk P w K mg base CX0 1 T.is_integer.f T.is_integer.fd _ _ := ok_is_integer T
  refine okD T.is_within.fu sc_is_within (fun ds P ⟨v, a, b, e, _⟩ => by rw [e]; rfl) (fun cdv A outer s H E Fm hr =>
    (dss_one (ds_ret (de_and (de_call (G_is_integer) (hr.mono (by decide)) (by rfl) T.is_integer.mgf T.is_integer.fu.kp T.is_integer.bi .nil (fun _ => .nil) (da_cons (de_var 0) da_nil)) (de_and (de_or (de_cmp op_isN lr_isN (de_var 1) de_non) (de_one (de_cmp op_ge lr_ge (de_var 0) (de_var 1)))) (de_one (de_or (de_cmp op_isN lr_isN (de_var 2) de_non) (de_one (de_cmp op_le lr_le (de_var 0) (de_var 2)))))))))) (fun ds Q ⟨v, a, b, e, h2⟩ => ?_)
  subst e
  walk_at "dl"
  refine ⟨.int v, rfl, rfl, ?_⟩
  simp only [isIntD, if_true, reduceIte]
  by_cases h1 : a ≤ v <;> simp [h1] at h2 ⊢ <;> exact h2
def sp_is_listed : SD := fun ds P => ∃ d, ds = [d] ∧ plainD d = true ∧ P (.bl (isSeqD d))
theorem ok_is_listed (T : Txt K mg) : FnOk P w K mg base CX0 1 T.is_listed.f T.is_listed.fd ["value"] (SpD K sp_is_listed) := by
  refine okD T.is_listed.fu sc_is_listed (fun ds P ⟨d, e, _⟩ => by rw [e]; rfl) (fun cdv A outer s H E Fm hr =>
    (dss_one (ds_ret (de_isiTK K (by rfl) T.b_isinstance (de_var 0) (da_cons (de_bltn (n := "list") (by rfl) T.b_list (by decide +kernel)) (da_cons (de_bltn (n := "tuple") (by rfl) T.b_tuple (by decide +kernel)) da_nil)))))) (fun ds Q ⟨d, e, h1, h2⟩ => ?_)
  subst e
  walk_at "dl"
  exact ⟨by decide, plain_ok h1, _, kit_lt h1, h2⟩
def sp_are_integers : SD := fun ds P => ∃ ns : List Int, ds = [tI ns, .int ns.length] ∧ ns.length ≤ 1000 ∧ P (.bl true)
theorem ok_are_integers (T : Txt K mg) : FnOk P w K mg base CX0 2 T.are_integers.f T.are_integers.fd ["value", "many"] (SpD K sp_are_integers) := by
  have G_is_integer : FnOk P w K mg base CX0 1 T.is_integer.f T.is_integer.fd _ _ := ok_is_integer T
  have G_is_listed : FnOk P w K mg base CX0 1 T.is_listed.f T.is_listed.fd _ _ := ok_is_listed T
  refine okD T.are_integers.fu sc_are_integers (fun ds P ⟨ns, e, _⟩ => by rw [e]; rfl) (fun cdv A outer s H E Fm hr =>
    (dss_one (ds_ret (de_and (de_call (G_is_listed) (hr.mono (by decide)) (by rfl) T.is_listed.mgf T.is_listed.fu.kp T.is_listed.bi .nil (fun _ => .nil) (da_cons (de_var 0) da_nil)) (de_and (de_cmp (op_eq2 hr.units) lr_eq (de_len (by rfl) T.b_len (de_var 0)) (de_var 1)) (de_one (de_callB (cr_all rfl) lr_all (by rfl) T.b_all (by decide +kernel) (da_cons (de_new (dn_lc (own := [("part", 2)]) rfl sc_are_integers.nd (di_seq (de_var 0)) (blkOk_by (by kernel_rfl)) (fun _ _ _ _ _ _ => (dg_name (i := 2) sc_are_integers.nd rfl (by first | exact Or.inl rfl | exact Or.inr rfl))) (fun _ _ _ _ _ _ => dts_nil) (fun _ _ _ _ _ _ => (de_call (G_is_integer) (hr.mono (by decide)) (by rfl) T.is_integer.mgf T.is_integer.fu.kp T.is_integer.bi .nil (fun _ => .nil) (da_cons (de_var 2) da_nil))))) da_nil)))))))) (fun ds Q ⟨ns, e, hz, h2⟩ => ?_)
  subst e
  walk_at "dl"
  refine ⟨tI ns, rfl, rfl, ?_⟩
  simp only [isSeqD, tI, List.length_map, if_true, reduceIte]
  refine dLc_map (sl1 := ?_) (ns.map D.int) (fun _ => .bl true) (fun Q h => ?_) ?_ ?_ (by rw [List.length_map, sizeLine_eq]; omega) (fun x hx Q1 h => ?_) ?_
  rotate_left
  · walk_at "dl"
    exact h
  · exact no_of rfl
  · exact len_of rfl
  · walk_at "dl"
    obtain ⟨n, _, rfl⟩ := List.mem_map.mp hx
    exact ⟨.int n, rfl, rfl, h⟩
  · refine ⟨ns.map fun _ => true, ?_, ?_⟩
    · rw [← bls_all, List.map_map, List.map_map]
      rfl
    · have : (ns.map fun _ => true).all id = true := by simp
      rw [this]
      exact h2
end
end K21
end
section
set_option maxRecDepth 100000
set_option maxHeartbeats 4000000
namespace K21
open PySem PySem.Spec PyProof.Rows L2 RZ StX NdefX DL
theorem atI_c0 {α : Type} (x : α) (xs : List α) : atI (x :: xs) 0 = some x := by
  unfold atI ixN
  simp
theorem atI_nat {α : Type} {xs : List α} {k : Nat} {x : α} (h : xs[k]? = some x) : atI xs (k : Int) = some x := by
  have hk : k < xs.length := (List.getElem?_eq_some_iff.mp h).1
  unfold atI ixN
  rw [if_pos (by omega), if_pos (by omega)]
  simpa using h
theorem atI_0 {α : Type} (a : α) (xs : List α) : atI (a :: xs) 0 = some a := atI_nat (k := 0) rfl
theorem atI_1 {α : Type} (a b : α) (xs : List α) : atI (a :: b :: xs) 1 = some b := atI_nat (k := 1) rfl
theorem atI_2 {α : Type} (a b c : α) (xs : List α) : atI (a :: b :: c :: xs) 2 = some c := atI_nat (k := 2) rfl
theorem atI_3 {α : Type} (a b c d : α) (xs : List α) : atI (a :: b :: c :: d :: xs) 3 = some d := atI_nat (k := 3) rfl
theorem atI_4 {α : Type} (a b c d e : α) (xs : List α) : atI (a :: b :: c :: d :: e :: xs) 4 = some e := atI_nat (k := 4) rfl
theorem atI_5 {α : Type} (a b c d e f : α) (xs : List α) : atI (a :: b :: c :: d :: e :: f :: xs) 5 = some f := atI_nat (k := 5) rfl
theorem atI_6 {α : Type} (a b c d e f g : α) (xs : List α) : atI (a :: b :: c :: d :: e :: f :: g :: xs) 6 = some g := atI_nat (k := 6) rfl
theorem all_bools (xs : List D) : boolsD (xs.map fun _ => D.bl true) = some (xs.map fun _ => true) := by rw [← bls_all, List.map_map]; rfl
theorem all_all (xs : List D) : (xs.map fun _ => true).all id = true := by simp
theorem cut_from {α : Type} (xs : List α) (k : Nat) : cutL xs (some (k : Int)) none = xs.drop k := by
  unfold cutL
  rw [HT.sIx_nat, HT.sIx_none]
  by_cases h : k ≤ xs.length
  · rw [Nat.min_eq_left h]
    exact List.take_of_length_le (by rw [List.length_drop]; omega)
  · rw [Nat.min_eq_right (by omega), List.drop_length, List.drop_eq_nil_of_le (by omega)]
    simp
theorem cut_to {α : Type} (xs : List α) (k : Nat) : cutL xs none (some (k : Int)) = xs.take k := by
  unfold cutL
  rw [HT.sIx_nat, HT.sIx_none, List.drop_zero, Nat.sub_zero]
  by_cases h : k ≤ xs.length
  · rw [Nat.min_eq_left h]
  · rw [Nat.min_eq_right (by omega), List.take_length, List.take_of_length_le (by omega)]
local macro_rules | `(tactic| walk_at "dl") => `(tactic| simp only [dSeq, dIfS, dTest, dOp, rdLt, rdLe, rdGt, rdGe, rdEq, rdNe, rdI0, rdI, rdPlus, rdTimes, rdIsN, rdNotN, rdIsB, rdIsi, dIsiT, dVar, dC, dRet, dRetN, dNext, dNever, dDrop, dAsg, dSetN, gNm, gTp, gCn, gNl, dCB, dCall, dCallM, dCons, dNil, dStar, dTup, rdInt, rdAbs, rdLen, rdBool, rdReprF, rdTuple, rdAll, rdAny, rdSum, rdSumA, rdMax2, rdMin2, dLenB, dIxB, gSb, dAnd, dOr, dNot, dAndV, dOrV, dNotV, dIf, dChain, dChain3, dUn, rdIx, dShare, dLst, dPar, dPar3, dFld, dFldI, dFset, gFs, dMeth, dMake, dSl, dNoP, dPart, dAug, dYes, wipeS, backS, iSq, iLs, iTp, iEnq, iZq, iRg1, iRg2, tI, prD, startS, startM, startI, lstAt, setLst, D.cv, D.cvs, D.isNon, D.seq, atI_0, atI_1, atI_2, atI_3, atI_4, atI_5, atI_6, Int.cast_ofNat_Int, Int.natCast_one, Int.natCast_zero, Int.reduceEq, Int.reduceLE, Int.reduceLT, decide_true, decide_false, List.getElem?_cons_succ, List.getElem?_cons_zero, List.length_cons, List.length_nil, List.map_cons, List.map_nil, List.cons_append, List.nil_append, List.append_nil, Nat.reduceAdd, Nat.reduceSub, List.replicate, Option.some.injEq, exists_eq_left', exists_eq_left, exists_eq', exists_and_left, exists_and_right, true_and, and_true, List.set_cons_zero, List.set_cons_succ, decide_eq_true_eq, Option.bind_some, Option.map_some, reduceIte, if_true, if_false, Bool.false_eq_true, Bool.not_true, Bool.not_false, Sl.io.injEq, Sl.sh.injEq])
/-- how many cuts are not beyond n -/
def clsOf (cs : List Int) (n : Int) : Nat := (cs.filter fun c => decide (c ≤ n)).length
theorem fm_len (cs : List Int) (n : Int) (f : D → Option D) (hf : ∀ c : Int, f (.int c) = if c ≤ n then some (.int c) else none) : ((cs.map D.int).filterMap f).length = clsOf cs n := by
  unfold clsOf
  induction cs with
  | nil => rfl
  | cons c cs ih =>
    rw [List.map_cons, List.filterMap_cons, hf, List.filter_cons]
    by_cases h : c ≤ n
    · simp only [h, if_true, decide_true, List.length_cons, ih]
    · simp only [h, if_false, decide_false, Bool.false_eq_true, ih]
/-- strictly ascending -/
def Asc (cs : List Int) : Prop := cs.Pairwise (· < ·)
theorem mem_pairs {cs : List Int} {x : D} (ha : Asc cs) (h : x ∈ zipD (cs.map D.int) ((cs.map D.int).drop 1)) : ∃ a b : Int, x = .tup [.int a, .int b] ∧ a < b := by
  obtain ⟨i, hi⟩ := List.mem_iff_getElem?.mp h
  obtain ⟨u, v, h1, h2, rfl⟩ := zipD_get hi
  rw [List.getElem?_map] at h1
  rw [List.getElem?_drop, List.getElem?_map] at h2
  obtain ⟨a, ha1, rfl⟩ := Option.map_eq_some_iff.mp h1
  obtain ⟨b, hb1, rfl⟩ := Option.map_eq_some_iff.mp h2
  refine ⟨a, b, rfl, ?_⟩
  obtain ⟨l1, e1⟩ := List.getElem?_eq_some_iff.mp ha1
  obtain ⟨l2, e2⟩ := List.getElem?_eq_some_iff.mp hb1
  have := List.pairwise_iff_getElem.mp ha i (1 + i) l1 l2 (by omega)
  rw [e1, e2] at this
  exact this
section
variable {P : Program} {w : World} {K : PySem.W.Frag} {mg : Str → Option Value} {base : Heap}
def sp_class_in : SD := fun ds P => ∃ (cs : List Int) (n : Int), ds = [tI cs, .int n] ∧ cs.length ≤ 1000 ∧ P (.int (clsOf cs n : Nat))
theorem ok_class_in (T : Txt K mg) : FnOk P w K mg base CX0 1 T.class_in.f T.class_in.fd ["row", "number"] (SpD K sp_class_in) := by
  refine okD T.class_in.fu sc_class_in (fun ds P ⟨cs, n, e, _⟩ => by rw [e]; rfl) (fun cdv A outer s H E Fm hr =>
    (dss_one (ds_ret (de_len (by rfl) T.b_len (de_new (dn_lc (own := [("cut", 2)]) rfl sc_class_in.nd (di_seq (de_var 0)) (blkOk_by (by kernel_rfl)) (fun _ _ _ _ _ _ => (dg_name (i := 2) sc_class_in.nd rfl (by first | exact Or.inl rfl | exact Or.inr rfl))) (fun _ _ _ _ _ _ => (dts_one (dt_cmp op_le lr_le (de_var 2) (de_var 1)))) (fun _ _ _ _ _ _ => (de_var 2)))))))) (fun ds Q ⟨cs, n, e, hz, h2⟩ => ?_)
  subst e
  walk_at "dl"
  refine dLc_fm (sl1 := ?_) (cs.map D.int) (fun x => match x with | .int c => if c ≤ n then some (.int c) else none | _ => none) (fun Q h => ?_) ?_ ?_ (by rw [List.length_map, sizeLine_eq]; omega) (fun x hx Q1 h => ?_) ?_
  rotate_left
  · walk_at "dl"
    exact h
  · exact no_of rfl
  · exact len_of rfl
  · obtain ⟨c, _, rfl⟩ := List.mem_map.mp hx
    walk_at "dl"
    by_cases hc : c ≤ n <;> simp only [hc, if_true, if_false, reduceIte] at h ⊢ <;> exact h
  · rw [fm_len cs n _ fun c => rfl]
    exact h2
def sp_are_cuts_row : SD := fun ds P => ∃ (cs : List Int) (a b m : Int), ds = [tI cs, .int a, .int b, .int m] ∧ (cs.length : Int) ≤ m ∧ m ≤ 1000 ∧ (∀ c ∈ cs, a ≤ c ∧ c ≤ b) ∧ Asc cs ∧ P (.bl true)
theorem ok_are_cuts_row (T : Txt K mg) : FnOk P w K mg base CX0 3 T.are_cuts_row.f T.are_cuts_row.fd ["value", "least", "most", "many"] (SpD K sp_are_cuts_row) := by
  have G_is_listed : FnOk P w K mg base CX0 1 T.is_listed.f T.is_listed.fd _ _ := ok_is_listed T
  have G_is_within : FnOk P w K mg base CX0 2 T.is_within.f T.is_within.fd _ _ := ok_is_within T
  refine okD T.are_cuts_row.fu sc_are_cuts_row (fun ds P ⟨cs, a, b, m, e, _⟩ => by rw [e]; rfl) (fun cdv A outer s H E Fm hr =>
    (dss_cons (ds_if (dt_w (dw_or (dt_not (dt_val (de_call (G_is_listed) (hr.mono (by decide)) (by rfl) T.is_listed.mgf T.is_listed.fu.kp T.is_listed.bi .nil (fun _ => .nil) (da_cons (de_var 0) da_nil)))) (dw_or (dt_cmp op_gt lr_gt (de_len (by rfl) T.b_len (de_var 0)) (de_var 3)) (dw_or1 (dt_not (dt_val (de_callB (cr_all rfl) lr_all (by rfl) T.b_all (by decide +kernel) (da_cons (de_new (dn_lc (own := [("one", 4)]) rfl sc_are_cuts_row.nd (di_seq (de_var 0)) (blkOk_by (by kernel_rfl)) (fun _ _ _ _ _ _ => (dg_name (i := 4) sc_are_cuts_row.nd rfl (by first | exact Or.inl rfl | exact Or.inr rfl))) (fun _ _ _ _ _ _ => dts_nil) (fun _ _ _ _ _ _ => (de_call (G_is_within) (hr.mono (by decide)) (by rfl) T.is_within.mgf T.is_within.fu.kp T.is_within.bi .nil (fun _ => .nil) (da_cons (de_var 4) (da_cons (de_var 1) (da_cons (de_var 2) da_nil))))))) da_nil)))))))) (dss_one (ds_ret de_bl)) dss_nil)
      (dss_one (ds_ret (de_callB (cr_all rfl) lr_all (by rfl) T.b_all (by decide +kernel) (da_cons (de_new (dn_lc (own := [("one", 4), ("other", 5)]) rfl sc_are_cuts_row.nd (di_zipq (by rfl) T.b_zip (de_var 0) (de_sl (de_var 0) (do_some de_int) do_none)) (blkOk_by (by kernel_rfl)) (fun _ _ _ _ _ _ => (dg_tup (n := 2) rfl (dgs_cons (dg_name (i := 4) sc_are_cuts_row.nd rfl (by first | exact Or.inl rfl | exact Or.inr rfl)) (dgs_cons (dg_name (i := 5) sc_are_cuts_row.nd rfl (by first | exact Or.inl rfl | exact Or.inr rfl)) dgs_nil)))) (fun _ _ _ _ _ _ => dts_nil) (fun _ _ _ _ _ _ => (de_cmp op_lt lr_lt (de_var 4) (de_var 5))))) da_nil)))))) (fun ds Q ⟨cs, a, b, m, e, h1, h2, h3, h4, h5⟩ => ?_)
  subst e
  walk_at "dl"
  refine ⟨tI cs, rfl, rfl, ?_⟩
  simp only [isSeqD, tI, List.length_map, if_true, reduceIte]
  walk_at "dl"
  rw [if_neg (by omega)]
  refine dLc_map (sl1 := ?_) (cs.map D.int) (fun _ => .bl true) (fun Q h => ?_) ?_ ?_ (by rw [List.length_map, sizeLine_eq]; omega) (fun x hx Q1 h => ?_) ?_
  rotate_left
  · walk_at "dl"
    exact h
  · exact no_of rfl
  · exact len_of rfl
  · obtain ⟨c, hc, rfl⟩ := List.mem_map.mp hx
    walk_at "dl"
    refine ⟨c, a, b, rfl, ?_⟩
    rw [decide_eq_true (h3 c hc)]
    exact h
  · refine ⟨_, all_bools _, ?_⟩
    rw [all_all]
    walk_at "dl"
    refine dLc_map (sl1 := ?_) (zipD (cs.map D.int) ((cs.map D.int).drop 1)) (fun _ => .bl true) (fun Q h => ?_) ?_ ?_ (by rw [zipD_len, List.length_map, sizeLine_eq]; omega) (fun x hx Q1 h => ?_) ?_
    rotate_left
    · walk_at "dl"
      rw [show (1 : Int) = ((1 : Nat) : Int) from rfl, cut_from]
      exact h
    · exact no_of rfl
    · exact len_of rfl
    · obtain ⟨x1, x2, rfl, hlt⟩ := mem_pairs h4 hx
      walk_at "dl"
      rw [decide_eq_true hlt]
      exact h
    · refine ⟨_, all_bools _, ?_⟩
      rw [all_all]
      exact h5
def vcuts (vs gs : List Int) : D := .tup [tI vs, tI gs]
/-- cuts of values and of gaps that are right -/
structure CutsOk (vs gs : List Int) : Prop where
  v1 : vs.length ≤ 6
  v2 : ∀ c ∈ vs, 1 - 2 ^ 40 ≤ c ∧ c ≤ 2 ^ 40
  v3 : Asc vs
  g1 : gs.length ≤ 3
  g2 : ∀ c ∈ gs, 2 ≤ c ∧ c ≤ 2 ^ 20
  g3 : Asc gs
def sp_is_cuts : SD := fun ds P => ∃ vs gs : List Int, ds = [vcuts vs gs] ∧ CutsOk vs gs ∧ P (.bl true)
theorem ok_is_cuts (T : Txt K mg) : FnOk P w K mg base CX0 4 T.is_cuts.f T.is_cuts.fd ["value"] (SpD K sp_is_cuts) := by
  have G_is_listed : FnOk P w K mg base CX0 1 T.is_listed.f T.is_listed.fd _ _ := ok_is_listed T
  have G_are_cuts_row : FnOk P w K mg base CX0 3 T.are_cuts_row.f T.are_cuts_row.fd _ _ := ok_are_cuts_row T
  refine okD T.is_cuts.fu sc_is_cuts (fun ds P ⟨vs, gs, e, _⟩ => by rw [e]; rfl) (fun cdv A outer s H E Fm hr =>
    (dss_cons (ds_if (dt_w (dw_or (dt_not (dt_val (de_call (G_is_listed) (hr.mono (by decide)) (by rfl) T.is_listed.mgf T.is_listed.fu.kp T.is_listed.bi .nil (fun _ => .nil) (da_cons (de_var 0) da_nil)))) (dw_or1 (dt_cmp (op_ne2 hr.units) lr_ne (de_len (by rfl) T.b_len (de_var 0)) de_int)))) (dss_one (ds_ret de_bl)) dss_nil)
      (dss_cons (ds_if (dt_not (dt_val (de_call (G_are_cuts_row) (hr.mono (by decide)) (by rfl) T.are_cuts_row.mgf T.are_cuts_row.fu.kp T.are_cuts_row.bi .nil (fun _ => .nil) (da_cons (de_ix (de_var 0) de_int) (da_cons (de_sub de_int (de_gi (by rfl) T.c_MOST_VALUE)) (da_cons (de_gi (by rfl) T.c_MOST_VALUE) (da_cons (de_gi (by rfl) T.c_MOST_VALUE_CUTS) da_nil))))))) (dss_one (ds_ret de_bl)) dss_nil)
      (dss_one (ds_ret (de_call (G_are_cuts_row) (hr.mono (by decide)) (by rfl) T.are_cuts_row.mgf T.are_cuts_row.fu.kp T.are_cuts_row.bi .nil (fun _ => .nil) (da_cons (de_ix (de_var 0) de_int) (da_cons de_int (da_cons (de_gi (by rfl) T.c_MOST_GAP_CUT) (da_cons (de_gi (by rfl) T.c_MOST_GAP_CUTS) da_nil)))))))))) (fun ds Q ⟨vs, gs, e, ok, h5⟩ => ?_)
  subst e
  walk_at "dl"
  refine ⟨vcuts vs gs, rfl, rfl, ?_⟩
  simp only [isSeqD, vcuts]
  walk_at "dl"
  refine ⟨vs, _, _, _, rfl, by have := ok.v1; omega, by decide, fun c hc => by have := ok.v2 c hc; omega, ok.v3, ?_⟩
  walk_at "dl"
  exact ⟨gs, _, _, _, rfl, by have := ok.g1; omega, by decide, fun c hc => by have := ok.g2 c hc; omega, ok.g3, h5⟩
def sp_need_cuts : SD := fun ds P => ∃ vs gs : List Int, ds = [vcuts vs gs] ∧ CutsOk vs gs ∧ P (vcuts vs gs)
theorem ok_need_cuts (T : Txt K mg) : FnOk P w K mg base CX0 5 T.need_cuts.f T.need_cuts.fd ["cuts"] (SpD K sp_need_cuts) := by
  have G_is_cuts : FnOk P w K mg base CX0 4 T.is_cuts.f T.is_cuts.fd _ _ := ok_is_cuts T
  refine okD T.need_cuts.fu sc_need_cuts (fun ds P ⟨vs, gs, e, _⟩ => by rw [e]; rfl) (fun cdv A outer s H E Fm hr =>
    (dss_cons (ds_if (dt_not (dt_val (de_call (G_is_cuts) (hr.mono (by decide)) (by rfl) T.is_cuts.mgf T.is_cuts.fu.kp T.is_cuts.bi .nil (fun _ => .nil) (da_cons (de_var 0) da_nil)))) (dss_one ds_never) dss_nil)
      (dss_one (ds_ret (de_tup (da_cons (de_callTy call_tuple_of lr_tuple (by rfl) T.b_tuple (by decide +kernel) (da_cons (de_ix (de_var 0) de_int) da_nil)) (da_cons (de_callTy call_tuple_of lr_tuple (by rfl) T.b_tuple (by decide +kernel) (da_cons (de_ix (de_var 0) de_int) da_nil)) da_nil))))))) (fun ds Q ⟨vs, gs, e, ok, h5⟩ => ?_)
  subst e
  walk_at "dl"
  refine ⟨vs, gs, rfl, ok, ?_⟩
  simp only [vcuts]
  walk_at "dl"
  exact ⟨by decide, h5⟩
end
end K21
end
section
set_option maxRecDepth 100000
set_option maxHeartbeats 4000000
namespace K21
open PySem PySem.Spec PyProof.Rows L2 RZ StX NdefX DL
local macro_rules | `(tactic| walk_at "dl") => `(tactic| simp only [dSeq, dIfS, dTest, dOp, rdLt, rdLe, rdGt, rdGe, rdEq, rdNe, rdI0, rdI, rdPlus, rdTimes, rdIsN, rdNotN, rdIsB, rdIsi, dIsiT, dVar, dC, dRet, dRetN, dNext, dNever, dDrop, dAsg, dSetN, gNm, gTp, gCn, gNl, dCB, dCall, dCallM, dCons, dNil, dStar, dTup, rdInt, rdAbs, rdLen, rdBool, rdReprF, rdTuple, rdAll, rdAny, rdSum, rdSumA, rdMax2, rdMin2, dLenB, dIxB, gSb, dAnd, dOr, dNot, dAndV, dOrV, dNotV, dIf, dChain, dChain3, dUn, rdIx, dShare, dLst, dPar, dPar3, dFld, dFldI, dFset, gFs, dMeth, dMake, dSl, dNoP, dPart, dAug, dYes, dApp, dPop, dPopAt, wipeS, backS, iSq, iLs, iTp, iEnq, iZq, iRg1, iRg2, tI, prD, startS, startM, startI, lstAt, setLst, D.cv, D.cvs, D.isNon, D.seq, atI_0, atI_1, atI_2, atI_3, atI_4, atI_5, atI_6, Int.cast_ofNat_Int, Int.natCast_one, Int.natCast_zero, Int.reduceEq, Int.reduceLE, Int.reduceLT, decide_true, decide_false, List.getElem?_cons_succ, List.getElem?_cons_zero, List.length_cons, List.length_nil, List.map_cons, List.map_nil, List.cons_append, List.nil_append, List.append_nil, Nat.reduceAdd, Nat.reduceSub, List.replicate, Option.some.injEq, exists_eq_left', exists_eq_left, exists_eq', exists_and_left, exists_and_right, true_and, and_true, List.set_cons_zero, List.set_cons_succ, decide_eq_true_eq, Option.bind_some, Option.map_some, reduceIte, if_true, if_false, Bool.false_eq_true, Bool.not_true, Bool.not_false, Sl.io.injEq, Sl.sh.injEq])

theorem rngD_get {n i : Nat} {x : D} (h : (rngD 0 n)[i]? = some x) : i < n ∧ x = .int (i : Int) := by
  unfold rngD at h
  rw [List.getElem?_map] at h
  obtain ⟨j, h1, rfl⟩ := Option.map_eq_some_iff.mp h
  obtain ⟨l, e⟩ := List.getElem?_eq_some_iff.mp h1
  rw [List.length_range] at l
  rw [List.getElem_range] at e
  subst e
  exact ⟨l, by simp⟩
theorem range_map_succ {α : Type} (f : Nat → α) (i : Nat) : (List.range (i + 1)).map f = (List.range i).map f ++ [f i] := by rw [List.range_succ, List.map_append]; rfl
theorem dFor_of {di : DI} {g : DG} {t : DS} {N : DN} {sl sl1 : List Sl} {items : List D} (I : Nat → List Sl → Prop) (hd : ∀ Q : List D → List Sl → Prop, Q items sl1 → di sl Q) (h0 : I 0 sl1)
    (step : ∀ i x sl, items[i]? = some x → I i sl → g x sl fun sl2 => t { nx := I (i + 1), ct := I (i + 1), bk := N.nx, rt := N.rt, ro := N.ro } sl2) (fin : ∀ sl, I items.length sl → N.nx sl) : dFor di g t N sl := hd _ ⟨I, h0, step, fin⟩
/-- what values (or gaps) a class has, between low and high -/
def spanAt (cs : List Int) (lo hi : Int) (k : Nat) : Option (Int × Int) :=
  let least := if k = 0 then lo else if cs.getD (k - 1) 0 > lo then cs.getD (k - 1) 0 else lo
  let most := if k = cs.length then hi else if cs.getD k 0 - 1 < hi then cs.getD k 0 - 1 else hi
  if least ≤ most then some (least, most) else none
def spansM (cs : List Int) (lo hi : Int) : List (Option (Int × Int)) := (List.range (cs.length + 1)).map (spanAt cs lo hi)
def spansD (l : List (Option (Int × Int))) : D := .lst (l.map spD)
section
variable {P : Program} {w : World} {K : PySem.W.Frag} {mg : Str → Option Value} {base : Heap}
def sp_spans_in : SD := fun ds P => ∃ (cs : List Int) (lo hi : Int), ds = [tI cs, .int lo, .int hi] ∧ cs.length ≤ 1000 ∧ P (spansD (spansM cs lo hi))
theorem ok_spans_in (T : Txt K mg) : FnOk P w K mg base CX0 1 T.spans_in.f T.spans_in.fd ["cuts", "low", "high"] (SpD K sp_spans_in) := by
  refine okD T.spans_in.fu sc_spans_in (fun ds P ⟨cs, lo, hi, e, _⟩ => by rw [e]; rfl) (fun cdv A outer s H E Fm hr =>
    (dss_cons (ds_setN (i := 3) sc_spans_in.nd rfl (by first | exact Or.inl rfl | exact Or.inr rfl) (dn_lst da_nil))
      (dss_cons (ds_for PassesOwn.never rfl (di_range1 (by rfl) T.b_range (de_plus (de_len (by rfl) T.b_len (de_var 0)) de_int)) (dg_name (i := 4) sc_spans_in.nd rfl (by first | exact Or.inl rfl | exact Or.inr rfl)) (dss_cons (ds_set (i := 5) sc_spans_in.nd rfl (by first | exact Or.inl rfl | exact Or.inr rfl) (de_if (dt_cmp (op_eq2 hr.units) lr_eq (de_var 4) de_int) (de_var 1) (de_callB (call_max2 rfl) lr_max2 (by rfl) T.b_max (by decide +kernel) (da_cons (de_var 1) (da_cons (de_ix (de_var 0) (de_sub (de_var 4) de_int)) da_nil)))))
      (dss_cons (ds_set (i := 6) sc_spans_in.nd rfl (by first | exact Or.inl rfl | exact Or.inr rfl) (de_if (dt_cmp (op_eq2 hr.units) lr_eq (de_var 4) (de_len (by rfl) T.b_len (de_var 0))) (de_var 2) (de_callB (call_min2 rfl) lr_min2 (by rfl) T.b_min (by decide +kernel) (da_cons (de_var 2) (da_cons (de_sub (de_ix (de_var 0) (de_var 4)) de_int) da_nil)))))
      (dss_one (ds_expr (de_app 3 (de_if (dt_cmp op_le lr_le (de_var 5) (de_var 6)) (de_tup (da_cons (de_var 5) (da_cons (de_var 6) da_nil))) de_non)))))))
      (dss_one (ds_ret (de_var 3)))))) (fun ds Q ⟨cs, lo, hi, e, hz, h2⟩ => ?_)
  subst e
  walk_at "dl"
  refine ⟨by decide, ?_⟩
  refine dFor_of (sl1 := ?_) (items := rngD 0 (cs.length + 1)) (fun i sl => ∃ a b c, sl = [.sh (tI cs), .sh (.int lo), .sh (.int hi), .ow (((List.range i).map (spanAt cs lo hi)).map spD), a, b, c]) (fun Q h => ?_) ?_ ?_ ?_
  rotate_left
  · walk_at "dl"
    rw [List.length_map, show ((cs.length : Int) + 1).toNat = cs.length + 1 by omega]
    refine ⟨by omega, ?_⟩
    exact h
  · exact ⟨_, _, _, rfl⟩
  · rintro i x sl hi' ⟨a, b, c, rfl⟩
    obtain ⟨hi2, rfl⟩ := rngD_get hi'
    have acc : (((List.range i).map (spanAt cs lo hi)).map spD).length < sizeLine := by rw [List.length_map, List.length_map, List.length_range, sizeLine_eq]; omega
    have fin : ∀ y, y = spD (spanAt cs lo hi i) → ((List.range i).map (spanAt cs lo hi)).map spD ++ [y] = ((List.range (i + 1)).map (spanAt cs lo hi)).map spD := fun y hy => by rw [range_map_succ, List.map_append, hy]; rfl
    have go : ∀ (y : D) (s4 s5 s6 : Sl), y = spD (spanAt cs lo hi i) → (((List.range i).map (spanAt cs lo hi)).map spD).length < sizeLine ∧ ∃ a b c, [Sl.sh (D.tup (List.map D.int cs)), Sl.sh (D.int lo), Sl.sh (D.int hi), Sl.ow (((List.range i).map (spanAt cs lo hi)).map spD ++ [y]), s4, s5, s6] =
        [Sl.sh (D.tup (List.map D.int cs)), Sl.sh (D.int lo), Sl.sh (D.int hi), Sl.ow (((List.range (i + 1)).map (spanAt cs lo hi)).map spD), a, b, c] := fun y s4 s5 s6 hy => ⟨acc, s4, s5, s6, by rw [fin y hy]⟩
    have hat : ∀ k : Nat, k < cs.length → atI (cs.map D.int) (k : Int) = some (.int (cs.getD k 0)) := fun k hk => atI_nat (by rw [List.getElem?_map, List.getElem?_eq_getElem hk, List.getD_eq_getElem?_getD, List.getElem?_eq_getElem hk]; rfl)
    walk_at "dl"
    have tail : ∀ (l : Int), (l = if i = 0 then lo else if cs.getD (i - 1) 0 > lo then cs.getD (i - 1) 0 else lo) → ∀ m : Int, (m = if i = cs.length then hi else if cs.getD i 0 - 1 < hi then cs.getD i 0 - 1 else hi) → spD (spanAt cs lo hi i) = if l ≤ m then .tup [.int l, .int m] else .non := fun l hl m hm => by
      unfold spanAt
      rw [← hl, ← hm]
      by_cases h : l ≤ m <;> simp only [h, if_true, if_false] <;> rfl
    have two : 2 ≤ sizeLine := by decide
    have done_ : ∀ (l m : Int) (s4 s5 s6 : Sl), spD (spanAt cs lo hi i) = (if l ≤ m then .tup [.int l, .int m] else .non) → if l ≤ m then 2 ≤ sizeLine ∧ (((List.range i).map (spanAt cs lo hi)).map spD).length < sizeLine ∧ ∃ a b c, [Sl.sh (D.tup (List.map D.int cs)), Sl.sh (D.int lo), Sl.sh (D.int hi), Sl.ow (((List.range i).map (spanAt cs lo hi)).map spD ++ [D.tup [.int l, .int m]]), s4, s5, s6] =
        [Sl.sh (D.tup (List.map D.int cs)), Sl.sh (D.int lo), Sl.sh (D.int hi), Sl.ow (((List.range (i + 1)).map (spanAt cs lo hi)).map spD), a, b, c] else (((List.range i).map (spanAt cs lo hi)).map spD).length < sizeLine ∧ ∃ a b c, [Sl.sh (D.tup (List.map D.int cs)), Sl.sh (D.int lo), Sl.sh (D.int hi), Sl.ow (((List.range i).map (spanAt cs lo hi)).map spD ++ [D.non]), s4, s5, s6] =
        [Sl.sh (D.tup (List.map D.int cs)), Sl.sh (D.int lo), Sl.sh (D.int hi), Sl.ow (((List.range (i + 1)).map (spanAt cs lo hi)).map spD), a, b, c] := fun l m s4 s5 s6 t => by
      by_cases h3 : l ≤ m
      · rw [if_pos h3] at t ⊢
        exact ⟨two, go _ _ _ _ t.symm⟩
      · rw [if_neg h3] at t ⊢
        exact go _ _ _ _ t.symm
    rw [List.length_map]
    by_cases h0 : i = 0
    · rw [if_pos (show (i : Int) = 0 by omega)]
      by_cases h1 : i = cs.length
      · rw [if_pos (show (i : Int) = (cs.length : Int) by omega)]
        exact done_ _ _ _ _ _ (tail lo (by rw [if_pos h0]) hi (by rw [if_pos h1]))
      · rw [if_neg (show ¬ (i : Int) = (cs.length : Int) by omega)]
        refine ⟨_, hat i (by omega), ?_⟩
        exact done_ _ _ _ _ _ (tail lo (by rw [if_pos h0]) _ (by rw [if_neg h1]))
    · rw [if_neg (show ¬ (i : Int) = 0 by omega), show (i : Int) - 1 = ((i - 1 : Nat) : Int) by omega]
      refine ⟨_, hat (i - 1) (by omega), ?_⟩
      walk_at "dl"
      by_cases h1 : i = cs.length
      · rw [if_pos (show (i : Int) = (cs.length : Int) by omega)]
        exact done_ _ _ _ _ _ (tail _ (by rw [if_neg h0]) hi (by rw [if_pos h1]))
      · rw [if_neg (show ¬ (i : Int) = (cs.length : Int) by omega)]
        refine ⟨_, hat i (by omega), ?_⟩
        exact done_ _ _ _ _ _ (tail _ (by rw [if_neg h0]) _ (by rw [if_neg h1]))
  · rintro sl ⟨a, b, c, rfl⟩
    walk_at "dl"
    rw [rngD_len]
    exact h2
end
end K21
end
section
set_option maxRecDepth 100000
set_option maxHeartbeats 4000000
namespace K21
open PySem PySem.Spec PyProof.Rows L2 RZ StX NdefX DL
local macro_rules | `(tactic| walk_at "dl") => `(tactic| simp only [dSeq, dIfS, dTest, dOp, rdLt, rdLe, rdGt, rdGe, rdEq, rdNe, rdI0, rdI, rdPlus, rdTimes, rdIsN, rdNotN, rdIsB, rdIsi, dIsiT, dVar, dC, dRet, dRetN, dNext, dNever, dDrop, dAsg, dSetN, gNm, gTp, gCn, gNl, dCB, dCall, dCallM, dCons, dNil, dStar, dTup, rdInt, rdAbs, rdLen, rdBool, rdReprF, rdTuple, rdAll, rdAny, rdSum, rdSumA, rdMax2, rdMin2, dLenB, dIxB, gSb, dAnd, dOr, dNot, dAndV, dOrV, dNotV, dIf, dChain, dChain3, dUn, rdIx, dShare, dLst, dPar, dPar3, dFld, dFldI, dFset, gFs, dMeth, dMake, dSl, dNoP, dPart, dAug, dYes, dApp, dPop, dPopAt, wipeS, backS, iSq, iLs, iTp, iEnq, iZq, iRg1, iRg2, tI, prD, spansD, vcuts, startS, startM, startI, lstAt, setLst, D.cv, D.cvs, D.isNon, D.seq, atI_0, atI_1, atI_2, atI_3, atI_4, atI_5, atI_6, Int.cast_ofNat_Int, Int.natCast_one, Int.natCast_zero, Int.reduceEq, Int.reduceLE, Int.reduceLT, decide_true, decide_false, List.getElem?_cons_succ, List.getElem?_cons_zero, List.length_cons, List.length_nil, List.map_cons, List.map_nil, List.cons_append, List.nil_append, List.append_nil, Nat.reduceAdd, Nat.reduceSub, List.replicate, Option.some.injEq, exists_eq_left', exists_eq_left, exists_eq', exists_and_left, exists_and_right, true_and, and_true, List.set_cons_zero, List.set_cons_succ, decide_eq_true_eq, Option.bind_some, Option.map_some, reduceIte, if_true, if_false, Bool.false_eq_true, Bool.not_true, Bool.not_false, Sl.io.injEq, Sl.sh.injEq])

/-- comprehensions over a list that is told by items of another kind -/
theorem dLc_fmA {α : Type} {di : DI} {g : DG} {tt : DT} {de : DE} {vs : List Nat} {sl sl1 : List Sl} {P : List D → List Sl → Prop} (zs : List α) (h : α → D) (f : α → Option D)
    (hd : ∀ Q : List D → List Sl → Prop, Q (zs.map h) sl1 → di sl Q) (no : NoOwn sl1 vs) (hl : ∀ i ∈ vs, i < sl1.length) (hz : zs.length < sizeLine)
    (step : ∀ z ∈ zs, ∀ Q1 : Option D → List Sl → Prop, Q1 (f z) sl1 → g (h z) (wipeS sl1 vs) fun sl3 => tt sl3 fun b sl4 => if b = true then de sl4 fun d sl5 => Q1 (some d) (backS sl1 sl5 vs) else Q1 none (backS sl1 sl4 vs))
    (fin : P (zs.filterMap f) sl1) : dLc di g tt de vs sl P := by
  refine hd _ ⟨⟨no, hl⟩, fun i sl acc => sl = sl1 ∧ acc = (zs.take i).filterMap f, ⟨rfl, rfl⟩, ?_, ?_⟩
  · rintro i x sl2 acc hi ⟨rfl, rfl⟩
    rw [List.getElem?_map] at hi
    obtain ⟨z, hzi, rfl⟩ := Option.map_eq_some_iff.mp hi
    refine ⟨⟨no, hl⟩, step z (List.mem_of_getElem? hzi) (fun o sl' => match o with
      | some d => ((zs.take i).filterMap f).length < sizeLine ∧ sl' = sl2 ∧ (zs.take i).filterMap f ++ [d] = (zs.take (i + 1)).filterMap f
      | none => sl' = sl2 ∧ (zs.take i).filterMap f = (zs.take (i + 1)).filterMap f) ?_⟩
    have t := take_fm f zs i z hzi
    have z2 := filterMap_take_le f zs i
    cases hx : f z with
    | none => rw [hx] at t; exact ⟨rfl, by rw [t]; simp⟩
    | some d => rw [hx] at t; exact ⟨by omega, rfl, by rw [t]; rfl⟩
  · rintro sl2 acc ⟨rfl, rfl⟩
    rw [List.length_map, List.take_length]
    exact fin
theorem dLc_mapA {α : Type} {di : DI} {g : DG} {de : DE} {vs : List Nat} {sl sl1 : List Sl} {P : List D → List Sl → Prop} (zs : List α) (h : α → D) (f : α → D)
    (hd : ∀ Q : List D → List Sl → Prop, Q (zs.map h) sl1 → di sl Q) (no : NoOwn sl1 vs) (hl : ∀ i ∈ vs, i < sl1.length) (hz : zs.length < sizeLine)
    (step : ∀ z ∈ zs, ∀ Q1 : D → List Sl → Prop, Q1 (f z) sl1 → g (h z) (wipeS sl1 vs) fun sl3 => de sl3 fun d sl5 => Q1 d (backS sl1 sl5 vs))
    (fin : P (zs.map f) sl1) : dLc di g dYes de vs sl P := by
  refine dLc_fmA zs h (fun z => some (f z)) hd no hl hz (fun z hz Q1 hq => ?_) (by rw [List.filterMap_eq_map']; exact fin)
  have s := step z hz (fun d sl' => Q1 (some d) sl') hq
  have e : ∀ (Q2 : Bool → List Sl → Prop), (fun sl3 => dYes sl3 Q2) = fun sl3 => Q2 true sl3 := fun _ => rfl
  rw [e]
  have e2 : ∀ (A B : List Sl → Prop), (fun sl3 => if true = true then A sl3 else B sl3) = A := fun A B => funext fun _ => if_pos rfl
  rw [e2]
  exact s
theorem zipD_maps {α β : Type} (f : α → D) (g : β → D) (xs : List α) (ys : List β) : zipD (xs.map f) (ys.map g) = (xs.zip ys).map fun p => .tup [f p.1, g p.2] := by
  unfold zipD
  rw [List.zip_map, List.map_map]
  rfl
theorem ints_fm {α : Type} (zs : List α) (f : α → Option Int) : intsD (zs.filterMap fun z => (f z).map D.int) = some (zs.filterMap f) := by
  induction zs with
  | nil => rfl
  | cons z zs ih =>
    rw [List.filterMap_cons, List.filterMap_cons]
    cases f z with
    | none => exact ih
    | some i => simp [intsD, ih]
theorem ints_mapf {α : Type} (zs : List α) (f : α → Int) : intsD (zs.map fun z => D.int (f z)) = some (zs.map f) := by
  rw [← DL.ints_map (zs.map f), List.map_map]
  rfl
theorem bools_mapf {α : Type} (zs : List α) (f : α → Bool) : boolsD (zs.map fun z => D.bl (f z)) = some (zs.map f) := by
  rw [← DL.bools_map (zs.map f), List.map_map]
  rfl
theorem set_map (cs : List Int) (k : Nat) (x : Int) (hk : k < cs.length) : (cs.map D.int).take k ++ D.int x :: (cs.map D.int).drop (k + 1) = (cs.set k x).map D.int := by
  rw [List.map_set, List.set_eq_take_append_cons_drop, if_pos (by rw [List.length_map]; exact hk)]
/-- an entry -/
structure Ent where
  bits : Int
  count : Int
  first : Int
  last : Int
  total : Int
  least : Int
  greatest : Int
def Ent.l (e : Ent) : List Int := [e.bits, e.count, e.first, e.last, e.total, e.least, e.greatest]
def entF (e : Ent) : List (Str × D) := [("word", .str "entry"), ("parts", tI e.l), ("bits", .int e.bits), ("count", .int e.count), ("first", .int e.first), ("last", .int e.last), ("total", .int e.total), ("least", .int e.least), ("greatest", .int e.greatest)]
theorem entF_parts (e : Ent) : (entF e).lookup ("parts" : Str) = some (tI e.l) := rfl
theorem entF_bits (e : Ent) : (entF e).lookup ("bits" : Str) = some (D.int e.bits) := rfl
theorem entF_count (e : Ent) : (entF e).lookup ("count" : Str) = some (D.int e.count) := rfl
theorem entF_first (e : Ent) : (entF e).lookup ("first" : Str) = some (D.int e.first) := rfl
theorem entF_last (e : Ent) : (entF e).lookup ("last" : Str) = some (D.int e.last) := rfl
theorem entF_total (e : Ent) : (entF e).lookup ("total" : Str) = some (D.int e.total) := rfl
theorem entF_least (e : Ent) : (entF e).lookup ("least" : Str) = some (D.int e.least) := rfl
theorem entF_greatest (e : Ent) : (entF e).lookup ("greatest" : Str) = some (D.int e.greatest) := rfl
/-- ahead: none, or a moment -/
def ahD : Option Int → D
  | none => .non
  | some a => .int a
def firstM (gs : List Int) (e : Ent) (ah : Option Int) : Int := match ah with
  | none => -1
  | some a => (clsOf gs (e.first - a) : Nat)
def sumLo (l : List (Option (Int × Int))) (cs : List Int) : Int := ((cs.zip l).filterMap fun p => p.2.map fun s => p.1 * s.1).sum
def sumHi (l : List (Option (Int × Int))) (cs : List Int) : Int := ((cs.zip l).filterMap fun p => p.2.map fun s => p.1 * s.2).sum
def metM (l : List (Option (Int × Int))) (cs : List Int) : Bool := (cs.zip l).all fun p => decide (p.1 = 0) || p.2.isSome
section
variable {P : Program} {w : World} {K : PySem.W.Frag} {mg : Str → Option Value} {base : Heap}
def sp_more_in : SD := fun ds P => ∃ (cs : List Int) (k : Nat), ds = [tI cs, .int (k : Nat)] ∧ k < cs.length ∧ cs.length ≤ 1000 ∧ P (tI (cs.set k (cs.getD k 0 + 1)))
theorem ok_more_in (T : Txt K mg) : FnOk P w K mg base CX0 1 T.more_in.f T.more_in.fd ["counts", "at"] (SpD K sp_more_in) := by
  refine okD T.more_in.fu sc_more_in (fun ds P ⟨cs, k, e, _⟩ => by rw [e]; rfl) (fun cdv A outer s H E Fm hr =>
    (dss_one (ds_ret (de_tup (da_star (de_sl (de_var 0) do_none (do_some (de_var 1))) (da_cons (de_plus (de_ix (de_var 0) (de_var 1)) de_int) (da_star (de_sl (de_var 0) (do_some (de_plus (de_var 1) de_int)) do_none) da_nil))))))) (fun ds Q ⟨cs, k, e, hk, hz, h2⟩ => ?_)
  subst e
  walk_at "dl"
  refine ⟨.int (cs.getD k 0), atI_nat (by rw [List.getElem?_map, List.getElem?_eq_getElem hk, List.getD_eq_getElem?_getD, List.getElem?_eq_getElem hk]; rfl), ?_⟩
  walk_at "dl"
  rw [show (k : Int) + 1 = ((k + 1 : Nat) : Int) by omega, cut_to, cut_from, set_map _ _ _ hk]
  exact ⟨by rw [List.length_map, List.length_set, sizeLine_eq]; omega, h2⟩
def sp_sums_in : SD := fun ds P => ∃ (l : List (Option (Int × Int))) (cs : List Int), ds = [spansD l, tI cs] ∧ l.length ≤ 1000 ∧ (∀ c ∈ cs, 0 ≤ c ∧ c ≤ 1000) ∧ (∀ p, some p ∈ l → -2 ^ 41 ≤ p.1 ∧ p.1 ≤ 2 ^ 41 ∧ -2 ^ 41 ≤ p.2 ∧ p.2 ≤ 2 ^ 41) ∧ P (prD (sumLo l cs, sumHi l cs))
theorem ok_sums_in (T : Txt K mg) : FnOk P w K mg base CX0 1 T.sums_in.f T.sums_in.fd ["spans", "counts"] (SpD K sp_sums_in) := by
  refine okD T.sums_in.fu sc_sums_in (fun ds P ⟨l, cs, e, _⟩ => by rw [e]; rfl) (fun cdv A outer s H E Fm hr =>
    (dss_cons (ds_setLc (i := 2) (own := [("many", 3), ("span", 4)]) rfl sc_sums_in.nd rfl rfl (by rfl) (di_zipq (by rfl) T.b_zip (de_var 1) (de_var 0)) (blkOk_by (by kernel_rfl)) (fun _ _ _ _ _ _ => (dg_tup (n := 2) rfl (dgs_cons (dg_name (i := 3) sc_sums_in.nd rfl (by first | exact Or.inl rfl | exact Or.inr rfl)) (dgs_cons (dg_name (i := 4) sc_sums_in.nd rfl (by first | exact Or.inl rfl | exact Or.inr rfl)) dgs_nil)))) (fun _ _ _ _ _ _ => (dts_one (dt_cmp op_notN lr_notN (de_var 4) de_non))) (fun _ _ _ _ _ _ => (de_tup (da_cons (de_var 3) (da_cons (de_var 4) da_nil)))))
      (dss_one (ds_ret (de_tup (da_cons (de_callB (cr_sumA rfl) lr_sumA (by rfl) T.b_sum (by decide +kernel) (da_cons (de_new (dn_lc (own := [("many", 3), ("span", 4)]) rfl sc_sums_in.nd (di_seq (de_var 2)) (blkOk_by (by kernel_rfl)) (fun _ _ _ _ _ _ => (dg_tup (n := 2) rfl (dgs_cons (dg_name (i := 3) sc_sums_in.nd rfl (by first | exact Or.inl rfl | exact Or.inr rfl)) (dgs_cons (dg_name (i := 4) sc_sums_in.nd rfl (by first | exact Or.inl rfl | exact Or.inr rfl)) dgs_nil)))) (fun _ _ _ _ _ _ => dts_nil) (fun _ _ _ _ _ _ => (de_times (de_var 3) (de_ix (de_var 4) de_int))))) da_nil)) (da_cons (de_callB (cr_sumA rfl) lr_sumA (by rfl) T.b_sum (by decide +kernel) (da_cons (de_new (dn_lc (own := [("many", 3), ("span", 4)]) rfl sc_sums_in.nd (di_seq (de_var 2)) (blkOk_by (by kernel_rfl)) (fun _ _ _ _ _ _ => (dg_tup (n := 2) rfl (dgs_cons (dg_name (i := 3) sc_sums_in.nd rfl (by first | exact Or.inl rfl | exact Or.inr rfl)) (dgs_cons (dg_name (i := 4) sc_sums_in.nd rfl (by first | exact Or.inl rfl | exact Or.inr rfl)) dgs_nil)))) (fun _ _ _ _ _ _ => dts_nil) (fun _ _ _ _ _ _ => (de_times (de_var 3) (de_ix (de_var 4) de_int))))) da_nil)) da_nil))))))) (fun ds Q ⟨l, cs, e, hz, hc, hp, h2⟩ => ?_)
  subst e
  have hzl : (cs.zip l).length ≤ 1000 := by rw [List.length_zip]; omega
  let zs := (cs.zip l).filterMap fun p => p.2.map fun s => (p.1, s)
  have zlen : zs.length ≤ 1000 := Nat.le_trans (List.length_filterMap_le _ _) hzl
  have zin : ∀ q ∈ zs, q.1 ∈ cs ∧ some q.2 ∈ l := fun q hq => by
    obtain ⟨p, hp1, hp2⟩ := List.mem_filterMap.mp hq
    obtain ⟨s, hs, rfl⟩ := Option.map_eq_some_iff.mp hp2
    obtain ⟨h1, h2⟩ := List.of_mem_zip (show (p.1, p.2) ∈ cs.zip l from hp1)
    exact ⟨h1, by rw [← hs]; exact h2⟩
  walk_at "dl"
  refine dLc_fmA (sl1 := ?_) (cs.zip l) (fun p => .tup [.int p.1, spD p.2]) (fun p => p.2.map fun s => .tup [.int p.1, prD s]) (fun Q h => ?_) ?_ ?_ (by rw [sizeLine_eq]; omega) (fun z hz Q1 h => ?_) ?_
  rotate_left
  · walk_at "dl"
    rw [zipD_maps]
    exact h
  · exact no_of rfl
  · exact len_of rfl
  · obtain ⟨m, s⟩ := z
    cases s with
    | none =>
      simp only [spD]
      walk_at "dl"
      exact h
    | some s =>
      simp only [spD]
      walk_at "dl"
      exact ⟨by decide, h⟩
  · have eq : ((cs.zip l).filterMap fun p => p.2.map fun s => D.tup [.int p.1, prD s]) = zs.map fun q => .tup [.int q.1, prD q.2] := by
      rw [List.map_filterMap]
      congr 1
      funext p
      obtain ⟨m, s⟩ := p
      cases s <;> rfl
    rw [eq]
    walk_at "dl"
    refine dLc_mapA (sl1 := ?_) zs (fun q => .tup [.int q.1, prD q.2]) (fun q => .int (q.1 * q.2.1)) (fun Q h => ?_) ?_ ?_ (by rw [sizeLine_eq]; omega) (fun z hz Q1 h => ?_) ?_
    rotate_left
    · walk_at "dl"
      exact h
    · exact no_of rfl
    · exact len_of rfl
    · walk_at "dl"
      have := hc _ (zin z hz).1
      refine ⟨.inl ?_, ?_⟩
      · omega
      · exact h
    · refine ⟨_, ints_mapf _ _, ?_⟩
      refine dLc_mapA (sl1 := ?_) zs (fun q => .tup [.int q.1, prD q.2]) (fun q => .int (q.1 * q.2.2)) (fun Q h => ?_) ?_ ?_ (by rw [sizeLine_eq]; omega) (fun z hz Q1 h => ?_) ?_
      rotate_left
      · walk_at "dl"
        exact h
      · exact no_of rfl
      · exact len_of rfl
      · walk_at "dl"
        have := hc _ (zin z hz).1
        refine ⟨.inl ?_, ?_⟩
        · omega
        · exact h
      · refine ⟨_, ints_mapf _ _, by decide, ?_⟩
        have e1 : (zs.map fun q => q.1 * q.2.1) = (cs.zip l).filterMap fun p => p.2.map fun s => p.1 * s.1 := by
          rw [List.map_filterMap]
          congr 1
          funext p
          obtain ⟨m, s⟩ := p
          cases s <;> rfl
        have e2 : (zs.map fun q => q.1 * q.2.2) = (cs.zip l).filterMap fun p => p.2.map fun s => p.1 * s.2 := by
          rw [List.map_filterMap]
          congr 1
          funext p
          obtain ⟨m, s⟩ := p
          cases s <;> rfl
        rw [e1, e2]
        exact h2
def sp_are_met : SD := fun ds P => ∃ (l : List (Option (Int × Int))) (cs : List Int), ds = [spansD l, tI cs] ∧ l.length ≤ 1000 ∧ P (.bl (metM l cs))
theorem ok_are_met (T : Txt K mg) : FnOk P w K mg base CX0 1 T.are_met.f T.are_met.fd ["spans", "counts"] (SpD K sp_are_met) := by
  refine okD T.are_met.fu sc_are_met (fun ds P ⟨l, cs, e, _⟩ => by rw [e]; rfl) (fun cdv A outer s H E Fm hr =>
    (dss_one (ds_ret (de_callB (cr_all rfl) lr_all (by rfl) T.b_all (by decide +kernel) (da_cons (de_new (dn_lc (own := [("many", 2), ("span", 3)]) rfl sc_are_met.nd (di_zipq (by rfl) T.b_zip (de_var 1) (de_var 0)) (blkOk_by (by kernel_rfl)) (fun _ _ _ _ _ _ => (dg_tup (n := 2) rfl (dgs_cons (dg_name (i := 2) sc_are_met.nd rfl (by first | exact Or.inl rfl | exact Or.inr rfl)) (dgs_cons (dg_name (i := 3) sc_are_met.nd rfl (by first | exact Or.inl rfl | exact Or.inr rfl)) dgs_nil)))) (fun _ _ _ _ _ _ => dts_nil) (fun _ _ _ _ _ _ => (de_or (de_cmp (op_eq2 hr.units) lr_eq (de_var 2) de_int) (de_one (de_cmp op_notN lr_notN (de_var 3) de_non)))))) da_nil))))) (fun ds Q ⟨l, cs, e, hz, h2⟩ => ?_)
  subst e
  walk_at "dl"
  refine dLc_mapA (sl1 := ?_) (cs.zip l) (fun p => .tup [.int p.1, spD p.2]) (fun p => .bl (decide (p.1 = 0) || p.2.isSome)) (fun Q h => ?_) ?_ ?_ (by rw [List.length_zip, sizeLine_eq]; omega) (fun z hz Q1 h => ?_) ?_
  rotate_left
  · walk_at "dl"
    rw [zipD_maps]
    exact h
  · exact no_of rfl
  · exact len_of rfl
  · obtain ⟨m, s⟩ := z
    walk_at "dl"
    by_cases hm : m = 0
    · simp only [hm, if_true, decide_true, Bool.true_or] at h ⊢
      exact h
    · cases s with
      | none =>
        simp only [hm, if_false, decide_false, Bool.false_or, spD, Option.isSome] at h ⊢
        walk_at "dl"
        exact h
      | some s =>
        simp only [hm, if_false, decide_false, Bool.false_or, spD, Option.isSome] at h ⊢
        walk_at "dl"
        exact h
  · refine ⟨_, bools_mapf _ _, ?_⟩
    rw [List.all_map]
    exact h2
def sp_first_gap (C : Addr) : SD := fun ds P => ∃ (vs gs : List Int) (e : Ent) (ah : Option Int), ds = [vcuts vs gs, .ins C (entF e), ahD ah] ∧ gs.length ≤ 1000 ∧ P (.int (firstM gs e ah))
theorem ok_first_gap (T : Txt K mg) : FnOk P w K mg base CX0 2 T.first_gap.f T.first_gap.fd ["cuts", "entry", "ahead"] (SpD K (sp_first_gap T.a_Entry)) := by
  have G_class_in : FnOk P w K mg base CX0 1 T.class_in.f T.class_in.fd _ _ := ok_class_in T
  refine okD T.first_gap.fu sc_first_gap (fun ds P ⟨vs, gs, e, ah, q, _⟩ => by rw [q]; rfl) (fun cdv A outer s H E Fm hr =>
    (dss_one (ds_ret (de_if (dt_cmp op_isN lr_isN (de_var 2) de_non) (de_neg de_int) (de_call (G_class_in) (hr.mono (by decide)) (by rfl) T.class_in.mgf T.class_in.fu.kp T.class_in.bi .nil (fun _ => .nil) (da_cons (de_ix (de_var 0) de_int) (da_cons (de_sub (de_fldK K (de_var 1)) (de_var 2)) da_nil))))))) (fun ds Q ⟨vs, gs, e, ah, q, hz, h2⟩ => ?_)
  subst q
  cases ah with
  | none =>
    simp only [ahD]
    walk_at "dl"
    exact h2
  | some a =>
    simp only [ahD, vcuts]
    walk_at "dl"
    refine ⟨T.f_Entry "first" (by decide), _, entF_first e, ?_⟩
    exact ⟨gs, _, rfl, hz, h2⟩
end
end K21
end
section
set_option maxRecDepth 100000
set_option maxHeartbeats 4000000
namespace K21
open PySem PySem.Spec PyProof.Rows L2 RZ StX NdefX DL
local macro_rules | `(tactic| walk_at "dl") => `(tactic| simp only [dSeq, dIfS, dTest, dOp, rdLt, rdLe, rdGt, rdGe, rdEq, rdNe, rdI0, rdI, rdPlus, rdTimes, rdIsN, rdNotN, rdIsB, rdIsi, dIsiT, dVar, dC, dRet, dRetN, dNext, dNever, dDrop, dAsg, dSetN, gNm, gTp, gCn, gNl, dCB, dCall, dCallM, dCons, dNil, dStar, dTup, rdInt, rdAbs, rdLen, rdBool, rdReprF, rdTuple, rdAll, rdAny, rdSum, rdSumA, rdMax2, rdMin2, dLenB, dIxB, gSb, dAnd, dOr, dNot, dAndV, dOrV, dNotV, dIf, dChain, dChain3, dUn, rdIx, dShare, dLst, dPar, dPar3, dFld, dFldI, dFset, gFs, dMeth, dMake, dSl, dNoP, dPart, dAug, dYes, dApp, dPop, dPopAt, wipeS, backS, iSq, iLs, iTp, iEnq, iZq, iRg1, iRg2, tI, prD, spansD, vcuts, startS, startM, startI, lstAt, setLst, D.cv, D.cvs, D.isNon, D.seq, atI_0, atI_1, atI_2, atI_3, atI_4, atI_5, atI_6, Int.cast_ofNat_Int, Int.natCast_one, Int.natCast_zero, Int.reduceEq, Int.reduceLE, Int.reduceLT, decide_true, decide_false, List.getElem?_cons_succ, List.getElem?_cons_zero, List.length_cons, List.length_nil, List.map_cons, List.map_nil, List.cons_append, List.nil_append, List.append_nil, Nat.reduceAdd, Nat.reduceSub, List.replicate, Option.some.injEq, exists_eq_left', exists_eq_left, exists_eq', exists_and_left, exists_and_right, true_and, and_true, List.set_cons_zero, List.set_cons_succ, decide_eq_true_eq, Option.bind_some, Option.map_some, reduceIte, if_true, if_false, Bool.false_eq_true, Bool.not_true, Bool.not_false, Sl.io.injEq, Sl.sh.injEq])

section
variable {P : Program} {w : World} {K : PySem.W.Frag} {mg : Str → Option Value} {base : Heap}
def sp_never : SD := fun _ _ => False
theorem ok_never {k : Nat} {f : Addr} {fd : FuncData} {ps : List Str} : FnOk P w K mg base CX0 k f fd ps (SpD K sp_never) :=
  ⟨fun vs H Q E ⟨S, ds, P, e, r, h, _⟩ => h.elim, fun A outer s H args us vs Q E hr he hb hv ⟨S, ds, P, e, r, h, _⟩ => h.elim⟩
def sp_fixed0 : SD := fun ds P => ∃ i : Int, ds = [.int i] ∧ P (.int i)
theorem ok_fixed0 (T : Txt K mg) : FnOk P w K mg base CX0 1 T.fixed.f T.fixed.fd ["value"] (SpD K sp_fixed0) := by
  have G_fixed : FnOk P w K mg base CX0 0 T.fixed.f T.fixed.fd ["value"] (SpD K sp_never) := ok_never
  refine okD T.fixed.fu sc_fixed (fun ds P ⟨i, e, _⟩ => by rw [e]; rfl) (fun cdv A outer s H E Fm hr =>
    (dss_cons (ds_if (dt_val (de_isiTK K (by rfl) T.b_isinstance (de_var 0) (da_cons (de_bltn (n := "list") (by rfl) T.b_list (by decide +kernel)) (da_cons (de_bltn (n := "tuple") (by rfl) T.b_tuple (by decide +kernel)) da_nil)))) (dss_one (ds_ret (de_callTy call_tuple_of lr_tuple (by rfl) T.b_tuple (by decide +kernel) (da_cons (de_new (dn_lc (own := [("part", 1)]) rfl sc_fixed.nd (di_seq (de_var 0)) (blkOk_by (by kernel_rfl)) (fun _ _ _ _ _ _ => (dg_name (i := 1) sc_fixed.nd rfl (by first | exact Or.inl rfl | exact Or.inr rfl))) (fun _ _ _ _ _ _ => dts_nil) (fun _ _ _ _ _ _ => (de_call (G_fixed) (hr.mono (by decide)) (by rfl) T.fixed.mgf T.fixed.fu.kp T.fixed.bi .nil (fun _ => .nil) (da_cons (de_var 1) da_nil))))) da_nil)))) dss_nil)
      (dss_one (ds_ret (de_var 0))))) (fun ds Q ⟨i, e, h2⟩ => ?_)
  subst e
  walk_at "dl"
  refine ⟨by decide, trivial, _, kit_lt (d := .int i) rfl, ?_⟩
  simp only [isSeqD]
  walk_at "dl"
  exact h2
def sp_fixed : SD := fun ds P => ∃ ns : List Int, ds = [tI ns] ∧ ns.length ≤ 1000 ∧ P (tI ns)
theorem ok_fixed (T : Txt K mg) : FnOk P w K mg base CX0 2 T.fixed.f T.fixed.fd ["value"] (SpD K sp_fixed) := by
  have G_fixed : FnOk P w K mg base CX0 1 T.fixed.f T.fixed.fd _ _ := ok_fixed0 T
  refine okD T.fixed.fu sc_fixed (fun ds P ⟨ns, e, _⟩ => by rw [e]; rfl) (fun cdv A outer s H E Fm hr =>
    (dss_cons (ds_if (dt_val (de_isiTK K (by rfl) T.b_isinstance (de_var 0) (da_cons (de_bltn (n := "list") (by rfl) T.b_list (by decide +kernel)) (da_cons (de_bltn (n := "tuple") (by rfl) T.b_tuple (by decide +kernel)) da_nil)))) (dss_one (ds_ret (de_callTy call_tuple_of lr_tuple (by rfl) T.b_tuple (by decide +kernel) (da_cons (de_new (dn_lc (own := [("part", 1)]) rfl sc_fixed.nd (di_seq (de_var 0)) (blkOk_by (by kernel_rfl)) (fun _ _ _ _ _ _ => (dg_name (i := 1) sc_fixed.nd rfl (by first | exact Or.inl rfl | exact Or.inr rfl))) (fun _ _ _ _ _ _ => dts_nil) (fun _ _ _ _ _ _ => (de_call (G_fixed) (hr.mono (by decide)) (by rfl) T.fixed.mgf T.fixed.fu.kp T.fixed.bi .nil (fun _ => .nil) (da_cons (de_var 1) da_nil))))) da_nil)))) dss_nil)
      (dss_one (ds_ret (de_var 0))))) (fun ds Q ⟨ns, e, hz, h2⟩ => ?_)
  subst e
  walk_at "dl"
  refine ⟨by decide, trivial, _, kit_lt (d := tI ns) rfl, ?_⟩
  simp only [isSeqD, tI]
  walk_at "dl"
  refine dLc_mapA (sl1 := ?_) ns D.int D.int (fun Q h => ?_) ?_ ?_ (by rw [sizeLine_eq]; omega) (fun z hz Q1 h => ?_) ?_
  rotate_left
  · walk_at "dl"
    exact h
  · exact no_of rfl
  · exact len_of rfl
  · walk_at "dl"
    exact ⟨z, rfl, h⟩
  · exact h2
/-- Paper.__init__ for an instance of the class C -/
def sp_paper : SI := fun c ds P => ∃ (x : Str) (ns : List Int), c = [] ∧ ds = .str x :: ns.map D.int ∧ ns.length ≤ 1000 ∧ P [("word", .str x), ("parts", tI ns)]
theorem ok_paper (T : Txt K mg) : FnR P w K mg base CX0 3 (He.ma K (He.ga K "Paper") "__init__") (SpI K T.a_Entry sp_paper) := by
  have G_fixed : FnOk P w K mg base CX0 2 T.fixed.f T.fixed.fd _ _ := ok_fixed T
  obtain ⟨fd, hF⟩ := T.Paper___init__
  obtain ⟨oc, od, kV, doc, pm, an, cdv, ct, osl, rfl, lk, hcd⟩ := hF.ex
  refine okStarI (p0 := "self") (ps := ["word"]) (pv := "parts") lk hcd sc_Paper___init__ (fun us rest hl => ?_) (fun c ds P ⟨x, ns, e1, e2, hz, _⟩ => ?_) (fun A outer s H E Fm hr =>
    (dss_cons (ds_fsetK K 0 (de_var 1))
      (dss_one (ds_fsetK K 0 (de_call (G_fixed) (hr.mono (by decide)) (by rfl) T.fixed.mgf T.fixed.fu.kp T.fixed.bi .nil (fun _ => .nil) (da_cons (de_var 2) da_nil)))))) (fun c ds Q ⟨x, ns, e1, e2, hz, h⟩ => ?_)
  · match us, rest, hl with
    | [_, _], [], _ => rfl
    | [_, _], _ :: _, _ => rfl
  · subst e2
    refine ⟨by simp, ?_⟩
    rw [List.length_cons, List.length_map, sizeLine_eq]
    omega
  · subst e1 e2
    simp only [List.length_cons, List.length_nil, Nat.zero_add, List.take_succ_cons, List.take_zero, List.drop_succ_cons, List.drop_zero]
    walk_at "dl"
    exact ⟨_, _, rfl, T.f_Entry "word" (by decide), by decide, ns, rfl, hz, _, _, rfl, T.f_Entry "parts" (by decide), (by show 1 < 1000; decide), _, rfl, h⟩
/-- Entry.__init__ -/
def sp_Entry : SI := fun c ds P => ∃ e : Ent, c = [] ∧ ds = e.l.map D.int ∧ P (entF e)
theorem ok_Entry (T : Txt K mg) : FnOk Prog w K mg base CX0 5 T.Entry___init__.f T.Entry___init__.fd ["self", "bits", "count", "first", "last", "total", "least", "greatest"] (SpI K T.a_Entry sp_Entry) := by
  refine okSup T.Entry___init__.fu sc_Entry___init__ T.Entry___init__.z (ok_paper (P := Prog) T) (k := 4) (by decide) T.b_super rfl rfl rfl rfl rfl (fun _ => rfl) (fun _ => ⟨_, _, rfl⟩) (fun _ => ⟨_, rfl⟩) (fun _ => rfl) (fun c ds P ⟨e, e1, e2, _⟩ => ?_) (by decide) (fun A outer s H E Fm hr => ⟨(da_cons de_str (da_cons (de_var 1) (da_cons (de_var 2) (da_cons (de_var 3) (da_cons (de_var 4) (da_cons (de_var 5) (da_cons (de_var 6) (da_cons (de_var 7) da_nil)))))))), (dss_one (ds_asg (de_fldIK K 0) (dg_tup (n := 7) rfl (dgs_cons (dg_fldK K 0) (dgs_cons (dg_fldK K 0) (dgs_cons (dg_fldK K 0) (dgs_cons (dg_fldK K 0) (dgs_cons (dg_fldK K 0) (dgs_cons (dg_fldK K 0) (dgs_cons (dg_fldK K 0) dgs_nil))))))))))⟩) (fun c ds Q ⟨e, e1, e2, h⟩ => ?_)
  · subst e2
    rfl
  · subst e1 e2
    unfold dSup
    simp only [Ent.l]
    walk_at "dl"
    refine ⟨_, rfl, "entry", e.l, rfl, rfl, by show 7 ≤ 1000; decide, ?_⟩
    refine ⟨_, _, rfl, T.f_Entry "parts" (by decide), tI e.l, rfl, ?_⟩
    simp only [Ent.l, tI]
    walk_at "dl"
    refine ⟨_, _, rfl, T.f_Entry "bits" (by decide), (by show 2 < 1000; decide), ?_⟩
    refine ⟨_, _, rfl, T.f_Entry "count" (by decide), (by show 3 < 1000; decide), ?_⟩
    refine ⟨_, _, rfl, T.f_Entry "first" (by decide), (by show 4 < 1000; decide), ?_⟩
    refine ⟨_, _, rfl, T.f_Entry "last" (by decide), (by show 5 < 1000; decide), ?_⟩
    refine ⟨_, _, rfl, T.f_Entry "total" (by decide), (by show 6 < 1000; decide), ?_⟩
    refine ⟨_, _, rfl, T.f_Entry "least" (by decide), (by show 7 < 1000; decide), ?_⟩
    refine ⟨_, _, rfl, T.f_Entry "greatest" (by decide), (by show 8 < 1000; decide), ?_⟩
    exact ⟨_, rfl, h⟩
end
end K21
end
section
set_option maxRecDepth 100000
set_option maxHeartbeats 4000000
namespace K21
open PySem PySem.Spec PyProof.Rows L2 RZ StX NdefX DL
section
variable {K : PySem.W.Frag} {mg : Str → Option Value}
theorem FOe_bits (T : Txt K mg) : FldOk K T.a_Entry ("bits" : Str) = True := eq_true (T.f_Entry "bits" (by decide))
theorem FOe_count (T : Txt K mg) : FldOk K T.a_Entry ("count" : Str) = True := eq_true (T.f_Entry "count" (by decide))
theorem FOe_first (T : Txt K mg) : FldOk K T.a_Entry ("first" : Str) = True := eq_true (T.f_Entry "first" (by decide))
theorem FOe_last (T : Txt K mg) : FldOk K T.a_Entry ("last" : Str) = True := eq_true (T.f_Entry "last" (by decide))
theorem FOe_total (T : Txt K mg) : FldOk K T.a_Entry ("total" : Str) = True := eq_true (T.f_Entry "total" (by decide))
theorem FOe_least (T : Txt K mg) : FldOk K T.a_Entry ("least" : Str) = True := eq_true (T.f_Entry "least" (by decide))
theorem FOe_greatest (T : Txt K mg) : FldOk K T.a_Entry ("greatest" : Str) = True := eq_true (T.f_Entry "greatest" (by decide))
theorem FOe_parts (T : Txt K mg) : FldOk K T.a_Entry ("parts" : Str) = True := eq_true (T.f_Entry "parts" (by decide))
theorem FOe_word (T : Txt K mg) : FldOk K T.a_Entry ("word" : Str) = True := eq_true (T.f_Entry "word" (by decide))
theorem FOb_entry (T : Txt K mg) : FldOk K T.a_Block ("entry" : Str) = True := eq_true (T.f_Block "entry" (by decide))
theorem FOb_many (T : Txt K mg) : FldOk K T.a_Block ("many" : Str) = True := eq_true (T.f_Block "many" (by decide))
theorem FOb_first (T : Txt K mg) : FldOk K T.a_Block ("first" : Str) = True := eq_true (T.f_Block "first" (by decide))
theorem FOb_length (T : Txt K mg) : FldOk K T.a_Block ("length" : Str) = True := eq_true (T.f_Block "length" (by decide))
theorem FOb_spans (T : Txt K mg) : FldOk K T.a_Block ("spans" : Str) = True := eq_true (T.f_Block "spans" (by decide))
theorem FOb_steps (T : Txt K mg) : FldOk K T.a_Block ("steps" : Str) = True := eq_true (T.f_Block "steps" (by decide))
theorem FOb_bottom (T : Txt K mg) : FldOk K T.a_Block ("bottom" : Str) = True := eq_true (T.f_Block "bottom" (by decide))
theorem FOb_top (T : Txt K mg) : FldOk K T.a_Block ("top" : Str) = True := eq_true (T.f_Block "top" (by decide))
theorem FOb_inner (T : Txt K mg) : FldOk K T.a_Block ("inner" : Str) = True := eq_true (T.f_Block "inner" (by decide))
end
local macro_rules | `(tactic| walk_at "dl") => `(tactic| simp only [dSeq, dIfS, dTest, dOp, rdLt, rdLe, rdGt, rdGe, rdEq, rdNe, rdI0, rdI, rdPlus, rdTimes, rdIsN, rdNotN, rdIsB, rdIsi, dIsiT, dVar, dC, dRet, dRetN, dNext, dNever, dDrop, dAsg, dSetN, gNm, gTp, gCn, gNl, dCB, dCall, dCallM, dCons, dNil, dStar, dTup, rdInt, rdAbs, rdLen, rdBool, rdReprF, rdTuple, rdAll, rdAny, rdSum, rdSumA, rdMax2, rdMin2, dLenB, dIxB, gSb, dAnd, dOr, dNot, dAndV, dOrV, dNotV, dIf, dChain, dChain3, dUn, rdIx, dShare, dLst, dPar, dPar3, dFld, dFldI, dFset, gFs, dMeth, dMake, dSl, dNoP, dPart, dAug, dYes, dApp, dPop, dPopAt, wipeS, backS, iSq, iLs, iTp, iEnq, iZq, iRg1, iRg2, tI, prD, spansD, vcuts, startS, startM, startI, lstAt, setLst, D.cv, D.cvs, D.isNon, D.seq, atI_0, atI_1, atI_2, atI_3, atI_4, atI_5, atI_6, Int.cast_ofNat_Int, Int.natCast_one, Int.natCast_zero, Int.reduceEq, Int.reduceLE, Int.reduceLT, decide_true, decide_false, List.getElem?_cons_succ, List.getElem?_cons_zero, List.length_cons, List.length_nil, List.map_cons, List.map_nil, List.cons_append, List.nil_append, List.append_nil, Nat.reduceAdd, Nat.reduceSub, List.replicate, Option.some.injEq, exists_eq_left', exists_eq_left, exists_eq', exists_and_left, exists_and_right, true_and, and_true, List.set_cons_zero, List.set_cons_succ, decide_eq_true_eq, Option.bind_some, Option.map_some, reduceIte, if_true, if_false, Bool.false_eq_true, Bool.not_true, Bool.not_false, Sl.io.injEq, Sl.sh.injEq, FOe_bits, entF_bits, FOe_count, entF_count, FOe_first, entF_first, FOe_last, entF_last, FOe_total, entF_total, FOe_least, entF_least, FOe_greatest, entF_greatest, FOe_parts, entF_parts, FOb_entry, FOb_many, FOb_first, FOb_length, FOb_spans, FOb_steps, FOb_bottom, FOb_top, FOb_inner])

/-- an entry of two or more points that some row could have -/
structure EntOk (e : Ent) : Prop where
  bits : 0 ≤ e.bits
  c2 : 2 ≤ e.count
  cm : e.count ≤ 2 ^ 36
  f0 : 0 ≤ e.first
  fl : e.last - e.first ≥ e.count - 1
  lm : e.last < 2 ^ 40
  lo : -(2 ^ 40) ≤ e.least
  lg : e.least ≤ e.greatest
  gm : e.greatest ≤ 2 ^ 40
  t1 : (e.count - 1) * e.least + e.greatest ≤ e.total
  t2 : e.total ≤ e.least + (e.count - 1) * e.greatest
section
variable {w : World} {K : PySem.W.Frag} {mg : Str → Option Value} {base : Heap}
def sp_is_possible (C : Addr) : SD := fun ds P => ∃ e : Ent, ds = [.ins C (entF e)] ∧ EntOk e ∧ P (.bl true)
theorem ok_is_possible (T : Txt K mg) : FnOk Prog w K mg base CX0 1 T.is_possible.f T.is_possible.fd ["entry"] (SpD K (sp_is_possible T.a_Entry)) := by
  refine okD T.is_possible.fu sc_is_possible (fun ds P ⟨e, q, _⟩ => by rw [q]; rfl) (fun cdv A outer s H E Fm hr =>
    (dss_cons (ds_asg (de_tup (da_cons (de_fldK K (de_var 0)) (da_cons (de_fldK K (de_var 0)) (da_cons (de_fldK K (de_var 0)) (da_cons (de_fldK K (de_var 0)) da_nil))))) (dg_tup (n := 4) rfl (dgs_cons (dg_name (i := 1) sc_is_possible.nd rfl (by first | exact Or.inl rfl | exact Or.inr rfl)) (dgs_cons (dg_name (i := 2) sc_is_possible.nd rfl (by first | exact Or.inl rfl | exact Or.inr rfl)) (dgs_cons (dg_name (i := 3) sc_is_possible.nd rfl (by first | exact Or.inl rfl | exact Or.inr rfl)) (dgs_cons (dg_name (i := 4) sc_is_possible.nd rfl (by first | exact Or.inl rfl | exact Or.inr rfl)) dgs_nil))))))
      (dss_cons (ds_if (dt_w (dw_or (dt_cmp op_lt lr_lt (de_fldK K (de_var 0)) de_int) (dw_or (dt_not (dt_chain op_le lr_le op_le lr_le de_int (de_var 1) (de_gi (by rfl) T.c_POINTS))) (dw_or1 (dt_not (dt_chain3 op_le lr_le op_le lr_le op_lt lr_lt de_int (de_fldK K (de_var 0)) (de_fldK K (de_var 0)) (de_gi (by rfl) T.c_MOMENTS))))))) (dss_one (ds_ret de_bl)) dss_nil)
      (dss_cons (ds_if (dt_not (dt_chain3 op_le lr_le op_le lr_le op_le lr_le (de_neg (de_gi (by rfl) T.c_VALUES)) (de_var 2) (de_var 3) (de_gi (by rfl) T.c_VALUES))) (dss_one (ds_ret de_bl)) dss_nil)
      (dss_cons (ds_if (dt_cmp (op_eq2 hr.units) lr_eq (de_var 1) de_int) (dss_one (ds_ret (de_and (de_cmp (op_eq2 hr.units) lr_eq (de_fldK K (de_var 0)) (de_fldK K (de_var 0))) (de_one (de_chain (op_eq2 hr.units) lr_eq (op_eq2 hr.units) lr_eq (de_var 2) (de_var 3) (de_var 4)))))) dss_nil)
      (dss_cons (ds_if (dt_cmp op_lt lr_lt (de_sub (de_fldK K (de_var 0)) (de_fldK K (de_var 0))) (de_sub (de_var 1) de_int)) (dss_one (ds_ret de_bl)) dss_nil)
      (dss_one (ds_ret (de_chain op_le lr_le op_le lr_le (de_plus (de_times (de_sub (de_var 1) de_int) (de_var 2)) (de_var 3)) (de_var 4) (de_plus (de_var 2) (de_times (de_sub (de_var 1) de_int) (de_var 3)))))))))))) (fun ds Q ⟨e, q, ok, h2⟩ => ?_)
  subst q
  walk_at "dl"
  refine ⟨by decide, ?_⟩
  have o1 := ok.bits
  have o2 := ok.c2
  have o3 := ok.cm
  have o4 := ok.f0
  have o5 := ok.fl
  have o6 := ok.lm
  have o7 := ok.lo
  have o8 := ok.lg
  have o9 := ok.gm
  have c1 : ¬ e.bits < 0 := by omega
  have c2 : 1 ≤ e.count := by omega
  have c3 : e.count ≤ 68719476736 := by omega
  have c4 : 0 ≤ e.first := by omega
  have c5 : e.first ≤ e.last := by omega
  have c6 : e.last < 1099511627776 := by omega
  have c7 : -1099511627776 ≤ e.least := by omega
  have c8 : e.least ≤ e.greatest := by omega
  have c9 : e.greatest ≤ 1099511627776 := by omega
  have c10 : ¬ e.count = 1 := by omega
  have c11 : ¬ e.last - e.first < e.count - 1 := by omega
  have c12 := ok.t1
  have c13 := ok.t2
  simp only [c1, c2, c3, c4, c5, c6, c7, c8, c9, c10, c11, c12, c13, if_true, if_false, decide_true, Bool.not_true, Bool.false_eq_true]
  exact ⟨.inl (by omega), .inl (by omega), h2⟩
def sp_need_entry (C : Addr) : SD := fun ds P => ∃ (e : Ent) (x : D), ds = [.ins C (entF e), x] ∧ EntOk e ∧ P .non
theorem ok_need_entry (T : Txt K mg) : FnOk Prog w K mg base CX0 3 T.need_entry.f T.need_entry.fd ["value", "part"] (SpD K (sp_need_entry T.a_Entry)) := by
  have G_is_possible : FnOk Prog w K mg base CX0 1 T.is_possible.f T.is_possible.fd _ _ := ok_is_possible T
  have G_are_integers : FnOk Prog w K mg base CX0 2 T.are_integers.f T.are_integers.fd _ _ := ok_are_integers T
  refine okDA T.need_entry.fu sc_need_entry (fun ds P ⟨e, x, q, _⟩ => by rw [q]; rfl) (fun cdv A outer s H E Fm hr =>
    (dss_one (ds_if (dt_w (dw_or (dt_not (dt_val (de_isiK K (by rfl) T.b_isinstance (de_var 0) (de_gcl (by rfl) T.C_Entryg)))) (dw_or (dt_not (dt_val (de_call (G_are_integers) (hr.mono (by decide)) (by rfl) T.are_integers.mgf T.are_integers.fu.kp T.are_integers.bi .nil (fun _ => .nil) (da_cons (de_fldK K (de_var 0)) (da_cons (de_gi (by rfl) T.c_FIELDS) da_nil))))) (dw_or1 (dt_not (dt_val (de_call (G_is_possible) (hr.mono (by decide)) (by rfl) T.is_possible.mgf T.is_possible.fu.kp T.is_possible.bi .nil (fun _ => .nil) (da_cons (de_var 0) da_nil)))))))) (dss_one ds_never) dss_nil))) (fun ds Q ⟨e, x, q, ok, h2⟩ => ?_)
  subst q
  walk_at "dl"
  refine ⟨T.i_Entry, true, T.k_Entry_Entry, ?_⟩
  walk_at "dl"
  refine ⟨e.l, rfl, by show 7 ≤ 1000; decide, ?_⟩
  walk_at "dl"
  refine ⟨e, rfl, ok, ?_⟩
  walk_at "dl"
  exact h2
def sp_need_ahead : SD := fun ds P => ∃ ah : Option Int, ds = [ahD ah] ∧ (∀ a, ah = some a → 0 ≤ a ∧ a ≤ 2 ^ 40 - 1) ∧ P .non
theorem ok_need_ahead (T : Txt K mg) : FnOk Prog w K mg base CX0 3 T.need_ahead.f T.need_ahead.fd ["value"] (SpD K sp_need_ahead) := by
  have G_is_within : FnOk Prog w K mg base CX0 2 T.is_within.f T.is_within.fd _ _ := ok_is_within T
  refine okD T.need_ahead.fu sc_need_ahead (fun ds P ⟨ah, q, _⟩ => by rw [q]; rfl) (fun cdv A outer s H E Fm hr =>
    (dss_one (ds_if (dt_w (dw_and (dt_cmp op_notN lr_notN (de_var 0) de_non) (dw_and1 (dt_not (dt_val (de_call (G_is_within) (hr.mono (by decide)) (by rfl) T.is_within.mgf T.is_within.fu.kp T.is_within.bi .nil (fun _ => .nil) (da_cons (de_var 0) (da_cons de_int (da_cons (de_gi (by rfl) T.c_MOST_MOMENT) da_nil))))))))) (dss_one ds_never) dss_nil))) (fun ds Q ⟨ah, q, ok, h2⟩ => ?_)
  subst q
  cases ah with
  | none =>
    simp only [ahD]
    walk_at "dl"
    exact h2
  | some a =>
    simp only [ahD]
    walk_at "dl"
    refine ⟨a, _, _, rfl, ?_⟩
    rw [decide_eq_true (by have := ok a rfl; omega)]
    walk_at "dl"
    exact h2
/-- a block -/
def innerM (l : List (Option (Int × Int))) : List Nat := l.zipIdx.filterMap fun p => if p.1.isSome then some p.2 else none
structure Blk where
  e : Ent
  vs : List Int
  gs : List Int
  ah : Option Int
def Blk.spans (b : Blk) : List (Option (Int × Int)) := spansM b.vs b.e.least b.e.greatest
def Blk.steps (b : Blk) : List (Option (Int × Int)) := spansM b.gs 1 (b.e.last - b.e.first)
def Blk.bottom (b : Blk) : Nat := clsOf b.vs b.e.least
def Blk.top (b : Blk) : Nat := clsOf b.vs b.e.greatest
def Blk.inner (b : Blk) : List Nat := innerM b.steps
def Blk.F (CE : Addr) (b : Blk) : List (Str × D) := [("entry", .ins CE (entF b.e)), ("many", .int b.e.count), ("first", .int (firstM b.gs b.e b.ah)), ("length", .int (b.e.last - b.e.first)), ("spans", spansD b.spans), ("steps", spansD b.steps), ("bottom", .int (b.bottom : Nat)), ("top", .int (b.top : Nat)), ("inner", .lst (b.inner.map fun (i : Nat) => .int (i : Nat)))]
theorem enumD_map {α : Type} (f : α → D) (l : List α) : enumD (l.map f) = l.zipIdx.map fun p => .tup [.int (p.2 : Nat), f p.1] := by
  unfold enumD
  rw [List.zipIdx_map, List.map_map]
  rfl
def sp_Block (CE : Addr) : SI := fun c ds P => ∃ b : Blk, c = [] ∧ ds = [.ins CE (entF b.e), ahD b.ah, vcuts b.vs b.gs] ∧ b.vs.length ≤ 900 ∧ b.gs.length ≤ 900 ∧ P (b.F CE)
theorem ok_Block (T : Txt K mg) : FnOk Prog w K mg base CX0 3 T.Block___init__.f T.Block___init__.fd ["self", "entry", "ahead", "cuts"] (SpI K T.a_Block (sp_Block T.a_Entry)) := by
  have G_first_gap : FnOk Prog w K mg base CX0 2 T.first_gap.f T.first_gap.fd _ _ := ok_first_gap T
  have G_spans_in : FnOk Prog w K mg base CX0 1 T.spans_in.f T.spans_in.fd _ _ := ok_spans_in T
  have G_class_in : FnOk Prog w K mg base CX0 1 T.class_in.f T.class_in.fd _ _ := ok_class_in T
  refine okI T.Block___init__.fu sc_Block___init__ (fun c ds P ⟨b, q1, q2, _⟩ => by rw [q2]; rfl) (fun cdv A outer s H E Fm hr =>
    (dss_cons (ds_fsetK K 0 (de_var 1))
      (dss_cons (ds_fsetK K 0 (de_fldK K (de_var 1)))
      (dss_cons (ds_fsetK K 0 (de_call (G_first_gap) (hr.mono (by decide)) (by rfl) T.first_gap.mgf T.first_gap.fu.kp T.first_gap.bi .nil (fun _ => .nil) (da_cons (de_var 3) (da_cons (de_var 1) (da_cons (de_var 2) da_nil)))))
      (dss_cons (ds_fsetK K 0 (de_sub (de_fldK K (de_var 1)) (de_fldK K (de_var 1))))
      (dss_cons (ds_fsetK K 0 (de_call (G_spans_in) (hr.mono (by decide)) (by rfl) T.spans_in.mgf T.spans_in.fu.kp T.spans_in.bi .nil (fun _ => .nil) (da_cons (de_ix (de_var 3) de_int) (da_cons (de_fldK K (de_var 1)) (da_cons (de_fldK K (de_var 1)) da_nil)))))
      (dss_cons (ds_fsetK K 0 (de_call (G_spans_in) (hr.mono (by decide)) (by rfl) T.spans_in.mgf T.spans_in.fu.kp T.spans_in.bi .nil (fun _ => .nil) (da_cons (de_ix (de_var 3) de_int) (da_cons de_int (da_cons (de_fldIK K 0) da_nil)))))
      (dss_cons (ds_fsetK K 0 (de_call (G_class_in) (hr.mono (by decide)) (by rfl) T.class_in.mgf T.class_in.fu.kp T.class_in.bi .nil (fun _ => .nil) (da_cons (de_ix (de_var 3) de_int) (da_cons (de_fldK K (de_var 1)) da_nil))))
      (dss_cons (ds_fsetK K 0 (de_call (G_class_in) (hr.mono (by decide)) (by rfl) T.class_in.mgf T.class_in.fu.kp T.class_in.bi .nil (fun _ => .nil) (da_cons (de_ix (de_var 3) de_int) (da_cons (de_fldK K (de_var 1)) da_nil))))
      (dss_one (ds_fsetK K 0 (de_new (dn_lc (own := [("at", 4), ("span", 5)]) rfl sc_Block___init__.nd (di_enumq (by rfl) T.b_enumerate (de_fldIK K 0)) (blkOk_by (by kernel_rfl)) (fun _ _ _ _ _ _ => (dg_tup (n := 2) rfl (dgs_cons (dg_name (i := 4) sc_Block___init__.nd rfl (by first | exact Or.inl rfl | exact Or.inr rfl)) (dgs_cons (dg_name (i := 5) sc_Block___init__.nd rfl (by first | exact Or.inl rfl | exact Or.inr rfl)) dgs_nil)))) (fun _ _ _ _ _ _ => (dts_one (dt_cmp op_notN lr_notN (de_var 5) de_non))) (fun _ _ _ _ _ _ => (de_var 4))))))))))))))) (fun c ds Q ⟨b, q1, q2, h1, h2, h3⟩ => ?_)
  subst q1 q2
  have B := T.f_Block
  walk_at "dl"
  refine ⟨_, _, rfl, B "entry" (by decide), (by decide), _, _, rfl, B "many" (by decide), (by show 1 < 1000; decide), ?_⟩
  refine ⟨b.vs, b.gs, b.e, b.ah, rfl, by omega, ?_⟩
  refine ⟨_, _, rfl, B "first" (by decide), (by show 2 < 1000; decide), _, _, rfl, B "length" (by decide), (by show 3 < 1000; decide), ?_⟩
  refine ⟨b.vs, _, _, rfl, by omega, ?_⟩
  refine ⟨_, _, rfl, B "spans" (by decide), (by show 4 < 1000; decide), _, _, rfl, B "length" (by decide), _, rfl, ?_⟩
  refine ⟨b.gs, _, _, rfl, by omega, ?_⟩
  refine ⟨_, _, rfl, B "steps" (by decide), (by show 5 < 1000; decide), ?_⟩
  walk_at "dl"
  refine ⟨b.vs, _, rfl, by omega, ?_⟩
  refine ⟨_, _, rfl, B "bottom" (by decide), (by show 6 < 1000; decide), ?_⟩
  refine ⟨b.vs, _, rfl, by omega, ?_⟩
  refine ⟨_, _, rfl, B "top" (by decide), (by show 7 < 1000; decide), ?_⟩
  have ls : b.steps.length ≤ 901 := by unfold Blk.steps spansM; rw [List.length_map, List.length_range]; omega
  refine dLc_fmA (sl1 := ?_) b.steps.zipIdx (fun p => .tup [.int (p.2 : Nat), spD p.1]) (fun p => if p.1.isSome then some (.int (p.2 : Nat)) else none) (fun Q h => ?_) ?_ ?_ (by rw [List.length_zipIdx, sizeLine_eq]; omega) (fun z hz Q1 h => ?_) ?_
  rotate_left
  · unfold iEnq dFldI
    refine ⟨_, _, rfl, B "steps" (by decide), _, rfl, b.steps.map spD, rfl, ?_⟩
    rw [enumD_map]
    exact h
  · exact no_of rfl
  · exact len_of rfl
  · obtain ⟨s, i⟩ := z
    cases s with
    | none =>
      simp only [spD]
      walk_at "dl"
      exact h
    | some s =>
      simp only [spD]
      walk_at "dl"
      exact h
  · have ei : (b.steps.zipIdx.filterMap fun p => if p.1.isSome then some (D.int (p.2 : Nat)) else none) = b.inner.map fun (i : Nat) => D.int (i : Nat) := by
      unfold Blk.inner innerM
      rw [List.map_filterMap]
      congr 1
      funext p
      obtain ⟨s, i⟩ := p
      cases s <;> rfl
    rw [ei]
    exact ⟨_, _, rfl, B "inner" (by decide), (by show 8 < 1000; decide), _, rfl, h3⟩
end
end K21
end
section
set_option maxRecDepth 100000
set_option maxHeartbeats 4000000
namespace K21
open PySem PySem.Spec PyProof.Rows L2 RZ StX NdefX DL
section
variable (CE : Addr) (b : Blk)
theorem blkF_entry : (b.F CE).lookup ("entry" : Str) = some (.ins CE (entF b.e)) := rfl
theorem blkF_many : (b.F CE).lookup ("many" : Str) = some (D.int b.e.count) := rfl
theorem blkF_first : (b.F CE).lookup ("first" : Str) = some (D.int (firstM b.gs b.e b.ah)) := rfl
theorem blkF_length : (b.F CE).lookup ("length" : Str) = some (D.int (b.e.last - b.e.first)) := rfl
theorem blkF_spans : (b.F CE).lookup ("spans" : Str) = some (spansD b.spans) := rfl
theorem blkF_steps : (b.F CE).lookup ("steps" : Str) = some (spansD b.steps) := rfl
theorem blkF_bottom : (b.F CE).lookup ("bottom" : Str) = some (D.int (b.bottom : Nat)) := rfl
theorem blkF_top : (b.F CE).lookup ("top" : Str) = some (D.int (b.top : Nat)) := rfl
theorem blkF_inner : (b.F CE).lookup ("inner" : Str) = some (D.lst (b.inner.map fun (i : Nat) => D.int (i : Nat))) := rfl
theorem blkF_no_none : (b.F CE).lookup ("none" : Str) = none := rfl
theorem blkF_no_letters : (b.F CE).lookup ("letters" : Str) = none := rfl
theorem blkF_no_behind : (b.F CE).lookup ("behind" : Str) = none := rfl
theorem blkF_no_wanted : (b.F CE).lookup ("wanted" : Str) = none := rfl
theorem blkF_no_values_go_on : (b.F CE).lookup ("values_go_on" : Str) = none := rfl
theorem blkF_no_gaps_go_on : (b.F CE).lookup ("gaps_go_on" : Str) = none := rfl
theorem blkF_no_goes_on : (b.F CE).lookup ("goes_on" : Str) = none := rfl
end
local macro_rules | `(tactic| walk_at "dl") => `(tactic| simp only [dSeq, dIfS, dTest, dOp, rdLt, rdLe, rdGt, rdGe, rdEq, rdNe, rdI0, rdI, rdPlus, rdTimes, rdIsN, rdNotN, rdIsB, rdIsi, dIsiT, dVar, dC, dRet, dRetN, dNext, dNever, dDrop, dAsg, dSetN, gNm, gTp, gCn, gNl, dCB, dCall, dCallM, dCons, dNil, dStar, dTup, rdInt, rdAbs, rdLen, rdBool, rdReprF, rdTuple, rdAll, rdAny, rdSum, rdSumA, rdMax2, rdMin2, dLenB, dIxB, gSb, dAnd, dOr, dNot, dAndV, dOrV, dNotV, dIf, dChain, dChain3, dUn, rdIx, dShare, dLst, dPar, dPar3, dFld, dFldI, dFset, gFs, dMeth, dMake, dSl, dNoP, dPart, dAug, dYes, dApp, dPop, dPopAt, wipeS, backS, iSq, iLs, iTp, iEnq, iZq, iRg1, iRg2, tI, prD, spansD, vcuts, startS, startM, startI, lstAt, setLst, D.cv, D.cvs, D.isNon, D.seq, atI_0, atI_1, atI_2, atI_3, atI_4, atI_5, atI_6, Int.cast_ofNat_Int, Int.natCast_one, Int.natCast_zero, Int.reduceEq, Int.reduceLE, Int.reduceLT, decide_true, decide_false, List.getElem?_cons_succ, List.getElem?_cons_zero, List.length_cons, List.length_nil, List.map_cons, List.map_nil, List.cons_append, List.nil_append, List.append_nil, Nat.reduceAdd, Nat.reduceSub, List.replicate, Option.some.injEq, exists_eq_left', exists_eq_left, exists_eq', exists_and_left, exists_and_right, true_and, and_true, List.set_cons_zero, List.set_cons_succ, decide_eq_true_eq, Option.bind_some, Option.map_some, reduceIte, if_true, if_false, Bool.false_eq_true, Bool.not_true, Bool.not_false, Sl.io.injEq, Sl.sh.injEq, FOe_bits, entF_bits, FOe_count, entF_count, FOe_first, entF_first, FOe_last, entF_last, FOe_total, entF_total, FOe_least, entF_least, FOe_greatest, entF_greatest, FOe_parts, entF_parts, FOb_entry, FOb_many, FOb_first, FOb_length, FOb_spans, FOb_steps, FOb_bottom, FOb_top, FOb_inner, blkF_entry, blkF_many, blkF_first, blkF_length, blkF_spans, blkF_steps, blkF_bottom, blkF_top, blkF_inner, blkF_no_none, blkF_no_letters, blkF_no_behind, blkF_no_wanted, blkF_no_values_go_on, blkF_no_gaps_go_on, blkF_no_goes_on])


/-- comprehensions of two fors without effects -/
theorem dLc2_of {α β : Type} {di : DI} {g : DG} {tt : DT} {di1 : DI} {g1 : DG} {de : DE} {vs vs1 : List Nat} {sl sl1 : List Sl} {P : List D → List Sl → Prop} (zs : List α) (h : α → D) (keep : α → Bool) (ws : α → List β) (h1 : α → β → D) (f : α → β → D) (sz : α → List Sl)
    (hd : ∀ Q : List D → List Sl → Prop, Q (zs.map h) sl1 → di sl Q) (no : NoOwn sl1 vs) (hl : ∀ i ∈ vs, i < sl1.length)
    (step : ∀ z ∈ zs, ∀ (R : List D → List Sl → Prop) (R0 : List Sl → Prop), (keep z = true → R ((ws z).map (h1 z)) (sz z)) → (keep z = false → R0 sl1) → g (h z) (wipeS sl1 vs) fun sl3 => tt sl3 fun b sl4 => if b = true then di1 sl4 R else R0 (backS sl1 sl4 vs))
    (no1 : ∀ z ∈ zs, NoOwn (sz z) vs1 ∧ ∀ i ∈ vs1, i < (sz z).length)
    (step1 : ∀ z ∈ zs, keep z = true → ∀ y ∈ ws z, ∀ Q1 : D → List Sl → Prop, Q1 (f z y) (sz z) → g1 (h1 z y) (wipeS (sz z) vs1) fun sl7 => de sl7 fun d sl9 => Q1 d (backS (sz z) sl9 vs1))
    (back : ∀ z ∈ zs, backS sl1 (sz z) vs = sl1) (hz : (zs.flatMap fun z => if keep z = true then (ws z).map (f z) else []).length < sizeLine)
    (fin : P (zs.flatMap fun z => if keep z = true then (ws z).map (f z) else []) sl1) : dLc2 di g tt di1 g1 dYes de vs vs1 sl P := by
  let F : α → List D := fun z => if keep z = true then (ws z).map (f z) else []
  have pre : ∀ (i : Nat) (z : α), zs[i]? = some z → (zs.take (i + 1)).flatMap F = (zs.take i).flatMap F ++ F z := fun i z hi => by
    rw [List.take_add_one, hi, List.flatMap_append]
    simp
  have small : ∀ (i : Nat) (z : α), zs[i]? = some z → ((zs.take i).flatMap F ++ F z).length < sizeLine := fun i z hi => by
    rw [← pre i z hi]
    have e : (zs.flatMap F) = (zs.take (i + 1)).flatMap F ++ (zs.drop (i + 1)).flatMap F := by rw [← List.flatMap_append, List.take_append_drop]
    have hz' : (zs.flatMap F).length < sizeLine := hz
    rw [e, List.length_append] at hz'
    omega
  refine hd _ ⟨⟨no, hl⟩, fun i sl acc => sl = sl1 ∧ acc = (zs.take i).flatMap F, ⟨rfl, rfl⟩, ?_, ?_⟩
  · rintro i x sl2 acc hi ⟨rfl, rfl⟩
    rw [List.getElem?_map] at hi
    obtain ⟨z, hzi, rfl⟩ := Option.map_eq_some_iff.mp hi
    have zm := List.mem_of_getElem? hzi
    refine ⟨⟨no, hl⟩, step z zm _ (fun sl' => sl' = sl2 ∧ (zs.take i).flatMap F = (zs.take (i + 1)).flatMap F) (fun hk => ?_) (fun hk => ?_)⟩
    · have Fz : F z = (ws z).map (f z) := if_pos hk
      refine ⟨fun j sl acc => sl = sz z ∧ acc = (zs.take i).flatMap F ++ ((ws z).take j).map (f z), ⟨rfl, by simp⟩, ?_, ?_⟩
      · rintro j y sl6 acc1 hj ⟨rfl, rfl⟩
        rw [List.getElem?_map] at hj
        obtain ⟨y, hyj, rfl⟩ := Option.map_eq_some_iff.mp hj
        refine ⟨no1 z zm, ?_⟩
        have ht : ((ws z).take (j + 1)).map (f z) = ((ws z).take j).map (f z) ++ [f z y] := by
          rw [List.take_add_one, hyj, List.map_append]
          rfl
        have sm := small i z hzi
        rw [Fz, List.length_append, List.length_map] at sm
        have jl : j < (ws z).length := (List.getElem?_eq_some_iff.mp hyj).1
        have s := step1 z zm hk y (List.mem_of_getElem? hyj) (fun d sl' => ((zs.take i).flatMap F ++ ((ws z).take j).map (f z)).length < sizeLine ∧ sl' = sz z ∧ (zs.take i).flatMap F ++ ((ws z).take j).map (f z) ++ [d] = (zs.take i).flatMap F ++ ((ws z).take (j + 1)).map (f z))
          ⟨by rw [List.length_append, List.length_map, List.length_take]; omega, rfl, by rw [ht, List.append_assoc]⟩
        have e : ∀ (Q2 : Bool → List Sl → Prop), (fun sl3 => dYes sl3 Q2) = fun sl3 => Q2 true sl3 := fun _ => rfl
        rw [e]
        have e2 : ∀ (A B : List Sl → Prop), (fun sl3 => if true = true then A sl3 else B sl3) = A := fun A B => funext fun _ => if_pos rfl
        rw [e2]
        exact s
      · rintro sl6 acc1 ⟨rfl, rfl⟩
        refine ⟨back z zm, ?_⟩
        rw [List.length_map, List.take_length, pre i z hzi, Fz]
    · refine ⟨rfl, ?_⟩
      have Fz : F z = [] := if_neg (by rw [hk]; exact Bool.false_ne_true)
      rw [pre i z hzi, Fz, List.append_nil]
  · rintro sl2 acc ⟨rfl, rfl⟩
    rw [List.length_map, List.take_length]
    exact fin
theorem sum_const {α : Type} (l : List α) (c : Nat) : (l.map fun _ => c).sum = l.length * c := by
  induction l with
  | nil => simp
  | cons x l ih => rw [List.map_cons, List.sum_cons, ih, List.length_cons, Nat.succ_mul]; omega
theorem rep_flat (k : Nat) : (List.replicate k [D.int 0]).flatten = (List.replicate k (0 : Int)).map D.int := by
  induction k with
  | zero => rfl
  | succ k ih => rw [List.replicate_succ, List.flatten_cons, ih, List.replicate_succ]; rfl
def cntD (a c : List Int) : D := .tup [tI a, tI c]
def incL (a : List Int) (i : Nat) : List Int := a.set i (a.getD i 0 + 1)
def gapsM (b : Blk) (gone : Nat) : List Int := if gone = 0 then [firstM b.gs b.e b.ah] else b.inner.map fun (i : Nat) => (i : Int)
def lettersM (b : Blk) (gone : Nat) : List (Int × Int) := (innerM b.spans).flatMap fun (k : Nat) => (gapsM b gone).map fun g => ((k : Int), g)
/-- sizes of a block's cuts -/
structure BlkOk (b : Blk) : Prop where
  v : b.vs.length ≤ 100
  g : b.gs.length ≤ 100
theorem spans_len (b : Blk) : b.spans.length = b.vs.length + 1 := by unfold Blk.spans spansM; rw [List.length_map, List.length_range]
theorem steps_len (b : Blk) : b.steps.length = b.gs.length + 1 := by unfold Blk.steps spansM; rw [List.length_map, List.length_range]
section
variable {w : World} {K : PySem.W.Frag} {mg : Str → Option Value} {base : Heap}
def sp_none (CB CE : Addr) : SD := fun ds P => ∃ b : Blk, ds = [.ins CB (b.F CE)] ∧ BlkOk b ∧ P (cntD (List.replicate b.spans.length 0) (List.replicate b.steps.length 0))
theorem ok_none (T : Txt K mg) : FnOk Prog w K mg base CX0 1 T.Block_none.f T.Block_none.fd ["self"] (SpD K (sp_none T.a_Block T.a_Entry)) := by
  refine okD T.Block_none.fu sc_Block_none (fun ds P ⟨b, q, _⟩ => by rw [q]; rfl) (fun cdv A outer s H E Fm hr =>
    (dss_one (ds_ret (de_tup (da_cons (de_times (de_tup (da_cons de_int da_nil)) (de_len (by rfl) T.b_len (de_fldK K (de_var 0)))) (da_cons (de_times (de_tup (da_cons de_int da_nil)) (de_len (by rfl) T.b_len (de_fldK K (de_var 0)))) da_nil)))))) (fun ds Q ⟨b, q, ok, h2⟩ => ?_)
  subst q
  have l1 := spans_len b
  have l2 := steps_len b
  have o1 := ok.v
  have o2 := ok.g
  walk_at "dl"
  rw [List.length_map, List.length_map, Int.toNat_natCast, Int.toNat_natCast, rep_flat, rep_flat]
  exact ⟨by decide, by simp, by omega, by omega, by decide, by decide, by simp, by omega, by omega, by decide, by decide, h2⟩
def sp_behind (CB CE : Addr) : SD := fun ds P => ∃ (b : Blk) (gone : Nat) (a c : List Int) (i : Nat) (j : Int), ds = [.ins CB (b.F CE), .int (gone : Nat), cntD a c, prD ((i : Nat), j)] ∧ a.length ≤ 1000 ∧ c.length ≤ 1000 ∧ i < a.length ∧ (gone ≠ 0 → 0 ≤ j ∧ j.toNat < c.length) ∧ P (cntD (incL a i) (if gone = 0 then c else incL c j.toNat))
theorem ok_behind (T : Txt K mg) : FnOk Prog w K mg base CX0 2 T.Block_behind.f T.Block_behind.fd ["self", "gone", "counts", "sign"] (SpD K (sp_behind T.a_Block T.a_Entry)) := by
  have G_more_in : FnOk Prog w K mg base CX0 1 T.more_in.f T.more_in.fd _ _ := ok_more_in T
  refine okD T.Block_behind.fu sc_Block_behind (fun ds P ⟨b, gone, a, c, i, j, q, _⟩ => by rw [q]; rfl) (fun cdv A outer s H E Fm hr =>
    (dss_cons (ds_asg (de_var 2) (dg_tup (n := 2) rfl (dgs_cons (dg_name (i := 4) sc_Block_behind.nd rfl (by first | exact Or.inl rfl | exact Or.inr rfl)) (dgs_cons (dg_name (i := 5) sc_Block_behind.nd rfl (by first | exact Or.inl rfl | exact Or.inr rfl)) dgs_nil))))
      (dss_one (ds_ret (de_tup (da_cons (de_call (G_more_in) (hr.mono (by decide)) (by rfl) T.more_in.mgf T.more_in.fu.kp T.more_in.bi .nil (fun _ => .nil) (da_cons (de_var 4) (da_cons (de_ix (de_var 3) de_int) da_nil))) (da_cons (de_if (dt_cmp (op_eq2 hr.units) lr_eq (de_var 1) de_int) (de_var 5) (de_call (G_more_in) (hr.mono (by decide)) (by rfl) T.more_in.mgf T.more_in.fu.kp T.more_in.bi .nil (fun _ => .nil) (da_cons (de_var 5) (da_cons (de_ix (de_var 3) de_int) da_nil)))) da_nil))))))) (fun ds Q ⟨b, gone, a, c, i, j, q, ha, hc, hi, hj, h2⟩ => ?_)
  subst q
  simp only [cntD]
  walk_at "dl"
  refine ⟨a, i, rfl, hi, ha, ?_⟩
  by_cases h0 : gone = 0
  · rw [if_pos h0] at h2
    rw [if_pos (by omega)]
    exact ⟨by decide, h2⟩
  · rw [if_neg h0] at h2
    rw [if_neg (by omega)]
    obtain ⟨j1, j2⟩ := hj h0
    exact ⟨c, j.toNat, by rw [Int.toNat_of_nonneg j1]; rfl, j2, hc, by decide, h2⟩
def sp_letters (CB CE : Addr) : SD := fun ds P => ∃ (b : Blk) (gone : Nat), ds = [.ins CB (b.F CE), .int (gone : Nat)] ∧ BlkOk b ∧ P (.lst ((lettersM b gone).map prD))
theorem ok_letters (T : Txt K mg) : FnOk Prog w K mg base CX0 1 T.Block_letters.f T.Block_letters.fd ["self", "gone"] (SpD K (sp_letters T.a_Block T.a_Entry)) := by
  refine okD T.Block_letters.fu sc_Block_letters (fun ds P ⟨b, gone, q, _⟩ => by rw [q]; rfl) (fun cdv A outer s H E Fm hr =>
    (dss_cons (ds_set (i := 2) sc_Block_letters.nd rfl (by first | exact Or.inl rfl | exact Or.inr rfl) (de_if (dt_cmp (op_eq2 hr.units) lr_eq (de_var 1) de_int) (de_new (dn_lst (da_cons (de_fldK K (de_var 0)) da_nil))) (de_fldK K (de_var 0))))
      (dss_one (ds_ret (de_new (dn_lc2 (own := [("at", 3), ("span", 4), ("gap", 5)]) (vs1 := [5]) rfl sc_Block_letters.nd (di_enumq (by rfl) T.b_enumerate (de_fldK K (de_var 0))) (blkOk_by (by kernel_rfl)) (by decide) (fun _ _ _ _ _ _ => (dg_tup (n := 2) rfl (dgs_cons (dg_name (i := 3) sc_Block_letters.nd rfl (by first | exact Or.inl rfl | exact Or.inr rfl)) (dgs_cons (dg_name (i := 4) sc_Block_letters.nd rfl (by first | exact Or.inl rfl | exact Or.inr rfl)) dgs_nil)))) (fun _ _ _ _ _ _ => (dts_one (dt_cmp op_notN lr_notN (de_var 4) de_non))) (fun _ _ _ _ _ _ => (di_seq (de_var 2))) (fun _ _ _ _ _ _ => (dg_name (i := 5) sc_Block_letters.nd rfl (by first | exact Or.inl rfl | exact Or.inr rfl))) (fun _ _ _ _ _ _ => dts_nil) (fun _ _ _ _ _ _ => (de_tup (da_cons (de_var 3) (da_cons (de_var 5) da_nil)))))))))) (fun ds Q ⟨b, gone, q, ok, h2⟩ => ?_)
  subst q
  have l1 := spans_len b
  have l2 := steps_len b
  have o1 := ok.v
  have o2 := ok.g
  have inl : ∀ l : List (Option (Int × Int)), (innerM l).length ≤ l.length := fun l => by
    unfold innerM
    exact Nat.le_trans (List.length_filterMap_le _ _) (by rw [List.length_zipIdx]; exact Nat.le_refl _)
  have gl : (gapsM b gone).length ≤ 200 := by
    unfold gapsM
    split
    · simp
    · rw [List.length_map]
      have := inl b.steps
      unfold Blk.inner
      omega
  -- the comprehension, whatever the gaps' list
  have main : ∀ gs : List Int, gs.length ≤ 200 → gapsM b gone = gs → dLc2 (iEnq (dFld K (dVar 0) (Str.ofString "spans"))) (gTp 2 (gCn (gNm 3) (gCn (gNm 4) gNl)))
        (dTest (dOp rdNotN (dVar 4) (dC D.non))) (iSq (dVar 2)) (gNm 5) dYes (dTup (dCons (dVar 3) (dCons (dVar 5) dNil))) [3, 4, 5] [5]
        [Sl.sh (D.ins T.a_Block (Blk.F T.a_Entry b)), Sl.sh (D.int (gone : Nat)), Sl.sh (D.lst (gs.map D.int)), Sl.un, Sl.un, Sl.un] fun xs sl1 => Q (D.lst xs) := fun gs hg eg => by
    have eq : (b.spans.zipIdx.flatMap fun z => if z.1.isSome = true then gs.map fun g => D.tup [.int (z.2 : Nat), .int g] else []) = (lettersM b gone).map prD := by
      unfold lettersM innerM
      rw [eg]
      generalize b.spans.zipIdx = zz
      induction zz with
      | nil => rfl
      | cons z zz ih =>
        obtain ⟨s, k⟩ := z
        rw [List.flatMap_cons, ih]
        cases s with
        | none => rfl
        | some s => simp [prD]
    have cap : ((lettersM b gone).map prD).length < sizeLine := by
      rw [List.length_map, sizeLine_eq]
      unfold lettersM
      rw [eg, List.length_flatMap]
      have hb : (List.map (fun (k : Nat) => (gs.map fun g => ((k : Int), g)).length) (innerM b.spans)).sum = (innerM b.spans).length * gs.length := by
        simp only [List.length_map]
        exact sum_const _ _
      rw [hb]
      have := inl b.spans
      have : (innerM b.spans).length * gs.length ≤ 101 * 200 := Nat.mul_le_mul (by omega) hg
      omega
    refine dLc2_of (sl1 := ?_) b.spans.zipIdx (fun p => .tup [.int (p.2 : Nat), spD p.1]) (fun p => p.1.isSome) (fun _ => gs) (fun _ g => .int g) (fun p g => .tup [.int (p.2 : Nat), .int g])
      (fun p => [Sl.sh (D.ins T.a_Block (Blk.F T.a_Entry b)), Sl.sh (D.int (gone : Nat)), Sl.sh (D.lst (gs.map D.int)), Sl.sh (.int (p.2 : Nat)), Sl.sh (spD p.1), Sl.un]) (fun Q h => ?_) ?_ ?_ (fun z hz R R0 hk hn => ?_) (fun z hz => ⟨no_of rfl, len_of rfl⟩) (fun z hz hk y hy Q1 h => ?_) (fun z hz => ?_) (by rw [eq]; exact cap) (by rw [eq]; exact h2)
    rotate_left
    · walk_at "dl"
      rw [enumD_map]
      exact h
    · exact no_of rfl
    · exact len_of rfl
    · obtain ⟨s, k⟩ := z
      cases s with
      | none =>
        simp only [spD]
        walk_at "dl"
        exact hn rfl
      | some s =>
        have hk' := hk rfl
        simp only [spD] at hk' ⊢
        walk_at "dl"
        exact hk'
    · walk_at "dl"
      exact ⟨by decide, h⟩
    · rfl
  walk_at "dl"
  by_cases h0 : gone = 0
  · rw [if_pos (by omega)]
    exact ⟨by decide, main [firstM b.gs b.e b.ah] (by simp) (if_pos h0)⟩
  · rw [if_neg (by omega)]
    have m := main (b.inner.map fun (i : Nat) => (i : Int)) (by have := gl; unfold gapsM at this; rw [if_neg h0] at this; exact this) (if_neg h0)
    rw [List.map_map] at m
    exact m
end
end K21
end
section
set_option maxRecDepth 100000
set_option maxHeartbeats 4000000
namespace K21
open PySem PySem.Spec PyProof.Rows L2 RZ StX NdefX DL
local macro_rules | `(tactic| walk_at "dl") => `(tactic| simp only [dSeq, dIfS, dTest, dOp, rdLt, rdLe, rdGt, rdGe, rdEq, rdNe, rdI0, rdI, rdPlus, rdTimes, rdIsN, rdNotN, rdIsB, rdIsi, dIsiT, dVar, dC, dRet, dRetN, dNext, dNever, dDrop, dAsg, dSetN, gNm, gTp, gCn, gNl, dCB, dCall, dCallM, dCons, dNil, dStar, dTup, rdInt, rdAbs, rdLen, rdBool, rdReprF, rdTuple, rdAll, rdAny, rdSum, rdSumA, rdMax2, rdMin2, dLenB, dIxB, gSb, dAnd, dOr, dNot, dAndV, dOrV, dNotV, dIf, dChain, dChain3, dUn, rdIx, dShare, dLst, dPar, dPar3, dFld, dFldI, dFset, gFs, dMeth, dMake, dSl, dNoP, dPart, dAug, dYes, dApp, dPop, dPopAt, wipeS, backS, iSq, iLs, iTp, iEnq, iZq, iRg1, iRg2, tI, prD, spansD, vcuts, startS, startM, startI, lstAt, setLst, D.cv, D.cvs, D.isNon, D.seq, atI_0, atI_1, atI_2, atI_3, atI_4, atI_5, atI_6, Int.cast_ofNat_Int, Int.natCast_one, Int.natCast_zero, Int.reduceEq, Int.reduceLE, Int.reduceLT, decide_true, decide_false, List.getElem?_cons_succ, List.getElem?_cons_zero, List.length_cons, List.length_nil, List.map_cons, List.map_nil, List.cons_append, List.nil_append, List.append_nil, Nat.reduceAdd, Nat.reduceSub, List.replicate, Option.some.injEq, exists_eq_left', exists_eq_left, exists_eq', exists_and_left, exists_and_right, true_and, and_true, List.set_cons_zero, List.set_cons_succ, decide_eq_true_eq, Option.bind_some, Option.map_some, reduceIte, if_true, if_false, Bool.false_eq_true, Bool.not_true, Bool.not_false, Sl.io.injEq, Sl.sh.injEq, FOe_bits, entF_bits, FOe_count, entF_count, FOe_first, entF_first, FOe_last, entF_last, FOe_total, entF_total, FOe_least, entF_least, FOe_greatest, entF_greatest, FOe_parts, entF_parts, FOb_entry, FOb_many, FOb_first, FOb_length, FOb_spans, FOb_steps, FOb_bottom, FOb_top, FOb_inner, blkF_entry, blkF_many, blkF_first, blkF_length, blkF_spans, blkF_steps, blkF_bottom, blkF_top, blkF_inner, blkF_no_none, blkF_no_letters, blkF_no_behind, blkF_no_wanted, blkF_no_values_go_on, blkF_no_gaps_go_on, blkF_no_goes_on])

def max0 (j : Int) : Int := if j > 0 then j else 0
def wantM (b : Blk) (a : List Int) : Int × Int :=
  if b.e.least = b.e.greatest then (max0 (1 - a.getD b.bottom 0), 0)
  else if b.bottom = b.top then (max0 (2 - a.getD b.bottom 0), 0)
  else (max0 (1 - a.getD b.bottom 0), max0 (1 - a.getD b.top 0))
theorem atI_int {a : List Int} {k : Nat} (h : k < a.length) : atI (a.map D.int) (k : Int) = some (.int (a.getD k 0)) := atI_nat (by rw [List.getElem?_map, List.getElem?_eq_getElem h, List.getD_eq_getElem?_getD, List.getElem?_eq_getElem h]; rfl)
theorem max0_nn (j : Int) : 0 ≤ max0 j := by unfold max0; split <;> omega
theorem wantM_nn (b : Blk) (a : List Int) : 0 ≤ (wantM b a).1 ∧ 0 ≤ (wantM b a).2 := by
  unfold wantM
  split
  · exact ⟨max0_nn _, Int.le_refl _⟩
  · split
    · exact ⟨max0_nn _, Int.le_refl _⟩
    · exact ⟨max0_nn _, max0_nn _⟩
theorem span_at {cs : List Int} {lo hi : Int} {k : Nat} {l m : Int} (h : spanAt cs lo hi k = some (l, m)) :
    l = (if k = 0 then lo else if cs.getD (k - 1) 0 > lo then cs.getD (k - 1) 0 else lo) ∧ m = (if k = cs.length then hi else if cs.getD k 0 - 1 < hi then cs.getD k 0 - 1 else hi) ∧ l ≤ m := by
  unfold spanAt at h
  dsimp only at h
  by_cases hle : (if k = 0 then lo else if cs.getD (k - 1) 0 > lo then cs.getD (k - 1) 0 else lo) ≤ (if k = cs.length then hi else if cs.getD k 0 - 1 < hi then cs.getD k 0 - 1 else hi)
  · rw [if_pos hle] at h
    injection h with h
    injection h with h1 h2
    subst h1 h2
    exact ⟨rfl, rfl, hle⟩
  · rw [if_neg hle] at h
    cases h
theorem span_bd {cs : List Int} {lo hi : Int} {p : Int × Int} (h : some p ∈ spansM cs lo hi) : lo ≤ p.1 ∧ p.1 ≤ p.2 ∧ p.2 ≤ hi := by
  unfold spansM at h
  obtain ⟨k, _, hk⟩ := List.mem_map.mp h
  obtain ⟨l, m⟩ := p
  obtain ⟨h1, h2, h3⟩ := span_at hk
  refine ⟨?_, h3, ?_⟩
  · show lo ≤ l
    rw [h1]
    split
    · exact Int.le_refl _
    · split <;> omega
  · show m ≤ hi
    rw [h2]
    split
    · exact Int.le_refl _
    · split <;> omega
/-- a block's values with no point to come: is what is told possible -/
def vGo (b : Blk) (a : List Int) (o p t f : Int) : Bool := decide (wantM b a = (0, 0)) && (metM b.spans a && (decide (sumLo b.spans a + b.e.greatest - t ≤ b.e.total) && decide (b.e.total ≤ sumHi b.spans a - p + b.e.least)))
def gGo (b : Blk) (c : List Int) : Bool := metM b.steps c && (decide (sumLo b.steps c ≤ b.e.last - b.e.first) && decide (b.e.last - b.e.first ≤ sumHi b.steps c))
theorem chain_if {Q : D → Prop} {x y : Prop} [Decidable x] [Decidable y] (h : Q (.bl (decide x && decide y))) : if x then Q (.bl (decide y)) else Q (.bl false) := by
  by_cases c : x
  · rw [decide_eq_true c, Bool.true_and] at h
    rw [if_pos c]
    exact h
  · rw [decide_eq_false c, Bool.false_and] at h
    rw [if_neg c]
    exact h
/-- one statement at a time -/
theorem seq_cut {a b : DS} {N : DN} {sl : List Sl} (h : ∀ B, B = b → dSeq a B N sl) : dSeq a b N sl := h _ rfl
section
variable {w : World} {K : PySem.W.Frag} {mg : Str → Option Value} {base : Heap}
def sp_wanted (CB CE : Addr) : SD := fun ds P => ∃ (b : Blk) (a : List Int), ds = [.ins CB (b.F CE), tI a] ∧ b.bottom < a.length ∧ b.top < a.length ∧ P (prD (wantM b a))
theorem ok_wanted (T : Txt K mg) : FnOk Prog w K mg base CX0 1 T.Block_wanted.f T.Block_wanted.fd ["self", "values"] (SpD K (sp_wanted T.a_Block T.a_Entry)) := by
  refine okD T.Block_wanted.fu sc_Block_wanted (fun ds P ⟨b, a, q, _⟩ => by rw [q]; rfl) (fun cdv A outer s H E Fm hr =>
    (dss_cons (ds_if (dt_cmp (op_eq2 hr.units) lr_eq (de_fldK K (de_fldK K (de_var 0))) (de_fldK K (de_fldK K (de_var 0)))) (dss_one (ds_ret (de_tup (da_cons (de_callB (call_max2 rfl) lr_max2 (by rfl) T.b_max (by decide +kernel) (da_cons de_int (da_cons (de_sub de_int (de_ix (de_var 1) (de_fldK K (de_var 0)))) da_nil))) (da_cons de_int da_nil))))) dss_nil)
      (dss_cons (ds_if (dt_cmp (op_eq2 hr.units) lr_eq (de_fldK K (de_var 0)) (de_fldK K (de_var 0))) (dss_one (ds_ret (de_tup (da_cons (de_callB (call_max2 rfl) lr_max2 (by rfl) T.b_max (by decide +kernel) (da_cons de_int (da_cons (de_sub de_int (de_ix (de_var 1) (de_fldK K (de_var 0)))) da_nil))) (da_cons de_int da_nil))))) dss_nil)
      (dss_one (ds_ret (de_tup (da_cons (de_callB (call_max2 rfl) lr_max2 (by rfl) T.b_max (by decide +kernel) (da_cons de_int (da_cons (de_sub de_int (de_ix (de_var 1) (de_fldK K (de_var 0)))) da_nil))) (da_cons (de_callB (call_max2 rfl) lr_max2 (by rfl) T.b_max (by decide +kernel) (da_cons de_int (da_cons (de_sub de_int (de_ix (de_var 1) (de_fldK K (de_var 0)))) da_nil))) da_nil)))))))) (fun ds Q ⟨b, a, q, hb, ht, h2⟩ => ?_)
  subst q
  have xb := atI_int hb
  have xt := atI_int ht
  walk_at "dl"
  unfold wantM at h2
  by_cases h0 : b.e.least = b.e.greatest
  · rw [if_pos h0] at h2 ⊢
    exact ⟨_, xb, by decide, h2⟩
  · rw [if_neg h0] at h2 ⊢
    by_cases h1 : b.bottom = b.top
    · rw [if_pos h1] at h2
      rw [if_pos (by omega)]
      exact ⟨_, xb, by decide, h2⟩
    · rw [if_neg h1] at h2
      rw [if_neg (by omega)]
      exact ⟨_, xb, _, xt, by decide, h2⟩
def sp_values_go_on (CB CE : Addr) : SD := fun ds P => ∃ (b : Blk) (a : List Int) (o p t f : Int), ds = [.ins CB (b.F CE), tI a] ∧ BlkOk b ∧ EntOk b.e ∧ b.spans[b.bottom]? = some (some (o, p)) ∧ b.spans[b.top]? = some (some (t, f)) ∧ a.length = b.spans.length ∧ (∀ c ∈ a, 0 ≤ c ∧ c ≤ 1000) ∧ a.sum = b.e.count ∧ P (.bl (vGo b a o p t f))
theorem ok_values_go_on (T : Txt K mg) : FnOk Prog w K mg base CX0 3 T.Block_values_go_on.f T.Block_values_go_on.fd ["self", "values"] (SpD K (sp_values_go_on T.a_Block T.a_Entry)) := by
  have G_Block_wanted : FnOk Prog w K mg base CX0 1 T.Block_wanted.f T.Block_wanted.fd _ _ := ok_wanted T
  have G_are_met : FnOk Prog w K mg base CX0 1 T.are_met.f T.are_met.fd _ _ := ok_are_met T
  have G_sums_in : FnOk Prog w K mg base CX0 1 T.sums_in.f T.sums_in.fd _ _ := ok_sums_in T
  refine okD T.Block_values_go_on.fu sc_Block_values_go_on (fun ds P ⟨b, a, o, p, t, f, q, _⟩ => by rw [q]; rfl) (fun cdv A outer s H E Fm hr =>
    (dss_cons (ds_set (i := 2) sc_Block_values_go_on.nd rfl (by first | exact Or.inl rfl | exact Or.inr rfl) (de_sub (de_fldK K (de_var 0)) (de_callB (cr_sumA rfl) lr_sumA (by rfl) T.b_sum (by decide +kernel) (da_cons (de_var 1) da_nil))))
      (dss_cons (ds_asg (de_meth (de_var 0) T.C_Block.c T.Block_wanted.mt (G_Block_wanted) (hr.mono (by decide)) T.Block_wanted.bi .nil (fun _ => .nil) (da_cons (de_var 1) da_nil)) (dg_tup (n := 2) rfl (dgs_cons (dg_name (i := 3) sc_Block_values_go_on.nd rfl (by first | exact Or.inl rfl | exact Or.inr rfl)) (dgs_cons (dg_name (i := 4) sc_Block_values_go_on.nd rfl (by first | exact Or.inl rfl | exact Or.inr rfl)) dgs_nil))))
      (dss_cons (ds_if (dt_w (dw_or (dt_cmp op_lt lr_lt (de_var 2) (de_plus (de_var 3) (de_var 4))) (dw_or1 (dt_not (dt_val (de_call (G_are_met) (hr.mono (by decide)) (by rfl) T.are_met.mgf T.are_met.fu.kp T.are_met.bi .nil (fun _ => .nil) (da_cons (de_fldK K (de_var 0)) (da_cons (de_var 1) da_nil)))))))) (dss_one (ds_ret de_bl)) dss_nil)
      (dss_cons (ds_asg (de_tup (da_cons (de_sub (de_sub (de_var 2) (de_var 3)) (de_var 4)) (da_cons (de_call (G_sums_in) (hr.mono (by decide)) (by rfl) T.sums_in.mgf T.sums_in.fu.kp T.sums_in.bi .nil (fun _ => .nil) (da_cons (de_fldK K (de_var 0)) (da_cons (de_var 1) da_nil))) da_nil))) (dg_tup (n := 2) rfl (dgs_cons (dg_name (i := 5) sc_Block_values_go_on.nd rfl (by first | exact Or.inl rfl | exact Or.inr rfl)) (dgs_cons (dg_tup (n := 2) rfl (dgs_cons (dg_name (i := 6) sc_Block_values_go_on.nd rfl (by first | exact Or.inl rfl | exact Or.inr rfl)) (dgs_cons (dg_name (i := 7) sc_Block_values_go_on.nd rfl (by first | exact Or.inl rfl | exact Or.inr rfl)) dgs_nil))) dgs_nil))))
      (dss_cons (ds_asg (de_tup (da_cons (de_ix (de_fldK K (de_var 0)) (de_fldK K (de_var 0))) (da_cons (de_ix (de_fldK K (de_var 0)) (de_fldK K (de_var 0))) da_nil))) (dg_tup (n := 2) rfl (dgs_cons (dg_tup (n := 2) rfl (dgs_cons (dg_name (i := 8) sc_Block_values_go_on.nd rfl (by first | exact Or.inl rfl | exact Or.inr rfl)) (dgs_cons (dg_name (i := 9) sc_Block_values_go_on.nd rfl (by first | exact Or.inl rfl | exact Or.inr rfl)) dgs_nil))) (dgs_cons (dg_tup (n := 2) rfl (dgs_cons (dg_name (i := 10) sc_Block_values_go_on.nd rfl (by first | exact Or.inl rfl | exact Or.inr rfl)) (dgs_cons (dg_name (i := 11) sc_Block_values_go_on.nd rfl (by first | exact Or.inl rfl | exact Or.inr rfl)) dgs_nil))) dgs_nil))))
      (dss_cons (ds_set (i := 6) sc_Block_values_go_on.nd rfl (by first | exact Or.inl rfl | exact Or.inr rfl) (de_sub (de_plus (de_plus (de_plus (de_plus (de_var 6) (de_times (de_var 3) (de_var 8))) (de_times (de_var 4) (de_var 10))) (de_times (de_var 5) (de_var 8))) (de_fldK K (de_fldK K (de_var 0)))) (de_var 10)))
      (dss_cons (ds_set (i := 7) sc_Block_values_go_on.nd rfl (by first | exact Or.inl rfl | exact Or.inr rfl) (de_plus (de_sub (de_plus (de_plus (de_plus (de_var 7) (de_times (de_var 3) (de_var 9))) (de_times (de_var 4) (de_var 11))) (de_times (de_var 5) (de_var 11))) (de_var 9)) (de_fldK K (de_fldK K (de_var 0)))))
      (dss_one (ds_ret (de_chain op_le lr_le op_le lr_le (de_var 6) (de_fldK K (de_fldK K (de_var 0))) (de_var 7)))))))))))) (fun ds Q ⟨b, a, o, p, t, f, q, ok, eo, hb, ht, hl, hc, hs, h2⟩ => ?_)
  subst q
  have lb : b.bottom < a.length := by rw [hl]; exact (List.getElem?_eq_some_iff.mp hb).1
  have lt : b.top < a.length := by rw [hl]; exact (List.getElem?_eq_some_iff.mp ht).1
  have sl := spans_len b
  have xb : atI (b.spans.map spD) (b.bottom : Int) = some (prD (o, p)) := atI_nat (by rw [List.getElem?_map, hb]; rfl)
  have xt : atI (b.spans.map spD) (b.top : Int) = some (prD (t, f)) := atI_nat (by rw [List.getElem?_map, ht]; rfl)
  obtain ⟨nn1, nn2⟩ := wantM_nn b a
  have o1 := ok.v
  have e1 := eo.lo
  have e2 := eo.gm
  refine seq_cut fun B hB => ?_
  walk_at "dl"
  refine ⟨_, DL.ints_map a, ?_⟩
  rw [hs, Int.sub_self]
  subst hB
  refine seq_cut fun B hB => ?_
  walk_at "dl"
  refine ⟨b, a, rfl, lb, lt, ?_⟩
  walk_at "dl"
  subst hB
  refine seq_cut fun B hB => ?_
  walk_at "dl"
  unfold vGo at h2
  by_cases w0 : wantM b a = (0, 0)
  · rw [w0] at h2 ⊢
    rw [decide_eq_true rfl, Bool.true_and] at h2
    rw [if_neg (by decide)]
    refine ⟨b.spans, a, rfl, by omega, ?_⟩
    cases hm : metM b.spans a with
    | false =>
      walk_at "dl"
      rw [hm] at h2
      exact h2
    | true =>
      rw [hm, Bool.true_and] at h2
      walk_at "dl"
      subst hB
      refine seq_cut fun B hB => ?_
      walk_at "dl"
      refine ⟨b.spans, a, rfl, by omega, hc, fun r hr => ?_, ?_⟩
      · have := span_bd (show some r ∈ spansM b.vs b.e.least b.e.greatest from hr)
        omega
      · walk_at "dl"
        refine ⟨by decide, ?_⟩
        subst hB
        refine seq_cut fun B hB => ?_
        simp only [dSeq, dIfS, dTest, dOp, rdLt, rdLe, rdGt, rdGe, rdEq, rdNe, rdI0, rdI, rdPlus, rdTimes, rdIsN, rdNotN, rdIsB, rdIsi, dIsiT, dVar, dC, dRet, dRetN, dNext, dNever, dDrop, dAsg, dSetN, gNm, gTp, gCn, gNl, dCB, dCall, dCallM, dCons, dNil, dStar, dTup, rdInt, rdAbs, rdLen, rdBool, rdReprF, rdTuple, rdAll, rdAny, rdSum, rdSumA, rdMax2, rdMin2, dLenB, dIxB, gSb, dAnd, dOr, dNot, dAndV, dOrV, dNotV, dIf, dChain, dChain3, dUn, rdIx, dShare, dLst, dPar, dPar3, dFld, dFldI, dFset, gFs, dMeth, dMake, dSl, dNoP, dPart, dAug, dYes, dApp, dPop, dPopAt, wipeS, backS, iSq, iLs, iTp, iEnq, iZq, iRg1, iRg2, tI, prD, spansD, vcuts, startS, startM, startI, lstAt, setLst, D.cv, D.cvs, D.isNon, D.seq, atI_0, atI_1, atI_2, atI_3, atI_4, atI_5, atI_6, Int.cast_ofNat_Int, Int.natCast_one, Int.natCast_zero, Int.reduceEq, Int.reduceLE, Int.reduceLT, decide_true, decide_false, List.getElem?_cons_succ, List.getElem?_cons_zero, List.length_cons, List.length_nil, List.map_cons, List.map_nil, List.cons_append, List.nil_append, List.append_nil, Nat.reduceAdd, Nat.reduceSub, List.replicate, Option.some.injEq, exists_eq_left', exists_eq_left, exists_eq', exists_and_left, exists_and_right, true_and, and_true, List.set_cons_zero, List.set_cons_succ, decide_eq_true_eq, Option.bind_some, Option.map_some, reduceIte, if_true, if_false, Bool.false_eq_true, Bool.not_true, Bool.not_false, Sl.io.injEq, Sl.sh.injEq, FOe_bits, entF_bits, FOe_count, entF_count, FOe_first, entF_first, FOe_last, entF_last, FOe_total, entF_total, FOe_least, entF_least, FOe_greatest, entF_greatest, FOe_parts, entF_parts, FOb_entry, FOb_many, FOb_first, FOb_length, FOb_spans, FOb_steps, FOb_bottom, FOb_top, FOb_inner, blkF_entry, blkF_many, blkF_first, blkF_length, blkF_spans, blkF_steps, blkF_bottom, blkF_top, blkF_inner, blkF_no_none, blkF_no_letters, blkF_no_behind, blkF_no_wanted, blkF_no_values_go_on, blkF_no_gaps_go_on, blkF_no_goes_on, xb, xt]
        subst hB
        refine ⟨by decide, ?_⟩
        walk_at "dl"
        have z0 : (0 : Int) - 0 - 0 = 0 := rfl
        rw [z0]
        refine ⟨.inl (by decide), .inl (by decide), .inl (by decide), .inl (by decide), .inl (by decide), .inl (by decide), ?_⟩
        simp only [Int.zero_mul, Int.add_zero]
        exact chain_if h2
  · have hw : 0 < (wantM b a).1 + (wantM b a).2 := by
      have : ¬ ((wantM b a).1 = 0 ∧ (wantM b a).2 = 0) := fun ⟨x, y⟩ => w0 (Prod.ext x y)
      omega
    rw [decide_eq_false w0, Bool.false_and] at h2
    rw [if_pos hw]
    exact h2
def sp_gaps_go_on (CB CE : Addr) : SD := fun ds P => ∃ (b : Blk) (c : List Int), ds = [.ins CB (b.F CE), tI c] ∧ BlkOk b ∧ EntOk b.e ∧ c.length = b.steps.length ∧ (∀ x ∈ c, 0 ≤ x ∧ x ≤ 1000) ∧ c.sum = b.e.count - 1 ∧ P (.bl (gGo b c))
theorem ok_gaps_go_on (T : Txt K mg) : FnOk Prog w K mg base CX0 2 T.Block_gaps_go_on.f T.Block_gaps_go_on.fd ["self", "gaps"] (SpD K (sp_gaps_go_on T.a_Block T.a_Entry)) := by
  have G_are_met : FnOk Prog w K mg base CX0 1 T.are_met.f T.are_met.fd _ _ := ok_are_met T
  have G_sums_in : FnOk Prog w K mg base CX0 1 T.sums_in.f T.sums_in.fd _ _ := ok_sums_in T
  refine okD T.Block_gaps_go_on.fu sc_Block_gaps_go_on (fun ds P ⟨b, a, q, _⟩ => by rw [q]; rfl) (fun cdv A outer s H E Fm hr =>
    (dss_cons (ds_set (i := 2) sc_Block_gaps_go_on.nd rfl (by first | exact Or.inl rfl | exact Or.inr rfl) (de_sub (de_sub (de_fldK K (de_var 0)) de_int) (de_callB (cr_sumA rfl) lr_sumA (by rfl) T.b_sum (by decide +kernel) (da_cons (de_var 1) da_nil))))
      (dss_cons (ds_if (dt_w (dw_or (dt_cmp op_lt lr_lt (de_var 2) de_int) (dw_or1 (dt_not (dt_val (de_call (G_are_met) (hr.mono (by decide)) (by rfl) T.are_met.mgf T.are_met.fu.kp T.are_met.bi .nil (fun _ => .nil) (da_cons (de_fldK K (de_var 0)) (da_cons (de_var 1) da_nil)))))))) (dss_one (ds_ret de_bl)) dss_nil)
      (dss_cons (ds_asg (de_call (G_sums_in) (hr.mono (by decide)) (by rfl) T.sums_in.mgf T.sums_in.fu.kp T.sums_in.bi .nil (fun _ => .nil) (da_cons (de_fldK K (de_var 0)) (da_cons (de_var 1) da_nil))) (dg_tup (n := 2) rfl (dgs_cons (dg_name (i := 3) sc_Block_gaps_go_on.nd rfl (by first | exact Or.inl rfl | exact Or.inr rfl)) (dgs_cons (dg_name (i := 4) sc_Block_gaps_go_on.nd rfl (by first | exact Or.inl rfl | exact Or.inr rfl)) dgs_nil))))
      (dss_cons (ds_if (dt_cmp op_gt lr_gt (de_var 2) de_int) (dss_one (ds_par (i := 3) (j := 4) rfl sc_Block_gaps_go_on.nd rfl rfl (by decide) rfl rfl (de_plus (de_var 3) (de_times (de_var 2) (de_ix (de_ix (de_fldK K (de_var 0)) (de_ix (de_fldK K (de_var 0)) de_int)) de_int))) (de_plus (de_var 4) (de_times (de_var 2) (de_ix (de_ix (de_fldK K (de_var 0)) (de_ix (de_fldK K (de_var 0)) (de_neg de_int))) de_int))) (by rfl))) dss_nil)
      (dss_one (ds_ret (de_chain op_le lr_le op_le lr_le (de_var 3) (de_fldK K (de_var 0)) (de_var 4))))))))) (fun ds Q ⟨b, a, q, ok, eo, hl, hc, hs, h2⟩ => ?_)
  subst q
  have sl := steps_len b
  have o1 := ok.g
  have e1 := eo.f0
  have e2 := eo.lm
  have e3 := eo.fl
  have e4 := eo.c2
  refine seq_cut fun B hB => ?_
  walk_at "dl"
  refine ⟨_, DL.ints_map a, ?_⟩
  rw [hs, Int.sub_self]
  subst hB
  refine seq_cut fun B hB => ?_
  walk_at "dl"
  unfold gGo at h2
  refine ⟨b.steps, a, rfl, by omega, ?_⟩
  cases hm : metM b.steps a with
  | false =>
    walk_at "dl"
    rw [hm] at h2
    exact h2
  | true =>
    rw [hm, Bool.true_and] at h2
    walk_at "dl"
    subst hB
    refine seq_cut fun B hB => ?_
    walk_at "dl"
    refine ⟨b.steps, a, rfl, by omega, hc, fun r hr => ?_, ?_⟩
    · have := span_bd (show some r ∈ spansM b.gs 1 (b.e.last - b.e.first) from hr)
      omega
    · walk_at "dl"
      subst hB
      refine seq_cut fun B hB => ?_
      walk_at "dl"
      subst hB
      walk_at "dl"
      exact chain_if h2
def goM (b : Blk) (a c : List Int) (o p t f : Int) : Bool := vGo b a o p t f && gGo b c
def sp_goes_on (CB CE : Addr) : SD := fun ds P => ∃ (b : Blk) (a c : List Int) (o p t f : Int), ds = [.ins CB (b.F CE), cntD a c] ∧ BlkOk b ∧ EntOk b.e ∧ b.spans[b.bottom]? = some (some (o, p)) ∧ b.spans[b.top]? = some (some (t, f)) ∧
  a.length = b.spans.length ∧ (∀ x ∈ a, 0 ≤ x ∧ x ≤ 1000) ∧ a.sum = b.e.count ∧ c.length = b.steps.length ∧ (∀ x ∈ c, 0 ≤ x ∧ x ≤ 1000) ∧ c.sum = b.e.count - 1 ∧ P (.bl (goM b a c o p t f))
theorem ok_goes_on (T : Txt K mg) : FnOk Prog w K mg base CX0 4 T.Block_goes_on.f T.Block_goes_on.fd ["self", "counts"] (SpD K (sp_goes_on T.a_Block T.a_Entry)) := by
  have G_Block_values_go_on : FnOk Prog w K mg base CX0 3 T.Block_values_go_on.f T.Block_values_go_on.fd _ _ := ok_values_go_on T
  have G_Block_gaps_go_on : FnOk Prog w K mg base CX0 2 T.Block_gaps_go_on.f T.Block_gaps_go_on.fd _ _ := ok_gaps_go_on T
  refine okD T.Block_goes_on.fu sc_Block_goes_on (fun ds P ⟨b, a, c, o, p, t, f, q, _⟩ => by rw [q]; rfl) (fun cdv A outer s H E Fm hr =>
    (dss_one (ds_ret (de_and (de_meth (de_var 0) T.C_Block.c T.Block_values_go_on.mt (G_Block_values_go_on) (hr.mono (by decide)) T.Block_values_go_on.bi .nil (fun _ => .nil) (da_cons (de_ix (de_var 1) de_int) da_nil)) (de_one (de_meth (de_var 0) T.C_Block.c T.Block_gaps_go_on.mt (G_Block_gaps_go_on) (hr.mono (by decide)) T.Block_gaps_go_on.bi .nil (fun _ => .nil) (da_cons (de_ix (de_var 1) de_int) da_nil))))))) (fun ds Q ⟨b, a, c, o, p, t, f, q, ok, eo, hb, ht, al, ac, as, cl, cc, cs, h2⟩ => ?_)
  subst q
  simp only [cntD]
  unfold goM at h2
  walk_at "dl"
  refine ⟨b, a, o, p, t, f, rfl, ok, eo, hb, ht, al, ac, as, ?_⟩
  cases hv : vGo b a o p t f with
  | false =>
    rw [hv] at h2
    walk_at "dl"
    exact h2
  | true =>
    rw [hv, Bool.true_and] at h2
    walk_at "dl"
    exact ⟨b, c, rfl, ok, eo, cl, cc, cs, h2⟩
end
end K21
end
section
set_option maxRecDepth 100000
set_option maxHeartbeats 4000000
namespace K21
open PySem PySem.Spec PyProof.Rows L2 RZ StX NdefX DL
local macro_rules | `(tactic| walk_at "dl") => `(tactic| simp only [dSeq, dIfS, dTest, dOp, rdLt, rdLe, rdGt, rdGe, rdEq, rdNe, rdI0, rdI, rdPlus, rdTimes, rdIsN, rdNotN, rdIsB, rdIsi, dIsiT, dVar, dC, dRet, dRetN, dNext, dNever, dDrop, dAsg, dSetN, gNm, gTp, gCn, gNl, dCB, dCall, dCallM, dCons, dNil, dStar, dTup, rdInt, rdAbs, rdLen, rdBool, rdReprF, rdTuple, rdAll, rdAny, rdSum, rdSumA, rdMax2, rdMin2, dLenB, dIxB, gSb, dAnd, dOr, dNot, dAndV, dOrV, dNotV, dIf, dChain, dChain3, dUn, rdIx, dShare, dLst, dPar, dPar3, dFld, dFldI, dFset, gFs, dMeth, dMake, dSl, dNoP, dPart, dAug, dYes, dApp, dPop, dPopAt, wipeS, backS, iSq, iLs, iTp, iEnq, iZq, iRg1, iRg2, tI, prD, spansD, vcuts, startS, startM, startI, lstAt, setLst, D.cv, D.cvs, D.isNon, D.seq, atI_0, atI_1, atI_2, atI_3, atI_4, atI_5, atI_6, Int.cast_ofNat_Int, Int.natCast_one, Int.natCast_zero, Int.reduceEq, Int.reduceLE, Int.reduceLT, decide_true, decide_false, List.getElem?_cons_succ, List.getElem?_cons_zero, List.length_cons, List.length_nil, List.map_cons, List.map_nil, List.cons_append, List.nil_append, List.append_nil, Nat.reduceAdd, Nat.reduceSub, List.replicate, Option.some.injEq, exists_eq_left', exists_eq_left, exists_eq', exists_and_left, exists_and_right, true_and, and_true, List.set_cons_zero, List.set_cons_succ, decide_eq_true_eq, Option.bind_some, Option.map_some, reduceIte, if_true, if_false, Bool.false_eq_true, Bool.not_true, Bool.not_false, Sl.io.injEq, Sl.sh.injEq, FOe_bits, entF_bits, FOe_count, entF_count, FOe_first, entF_first, FOe_last, entF_last, FOe_total, entF_total, FOe_least, entF_least, FOe_greatest, entF_greatest, FOe_parts, entF_parts, FOb_entry, FOb_many, FOb_first, FOb_length, FOb_spans, FOb_steps, FOb_bottom, FOb_top, FOb_inner, blkF_entry, blkF_many, blkF_first, blkF_length, blkF_spans, blkF_steps, blkF_bottom, blkF_top, blkF_inner, blkF_no_none, blkF_no_letters, blkF_no_behind, blkF_no_wanted, blkF_no_values_go_on, blkF_no_gaps_go_on, blkF_no_goes_on])

/-! data -/
def pyP (p : Int × Int) : PyData := .tuple [.int p.1, .int p.2]
theorem pys_ints (l : List Int) : D.pys (l.map D.int) = some (l.map PyData.int) := by
  induction l with
  | nil => rfl
  | cons x l ih => rw [List.map_cons, D.pys, ih]; rfl
theorem py_pr (p : Int × Int) : (prD p).py = some (pyP p) := rfl
theorem pys_prs (l : List (Int × Int)) : D.pys (l.map prD) = some (l.map pyP) := by
  induction l with
  | nil => rfl
  | cons x l ih => rw [List.map_cons, D.pys, ih, py_pr]; rfl
theorem lay_ints (l : List Int) : PyData.canLayAll0 (l.map PyData.int) = true := by
  induction l with
  | nil => rfl
  | cons x l ih => rw [List.map_cons, PyData.canLayAll0, ih]; rfl
theorem dep_ints (l : List Int) : PyData.depthAll (l.map PyData.int) = 0 := by
  induction l with
  | nil => rfl
  | cons x l ih => rw [List.map_cons, PyData.depthAll, ih]; rfl
theorem lay_prs (l : List (Int × Int)) : PyData.canLayAll0 (l.map pyP) = true := by
  induction l with
  | nil => rfl
  | cons x l ih => rw [List.map_cons, PyData.canLayAll0, ih]; rfl
theorem dep_prs (l : List (Int × Int)) : PyData.depthAll (l.map pyP) ≤ 1 := by
  induction l with
  | nil => exact Nat.zero_le _
  | cons x l ih =>
    rw [List.map_cons, PyData.depthAll]
    have : PyData.depth (pyP x) = 1 := rfl
    omega
theorem shp_li (l : List Int) : SeqAt.shaped (.list (l.map PyData.int)) = true := by
  simp only [SeqAt.shaped, PyData.canLay0, PyData.depth, lay_ints, dep_ints]
  rfl
theorem shp_ti (l : List Int) : SeqAt.shaped (.tuple (l.map PyData.int)) = true := by
  simp only [SeqAt.shaped, PyData.canLay0, PyData.depth, lay_ints, dep_ints]
  rfl
theorem shp_lp (l : List (Int × Int)) : SeqAt.shaped (.list (l.map pyP)) = true := by
  have := dep_prs l
  simp only [SeqAt.shaped, PyData.canLay0, PyData.depth, lay_prs, Bool.true_and]
  exact decide_eq_true (by omega)
theorem shp_tp (l : List (Int × Int)) : SeqAt.shaped (.tuple (l.map pyP)) = true := by
  have := dep_prs l
  simp only [SeqAt.shaped, PyData.canLay0, PyData.depth, lay_prs, Bool.true_and]
  exact decide_eq_true (by omega)
theorem eqv_i (i j : Int) : PyData.eqv (.int i) (.int j) = decide (i = j) := by
  simp only [PyData.eqv]
  rfl
theorem eqv_ints (l m : List Int) : PyData.eqvAll (l.map PyData.int) (m.map PyData.int) = decide (l = m) := by
  induction l generalizing m with
  | nil => cases m <;> rfl
  | cons x l ih =>
    cases m with
    | nil => rfl
    | cons y m =>
      rw [List.map_cons, List.map_cons, PyData.eqvAll, ih, eqv_i]
      by_cases h : x = y
      · by_cases h2 : l = m <;> simp [h, h2]
      · simp [h]
theorem eqv_p (p q : Int × Int) : PyData.eqv (pyP p) (pyP q) = decide (p = q) := by
  have := eqv_ints [p.1, p.2] [q.1, q.2]
  simp only [pyP, PyData.eqv]
  refine this.trans ?_
  obtain ⟨a, b⟩ := p
  obtain ⟨c, d⟩ := q
  by_cases h : a = c
  · by_cases h2 : b = d <;> simp [h, h2]
  · simp [h]
theorem eqv_prs (l m : List (Int × Int)) : PyData.eqvAll (l.map pyP) (m.map pyP) = decide (l = m) := by
  induction l generalizing m with
  | nil => cases m <;> rfl
  | cons x l ih =>
    cases m with
    | nil => rfl
    | cons y m =>
      rw [List.map_cons, List.map_cons, PyData.eqvAll, ih, eqv_p]
      by_cases h : x = y
      · by_cases h2 : l = m <;> simp [h, h2]
      · simp [h]
theorem any_p (l : List (Int × Int)) (s : Int × Int) : ((l.map pyP).any fun z => PyData.eqv z (pyP s)) = decide (s ∈ l) := by
  rw [List.any_map]
  induction l with
  | nil => simp
  | cons x l ih =>
    rw [List.any_cons, ih]
    show (PyData.eqv (pyP x) (pyP s) || decide (s ∈ l)) = _
    rw [eqv_p]
    by_cases h : x = s
    · simp [h]
    · have : ¬ s = x := fun e => h e.symm
      simp [h, this]
/-! counts -/
theorem incL_len (a : List Int) (k : Nat) : (incL a k).length = a.length := List.length_set
theorem incL_sum : ∀ (a : List Int) (k : Nat), k < a.length → (incL a k).sum = a.sum + 1
  | x :: a, 0, _ => by simp [incL]; omega
  | x :: a, k + 1, h => by
    have := incL_sum a k (by simpa using h)
    simp only [incL, List.getD_cons_succ, List.set_cons_succ, List.sum_cons] at this ⊢
    omega
theorem incL_nn {a : List Int} {k : Nat} (h : ∀ x ∈ a, 0 ≤ x) : ∀ x ∈ incL a k, 0 ≤ x := fun x hx => by
  rcases List.mem_or_eq_of_mem_set hx with h1 | rfl
  · exact h x h1
  · rw [List.getD_eq_getElem?_getD]
    cases e : a[k]? with
    | none => decide
    | some y => have := h y (List.mem_of_getElem? e); show 0 ≤ y + 1; omega
theorem le_sum : ∀ {a : List Int}, (∀ x ∈ a, 0 ≤ x) → ∀ x ∈ a, x ≤ a.sum
  | y :: a, h, x, hx => by
    have h1 := h y (List.mem_cons_self)
    have h2 : 0 ≤ a.sum := by
      have : ∀ l : List Int, (∀ x ∈ l, 0 ≤ x) → 0 ≤ l.sum := fun l => by
        induction l with
        | nil => intro _; decide
        | cons z l ih =>
          intro h
          have := ih fun x hx => h x (List.mem_cons_of_mem _ hx)
          have := h z (List.mem_cons_self)
          rw [List.sum_cons]
          omega
      exact this a fun x hx => h x (List.mem_cons_of_mem _ hx)
    rw [List.sum_cons]
    rcases List.mem_cons.mp hx with rfl | hx
    · omega
    · have := le_sum (fun x hx => h x (List.mem_cons_of_mem _ hx)) x hx
      omega
def cntA (b : Blk) (ws : List (Int × Int)) : List Int := ws.foldl (fun a s => incL a s.1.toNat) (List.replicate b.spans.length 0)
def cntC (b : Blk) (ws : List (Int × Int)) : List Int := (ws.drop 1).foldl (fun c s => incL c s.2.toNat) (List.replicate b.steps.length 0)
def lettersAll (b : Blk) (ws : List (Int × Int)) : Bool := ws.zipIdx.all fun p => decide (p.1 ∈ lettersM b p.2)
theorem cntA_snoc (b : Blk) (ws : List (Int × Int)) (s : Int × Int) : cntA b (ws ++ [s]) = incL (cntA b ws) s.1.toNat := by
  unfold cntA
  rw [List.foldl_append]
  rfl
theorem cntC_snoc (b : Blk) (ws : List (Int × Int)) (s : Int × Int) : cntC b (ws ++ [s]) = if ws.length = 0 then cntC b ws else incL (cntC b ws) s.2.toNat := by
  unfold cntC
  cases ws with
  | nil => rfl
  | cons w ws =>
    rw [if_neg (by simp), List.cons_append, List.drop_succ_cons, List.drop_succ_cons, List.drop_zero, List.drop_zero, List.foldl_append]
    rfl
theorem fold_len (g : Int × Int → Nat) : ∀ (ws : List (Int × Int)) (a : List Int), (ws.foldl (fun a s => incL a (g s)) a).length = a.length
  | [], _ => rfl
  | w :: ws, a => by rw [List.foldl_cons, fold_len g ws, incL_len]
theorem cntA_len (b : Blk) (ws : List (Int × Int)) : (cntA b ws).length = b.spans.length := by
  unfold cntA
  rw [fold_len (fun s => s.1.toNat), List.length_replicate]
theorem cntC_len (b : Blk) (ws : List (Int × Int)) : (cntC b ws).length = b.steps.length := by
  unfold cntC
  rw [fold_len (fun s => s.2.toNat), List.length_replicate]
theorem fold_sum (g : Int × Int → Nat) : ∀ (ws : List (Int × Int)) (a : List Int), (∀ s ∈ ws, g s < a.length) → (ws.foldl (fun a s => incL a (g s)) a).sum = a.sum + ws.length
  | [], _, _ => by simp
  | w :: ws, a, h => by
    rw [List.foldl_cons, fold_sum g ws _ (fun s hs => by rw [incL_len]; exact h s (List.mem_cons_of_mem _ hs)), incL_sum _ _ (h w (List.mem_cons_self)), List.length_cons]
    omega
theorem fold_nn (g : Int × Int → Nat) : ∀ (ws : List (Int × Int)) (a : List Int), (∀ x ∈ a, 0 ≤ x) → ∀ x ∈ ws.foldl (fun a s => incL a (g s)) a, 0 ≤ x
  | [], _, h => h
  | w :: ws, a, h => fold_nn g ws _ (incL_nn h)
theorem rep_nn (n : Nat) : ∀ x ∈ List.replicate n (0 : Int), 0 ≤ x := fun x hx => by rw [List.eq_of_mem_replicate hx]; decide
theorem rep_sum (n : Nat) : (List.replicate n (0 : Int)).sum = 0 := by
  induction n with
  | zero => rfl
  | succ n ih => rw [List.replicate_succ, List.sum_cons, ih]; rfl
theorem mem_inner {l : List (Option (Int × Int))} {k : Nat} : k ∈ innerM l ↔ ∃ p, l[k]? = some (some p) := by
  unfold innerM
  rw [List.mem_filterMap]
  constructor
  · rintro ⟨⟨o, i⟩, h1, h2⟩
    rw [List.mem_zipIdx_iff_getElem?] at h1
    cases o with
    | none => cases h2
    | some p =>
      injection h2 with h2
      subst h2
      exact ⟨p, h1⟩
  · rintro ⟨p, h⟩
    exact ⟨(some p, k), List.mem_zipIdx_iff_getElem?.mpr h, rfl⟩
theorem mem_letters {b : Blk} {gone : Nat} {s : Int × Int} : s ∈ lettersM b gone ↔ (∃ k : Nat, (k : Int) = s.1 ∧ k ∈ innerM b.spans) ∧ s.2 ∈ gapsM b gone := by
  unfold lettersM
  rw [List.mem_flatMap]
  constructor
  · rintro ⟨k, h1, h2⟩
    obtain ⟨g, h3, rfl⟩ := List.mem_map.mp h2
    exact ⟨⟨k, rfl, h1⟩, h3⟩
  · rintro ⟨⟨k, h1, h2⟩, h3⟩
    exact ⟨k, h2, List.mem_map.mpr ⟨s.2, h3, by rw [h1]⟩⟩
theorem letter_lt {b : Blk} {gone : Nat} {s : Int × Int} (h : s ∈ lettersM b gone) : ((s.1.toNat : Nat) : Int) = s.1 ∧ s.1.toNat < b.spans.length ∧ (gone ≠ 0 → 0 ≤ s.2 ∧ s.2.toNat < b.steps.length) := by
  obtain ⟨⟨k, h1, h2⟩, h3⟩ := mem_letters.mp h
  obtain ⟨p, hp⟩ := mem_inner.mp h2
  have := (List.getElem?_eq_some_iff.mp hp).1
  refine ⟨by omega, by omega, fun h0 => ?_⟩
  unfold gapsM at h3
  rw [if_neg h0] at h3
  obtain ⟨i, h4, h5⟩ := List.mem_map.mp h3
  obtain ⟨q, hq⟩ := mem_inner.mp h4
  have := (List.getElem?_eq_some_iff.mp hq).1
  omega
theorem seq_cutG {g : DG} {x : D} {a b : DS} {N : DN} {sl : List Sl} (h : ∀ B, B = b → g x sl fun sl2 => dSeq a B N sl2) : g x sl fun sl2 => dSeq a b N sl2 := h _ rfl
section
variable {w : World} {K : PySem.W.Frag} {mg : Str → Option Value} {base : Heap}
def sp_is_sign : SD := fun ds P => ∃ p : Int × Int, ds = [prD p] ∧ P (.bl true)
theorem ok_is_sign (T : Txt K mg) : FnOk Prog w K mg base CX0 2 T.is_sign.f T.is_sign.fd ["value"] (SpD K sp_is_sign) := by
  have G_is_integer : FnOk Prog w K mg base CX0 1 T.is_integer.f T.is_integer.fd _ _ := ok_is_integer T
  refine okD T.is_sign.fu sc_is_sign (fun ds P ⟨p, q, _⟩ => by rw [q]; rfl) (fun cdv A outer s H E Fm hr =>
    (dss_one (ds_ret (de_and (de_isiK K (by rfl) T.b_isinstance (de_var 0) (de_bltn (n := "tuple") (by rfl) T.b_tuple (by decide +kernel))) (de_and (de_cmp (op_eq2 hr.units) lr_eq (de_len (by rfl) T.b_len (de_var 0)) de_int) (de_and (de_call (G_is_integer) (hr.mono (by decide)) (by rfl) T.is_integer.mgf T.is_integer.fu.kp T.is_integer.bi .nil (fun _ => .nil) (da_cons (de_ix (de_var 0) de_int) da_nil)) (de_one (de_call (G_is_integer) (hr.mono (by decide)) (by rfl) T.is_integer.mgf T.is_integer.fu.kp T.is_integer.bi .nil (fun _ => .nil) (da_cons (de_ix (de_var 0) de_int) da_nil))))))))) (fun ds Q ⟨p, q, h2⟩ => ?_)
  subst q
  walk_at "dl"
  refine ⟨plain_ok rfl, _, kit_tuple rfl, ?_⟩
  simp only [isTupD]
  walk_at "dl"
  refine ⟨_, rfl, rfl, ?_⟩
  simp only [isIntD]
  walk_at "dl"
  refine ⟨_, rfl, rfl, ?_⟩
  simp only [isIntD]
  exact h2
def wordM (b : Blk) (ws : List (Int × Int)) (o p t f : Int) : Bool := lettersAll b ws && goM b (cntA b ws) (cntC b ws) o p t f
def sp_is_word (CB CE : Addr) : SD := fun ds P => ∃ (b : Blk) (ws : List (Int × Int)) (o p t f : Int), ds = [.ins CB (b.F CE), .tup (ws.map prD)] ∧ BlkOk b ∧ EntOk b.e ∧ b.spans[b.bottom]? = some (some (o, p)) ∧ b.spans[b.top]? = some (some (t, f)) ∧ (ws.length : Int) = b.e.count ∧ ws.length ≤ 900 ∧ P (.bl (wordM b ws o p t f))
theorem ok_is_word (T : Txt K mg) : FnOk Prog w K mg base CX0 5 T.is_word.f T.is_word.fd ["block", "value"] (SpD K (sp_is_word T.a_Block T.a_Entry)) := by
  have G_is_sign : FnOk Prog w K mg base CX0 2 T.is_sign.f T.is_sign.fd _ _ := ok_is_sign T
  have G_Block_none : FnOk Prog w K mg base CX0 1 T.Block_none.f T.Block_none.fd _ _ := ok_none T
  have G_Block_letters : FnOk Prog w K mg base CX0 1 T.Block_letters.f T.Block_letters.fd _ _ := ok_letters T
  have G_Block_behind : FnOk Prog w K mg base CX0 2 T.Block_behind.f T.Block_behind.fd _ _ := ok_behind T
  have G_Block_goes_on : FnOk Prog w K mg base CX0 4 T.Block_goes_on.f T.Block_goes_on.fd _ _ := ok_goes_on T
  refine okD T.is_word.fu sc_is_word (fun ds P ⟨b, ws, o, p, t, f, q, _⟩ => by rw [q]; rfl) (fun cdv A outer s H E Fm hr =>
    (dss_cons (ds_if (dt_w (dw_or (dt_not (dt_val (de_isiK K (by rfl) T.b_isinstance (de_var 1) (de_bltn (n := "tuple") (by rfl) T.b_tuple (by decide +kernel))))) (dw_or (dt_cmp (op_ne2 hr.units) lr_ne (de_len (by rfl) T.b_len (de_var 1)) (de_fldK K (de_var 0))) (dw_or1 (dt_not (dt_val (de_callB (cr_all rfl) lr_all (by rfl) T.b_all (by decide +kernel) (da_cons (de_new (dn_lc (own := [("one", 5)]) rfl sc_is_word.nd (di_seq (de_var 1)) (blkOk_by (by kernel_rfl)) (fun _ _ _ _ _ _ => (dg_name (i := 5) sc_is_word.nd rfl (by first | exact Or.inl rfl | exact Or.inr rfl))) (fun _ _ _ _ _ _ => dts_nil) (fun _ _ _ _ _ _ => (de_call (G_is_sign) (hr.mono (by decide)) (by rfl) T.is_sign.mgf T.is_sign.fu.kp T.is_sign.bi .nil (fun _ => .nil) (da_cons (de_var 5) da_nil))))) da_nil)))))))) (dss_one (ds_ret de_bl)) dss_nil)
      (dss_cons (ds_set (i := 2) sc_is_word.nd rfl (by first | exact Or.inl rfl | exact Or.inr rfl) (de_meth0 (de_var 0) T.C_Block.c T.Block_none.mt (G_Block_none) (hr.mono (by decide)) T.Block_none.bi .nil (fun _ => .nil)))
      (dss_cons (ds_for PassesOwn.never rfl (di_enumq (by rfl) T.b_enumerate (de_var 1)) (dg_tup (n := 2) rfl (dgs_cons (dg_name (i := 3) sc_is_word.nd rfl (by first | exact Or.inl rfl | exact Or.inr rfl)) (dgs_cons (dg_name (i := 4) sc_is_word.nd rfl (by first | exact Or.inl rfl | exact Or.inr rfl)) dgs_nil))) (dss_cons (ds_if (dt_cmp (op_notInD (un65 hr)) lr_notIn (de_var 4) (de_meth (de_var 0) T.C_Block.c T.Block_letters.mt (G_Block_letters) (hr.mono (by decide)) T.Block_letters.bi .nil (fun _ => .nil) (da_cons (de_var 3) da_nil))) (dss_one (ds_ret de_bl)) dss_nil)
      (dss_one (ds_set (i := 2) sc_is_word.nd rfl (by first | exact Or.inl rfl | exact Or.inr rfl) (de_meth (de_var 0) T.C_Block.c T.Block_behind.mt (G_Block_behind) (hr.mono (by decide)) T.Block_behind.bi .nil (fun _ => .nil) (da_cons (de_var 3) (da_cons (de_var 2) (da_cons (de_var 4) da_nil))))))))
      (dss_one (ds_ret (de_meth (de_var 0) T.C_Block.c T.Block_goes_on.mt (G_Block_goes_on) (hr.mono (by decide)) T.Block_goes_on.bi .nil (fun _ => .nil) (da_cons (de_var 2) da_nil)))))))) (fun ds Q ⟨b, ws, o, p, t, f, q, ok, eo, hb, ht, hn, hz, h2⟩ => ?_)
  subst q
  refine seq_cut fun B hB => ?_
  walk_at "dl"
  refine ⟨plain_ok rfl, _, kit_tuple rfl, ?_⟩
  simp only [isTupD]
  walk_at "dl"
  rw [List.length_map, decide_eq_true hn]
  walk_at "dl"
  refine dLc_mapA (sl1 := ?_) ws prD (fun _ => .bl true) (fun Q h => ?_) ?_ ?_ (by rw [sizeLine_eq]; omega) (fun z hz Q1 h => ?_) ?_
  rotate_left
  · walk_at "dl"
    exact h
  · exact no_of rfl
  · exact len_of rfl
  · walk_at "dl"
    exact ⟨z, rfl, h⟩
  · refine ⟨_, bools_mapf _ _, ?_⟩
    have al : (ws.map fun _ => true).all id = true := by simp
    rw [al]
    walk_at "dl"
    subst hB
    refine seq_cut fun B hB => ?_
    walk_at "dl"
    refine ⟨b, rfl, ok, ?_⟩
    subst hB
    refine seq_cut fun B hB => ?_
    have ca0 : cntA b (ws.take 0) = List.replicate b.spans.length 0 := rfl
    have cc0 : cntC b (ws.take 0) = List.replicate b.steps.length 0 := rfl
    refine dFor_of (sl1 := ?_) (items := enumD (ws.map prD)) (fun i sl => ∃ g s u, sl = [.sh (.ins T.a_Block (b.F T.a_Entry)), .sh (.tup (ws.map prD)), .sh (cntD (cntA b (ws.take i)) (cntC b (ws.take i))), g, s, u] ∧ ∀ (j : Nat) (s : Int × Int), (ws.take i)[j]? = some s → s ∈ lettersM b j) (fun Q h => ?_) ?_ ?_ ?_
    rotate_left
    · walk_at "dl"
      exact h
    · exact ⟨_, _, _, rfl, fun j s h => by cases j <;> cases h⟩
    · rintro i x sl hi ⟨g, s, u, rfl, hall⟩
      rw [enumD_map, List.getElem?_map] at hi
      obtain ⟨⟨sg, i'⟩, hi1, rfl⟩ := Option.map_eq_some_iff.mp hi
      obtain ⟨hi2, rfl⟩ : ws[i]? = some sg ∧ i' = i := by
        rw [List.getElem?_zipIdx] at hi1
        obtain ⟨a, h1, h2⟩ := Option.map_eq_some_iff.mp hi1
        injection h2 with h2 h3
        subst h2
        exact ⟨h1, by omega⟩
      have li : i' < ws.length := (List.getElem?_eq_some_iff.mp hi2).1
      have tk : ws.take (i' + 1) = ws.take i' ++ [sg] := by rw [List.take_add_one, hi2]; rfl
      have tl : (ws.take i').length = i' := by rw [List.length_take]; omega
      refine seq_cutG fun B hB => ?_
      simp only [cntD]
      unfold gTp gCn
      simp only [dSeq, dIfS, dTest, dOp, rdLt, rdLe, rdGt, rdGe, rdEq, rdNe, rdI0, rdI, rdPlus, rdTimes, rdIsN, rdNotN, rdIsB, rdIsi, dIsiT, dVar, dC, dRet, dRetN, dNext, dNever, dDrop, dAsg, dSetN, gNm, gTp, gCn, gNl, dCB, dCall, dCallM, dCons, dNil, dStar, dTup, rdInt, rdAbs, rdLen, rdBool, rdReprF, rdTuple, rdAll, rdAny, rdSum, rdSumA, rdMax2, rdMin2, dLenB, dIxB, gSb, dAnd, dOr, dNot, dAndV, dOrV, dNotV, dIf, dChain, dChain3, dUn, rdIx, dShare, dLst, dPar, dPar3, dFld, dFldI, dFset, gFs, dMeth, dMake, dSl, dNoP, dPart, dAug, dYes, dApp, dPop, dPopAt, wipeS, backS, iSq, iLs, iTp, iEnq, iZq, iRg1, iRg2, tI, prD, spansD, vcuts, startS, startM, startI, lstAt, setLst, D.cv, D.cvs, D.isNon, D.seq, atI_0, atI_1, atI_2, atI_3, atI_4, atI_5, atI_6, Int.cast_ofNat_Int, Int.natCast_one, Int.natCast_zero, Int.reduceEq, Int.reduceLE, Int.reduceLT, decide_true, decide_false, List.getElem?_cons_succ, List.getElem?_cons_zero, List.length_cons, List.length_nil, List.map_cons, List.map_nil, List.cons_append, List.nil_append, List.append_nil, Nat.reduceAdd, Nat.reduceSub, List.replicate, Option.some.injEq, exists_eq_left', exists_eq_left, exists_eq', exists_and_left, exists_and_right, true_and, and_true, List.set_cons_zero, List.set_cons_succ, decide_eq_true_eq, Option.bind_some, Option.map_some, reduceIte, if_true, if_false, Bool.false_eq_true, Bool.not_true, Bool.not_false, Sl.io.injEq, Sl.sh.injEq, FOe_bits, entF_bits, FOe_count, entF_count, FOe_first, entF_first, FOe_last, entF_last, FOe_total, entF_total, FOe_least, entF_least, FOe_greatest, entF_greatest, FOe_parts, entF_parts, FOb_entry, FOb_many, FOb_first, FOb_length, FOb_spans, FOb_steps, FOb_bottom, FOb_top, FOb_inner, blkF_entry, blkF_many, blkF_first, blkF_length, blkF_spans, blkF_steps, blkF_bottom, blkF_top, blkF_inner, blkF_no_none, blkF_no_letters, blkF_no_behind, blkF_no_wanted, blkF_no_values_go_on, blkF_no_gaps_go_on, blkF_no_goes_on, rdIn]
      refine ⟨b, i', rfl, ok, ?_⟩
      refine ⟨pyP sg, rfl, (lettersM b i').map pyP, by rw [D.py, pys_prs]; rfl, rfl, shp_lp _, ?_⟩
      rw [any_p]
      by_cases hl : sg ∈ lettersM b i'
      · rw [decide_eq_true hl]
        walk_at "dl"
        subst hB
        obtain ⟨l1, l2, l3⟩ := letter_lt hl
        walk_at "dl"
        refine ⟨b, i', cntA b (ws.take i'), cntC b (ws.take i'), sg.1.toNat, sg.2, by rw [l1]; rfl, ?_, ?_, ?_, ?_, ?_⟩
        · rw [cntA_len, spans_len]; have := ok.v; omega
        · rw [cntC_len, steps_len]; have := ok.g; omega
        · rw [cntA_len]; exact l2
        · intro h0; rw [cntC_len]; exact l3 h0
        · refine ⟨⟨_, _, _, by rw [tk, cntA_snoc, cntC_snoc, tl]; rfl⟩, fun j s hj => ?_⟩
          rw [tk] at hj
          by_cases h3 : j < i'
          · rw [List.getElem?_append_left (by rw [tl]; exact h3)] at hj
            exact hall j s hj
          · rw [List.getElem?_append_right (by rw [tl]; omega), tl] at hj
            obtain h4 | h4 : j - i' = 0 ∨ 0 < j - i' := by omega
            · rw [h4] at hj
              injection hj with hj
              subst hj
              have : j = i' := by omega
              subst this
              exact hl
            · rw [List.getElem?_eq_none (by simp only [List.length_singleton]; omega)] at hj
              cases hj
      · rw [decide_eq_false hl]
        walk_at "dl"
        have : wordM b ws o p t f = false := by
          unfold wordM lettersAll
          have : (ws.zipIdx.all fun p => decide (p.1 ∈ lettersM b p.2)) = false := by
            rw [List.all_eq_false]
            exact ⟨(sg, i'), List.mem_of_getElem? hi1, by simpa using hl⟩
          rw [this]
          rfl
        rw [this] at h2
        exact h2
    · rintro sl ⟨g, s, u, rfl, hall⟩
      rw [show (enumD (ws.map prD)).length = ws.length by rw [enumD_map, List.length_map, List.length_zipIdx], List.take_length] at hall ⊢
      subst hB
      have la : lettersAll b ws = true := by
        unfold lettersAll
        rw [List.all_eq_true]
        rintro ⟨s, j⟩ hj
        exact decide_eq_true (hall j s (List.mem_zipIdx_iff_getElem?.mp hj))
      have lt : ∀ s ∈ ws, s.1.toNat < b.spans.length := fun s hs => by
        obtain ⟨j, hj⟩ := List.mem_iff_getElem?.mp hs
        exact (letter_lt (hall j s hj)).2.1
      have lt2 : ∀ s ∈ ws.drop 1, s.2.toNat < b.steps.length := fun s hs => by
        obtain ⟨j, hj⟩ := List.mem_iff_getElem?.mp hs
        rw [List.getElem?_drop] at hj
        exact ((letter_lt (hall _ s hj)).2.2 (by omega)).2
      have sa : (cntA b ws).sum = ws.length := by
        unfold cntA
        rw [fold_sum (fun s => s.1.toNat) _ _ (fun s hs => by rw [List.length_replicate]; exact lt s hs), rep_sum]
        omega
      have sc : (cntC b ws).sum = (ws.length : Int) - 1 := by
        unfold cntC
        have := eo.c2
        rw [fold_sum (fun s => s.2.toNat) _ _ (fun s hs => by rw [List.length_replicate]; exact lt2 s hs), rep_sum, List.length_drop]
        omega
      have na : ∀ x ∈ cntA b ws, 0 ≤ x := fold_nn (fun s => s.1.toNat) _ _ (rep_nn _)
      have nc : ∀ x ∈ cntC b ws, 0 ≤ x := fold_nn (fun s => s.2.toNat) _ _ (rep_nn _)
      unfold wordM at h2
      rw [la, Bool.true_and] at h2
      walk_at "dl"
      refine ⟨b, _, _, o, p, t, f, rfl, ok, eo, hb, ht, cntA_len b ws, fun x hx => ⟨na x hx, ?_⟩, by rw [sa, hn], cntC_len b ws, fun x hx => ⟨nc x hx, ?_⟩, by rw [sc, hn], h2⟩
      · have := le_sum na x hx
        omega
      · have := le_sum nc x hx
        omega
end
end K21
end
section
set_option maxRecDepth 100000
set_option maxHeartbeats 4000000
namespace K21
open PySem PySem.Spec PyProof.Rows L2 RZ StX NdefX DL
local macro_rules | `(tactic| walk_at "dl") => `(tactic| simp only [dSeq, dIfS, dTest, dOp, rdLt, rdLe, rdGt, rdGe, rdEq, rdNe, rdI0, rdI, rdPlus, rdTimes, rdIsN, rdNotN, rdIsB, rdIsi, dIsiT, dVar, dC, dRet, dRetN, dNext, dNever, dDrop, dAsg, dSetN, gNm, gTp, gCn, gNl, dCB, dCall, dCallM, dCons, dNil, dStar, dTup, rdInt, rdAbs, rdLen, rdBool, rdReprF, rdTuple, rdAll, rdAny, rdSum, rdSumA, rdMax2, rdMin2, dLenB, dIxB, gSb, dAnd, dOr, dNot, dAndV, dOrV, dNotV, dIf, dChain, dChain3, dUn, rdIx, dShare, dLst, dPar, dPar3, dParN1, dParN2, dParNN, dList, dAugS, dAsg2, dFld, dFldI, dFset, gFs, dMeth, dMake, dSl, dNoP, dPart, dAug, dYes, dApp, dPop, dPopAt, wipeS, backS, iSq, iLs, iTp, iEnq, iZq, iRg1, iRg2, tI, prD, spansD, vcuts, startS, startM, startI, lstAt, setLst, D.cv, D.cvs, D.isNon, D.seq, atI_0, atI_1, atI_2, atI_3, atI_4, atI_5, atI_6, Int.cast_ofNat_Int, Int.natCast_one, Int.natCast_zero, Int.reduceEq, Int.reduceLE, Int.reduceLT, decide_true, decide_false, List.getElem?_cons_succ, List.getElem?_cons_zero, List.length_cons, List.length_nil, List.map_cons, List.map_nil, List.cons_append, List.nil_append, List.append_nil, Nat.reduceAdd, Nat.reduceSub, List.replicate, Option.some.injEq, exists_eq_left', exists_eq_left, exists_eq', exists_and_left, exists_and_right, true_and, and_true, List.set_cons_zero, List.set_cons_succ, decide_eq_true_eq, Option.bind_some, Option.map_some, reduceIte, if_true, if_false, Bool.false_eq_true, Bool.not_true, Bool.not_false, Sl.io.injEq, Sl.sh.injEq, FOe_bits, entF_bits, FOe_count, entF_count, FOe_first, entF_first, FOe_last, entF_last, FOe_total, entF_total, FOe_least, entF_least, FOe_greatest, entF_greatest, FOe_parts, entF_parts, FOb_entry, FOb_many, FOb_first, FOb_length, FOb_spans, FOb_steps, FOb_bottom, FOb_top, FOb_inner, blkF_entry, blkF_many, blkF_first, blkF_length, blkF_spans, blkF_steps, blkF_bottom, blkF_top, blkF_inner, blkF_no_none, blkF_no_letters, blkF_no_behind, blkF_no_wanted, blkF_no_values_go_on, blkF_no_gaps_go_on, blkF_no_goes_on])

theorem ixN_nat {n k : Nat} (h : k < n) : ixN n (k : Int) = some k := by
  unfold ixN
  rw [if_pos (by omega), if_pos (by omega), Int.toNat_natCast]
/-! spread: what is left goes to the first ones that let it -/
def minI (i j : Int) : Int := if j < i then j else i
def sprR : List (Int × Int) → Int → Int
  | [], r => r
  | z :: zs, r => sprR zs (r - minI r (z.2 - z.1))
def sprL : List (Int × Int) → Int → List Int
  | [], _ => []
  | z :: zs, r => (z.1 + minI r (z.2 - z.1)) :: sprL zs (r - minI r (z.2 - z.1))
theorem sprR_snoc : ∀ (zs : List (Int × Int)) (z : Int × Int) (r : Int), sprR (zs ++ [z]) r = sprR zs r - minI (sprR zs r) (z.2 - z.1)
  | [], _, _ => rfl
  | y :: zs, z, r => sprR_snoc zs z _
theorem sprL_snoc : ∀ (zs : List (Int × Int)) (z : Int × Int) (r : Int), sprL (zs ++ [z]) r = sprL zs r ++ [z.1 + minI (sprR zs r) (z.2 - z.1)]
  | [], _, _ => rfl
  | y :: zs, z, r => by
    rw [List.cons_append, sprL, sprL_snoc zs z]
    rfl
theorem sprL_len : ∀ (zs : List (Int × Int)) (r : Int), (sprL zs r).length = zs.length
  | [], _ => rfl
  | z :: zs, r => by rw [sprL, List.length_cons, List.length_cons, sprL_len zs]
def sprM (zs : List (Int × Int)) (total : Int) : List Int := sprL zs (total - (zs.map Prod.fst).sum)
theorem seq_if {c : DT} {t u b : DS} {N : DN} {sl : List Sl} (h : ∀ B, B = t → dSeq (dIfS c B u) b N sl) : dSeq (dIfS c t u) b N sl := h _ rfl
def moms : Int → List Int → List Int
  | x, [] => [x]
  | x, g :: gs => x :: moms (x + g) gs
theorem moms_snoc : ∀ (gs : List Int) (x g : Int), moms x (gs ++ [g]) = moms x gs ++ [x + gs.sum + g]
  | [], x, g => by simp [moms]
  | y :: gs, x, g => by rw [List.cons_append, moms, moms_snoc gs, moms, List.sum_cons, List.cons_append, Int.add_assoc x y]
theorem moms_end (gs : List Int) (x : Int) : ∃ pre, moms x gs = pre ++ [x + gs.sum] := by
  induction gs generalizing x with
  | nil => exact ⟨[], by simp [moms]⟩
  | cons g gs ih =>
    obtain ⟨pre, h⟩ := ih (x + g)
    exact ⟨x :: pre, by rw [moms, h, List.sum_cons, List.cons_append, Int.add_assoc]⟩
theorem moms_len (gs : List Int) (x : Int) : (moms x gs).length = gs.length + 1 := by
  induction gs generalizing x with
  | nil => rfl
  | cons g gs ih => rw [moms, List.length_cons, ih, List.length_cons]
theorem atI_m1 {α : Type} (xs : List α) (y : α) : atI (xs ++ [y]) (-1) = some y := by
  unfold atI ixN
  rw [if_neg (by decide), if_pos (by rw [List.length_append, List.length_singleton]; omega), Option.bind_some, List.length_append, List.length_singleton, show ((-1 : Int) + ((xs.length + 1 : Nat) : Int)).toNat = xs.length by omega, List.getElem?_append_right (Nat.le_refl _), Nat.sub_self]
  rfl
def spanOf (b : Blk) (k : Int) : Int × Int := (b.spans.getD k.toNat none).getD (0, 0)
def stepOf (b : Blk) (k : Int) : Int × Int := (b.steps.getD k.toNat none).getD (0, 0)
theorem at_opt {l : List (Option (Int × Int))} {k : Int} (h0 : 0 ≤ k) (h : ∃ p, l[k.toNat]? = some (some p)) : atI (l.map spD) k = some (prD ((l.getD k.toNat none).getD (0, 0))) := by
  obtain ⟨p, hp⟩ := h
  have e : (l.getD k.toNat none).getD (0, 0) = p := by rw [List.getD_eq_getElem?_getD, hp]; rfl
  rw [e]
  have := atI_nat (xs := l.map spD) (k := k.toNat) (x := prD p) (by rw [List.getElem?_map, hp]; rfl)
  rw [Int.toNat_of_nonneg h0] at this
  exact this
def spotsM (b : Blk) (ws : List (Int × Int)) (low : Nat) : List Nat := ws.zipIdx.filterMap fun p => if p.1.1 = (b.top : Int) ∧ p.2 ≠ low then some p.2 else none
def valsZ (b : Blk) (ws : List (Int × Int)) (low sp : Nat) : List (Int × Int) :=
  let zs := (ws.map fun s => spanOf b s.1).set low (b.e.least, b.e.least)
  if b.e.least < b.e.greatest then zs.set sp (b.e.greatest, b.e.greatest) else zs
section
variable {w : World} {K : PySem.W.Frag} {mg : Str → Option Value} {base : Heap}
def lI (l : List Int) : D := .lst (l.map D.int)
def sp_spread : SD := fun ds P => ∃ (zs : List (Int × Int)) (total : Int), ds = [lI (zs.map Prod.fst), lI (zs.map Prod.snd), .int total] ∧ zs.length ≤ 1000 ∧ P (lI (sprM zs total))
theorem ok_spread (T : Txt K mg) : FnOk Prog w K mg base CX0 1 T.spread.f T.spread.fd ["numbers", "tops", "total"] (SpD K sp_spread) := by
  refine okD T.spread.fu sc_spread (fun ds P ⟨zs, total, q, _⟩ => by rw [q]; rfl) (fun cdv A outer s H E Fm hr =>
    (dss_cons (ds_parN1 (i := 3) (j := 4) rfl sc_spread.nd rfl rfl (by decide) rfl rfl (dn_list (by rfl) T.b_list (de_var 0)) (fun _ => (de_sub (de_var 2) (de_callB (cr_sumA rfl) lr_sumA (by rfl) T.b_sum (by decide +kernel) (da_cons (de_var 0) da_nil)))) (by rfl))
      (dss_cons (ds_for PassesOwn.never rfl (di_enumq (by rfl) T.b_enumerate (de_var 1)) (dg_tup (n := 2) rfl (dgs_cons (dg_name (i := 5) sc_spread.nd rfl (by first | exact Or.inl rfl | exact Or.inr rfl)) (dgs_cons (dg_name (i := 6) sc_spread.nd rfl (by first | exact Or.inl rfl | exact Or.inr rfl)) dgs_nil))) (dss_cons (ds_set (i := 7) sc_spread.nd rfl (by first | exact Or.inl rfl | exact Or.inr rfl) (de_callB (call_min2 rfl) lr_min2 (by rfl) T.b_min (by decide +kernel) (da_cons (de_var 4) (da_cons (de_sub (de_var 6) (de_ixB 3 (de_var 5))) da_nil))))
      (dss_cons (ds_augS 3 (de_var 5) ip_add (de_var 7))
      (dss_one (ds_aug (i := 4) sc_spread.nd rfl (by first | exact Or.inl rfl | exact Or.inr rfl) ip_sub (de_var 7))))))
      (dss_one (ds_ret (de_var 3)))))) (fun ds Q ⟨zs, total, q, hz, h2⟩ => ?_)
  subst q
  simp only [lI] at h2 ⊢
  refine seq_cut fun B hB => ?_
  walk_at "dl"
  refine ⟨_, DL.ints_map _, ?_⟩
  subst hB
  refine seq_cut fun B hB => ?_
  refine dFor_of (sl1 := ?_) (items := enumD ((zs.map Prod.snd).map D.int)) (fun i sl => ∃ a t m, sl = [.sh (lI (zs.map Prod.fst)), .sh (lI (zs.map Prod.snd)), .sh (.int total), .ow ((sprL (zs.take i) (total - (zs.map Prod.fst).sum) ++ (zs.drop i).map Prod.fst).map D.int), .sh (.int (sprR (zs.take i) (total - (zs.map Prod.fst).sum))), a, t, m]) (fun Q h => ?_) ?_ ?_ ?_
  rotate_left
  · walk_at "dl"
    exact h
  · exact ⟨_, _, _, rfl⟩
  · rintro i x sl hi ⟨a, t, m, rfl⟩
    rw [enumD_map, List.getElem?_map] at hi
    obtain ⟨⟨top, i'⟩, hi1, rfl⟩ := Option.map_eq_some_iff.mp hi
    rw [List.getElem?_zipIdx, List.getElem?_map] at hi1
    obtain ⟨tp', h1, h2'⟩ := Option.map_eq_some_iff.mp hi1
    obtain ⟨z, hz1, rfl⟩ := Option.map_eq_some_iff.mp h1
    injection h2' with e1 e2
    subst e1
    obtain rfl : i' = i := by omega
    have li : i' < zs.length := (List.getElem?_eq_some_iff.mp hz1).1
    have tk : zs.take (i' + 1) = zs.take i' ++ [z] := by rw [List.take_add_one, hz1]; rfl
    have dr : zs.drop i' = z :: zs.drop (i' + 1) := by
      rw [List.drop_eq_getElem_cons li]
      congr 1
      exact (List.getElem?_eq_some_iff.mp hz1).2
    generalize total - (zs.map Prod.fst).sum = r0
    have pl : (sprL (zs.take i') r0).length = i' := by rw [sprL_len, List.length_take]; omega
    have cur : atI ((sprL (zs.take i') r0 ++ (zs.drop i').map Prod.fst).map D.int) (i' : Int) = some (.int z.1) := atI_nat (by
      rw [List.getElem?_map, List.getElem?_append_right (by omega), pl, Nat.sub_self, dr]; rfl)
    have ln : ((sprL (zs.take i') r0 ++ (zs.drop i').map Prod.fst).map D.int).length = zs.length := by
      rw [List.length_map, List.length_append, pl, List.length_map, List.length_drop]; omega
    simp only [dSeq, dIfS, dTest, dOp, rdLt, rdLe, rdGt, rdGe, rdEq, rdNe, rdI0, rdI, rdPlus, rdTimes, rdIsN, rdNotN, rdIsB, rdIsi, dIsiT, dVar, dC, dRet, dRetN, dNext, dNever, dDrop, dAsg, dSetN, gNm, gTp, gCn, gNl, dCB, dCall, dCallM, dCons, dNil, dStar, dTup, rdInt, rdAbs, rdLen, rdBool, rdReprF, rdTuple, rdAll, rdAny, rdSum, rdSumA, rdMax2, rdMin2, dLenB, dIxB, gSb, dAnd, dOr, dNot, dAndV, dOrV, dNotV, dIf, dChain, dChain3, dUn, rdIx, dShare, dLst, dPar, dPar3, dParN1, dParN2, dParNN, dList, dAugS, dAsg2, dFld, dFldI, dFset, gFs, dMeth, dMake, dSl, dNoP, dPart, dAug, dYes, dApp, dPop, dPopAt, wipeS, backS, iSq, iLs, iTp, iEnq, iZq, iRg1, iRg2, tI, prD, spansD, vcuts, startS, startM, startI, lstAt, setLst, D.cv, D.cvs, D.isNon, D.seq, atI_0, atI_1, atI_2, atI_3, atI_4, atI_5, atI_6, Int.cast_ofNat_Int, Int.natCast_one, Int.natCast_zero, Int.reduceEq, Int.reduceLE, Int.reduceLT, decide_true, decide_false, List.getElem?_cons_succ, List.getElem?_cons_zero, List.length_cons, List.length_nil, List.map_cons, List.map_nil, List.cons_append, List.nil_append, List.append_nil, Nat.reduceAdd, Nat.reduceSub, List.replicate, Option.some.injEq, exists_eq_left', exists_eq_left, exists_eq', exists_and_left, exists_and_right, true_and, and_true, List.set_cons_zero, List.set_cons_succ, decide_eq_true_eq, Option.bind_some, Option.map_some, reduceIte, if_true, if_false, Bool.false_eq_true, Bool.not_true, Bool.not_false, Sl.io.injEq, Sl.sh.injEq, FOe_bits, entF_bits, FOe_count, entF_count, FOe_first, entF_first, FOe_last, entF_last, FOe_total, entF_total, FOe_least, entF_least, FOe_greatest, entF_greatest, FOe_parts, entF_parts, FOb_entry, FOb_many, FOb_first, FOb_length, FOb_spans, FOb_steps, FOb_bottom, FOb_top, FOb_inner, blkF_entry, blkF_many, blkF_first, blkF_length, blkF_spans, blkF_steps, blkF_bottom, blkF_top, blkF_inner, blkF_no_none, blkF_no_letters, blkF_no_behind, blkF_no_wanted, blkF_no_values_go_on, blkF_no_gaps_go_on, blkF_no_goes_on, cur]
    have st : ∀ y : Int, (sprL (zs.take i') r0 ++ (zs.drop i').map Prod.fst).set i' y = (sprL (zs.take i') r0 ++ [y]) ++ (zs.drop (i' + 1)).map Prod.fst := fun y => by
      rw [dr, List.set_append_right _ _ (by omega), pl, Nat.sub_self, List.map_cons, List.set_cons_zero]
      simp
    refine ⟨_, rfl, z.1, i', by rw [ln]; exact ixN_nat li, ?_, i', by rw [ln]; exact ixN_nat li, _, rfl, _, _, _, by rw [← List.map_set, st, tk, sprL_snoc, sprR_snoc]; rfl⟩
    rw [List.getElem?_map, List.getElem?_append_right (by omega), pl, Nat.sub_self, dr]; rfl
  · rintro sl ⟨a, t, m, rfl⟩
    rw [show (enumD ((zs.map Prod.snd).map D.int)).length = zs.length by rw [enumD_map, List.length_map, List.length_zipIdx, List.length_map], List.take_length, List.drop_length, List.map_nil, List.append_nil]
    subst hB
    walk_at "dl"
    exact h2
def sp_moments_of (CB CE : Addr) : SD := fun ds P => ∃ (b : Blk) (ws : List (Int × Int)), ds = [.ins CB (b.F CE), .tup (ws.map prD)] ∧ ws.length ≤ 900 ∧ (∀ s ∈ ws.drop 1, 0 ≤ s.2 ∧ ∃ p, b.steps[s.2.toNat]? = some (some p)) ∧ P (lI (moms b.e.first (sprM ((ws.drop 1).map fun s => stepOf b s.2) (b.e.last - b.e.first))))
theorem ok_moments_of (T : Txt K mg) : FnOk Prog w K mg base CX0 2 T.moments_of.f T.moments_of.fd ["block", "word"] (SpD K (sp_moments_of T.a_Block T.a_Entry)) := by
  have G_spread : FnOk Prog w K mg base CX0 1 T.spread.f T.spread.fd _ _ := ok_spread T
  refine okD T.moments_of.fu sc_moments_of (fun ds P ⟨b, ws, q, _⟩ => by rw [q]; rfl) (fun cdv A outer s H E Fm hr =>
    (dss_cons (ds_setLc (i := 2) (own := [("sign", 6)]) rfl sc_moments_of.nd rfl rfl (by rfl) (di_seq (de_sl (de_var 1) (do_some de_int) do_none)) (blkOk_by (by kernel_rfl)) (fun _ _ _ _ _ _ => (dg_name (i := 6) sc_moments_of.nd rfl (by first | exact Or.inl rfl | exact Or.inr rfl))) (fun _ _ _ _ _ _ => dts_nil) (fun _ _ _ _ _ _ => (de_ix (de_fldK K (de_var 0)) (de_ix (de_var 6) de_int))))
      (dss_cons (ds_set (i := 3) sc_moments_of.nd rfl (by first | exact Or.inl rfl | exact Or.inr rfl) (de_call (G_spread) (hr.mono (by decide)) (by rfl) T.spread.mgf T.spread.fu.kp T.spread.bi .nil (fun _ => .nil) (da_cons (de_new (dn_lc (own := [("span", 7)]) rfl sc_moments_of.nd (di_seq (de_var 2)) (blkOk_by (by kernel_rfl)) (fun _ _ _ _ _ _ => (dg_name (i := 7) sc_moments_of.nd rfl (by first | exact Or.inl rfl | exact Or.inr rfl))) (fun _ _ _ _ _ _ => dts_nil) (fun _ _ _ _ _ _ => (de_ix (de_var 7) de_int)))) (da_cons (de_new (dn_lc (own := [("span", 7)]) rfl sc_moments_of.nd (di_seq (de_var 2)) (blkOk_by (by kernel_rfl)) (fun _ _ _ _ _ _ => (dg_name (i := 7) sc_moments_of.nd rfl (by first | exact Or.inl rfl | exact Or.inr rfl))) (fun _ _ _ _ _ _ => dts_nil) (fun _ _ _ _ _ _ => (de_ix (de_var 7) de_int)))) (da_cons (de_fldK K (de_var 0)) da_nil)))))
      (dss_cons (ds_setN (i := 4) sc_moments_of.nd rfl (by first | exact Or.inl rfl | exact Or.inr rfl) (dn_lst (da_cons (de_fldK K (de_fldK K (de_var 0))) da_nil)))
      (dss_cons (ds_for PassesOwn.never rfl (di_seq (de_var 3)) (dg_name (i := 5) sc_moments_of.nd rfl (by first | exact Or.inl rfl | exact Or.inr rfl)) (dss_one (ds_expr (de_app 4 (de_plus (de_ixB 4 (de_neg de_int)) (de_var 5))))))
      (dss_one (ds_ret (de_var 4)))))))) (fun ds Q ⟨b, ws, q, hz, hs, h2⟩ => ?_)
  subst q
  simp only [lI] at h2
  refine seq_cut fun B hB => ?_
  walk_at "dl"
  have dl : (ws.drop 1).length ≤ 900 := by rw [List.length_drop]; omega
  refine dLc_mapA (sl1 := ?_) (ws.drop 1) prD (fun s => prD (stepOf b s.2)) (fun Q h => ?_) ?_ ?_ (by rw [sizeLine_eq]; omega) (fun z hz Q1 h => ?_) ?_
  rotate_left
  · walk_at "dl"
    rw [show (1 : Int) = ((1 : Nat) : Int) from rfl, cut_from, ← List.map_drop]
    exact h
  · exact no_of rfl
  · exact len_of rfl
  · obtain ⟨h0, hp⟩ := hs z hz
    have ea := at_opt h0 hp
    simp only [dSeq, dIfS, dTest, dOp, rdLt, rdLe, rdGt, rdGe, rdEq, rdNe, rdI0, rdI, rdPlus, rdTimes, rdIsN, rdNotN, rdIsB, rdIsi, dIsiT, dVar, dC, dRet, dRetN, dNext, dNever, dDrop, dAsg, dSetN, gNm, gTp, gCn, gNl, dCB, dCall, dCallM, dCons, dNil, dStar, dTup, rdInt, rdAbs, rdLen, rdBool, rdReprF, rdTuple, rdAll, rdAny, rdSum, rdSumA, rdMax2, rdMin2, dLenB, dIxB, gSb, dAnd, dOr, dNot, dAndV, dOrV, dNotV, dIf, dChain, dChain3, dUn, rdIx, dShare, dLst, dPar, dPar3, dParN1, dParN2, dParNN, dList, dAugS, dAsg2, dFld, dFldI, dFset, gFs, dMeth, dMake, dSl, dNoP, dPart, dAug, dYes, dApp, dPop, dPopAt, wipeS, backS, iSq, iLs, iTp, iEnq, iZq, iRg1, iRg2, tI, prD, spansD, vcuts, startS, startM, startI, lstAt, setLst, D.cv, D.cvs, D.isNon, D.seq, atI_0, atI_1, atI_2, atI_3, atI_4, atI_5, atI_6, Int.cast_ofNat_Int, Int.natCast_one, Int.natCast_zero, Int.reduceEq, Int.reduceLE, Int.reduceLT, decide_true, decide_false, List.getElem?_cons_succ, List.getElem?_cons_zero, List.length_cons, List.length_nil, List.map_cons, List.map_nil, List.cons_append, List.nil_append, List.append_nil, Nat.reduceAdd, Nat.reduceSub, List.replicate, Option.some.injEq, exists_eq_left', exists_eq_left, exists_eq', exists_and_left, exists_and_right, true_and, and_true, List.set_cons_zero, List.set_cons_succ, decide_eq_true_eq, Option.bind_some, Option.map_some, reduceIte, if_true, if_false, Bool.false_eq_true, Bool.not_true, Bool.not_false, Sl.io.injEq, Sl.sh.injEq, FOe_bits, entF_bits, FOe_count, entF_count, FOe_first, entF_first, FOe_last, entF_last, FOe_total, entF_total, FOe_least, entF_least, FOe_greatest, entF_greatest, FOe_parts, entF_parts, FOb_entry, FOb_many, FOb_first, FOb_length, FOb_spans, FOb_steps, FOb_bottom, FOb_top, FOb_inner, blkF_entry, blkF_many, blkF_first, blkF_length, blkF_spans, blkF_steps, blkF_bottom, blkF_top, blkF_inner, blkF_no_none, blkF_no_letters, blkF_no_behind, blkF_no_wanted, blkF_no_values_go_on, blkF_no_gaps_go_on, blkF_no_goes_on, ea]
    exact h
  · subst hB
    refine seq_cut fun B hB => ?_
    have se : (ws.drop 1).map (fun s => prD (stepOf b s.2)) = ((ws.drop 1).map fun s => stepOf b s.2).map prD := by rw [List.map_map]; rfl
    rw [se]
    have sl : ((ws.drop 1).map fun s => stepOf b s.2).length ≤ 900 := by rw [List.length_map]; exact dl
    generalize ((ws.drop 1).map fun s => stepOf b s.2) = ss at h2 sl ⊢
    walk_at "dl"
    refine dLc_mapA (sl1 := ?_) ss prD (fun s => .int s.1) (fun Q h => ?_) ?_ ?_ (by rw [sizeLine_eq]; omega) (fun z hz Q1 h => ?_) ?_
    rotate_left
    · walk_at "dl"
      exact h
    · exact no_of rfl
    · exact len_of rfl
    · walk_at "dl"
      exact h
    · refine dLc_mapA (sl1 := ?_) ss prD (fun s => .int s.2) (fun Q h => ?_) ?_ ?_ (by rw [sizeLine_eq]; omega) (fun z hz Q1 h => ?_) ?_
      rotate_left
      · walk_at "dl"
        exact h
      · exact no_of rfl
      · exact len_of rfl
      · walk_at "dl"
        exact h
      · refine ⟨T.f_Block "length" (by decide), _, rfl, ?_⟩
        refine ⟨ss, b.e.last - b.e.first, by simp only [lI, List.map_map]; rfl, by omega, ?_⟩
        have gl : (sprM ss (b.e.last - b.e.first)).length ≤ 900 := by unfold sprM; rw [sprL_len]; exact sl
        generalize sprM ss (b.e.last - b.e.first) = gaps at h2 gl ⊢
        simp only [lI]
        walk_at "dl"
        subst hB
        refine seq_cut fun B hB => ?_
        walk_at "dl"
        refine ⟨by decide, ?_⟩
        subst hB
        refine seq_cut fun B hB => ?_
        refine dFor_of (sl1 := ?_) (items := gaps.map D.int) (fun i sl => ∃ g u v, sl = [.sh (.ins T.a_Block (b.F T.a_Entry)), .sh (.tup (ws.map prD)), .sh (.lst (ss.map prD)), .sh (.lst (gaps.map D.int)), .ow ((moms b.e.first (gaps.take i)).map D.int), g, u, v]) (fun Q h => ?_) ?_ ?_ ?_
        rotate_left
        · walk_at "dl"
          exact h
        · exact ⟨_, _, _, rfl⟩
        · rintro i x sl hi ⟨g, u, v, rfl⟩
          rw [List.getElem?_map] at hi
          obtain ⟨x, hx, rfl⟩ := Option.map_eq_some_iff.mp hi
          have li : i < gaps.length := (List.getElem?_eq_some_iff.mp hx).1
          have tk : gaps.take (i + 1) = gaps.take i ++ [x] := by rw [List.take_add_one, hx]; rfl
          obtain ⟨pre, hp⟩ := moms_end (gaps.take i) b.e.first
          have cur : atI ((moms b.e.first (gaps.take i)).map D.int) (-1) = some (.int (b.e.first + (gaps.take i).sum)) := by
            rw [hp, List.map_append]
            exact atI_m1 _ _
          simp only [dSeq, dIfS, dTest, dOp, rdLt, rdLe, rdGt, rdGe, rdEq, rdNe, rdI0, rdI, rdPlus, rdTimes, rdIsN, rdNotN, rdIsB, rdIsi, dIsiT, dVar, dC, dRet, dRetN, dNext, dNever, dDrop, dAsg, dSetN, gNm, gTp, gCn, gNl, dCB, dCall, dCallM, dCons, dNil, dStar, dTup, rdInt, rdAbs, rdLen, rdBool, rdReprF, rdTuple, rdAll, rdAny, rdSum, rdSumA, rdMax2, rdMin2, dLenB, dIxB, gSb, dAnd, dOr, dNot, dAndV, dOrV, dNotV, dIf, dChain, dChain3, dUn, rdIx, dShare, dLst, dPar, dPar3, dParN1, dParN2, dParNN, dList, dAugS, dAsg2, dFld, dFldI, dFset, gFs, dMeth, dMake, dSl, dNoP, dPart, dAug, dYes, dApp, dPop, dPopAt, wipeS, backS, iSq, iLs, iTp, iEnq, iZq, iRg1, iRg2, tI, prD, spansD, vcuts, startS, startM, startI, lstAt, setLst, D.cv, D.cvs, D.isNon, D.seq, atI_0, atI_1, atI_2, atI_3, atI_4, atI_5, atI_6, Int.cast_ofNat_Int, Int.natCast_one, Int.natCast_zero, Int.reduceEq, Int.reduceLE, Int.reduceLT, decide_true, decide_false, List.getElem?_cons_succ, List.getElem?_cons_zero, List.length_cons, List.length_nil, List.map_cons, List.map_nil, List.cons_append, List.nil_append, List.append_nil, Nat.reduceAdd, Nat.reduceSub, List.replicate, Option.some.injEq, exists_eq_left', exists_eq_left, exists_eq', exists_and_left, exists_and_right, true_and, and_true, List.set_cons_zero, List.set_cons_succ, decide_eq_true_eq, Option.bind_some, Option.map_some, reduceIte, if_true, if_false, Bool.false_eq_true, Bool.not_true, Bool.not_false, Sl.io.injEq, Sl.sh.injEq, FOe_bits, entF_bits, FOe_count, entF_count, FOe_first, entF_first, FOe_last, entF_last, FOe_total, entF_total, FOe_least, entF_least, FOe_greatest, entF_greatest, FOe_parts, entF_parts, FOb_entry, FOb_many, FOb_first, FOb_length, FOb_spans, FOb_steps, FOb_bottom, FOb_top, FOb_inner, blkF_entry, blkF_many, blkF_first, blkF_length, blkF_spans, blkF_steps, blkF_bottom, blkF_top, blkF_inner, blkF_no_none, blkF_no_letters, blkF_no_behind, blkF_no_wanted, blkF_no_values_go_on, blkF_no_gaps_go_on, blkF_no_goes_on, cur]
          refine ⟨by rw [List.length_map, moms_len, List.length_take, sizeLine_eq]; omega, ?_⟩
          exact ⟨_, _, _, by rw [tk, moms_snoc, List.map_append]; rfl⟩
        · rintro sl ⟨g, u, v, rfl⟩
          rw [List.length_map, List.take_length]
          subst hB
          walk_at "dl"
          exact h2
def sp_values_of (CB CE : Addr) : SD := fun ds P => ∃ (b : Blk) (ws : List (Int × Int)) (low sp : Nat) (rest : List Nat), ds = [.ins CB (b.F CE), .tup (ws.map prD)] ∧ ws.length ≤ 900 ∧ (∀ s ∈ ws, 0 ≤ s.1 ∧ ∃ p, b.spans[s.1.toNat]? = some (some p)) ∧
  (ws.map Prod.fst)[low]? = some (b.bottom : Int) ∧ (∀ j, j < low → (ws.map Prod.fst)[j]? ≠ some (b.bottom : Int)) ∧ (b.e.least < b.e.greatest → spotsM b ws low = sp :: rest) ∧ P (lI (sprM (valsZ b ws low sp) b.e.total))
theorem ok_values_of (T : Txt K mg) : FnOk Prog w K mg base CX0 2 T.values_of.f T.values_of.fd ["block", "word"] (SpD K (sp_values_of T.a_Block T.a_Entry)) := by
  have G_spread : FnOk Prog w K mg base CX0 1 T.spread.f T.spread.fd _ _ := ok_spread T
  refine okD T.values_of.fu sc_values_of (fun ds P ⟨b, ws, _, _, _, q, _⟩ => by rw [q]; rfl) (fun cdv A outer s H E Fm hr =>
    (dss_cons (ds_par (i := 2) (j := 3) rfl sc_values_of.nd rfl rfl (by decide) rfl rfl (de_fldK K (de_var 0)) (de_new (dn_lc (own := [("sign", 8)]) rfl sc_values_of.nd (di_seq (de_var 1)) (blkOk_by (by kernel_rfl)) (fun _ _ _ _ _ _ => (dg_name (i := 8) sc_values_of.nd rfl (by first | exact Or.inl rfl | exact Or.inr rfl))) (fun _ _ _ _ _ _ => dts_nil) (fun _ _ _ _ _ _ => (de_ix (de_var 8) de_int)))) (by rfl))
      (dss_cons (ds_parNN (i := 4) (j := 5) rfl sc_values_of.nd rfl rfl (by decide) rfl rfl (dn_lc (own := [("at", 9)]) rfl sc_values_of.nd (di_seq (de_var 3)) (blkOk_by (by kernel_rfl)) (fun _ _ _ _ _ _ => (dg_name (i := 9) sc_values_of.nd rfl (by first | exact Or.inl rfl | exact Or.inr rfl))) (fun _ _ _ _ _ _ => dts_nil) (fun _ _ _ _ _ _ => (de_ix (de_ix (de_fldK K (de_var 0)) (de_var 9)) de_int))) (fun _ => (dn_lc (own := [("at", 9)]) rfl sc_values_of.nd (di_seq (de_var 3)) (blkOk_by (by kernel_rfl)) (fun _ _ _ _ _ _ => (dg_name (i := 9) sc_values_of.nd rfl (by first | exact Or.inl rfl | exact Or.inr rfl))) (fun _ _ _ _ _ _ => dts_nil) (fun _ _ _ _ _ _ => (de_ix (de_ix (de_fldK K (de_var 0)) (de_var 9)) de_int)))) (by rfl))
      (dss_cons (ds_set (i := 6) sc_values_of.nd rfl (by first | exact Or.inl rfl | exact Or.inr rfl) (de_index (un65 hr) (de_var 3) (de_fldK K (de_var 0))))
      (dss_cons (ds_asg2 (de_fldK K (de_var 2)) (dg_sub 4 (de_var 6)) (dg_sub 5 (de_var 6)))
      (dss_cons (ds_if (dt_cmp op_lt lr_lt (de_fldK K (de_var 2)) (de_fldK K (de_var 2))) (dss_cons (ds_setLc (i := 7) (own := [("at", 9), ("one", 10)]) rfl sc_values_of.nd rfl rfl (by rfl) (di_enumq (by rfl) T.b_enumerate (de_var 3)) (blkOk_by (by kernel_rfl)) (fun _ _ _ _ _ _ => (dg_tup (n := 2) rfl (dgs_cons (dg_name (i := 9) sc_values_of.nd rfl (by first | exact Or.inl rfl | exact Or.inr rfl)) (dgs_cons (dg_name (i := 10) sc_values_of.nd rfl (by first | exact Or.inl rfl | exact Or.inr rfl)) dgs_nil)))) (fun _ _ _ _ _ _ => (dts_one (dt_w (dw_and (dt_cmp (op_eq2 hr.units) lr_eq (de_var 10) (de_fldK K (de_var 0))) (dw_and1 (dt_cmp (op_ne2 hr.units) lr_ne (de_var 9) (de_var 6))))))) (fun _ _ _ _ _ _ => (de_var 9)))
      (dss_one (ds_asg2 (de_fldK K (de_var 2)) (dg_sub 4 (de_ix (de_var 7) de_int)) (dg_sub 5 (de_ix (de_var 7) de_int))))) dss_nil)
      (dss_one (ds_ret (de_call (G_spread) (hr.mono (by decide)) (by rfl) T.spread.mgf T.spread.fu.kp T.spread.bi .nil (fun _ => .nil) (da_cons (de_var 4) (da_cons (de_var 5) (da_cons (de_fldK K (de_var 2)) da_nil)))))))))))) (fun ds Q ⟨b, ws, low, sp, rest, q, hz, hs, hl, hl2, hsp, h2⟩ => ?_)
  subst q
  simp only [lI] at h2
  refine seq_cut fun B hB => ?_
  walk_at "dl"
  refine dLc_mapA (sl1 := ?_) ws prD (fun s => .int s.1) (fun Q h => ?_) ?_ ?_ (by rw [sizeLine_eq]; omega) (fun z hz Q1 h => ?_) ?_
  rotate_left
  · walk_at "dl"
    exact h
  · exact no_of rfl
  · exact len_of rfl
  · walk_at "dl"
    exact h
  · subst hB
    refine seq_cut fun B hB => ?_
    walk_at "dl"
    refine dLc_mapA (sl1 := ?_) ws (fun s => .int s.1) (fun s => .int (spanOf b s.1).1) (fun Q h => ?_) ?_ ?_ (by rw [sizeLine_eq]; omega) (fun z hz Q1 h => ?_) ?_
    rotate_left
    · walk_at "dl"
      exact h
    · exact no_of rfl
    · exact len_of rfl
    · obtain ⟨h0, hp⟩ := hs z hz
      have ea := at_opt h0 hp
      simp only [dSeq, dIfS, dTest, dOp, rdLt, rdLe, rdGt, rdGe, rdEq, rdNe, rdI0, rdI, rdPlus, rdTimes, rdIsN, rdNotN, rdIsB, rdIsi, dIsiT, dVar, dC, dRet, dRetN, dNext, dNever, dDrop, dAsg, dSetN, gNm, gTp, gCn, gNl, dCB, dCall, dCallM, dCons, dNil, dStar, dTup, rdInt, rdAbs, rdLen, rdBool, rdReprF, rdTuple, rdAll, rdAny, rdSum, rdSumA, rdMax2, rdMin2, dLenB, dIxB, gSb, dAnd, dOr, dNot, dAndV, dOrV, dNotV, dIf, dChain, dChain3, dUn, rdIx, dShare, dLst, dPar, dPar3, dParN1, dParN2, dParNN, dList, dAugS, dAsg2, dFld, dFldI, dFset, gFs, dMeth, dMake, dSl, dNoP, dPart, dAug, dYes, dApp, dPop, dPopAt, wipeS, backS, iSq, iLs, iTp, iEnq, iZq, iRg1, iRg2, tI, prD, spansD, vcuts, startS, startM, startI, lstAt, setLst, D.cv, D.cvs, D.isNon, D.seq, atI_0, atI_1, atI_2, atI_3, atI_4, atI_5, atI_6, Int.cast_ofNat_Int, Int.natCast_one, Int.natCast_zero, Int.reduceEq, Int.reduceLE, Int.reduceLT, decide_true, decide_false, List.getElem?_cons_succ, List.getElem?_cons_zero, List.length_cons, List.length_nil, List.map_cons, List.map_nil, List.cons_append, List.nil_append, List.append_nil, Nat.reduceAdd, Nat.reduceSub, List.replicate, Option.some.injEq, exists_eq_left', exists_eq_left, exists_eq', exists_and_left, exists_and_right, true_and, and_true, List.set_cons_zero, List.set_cons_succ, decide_eq_true_eq, Option.bind_some, Option.map_some, reduceIte, if_true, if_false, Bool.false_eq_true, Bool.not_true, Bool.not_false, Sl.io.injEq, Sl.sh.injEq, FOe_bits, entF_bits, FOe_count, entF_count, FOe_first, entF_first, FOe_last, entF_last, FOe_total, entF_total, FOe_least, entF_least, FOe_greatest, entF_greatest, FOe_parts, entF_parts, FOb_entry, FOb_many, FOb_first, FOb_length, FOb_spans, FOb_steps, FOb_bottom, FOb_top, FOb_inner, blkF_entry, blkF_many, blkF_first, blkF_length, blkF_spans, blkF_steps, blkF_bottom, blkF_top, blkF_inner, blkF_no_none, blkF_no_letters, blkF_no_behind, blkF_no_wanted, blkF_no_values_go_on, blkF_no_gaps_go_on, blkF_no_goes_on, ea]
      exact h
    · refine dLc_mapA (sl1 := ?_) ws (fun s => .int s.1) (fun s => .int (spanOf b s.1).2) (fun Q h => ?_) ?_ ?_ (by rw [sizeLine_eq]; omega) (fun z hz Q1 h => ?_) ?_
      rotate_left
      · walk_at "dl"
        exact h
      · exact no_of rfl
      · exact len_of rfl
      · obtain ⟨h0, hp⟩ := hs z hz
        have ea := at_opt h0 hp
        simp only [dSeq, dIfS, dTest, dOp, rdLt, rdLe, rdGt, rdGe, rdEq, rdNe, rdI0, rdI, rdPlus, rdTimes, rdIsN, rdNotN, rdIsB, rdIsi, dIsiT, dVar, dC, dRet, dRetN, dNext, dNever, dDrop, dAsg, dSetN, gNm, gTp, gCn, gNl, dCB, dCall, dCallM, dCons, dNil, dStar, dTup, rdInt, rdAbs, rdLen, rdBool, rdReprF, rdTuple, rdAll, rdAny, rdSum, rdSumA, rdMax2, rdMin2, dLenB, dIxB, gSb, dAnd, dOr, dNot, dAndV, dOrV, dNotV, dIf, dChain, dChain3, dUn, rdIx, dShare, dLst, dPar, dPar3, dParN1, dParN2, dParNN, dList, dAugS, dAsg2, dFld, dFldI, dFset, gFs, dMeth, dMake, dSl, dNoP, dPart, dAug, dYes, dApp, dPop, dPopAt, wipeS, backS, iSq, iLs, iTp, iEnq, iZq, iRg1, iRg2, tI, prD, spansD, vcuts, startS, startM, startI, lstAt, setLst, D.cv, D.cvs, D.isNon, D.seq, atI_0, atI_1, atI_2, atI_3, atI_4, atI_5, atI_6, Int.cast_ofNat_Int, Int.natCast_one, Int.natCast_zero, Int.reduceEq, Int.reduceLE, Int.reduceLT, decide_true, decide_false, List.getElem?_cons_succ, List.getElem?_cons_zero, List.length_cons, List.length_nil, List.map_cons, List.map_nil, List.cons_append, List.nil_append, List.append_nil, Nat.reduceAdd, Nat.reduceSub, List.replicate, Option.some.injEq, exists_eq_left', exists_eq_left, exists_eq', exists_and_left, exists_and_right, true_and, and_true, List.set_cons_zero, List.set_cons_succ, decide_eq_true_eq, Option.bind_some, Option.map_some, reduceIte, if_true, if_false, Bool.false_eq_true, Bool.not_true, Bool.not_false, Sl.io.injEq, Sl.sh.injEq, FOe_bits, entF_bits, FOe_count, entF_count, FOe_first, entF_first, FOe_last, entF_last, FOe_total, entF_total, FOe_least, entF_least, FOe_greatest, entF_greatest, FOe_parts, entF_parts, FOb_entry, FOb_many, FOb_first, FOb_length, FOb_spans, FOb_steps, FOb_bottom, FOb_top, FOb_inner, blkF_entry, blkF_many, blkF_first, blkF_length, blkF_spans, blkF_steps, blkF_bottom, blkF_top, blkF_inner, blkF_no_none, blkF_no_letters, blkF_no_behind, blkF_no_wanted, blkF_no_values_go_on, blkF_no_gaps_go_on, blkF_no_goes_on, ea]
        exact h
      · subst hB
        have wl : (ws.map Prod.fst).length ≤ 900 := by rw [List.length_map]; exact hz
        have e1 : (ws.map fun s => D.int s.1) = (ws.map Prod.fst).map D.int := by rw [List.map_map]; rfl
        have e2 : (ws.map fun s => D.int (spanOf b s.1).1) = ((ws.map fun s => spanOf b s.1).map Prod.fst).map D.int := by rw [List.map_map, List.map_map]; rfl
        have e3 : (ws.map fun s => D.int (spanOf b s.1).2) = ((ws.map fun s => spanOf b s.1).map Prod.snd).map D.int := by rw [List.map_map, List.map_map]; rfl
        rw [e1, e2, e3]
        have llt : low < ws.length := by have := (List.getElem?_eq_some_iff.mp hl).1; rwa [List.length_map] at this
        have vz : (ws.map fun s => spanOf b s.1).length = ws.length := List.length_map _
        refine seq_cut fun B hB => ?_
        simp only [dSeq, dIfS, dTest, dOp, rdLt, rdLe, rdGt, rdGe, rdEq, rdNe, rdI0, rdI, rdPlus, rdTimes, rdIsN, rdNotN, rdIsB, rdIsi, dIsiT, dVar, dC, dRet, dRetN, dNext, dNever, dDrop, dAsg, dSetN, gNm, gTp, gCn, gNl, dCB, dCall, dCallM, dCons, dNil, dStar, dTup, rdInt, rdAbs, rdLen, rdBool, rdReprF, rdTuple, rdAll, rdAny, rdSum, rdSumA, rdMax2, rdMin2, dLenB, dIxB, gSb, dAnd, dOr, dNot, dAndV, dOrV, dNotV, dIf, dChain, dChain3, dUn, rdIx, dShare, dLst, dPar, dPar3, dParN1, dParN2, dParNN, dList, dAugS, dAsg2, dFld, dFldI, dFset, gFs, dMeth, dMake, dSl, dNoP, dPart, dAug, dYes, dApp, dPop, dPopAt, wipeS, backS, iSq, iLs, iTp, iEnq, iZq, iRg1, iRg2, tI, prD, spansD, vcuts, startS, startM, startI, lstAt, setLst, D.cv, D.cvs, D.isNon, D.seq, atI_0, atI_1, atI_2, atI_3, atI_4, atI_5, atI_6, Int.cast_ofNat_Int, Int.natCast_one, Int.natCast_zero, Int.reduceEq, Int.reduceLE, Int.reduceLT, decide_true, decide_false, List.getElem?_cons_succ, List.getElem?_cons_zero, List.length_cons, List.length_nil, List.map_cons, List.map_nil, List.cons_append, List.nil_append, List.append_nil, Nat.reduceAdd, Nat.reduceSub, List.replicate, Option.some.injEq, exists_eq_left', exists_eq_left, exists_eq', exists_and_left, exists_and_right, true_and, and_true, List.set_cons_zero, List.set_cons_succ, decide_eq_true_eq, Option.bind_some, Option.map_some, reduceIte, if_true, if_false, Bool.false_eq_true, Bool.not_true, Bool.not_false, Sl.io.injEq, Sl.sh.injEq, FOe_bits, entF_bits, FOe_count, entF_count, FOe_first, entF_first, FOe_last, entF_last, FOe_total, entF_total, FOe_least, entF_least, FOe_greatest, entF_greatest, FOe_parts, entF_parts, FOb_entry, FOb_many, FOb_first, FOb_length, FOb_spans, FOb_steps, FOb_bottom, FOb_top, FOb_inner, blkF_entry, blkF_many, blkF_first, blkF_length, blkF_spans, blkF_steps, blkF_bottom, blkF_top, blkF_inner, blkF_no_none, blkF_no_letters, blkF_no_behind, blkF_no_wanted, blkF_no_values_go_on, blkF_no_gaps_go_on, blkF_no_goes_on, dIndex, rdIndex]
        refine ⟨⟨_, rfl⟩, _, rfl, _, by rw [D.py, pys_ints]; rfl, shp_li _, rfl, low, .int b.bottom, ?_, ?_, ?_, ?_⟩
        · rw [List.getElem?_map, hl]; rfl
        · rw [eqv_i]; exact decide_eq_true rfl
        · intro m z hm hz'
          rw [List.getElem?_map] at hz'
          obtain ⟨y, hy, rfl⟩ := Option.map_eq_some_iff.mp hz'
          rw [eqv_i]
          exact decide_eq_false fun e => hl2 m hm (by rw [hy, e])
        · subst hB
          refine seq_cut fun B hB => ?_
          walk_at "dl"
          refine ⟨low, ?_, low, ?_, ?_⟩
          · rw [List.length_map, List.length_map, vz]; exact ixN_nat llt
          · rw [List.length_map, List.length_map, vz]; exact ixN_nat llt
          · subst hB
            have st : ∀ (l : List (Int × Int)) (k : Nat) (x : Int), ((l.map Prod.fst).map D.int).set k (.int x) = ((l.set k (x, x)).map Prod.fst).map D.int ∧ ((l.map Prod.snd).map D.int).set k (.int x) = ((l.set k (x, x)).map Prod.snd).map D.int := fun l k x => by
              constructor <;> rw [List.map_set, List.map_set]
            rw [(st _ _ _).1, (st _ _ _).2]
            unfold valsZ at h2
            dsimp only at h2
            have vz1 : ((ws.map fun s => spanOf b s.1).set low (b.e.least, b.e.least)).length = ws.length := by rw [List.length_set, vz]
            generalize ((ws.map fun s => spanOf b s.1).set low (b.e.least, b.e.least)) = zs at h2 vz1 ⊢
            refine seq_cut fun B hB => seq_if fun C hC => ?_
            walk_at "dl"
            by_cases hlt : b.e.least < b.e.greatest
            · rw [if_pos hlt] at h2 ⊢
              have hsp := hsp hlt
              subst hC
              refine seq_cut fun C hC => ?_
              walk_at "dl"
              refine dLc_fmA (sl1 := ?_) (ws.map Prod.fst).zipIdx (fun p => .tup [.int (p.2 : Nat), .int p.1]) (fun p => if p.1 = (b.top : Int) ∧ p.2 ≠ low then some (.int (p.2 : Nat)) else none) (fun Q h => ?_) ?_ ?_ (by rw [List.length_zipIdx, sizeLine_eq]; omega) (fun z hz Q1 h => ?_) ?_
              rotate_left
              · walk_at "dl"
                rw [enumD_map]
                exact h
              · exact no_of rfl
              · exact len_of rfl
              · obtain ⟨x, i⟩ := z
                walk_at "dl"
                by_cases h3 : x = (b.top : Int)
                · by_cases h4 : i = low
                  · rw [if_neg (fun h => h.2 h4)] at h
                    rw [if_pos h3, if_neg (by simp [h4])]
                    exact h
                  · rw [if_pos ⟨h3, h4⟩] at h
                    rw [if_pos h3, if_pos (by have : ¬ (i : Int) = (low : Int) := by omega
                                              simp [this])]
                    exact h
                · rw [if_neg (fun h => h3 h.1)] at h
                  rw [if_neg h3]
                  exact h
              · have ei : ((ws.map Prod.fst).zipIdx.filterMap fun p => if p.1 = (b.top : Int) ∧ p.2 ≠ low then some (D.int (p.2 : Nat)) else none) = (spotsM b ws low).map fun (i : Nat) => D.int (i : Nat) := by
                  unfold spotsM
                  rw [List.map_filterMap, List.zipIdx_map, List.filterMap_map]
                  congr 1
                  funext p
                  obtain ⟨s, i⟩ := p
                  by_cases h3 : s.1 = (b.top : Int) ∧ i ≠ low
                  · simp [h3]
                  · simp [h3]
                rw [ei, hsp]
                subst hC
                walk_at "dl"
                have spl : sp < ws.length := by
                  have : sp ∈ spotsM b ws low := by rw [hsp]; exact List.mem_cons_self
                  unfold spotsM at this
                  obtain ⟨⟨s, i⟩, h3, h4⟩ := List.mem_filterMap.mp this
                  have h5 := (List.getElem?_eq_some_iff.mp (List.mem_zipIdx_iff_getElem?.mp h3)).1
                  by_cases h6 : s.1 = (b.top : Int) ∧ i ≠ low
                  · rw [if_pos h6] at h4
                    injection h4 with h4
                    exact h4 ▸ h5
                  · rw [if_neg h6] at h4
                    cases h4
                refine ⟨sp, ?_, sp, ?_, ?_⟩
                · rw [List.length_map, List.length_map, vz1]; exact ixN_nat spl
                · rw [List.length_map, List.length_map, vz1]; exact ixN_nat spl
                · rw [(st _ _ _).1, (st _ _ _).2]
                  subst hB
                  walk_at "dl"
                  exact ⟨_, _, rfl, by rw [List.length_set]; omega, h2⟩
            · rw [if_neg hlt] at h2 ⊢
              subst hB
              walk_at "dl"
              exact ⟨zs, _, rfl, by omega, h2⟩
def sp_need_block (CB CE : Addr) : SD := fun ds P => ∃ b : Blk, ds = [.ins CE (entF b.e), ahD b.ah, vcuts b.vs b.gs] ∧ EntOk b.e ∧ CutsOk b.vs b.gs ∧ (∀ a, b.ah = some a → 0 ≤ a ∧ a < b.e.first) ∧ P (.ins CB (b.F CE))
theorem ok_need_block (T : Txt K mg) : FnOk Prog w K mg base CX0 6 T.need_block.f T.need_block.fd ["entry", "ahead", "cuts"] (SpD K (sp_need_block T.a_Block T.a_Entry)) := by
  have G_need_entry : FnOk Prog w K mg base CX0 3 T.need_entry.f T.need_entry.fd _ _ := ok_need_entry T
  have G_need_ahead : FnOk Prog w K mg base CX0 3 T.need_ahead.f T.need_ahead.fd _ _ := ok_need_ahead T
  have G_need_cuts : FnOk Prog w K mg base CX0 5 T.need_cuts.f T.need_cuts.fd _ _ := ok_need_cuts T
  have G_Block___init__ : FnOk Prog w K mg base CX0 3 T.Block___init__.f T.Block___init__.fd _ _ := ok_Block T
  refine okD T.need_block.fu sc_need_block (fun ds P ⟨b, q, _⟩ => by rw [q]; rfl) (fun cdv A outer s H E Fm hr =>
    (dss_cons (ds_expr (de_call (G_need_entry) (hr.mono (by decide)) (by rfl) T.need_entry.mgf T.need_entry.kp T.need_entry.bi T.need_entry.dv T.need_entry.dr (da_cons (de_var 0) da_nil)))
      (dss_cons (ds_expr (de_call (G_need_ahead) (hr.mono (by decide)) (by rfl) T.need_ahead.mgf T.need_ahead.fu.kp T.need_ahead.bi .nil (fun _ => .nil) (da_cons (de_var 1) da_nil)))
      (dss_cons (ds_set (i := 3) sc_need_block.nd rfl (by first | exact Or.inl rfl | exact Or.inr rfl) (de_call (G_need_cuts) (hr.mono (by decide)) (by rfl) T.need_cuts.mgf T.need_cuts.fu.kp T.need_cuts.bi .nil (fun _ => .nil) (da_cons (de_var 2) da_nil)))
      (dss_cons (ds_if (dt_w (dw_and (dt_cmp op_notN lr_notN (de_var 1) de_non) (dw_and1 (dt_cmp op_ge lr_ge (de_var 1) (de_fldK K (de_var 0)))))) (dss_one ds_never) dss_nil)
      (dss_one (ds_ret (de_make T.C_Block.mkk (G_Block___init__) (hr.mono (by decide)) (by rfl) T.C_Blockg T.Block___init__.bi .nil (fun _ => .nil) (da_cons (de_var 0) (da_cons (de_var 1) (da_cons (de_var 3) da_nil))))))))))) (fun ds Q ⟨b, q, eo, co, ha, h2⟩ => ?_)
  subst q
  have o1 := eo.fl
  have o2 := eo.c2
  have o3 := eo.lm
  have o4 := eo.f0
  refine seq_cut fun B hB => ?_
  walk_at "dl"
  refine ⟨b.e, _, rfl, eo, ?_⟩
  subst hB
  refine seq_cut fun B hB => ?_
  walk_at "dl"
  refine ⟨b.ah, rfl, fun a h => by have := ha a h; omega, ?_⟩
  subst hB
  refine seq_cut fun B hB => ?_
  walk_at "dl"
  refine ⟨b.vs, b.gs, rfl, co, ?_⟩
  subst hB
  refine seq_cut fun B hB => ?_
  have v1 := co.v1
  have g1 := co.g1
  have fin : ∀ N : DN, N.rt = (fun d x => Q d) → B N [.sh (.ins T.a_Entry (entF b.e)), .sh (ahD b.ah), .sh (vcuts b.vs b.gs), .sh (vcuts b.vs b.gs)] := fun N hN => by
    subst hB
    walk_at "dl"
    rw [hN]
    refine ⟨b, rfl, rfl, by omega, by omega, h2⟩
  cases hb : b.ah with
  | none =>
    rw [hb] at fin
    simp only [ahD] at fin ⊢
    walk_at "dl"
    exact fin _ rfl
  | some a =>
    have := ha a hb
    rw [hb] at fin
    simp only [ahD] at fin ⊢
    walk_at "dl"
    rw [if_neg (by omega)]
    exact fin _ rfl
end
end K21
end
section
set_option maxRecDepth 100000
set_option maxHeartbeats 2000000
/-! D21: tuple(zip(a, b)) of two lists of one length. -/
namespace DL
open PySem PySem.Spec PyProof.Rows L2 RZ
/-- pairs laid one after another at new places -/
inductive Lay : Hp → List (Addr × V × V) → Hp → Prop
  | nil (H : Hp) : Lay H [] H
  | snoc {H H1 : Hp} {ts : List (Addr × V × V)} {T : Addr} {x y : V} : Lay H ts H1 → H1 T = none → Lay H (ts ++ [(T, x, y)]) (upd H1 T (.tup [x, y]))
/-- the zip's state while its items are kept -/
def ZS (z TI TO i1 i2 l1 l2 : Addr) (xs ys : Array Value) (S : Addr) (i : Nat) (h : Heap) : Prop :=
  IsPair h TI (.ref i1) (.ref i2) ∧ h.IsListIter i1 l1 i ∧ h.IsListIter i2 l2 i ∧ h.IsList l1 xs ∧ h.IsList l2 ys ∧
    ((IsZip h z TI TO .none ∧ ∃ a b, IsPair h TO a b) ∨ ∃ T f oT, IsZipHeld h z TI TO T f ∧ h.get? T = some oT ∧ T ≠ z ∧ T ≠ i1 ∧ T ≠ i2 ∧ T ≠ S)
theorem ZS.frame {z TI TO i1 i2 l1 l2 S : Addr} {xs ys : Array Value} {i : Nat} {h h' : Heap} (st : ZS z TI TO i1 i2 l1 l2 xs ys S i h) (k : ∀ b o, b ≠ S → h.get? b = some o → h'.get? b = some o)
    (n : S ∉ [z, TI, TO, i1, i2, l1, l2]) : ZS z TI TO i1 i2 l1 l2 xs ys S i h' := by
  simp only [List.mem_cons, List.not_mem_nil, or_false, not_or] at n
  obtain ⟨n1, n2, n3, n4, n5, n6, n7⟩ := n
  obtain ⟨a1, a2, a3, a4, a5, a6⟩ := st
  refine ⟨k _ _ (Ne.symm n2) a1, a2.at fun o e => k _ o (Ne.symm n4) e, a3.at fun o e => k _ o (Ne.symm n5) e, a4.at fun o e => k _ o (Ne.symm n6) e, a5.at fun o e => k _ o (Ne.symm n7) e, ?_⟩
  rcases a6 with ⟨b1, a, b, b2⟩ | ⟨T, f, oT, b1, b2, r1, r2, r3, r4⟩
  · exact .inl ⟨k _ _ (Ne.symm n1) b1, a, b, k _ _ (Ne.symm n3) b2⟩
  · exact .inr ⟨T, f, oT, k _ _ (Ne.symm n1) b1, k _ _ r4 b2, r1, r2, r3, r4⟩
section
variable {prog : Program} {w : World} {A : Around} {E : Value → Shared → Prop} {s : Shared}
theorem ZS.item {z TI TO i1 i2 l1 l2 S : Addr} {xs ys : Array Value} {i : Nat} {x y : Value} {Q : Option Value → Shared → Prop} (D : ZipApart z TI TO i1 i2 l1 l2) (st : ZS z TI TO i1 i2 l1 l2 xs ys S i s.heap) (hS : S < s.heap.objs.size)
    (ex : xs[i]? = some x) (ey : ys[i]? = some y)
    (hQ : ∀ h', ZS z TI TO i1 i2 l1 l2 xs ys S (i + 1) h' → IsPair h' s.heap.objs.size x y → h'.objs.size = s.heap.objs.size + 1 → (∀ c o, c ∉ [z, TI, TO, i1, i2] → s.heap.get? c = some o → h'.get? c = some o) → Q (some (.ref s.heap.objs.size)) { s with heap := h' }) :
    wpAny (model prog w) A (pyNext (.ref z)) Q E s := by
  obtain ⟨c1, c2, c3, c4, c5, c6⟩ := st
  have lt : ∀ {c o}, s.heap.get? c = some o → s.heap.objs.size ≠ c := fun e => Nat.ne_of_gt (Heap.lt_size e)
  have m1 : s.heap.objs.size ≠ i1 := by obtain ⟨_, e, _⟩ := c2; exact lt e
  have m2 : s.heap.objs.size ≠ i2 := by obtain ⟨_, e, _⟩ := c3; exact lt e
  have nS : s.heap.objs.size ≠ S := Nat.ne_of_gt hS
  rcases c6 with ⟨d1, a, b, d2⟩ | ⟨T, f, oT, d1, d2, r1, r2, r3, r4⟩
  · refine wpAny_pyNext_zip_item D d1 c1 d2 c2 c3 c4 c5 ex ey fun h' a1 a2 a3 a4 a5 a6 k => hQ h' ?_ a5 a6 fun c o n e => ?_
    · exact ⟨k _ _ D.TIz D.TITO D.TIi1 D.TIi2 c1, a3, a4, c4.at fun o e => k _ o D.l1z D.l1TO D.l1i1 D.l1i2 e, c5.at fun o e => k _ o D.l2z D.l2TO D.l2i1 D.l2i2 e, .inr ⟨_, false, _, a1, a5, lt d1, m1, m2, nS⟩⟩
    · simp only [List.mem_cons, List.not_mem_nil, or_false, not_or] at n
      exact k c o n.1 n.2.2.1 n.2.2.2.1 n.2.2.2.2 e
  · refine wpAny_pyNext_zip_item_held D d1 d2 c1 c2 c3 c4 c5 ex ey fun h' a1 a3 a4 a5 a6 k => hQ h' ?_ a5 a6 fun c o n e => ?_
    · exact ⟨k _ _ D.TIz D.TIi1 D.TIi2 c1, a3, a4, c4.at fun o e => k _ o D.l1z D.l1i1 D.l1i2 e, c5.at fun o e => k _ o D.l2z D.l2i1 D.l2i2 e, .inr ⟨T, true, oT, a1, k _ _ r1 r2 r3 d2, r1, r2, r3, r4⟩⟩
    · simp only [List.mem_cons, List.not_mem_nil, or_false, not_or] at n
      exact k c o n.1 n.2.2.2.1 n.2.2.2.2 e
theorem ZS.stop {z TI TO i1 i2 l1 l2 S : Addr} {xs ys : Array Value} {i : Nat} {Q : Option Value → Shared → Prop} (hh : A.handled = none) (D : ZipApart z TI TO i1 i2 l1 l2) (st : ZS z TI TO i1 i2 l1 l2 xs ys S i s.heap) (ex : xs[i]? = none)
    (hQ : ∀ h', (∀ c o, c ∉ [z, TI, TO, i1, i2] → s.heap.get? c = some o → h'.get? c = some o) → Q none { s with heap := h' }) : wpAny (model prog w) A (pyNext (.ref z)) Q E s := by
  obtain ⟨c1, c2, c3, c4, c5, c6⟩ := st
  rcases c6 with ⟨d1, a, b, d2⟩ | ⟨T, f, oT, d1, d2, r1, r2, r3, r4⟩
  · refine wpAny_pyNext_zip_end hh D d1 c1 d2 c2 c3 c4 c5 (.inl ex) fun h' k => hQ h' fun c o n e => ?_
    simp only [List.mem_cons, List.not_mem_nil, or_false, not_or] at n
    exact k c o n.1 n.2.2.1 n.2.2.2.1 n.2.2.2.2 e
  · refine wpAny_pyNext_zip_end_held hh D d1 d2 c1 c2 c3 c4 c5 (.inl ex) fun h' k => hQ h' fun c o n e => ?_
    simp only [List.mem_cons, List.not_mem_nil, or_false, not_or] at n
    exact k c o n.1 n.2.2.2.1 n.2.2.2.2 e
end
theorem fp_upd {X : Cx} {pins : List (Addr × Obj)} {H : Hp} {b T : Addr} {o : HO} (h : FpOk X pins H b) (n : b ≠ T) : FpOk X pins (upd H T o) b := ⟨by rw [upd_ne n]; exact h.1, h.2⟩
section
variable {X : Cx} {pins : List (Addr × Obj)} {σ : L2.St}
/-- the loop that fills a new list with a zip's items -/
theorem zip_fill {A : Around} (hh : A.handled = none) {R : Result → Shared → Prop} {z TI TO i1 i2 l1 l2 S : Addr} (D : ZipApart z TI TO i1 i2 l1 l2) (hSn : S ∉ [z, TI, TO, i1, i2, l1, l2]) {its its2 : List Value} {xs ys : List V} (rv : Vals xs its) (rv2 : Vals ys its2) {n : Nat}
    (hx : xs.length = n) (hy : ys.length = n) (hn : n ≤ sizeLine) (res : Value) (H0 : Hp) :
    ∀ (k i : Nat) (s : Shared) (H : Hp) (ts : List (Addr × V × V)) (acc : Array Value) (c : Nat), n - i = k → i ≤ n → Inv X pins σ H s → ZS z TI TO i1 i2 l1 l2 its.toArray its2.toArray S i s.heap → (∀ b ∈ [z, TI, TO, i1, i2, S], FpOk X pins H b) → (∀ b ∈ [z, TI, TO, i1, i2, S], b < s.heap.objs.size) →
      s.heap.get? S = some { cls := .type "list", dict := none, data := .seq acc c, slots := #[] } → acc.toList = ts.map (fun t => .ref t.1) → ts.map (fun t => t.2) = (xs.zip ys).take i → Lay H0 ts H →
      (∀ s' acc' c' H' ts', Inv X pins σ H' s' → s'.heap.get? S = some { cls := .type "list", dict := none, data := .seq acc' c', slots := #[] } → acc'.toList = ts'.map (fun t => .ref t.1) → ts'.map (fun t => t.2) = xs.zip ys → Lay H0 ts' H' → R (.ok (.ret res)) s') →
      codeAny (model X.prog X.w) A (.builtin "list.extend.loop" ⟨[.ref S, .ref z, res], []⟩) R s := by
  have lz : (xs.zip ys).length = n := by rw [List.length_zip]; omega
  have hl1 := rv.length
  have hl2 := rv2.length
  have hS5 : S ∉ [z, TI, TO, i1, i2] := fun h => hSn (by simp only [List.mem_cons, List.not_mem_nil, or_false] at h ⊢; rcases h with h | h | h | h | h <;> simp [h])
  have sub : ∀ b ∈ [z, TI, TO, i1, i2], b ∈ [z, TI, TO, i1, i2, S] := fun b h => by
    simp only [List.mem_cons, List.not_mem_nil, or_false] at h ⊢
    rcases h with h | h | h | h | h <;> simp [h]
  intro k
  induction k with
  | zero =>
    intro i s H ts acc c hk hi I st hf hb hS ha ht hL hR
    have hin : i = n := by omega
    refine codeAny_builtin F.entry_extend_loop ?_
    rw [Around.under_plainId F.plain_extend_loop _]
    show wpAny _ A.in1 (pyNext (.ref z) >>= _) _ _ s
    refine wpAny_bind (ZS.stop (A := A.in1) hh D st (by simp only [List.getElem?_toArray]; exact List.getElem?_eq_none (by omega)) fun h' k' => ?_)
    refine wpAny_pure (hR _ acc c H ts (I.turnedL (t' := s.toks) (ch := [z, TI, TO, i1, i2]) (fun b o nb e => k' b o nb e) fun b hb => hf b (sub b hb)) (k' S _ hS5 hS) ha ?_ hL)
    rw [ht, hin, ← lz, List.take_length]
  | succ k ih =>
    intro i s H ts acc c hk hi I st hf hb hS ha ht hL hR
    have hlt : i < n := by omega
    obtain ⟨x, hx1⟩ : ∃ x, xs[i]? = some x := ⟨_, List.getElem?_eq_getElem (by omega)⟩
    obtain ⟨y, hy1⟩ : ∃ y, ys[i]? = some y := ⟨_, List.getElem?_eq_getElem (by omega)⟩
    obtain ⟨u, hu, ru⟩ := rv.get hx1
    obtain ⟨u2, hu2, ru2⟩ := rv2.get hy1
    have hSs : S < s.heap.objs.size := Heap.lt_size hS
    refine codeAny_builtin F.entry_extend_loop ?_
    rw [Around.under_plainId F.plain_extend_loop _]
    show wpAny _ A.in1 (pyNext (.ref z) >>= _) _ _ s
    refine wpAny_bind (ZS.item (A := A.in1) D st hSs (by simpa using hu) (by simpa using hu2) fun h' st' hT hz' k' => ?_)
    have hTn : H s.heap.objs.size = none := I.hok.fresh (Nat.le_refl _)
    have I1 : Inv X pins σ (upd H s.heap.objs.size (.tup [x, y])) { s with heap := h' } :=
      I.turnedNew (t' := s.toks) (ch := [z, TI, TO, i1, i2]) (fun b o nb e => k' b o nb e) (fun b hb => hf b (sub b hb)) (Nat.le_refl _) ⟨by show 2 ≤ sizeLine; decide, [u, u2], .cons ru (.cons ru2 .nil), ⟨_, hT, rfl, _, rfl⟩⟩
    have hS' := k' S _ hS5 hS
    have ne : ∀ b ∈ [z, TI, TO, i1, i2, S], b ≠ s.heap.objs.size := fun b h => Nat.ne_of_lt (hb b h)
    show wpAny _ A.in1 (updateSeq S (·.push (.ref s.heap.objs.size)) >>= _) _ _ _
    refine wpAny_bind ?_
    have hf1 : ∀ b ∈ [z, TI, TO, i1, i2, S], FpOk X pins (upd H s.heap.objs.size (.tup [x, y])) b := fun b hb => fp_upd (hf b hb) (ne b hb)
    have sz : acc.size = i := by
      have := congrArg List.length ha
      rw [Array.length_toList, List.length_map] at this
      have l2 := congrArg List.length ht
      rw [List.length_map, List.length_take, lz] at l2
      omega
    refine wpAny_updateSeq hS' rfl (wpAny_pure ⟨plainId_quiet F.plain_extend_loop _, ih (i + 1) _ (upd H s.heap.objs.size (.tup [x, y])) (ts ++ [(s.heap.objs.size, x, y)]) (acc.push (.ref s.heap.objs.size)) _ (by omega) hlt
      (I1.turnedL (t' := s.toks) (ch := [S]) (fun b o nb e => (Heap.get?_update_other _ _ (fun h => nb (by simp [h]))).trans e) fun b hb => by rw [List.mem_singleton.mp hb]; exact hf1 S (by simp))
      (st'.frame (fun b o nb e => (Heap.get?_update_other _ _ (Ne.symm nb)).trans e) hSn) hf1 (fun b h => Nat.lt_of_lt_of_le (hb b h) (by rw [Heap.size_update]; show s.heap.objs.size ≤ h'.objs.size; omega)) (Heap.get?_update_self _ hS' rfl) (by simp [ha]) ?_ (.snoc hL hTn) hR⟩) (by rw [sz]; omega) (by show (acc.push _).size ≤ sizeLine + 1; rw [Array.size_push, sz]; omega)
    rw [List.map_append, ht, List.take_add_one, List.getElem?_zip_eq_some (z := (x, y)) |>.mpr ⟨hx1, hy1⟩]
    rfl
end
end DL
end
section
set_option maxRecDepth 100000
set_option maxHeartbeats 2000000
/-! D22: tuple(zip(a, b)). -/
namespace DL
open PySem PySem.Spec PyProof.Rows L2 RZ
theorem zip_nolen : typeLookup (.type "zip") "__len__" = pure none := by rw [typeLookup_type, builtinLookup_eq_fast]; kernel_rfl
theorem zip_nohint : typeLookup (.type "zip") "__length_hint__" = pure none := by rw [typeLookup_type, builtinLookup_eq_fast]; kernel_rfl
section
variable {X : Cx} {pins : List (Addr × Obj)} {σ : L2.St}
theorem zip_collect {A : Around} {E : Value → Shared → Prop} {s : Shared} {H : Hp} (hh : A.handled = none) {z TI TO i1 i2 l1 l2 : Addr} (D : ZipApart z TI TO i1 i2 l1 l2) {its its2 : List Value} {xs ys : List V} (rv : Vals xs its) (rv2 : Vals ys its2)
    (he : xs.length = ys.length) (hn : xs.length ≤ sizeLine) (I : Inv X pins σ H s) (hz : IsZip s.heap z TI TO .none) (hTI : IsPair s.heap TI (.ref i1) (.ref i2)) {a b : Value} (hTO : IsPair s.heap TO a b) (h1 : s.heap.IsListIter i1 l1 0) (h2 : s.heap.IsListIter i2 l2 0)
    (hl1 : s.heap.IsList l1 its.toArray) (hl2 : s.heap.IsList l2 its2.toArray) (hf : ∀ b ∈ [z, TI, TO, i1, i2], FpOk X pins H b) {Q : List Value → Shared → Prop}
    (hQ : ∀ s' H' ts, Inv X pins σ H' s' → ts.map (fun t => t.2) = xs.zip ys → Lay H ts H' → Q (ts.map fun t => .ref t.1) s') : wpAny (model X.prog X.w) A (collect (.ref z)) Q E s := by
  have lt : ∀ b ∈ [z, TI, TO, i1, i2, l1, l2], b < s.heap.objs.size := fun b hb => by
    obtain ⟨_, e1, _⟩ := id h1
    obtain ⟨_, e2, _⟩ := id h2
    obtain ⟨_, e3, _⟩ := id hl1
    obtain ⟨_, e4, _⟩ := id hl2
    simp only [List.mem_cons, List.not_mem_nil, or_false] at hb
    rcases hb with rfl | rfl | rfl | rfl | rfl | rfl | rfl
    · exact Heap.lt_size hz
    · exact Heap.lt_size hTI
    · exact Heap.lt_size hTO
    · exact Heap.lt_size e1
    · exact Heap.lt_size e2
    · exact Heap.lt_size e3
    · exact Heap.lt_size e4
  have hSn : s.heap.objs.size ∉ [z, TI, TO, i1, i2, l1, l2] := fun h => Nat.lt_irrefl _ (lt _ h)
  have hSz : s.heap.objs.size ≠ z := fun h => hSn (by rw [h]; simp)
  unfold collect
  refine wpAny_bind (wpAny_runValue (codeAny_builtin F.entry_proto_collect ?_))
  rw [Around.under_plainId F.plain_proto_collect _]
  show wpAny _ A.in1 (newList [] >>= fun l => again (.builtin "list.__iadd__" ⟨[l, .ref z], []⟩)) _ _ s
  refine wpAny_bind (wpAny_newObj_type ?_)
  refine wpAny_pure ⟨plainId_quiet F.plain_list_iadd _, codeAny_builtin F.entry_list_iadd ?_⟩
  rw [Around.under_plainId F.plain_list_iadd _]
  let hp1 := s.heap.push { cls := .type "list", data := .seq ([] : List Value).toArray }
  have up : ∀ b o, s.heap.get? b = some o → hp1.get? b = some o := fun b o e => Heap.get?_push_of_some _ e
  have I1 : Inv X pins σ H { s with heap := hp1 } := I.kept (t' := s.toks) up
  have st1 : ZS z TI TO i1 i2 l1 l2 its.toArray its2.toArray s.heap.objs.size 0 hp1 :=
    ⟨up _ _ hTI, h1.at fun o e => up _ o e, h2.at fun o e => up _ o e, hl1.at fun o e => up _ o e, hl2.at fun o e => up _ o e, .inl ⟨up _ _ hz, a, b, up _ _ hTO⟩⟩
  have hT : ({ s with heap := hp1 } : Shared).TypeIs (.ref z) "zip" := ⟨_, up _ _ hz, rfl⟩
  have g1 : Builtin.List.listSameRef (.ref s.heap.objs.size) (.ref z) = false := by simp [Builtin.List.listSameRef, hSz]
  have g2 : (Value.type "zip" == Value.type "list") = false := by decide
  have g3 : (Value.type "zip" == Value.type "tuple") = false := by decide
  show wpAny _ A.in1 (Builtin.List.listExtendWith (.ref s.heap.objs.size) (.ref z) (.ref s.heap.objs.size)) _ _ _
  unfold Builtin.List.listExtendWith
  refine wpAny_bind (wpAny_typeOf hT ?_)
  simp only [g1, g2, g3, Bool.or_false, Bool.false_eq_true, if_false]
  refine wpAny_bind (wpAny_pyIter_zip (s := { s with heap := hp1 }) (up _ _ hz) ?_)
  refine wpAny_bind (wpAny_holding ?_)
  unfold Builtin.List.listLengthHint
  refine wpAny_bind (wpAny_specialOf hT zip_nolen ?_)
  show wpAny _ A.in1 (specialOf (Value.ref z) (Str.ofString "__length_hint__") >>= _) _ _ _
  refine wpAny_bind (wpAny_specialOf hT zip_nohint ?_)
  refine wpAny_pure ?_
  show wpAny _ A.in1 (rule "list.extend.makes-room" >>= fun _ => Builtin.List.listTouch (.ref s.heap.objs.size) >>= fun _ => again (.builtin "list.extend.loop" ⟨[.ref s.heap.objs.size, .ref z, .ref s.heap.objs.size], []⟩)) _ _ _
  refine wpAny_bind (wpAny_rule ?_)
  have q1 : hp1.get? s.heap.objs.size = some { cls := .type "list", data := .seq ([] : List Value).toArray } := Heap.get?_push_size _ rfl
  refine wpAny_bind ?_
  show wpAny _ A.in1 (updateSeq s.heap.objs.size (·.push .none) >>= fun _ => updateSeq s.heap.objs.size (·.pop)) _ _ _
  refine wpAny_bind (wpAny_updateSeq q1 rfl ?_)
  have q2 := Heap.get?_update_self (Obj.mapSeq (·.push Value.none)) q1 rfl
  refine wpAny_updateSeq q2 rfl ?_
  have q3 := Heap.get?_update_self (Obj.mapSeq (·.pop)) q2 rfl
  let hp3 := (hp1.update s.heap.objs.size (Obj.mapSeq (·.push Value.none))).update s.heap.objs.size (Obj.mapSeq (·.pop))
  have oth : ∀ b o, b ≠ s.heap.objs.size → hp1.get? b = some o → hp3.get? b = some o := fun b o hb e => (Heap.get?_update_other _ _ (Ne.symm hb)).trans ((Heap.get?_update_other _ _ (Ne.symm hb)).trans e)
  have ol : ∀ b o, s.heap.get? b = some o → hp3.get? b = some o := fun b o e => oth b o (Nat.ne_of_lt (Heap.lt_size e)) (up b o e)
  have I3 : Inv X pins σ H { s with heap := hp3 } := I.kept (t' := s.toks) ol
  have sz3 : hp3.objs.size = s.heap.objs.size + 1 := by
    show ((hp1.update _ _).update _ _).objs.size = _
    rw [Heap.size_update, Heap.size_update]
    exact Heap.size_push ..
  have sub : ∀ b ∈ [z, TI, TO, i1, i2, s.heap.objs.size], b ∈ [z, TI, TO, i1, i2] ∨ b = s.heap.objs.size := fun b h => by
    simp only [List.mem_cons, List.not_mem_nil, or_false] at h ⊢
    rcases h with h | h | h | h | h | h <;> simp [h]
  refine wpAny_pure ⟨plainId_quiet F.plain_extend_loop _, zip_fill hh D hSn rv rv2 (n := xs.length) rfl he.symm hn _ H xs.length 0 { s with heap := hp3 } H [] #[] _ (by omega) (Nat.zero_le _) I3
    (st1.frame oth hSn) (fun b h => ?_) (fun b h => ?_) q3 rfl (by simp) (.nil H) fun s' acc' c' H' ts' I' hS' ha ht hL => ?_⟩
  · rcases sub b h with h | rfl
    · exact hf b h
    · exact I.fpOk (Nat.le_refl _) (I.hok.fresh (Nat.le_refl _))
  · show b < hp3.objs.size
    rw [sz3]
    rcases sub b h with h | rfl
    · exact Nat.lt_succ_of_lt (lt b (by simp only [List.mem_cons, List.not_mem_nil, or_false] at h ⊢; rcases h with h | h | h | h | h <;> simp [h]))
    · exact Nat.lt_succ_self _
  · show wpAny _ A (load s.heap.objs.size >>= _) _ _ s'
    refine wpAny_bind (wpAny_load hS' ?_)
    refine wpAny_pure ?_
    show Q acc'.toList s'
    rw [ha]
    exact hQ s' H' ts' I' ht hL
theorem zip_tuple_new {A : Around} {E : Value → Shared → Prop} {s : Shared} {H : Hp} (hh : A.handled = none) {z TI TO i1 i2 l1 l2 : Addr} (D : ZipApart z TI TO i1 i2 l1 l2) {its its2 : List Value} {xs ys : List V} (rv : Vals xs its) (rv2 : Vals ys its2)
    (he : xs.length = ys.length) (hn : xs.length ≤ sizeLine) (I : Inv X pins σ H s) (hz : IsZip s.heap z TI TO .none) (hTI : IsPair s.heap TI (.ref i1) (.ref i2)) {a b : Value} (hTO : IsPair s.heap TO a b) (h1 : s.heap.IsListIter i1 l1 0) (h2 : s.heap.IsListIter i2 l2 0)
    (hl1 : s.heap.IsList l1 its.toArray) (hl2 : s.heap.IsList l2 its2.toArray) (hf : ∀ b ∈ [z, TI, TO, i1, i2], FpOk X pins H b) {Q₁ : Value → Shared → Prop}
    (hQ : ∀ s' H' ts p, Inv X pins σ (upd H' p (.tup (ts.map fun t => .ref t.1))) s' → s'.TypeIs (.ref p) "tuple" → H' p = none → ts.map (fun t => t.2) = xs.zip ys → Lay H ts H' → Q₁ (.ref p) s') :
    codeAny (model X.prog X.w) A (.call (.builtin "tuple.__new__") ⟨[.type "tuple", .ref z], []⟩) (wants Q₁ E) s := by
  refine codeAny_of_tree ?_
  show wpAny _ A.in1 (do checkBuiltinCall "tuple.__new__" ⟨[.type "tuple", .ref z], []⟩; again (.builtin "tuple.__new__" ⟨[.type "tuple", .ref z], []⟩)) _ _ s
  refine wpAny_bind (wpAny_of_eq (F.newCall_tuple_1 _) (wpAny_pure ⟨plainId_quiet F.plain_tuple_new _, codeAny_builtin F.entry_tuple_new ?_⟩))
  rw [Around.under_plainId F.plain_tuple_new _]
  have hsub := sub_tuple_self
  have hinit := init_tuple_lookup
  have hmh := madeHere_tuple
  have hTz : s.TypeIs (.ref z) "zip" := ⟨_, hz, rfl⟩
  have hh1 : A.in1.handled = none := hh
  wp_walk using wpAny_typeOf hTz, zip_collect (A := A.in1) hh1 D rv rv2 he hn I hz hTI hTO h1 h2 hl1 hl2 hf
  intro s' H' ts I' ht hL
  show wpAny _ _ (Builtin.Tuple.tupleExact (ts.map fun t => Value.ref t.1).toArray >>= fun v => ret v) _ _ _
  have lt : ts.length ≤ sizeLine := by
    have := congrArg List.length ht
    rw [List.length_map, List.length_zip] at this
    omega
  have vr : Vals (ts.map fun t => V.ref t.1) (ts.map fun t => Value.ref t.1) := by
    clear ht hL lt
    induction ts with
    | nil => exact .nil
    | cons t ts ih => exact .cons rfl ih
  unfold Builtin.Tuple.tupleExact
  refine wpAny_bind (wpAny_newObj_type ?_ (by show (ts.map fun t => Value.ref t.1).toArray.size ≤ sizeLine; rw [List.size_toArray, List.length_map]; exact lt))
  refine wpAny_pure ?_
  refine hQ _ H' ts s'.heap.objs.size (I'.laid (t' := s'.toks) (fun b o e => Heap.get?_push_of_some _ e) (Nat.le_refl _) ⟨by rw [List.length_map]; exact lt, _, vr, IsTup.new _ _⟩) ⟨_, Heap.get?_push_size _ rfl, rfl⟩ (I'.hok.fresh (Nat.le_refl _)) ht hL
theorem zip_tuple_call {A : Around} {E : Value → Shared → Prop} {s : Shared} {H : Hp} (hh : A.handled = none) {z TI TO i1 i2 l1 l2 : Addr} (D : ZipApart z TI TO i1 i2 l1 l2) {its its2 : List Value} {xs ys : List V} (rv : Vals xs its) (rv2 : Vals ys its2)
    (he : xs.length = ys.length) (hn : xs.length ≤ sizeLine) (I : Inv X pins σ H s) (hz : IsZip s.heap z TI TO .none) (hTI : IsPair s.heap TI (.ref i1) (.ref i2)) {a b : Value} (hTO : IsPair s.heap TO a b) (h1 : s.heap.IsListIter i1 l1 0) (h2 : s.heap.IsListIter i2 l2 0)
    (hl1 : s.heap.IsList l1 its.toArray) (hl2 : s.heap.IsList l2 its2.toArray) (hf : ∀ b ∈ [z, TI, TO, i1, i2], FpOk X pins H b) {Q : Value → Shared → Prop}
    (hQ : ∀ s' H' ts p, Inv X pins σ (upd H' p (.tup (ts.map fun t => .ref t.1))) s' → H' p = none → ts.map (fun t => t.2) = xs.zip ys → Lay H ts H' → Q (.ref p) s') :
    wpAny (model X.prog X.w) A (call (.type "tuple") [.ref z]) Q E s := by
  refine callType_codes (Q₁ := fun obj s₁ => s₁.TypeIs obj "tuple" ∧ Q obj s₁) F.called_tuple (F.typeCall_tuple_1 _) F.entry_object_init
    (zip_tuple_new (A := A.in1) hh D rv rv2 he hn I hz hTI hTO h1 h2 hl1 hl2 hf fun s' H' ts p I' ty hp ht hL => ⟨ty, hQ s' H' ts p I' hp ht hL⟩) fun obj s₁ g => ?_
  exact ⟨g.1, F.args_object_init_2 obj _, object_init_meets F.called_tuple.init.lookup F.called_tuple.made (by decide) X.prog X.w A.in1 _ s₁ ⟨g.1, rfl, g.2⟩⟩
/-- tuple(zip(a, b)) of two lists of one length -/
def tTupZip (K : PySem.W.Frag) (ta : TA) : TE := fun σ H Q => ta σ H fun vs H1 => ∃ a b xs ys, vs = [.ref a, .ref b] ∧ SqL K H1 a xs ∧ SqL K H1 b ys ∧ xs.length = ys.length ∧ xs.length ≤ sizeLine ∧
  ∀ H' ts p, H' p = none → ts.map (fun t => t.2) = xs.zip ys → Lay H1 ts H' → Q (.ref p) (upd H' p (.tup (ts.map fun t => .ref t.1)))
theorem pe_tupZip {e e2 : Expr} {ta : TA} {p p2 pos pos2 : Pos} (hc : X.calm = true) (hg : Gl X "tuple") (hm : X.mg "tuple" = none) (hg2 : Gl X "zip") (hm2 : X.mg "zip" = none) (ha : PA X [e, e2] ta)
    (hs : starEach [e, e2] X.env = (false, eval e X.env) :: starEach [e2] X.env := by rfl) (hpl : (backTo pos2 (starEach [e2] X.env)).any (·.1) = false := by rfl)
    (hs2 : starEach [.Call (.Name "zip" p2) [e, e2] [] pos2] X.env = (false, eval (.Call (.Name "zip" p2) [e, e2] [] pos2) X.env) :: starEach [] X.env := by rfl) (hpl2 : (backTo pos (starEach [] X.env)).any (·.1) = false := by rfl) :
    PE X (.Call (.Name "tuple" p) [.Call (.Name "zip" p2) [e, e2] [] pos2] [] pos) (tTupZip X.K ta) := by
  refine ⟨fun pins s σ H Q I h => ?_⟩
  refine wpAny_Call_Name_kw (ld_blt I hg hm PyProof.Rows.boot_tuple ?_)
  refine PyProof.Rows.callWith_type1 ?_ hs2 hpl2
  rw [hs2]
  show wpAny _ _ (spliced ((false, eval (.Call (.Name "zip" p2) [e, e2] [] pos2) X.env) :: backTo pos (starEach [] X.env))) _ _ s
  refine Calls.spliced_cons ?_
  refine Call_ (ld_blt I hg2 hm2 PyProof.Rows.boot_zip (PyProof.Rows.callWith_type1 (thn (ha.run pos2 pins s σ H _ I h) fun us s1 ⟨vs, H1, I1, r1, q1⟩ => ?_) hs hpl))
  obtain ⟨a, b, xs, ys, ex, hqx, hqy, he, hn, q⟩ := q1
  subst ex
  cases r1 with
  | cons r rr =>
    cases rr with
    | cons r' rr =>
      cases rr
      cases r
      cases r'
      obtain ⟨its, rv, p1, _⟩ := I1.list hqx
      obtain ⟨its2, rv2, p2, _⟩ := I1.list hqy
      refine call_zip_2 p1.isList p2.isList fun h' hz hTI hTO h1 h2 hsz hk => ?_
      have I2 : Inv X pins σ H1 { s1 with heap := h' } := I1.kept (t' := s1.toks) hk
      have fr : ∀ c ∈ [s1.heap.objs.size + 4, s1.heap.objs.size + 2, s1.heap.objs.size + 3, s1.heap.objs.size, s1.heap.objs.size + 1], FpOk X pins H1 c := fun c h => by
        have hle : s1.heap.objs.size ≤ c := by
          simp only [List.mem_cons, List.not_mem_nil, or_false] at h
          omega
        exact I1.fpOk hle (I1.hok.fresh hle)
      refine Calls.spliced_nil ?_
      refine zip_tuple_call (I.ok.hd hc) (PySem.W.ktu_apart s1.heap.objs.size a b p1.lt p2.lt) rv rv2 he hn I2 hz hTI hTO h1 h2 (p1.isList.at fun o e => hk _ o e) (p2.isList.at fun o e => hk _ o e) fr fun s' H' ts p I' hp ht hL => ?_
      exact ⟨.ref p, _, I', rfl, q H' ts p hp ht hL⟩
end
end DL
end
section
set_option maxRecDepth 100000
set_option maxHeartbeats 2000000
/-! D23: tuple(zip(a, b)) over data. -/
namespace DL
open PySem PySem.Spec PyProof.Rows L2 RZ
theorem Lay.gr {H H' : Hp} {ts : List (Addr × V × V)} (h : Lay H ts H') : ∀ {S : Hp}, Ex S H → ∃ S', Gr S H S' H' ∧ ∀ t ∈ ts, S' t.1 = some (.tup [t.2.1, t.2.2]) := by
  induction h with
  | nil => exact fun e => ⟨_, Gr.refl e, fun _ h => nomatch h⟩
  | @snoc H1 ts T x y hl hT ih =>
    intro S e
    obtain ⟨S', g, hm⟩ := ih e
    refine ⟨_, g.trans (Gr.new (o := .tup [x, y]) g.sh hT), fun t ht => ?_⟩
    rcases List.mem_append.mp ht with ht | ht
    · exact Ex.new (g.sh.free hT) _ _ (hm t ht)
    · rw [List.mem_singleton.mp ht]
      exact upd_same
theorem zip_reps {K : PySem.W.Frag} {S : Hp} : ∀ {ts : List (Addr × V × V)} {vs ws : List V} {ds es : List D}, Reps K S vs ds → Reps K S ws es → ts.map (fun t => t.2) = vs.zip ws → (∀ t ∈ ts, S t.1 = some (.tup [t.2.1, t.2.2])) → Reps K S (ts.map fun t => .ref t.1) (zipD ds es)
  | [], _, _, _, _, .nil, _, _, _ => .nil
  | [], _, _, _, _, .cons _ _, .nil, _, _ => .nil
  | [], _, _, _, _, .cons _ _, .cons _ _, h, _ => by simp at h
  | t :: ts, _, _, _, _, .nil, _, h, _ => by simp at h
  | t :: ts, _, _, _, _, .cons _ _, .nil, h, _ => by simp at h
  | t :: ts, _, _, _, _, .cons r1 q1, .cons r2 q2, h, hm => by
    rw [List.map_cons, List.zip_cons_cons] at h
    injection h with h1 h2
    have m := hm t List.mem_cons_self
    rw [h1] at m
    exact .cons (.tup (SqT.of m) (.cons r1 (.cons r2 .nil))) (zip_reps q1 q2 h2 fun t ht => hm t (List.mem_cons_of_mem _ ht))
def dTupZip (da db : DE) : DE := fun sl P => dCons da (dCons db dNil) sl fun ds sl2 => match ds with
  | [.lst xs, .lst ys] => xs.length = ys.length ∧ xs.length ≤ sizeLine ∧ P (.tup (zipD xs ys)) sl2
  | _ => False
section
variable {X : Cx} {F : Fm}
theorem de_tupZip {e e2 : Expr} {da db : DE} {p p2 pos pos2 : Pos} (hc : X.calm = true) (hg : Gl X "tuple") (hm : X.mg "tuple" = none) (hg2 : Gl X "zip") (hm2 : X.mg "zip" = none) (h1 : PDE X F e da) (h2 : PDE X F e2 db)
    (hs : starEach [e, e2] X.env = (false, eval e X.env) :: starEach [e2] X.env := by rfl) (hs' : starEach [e2] X.env = (false, eval e2 X.env) :: starEach [] X.env := by rfl) (hpl : (backTo pos2 (starEach [e2] X.env)).any (·.1) = false := by rfl)
    (hs2 : starEach [.Call (.Name "zip" p2) [e, e2] [] pos2] X.env = (false, eval (.Call (.Name "zip" p2) [e, e2] [] pos2) X.env) :: starEach [] X.env := by rfl) (hpl2 : (backTo pos (starEach [] X.env)).any (·.1) = false := by rfl) :
    PDE X F (.Call (.Name "tuple" p) [.Call (.Name "zip" p2) [e, e2] [] pos2] [] pos) (dTupZip da db) :=
  PE_imp (pe_tupZip hc hg hm hg2 hm2 (da_cons h1 (da_cons h2 da_nil hs') hs) hs hpl hs2 hpl2) fun σ H Q ⟨sl, S, P, R, p, k⟩ => by
    refine ⟨sl, S, fun ds sl2 => match ds with | [.lst xs, .lst ys] => xs.length = ys.length ∧ xs.length ≤ sizeLine ∧ P (.tup (zipD xs ys)) sl2 | _ => False, R, p, fun vs ds sl1 S1 H1 p1 R1 e1 r1 => ?_⟩
    · cases r1 with
      | nil => exact p1.elim
      | cons ra rr =>
        cases rr with
        | nil => cases ra <;> exact p1.elim
        | cons rb rr =>
          cases rr with
          | cons _ _ => cases ra <;> first | exact p1.elim | (cases rb <;> exact p1.elim)
          | nil =>
            cases ra <;> first | exact p1.elim | skip
            cases rb <;> first | exact p1.elim | skip
            rename_i a vx dx hax rx b vy dy hby ry
            obtain ⟨l1, l2, p2⟩ := p1
            have lx := rx.length
            have ly := ry.length
            refine ⟨a, b, vx, vy, rfl, .inl (.inl (R1.sh _ _ hax)), .inl (.inl (R1.sh _ _ hby)), by omega, by omega, fun H' ts q hq ht hL => ?_⟩
            obtain ⟨S', g, hm⟩ := hL.gr R1.sh
            have g2 := g.trans (Gr.new (o := .tup (ts.map fun t => .ref t.1)) g.sh hq)
            have ex : Ex S' _ := Ex.new (o := .tup (ts.map fun t => V.ref t.1)) (g.sh.free hq)
            exact k _ _ sl1 _ _ p2 (R1.grow g2) (e1.trans g2.s) (.tup (SqT.of upd_same) ((zip_reps (rx.mono g.s) (ry.mono g.s) ht hm).mono ex))
end
end DL
end
section
set_option maxRecDepth 100000
set_option maxHeartbeats 4000000
namespace K21
open PySem PySem.Spec PyProof.Rows L2 RZ StX NdefX DL
local macro_rules | `(tactic| walk_at "dl") => `(tactic| simp only [dSeq, dIfS, dTest, dOp, rdLt, rdLe, rdGt, rdGe, rdEq, rdNe, rdI0, rdI, rdPlus, rdTimes, rdIsN, rdNotN, rdIsB, rdIsi, dIsiT, dVar, dC, dRet, dRetN, dNext, dNever, dDrop, dAsg, dSetN, gNm, gTp, gCn, gNl, dCB, dCall, dCallM, dCons, dNil, dStar, dTup, rdInt, rdAbs, rdLen, rdBool, rdReprF, rdTuple, rdAll, rdAny, rdSum, rdSumA, rdMax2, rdMin2, dLenB, dIxB, gSb, dAnd, dOr, dNot, dAndV, dOrV, dNotV, dIf, dChain, dChain3, dUn, rdIx, dShare, dLst, dPar, dPar3, dParN1, dParN2, dParNN, dList, dAugS, dAsg2, dTupZip, dFld, dFldI, dFset, gFs, dMeth, dMake, dSl, dNoP, dPart, dAug, dYes, dApp, dPop, dPopAt, wipeS, backS, iSq, iLs, iTp, iEnq, iZq, iRg1, iRg2, tI, prD, spansD, vcuts, startS, startM, startI, lstAt, setLst, D.cv, D.cvs, D.isNon, D.seq, atI_0, atI_1, atI_2, atI_3, atI_4, atI_5, atI_6, Int.cast_ofNat_Int, Int.natCast_one, Int.natCast_zero, Int.reduceEq, Int.reduceLE, Int.reduceLT, decide_true, decide_false, List.getElem?_cons_succ, List.getElem?_cons_zero, List.length_cons, List.length_nil, List.map_cons, List.map_nil, List.cons_append, List.nil_append, List.append_nil, Nat.reduceAdd, Nat.reduceSub, List.replicate, Option.some.injEq, exists_eq_left', exists_eq_left, exists_eq', exists_and_left, exists_and_right, true_and, and_true, List.set_cons_zero, List.set_cons_succ, decide_eq_true_eq, Option.bind_some, Option.map_some, reduceIte, if_true, if_false, Bool.false_eq_true, Bool.not_true, Bool.not_false, Sl.io.injEq, Sl.sh.injEq, FOe_bits, entF_bits, FOe_count, entF_count, FOe_first, entF_first, FOe_last, entF_last, FOe_total, entF_total, FOe_least, entF_least, FOe_greatest, entF_greatest, FOe_parts, entF_parts, FOb_entry, FOb_many, FOb_first, FOb_length, FOb_spans, FOb_steps, FOb_bottom, FOb_top, FOb_inner, blkF_entry, blkF_many, blkF_first, blkF_length, blkF_spans, blkF_steps, blkF_bottom, blkF_top, blkF_inner, blkF_no_none, blkF_no_letters, blkF_no_behind, blkF_no_wanted, blkF_no_values_go_on, blkF_no_gaps_go_on, blkF_no_goes_on])

section
variable {w : World} {K : PySem.W.Frag} {mg : Str → Option Value} {base : Heap}
structure WordIn (b : Blk) (ws : List (Int × Int)) (o p t f : Int) : Prop where
  eo : EntOk b.e
  co : CutsOk b.vs b.gs
  ah : ∀ a, b.ah = some a → 0 ≤ a ∧ a < b.e.first
  hb : b.spans[b.bottom]? = some (some (o, p))
  ht : b.spans[b.top]? = some (some (t, f))
  n : (ws.length : Int) = b.e.count
  z : ws.length ≤ 900
theorem WordIn.ok {b : Blk} {ws : List (Int × Int)} {o p t f : Int} (h : WordIn b ws o p t f) : BlkOk b := ⟨by have := h.co.v1; omega, by have := h.co.g1; omega⟩
def sp_can_be (CB CE : Addr) : SD := fun ds P => ∃ (b : Blk) (ws : List (Int × Int)) (o p t f : Int), ds = [.ins CE (entF b.e), ahD b.ah, vcuts b.vs b.gs, .tup (ws.map prD)] ∧ WordIn b ws o p t f ∧ P (.bl (wordM b ws o p t f))
theorem ok_can_be (T : Txt K mg) : FnOk Prog w K mg base CX0 7 T.can_be.f T.can_be.fd ["entry", "ahead", "cuts", "word"] (SpD K (sp_can_be T.a_Block T.a_Entry)) := by
  have G_is_listed : FnOk Prog w K mg base CX0 1 T.is_listed.f T.is_listed.fd _ _ := ok_is_listed T
  have G_is_word : FnOk Prog w K mg base CX0 5 T.is_word.f T.is_word.fd _ _ := ok_is_word T
  have G_need_block : FnOk Prog w K mg base CX0 6 T.need_block.f T.need_block.fd _ _ := ok_need_block T
  refine okD T.can_be.fu sc_can_be (fun ds P ⟨b, ws, o, p, t, f, q, _⟩ => by rw [q]; rfl) (fun cdv A outer s H E Fm hr =>
    (dss_cons (ds_set (i := 4) sc_can_be.nd rfl (by first | exact Or.inl rfl | exact Or.inr rfl) (de_if (dt_val (de_call (G_is_listed) (hr.mono (by decide)) (by rfl) T.is_listed.mgf T.is_listed.fu.kp T.is_listed.bi .nil (fun _ => .nil) (da_cons (de_var 3) da_nil))) (de_callTy call_tuple_of lr_tuple (by rfl) T.b_tuple (by decide +kernel) (da_cons (de_new (dn_lc (own := [("sign", 5)]) rfl sc_can_be.nd (di_seq (de_var 3)) (blkOk_by (by kernel_rfl)) (fun _ _ _ _ _ _ => (dg_name (i := 5) sc_can_be.nd rfl (by first | exact Or.inl rfl | exact Or.inr rfl))) (fun _ _ _ _ _ _ => dts_nil) (fun _ _ _ _ _ _ => (de_if (dt_val (de_call (G_is_listed) (hr.mono (by decide)) (by rfl) T.is_listed.mgf T.is_listed.fu.kp T.is_listed.bi .nil (fun _ => .nil) (da_cons (de_var 5) da_nil))) (de_callTy call_tuple_of lr_tuple (by rfl) T.b_tuple (by decide +kernel) (da_cons (de_var 5) da_nil)) (de_var 5))))) da_nil)) (de_var 3)))
      (dss_one (ds_ret (de_call (G_is_word) (hr.mono (by decide)) (by rfl) T.is_word.mgf T.is_word.fu.kp T.is_word.bi .nil (fun _ => .nil) (da_cons (de_call (G_need_block) (hr.mono (by decide)) (by rfl) T.need_block.mgf T.need_block.fu.kp T.need_block.bi .nil (fun _ => .nil) (da_cons (de_var 0) (da_cons (de_var 1) (da_cons (de_var 2) da_nil)))) (da_cons (de_var 4) da_nil))))))) (fun ds Q ⟨b, ws, o, p, t, f, q, wi, h2⟩ => ?_)
  subst q
  have wz := wi.z
  refine seq_cut fun B hB => ?_
  walk_at "dl"
  refine ⟨_, rfl, rfl, ?_⟩
  simp only [isSeqD]
  walk_at "dl"
  refine dLc_mapA (sl1 := ?_) ws prD prD (fun Q h => ?_) ?_ ?_ (by rw [sizeLine_eq]; omega) (fun z hz Q1 h => ?_) ?_
  rotate_left
  · walk_at "dl"
    exact h
  · exact no_of rfl
  · exact len_of rfl
  · walk_at "dl"
    refine ⟨_, rfl, rfl, ?_⟩
    simp only [isSeqD]
    walk_at "dl"
    exact h
  · subst hB
    walk_at "dl"
    refine ⟨b, rfl, wi.eo, wi.co, wi.ah, ?_⟩
    exact ⟨b, ws, o, p, t, f, rfl, wi.ok, wi.eo, wi.hb, wi.ht, wi.n, wi.z, h2⟩
structure FillOk (b : Blk) (ws : List (Int × Int)) (low sp : Nat) (rest : List Nat) : Prop where
  z : ws.length ≤ 900
  ss : ∀ s ∈ ws, 0 ≤ s.1 ∧ ∃ p, b.spans[s.1.toNat]? = some (some p)
  st : ∀ s ∈ ws.drop 1, 0 ≤ s.2 ∧ ∃ p, b.steps[s.2.toNat]? = some (some p)
  lo : (ws.map Prod.fst)[low]? = some (b.bottom : Int)
  lo2 : ∀ j, j < low → (ws.map Prod.fst)[j]? ≠ some (b.bottom : Int)
  sp : b.e.least < b.e.greatest → spotsM b ws low = sp :: rest
def momsW (b : Blk) (ws : List (Int × Int)) : List Int := moms b.e.first (sprM ((ws.drop 1).map fun s => stepOf b s.2) (b.e.last - b.e.first))
def valsW (b : Blk) (ws : List (Int × Int)) (low sp : Nat) : List Int := sprM (valsZ b ws low sp) b.e.total
def ptsW (b : Blk) (ws : List (Int × Int)) (low sp : Nat) : List (Int × Int) := (momsW b ws).zip (valsW b ws low sp)
theorem valsZ_len (b : Blk) (ws : List (Int × Int)) (low sp : Nat) : (valsZ b ws low sp).length = ws.length := by
  unfold valsZ
  dsimp only
  split <;> simp
theorem valsW_len (b : Blk) (ws : List (Int × Int)) (low sp : Nat) : (valsW b ws low sp).length = ws.length := by
  unfold valsW sprM
  rw [sprL_len, valsZ_len]
theorem momsW_len (b : Blk) (ws : List (Int × Int)) (h : 0 < ws.length) : (momsW b ws).length = ws.length := by
  unfold momsW sprM
  rw [moms_len, sprL_len, List.length_map, List.length_drop]
  omega
def sp_points_by (CB CE : Addr) : SD := fun ds P => ∃ (b : Blk) (ws : List (Int × Int)) (low sp : Nat) (rest : List Nat), ds = [.ins CB (b.F CE), .tup (ws.map prD)] ∧ FillOk b ws low sp rest ∧ P (.tup ((ptsW b ws low sp).map prD))
theorem ok_points_by (T : Txt K mg) : FnOk Prog w K mg base CX0 3 T.points_by.f T.points_by.fd ["block", "word"] (SpD K (sp_points_by T.a_Block T.a_Entry)) := by
  have G_moments_of : FnOk Prog w K mg base CX0 2 T.moments_of.f T.moments_of.fd _ _ := ok_moments_of T
  have G_values_of : FnOk Prog w K mg base CX0 2 T.values_of.f T.values_of.fd _ _ := ok_values_of T
  refine okD T.points_by.fu sc_points_by (fun ds P ⟨b, ws, _, _, _, q, _⟩ => by rw [q]; rfl) (fun cdv A outer s H E Fm hr =>
    (dss_one (ds_ret (de_tupZip rfl (by rfl) T.b_tuple (by rfl) T.b_zip (de_call (G_moments_of) (hr.mono (by decide)) (by rfl) T.moments_of.mgf T.moments_of.fu.kp T.moments_of.bi .nil (fun _ => .nil) (da_cons (de_var 0) (da_cons (de_var 1) da_nil))) (de_call (G_values_of) (hr.mono (by decide)) (by rfl) T.values_of.mgf T.values_of.fu.kp T.values_of.bi .nil (fun _ => .nil) (da_cons (de_var 0) (da_cons (de_var 1) da_nil))))))) (fun ds Q ⟨b, ws, low, sp, rest, q, fo, h2⟩ => ?_)
  subst q
  have z := fo.z
  have l0 : 0 < ws.length := by
    have := (List.getElem?_eq_some_iff.mp fo.lo).1
    rw [List.length_map] at this
    omega
  have lm := momsW_len b ws l0
  have lv := valsW_len b ws low sp
  walk_at "dl"
  refine ⟨b, ws, rfl, fo.z, fo.st, ?_⟩
  show sp_values_of _ _ _ _
  refine ⟨b, ws, low, sp, rest, rfl, fo.z, fo.ss, fo.lo, fo.lo2, fo.sp, ?_⟩
  show (((momsW b ws).map D.int).length = ((valsW b ws low sp).map D.int).length ∧ ((momsW b ws).map D.int).length ≤ sizeLine ∧ Q (.tup (zipD ((momsW b ws).map D.int) ((valsW b ws low sp).map D.int))))
  refine ⟨by rw [List.length_map, List.length_map]; omega, by rw [List.length_map, sizeLine_eq]; omega, ?_⟩
  rw [zipD_maps]
  exact h2
def sp_filled (CB CE : Addr) : SD := fun ds P => ∃ (b : Blk) (ws : List (Int × Int)) (o p t f : Int) (low sp : Nat) (rest : List Nat), ds = [.ins CE (entF b.e), ahD b.ah, vcuts b.vs b.gs, .lst (ws.map prD)] ∧ WordIn b ws o p t f ∧ wordM b ws o p t f = true ∧ FillOk b ws low sp rest ∧ P (.tup ((ptsW b ws low sp).map prD))
theorem ok_filled (T : Txt K mg) : FnOk Prog w K mg base CX0 7 T.filled.f T.filled.fd ["entry", "ahead", "cuts", "word"] (SpD K (sp_filled T.a_Block T.a_Entry)) := by
  have G_is_listed : FnOk Prog w K mg base CX0 1 T.is_listed.f T.is_listed.fd _ _ := ok_is_listed T
  have G_is_word : FnOk Prog w K mg base CX0 5 T.is_word.f T.is_word.fd _ _ := ok_is_word T
  have G_need_block : FnOk Prog w K mg base CX0 6 T.need_block.f T.need_block.fd _ _ := ok_need_block T
  have G_points_by : FnOk Prog w K mg base CX0 3 T.points_by.f T.points_by.fd _ _ := ok_points_by T
  refine okD T.filled.fu sc_filled (fun ds P ⟨b, ws, o, p, t, f, _, _, _, q, _⟩ => by rw [q]; rfl) (fun cdv A outer s H E Fm hr =>
    (dss_cons (ds_set (i := 4) sc_filled.nd rfl (by first | exact Or.inl rfl | exact Or.inr rfl) (de_call (G_need_block) (hr.mono (by decide)) (by rfl) T.need_block.mgf T.need_block.fu.kp T.need_block.bi .nil (fun _ => .nil) (da_cons (de_var 0) (da_cons (de_var 1) (da_cons (de_var 2) da_nil)))))
      (dss_cons (ds_set (i := 5) sc_filled.nd rfl (by first | exact Or.inl rfl | exact Or.inr rfl) (de_if (dt_val (de_call (G_is_listed) (hr.mono (by decide)) (by rfl) T.is_listed.mgf T.is_listed.fu.kp T.is_listed.bi .nil (fun _ => .nil) (da_cons (de_var 3) da_nil))) (de_callTy call_tuple_of lr_tuple (by rfl) T.b_tuple (by decide +kernel) (da_cons (de_new (dn_lc (own := [("sign", 6)]) rfl sc_filled.nd (di_seq (de_var 3)) (blkOk_by (by kernel_rfl)) (fun _ _ _ _ _ _ => (dg_name (i := 6) sc_filled.nd rfl (by first | exact Or.inl rfl | exact Or.inr rfl))) (fun _ _ _ _ _ _ => dts_nil) (fun _ _ _ _ _ _ => (de_if (dt_val (de_call (G_is_listed) (hr.mono (by decide)) (by rfl) T.is_listed.mgf T.is_listed.fu.kp T.is_listed.bi .nil (fun _ => .nil) (da_cons (de_var 6) da_nil))) (de_callTy call_tuple_of lr_tuple (by rfl) T.b_tuple (by decide +kernel) (da_cons (de_var 6) da_nil)) (de_var 6))))) da_nil)) (de_var 3)))
      (dss_cons (ds_if (dt_not (dt_val (de_call (G_is_word) (hr.mono (by decide)) (by rfl) T.is_word.mgf T.is_word.fu.kp T.is_word.bi .nil (fun _ => .nil) (da_cons (de_var 4) (da_cons (de_var 5) da_nil))))) (dss_one ds_never) dss_nil)
      (dss_one (ds_ret (de_call (G_points_by) (hr.mono (by decide)) (by rfl) T.points_by.mgf T.points_by.fu.kp T.points_by.bi .nil (fun _ => .nil) (da_cons (de_var 4) (da_cons (de_var 5) da_nil))))))))) (fun ds Q ⟨b, ws, o, p, t, f, low, sp, rest, q, wi, wt, fo, h2⟩ => ?_)
  subst q
  have wz := wi.z
  refine seq_cut fun B hB => ?_
  walk_at "dl"
  refine ⟨b, rfl, wi.eo, wi.co, wi.ah, ?_⟩
  walk_at "dl"
  subst hB
  refine seq_cut fun B hB => ?_
  walk_at "dl"
  refine ⟨_, rfl, rfl, ?_⟩
  simp only [isSeqD]
  walk_at "dl"
  refine dLc_mapA (sl1 := ?_) ws prD prD (fun Q h => ?_) ?_ ?_ (by rw [sizeLine_eq]; omega) (fun z hz Q1 h => ?_) ?_
  rotate_left
  · walk_at "dl"
    exact h
  · exact no_of rfl
  · exact len_of rfl
  · walk_at "dl"
    refine ⟨_, rfl, rfl, ?_⟩
    simp only [isSeqD]
    walk_at "dl"
    exact h
  · subst hB
    refine seq_cut fun B hB => ?_
    walk_at "dl"
    refine ⟨b, ws, o, p, t, f, rfl, wi.ok, wi.eo, wi.hb, wi.ht, wi.n, wi.z, ?_⟩
    rw [wt]
    walk_at "dl"
    subst hB
    walk_at "dl"
    exact ⟨b, ws, low, sp, rest, rfl, fo, h2⟩
end
end K21
end
section
set_option maxRecDepth 100000
set_option maxHeartbeats 2000000
/-! D24: x, y = a new list, a value; through a tuple, where a name is a cell's. -/
namespace DL
open PySem PySem.Spec PyProof.Rows L2 RZ
section
variable {X : Cx} {F : Fm} {a b : Expr} {pos : Pos} {db : DE} {dA : DA}
theorem ds_tupN1 {i j : Nat} {x y : Str} {px py pt : Pos} {kt k2 pt2} (hc : X.calm = true) (hN : X.N.Nodup) (hi : X.N[i]? = some x) (hj : X.N[j]? = some y) (hx : Loc X.env.scope x) (hy : Loc X.env.scope y)
    (ha : PDN X F a dA) (hb : ∀ F, PDE X F b db) (hfx : X.fn x = true ∨ X.env.scope.names.lookup x = some .local := by first | exact .inl rfl | exact .inr rfl | assumption) (hfy : X.fn y = true ∨ X.env.scope.names.lookup y = some .local := by first | exact .inl rfl | exact .inr rfl | assumption)
    (hs : swapsWithSole [.Tuple [.Name x px, .Name y py] kt pt] (.Tuple [a, b] k2 pt2) pos.line X.env = pure false := by rfl) (hw : swappedStores [.Tuple [.Name x px, .Name y py] kt pt] (.Tuple [a, b] k2 pt2) X.env = pure none := by rfl)
    (hA : (assignEach [.Tuple [.Name x px, .Name y py] kt pt] X.env).map (·.2) = [assign (.Tuple [.Name x px, .Name y py] kt pt) X.env] := by rfl)
    (h1 : starEach [a, b] X.env = (false, eval a X.env) :: starEach [b] X.env := by rfl) (h2 : starEach [b] X.env = (false, eval b X.env) :: starEach [] X.env := by rfl)
    (g1 : (assignEach [.Name x px, .Name y py] X.env).map (·.2) = assign (.Name x px) X.env :: (assignEach [.Name y py] X.env).map (·.2) := by rfl) (g2 : (assignEach [.Name y py] X.env).map (·.2) = assign (.Name y py) X.env :: (assignEach [] X.env).map (·.2) := by rfl)
    (gn : (assignEach [.Name x px, .Name y py] X.env).length = 2 := by rfl) (gs : (assignEach [.Name x px, .Name y py] X.env).findIdx? (·.1) = none := by rfl) :
    PDS X F (.Assign [.Tuple [.Name x px, .Name y py] kt pt] (.Tuple [a, b] k2 pt2) pos) (dParN1 i j dA db) :=
  have hbA : PE X b (tEA X.K db) := ⟨fun pins s σ H Q I ⟨F, q⟩ => (hb F).run pins s σ H Q I q⟩
  PS_impI (ps_asg (pe_tup (pa_cons ha (pa_cons hbA pa_nil h2) h1)) (pg_tup hc (pgs_cons (pg_name hN hi hx hfx) (pgs_cons (pg_name hN hj hy hfy) pgs_nil g2) g1) gn gs) hs hw hA) fun D' σ H hl ⟨sl, S, N, R, h, l⟩ => ⟨sl, S, _, R, h, fun q vs ds sl1 S1 H1 p1 R1 e1 n1 hn q1 r1 no => by
    refine ⟨F.plus q (.lst vs), sl1, S1, _, R1.plus n1 q1 no, p1, fun w d sl2 S2 H2 p2 R2 e2 rw => ?_⟩
    have n2 : S2 q = none := by
      cases z : S2 q with
      | none => rfl
      | some o =>
        rcases R2.nw q (by rw [z]; simp) with w | w
        · have w' : F.S0 q ≠ none := w
          exact absurd (R1.ss.free n1) w'
        · exact absurd rfl w.2
    refine ⟨by show 2 ≤ sizeLine; decide, fun p hp => ?_⟩
    have R3 := R2.grow (Gr.own (o := .tup [.ref q, w]) R2.sh hp)
    obtain ⟨RM, hq', no'⟩ := R3.minus hn
    exact ⟨p, _, rfl, SqT.of upd_same, rfl, _, _, rfl, _, _, rfl, rfl, l.nx _ _ S2 _ p2 ((RM.setOw (by rw [hl]; exact (List.getElem?_eq_some_iff.mp hi).1) n2 hn hq' (r1.mono e2) no').setSh (by rw [List.length_set, hl]; exact (List.getElem?_eq_some_iff.mp hj).1) rw) (e1.trans e2)⟩⟩
end
end DL
end
section
set_option maxRecDepth 100000
set_option maxHeartbeats 2000000
/-! D25: defs that return a list which is the caller's own (a new one). -/
namespace DL
open PySem PySem.Spec PyProof.Rows L2 RZ

/-- arguments, what is wanted of the list -/
abbrev SN := List D → (List D → Prop) → Prop
def SpN (K : PySem.W.Frag) (sp : SN) : Sp := fun vs H Q _ => ∃ S ds P, Ex S H ∧ Reps K S vs ds ∧ sp ds P ∧ ∀ p xs c S' H', P c → Gr S H S' H' → S' p = none → H p = none → H' p = some (.lst xs) → Reps K S' xs c → Q (.ref p) H'
section
variable {P : Program} {w : World} {K : PySem.W.Frag} {mg : Str → Option Value} {base : Heap} {x qual : Str} {st : Stmt} {f C : Addr} {fd : FuncData} {N ps : List Str} {k : Nat}
theorem okN {sp : SN} {dt : DS} (G : Fun K x qual st f fd) (Sc : FnScope N ps (defScope st)) (len : ∀ ds P, sp ds P → ds.length = ps.length)
    (hb : ∀ (cdv : Value) (A : Around) (outer : List Env) (s : Shared) (H : Hp) (E : XK) (F : Fm), Room k (A.deeper (envOfC qual (defScope st) s.heap.objs.size f cdv)) → PDSs (cxOf CX0 P w K mg base N qual (defScope st) f cdv A outer s H E).nox F (defBody st) dt)
    (hd : ∀ ds Q, sp ds Q → dt { nx := fun _ => False, rt := fun _ _ => False, ro := fun c _ => Q c } (startS N ds)) : FnOk P w K mg base CX0 (k + 1) f fd ps (SpN K sp) := by
  refine G.ok Sc (fun vs H Q E ⟨S, ds, P, e, r, h, _⟩ => r.length.trans (len ds P h)) (fun cdv A outer s H vs Q E hr ⟨S, ds, P', e, r, h, kk⟩ => ?_)
  refine ⟨_, hb cdv A outer s H E (frD S H) hr, startS N ds, S, _, startD_ok e r, hd ds P' h, ⟨fun _ _ _ _ z => z.elim, fun _ _ _ _ _ _ z => z.elim, fun _ _ _ _ z => z.elim, fun _ _ _ _ z => z.elim, fun p xs c sl σ S' H' q R e' n hN h1 r1 => ?_⟩⟩
  exact kk p xs c S' H' q ⟨R.ss, R.sh, R.bh, R.nw⟩ n hN h1 r1
end
section
variable {X : Cx} {F : Fm} {a b c e o : Expr} {es rest : List Expr} {pos p apos : Pos} {da db dc de : DE} {ta tb : DT} {dA : DA} {k : Nat} {f C : Addr} {fd : FuncData} {ps : List Str} {x m : Str} {ds : List Value}
def dCallN (sp : SN) (r : DA) : DA := fun sl P => r sl fun xs sl1 => sp xs fun c => P c sl1
theorem dn_call {sp : SN} (G : FnOk X.prog X.w X.K X.mg X.base CX0 k f fd ps (SpN X.K sp)) (hr : Room k X.A) (hg : Gl X x) (hm : X.mg x = some (.ref f)) (hk : PySem.W.keepIn X.K (.ref f) = true) (hb : Binds X.K fd ps [])
    (ha : PDA X F (e :: es) dA) (hdb : (x == ("__debug__" : Str)) = false := by decide) (he : starEach (e :: es) X.env = (false, eval e X.env) :: starEach es X.env := by rfl) (hpl : (backTo pos (starEach es X.env)).any (·.1) = false := by rfl) :
    PDN X F (.Call (.Name x p) (e :: es) [] pos) (dCallN sp dA) := PE_imp (pe_call G hr hg hm hk hb .nil pass0 ha hdb he hpl) fun σ H Q ⟨sl, S, P, R, p, k⟩ =>
  ⟨sl, S, _, R, p, fun vs ds sl1 S1 H1 p1 R1 e1 r1 => ⟨S1, ds, _, R1.sh, by rw [List.append_nil]; exact r1, p1, fun q xs c S' H' p2 g n hq h1 r2 =>
    k q xs c sl1 S' H' p2 (R1.grow g) (e1.trans g.s) n (R1.dm q hq) h1 r2 (fun i hi => R1.notOwn hq i hi)⟩⟩
end
end DL
end
section
set_option maxRecDepth 100000
set_option maxHeartbeats 4000000
namespace K21
open PySem PySem.Spec PyProof.Rows L2 RZ StX NdefX DL
local macro_rules | `(tactic| walk_at "dl") => `(tactic| simp only [dSeq, dIfS, dTest, dOp, rdLt, rdLe, rdGt, rdGe, rdEq, rdNe, rdI0, rdI, rdPlus, rdTimes, rdIsN, rdNotN, rdIsB, rdIsi, dIsiT, dVar, dC, dRet, dRetN, dNext, dNever, dDrop, dAsg, dSetN, gNm, gTp, gCn, gNl, dCB, dCall, dCallM, dCons, dNil, dStar, dTup, rdInt, rdAbs, rdLen, rdBool, rdReprF, rdTuple, rdAll, rdAny, rdSum, rdSumA, rdMax2, rdMin2, dLenB, dIxB, gSb, dAnd, dOr, dNot, dAndV, dOrV, dNotV, dIf, dChain, dChain3, dUn, rdIx, dShare, dLst, dPar, dPar3, dParN1, dParN2, dParNN, dList, dAugS, dAsg2, dTupZip, dFld, dFldI, dFset, gFs, dMeth, dMake, dSl, dNoP, dPart, dAug, dYes, dApp, dPop, dPopAt, wipeS, backS, iSq, iLs, iTp, iEnq, iZq, iRg1, iRg2, tI, prD, spansD, vcuts, startS, startM, startI, lstAt, setLst, D.cv, D.cvs, D.isNon, D.seq, atI_0, atI_1, atI_2, atI_3, atI_4, atI_5, atI_6, Int.cast_ofNat_Int, Int.natCast_one, Int.natCast_zero, Int.reduceEq, Int.reduceLE, Int.reduceLT, decide_true, decide_false, List.getElem?_cons_succ, List.getElem?_cons_zero, List.length_cons, List.length_nil, List.map_cons, List.map_nil, List.cons_append, List.nil_append, List.append_nil, Nat.reduceAdd, Nat.reduceSub, List.replicate, Option.some.injEq, exists_eq_left', exists_eq_left, exists_eq', exists_and_left, exists_and_right, true_and, and_true, List.set_cons_zero, List.set_cons_succ, decide_eq_true_eq, Option.bind_some, Option.map_some, reduceIte, if_true, if_false, Bool.false_eq_true, Bool.not_true, Bool.not_false, Sl.io.injEq, Sl.sh.injEq, FOe_bits, entF_bits, FOe_count, entF_count, FOe_first, entF_first, FOe_last, entF_last, FOe_total, entF_total, FOe_least, entF_least, FOe_greatest, entF_greatest, FOe_parts, entF_parts, FOb_entry, FOb_many, FOb_first, FOb_length, FOb_spans, FOb_steps, FOb_bottom, FOb_top, FOb_inner, blkF_entry, blkF_many, blkF_first, blkF_length, blkF_spans, blkF_steps, blkF_bottom, blkF_top, blkF_inner, blkF_no_none, blkF_no_letters, blkF_no_behind, blkF_no_wanted, blkF_no_values_go_on, blkF_no_gaps_go_on, blkF_no_goes_on])

/-- a pen that has been asked at most n times -/
def penL (ns : List Int) (at_ great : Int) : List D := [.lst (ns.map D.int), .int at_, .int great]
def Pen (n : Nat) (c : List D) : Prop := ∃ (ns : List Int) (at_ great : Int), c = penL ns at_ great ∧ ns.length ≤ 63 ∧ 0 ≤ at_ ∧ at_ ≤ n ∧ 0 ≤ great
theorem ixN31 : ixN 3 1 = some 1 := rfl
theorem ixN32 : ixN 3 2 = some 2 := rfl
theorem erase_map {α β : Type} (f : α → β) : ∀ (l : List α) (k : Nat), (l.map f).eraseIdx k = (l.eraseIdx k).map f
  | [], _ => rfl
  | x :: l, 0 => rfl
  | x :: l, k + 1 => by rw [List.map_cons, List.eraseIdx_cons_succ, erase_map f l k]; rfl
theorem erase_perm {α : Type} : ∀ (l : List α) (k : Nat) (h : k < l.length), (l[k] :: l.eraseIdx k).Perm l
  | x :: l, 0, _ => List.Perm.refl _
  | x :: l, k + 1, h => by
    have h' : k < l.length := by simpa using h
    rw [List.eraseIdx_cons_succ, List.getElem_cons_succ]
    exact (List.Perm.swap x l[k] _).trans ((erase_perm l k h').cons x)
section
variable {w : World} {K : PySem.W.Frag} {mg : Str → Option Value} {base : Heap}
def sp_law_draw : SM := fun c ds P => ∃ (n : Nat) (many : Int), Pen n c ∧ n ≤ 99999 ∧ ds = [.int many] ∧ 1 ≤ many ∧ many < 2 ^ 60 ∧ ∀ (r : Int) (c' : List D), Pen (n + 1) c' → 0 ≤ r → r < many → P (.int r) c'
theorem ok_law_draw (T : Txt K mg) : FnOk Prog w K mg base CX0 1 T.law_draw.f T.law_draw.fd ["pen", "many"] (SpM K sp_law_draw) := by
  refine okM T.law_draw.fu sc_law_draw (fun c ds P ⟨n, many, _, _, q, _⟩ => by rw [q]; rfl) (fun cdv A outer s H E Fm hr =>
    (dss_cons (ds_if (dt_cmp op_lt lr_lt (de_var 1) de_int) (dss_one (ds_ret de_int)) dss_nil)
      (dss_cons (ds_if (dt_cmp op_gt lr_gt (de_ixB 0 de_int) de_int) (dss_cons (ds_set (i := 2) sc_law_draw.nd rfl (by first | exact Or.inl rfl | exact Or.inr rfl) (de_mod (de_callTy call_int1 lr_int (by rfl) T.b_int (by decide +kernel) (da_cons (de_ixB 0 de_int) da_nil)) (de_var 1)))
      (dss_cons (ds_asg (de_fdivW (de_callTy call_int1 lr_int (by rfl) T.b_int (by decide +kernel) (da_cons (de_ixB 0 de_int) da_nil)) (de_var 1)) (dg_sub 0 de_int))
      (dss_one (ds_ret (de_var 2))))) dss_nil)
      (dss_cons (ds_set (i := 3) sc_law_draw.nd rfl (by first | exact Or.inl rfl | exact Or.inr rfl) (de_ixB 0 de_int))
      (dss_cons (ds_asg (de_plus (de_var 3) de_int) (dg_sub 0 de_int))
      (dss_cons (ds_set (i := 4) sc_law_draw.nd rfl (by first | exact Or.inl rfl | exact Or.inr rfl) (de_plus (de_times de_int (de_var 3)) de_int))
      (dss_cons (ds_if (dt_cmp (op_ne2 hr.units) lr_ne (de_ixB 0 de_int) (de_new (dn_lst da_nil))) (dss_one (ds_set (i := 4) sc_law_draw.nd rfl (by first | exact Or.inl rfl | exact Or.inr rfl) (de_ix (de_ixB 0 de_int) (de_mod (de_callTy call_int1 lr_int (by rfl) T.b_int (by decide +kernel) (da_cons (de_var 3) da_nil)) (de_len (by rfl) T.b_len (de_ixB 0 de_int)))))) dss_nil)
      (dss_cons (ds_if (dt_w (dw_and (dt_cmp op_lt lr_lt (de_var 3) (de_len (by rfl) T.b_len (de_ixB 0 de_int))) (dw_and1 (dt_cmp op_ge lr_ge (de_callB call_abs lr_abs (by rfl) T.b_abs (by decide +kernel) (da_cons (de_var 4) da_nil)) (de_pow de_int de_int))))) (dss_cons (ds_set (i := 5) sc_law_draw.nd rfl (by first | exact Or.inl rfl | exact Or.inr rfl) (de_plus (de_times de_int (de_sub (de_callB call_abs lr_abs (by rfl) T.b_abs (by decide +kernel) (da_cons (de_var 4) da_nil)) (de_pow de_int de_int))) (de_callTy call_int1 lr_int (by rfl) T.b_int (by decide +kernel) (da_cons (de_cmp op_lt lr_lt (de_var 4) de_int) da_nil))))
      (dss_cons (ds_asg (de_fdivW (de_callTy call_int1 lr_int (by rfl) T.b_int (by decide +kernel) (da_cons (de_var 5) da_nil)) (de_var 1)) (dg_sub 0 de_int))
      (dss_one (ds_ret (de_mod (de_callTy call_int1 lr_int (by rfl) T.b_int (by decide +kernel) (da_cons (de_var 5) da_nil)) (de_var 1)))))) dss_nil)
      (dss_cons (ds_set (i := 6) sc_law_draw.nd rfl (by first | exact Or.inl rfl | exact Or.inr rfl) (de_mod (de_callTy call_int1 lr_int (by rfl) T.b_int (by decide +kernel) (da_cons (de_pow (de_plus (de_plus (de_mod (de_callTy call_int1 lr_int (by rfl) T.b_int (by decide +kernel) (da_cons (de_var 4) da_nil)) de_int) (de_times de_int (de_var 3))) de_int) de_int) da_nil)) de_int))
      (dss_cons (ds_set (i := 6) sc_law_draw.nd rfl (by first | exact Or.inl rfl | exact Or.inr rfl) (de_mod (de_callTy call_int1 lr_int (by rfl) T.b_int (by decide +kernel) (da_cons (de_pow (de_plus (de_plus (de_times (de_var 6) (de_plus (de_times de_int (de_var 3)) de_int)) (de_times (de_times de_int (de_var 3)) (de_var 3))) de_int) de_int) da_nil)) de_int))
      (dss_one (ds_ret (de_mod (de_callTy call_int1 lr_int (by rfl) T.b_int (by decide +kernel) (da_cons (de_fdivW (de_var 6) de_int) da_nil)) (de_var 1)))))))))))))) (fun c ds Q ⟨n, many, ⟨ns, at_, great, q1, h1, h2, h3, h4⟩, hn, q2, m1, m2, k⟩ => ?_)
  subst q1 q2
  simp only [penL]
  refine seq_cut fun B hB => ?_
  walk_at "dl"
  by_cases c0 : many < 2
  · rw [if_pos c0]
    exact k 0 _ ⟨ns, at_, great, rfl, h1, h2, by omega, h4⟩ (by omega) (by omega)
  rw [if_neg c0]
  subst hB
  refine seq_cut fun B hB => ?_
  simp only [dSeq, dIfS, dTest, dOp, rdLt, rdLe, rdGt, rdGe, rdEq, rdNe, rdI0, rdI, rdPlus, rdTimes, rdIsN, rdNotN, rdIsB, rdIsi, dIsiT, dVar, dC, dRet, dRetN, dNext, dNever, dDrop, dAsg, dSetN, gNm, gTp, gCn, gNl, dCB, dCall, dCallM, dCons, dNil, dStar, dTup, rdInt, rdAbs, rdLen, rdBool, rdReprF, rdTuple, rdAll, rdAny, rdSum, rdSumA, rdMax2, rdMin2, dLenB, dIxB, gSb, dAnd, dOr, dNot, dAndV, dOrV, dNotV, dIf, dChain, dChain3, dUn, rdIx, dShare, dLst, dPar, dPar3, dParN1, dParN2, dParNN, dList, dAugS, dAsg2, dTupZip, dFld, dFldI, dFset, gFs, dMeth, dMake, dSl, dNoP, dPart, dAug, dYes, dApp, dPop, dPopAt, wipeS, backS, iSq, iLs, iTp, iEnq, iZq, iRg1, iRg2, tI, prD, spansD, vcuts, startS, startM, startI, lstAt, setLst, D.cv, D.cvs, D.isNon, D.seq, atI_0, atI_1, atI_2, atI_3, atI_4, atI_5, atI_6, Int.cast_ofNat_Int, Int.natCast_one, Int.natCast_zero, Int.reduceEq, Int.reduceLE, Int.reduceLT, decide_true, decide_false, List.getElem?_cons_succ, List.getElem?_cons_zero, List.length_cons, List.length_nil, List.map_cons, List.map_nil, List.cons_append, List.nil_append, List.append_nil, Nat.reduceAdd, Nat.reduceSub, List.replicate, Option.some.injEq, exists_eq_left', exists_eq_left, exists_eq', exists_and_left, exists_and_right, true_and, and_true, List.set_cons_zero, List.set_cons_succ, decide_eq_true_eq, Option.bind_some, Option.map_some, reduceIte, if_true, if_false, Bool.false_eq_true, Bool.not_true, Bool.not_false, Sl.io.injEq, Sl.sh.injEq, FOe_bits, entF_bits, FOe_count, entF_count, FOe_first, entF_first, FOe_last, entF_last, FOe_total, entF_total, FOe_least, entF_least, FOe_greatest, entF_greatest, FOe_parts, entF_parts, FOb_entry, FOb_many, FOb_first, FOb_length, FOb_spans, FOb_steps, FOb_bottom, FOb_top, FOb_inner, blkF_entry, blkF_many, blkF_first, blkF_length, blkF_spans, blkF_steps, blkF_bottom, blkF_top, blkF_inner, blkF_no_none, blkF_no_letters, blkF_no_behind, blkF_no_wanted, blkF_no_values_go_on, blkF_no_gaps_go_on, blkF_no_goes_on, ixN31, ixN32]
  by_cases c1 : great > 0
  · rw [if_pos c1]
    refine ⟨by omega, ⟨by omega, by omega⟩, ?_⟩
    refine k _ _ ⟨ns, at_, great / many, rfl, h1, h2, by omega, Int.ediv_nonneg h4 (by omega)⟩ (Int.emod_nonneg _ (by omega)) (Int.emod_lt_of_pos _ (by omega))
  rw [if_neg c1]
  subst hB
  refine seq_cut fun B hB => ?_
  simp only [dSeq, dIfS, dTest, dOp, rdLt, rdLe, rdGt, rdGe, rdEq, rdNe, rdI0, rdI, rdPlus, rdTimes, rdIsN, rdNotN, rdIsB, rdIsi, dIsiT, dVar, dC, dRet, dRetN, dNext, dNever, dDrop, dAsg, dSetN, gNm, gTp, gCn, gNl, dCB, dCall, dCallM, dCons, dNil, dStar, dTup, rdInt, rdAbs, rdLen, rdBool, rdReprF, rdTuple, rdAll, rdAny, rdSum, rdSumA, rdMax2, rdMin2, dLenB, dIxB, gSb, dAnd, dOr, dNot, dAndV, dOrV, dNotV, dIf, dChain, dChain3, dUn, rdIx, dShare, dLst, dPar, dPar3, dParN1, dParN2, dParNN, dList, dAugS, dAsg2, dTupZip, dFld, dFldI, dFset, gFs, dMeth, dMake, dSl, dNoP, dPart, dAug, dYes, dApp, dPop, dPopAt, wipeS, backS, iSq, iLs, iTp, iEnq, iZq, iRg1, iRg2, tI, prD, spansD, vcuts, startS, startM, startI, lstAt, setLst, D.cv, D.cvs, D.isNon, D.seq, atI_0, atI_1, atI_2, atI_3, atI_4, atI_5, atI_6, Int.cast_ofNat_Int, Int.natCast_one, Int.natCast_zero, Int.reduceEq, Int.reduceLE, Int.reduceLT, decide_true, decide_false, List.getElem?_cons_succ, List.getElem?_cons_zero, List.length_cons, List.length_nil, List.map_cons, List.map_nil, List.cons_append, List.nil_append, List.append_nil, Nat.reduceAdd, Nat.reduceSub, List.replicate, Option.some.injEq, exists_eq_left', exists_eq_left, exists_eq', exists_and_left, exists_and_right, true_and, and_true, List.set_cons_zero, List.set_cons_succ, decide_eq_true_eq, Option.bind_some, Option.map_some, reduceIte, if_true, if_false, Bool.false_eq_true, Bool.not_true, Bool.not_false, Sl.io.injEq, Sl.sh.injEq, FOe_bits, entF_bits, FOe_count, entF_count, FOe_first, entF_first, FOe_last, entF_last, FOe_total, entF_total, FOe_least, entF_least, FOe_greatest, entF_greatest, FOe_parts, entF_parts, FOb_entry, FOb_many, FOb_first, FOb_length, FOb_spans, FOb_steps, FOb_bottom, FOb_top, FOb_inner, blkF_entry, blkF_many, blkF_first, blkF_length, blkF_spans, blkF_steps, blkF_bottom, blkF_top, blkF_inner, blkF_no_none, blkF_no_letters, blkF_no_behind, blkF_no_wanted, blkF_no_values_go_on, blkF_no_gaps_go_on, blkF_no_goes_on, ixN31, ixN32]
  subst hB
  refine seq_cut fun B hB => ?_
  simp only [dSeq, dIfS, dTest, dOp, rdLt, rdLe, rdGt, rdGe, rdEq, rdNe, rdI0, rdI, rdPlus, rdTimes, rdIsN, rdNotN, rdIsB, rdIsi, dIsiT, dVar, dC, dRet, dRetN, dNext, dNever, dDrop, dAsg, dSetN, gNm, gTp, gCn, gNl, dCB, dCall, dCallM, dCons, dNil, dStar, dTup, rdInt, rdAbs, rdLen, rdBool, rdReprF, rdTuple, rdAll, rdAny, rdSum, rdSumA, rdMax2, rdMin2, dLenB, dIxB, gSb, dAnd, dOr, dNot, dAndV, dOrV, dNotV, dIf, dChain, dChain3, dUn, rdIx, dShare, dLst, dPar, dPar3, dParN1, dParN2, dParNN, dList, dAugS, dAsg2, dTupZip, dFld, dFldI, dFset, gFs, dMeth, dMake, dSl, dNoP, dPart, dAug, dYes, dApp, dPop, dPopAt, wipeS, backS, iSq, iLs, iTp, iEnq, iZq, iRg1, iRg2, tI, prD, spansD, vcuts, startS, startM, startI, lstAt, setLst, D.cv, D.cvs, D.isNon, D.seq, atI_0, atI_1, atI_2, atI_3, atI_4, atI_5, atI_6, Int.cast_ofNat_Int, Int.natCast_one, Int.natCast_zero, Int.reduceEq, Int.reduceLE, Int.reduceLT, decide_true, decide_false, List.getElem?_cons_succ, List.getElem?_cons_zero, List.length_cons, List.length_nil, List.map_cons, List.map_nil, List.cons_append, List.nil_append, List.append_nil, Nat.reduceAdd, Nat.reduceSub, List.replicate, Option.some.injEq, exists_eq_left', exists_eq_left, exists_eq', exists_and_left, exists_and_right, true_and, and_true, List.set_cons_zero, List.set_cons_succ, decide_eq_true_eq, Option.bind_some, Option.map_some, reduceIte, if_true, if_false, Bool.false_eq_true, Bool.not_true, Bool.not_false, Sl.io.injEq, Sl.sh.injEq, FOe_bits, entF_bits, FOe_count, entF_count, FOe_first, entF_first, FOe_last, entF_last, FOe_total, entF_total, FOe_least, entF_least, FOe_greatest, entF_greatest, FOe_parts, entF_parts, FOb_entry, FOb_many, FOb_first, FOb_length, FOb_spans, FOb_steps, FOb_bottom, FOb_top, FOb_inner, blkF_entry, blkF_many, blkF_first, blkF_length, blkF_spans, blkF_steps, blkF_bottom, blkF_top, blkF_inner, blkF_no_none, blkF_no_letters, blkF_no_behind, blkF_no_wanted, blkF_no_values_go_on, blkF_no_gaps_go_on, blkF_no_goes_on, ixN31, ixN32]
  subst hB
  refine seq_cut fun B hB => ?_
  simp only [dSeq, dIfS, dTest, dOp, rdLt, rdLe, rdGt, rdGe, rdEq, rdNe, rdI0, rdI, rdPlus, rdTimes, rdIsN, rdNotN, rdIsB, rdIsi, dIsiT, dVar, dC, dRet, dRetN, dNext, dNever, dDrop, dAsg, dSetN, gNm, gTp, gCn, gNl, dCB, dCall, dCallM, dCons, dNil, dStar, dTup, rdInt, rdAbs, rdLen, rdBool, rdReprF, rdTuple, rdAll, rdAny, rdSum, rdSumA, rdMax2, rdMin2, dLenB, dIxB, gSb, dAnd, dOr, dNot, dAndV, dOrV, dNotV, dIf, dChain, dChain3, dUn, rdIx, dShare, dLst, dPar, dPar3, dParN1, dParN2, dParNN, dList, dAugS, dAsg2, dTupZip, dFld, dFldI, dFset, gFs, dMeth, dMake, dSl, dNoP, dPart, dAug, dYes, dApp, dPop, dPopAt, wipeS, backS, iSq, iLs, iTp, iEnq, iZq, iRg1, iRg2, tI, prD, spansD, vcuts, startS, startM, startI, lstAt, setLst, D.cv, D.cvs, D.isNon, D.seq, atI_0, atI_1, atI_2, atI_3, atI_4, atI_5, atI_6, Int.cast_ofNat_Int, Int.natCast_one, Int.natCast_zero, Int.reduceEq, Int.reduceLE, Int.reduceLT, decide_true, decide_false, List.getElem?_cons_succ, List.getElem?_cons_zero, List.length_cons, List.length_nil, List.map_cons, List.map_nil, List.cons_append, List.nil_append, List.append_nil, Nat.reduceAdd, Nat.reduceSub, List.replicate, Option.some.injEq, exists_eq_left', exists_eq_left, exists_eq', exists_and_left, exists_and_right, true_and, and_true, List.set_cons_zero, List.set_cons_succ, decide_eq_true_eq, Option.bind_some, Option.map_some, reduceIte, if_true, if_false, Bool.false_eq_true, Bool.not_true, Bool.not_false, Sl.io.injEq, Sl.sh.injEq, FOe_bits, entF_bits, FOe_count, entF_count, FOe_first, entF_first, FOe_last, entF_last, FOe_total, entF_total, FOe_least, entF_least, FOe_greatest, entF_greatest, FOe_parts, entF_parts, FOb_entry, FOb_many, FOb_first, FOb_length, FOb_spans, FOb_steps, FOb_bottom, FOb_top, FOb_inner, blkF_entry, blkF_many, blkF_first, blkF_length, blkF_spans, blkF_steps, blkF_bottom, blkF_top, blkF_inner, blkF_no_none, blkF_no_letters, blkF_no_behind, blkF_no_wanted, blkF_no_values_go_on, blkF_no_gaps_go_on, blkF_no_goes_on, ixN31, ixN32]
  refine ⟨.inl (by omega), ?_⟩
  subst hB
  refine seq_cut fun B hB => ?_
  have fin : ∀ cell : Int, B { nx := fun sl => ∃ c', sl[0]? = some (Sl.io c') ∧ Q D.non c', rt := fun d sl => ∃ c', sl[0]? = some (Sl.io c') ∧ Q d c' }
      [Sl.io [D.lst (List.map D.int ns), D.int (at_ + 1), D.int great], Sl.sh (D.int many), Sl.un, Sl.sh (D.int at_), Sl.sh (D.int cell), Sl.un, Sl.un] := fun cell => by
    subst hB
    refine seq_cut fun B hB => seq_if fun C hC => ?_
    have last : B { nx := fun sl => ∃ c', sl[0]? = some (Sl.io c') ∧ Q D.non c', rt := fun d sl => ∃ c', sl[0]? = some (Sl.io c') ∧ Q d c' }
        [Sl.io [D.lst (List.map D.int ns), D.int (at_ + 1), D.int great], Sl.sh (D.int many), Sl.un, Sl.sh (D.int at_), Sl.sh (D.int cell), Sl.un, Sl.un] := by
      subst hB
      refine seq_cut fun B hB => ?_
      walk_at "dl"
      have b1 := Int.emod_nonneg cell (show (2147483549 : Int) ≠ 0 by decide)
      have b2 := Int.emod_lt_of_pos cell (show (0 : Int) < 2147483549 by decide)
      refine ⟨.inl (by omega), ⟨by omega, by omega, by omega⟩, ?_⟩
      generalize (cell % 2147483549 + 34231 * at_ + 9547) ^ Int.toNat 3 = m1
      have b3 := Int.emod_nonneg m1 (show (2147483629 : Int) ≠ 0 by decide)
      have b4 := Int.emod_lt_of_pos m1 (show (0 : Int) < 2147483629 by decide)
      generalize m1 % 2147483629 = m at b3 b4 ⊢
      subst hB
      refine seq_cut fun B hB => ?_
      walk_at "dl"
      have b5 : m * (2 * at_ + 6563) ≤ 2147483629 * 206561 := Int.mul_le_mul (by omega) (by omega) (by omega) (by omega)
      have b6 : 0 ≤ m * (2 * at_ + 6563) := Int.mul_nonneg (by omega) (by omega)
      have b7 : 71725 * at_ * at_ ≤ 71725 * 99999 * 99999 := Int.mul_le_mul (by omega) (by omega) (by omega) (by omega)
      have b8 : 0 ≤ 71725 * at_ * at_ := Int.mul_nonneg (by omega) (by omega)
      refine ⟨.inl (by omega), .inl (by omega), .inl (by omega), .inl (by omega), ⟨by omega, by omega, by omega⟩, ?_⟩
      subst hB
      walk_at "dl"
      refine ⟨⟨by omega, by omega⟩, by omega, ?_⟩
      exact k _ _ ⟨ns, at_ + 1, great, rfl, h1, by omega, by omega, h4⟩ (Int.emod_nonneg _ (by omega)) (Int.emod_lt_of_pos _ (by omega))
    walk_at "dl"
    by_cases c2 : at_ < ((ns.map D.int).length : Int)
    · rw [if_pos c2]
      refine ⟨⟨by omega, by omega, by decide⟩, ?_⟩
      by_cases c3 : (10 : Int) ^ Int.toNat 18 ≤ if cell < 0 then -cell else cell
      · rw [if_pos c3]
        generalize hv : (10 : Int) ^ Int.toNat 18 = big at c3
        subst hC
        refine seq_cut fun C hC => ?_
        walk_at "dl"
        refine ⟨⟨by omega, by omega, by decide⟩, .inl (by omega), ?_⟩
        rw [hv]
        subst hC
        refine seq_cut fun C hC => ?_
        simp only [dSeq, dIfS, dTest, dOp, rdLt, rdLe, rdGt, rdGe, rdEq, rdNe, rdI0, rdI, rdPlus, rdTimes, rdIsN, rdNotN, rdIsB, rdIsi, dIsiT, dVar, dC, dRet, dRetN, dNext, dNever, dDrop, dAsg, dSetN, gNm, gTp, gCn, gNl, dCB, dCall, dCallM, dCons, dNil, dStar, dTup, rdInt, rdAbs, rdLen, rdBool, rdReprF, rdTuple, rdAll, rdAny, rdSum, rdSumA, rdMax2, rdMin2, dLenB, dIxB, gSb, dAnd, dOr, dNot, dAndV, dOrV, dNotV, dIf, dChain, dChain3, dUn, rdIx, dShare, dLst, dPar, dPar3, dParN1, dParN2, dParNN, dList, dAugS, dAsg2, dTupZip, dFld, dFldI, dFset, gFs, dMeth, dMake, dSl, dNoP, dPart, dAug, dYes, dApp, dPop, dPopAt, wipeS, backS, iSq, iLs, iTp, iEnq, iZq, iRg1, iRg2, tI, prD, spansD, vcuts, startS, startM, startI, lstAt, setLst, D.cv, D.cvs, D.isNon, D.seq, atI_0, atI_1, atI_2, atI_3, atI_4, atI_5, atI_6, Int.cast_ofNat_Int, Int.natCast_one, Int.natCast_zero, Int.reduceEq, Int.reduceLE, Int.reduceLT, decide_true, decide_false, List.getElem?_cons_succ, List.getElem?_cons_zero, List.length_cons, List.length_nil, List.map_cons, List.map_nil, List.cons_append, List.nil_append, List.append_nil, Nat.reduceAdd, Nat.reduceSub, List.replicate, Option.some.injEq, exists_eq_left', exists_eq_left, exists_eq', exists_and_left, exists_and_right, true_and, and_true, List.set_cons_zero, List.set_cons_succ, decide_eq_true_eq, Option.bind_some, Option.map_some, reduceIte, if_true, if_false, Bool.false_eq_true, Bool.not_true, Bool.not_false, Sl.io.injEq, Sl.sh.injEq, FOe_bits, entF_bits, FOe_count, entF_count, FOe_first, entF_first, FOe_last, entF_last, FOe_total, entF_total, FOe_least, entF_least, FOe_greatest, entF_greatest, FOe_parts, entF_parts, FOb_entry, FOb_many, FOb_first, FOb_length, FOb_spans, FOb_steps, FOb_bottom, FOb_top, FOb_inner, blkF_entry, blkF_many, blkF_first, blkF_length, blkF_spans, blkF_steps, blkF_bottom, blkF_top, blkF_inner, blkF_no_none, blkF_no_letters, blkF_no_behind, blkF_no_wanted, blkF_no_values_go_on, blkF_no_gaps_go_on, blkF_no_goes_on, ixN32]
        have g0 : 0 ≤ 2 * ((if cell < 0 then -cell else cell) - big) + (if cell < 0 then 1 else 0) := by
          split <;> split at c3 <;> omega
        generalize 2 * ((if cell < 0 then -cell else cell) - big) + (if cell < 0 then 1 else 0) = gr at g0
        refine ⟨⟨by omega, by omega⟩, ?_⟩
        subst hC
        walk_at "dl"
        refine ⟨by omega, ?_⟩
        exact k _ _ ⟨ns, at_ + 1, gr / many, rfl, h1, by omega, by omega, Int.ediv_nonneg g0 (by omega)⟩ (Int.emod_nonneg _ (by omega)) (Int.emod_lt_of_pos _ (by omega))
      · rw [if_neg c3]
        exact last
    · rw [if_neg c2]
      exact last
  simp only [dSeq, dIfS, dTest, dOp, rdLt, rdLe, rdGt, rdGe, rdEq, rdNe, rdI0, rdI, rdPlus, rdTimes, rdIsN, rdNotN, rdIsB, rdIsi, dIsiT, dVar, dC, dRet, dRetN, dNext, dNever, dDrop, dAsg, dSetN, gNm, gTp, gCn, gNl, dCB, dCall, dCallM, dCons, dNil, dStar, dTup, rdInt, rdAbs, rdLen, rdBool, rdReprF, rdTuple, rdAll, rdAny, rdSum, rdSumA, rdMax2, rdMin2, dLenB, dIxB, gSb, dAnd, dOr, dNot, dAndV, dOrV, dNotV, dIf, dChain, dChain3, dUn, rdIx, dShare, dLst, dPar, dPar3, dParN1, dParN2, dParNN, dList, dAugS, dAsg2, dTupZip, dFld, dFldI, dFset, gFs, dMeth, dMake, dSl, dNoP, dPart, dAug, dYes, dApp, dPop, dPopAt, wipeS, backS, iSq, iLs, iTp, iEnq, iZq, iRg1, iRg2, tI, prD, spansD, vcuts, startS, startM, startI, lstAt, setLst, D.cv, D.cvs, D.isNon, D.seq, atI_0, atI_1, atI_2, atI_3, atI_4, atI_5, atI_6, Int.cast_ofNat_Int, Int.natCast_one, Int.natCast_zero, Int.reduceEq, Int.reduceLE, Int.reduceLT, decide_true, decide_false, List.getElem?_cons_succ, List.getElem?_cons_zero, List.length_cons, List.length_nil, List.map_cons, List.map_nil, List.cons_append, List.nil_append, List.append_nil, Nat.reduceAdd, Nat.reduceSub, List.replicate, Option.some.injEq, exists_eq_left', exists_eq_left, exists_eq', exists_and_left, exists_and_right, true_and, and_true, List.set_cons_zero, List.set_cons_succ, decide_eq_true_eq, Option.bind_some, Option.map_some, reduceIte, if_true, if_false, Bool.false_eq_true, Bool.not_true, Bool.not_false, Sl.io.injEq, Sl.sh.injEq, FOe_bits, entF_bits, FOe_count, entF_count, FOe_first, entF_first, FOe_last, entF_last, FOe_total, entF_total, FOe_least, entF_least, FOe_greatest, entF_greatest, FOe_parts, entF_parts, FOb_entry, FOb_many, FOb_first, FOb_length, FOb_spans, FOb_steps, FOb_bottom, FOb_top, FOb_inner, blkF_entry, blkF_many, blkF_first, blkF_length, blkF_spans, blkF_steps, blkF_bottom, blkF_top, blkF_inner, blkF_no_none, blkF_no_letters, blkF_no_behind, blkF_no_wanted, blkF_no_values_go_on, blkF_no_gaps_go_on, blkF_no_goes_on, ixN31, ixN32]
  refine ⟨by decide, _, by rw [D.py, pys_ints]; rfl, _, rfl, shp_li _, rfl, ?_⟩
  have ee : PyData.eqv (.list (ns.map PyData.int)) (.list []) = decide (ns = []) := by
    simp only [PyData.eqv]
    exact eqv_ints ns []
  rw [ee]
  by_cases c2 : ns = []
  · rw [decide_eq_true c2]
    exact fin _
  · rw [decide_eq_false c2]
    have l0 : 0 < ns.length := List.length_pos_iff.mpr c2
    rw [List.length_map]
    have i1 := Int.emod_nonneg at_ (show (ns.length : Int) ≠ 0 by omega)
    have i2 := Int.emod_lt_of_pos at_ (show 0 < (ns.length : Int) by omega)
    have e1 : ((at_ % (ns.length : Int)).toNat : Int) = at_ % (ns.length : Int) := Int.toNat_of_nonneg i1
    have ai := atI_int (a := ns) (k := (at_ % (ns.length : Int)).toNat) (by omega)
    rw [e1] at ai
    exact ⟨by omega, _, ai, fin _⟩
def sp_law_pen : SN := fun ds P => ∃ ns : List Int, ds = [.scr ns] ∧ ns.length ≤ 63 ∧ ∀ c, Pen 0 c → P c
theorem ok_law_pen (T : Txt K mg) : FnOk Prog w K mg base CX0 1 T.law_pen.f T.law_pen.fd ["script"] (SpN K sp_law_pen) := by
  refine okN T.law_pen.fu sc_law_pen (fun ds P ⟨ns, q, _⟩ => by rw [q]; rfl) (fun cdv A outer s H E Fm hr =>
    (dss_one (ds_retO (dn_lst (da_cons (de_new (dn_list (by rfl) T.b_list (de_new (dn_slScr (de_var 0) do_none (do_some de_int))))) (da_cons de_int (da_cons de_int da_nil))))))) (fun ds Q ⟨ns, q, h1, k⟩ => ?_)
  subst q
  simp only [dSeq, dIfS, dTest, dOp, rdLt, rdLe, rdGt, rdGe, rdEq, rdNe, rdI0, rdI, rdPlus, rdTimes, rdIsN, rdNotN, rdIsB, rdIsi, dIsiT, dVar, dC, dRet, dRetN, dNext, dNever, dDrop, dAsg, dSetN, gNm, gTp, gCn, gNl, dCB, dCall, dCallM, dCons, dNil, dStar, dTup, rdInt, rdAbs, rdLen, rdBool, rdReprF, rdTuple, rdAll, rdAny, rdSum, rdSumA, rdMax2, rdMin2, dLenB, dIxB, gSb, dAnd, dOr, dNot, dAndV, dOrV, dNotV, dIf, dChain, dChain3, dUn, rdIx, dShare, dLst, dPar, dPar3, dParN1, dParN2, dParNN, dList, dAugS, dAsg2, dTupZip, dFld, dFldI, dFset, gFs, dMeth, dMake, dSl, dNoP, dPart, dAug, dYes, dApp, dPop, dPopAt, wipeS, backS, iSq, iLs, iTp, iEnq, iZq, iRg1, iRg2, tI, prD, spansD, vcuts, startS, startM, startI, lstAt, setLst, D.cv, D.cvs, D.isNon, D.seq, atI_0, atI_1, atI_2, atI_3, atI_4, atI_5, atI_6, Int.cast_ofNat_Int, Int.natCast_one, Int.natCast_zero, Int.reduceEq, Int.reduceLE, Int.reduceLT, decide_true, decide_false, List.getElem?_cons_succ, List.getElem?_cons_zero, List.length_cons, List.length_nil, List.map_cons, List.map_nil, List.cons_append, List.nil_append, List.append_nil, Nat.reduceAdd, Nat.reduceSub, List.replicate, Option.some.injEq, exists_eq_left', exists_eq_left, exists_eq', exists_and_left, exists_and_right, true_and, and_true, List.set_cons_zero, List.set_cons_succ, decide_eq_true_eq, Option.bind_some, Option.map_some, reduceIte, if_true, if_false, Bool.false_eq_true, Bool.not_true, Bool.not_false, Sl.io.injEq, Sl.sh.injEq, FOe_bits, entF_bits, FOe_count, entF_count, FOe_first, entF_first, FOe_last, entF_last, FOe_total, entF_total, FOe_least, entF_least, FOe_greatest, entF_greatest, FOe_parts, entF_parts, FOb_entry, FOb_many, FOb_first, FOb_length, FOb_spans, FOb_steps, FOb_bottom, FOb_top, FOb_inner, blkF_entry, blkF_many, blkF_first, blkF_length, blkF_spans, blkF_steps, blkF_bottom, blkF_top, blkF_inner, blkF_no_none, blkF_no_letters, blkF_no_behind, blkF_no_wanted, blkF_no_values_go_on, blkF_no_gaps_go_on, blkF_no_goes_on, dSlScr, dRetO]
  refine ⟨by decide, ?_⟩
  rw [show (63 : Int) = ((63 : Nat) : Int) from rfl, cut_to, List.take_of_length_le (by rw [List.length_map]; exact h1)]
  exact k _ ⟨ns, 0, 0, rfl, h1, by omega, by omega, by omega⟩
def sp_law_pick : SM := fun c ds P => ∃ (n : Nat) (xs : List D), Pen n c ∧ n ≤ 99999 ∧ (ds = [.lst xs]) ∧ 1 ≤ xs.length ∧ xs.length ≤ 1000 ∧ ∀ (r : Nat) (x : D) (c' : List D), Pen (n + 1) c' → xs[r]? = some x → P x c'
theorem ok_law_pick (T : Txt K mg) : FnOk Prog w K mg base CX0 2 T.law_pick.f T.law_pick.fd ["pen", "some"] (SpM K sp_law_pick) := by
  have G_law_draw : FnOk Prog w K mg base CX0 1 T.law_draw.f T.law_draw.fd _ _ := ok_law_draw T
  refine okM T.law_pick.fu sc_law_pick (fun c ds P ⟨n, xs, _, _, q, _⟩ => by rw [q]; rfl) (fun cdv A outer s H E Fm hr =>
    (dss_one (ds_ret (de_ix (de_var 1) (de_callM 0 (G_law_draw) (hr.mono (by decide)) (by rfl) T.law_draw.mgf T.law_draw.fu.kp T.law_draw.bi (da_cons (de_len (by rfl) T.b_len (de_var 1)) da_nil)))))) (fun c ds Q ⟨n, xs, hp, hn, q, h1, h2, k⟩ => ?_)
  subst q
  walk_at "dl"
  refine ⟨n, _, hp, hn, rfl, by omega, by omega, fun r c' p0 r1 r2 => ?_⟩
  have e : ((r.toNat : Nat) : Int) = r := Int.toNat_of_nonneg r1
  have l : r.toNat < xs.length := by omega
  have a := atI_nat (List.getElem?_eq_getElem l)
  rw [e] at a
  exact ⟨_, a, k r.toNat _ _ p0 (List.getElem?_eq_getElem l)⟩
def sp_law_mixed : SM := fun c ds P => ∃ (n : Nat) (xs : List Int), Pen n c ∧ n + xs.length ≤ 99999 ∧ ds = [.lst (xs.map D.int)] ∧ xs.length ≤ 1000 ∧ ∀ (ys : List Int) (c' : List D), Pen (n + xs.length) c' → ys.Perm xs → P (.lst (ys.map D.int)) c'
theorem ok_law_mixed (T : Txt K mg) : FnOk Prog w K mg base CX0 2 T.law_mixed.f T.law_mixed.fd ["pen", "some"] (SpM K sp_law_mixed) := by
  have G_law_draw : FnOk Prog w K mg base CX0 1 T.law_draw.f T.law_draw.fd _ _ := ok_law_draw T
  refine okM T.law_mixed.fu sc_law_mixed (fun c ds P ⟨n, xs, _, _, q, _⟩ => by rw [q]; rfl) (fun cdv A outer s H E Fm hr =>
    (dss_cons (ds_parNN (i := 2) (j := 3) rfl sc_law_mixed.nd rfl rfl (by decide) rfl rfl (dn_list (by rfl) T.b_list (de_var 1)) (fun _ => (dn_lst da_nil)) (by rfl))
      (dss_cons (ds_for PassesOwn.never rfl (di_range1 (by rfl) T.b_range (de_len (by rfl) T.b_len (de_var 1))) (dg_name (i := 4) sc_law_mixed.nd rfl (by first | exact Or.inl rfl | exact Or.inr rfl)) (dss_one (ds_expr (de_app 3 (de_popAt 2 (de_callM 0 (G_law_draw) (hr.mono (by decide)) (by rfl) T.law_draw.mgf T.law_draw.fu.kp T.law_draw.bi (da_cons (de_lenB 2 (by rfl) T.b_len) da_nil)))))))
      (dss_one (ds_ret (de_var 3)))))) (fun c ds Q ⟨n, xs, hp, hn, q, h2, k⟩ => ?_)
  subst q
  refine seq_cut fun B hB => ?_
  walk_at "dl"
  refine ⟨by decide, ?_⟩
  subst hB
  refine seq_cut fun B hB => ?_
  refine dFor_of (sl1 := ?_) (items := rngD 0 xs.length) (fun i sl => ∃ (c' : List D) (rest found : List Int) (t : Sl), sl = [.io c', .sh (.lst (xs.map D.int)), .ow (rest.map D.int), .ow (found.map D.int), t] ∧ Pen (n + i) c' ∧ (found ++ rest).Perm xs ∧ found.length = i) (fun Q h => ?_) ?_ ?_ ?_
  rotate_left
  · walk_at "dl"
    refine ⟨by rw [List.length_map]; omega, ?_⟩
    rw [List.length_map]
    exact h
  · exact ⟨c, xs, [], _, rfl, hp, List.Perm.refl _, rfl⟩
  · rintro i x sl hi ⟨c', rest, found, t, rfl, hp', pm, fl⟩
    obtain ⟨hi2, rfl⟩ := rngD_get hi
    have ll := pm.length_eq
    rw [List.length_append] at ll
    walk_at "dl"
    have rl : (rest.map D.int).length = rest.length := List.length_map _
    refine ⟨n + i, _, hp', by omega, rfl, by omega, by omega, fun r c2 p0 r1 r2 => ?_⟩
    have e : ((r.toNat : Nat) : Int) = r := Int.toNat_of_nonneg r1
    have l : r.toNat < rest.length := by omega
    have sq : seqIndex? ((r.toNat : Nat) : Int) (rest.map D.int).length = some r.toNat := seqIndex_of (by omega) (by omega)
    rw [e] at sq
    refine ⟨by omega, by omega, r.toNat, sq, _, by rw [List.getElem?_map, List.getElem?_eq_getElem l]; rfl, by rw [List.length_map, sizeLine_eq]; omega, c2, rest.eraseIdx r.toNat, found ++ [rest[r.toNat]], ⟨_, by rw [erase_map, List.map_append]; rfl⟩, p0, ?_, by rw [List.length_append, fl]; rfl⟩
    rw [List.append_assoc]
    show (found ++ (rest[r.toNat] :: rest.eraseIdx r.toNat)).Perm xs
    exact (List.Perm.append_left _ (erase_perm rest r.toNat l)).trans pm
  · rintro sl ⟨c', rest, found, t, rfl, hp', pm, fl⟩
    rw [rngD_len] at fl hp'
    have ll := pm.length_eq
    rw [List.length_append] at ll
    have r0 : rest = [] := List.length_eq_zero_iff.mp (by omega)
    subst r0
    rw [List.append_nil] at pm
    subst hB
    walk_at "dl"
    exact k found c' hp' pm
end
end K21
end
section
set_option maxRecDepth 100000
set_option maxHeartbeats 4000000
namespace K21
open PySem PySem.Spec PyProof.Rows L2 RZ StX NdefX DL
local macro_rules | `(tactic| walk_at "dl") => `(tactic| simp only [dSeq, dIfS, dTest, dOp, rdLt, rdLe, rdGt, rdGe, rdEq, rdNe, rdI0, rdI, rdPlus, rdTimes, rdIsN, rdNotN, rdIsB, rdIsi, dIsiT, dVar, dC, dRet, dRetN, dNext, dNever, dDrop, dAsg, dSetN, gNm, gTp, gCn, gNl, dCB, dCall, dCallM, dCons, dNil, dStar, dTup, rdInt, rdAbs, rdLen, rdBool, rdReprF, rdTuple, rdAll, rdAny, rdSum, rdSumA, rdMax2, rdMin2, rdMax, rdMin, dLenB, dIxB, gSb, dAnd, dOr, dNot, dAndV, dOrV, dNotV, dIf, dChain, dChain3, dUn, rdIx, dShare, dLst, dPar, dPar3, dParN1, dParN2, dParNN, dList, dAugS, dAsg2, dTupZip, dFld, dFldI, dFset, gFs, dMeth, dMake, dSl, dNoP, dPart, dAug, dYes, dApp, dPop, dPopAt, wipeS, backS, iSq, iLs, iTp, iEnq, iZq, iRg1, iRg2, tI, prD, spansD, vcuts, startS, startM, startI, lstAt, setLst, D.cv, D.cvs, D.isNon, D.seq, atI_0, atI_1, atI_2, atI_3, atI_4, atI_5, atI_6, Int.cast_ofNat_Int, Int.natCast_one, Int.natCast_zero, Int.reduceEq, Int.reduceLE, Int.reduceLT, decide_true, decide_false, List.getElem?_cons_succ, List.getElem?_cons_zero, List.length_cons, List.length_nil, List.map_cons, List.map_nil, List.cons_append, List.nil_append, List.append_nil, Nat.reduceAdd, Nat.reduceSub, List.replicate, Option.some.injEq, exists_eq_left', exists_eq_left, exists_eq', exists_and_left, exists_and_right, true_and, and_true, List.set_cons_zero, List.set_cons_succ, decide_eq_true_eq, Option.bind_some, Option.map_some, reduceIte, if_true, if_false, Bool.false_eq_true, Bool.not_true, Bool.not_false, Sl.io.injEq, Sl.sh.injEq, FOe_bits, entF_bits, FOe_count, entF_count, FOe_first, entF_first, FOe_last, entF_last, FOe_total, entF_total, FOe_least, entF_least, FOe_greatest, entF_greatest, FOe_parts, entF_parts, FOb_entry, FOb_many, FOb_first, FOb_length, FOb_spans, FOb_steps, FOb_bottom, FOb_top, FOb_inner, blkF_entry, blkF_many, blkF_first, blkF_length, blkF_spans, blkF_steps, blkF_bottom, blkF_top, blkF_inner, blkF_no_none, blkF_no_letters, blkF_no_behind, blkF_no_wanted, blkF_no_values_go_on, blkF_no_gaps_go_on, blkF_no_goes_on])

/-- the entry of a row -/
structure EntOf (rs : List (Int × Int)) (size : Int) (e : Ent) : Prop where
  bits : e.bits = size
  count : e.count = rs.length
  first : ∃ p, rs[0]? = some p ∧ e.first = p.1
  last : ∃ p, rs[rs.length - 1]? = some p ∧ e.last = p.1
  total : e.total = (rs.map Prod.snd).sum
  l1 : e.least ∈ rs.map Prod.snd
  l2 : ∀ v ∈ rs.map Prod.snd, e.least ≤ v
  g1 : e.greatest ∈ rs.map Prod.snd
  g2 : ∀ v ∈ rs.map Prod.snd, v ≤ e.greatest
def gapM (gs : List Int) (ah : Option Int) (m : Int) : Int := match ah with
  | none => -1
  | some a => (clsOf gs (m - a) : Nat)
/-- the signs of a row -/
def signsM (vs gs : List Int) : Option Int → List (Int × Int) → List (Int × Int)
  | _, [] => []
  | ah, p :: rs => (((clsOf vs p.2 : Nat) : Int), gapM gs ah p.1) :: signsM vs gs (some p.1) rs
def lastM (ah : Option Int) (rs : List (Int × Int)) : Option Int := match rs.getLast? with
  | none => ah
  | some p => some p.1
theorem signsM_snoc (vs gs : List Int) (p : Int × Int) : ∀ (rs : List (Int × Int)) (ah : Option Int), signsM vs gs ah (rs ++ [p]) = signsM vs gs ah rs ++ signsM vs gs (lastM ah rs) [p]
  | [], ah => rfl
  | q :: rs, ah => by
    have e : lastM ah (q :: rs) = lastM (some q.1) rs := by
      unfold lastM
      cases rs with
      | nil => rfl
      | cons r rs => rw [List.getLast?_cons_cons]; cases h : (r :: rs).getLast? with
        | none => simp at h
        | some z => rfl
    rw [e]
    show _ :: signsM vs gs (some q.1) (rs ++ [p]) = _ :: (signsM vs gs (some q.1) rs ++ _)
    rw [signsM_snoc vs gs p rs]
theorem signsM_len (vs gs : List Int) : ∀ (rs : List (Int × Int)) (ah : Option Int), (signsM vs gs ah rs).length = rs.length
  | [], _ => rfl
  | p :: rs, _ => by rw [signsM, List.length_cons, signsM_len vs gs rs, List.length_cons]
theorem dLc_fmS {α : Type} {di : DI} {g : DG} {tt : DT} {de : DE} {vs : List Nat} {sl : List Sl} {P : List D → List Sl → Prop} (zs : List α) (h : α → D) (f : α → Option D)
    (hd : ∀ Q : List D → List Sl → Prop, Q (zs.map h) sl → di sl Q) (no : NoOwn sl vs) (hl : ∀ i ∈ vs, i < sl.length) (hz : zs.length < sizeLine)
    (step : ∀ z ∈ zs, ∀ Q1 : Option D → List Sl → Prop, Q1 (f z) sl → g (h z) (wipeS sl vs) fun sl3 => tt sl3 fun b sl4 => if b = true then de sl4 fun d sl5 => Q1 (some d) (backS sl sl5 vs) else Q1 none (backS sl sl4 vs))
    (fin : P (zs.filterMap f) sl) : dLc di g tt de vs sl P := dLc_fmA zs h f hd no hl hz step fin
def cutF (n c : Int) : Option D := if c ≤ n then some (.int c) else none
theorem cutF_len (cs : List Int) (n : Int) : (cs.filterMap (cutF n)).length = clsOf cs n := by
  unfold clsOf
  induction cs with
  | nil => rfl
  | cons c cs ih =>
    by_cases h : c ≤ n
    · rw [List.filterMap_cons_some (show cutF n c = some (.int c) from if_pos h), List.filter_cons_of_pos (by simpa using h), List.length_cons, List.length_cons, ih]
    · rw [List.filterMap_cons_none (show cutF n c = none from if_neg h), List.filter_cons_of_neg (by simpa using h), ih]
section
variable {w : World} {K : PySem.W.Frag} {mg : Str → Option Value} {base : Heap}
def sp_law_entry : SD := fun ds P => ∃ (x : D) (rs : List (Int × Int)) (size : Int), ds = [x, .int size] ∧ (x = .lst (rs.map prD) ∨ x = .tup (rs.map prD)) ∧ 0 < rs.length ∧ rs.length ≤ 1000 ∧ ∀ e, EntOf rs size e → P (tI e.l)
theorem ok_law_entry (T : Txt K mg) : FnOk Prog w K mg base CX0 1 T.law_entry.f T.law_entry.fd ["row", "size"] (SpD K sp_law_entry) := by
  refine okD T.law_entry.fu sc_law_entry (fun ds P ⟨x, rs, size, q, _⟩ => by rw [q]; rfl) (fun cdv A outer s H E Fm hr =>
    (dss_cons (ds_setLc (i := 2) (own := [("moment", 3), ("value", 4)]) rfl sc_law_entry.nd rfl rfl (by rfl) (di_seq (de_var 0)) (blkOk_by (by kernel_rfl)) (fun _ _ _ _ _ _ => (dg_tup (n := 2) rfl (dgs_cons (dg_name (i := 3) sc_law_entry.nd rfl (by first | exact Or.inl rfl | exact Or.inr rfl)) (dgs_cons (dg_name (i := 4) sc_law_entry.nd rfl (by first | exact Or.inl rfl | exact Or.inr rfl)) dgs_nil)))) (fun _ _ _ _ _ _ => dts_nil) (fun _ _ _ _ _ _ => (de_var 4)))
      (dss_one (ds_ret (de_tup (da_cons (de_var 1) (da_cons (de_len (by rfl) T.b_len (de_var 0)) (da_cons (de_ix (de_ix (de_var 0) de_int) de_int) (da_cons (de_ix (de_ix (de_var 0) (de_neg de_int)) de_int) (da_cons (de_callB (cr_sumA rfl) lr_sumA (by rfl) T.b_sum (by decide +kernel) (da_cons (de_var 2) da_nil)) (da_cons (de_callB (cr_min rfl) lr_min (by rfl) T.b_min (by decide +kernel) (da_cons (de_var 2) da_nil)) (da_cons (de_callB (cr_max rfl) lr_max (by rfl) T.b_max (by decide +kernel) (da_cons (de_var 2) da_nil)) da_nil)))))))))))) (fun ds Q ⟨x, rs, size, q, hx, h0, h1, k⟩ => ?_)
  subst q
  have a0 : atI (rs.map prD) 0 = some (prD (rs[0]'h0)) := atI_nat (k := 0) (by rw [List.getElem?_map, List.getElem?_eq_getElem h0]; rfl)
  have am : atI (rs.map prD) (-1) = some (prD (rs[rs.length - 1]'(by omega))) := by
    unfold atI ixN
    rw [if_neg (by decide), if_pos (by rw [List.length_map]; omega), Option.bind_some, List.length_map, show (-1 + (rs.length : Int)).toNat = rs.length - 1 by omega, List.getElem?_map, List.getElem?_eq_getElem (by omega)]
    rfl
  have vl : 0 < (rs.map Prod.snd).length := by rw [List.length_map]; exact h0
  have iv : intsD (rs.map fun p => D.int p.2) = some (rs.map Prod.snd) := ints_mapf rs Prod.snd
  rcases hx with rfl | rfl
  · refine seq_cut fun B hB => ?_
    walk_at "dl"
    refine dLc_mapA (sl1 := ?_) rs prD (fun p => .int p.2) (fun Q h => ?_) ?_ ?_ (by rw [sizeLine_eq]; omega) (fun z hz Q1 h => ?_) ?_
    rotate_left
    · walk_at "dl"
      exact h
    · exact no_of rfl
    · exact len_of rfl
    · walk_at "dl"
      exact h
    · subst hB
      simp only [dSeq, dIfS, dTest, dOp, rdLt, rdLe, rdGt, rdGe, rdEq, rdNe, rdI0, rdI, rdPlus, rdTimes, rdIsN, rdNotN, rdIsB, rdIsi, dIsiT, dVar, dC, dRet, dRetN, dNext, dNever, dDrop, dAsg, dSetN, gNm, gTp, gCn, gNl, dCB, dCall, dCallM, dCons, dNil, dStar, dTup, rdInt, rdAbs, rdLen, rdBool, rdReprF, rdTuple, rdAll, rdAny, rdSum, rdSumA, rdMax2, rdMin2, rdMax, rdMin, dLenB, dIxB, gSb, dAnd, dOr, dNot, dAndV, dOrV, dNotV, dIf, dChain, dChain3, dUn, rdIx, dShare, dLst, dPar, dPar3, dParN1, dParN2, dParNN, dList, dAugS, dAsg2, dTupZip, dFld, dFldI, dFset, gFs, dMeth, dMake, dSl, dNoP, dPart, dAug, dYes, dApp, dPop, dPopAt, wipeS, backS, iSq, iLs, iTp, iEnq, iZq, iRg1, iRg2, tI, prD, spansD, vcuts, startS, startM, startI, lstAt, setLst, D.cv, D.cvs, D.isNon, D.seq, atI_0, atI_1, atI_2, atI_3, atI_4, atI_5, atI_6, Int.cast_ofNat_Int, Int.natCast_one, Int.natCast_zero, Int.reduceEq, Int.reduceLE, Int.reduceLT, decide_true, decide_false, List.getElem?_cons_succ, List.getElem?_cons_zero, List.length_cons, List.length_nil, List.map_cons, List.map_nil, List.cons_append, List.nil_append, List.append_nil, Nat.reduceAdd, Nat.reduceSub, List.replicate, Option.some.injEq, exists_eq_left', exists_eq_left, exists_eq', exists_and_left, exists_and_right, true_and, and_true, List.set_cons_zero, List.set_cons_succ, decide_eq_true_eq, Option.bind_some, Option.map_some, reduceIte, if_true, if_false, Bool.false_eq_true, Bool.not_true, Bool.not_false, Sl.io.injEq, Sl.sh.injEq, FOe_bits, entF_bits, FOe_count, entF_count, FOe_first, entF_first, FOe_last, entF_last, FOe_total, entF_total, FOe_least, entF_least, FOe_greatest, entF_greatest, FOe_parts, entF_parts, FOb_entry, FOb_many, FOb_first, FOb_length, FOb_spans, FOb_steps, FOb_bottom, FOb_top, FOb_inner, blkF_entry, blkF_many, blkF_first, blkF_length, blkF_spans, blkF_steps, blkF_bottom, blkF_top, blkF_inner, blkF_no_none, blkF_no_letters, blkF_no_behind, blkF_no_wanted, blkF_no_values_go_on, blkF_no_gaps_go_on, blkF_no_goes_on, a0, am]
      refine ⟨_, iv, _, iv, vl, fun lo m1 m2 => ⟨_, iv, vl, fun hi n1 n2 => ⟨by decide, ?_⟩⟩⟩
      rw [List.length_map]
      exact k ⟨size, rs.length, _, _, _, lo, hi⟩ ⟨rfl, rfl, ⟨_, List.getElem?_eq_getElem h0, rfl⟩, ⟨_, List.getElem?_eq_getElem (by omega), rfl⟩, rfl, m1, m2, n1, n2⟩
  · refine seq_cut fun B hB => ?_
    walk_at "dl"
    refine dLc_mapA (sl1 := ?_) rs prD (fun p => .int p.2) (fun Q h => ?_) ?_ ?_ (by rw [sizeLine_eq]; omega) (fun z hz Q1 h => ?_) ?_
    rotate_left
    · walk_at "dl"
      exact h
    · exact no_of rfl
    · exact len_of rfl
    · walk_at "dl"
      exact h
    · subst hB
      simp only [dSeq, dIfS, dTest, dOp, rdLt, rdLe, rdGt, rdGe, rdEq, rdNe, rdI0, rdI, rdPlus, rdTimes, rdIsN, rdNotN, rdIsB, rdIsi, dIsiT, dVar, dC, dRet, dRetN, dNext, dNever, dDrop, dAsg, dSetN, gNm, gTp, gCn, gNl, dCB, dCall, dCallM, dCons, dNil, dStar, dTup, rdInt, rdAbs, rdLen, rdBool, rdReprF, rdTuple, rdAll, rdAny, rdSum, rdSumA, rdMax2, rdMin2, rdMax, rdMin, dLenB, dIxB, gSb, dAnd, dOr, dNot, dAndV, dOrV, dNotV, dIf, dChain, dChain3, dUn, rdIx, dShare, dLst, dPar, dPar3, dParN1, dParN2, dParNN, dList, dAugS, dAsg2, dTupZip, dFld, dFldI, dFset, gFs, dMeth, dMake, dSl, dNoP, dPart, dAug, dYes, dApp, dPop, dPopAt, wipeS, backS, iSq, iLs, iTp, iEnq, iZq, iRg1, iRg2, tI, prD, spansD, vcuts, startS, startM, startI, lstAt, setLst, D.cv, D.cvs, D.isNon, D.seq, atI_0, atI_1, atI_2, atI_3, atI_4, atI_5, atI_6, Int.cast_ofNat_Int, Int.natCast_one, Int.natCast_zero, Int.reduceEq, Int.reduceLE, Int.reduceLT, decide_true, decide_false, List.getElem?_cons_succ, List.getElem?_cons_zero, List.length_cons, List.length_nil, List.map_cons, List.map_nil, List.cons_append, List.nil_append, List.append_nil, Nat.reduceAdd, Nat.reduceSub, List.replicate, Option.some.injEq, exists_eq_left', exists_eq_left, exists_eq', exists_and_left, exists_and_right, true_and, and_true, List.set_cons_zero, List.set_cons_succ, decide_eq_true_eq, Option.bind_some, Option.map_some, reduceIte, if_true, if_false, Bool.false_eq_true, Bool.not_true, Bool.not_false, Sl.io.injEq, Sl.sh.injEq, FOe_bits, entF_bits, FOe_count, entF_count, FOe_first, entF_first, FOe_last, entF_last, FOe_total, entF_total, FOe_least, entF_least, FOe_greatest, entF_greatest, FOe_parts, entF_parts, FOb_entry, FOb_many, FOb_first, FOb_length, FOb_spans, FOb_steps, FOb_bottom, FOb_top, FOb_inner, blkF_entry, blkF_many, blkF_first, blkF_length, blkF_spans, blkF_steps, blkF_bottom, blkF_top, blkF_inner, blkF_no_none, blkF_no_letters, blkF_no_behind, blkF_no_wanted, blkF_no_values_go_on, blkF_no_gaps_go_on, blkF_no_goes_on, a0, am]
      refine ⟨_, iv, _, iv, vl, fun lo m1 m2 => ⟨_, iv, vl, fun hi n1 n2 => ⟨by decide, ?_⟩⟩⟩
      rw [List.length_map]
      exact k ⟨size, rs.length, _, _, _, lo, hi⟩ ⟨rfl, rfl, ⟨_, List.getElem?_eq_getElem h0, rfl⟩, ⟨_, List.getElem?_eq_getElem (by omega), rfl⟩, rfl, m1, m2, n1, n2⟩
def sp_law_paper (CE : Addr) : SD := fun ds P => ∃ e : Ent, ds = [tI e.l] ∧ P (.ins CE (entF e))
theorem ok_law_paper (T : Txt K mg) : FnOk Prog w K mg base CX0 7 T.law_paper.f T.law_paper.fd ["entry"] (SpD K (sp_law_paper T.a_Entry)) := by
  have G_Entry___init__ : FnOk Prog w K mg base CX0 5 T.Entry___init__.f T.Entry___init__.fd _ _ := ok_Entry T
  refine okD T.law_paper.fu sc_law_paper (fun ds P ⟨e, q, _⟩ => by rw [q]; rfl) (fun cdv A outer s H E Fm hr =>
    (dss_one (ds_ret (de_make T.C_Entry.mkk (G_Entry___init__) (hr.mono (by decide)) (by rfl) T.C_Entryg T.Entry___init__.bi .nil (fun _ => .nil) (da_cons (de_ix (de_var 0) de_int) (da_cons (de_ix (de_var 0) de_int) (da_cons (de_ix (de_var 0) de_int) (da_cons (de_ix (de_var 0) de_int) (da_cons (de_ix (de_var 0) de_int) (da_cons (de_ix (de_var 0) de_int) (da_cons (de_ix (de_var 0) de_int) da_nil))))))))))) (fun ds Q ⟨e, q, h2⟩ => ?_)
  subst q
  simp only [dSeq, dIfS, dTest, dOp, rdLt, rdLe, rdGt, rdGe, rdEq, rdNe, rdI0, rdI, rdPlus, rdTimes, rdIsN, rdNotN, rdIsB, rdIsi, dIsiT, dVar, dC, dRet, dRetN, dNext, dNever, dDrop, dAsg, dSetN, gNm, gTp, gCn, gNl, dCB, dCall, dCallM, dCons, dNil, dStar, dTup, rdInt, rdAbs, rdLen, rdBool, rdReprF, rdTuple, rdAll, rdAny, rdSum, rdSumA, rdMax2, rdMin2, rdMax, rdMin, dLenB, dIxB, gSb, dAnd, dOr, dNot, dAndV, dOrV, dNotV, dIf, dChain, dChain3, dUn, rdIx, dShare, dLst, dPar, dPar3, dParN1, dParN2, dParNN, dList, dAugS, dAsg2, dTupZip, dFld, dFldI, dFset, gFs, dMeth, dMake, dSl, dNoP, dPart, dAug, dYes, dApp, dPop, dPopAt, wipeS, backS, iSq, iLs, iTp, iEnq, iZq, iRg1, iRg2, tI, prD, spansD, vcuts, startS, startM, startI, lstAt, setLst, D.cv, D.cvs, D.isNon, D.seq, atI_0, atI_1, atI_2, atI_3, atI_4, atI_5, atI_6, Int.cast_ofNat_Int, Int.natCast_one, Int.natCast_zero, Int.reduceEq, Int.reduceLE, Int.reduceLT, decide_true, decide_false, List.getElem?_cons_succ, List.getElem?_cons_zero, List.length_cons, List.length_nil, List.map_cons, List.map_nil, List.cons_append, List.nil_append, List.append_nil, Nat.reduceAdd, Nat.reduceSub, List.replicate, Option.some.injEq, exists_eq_left', exists_eq_left, exists_eq', exists_and_left, exists_and_right, true_and, and_true, List.set_cons_zero, List.set_cons_succ, decide_eq_true_eq, Option.bind_some, Option.map_some, reduceIte, if_true, if_false, Bool.false_eq_true, Bool.not_true, Bool.not_false, Sl.io.injEq, Sl.sh.injEq, FOe_bits, entF_bits, FOe_count, entF_count, FOe_first, entF_first, FOe_last, entF_last, FOe_total, entF_total, FOe_least, entF_least, FOe_greatest, entF_greatest, FOe_parts, entF_parts, FOb_entry, FOb_many, FOb_first, FOb_length, FOb_spans, FOb_steps, FOb_bottom, FOb_top, FOb_inner, blkF_entry, blkF_many, blkF_first, blkF_length, blkF_spans, blkF_steps, blkF_bottom, blkF_top, blkF_inner, blkF_no_none, blkF_no_letters, blkF_no_behind, blkF_no_wanted, blkF_no_values_go_on, blkF_no_gaps_go_on, blkF_no_goes_on, Ent.l]
  exact ⟨e, rfl, rfl, h2⟩
def sp_law_span : SD := fun ds P => ∃ (cs : List Int) (k : Nat) (lo hi : Int), ds = [tI cs, .int (k : Nat), .int lo, .int hi] ∧ k ≤ cs.length ∧ P (spD (spanAt cs lo hi k))
theorem ok_law_span (T : Txt K mg) : FnOk Prog w K mg base CX0 1 T.law_span.f T.law_span.fd ["cuts", "at", "low", "high"] (SpD K sp_law_span) := by
  refine okD T.law_span.fu sc_law_span (fun ds P ⟨cs, k, lo, hi, q, _⟩ => by rw [q]; rfl) (fun cdv A outer s H E Fm hr =>
    (dss_cons (ds_set (i := 4) sc_law_span.nd rfl (by first | exact Or.inl rfl | exact Or.inr rfl) (de_if (dt_cmp (op_eq2 hr.units) lr_eq (de_var 1) de_int) (de_var 2) (de_callB (call_max2 rfl) lr_max2 (by rfl) T.b_max (by decide +kernel) (da_cons (de_var 2) (da_cons (de_ix (de_var 0) (de_sub (de_var 1) de_int)) da_nil)))))
      (dss_cons (ds_set (i := 5) sc_law_span.nd rfl (by first | exact Or.inl rfl | exact Or.inr rfl) (de_if (dt_cmp (op_eq2 hr.units) lr_eq (de_var 1) (de_len (by rfl) T.b_len (de_var 0))) (de_var 3) (de_callB (call_min2 rfl) lr_min2 (by rfl) T.b_min (by decide +kernel) (da_cons (de_var 3) (da_cons (de_sub (de_ix (de_var 0) (de_var 1)) de_int) da_nil)))))
      (dss_one (ds_ret (de_if (dt_cmp op_le lr_le (de_var 4) (de_var 5)) (de_tup (da_cons (de_var 4) (da_cons (de_var 5) da_nil))) de_non)))))) (fun ds Q ⟨cs, k, lo, hi, q, hk, h2⟩ => ?_)
  subst q
  have hat : ∀ k : Nat, k < cs.length → atI (cs.map D.int) (k : Int) = some (.int (cs.getD k 0)) := fun k hk => atI_int hk
  have two : 2 ≤ sizeLine := by decide
  have tail : ∀ (l : Int), (l = if k = 0 then lo else if cs.getD (k - 1) 0 > lo then cs.getD (k - 1) 0 else lo) → ∀ m : Int, (m = if k = cs.length then hi else if cs.getD k 0 - 1 < hi then cs.getD k 0 - 1 else hi) → if l ≤ m then 2 ≤ sizeLine ∧ Q (.tup [.int l, .int m]) else Q .non := fun l hl m hm => by
    unfold spanAt at h2
    dsimp only at h2
    rw [← hl, ← hm] at h2
    by_cases h : l ≤ m
    · rw [if_pos h] at h2 ⊢
      exact ⟨two, h2⟩
    · rw [if_neg h] at h2 ⊢
      exact h2
  walk_at "dl"
  rw [List.length_map]
  by_cases h0 : k = 0
  · rw [if_pos (show (k : Int) = 0 by omega)]
    by_cases h1 : k = cs.length
    · rw [if_pos (show (k : Int) = (cs.length : Int) by omega)]
      exact tail lo (by rw [if_pos h0]) hi (by rw [if_pos h1])
    · rw [if_neg (show ¬ (k : Int) = (cs.length : Int) by omega)]
      exact ⟨_, hat k (by omega), tail lo (by rw [if_pos h0]) _ (by rw [if_neg h1])⟩
  · rw [if_neg (show ¬ (k : Int) = 0 by omega), show (k : Int) - 1 = ((k - 1 : Nat) : Int) by omega]
    refine ⟨_, hat (k - 1) (by omega), ?_⟩
    walk_at "dl"
    by_cases h1 : k = cs.length
    · rw [if_pos (show (k : Int) = (cs.length : Int) by omega)]
      exact tail _ (by rw [if_neg h0]) hi (by rw [if_pos h1])
    · rw [if_neg (show ¬ (k : Int) = (cs.length : Int) by omega)]
      exact ⟨_, hat k (by omega), tail _ (by rw [if_neg h0]) _ (by rw [if_neg h1])⟩
def sp_law_signs : SD := fun ds P => ∃ (x cv cg : D) (rs : List (Int × Int)) (ah : Option Int) (vs gs : List Int), ds = [x, ahD ah, .tup [cv, cg]] ∧ (x = .lst (rs.map prD) ∨ x = .tup (rs.map prD)) ∧ (cv = .lst (vs.map D.int) ∨ cv = tI vs) ∧ (cg = .lst (gs.map D.int) ∨ cg = tI gs) ∧ rs.length ≤ 1000 ∧ vs.length ≤ 1000 ∧ gs.length ≤ 1000 ∧ P (.tup ((signsM vs gs ah rs).map prD))
theorem ok_law_signs (T : Txt K mg) : FnOk Prog w K mg base CX0 1 T.law_signs.f T.law_signs.fd ["row", "ahead", "cuts"] (SpD K sp_law_signs) := by
  refine okD T.law_signs.fu sc_law_signs (fun ds P ⟨x, cv, cg, rs, ah, vs, gs, q, _⟩ => by rw [q]; rfl) (fun cdv A outer s H E Fm hr =>
    (dss_cons (ds_tupN1 (i := 3) (j := 4) rfl sc_law_signs.nd rfl rfl (by first | exact Or.inl rfl | exact Or.inr rfl) (by first | exact Or.inl rfl | exact Or.inr rfl) (dn_lst da_nil) (fun _ => (de_var 1)))
      (dss_cons (ds_for PassesOwn.never rfl (di_seq (de_var 0)) (dg_tup (n := 2) rfl (dgs_cons (dg_name (i := 5) sc_law_signs.nd rfl (by first | exact Or.inl rfl | exact Or.inr rfl)) (dgs_cons (dg_name (i := 6) sc_law_signs.nd rfl (by first | exact Or.inl rfl | exact Or.inr rfl)) dgs_nil))) (dss_cons (ds_set (i := 7) sc_law_signs.nd rfl (by first | exact Or.inl rfl | exact Or.inr rfl) (de_if (dt_cmp op_isN lr_isN (de_var 4) de_non) (de_neg de_int) (de_len (by rfl) T.b_len (de_new (dn_lc (own := [("cut", 8)]) rfl sc_law_signs.nd (di_seq (de_ix (de_var 2) de_int)) (blkOk_by (by kernel_rfl)) (fun _ _ _ _ _ _ => (dg_name (i := 8) sc_law_signs.nd rfl (by first | exact Or.inl rfl | exact Or.inr rfl))) (fun _ _ _ _ _ _ => (dts_one (dt_cmp op_le lr_le (de_var 8) (de_sub (de_var 5) (de_var 4))))) (fun _ _ _ _ _ _ => (de_var 8)))))))
      (dss_cons (ds_expr (de_app 3 (de_tup (da_cons (de_len (by rfl) T.b_len (de_new (dn_lc (own := [("cut", 8)]) rfl sc_law_signs.nd (di_seq (de_ix (de_var 2) de_int)) (blkOk_by (by kernel_rfl)) (fun _ _ _ _ _ _ => (dg_name (i := 8) sc_law_signs.nd rfl (by first | exact Or.inl rfl | exact Or.inr rfl))) (fun _ _ _ _ _ _ => (dts_one (dt_cmp op_le lr_le (de_var 8) (de_var 6)))) (fun _ _ _ _ _ _ => (de_var 8))))) (da_cons (de_var 7) da_nil)))))
      (dss_one (ds_set (i := 4) sc_law_signs.nd rfl (by first | exact Or.inl rfl | exact Or.inr rfl) (de_var 5))))))
      (dss_one (ds_ret (de_callTy call_tuple_of lr_tuple (by rfl) T.b_tuple (by decide +kernel) (da_cons (de_var 3) da_nil))))))) (fun ds Q ⟨x, cv, cg, rs, ah, vs, gs, q, hx, hv, hg, l1, l2, l3, h2⟩ => ?_)
  subst q
  refine seq_cut fun B hB => ?_
  walk_at "dl"
  refine ⟨by decide, ?_⟩
  subst hB
  refine seq_cut fun B hB => ?_
  refine dFor_of (sl1 := [.sh x, .sh (ahD ah), .sh (.tup [cv, cg]), .ow [], .sh (ahD ah), .un, .un, .un, .un]) (items := rs.map prD) (fun i sl => ∃ (a b c : Sl), sl = [.sh x, .sh (ahD ah), .sh (.tup [cv, cg]), .ow ((signsM vs gs ah (rs.take i)).map prD), .sh (ahD (lastM ah (rs.take i))), a, b, c, .un]) (fun Q h => ?_) ?_ ?_ ?_
  · rcases hx with rfl | rfl
    · walk_at "dl"
      exact h
    · walk_at "dl"
      exact h
  · exact ⟨_, _, _, rfl⟩
  · rintro i y sl hi ⟨a, b, c, rfl⟩
    rw [List.getElem?_map] at hi
    obtain ⟨p, hp, rfl⟩ := Option.map_eq_some_iff.mp hi
    have li : i < rs.length := (List.getElem?_eq_some_iff.mp hp).1
    have tk : rs.take (i + 1) = rs.take i ++ [p] := by rw [List.take_add_one, hp]; rfl
    have lm : lastM ah (rs.take (i + 1)) = some p.1 := by rw [tk]; unfold lastM; rw [List.getLast?_append]; rfl
    rw [lm, tk, signsM_snoc]
    generalize lastM ah (rs.take i) = bf
    have al : (signsM vs gs ah (rs.take i)).length < 1000 := by rw [signsM_len, List.length_take]; omega
    generalize signsM vs gs ah (rs.take i) = acc at al
    refine seq_cutG fun B hB => ?_
    unfold gTp gCn
    walk_at "dl"
    have rest : ∀ (N : DN), (∀ a b c : Sl, N.nx [Sl.sh x, Sl.sh (ahD ah), Sl.sh (D.tup [cv, cg]), Sl.ow (List.map prD (acc ++ signsM vs gs bf [p])), Sl.sh (ahD (some p.fst)), a, b, c, Sl.un]) → B N
        [Sl.sh x, Sl.sh (ahD ah), Sl.sh (D.tup [cv, cg]), Sl.ow (List.map prD acc), Sl.sh (ahD bf), Sl.sh (D.int p.fst), Sl.sh (D.int p.snd), Sl.sh (D.int (gapM gs bf p.1)), Sl.un] := fun N hN => by
      subst hB
      walk_at "dl"
      refine dLc_fmS vs D.int (cutF p.2) (fun Q h => ?_) ?_ ?_ (by rw [sizeLine_eq]; omega) (fun z hz Q1 h => ?_) ?_
      · rcases hv with rfl | rfl
        · walk_at "dl"
          exact h
        · walk_at "dl"
          exact h
      · exact no_of rfl
      · exact len_of rfl
      · walk_at "dl"
        unfold cutF at h
        by_cases hc : z ≤ p.2
        · rw [if_pos hc] at h ⊢
          exact h
        · rw [if_neg hc] at h ⊢
          exact h
      · rw [cutF_len]
        walk_at "dl"
        refine ⟨by decide, by rw [List.length_map, sizeLine_eq]; omega, ?_⟩
        have := hN (Sl.sh (D.int p.fst)) (Sl.sh (D.int p.snd)) (Sl.sh (D.int (gapM gs bf p.1)))
        rw [List.map_append] at this
        exact this
    cases bf with
    | none =>
      unfold ahD at rest ⊢
      dsimp only at rest ⊢
      rw [if_pos rfl]
      exact rest _ fun a b c => ⟨a, b, c, rfl⟩
    | some a0 =>
      unfold ahD at rest ⊢
      dsimp only at rest ⊢
      rw [if_neg (by decide)]
      refine dLc_fmS gs D.int (cutF (p.1 - a0)) (fun Q h => ?_) ?_ ?_ (by rw [sizeLine_eq]; omega) (fun z hz Q1 h => ?_) ?_
      · rcases hg with rfl | rfl
        · walk_at "dl"
          exact h
        · walk_at "dl"
          exact h
      · exact no_of rfl
      · exact len_of rfl
      · walk_at "dl"
        unfold cutF at h
        by_cases hc : z ≤ p.1 - a0
        · rw [if_pos hc] at h
          rw [if_pos hc]
          exact h
        · rw [if_neg hc] at h
          rw [if_neg hc]
          exact h
      · rw [cutF_len]
        exact rest _ fun a b c => ⟨a, b, c, rfl⟩
  · rintro sl ⟨a, b, c, rfl⟩
    rw [List.length_map, List.take_length]
    subst hB
    walk_at "dl"
    exact h2
end
end K21
end
section
set_option maxRecDepth 100000
set_option maxHeartbeats 4000000
namespace K21
open PySem PySem.Spec PyProof.Rows L2 RZ StX NdefX DL
local macro_rules | `(tactic| walk_at "dl") => `(tactic| simp only [dSeq, dIfS, dTest, dOp, rdLt, rdLe, rdGt, rdGe, rdEq, rdNe, rdI0, rdI, rdPlus, rdTimes, rdIsN, rdNotN, rdIsB, rdIsi, dIsiT, dVar, dC, dRet, dRetN, dNext, dNever, dDrop, dAsg, dSetN, gNm, gTp, gCn, gNl, dCB, dCall, dCallM, dCons, dNil, dStar, dTup, rdInt, rdAbs, rdLen, rdBool, rdReprF, rdTuple, rdAll, rdAny, rdSum, rdSumA, rdMax2, rdMin2, rdMax, rdMin, dLenB, dIxB, gSb, dAnd, dOr, dNot, dAndV, dOrV, dNotV, dIf, dChain, dChain3, dUn, rdIx, dShare, dLst, dPar, dPar3, dParN1, dParN2, dParNN, dList, dAugS, dAsg2, dTupZip, dFld, dFldI, dFset, gFs, dMeth, dMake, dSl, dNoP, dPart, dAug, dYes, dApp, dPop, dPopAt, wipeS, backS, iSq, iLs, iTp, iEnq, iZq, iRg1, iRg2, tI, prD, spansD, vcuts, startS, startM, startI, lstAt, setLst, D.cv, D.cvs, D.isNon, D.seq, atI_0, atI_1, atI_2, atI_3, atI_4, atI_5, atI_6, Int.cast_ofNat_Int, Int.natCast_one, Int.natCast_zero, Int.reduceEq, Int.reduceLE, Int.reduceLT, decide_true, decide_false, List.getElem?_cons_succ, List.getElem?_cons_zero, List.length_cons, List.length_nil, List.map_cons, List.map_nil, List.cons_append, List.nil_append, List.append_nil, Nat.reduceAdd, Nat.reduceSub, List.replicate, Option.some.injEq, exists_eq_left', exists_eq_left, exists_eq', exists_and_left, exists_and_right, true_and, and_true, List.set_cons_zero, List.set_cons_succ, decide_eq_true_eq, Option.bind_some, Option.map_some, reduceIte, if_true, if_false, Bool.false_eq_true, Bool.not_true, Bool.not_false, Sl.io.injEq, Sl.sh.injEq, FOe_bits, entF_bits, FOe_count, entF_count, FOe_first, entF_first, FOe_last, entF_last, FOe_total, entF_total, FOe_least, entF_least, FOe_greatest, entF_greatest, FOe_parts, entF_parts, FOb_entry, FOb_many, FOb_first, FOb_length, FOb_spans, FOb_steps, FOb_bottom, FOb_top, FOb_inner, blkF_entry, blkF_many, blkF_first, blkF_length, blkF_spans, blkF_steps, blkF_bottom, blkF_top, blkF_inner, blkF_no_none, blkF_no_letters, blkF_no_behind, blkF_no_wanted, blkF_no_values_go_on, blkF_no_gaps_go_on, blkF_no_goes_on])

theorem dLc_mapS {α : Type} {di : DI} {g : DG} {de : DE} {vs : List Nat} {sl : List Sl} {P : List D → List Sl → Prop} (zs : List α) (h : α → D) (f : α → D)
    (hd : ∀ Q : List D → List Sl → Prop, Q (zs.map h) sl → di sl Q) (no : NoOwn sl vs) (hl : ∀ i ∈ vs, i < sl.length) (hz : zs.length < sizeLine)
    (step : ∀ z ∈ zs, ∀ Q1 : D → List Sl → Prop, Q1 (f z) sl → g (h z) (wipeS sl vs) fun sl3 => de sl3 fun d sl5 => Q1 d (backS sl sl5 vs))
    (fin : P (zs.map f) sl) : dLc di g dYes de vs sl P := dLc_mapA zs h f hd no hl hz step fin
def pyS : Option (Int × Int) → PyData
  | none => .none
  | some p => pyP p
theorem pys_sps (l : List (Option (Int × Int))) : D.pys (l.map spD) = some (l.map pyS) := by
  induction l with
  | nil => rfl
  | cons x l ih =>
    rw [List.map_cons, D.pys, ih]
    cases x <;> rfl
theorem lay_sps (l : List (Option (Int × Int))) : PyData.canLayAll0 (l.map pyS) = true := by
  induction l with
  | nil => rfl
  | cons x l ih =>
    rw [List.map_cons, PyData.canLayAll0, ih]
    cases x <;> rfl
theorem dep_sps (l : List (Option (Int × Int))) : PyData.depthAll (l.map pyS) ≤ 1 := by
  induction l with
  | nil => exact Nat.zero_le _
  | cons x l ih =>
    rw [List.map_cons, PyData.depthAll]
    have : PyData.depth (pyS x) ≤ 1 := by cases x with | none => exact Nat.zero_le _ | some p => exact Nat.le_refl 1
    omega
theorem shp_ls (l : List (Option (Int × Int))) : SeqAt.shaped (.list (l.map pyS)) = true := by
  have := dep_sps l
  simp only [SeqAt.shaped, PyData.canLay0, PyData.depth, lay_sps, Bool.true_and]
  exact decide_eq_true (by omega)
theorem any_none (l : List (Option (Int × Int))) : ((l.map pyS).any fun z => PyData.eqv z .none) = !(l.all fun s => s.isSome) := by
  induction l with
  | nil => rfl
  | cons x l ih =>
    rw [List.map_cons, List.any_cons, ih, List.all_cons]
    cases x with
    | none => rfl
    | some p => simp [pyS, pyP, PyData.eqv]
def spV (b : Blk) (k : Int) : Option (Int × Int) := spanAt b.vs b.e.least b.e.greatest k.toNat
def spG (b : Blk) (k : Int) : Option (Int × Int) := spanAt b.gs 1 (b.e.last - b.e.first) k.toNat
def needM (b : Blk) : Int := if b.bottom = b.top ∧ b.e.least < b.e.greatest then 2 else 1
def cutsB (b : Blk) (ws : List (Int × Int)) (k : Nat) : Nat := (ws.map Prod.fst).count (k : Int)
theorem clsOf_le (cs : List Int) (n : Int) : clsOf cs n ≤ cs.length := List.length_filter_le _ _
def sumF (l : List (Option (Int × Int))) : Int := (l.map fun s => (s.getD (0, 0)).1).sum
def sumS (l : List (Option (Int × Int))) : Int := (l.map fun s => (s.getD (0, 0)).2).sum
def canL (b : Blk) (w0 : Int × Int) (ks : List Int) (L G : List (Option (Int × Int))) (p t : Int) : Bool :=
  decide (w0.2 = firstM b.gs b.e b.ah) && (L.all (fun s => s.isSome) && (G.all (fun s => s.isSome) && (decide (needM b ≤ (ks.count (b.bottom : Int) : Nat)) && (decide (1 ≤ ks.count (b.top : Int)) &&
    ((decide (sumF L + b.e.greatest - t ≤ b.e.total) && decide (b.e.total ≤ sumS L + b.e.least - p)) && (decide (sumF G ≤ b.e.last - b.e.first) && decide (b.e.last - b.e.first ≤ sumS G)))))))
def canM (b : Blk) (w0 : Int × Int) (ws : List (Int × Int)) (p t : Int) : Bool := canL b w0 ((w0 :: ws).map Prod.fst) ((w0 :: ws).map fun s => spV b s.1) (ws.map fun s => spG b s.2) p t
section
variable {w : World} {K : PySem.W.Frag} {mg : Str → Option Value} {base : Heap}
def sp_law_can : SD := fun ds P => ∃ (b : Blk) (w0 : Int × Int) (ws : List (Int × Int)) (o p t f : Int), ds = [tI b.e.l, ahD b.ah, vcuts b.vs b.gs, .lst ((w0 :: ws).map prD)] ∧ BlkOk b ∧ EntOk b.e ∧ spV b b.bottom = some (o, p) ∧ spV b b.top = some (t, f) ∧ ws.length ≤ 900 ∧
  (∀ s ∈ w0 :: ws, 0 ≤ s.1 ∧ s.1 ≤ b.vs.length) ∧ (∀ s ∈ ws, 0 ≤ s.2 ∧ s.2 ≤ b.gs.length) ∧ P (.bl (canM b w0 ws p t))
theorem ok_law_can (T : Txt K mg) : FnOk Prog w K mg base CX0 2 T.law_can.f T.law_can.fd ["entry", "ahead", "cuts", "word"] (SpD K sp_law_can) := by
  have G_law_span : FnOk Prog w K mg base CX0 1 T.law_span.f T.law_span.fd _ _ := ok_law_span T
  refine okD T.law_can.fu sc_law_can (fun ds P ⟨b, w0, ws, o, p, t, f, q, _⟩ => by rw [q]; rfl) (fun cdv A outer s H E Fm hr =>
    (dss_cons (ds_asg (de_var 0) (dg_tup (n := 7) rfl (dgs_cons (dg_name (i := 4) sc_law_can.nd rfl (by first | exact Or.inl rfl | exact Or.inr rfl)) (dgs_cons (dg_name (i := 5) sc_law_can.nd rfl (by first | exact Or.inl rfl | exact Or.inr rfl)) (dgs_cons (dg_name (i := 6) sc_law_can.nd rfl (by first | exact Or.inl rfl | exact Or.inr rfl)) (dgs_cons (dg_name (i := 7) sc_law_can.nd rfl (by first | exact Or.inl rfl | exact Or.inr rfl)) (dgs_cons (dg_name (i := 8) sc_law_can.nd rfl (by first | exact Or.inl rfl | exact Or.inr rfl)) (dgs_cons (dg_name (i := 9) sc_law_can.nd rfl (by first | exact Or.inl rfl | exact Or.inr rfl)) (dgs_cons (dg_name (i := 10) sc_law_can.nd rfl (by first | exact Or.inl rfl | exact Or.inr rfl)) dgs_nil)))))))))
      (dss_cons (ds_setLc (i := 11) (own := [("sign", 19)]) rfl sc_law_can.nd rfl rfl (by rfl) (di_seq (de_var 3)) (blkOk_by (by kernel_rfl)) (fun _ _ _ _ _ _ => (dg_name (i := 19) sc_law_can.nd rfl (by first | exact Or.inl rfl | exact Or.inr rfl))) (fun _ _ _ _ _ _ => dts_nil) (fun _ _ _ _ _ _ => (de_call (G_law_span) (hr.mono (by decide)) (by rfl) T.law_span.mgf T.law_span.fu.kp T.law_span.bi .nil (fun _ => .nil) (da_cons (de_ix (de_var 2) de_int) (da_cons (de_ix (de_var 19) de_int) (da_cons (de_var 9) (da_cons (de_var 10) da_nil)))))))
      (dss_cons (ds_setLc (i := 12) (own := [("sign", 19)]) rfl sc_law_can.nd rfl rfl (by rfl) (di_seq (de_sl (de_var 3) (do_some de_int) do_none)) (blkOk_by (by kernel_rfl)) (fun _ _ _ _ _ _ => (dg_name (i := 19) sc_law_can.nd rfl (by first | exact Or.inl rfl | exact Or.inr rfl))) (fun _ _ _ _ _ _ => dts_nil) (fun _ _ _ _ _ _ => (de_call (G_law_span) (hr.mono (by decide)) (by rfl) T.law_span.mgf T.law_span.fu.kp T.law_span.bi .nil (fun _ => .nil) (da_cons (de_ix (de_var 2) de_int) (da_cons (de_ix (de_var 19) de_int) (da_cons de_int (da_cons (de_callB (call_max2 rfl) lr_max2 (by rfl) T.b_max (by decide +kernel) (da_cons de_int (da_cons (de_sub (de_var 7) (de_var 6)) da_nil))) da_nil)))))))
      (dss_cons (ds_set (i := 13) sc_law_can.nd rfl (by first | exact Or.inl rfl | exact Or.inr rfl) (de_if (dt_cmp op_isN lr_isN (de_var 1) de_non) (de_neg de_int) (de_len (by rfl) T.b_len (de_new (dn_lc (own := [("cut", 20)]) rfl sc_law_can.nd (di_seq (de_ix (de_var 2) de_int)) (blkOk_by (by kernel_rfl)) (fun _ _ _ _ _ _ => (dg_name (i := 20) sc_law_can.nd rfl (by first | exact Or.inl rfl | exact Or.inr rfl))) (fun _ _ _ _ _ _ => (dts_one (dt_cmp op_le lr_le (de_var 20) (de_sub (de_var 6) (de_var 1))))) (fun _ _ _ _ _ _ => (de_var 20)))))))
      (dss_cons (ds_if (dt_w (dw_or (dt_cmp (op_ne2 hr.units) lr_ne (de_ix (de_ix (de_var 3) de_int) de_int) (de_var 13)) (dw_or (dt_cmp (op_inD (un65 hr)) lr_in de_non (de_var 11)) (dw_or1 (dt_cmp (op_inD (un65 hr)) lr_in de_non (de_var 12)))))) (dss_one (ds_ret de_bl)) dss_nil)
      (dss_cons (ds_par (i := 14) (j := 15) rfl sc_law_can.nd rfl rfl (by decide) rfl rfl (de_len (by rfl) T.b_len (de_new (dn_lc (own := [("cut", 20)]) rfl sc_law_can.nd (di_seq (de_ix (de_var 2) de_int)) (blkOk_by (by kernel_rfl)) (fun _ _ _ _ _ _ => (dg_name (i := 20) sc_law_can.nd rfl (by first | exact Or.inl rfl | exact Or.inr rfl))) (fun _ _ _ _ _ _ => (dts_one (dt_cmp op_le lr_le (de_var 20) (de_var 10)))) (fun _ _ _ _ _ _ => (de_var 20))))) (de_len (by rfl) T.b_len (de_new (dn_lc (own := [("cut", 20)]) rfl sc_law_can.nd (di_seq (de_ix (de_var 2) de_int)) (blkOk_by (by kernel_rfl)) (fun _ _ _ _ _ _ => (dg_name (i := 20) sc_law_can.nd rfl (by first | exact Or.inl rfl | exact Or.inr rfl))) (fun _ _ _ _ _ _ => (dts_one (dt_cmp op_le lr_le (de_var 20) (de_var 9)))) (fun _ _ _ _ _ _ => (de_var 20))))) (by rfl))
      (dss_cons (ds_setLc (i := 16) (own := [("sign", 19)]) rfl sc_law_can.nd rfl rfl (by rfl) (di_seq (de_var 3)) (blkOk_by (by kernel_rfl)) (fun _ _ _ _ _ _ => (dg_name (i := 19) sc_law_can.nd rfl (by first | exact Or.inl rfl | exact Or.inr rfl))) (fun _ _ _ _ _ _ => dts_nil) (fun _ _ _ _ _ _ => (de_ix (de_var 19) de_int)))
      (dss_cons (ds_if (dt_w (dw_or (dt_cmp op_lt lr_lt (de_count (de_var 16) (de_var 15)) (de_if (dt_w (dw_and (dt_cmp (op_eq2 hr.units) lr_eq (de_var 15) (de_var 14)) (dw_and1 (dt_cmp op_lt lr_lt (de_var 9) (de_var 10))))) de_int de_int)) (dw_or1 (dt_cmp op_lt lr_lt (de_count (de_var 16) (de_var 14)) de_int)))) (dss_one (ds_ret de_bl)) dss_nil)
      (dss_cons (ds_set (i := 17) sc_law_can.nd rfl (by first | exact Or.inl rfl | exact Or.inr rfl) (de_sub (de_plus (de_callB (cr_sumA rfl) lr_sumA (by rfl) T.b_sum (by decide +kernel) (da_cons (de_new (dn_lc (own := [("span", 21)]) rfl sc_law_can.nd (di_seq (de_var 11)) (blkOk_by (by kernel_rfl)) (fun _ _ _ _ _ _ => (dg_name (i := 21) sc_law_can.nd rfl (by first | exact Or.inl rfl | exact Or.inr rfl))) (fun _ _ _ _ _ _ => dts_nil) (fun _ _ _ _ _ _ => (de_ix (de_var 21) de_int)))) da_nil)) (de_var 10)) (de_ix (de_call (G_law_span) (hr.mono (by decide)) (by rfl) T.law_span.mgf T.law_span.fu.kp T.law_span.bi .nil (fun _ => .nil) (da_cons (de_ix (de_var 2) de_int) (da_cons (de_var 14) (da_cons (de_var 9) (da_cons (de_var 10) da_nil))))) de_int)))
      (dss_cons (ds_set (i := 18) sc_law_can.nd rfl (by first | exact Or.inl rfl | exact Or.inr rfl) (de_sub (de_plus (de_callB (cr_sumA rfl) lr_sumA (by rfl) T.b_sum (by decide +kernel) (da_cons (de_new (dn_lc (own := [("span", 21)]) rfl sc_law_can.nd (di_seq (de_var 11)) (blkOk_by (by kernel_rfl)) (fun _ _ _ _ _ _ => (dg_name (i := 21) sc_law_can.nd rfl (by first | exact Or.inl rfl | exact Or.inr rfl))) (fun _ _ _ _ _ _ => dts_nil) (fun _ _ _ _ _ _ => (de_ix (de_var 21) de_int)))) da_nil)) (de_var 9)) (de_ix (de_call (G_law_span) (hr.mono (by decide)) (by rfl) T.law_span.mgf T.law_span.fu.kp T.law_span.bi .nil (fun _ => .nil) (da_cons (de_ix (de_var 2) de_int) (da_cons (de_var 15) (da_cons (de_var 9) (da_cons (de_var 10) da_nil))))) de_int)))
      (dss_cons (ds_if (dt_not (dt_chain op_le lr_le op_le lr_le (de_var 17) (de_var 8) (de_var 18))) (dss_one (ds_ret de_bl)) dss_nil)
      (dss_one (ds_ret (de_chain op_le lr_le op_le lr_le (de_callB (cr_sumA rfl) lr_sumA (by rfl) T.b_sum (by decide +kernel) (da_cons (de_new (dn_lc (own := [("span", 21)]) rfl sc_law_can.nd (di_seq (de_var 12)) (blkOk_by (by kernel_rfl)) (fun _ _ _ _ _ _ => (dg_name (i := 21) sc_law_can.nd rfl (by first | exact Or.inl rfl | exact Or.inr rfl))) (fun _ _ _ _ _ _ => dts_nil) (fun _ _ _ _ _ _ => (de_ix (de_var 21) de_int)))) da_nil)) (de_sub (de_var 7) (de_var 6)) (de_callB (cr_sumA rfl) lr_sumA (by rfl) T.b_sum (by decide +kernel) (da_cons (de_new (dn_lc (own := [("span", 21)]) rfl sc_law_can.nd (di_seq (de_var 12)) (blkOk_by (by kernel_rfl)) (fun _ _ _ _ _ _ => (dg_name (i := 21) sc_law_can.nd rfl (by first | exact Or.inl rfl | exact Or.inr rfl))) (fun _ _ _ _ _ _ => dts_nil) (fun _ _ _ _ _ _ => (de_ix (de_var 21) de_int)))) da_nil))))))))))))))))) (fun ds Q ⟨b, w0, ws, o, p, t, f, q, ok, eo, hb, ht, hz, hv, hg, h2⟩ => ?_)
  subst q
  have o1 := ok.v
  have o2 := ok.g
  have e1 := eo.fl
  have e2 := eo.c2
  refine seq_cut fun B hB => ?_
  simp only [dSeq, dIfS, dTest, dOp, rdLt, rdLe, rdGt, rdGe, rdEq, rdNe, rdI0, rdI, rdPlus, rdTimes, rdIsN, rdNotN, rdIsB, rdIsi, dIsiT, dVar, dC, dRet, dRetN, dNext, dNever, dDrop, dAsg, dSetN, gNm, gTp, gCn, gNl, dCB, dCall, dCallM, dCons, dNil, dStar, dTup, rdInt, rdAbs, rdLen, rdBool, rdReprF, rdTuple, rdAll, rdAny, rdSum, rdSumA, rdMax2, rdMin2, rdMax, rdMin, dLenB, dIxB, gSb, dAnd, dOr, dNot, dAndV, dOrV, dNotV, dIf, dChain, dChain3, dUn, rdIx, dShare, dLst, dPar, dPar3, dParN1, dParN2, dParNN, dList, dAugS, dAsg2, dTupZip, dFld, dFldI, dFset, gFs, dMeth, dMake, dSl, dNoP, dPart, dAug, dYes, dApp, dPop, dPopAt, wipeS, backS, iSq, iLs, iTp, iEnq, iZq, iRg1, iRg2, tI, prD, spansD, vcuts, startS, startM, startI, lstAt, setLst, D.cv, D.cvs, D.isNon, D.seq, atI_0, atI_1, atI_2, atI_3, atI_4, atI_5, atI_6, Int.cast_ofNat_Int, Int.natCast_one, Int.natCast_zero, Int.reduceEq, Int.reduceLE, Int.reduceLT, decide_true, decide_false, List.getElem?_cons_succ, List.getElem?_cons_zero, List.length_cons, List.length_nil, List.map_cons, List.map_nil, List.cons_append, List.nil_append, List.append_nil, Nat.reduceAdd, Nat.reduceSub, List.replicate, Option.some.injEq, exists_eq_left', exists_eq_left, exists_eq', exists_and_left, exists_and_right, true_and, and_true, List.set_cons_zero, List.set_cons_succ, decide_eq_true_eq, Option.bind_some, Option.map_some, reduceIte, if_true, if_false, Bool.false_eq_true, Bool.not_true, Bool.not_false, Sl.io.injEq, Sl.sh.injEq, FOe_bits, entF_bits, FOe_count, entF_count, FOe_first, entF_first, FOe_last, entF_last, FOe_total, entF_total, FOe_least, entF_least, FOe_greatest, entF_greatest, FOe_parts, entF_parts, FOb_entry, FOb_many, FOb_first, FOb_length, FOb_spans, FOb_steps, FOb_bottom, FOb_top, FOb_inner, blkF_entry, blkF_many, blkF_first, blkF_length, blkF_spans, blkF_steps, blkF_bottom, blkF_top, blkF_inner, blkF_no_none, blkF_no_letters, blkF_no_behind, blkF_no_wanted, blkF_no_values_go_on, blkF_no_gaps_go_on, blkF_no_goes_on, Ent.l]
  subst hB
  refine seq_cut fun B hB => ?_
  walk_at "dl"
  refine dLc_mapS (w0 :: ws) prD (fun s => spD (spV b s.1)) (fun Q h => ?_) ?_ ?_ (by rw [List.length_cons, sizeLine_eq]; omega) (fun z hz Q1 h => ?_) ?_
  · walk_at "dl"
    exact h
  · exact no_of rfl
  · exact len_of rfl
  · walk_at "dl"
    obtain ⟨h0, h1⟩ := hv z hz
    exact ⟨b.vs, z.1.toNat, _, _, by rw [Int.toNat_of_nonneg h0]; rfl, by omega, h⟩
  · subst hB
    refine seq_cut fun B hB => ?_
    walk_at "dl"
    refine dLc_mapS ws prD (fun s => spD (spG b s.2)) (fun Q h => ?_) ?_ ?_ (by rw [sizeLine_eq]; omega) (fun z hz Q1 h => ?_) ?_
    · walk_at "dl"
      rw [show (1 : Int) = ((1 : Nat) : Int) from rfl, cut_from]
      exact h
    · exact no_of rfl
    · exact len_of rfl
    · walk_at "dl"
      obtain ⟨h0, h1⟩ := hg z hz
      exact ⟨b.gs, z.2.toNat, 1, b.e.last - b.e.first, by rw [Int.toNat_of_nonneg h0, show (if b.e.last - b.e.first > 1 then b.e.last - b.e.first else 1) = b.e.last - b.e.first by split <;> omega]; rfl, by omega, h⟩
    · subst hB
      refine seq_cut fun B hB => ?_
      have rest : B { nx := fun x => Q D.non, rt := fun d x => Q d } [.sh (tI b.e.l), .sh (ahD b.ah), .sh (vcuts b.vs b.gs), .sh (.lst ((w0 :: ws).map prD)), .sh (.int b.e.bits), .sh (.int b.e.count), .sh (.int b.e.first), .sh (.int b.e.last), .sh (.int b.e.total), .sh (.int b.e.least), .sh (.int b.e.greatest),
          .sh (.lst ((w0 :: ws).map fun s => spD (spV b s.1))), .sh (.lst (ws.map fun s => spD (spG b s.2))), .sh (.int (firstM b.gs b.e b.ah)), .un, .un, .un, .un, .un, .un, .un, .un] := by
        subst hB
        have se : ((w0 :: ws).map fun s => spD (spV b s.1)) = ((w0 :: ws).map fun s => spV b s.1).map spD := by rw [List.map_map]; rfl
        have ge : (ws.map fun s => spD (spG b s.2)) = (ws.map fun s => spG b s.2).map spD := by rw [List.map_map]; rfl
        rw [se, ge]
        unfold canM at h2
        have ll : ((w0 :: ws).map fun s => spV b s.1).length ≤ 901 := by rw [List.length_map, List.length_cons]; omega
        have lg : (ws.map fun s => spG b s.2).length ≤ 901 := by rw [List.length_map]; omega
        generalize hL : ((w0 :: ws).map fun s => spV b s.1) = L at h2 ll ⊢
        generalize hG : (ws.map fun s => spG b s.2) = G at h2 lg ⊢
        refine seq_cut fun B hB => ?_
        simp only [dSeq, dIfS, dTest, dOp, rdLt, rdLe, rdGt, rdGe, rdEq, rdNe, rdI0, rdI, rdPlus, rdTimes, rdIsN, rdNotN, rdIsB, rdIsi, dIsiT, dVar, dC, dRet, dRetN, dNext, dNever, dDrop, dAsg, dSetN, gNm, gTp, gCn, gNl, dCB, dCall, dCallM, dCons, dNil, dStar, dTup, rdInt, rdAbs, rdLen, rdBool, rdReprF, rdTuple, rdAll, rdAny, rdSum, rdSumA, rdMax2, rdMin2, rdMax, rdMin, dLenB, dIxB, gSb, dAnd, dOr, dNot, dAndV, dOrV, dNotV, dIf, dChain, dChain3, dUn, rdIx, dShare, dLst, dPar, dPar3, dParN1, dParN2, dParNN, dList, dAugS, dAsg2, dTupZip, dFld, dFldI, dFset, gFs, dMeth, dMake, dSl, dNoP, dPart, dAug, dYes, dApp, dPop, dPopAt, wipeS, backS, iSq, iLs, iTp, iEnq, iZq, iRg1, iRg2, tI, prD, spansD, vcuts, startS, startM, startI, lstAt, setLst, D.cv, D.cvs, D.isNon, D.seq, atI_0, atI_1, atI_2, atI_3, atI_4, atI_5, atI_6, Int.cast_ofNat_Int, Int.natCast_one, Int.natCast_zero, Int.reduceEq, Int.reduceLE, Int.reduceLT, decide_true, decide_false, List.getElem?_cons_succ, List.getElem?_cons_zero, List.length_cons, List.length_nil, List.map_cons, List.map_nil, List.cons_append, List.nil_append, List.append_nil, Nat.reduceAdd, Nat.reduceSub, List.replicate, Option.some.injEq, exists_eq_left', exists_eq_left, exists_eq', exists_and_left, exists_and_right, true_and, and_true, List.set_cons_zero, List.set_cons_succ, decide_eq_true_eq, Option.bind_some, Option.map_some, reduceIte, if_true, if_false, Bool.false_eq_true, Bool.not_true, Bool.not_false, Sl.io.injEq, Sl.sh.injEq, FOe_bits, entF_bits, FOe_count, entF_count, FOe_first, entF_first, FOe_last, entF_last, FOe_total, entF_total, FOe_least, entF_least, FOe_greatest, entF_greatest, FOe_parts, entF_parts, FOb_entry, FOb_many, FOb_first, FOb_length, FOb_spans, FOb_steps, FOb_bottom, FOb_top, FOb_inner, blkF_entry, blkF_many, blkF_first, blkF_length, blkF_spans, blkF_steps, blkF_bottom, blkF_top, blkF_inner, blkF_no_none, blkF_no_letters, blkF_no_behind, blkF_no_wanted, blkF_no_values_go_on, blkF_no_gaps_go_on, blkF_no_goes_on, rdIn]
        unfold canL at h2
        by_cases c1 : w0.2 = firstM b.gs b.e b.ah
        case neg =>
          rw [decide_eq_false c1] at h2 ⊢
          exact h2
        rw [decide_eq_true c1] at h2 ⊢
        rw [Bool.true_and] at h2
        walk_at "dl"
        refine ⟨.none, rfl, _, by rw [D.py, pys_sps]; rfl, rfl, shp_ls _, ?_⟩
        rw [any_none]
        cases c2 : L.all fun s => s.isSome with
        | false =>
          rw [c2] at h2
          exact h2
        | true =>
          rw [c2, Bool.true_and] at h2
          walk_at "dl"
          refine ⟨.none, rfl, _, by rw [D.py, pys_sps]; rfl, rfl, shp_ls _, ?_⟩
          rw [any_none]
          cases c3 : G.all fun s => s.isSome with
          | false =>
            rw [c3] at h2
            exact h2
          | true =>
            rw [c3, Bool.true_and] at h2
            walk_at "dl"
            subst hB
            refine seq_cut fun B hB => ?_
            walk_at "dl"
            refine dLc_fmS b.vs D.int (cutF b.e.greatest) (fun Q h => ?_) ?_ ?_ (by rw [sizeLine_eq]; omega) (fun z hz Q1 h => ?_) ?_
            · walk_at "dl"
              exact h
            · exact no_of rfl
            · exact len_of rfl
            · walk_at "dl"
              unfold cutF at h
              by_cases hc : z ≤ b.e.greatest
              · rw [if_pos hc] at h
                rw [if_pos hc]
                exact h
              · rw [if_neg hc] at h
                rw [if_neg hc]
                exact h
            rw [cutF_len]
            refine dLc_fmS b.vs D.int (cutF b.e.least) (fun Q h => ?_) ?_ ?_ (by rw [sizeLine_eq]; omega) (fun z hz Q1 h => ?_) ?_
            · walk_at "dl"
              exact h
            · exact no_of rfl
            · exact len_of rfl
            · walk_at "dl"
              unfold cutF at h
              by_cases hc : z ≤ b.e.least
              · rw [if_pos hc] at h
                rw [if_pos hc]
                exact h
              · rw [if_neg hc] at h
                rw [if_neg hc]
                exact h
            rw [cutF_len]
            subst hB
            refine seq_cut fun B hB => ?_
            walk_at "dl"
            refine dLc_mapS (w0 :: ws) prD (fun s => .int s.1) (fun Q h => ?_) ?_ ?_ (by rw [List.length_cons, sizeLine_eq]; omega) (fun z hz Q1 h => ?_) ?_
            · walk_at "dl"
              exact h
            · exact no_of rfl
            · exact len_of rfl
            · walk_at "dl"
              exact h
            have ke : ((w0 :: ws).map fun s => D.int s.1) = ((w0 :: ws).map Prod.fst).map D.int := by rw [List.map_map]; rfl
            rw [ke]
            generalize (w0 :: ws).map Prod.fst = ks at h2 ⊢
            subst hB
            refine seq_cut fun B hB => ?_
            have rest2 : needM b ≤ (ks.count (b.bottom : Int) : Nat) → 1 ≤ ks.count (b.top : Int) → B { nx := fun x => Q D.non, rt := fun d x => Q d } [.sh (tI b.e.l), .sh (ahD b.ah), .sh (vcuts b.vs b.gs), .sh (.lst ((w0 :: ws).map prD)), .sh (.int b.e.bits), .sh (.int b.e.count), .sh (.int b.e.first), .sh (.int b.e.last), .sh (.int b.e.total), .sh (.int b.e.least), .sh (.int b.e.greatest), .sh (.lst (L.map spD)), .sh (.lst (G.map spD)), .sh (.int (firstM b.gs b.e b.ah)), .sh (.int (b.top : Nat)), .sh (.int (b.bottom : Nat)), .sh (.lst (ks.map D.int)), .un, .un, .un, .un, .un] := fun c4 c5 => by
              rw [decide_eq_true c4, decide_eq_true c5, Bool.true_and, Bool.true_and] at h2
              subst hB
              have et : spanAt b.vs b.e.least b.e.greatest b.top = some (t, f) := by rw [← ht]; unfold spV; rw [Int.toNat_natCast]
              have eb : spanAt b.vs b.e.least b.e.greatest b.bottom = some (o, p) := by rw [← hb]; unfold spV; rw [Int.toNat_natCast]
              have lt : b.top ≤ b.vs.length := clsOf_le _ _
              have lb : b.bottom ≤ b.vs.length := clsOf_le _ _
              refine seq_cut fun B hB => ?_
              walk_at "dl"
              refine dLc_mapS L spD (fun s => .int (s.getD (0, 0)).1) (fun Q h => ?_) ?_ ?_ (by rw [sizeLine_eq]; omega) (fun z hz Q1 h => ?_) ?_
              · walk_at "dl"
                exact h
              · exact no_of rfl
              · exact len_of rfl
              · have zs := List.all_eq_true.mp c2 z hz
                cases z with
                | none => cases zs
                | some z =>
                  simp only [spD]
                  walk_at "dl"
                  exact h
              refine ⟨_, ints_mapf L fun s => (s.getD (0, 0)).1, ?_⟩
              walk_at "dl"
              refine ⟨b.vs, b.top, _, _, rfl, lt, ?_⟩
              rw [et]
              simp only [spD]
              walk_at "dl"
              subst hB
              refine seq_cut fun B hB => ?_
              walk_at "dl"
              refine dLc_mapS L spD (fun s => .int (s.getD (0, 0)).2) (fun Q h => ?_) ?_ ?_ (by rw [sizeLine_eq]; omega) (fun z hz Q1 h => ?_) ?_
              · walk_at "dl"
                exact h
              · exact no_of rfl
              · exact len_of rfl
              · have zs := List.all_eq_true.mp c2 z hz
                cases z with
                | none => cases zs
                | some z =>
                  simp only [spD]
                  walk_at "dl"
                  exact h
              refine ⟨_, ints_mapf L fun s => (s.getD (0, 0)).2, ?_⟩
              walk_at "dl"
              refine ⟨b.vs, b.bottom, _, _, rfl, lb, ?_⟩
              rw [eb]
              simp only [spD]
              walk_at "dl"
              subst hB
              refine seq_cut fun B hB => ?_
              walk_at "dl"
              by_cases d1 : sumF L + b.e.greatest - t ≤ b.e.total
              case neg =>
                rw [decide_eq_false d1, Bool.false_and, Bool.false_and] at h2
                unfold sumF at d1
                rw [if_neg d1]
                exact h2
              by_cases d2 : b.e.total ≤ sumS L + b.e.least - p
              case neg =>
                rw [decide_eq_false d2, Bool.and_false, Bool.false_and] at h2
                unfold sumF at d1
                unfold sumS at d2
                rw [if_pos d1, decide_eq_false d2]
                exact h2
              rw [decide_eq_true d1, decide_eq_true d2, Bool.true_and, Bool.true_and] at h2
              unfold sumF at d1
              unfold sumS at d2
              rw [if_pos d1, decide_eq_true d2]
              walk_at "dl"
              subst hB
              walk_at "dl"
              refine dLc_mapS G spD (fun s => .int (s.getD (0, 0)).1) (fun Q h => ?_) ?_ ?_ (by rw [sizeLine_eq]; omega) (fun z hz Q1 h => ?_) ?_
              · walk_at "dl"
                exact h
              · exact no_of rfl
              · exact len_of rfl
              · have zs := List.all_eq_true.mp c3 z hz
                cases z with
                | none => cases zs
                | some z =>
                  simp only [spD]
                  walk_at "dl"
                  exact h
              refine ⟨_, ints_mapf G fun s => (s.getD (0, 0)).1, ?_⟩
              walk_at "dl"
              by_cases d3 : sumF G ≤ b.e.last - b.e.first
              case neg =>
                rw [decide_eq_false d3, Bool.false_and] at h2
                unfold sumF at d3
                rw [if_neg d3]
                exact h2
              rw [decide_eq_true d3, Bool.true_and] at h2
              unfold sumF at d3
              rw [if_pos d3]
              refine dLc_mapS G spD (fun s => .int (s.getD (0, 0)).2) (fun Q h => ?_) ?_ ?_ (by rw [sizeLine_eq]; omega) (fun z hz Q1 h => ?_) ?_
              · walk_at "dl"
                exact h
              · exact no_of rfl
              · exact len_of rfl
              · have zs := List.all_eq_true.mp c3 z hz
                cases z with
                | none => cases zs
                | some z =>
                  simp only [spD]
                  walk_at "dl"
                  exact h
              exact ⟨_, ints_mapf G fun s => (s.getD (0, 0)).2, h2⟩
            have go : ∀ n : Int, n = needM b → if ((ks.count (b.bottom : Int) : Nat) : Int) < n then Q (.bl false) else (∃ ds, D.lst (ks.map D.int) = D.lst ds) ∧ ∃ ns, intsD (ks.map D.int) = some ns ∧ if ((ns.count (b.top : Int) : Nat) : Int) < 1 then Q (.bl false) else B { nx := fun x => Q D.non, rt := fun d x => Q d } [.sh (tI b.e.l), .sh (ahD b.ah), .sh (vcuts b.vs b.gs), .sh (.lst ((w0 :: ws).map prD)), .sh (.int b.e.bits), .sh (.int b.e.count), .sh (.int b.e.first), .sh (.int b.e.last), .sh (.int b.e.total), .sh (.int b.e.least), .sh (.int b.e.greatest), .sh (.lst (L.map spD)), .sh (.lst (G.map spD)), .sh (.int (firstM b.gs b.e b.ah)), .sh (.int (b.top : Nat)), .sh (.int (b.bottom : Nat)), .sh (.lst (ks.map D.int)), .un, .un, .un, .un, .un] := fun n hn => by
              subst hn
              by_cases c4 : needM b ≤ (ks.count (b.bottom : Int) : Nat)
              · rw [if_neg (by omega)]
                refine ⟨⟨_, rfl⟩, _, DL.ints_map ks, ?_⟩
                by_cases c5 : 1 ≤ ks.count (b.top : Int)
                · rw [if_neg (by omega)]
                  exact rest2 c4 c5
                · rw [if_pos (by omega)]
                  rw [decide_eq_false c5, Bool.false_and, Bool.and_false] at h2
                  exact h2
              · rw [if_pos (by omega)]
                rw [decide_eq_false c4, Bool.false_and] at h2
                exact h2
            simp only [dSeq, dIfS, dTest, dOp, rdLt, rdLe, rdGt, rdGe, rdEq, rdNe, rdI0, rdI, rdPlus, rdTimes, rdIsN, rdNotN, rdIsB, rdIsi, dIsiT, dVar, dC, dRet, dRetN, dNext, dNever, dDrop, dAsg, dSetN, gNm, gTp, gCn, gNl, dCB, dCall, dCallM, dCons, dNil, dStar, dTup, rdInt, rdAbs, rdLen, rdBool, rdReprF, rdTuple, rdAll, rdAny, rdSum, rdSumA, rdMax2, rdMin2, rdMax, rdMin, dLenB, dIxB, gSb, dAnd, dOr, dNot, dAndV, dOrV, dNotV, dIf, dChain, dChain3, dUn, rdIx, dShare, dLst, dPar, dPar3, dParN1, dParN2, dParNN, dList, dAugS, dAsg2, dTupZip, dFld, dFldI, dFset, gFs, dMeth, dMake, dSl, dNoP, dPart, dAug, dYes, dApp, dPop, dPopAt, wipeS, backS, iSq, iLs, iTp, iEnq, iZq, iRg1, iRg2, tI, prD, spansD, vcuts, startS, startM, startI, lstAt, setLst, D.cv, D.cvs, D.isNon, D.seq, atI_0, atI_1, atI_2, atI_3, atI_4, atI_5, atI_6, Int.cast_ofNat_Int, Int.natCast_one, Int.natCast_zero, Int.reduceEq, Int.reduceLE, Int.reduceLT, decide_true, decide_false, List.getElem?_cons_succ, List.getElem?_cons_zero, List.length_cons, List.length_nil, List.map_cons, List.map_nil, List.cons_append, List.nil_append, List.append_nil, Nat.reduceAdd, Nat.reduceSub, List.replicate, Option.some.injEq, exists_eq_left', exists_eq_left, exists_eq', exists_and_left, exists_and_right, true_and, and_true, List.set_cons_zero, List.set_cons_succ, decide_eq_true_eq, Option.bind_some, Option.map_some, reduceIte, if_true, if_false, Bool.false_eq_true, Bool.not_true, Bool.not_false, Sl.io.injEq, Sl.sh.injEq, FOe_bits, entF_bits, FOe_count, entF_count, FOe_first, entF_first, FOe_last, entF_last, FOe_total, entF_total, FOe_least, entF_least, FOe_greatest, entF_greatest, FOe_parts, entF_parts, FOb_entry, FOb_many, FOb_first, FOb_length, FOb_spans, FOb_steps, FOb_bottom, FOb_top, FOb_inner, blkF_entry, blkF_many, blkF_first, blkF_length, blkF_spans, blkF_steps, blkF_bottom, blkF_top, blkF_inner, blkF_no_none, blkF_no_letters, blkF_no_behind, blkF_no_wanted, blkF_no_values_go_on, blkF_no_gaps_go_on, blkF_no_goes_on, dCount]
            refine ⟨⟨_, rfl⟩, _, DL.ints_map ks, ?_⟩
            by_cases d1 : b.bottom = b.top
            · rw [if_pos (show ((clsOf b.vs b.e.least : Nat) : Int) = (clsOf b.vs b.e.greatest : Nat) from congrArg Int.ofNat d1)]
              by_cases d2 : b.e.least < b.e.greatest
              · rw [if_pos d2]
                exact go 2 (by unfold needM; rw [if_pos ⟨d1, d2⟩])
              · rw [if_neg d2]
                exact go 1 (by unfold needM; rw [if_neg fun h => d2 h.2])
            · rw [if_neg (show ¬ ((clsOf b.vs b.e.least : Nat) : Int) = (clsOf b.vs b.e.greatest : Nat) from fun h => d1 (Int.ofNat.inj h))]
              exact go 1 (by unfold needM; rw [if_neg fun h => d1 h.1])
      cases hah : b.ah with
      | none =>
        rw [hah] at rest
        simp only [ahD]
        walk_at "dl"
        exact rest
      | some a0 =>
        rw [hah] at rest
        simp only [ahD]
        walk_at "dl"
        refine dLc_fmS b.gs D.int (cutF (b.e.first - a0)) (fun Q h => ?_) ?_ ?_ (by rw [sizeLine_eq]; omega) (fun z hz Q1 h => ?_) ?_
        · walk_at "dl"
          exact h
        · exact no_of rfl
        · exact len_of rfl
        · walk_at "dl"
          unfold cutF at h
          by_cases hc : z ≤ b.e.first - a0
          · rw [if_pos hc] at h
            rw [if_pos hc]
            exact h
          · rw [if_neg hc] at h
            rw [if_neg hc]
            exact h
        · rw [cutF_len]
          exact rest
end
end K21
end
section
set_option maxRecDepth 100000
set_option maxHeartbeats 4000000
namespace K21
/-! M1: plain mathematics: a word can be the block's by counts exactly if it can by its own sums. -/
theorem sumLo_cons (x : Option (Int × Int)) (l : List (Option (Int × Int))) (c : Int) (cs : List Int) : sumLo (x :: l) (c :: cs) = c * (x.getD (0, 0)).1 + sumLo l cs := by
  unfold sumLo
  cases x with
  | none => simp
  | some s => simp
theorem sumHi_cons (x : Option (Int × Int)) (l : List (Option (Int × Int))) (c : Int) (cs : List Int) : sumHi (x :: l) (c :: cs) = c * (x.getD (0, 0)).2 + sumHi l cs := by
  unfold sumHi
  cases x with
  | none => simp
  | some s => simp
theorem incL_zero (x : Int) (a : List Int) : incL (x :: a) 0 = (x + 1) :: a := rfl
theorem incL_succ (x : Int) (a : List Int) (k : Nat) : incL (x :: a) (k + 1) = x :: incL a k := by
  unfold incL
  rw [List.getD_cons_succ, List.set_cons_succ]
theorem sumLo_inc : ∀ (l : List (Option (Int × Int))) (a : List Int) (k : Nat), k < a.length → a.length = l.length → sumLo l (incL a k) = sumLo l a + ((l.getD k none).getD (0, 0)).1
  | [], [], _, h, _ => absurd h (Nat.not_lt_zero _)
  | [], _ :: _, _, _, e => nomatch e
  | _ :: _, [], _, h, _ => absurd h (Nat.not_lt_zero _)
  | y :: l, x :: a, 0, _, _ => by
    rw [incL_zero, sumLo_cons, sumLo_cons, Int.add_mul]
    show _ = _ + (y.getD (0, 0)).1
    omega
  | y :: l, x :: a, k + 1, h, e => by
    rw [incL_succ, sumLo_cons, sumLo_cons, sumLo_inc l a k (by simpa using h) (by simpa using e), List.getD_cons_succ]
    omega
theorem sumHi_inc : ∀ (l : List (Option (Int × Int))) (a : List Int) (k : Nat), k < a.length → a.length = l.length → sumHi l (incL a k) = sumHi l a + ((l.getD k none).getD (0, 0)).2
  | [], [], _, h, _ => absurd h (Nat.not_lt_zero _)
  | [], _ :: _, _, _, e => nomatch e
  | _ :: _, [], _, h, _ => absurd h (Nat.not_lt_zero _)
  | y :: l, x :: a, 0, _, _ => by
    rw [incL_zero, sumHi_cons, sumHi_cons, Int.add_mul]
    show _ = _ + (y.getD (0, 0)).2
    omega
  | y :: l, x :: a, k + 1, h, e => by
    rw [incL_succ, sumHi_cons, sumHi_cons, sumHi_inc l a k (by simpa using h) (by simpa using e), List.getD_cons_succ]
    omega
theorem sum_rep (l : List (Option (Int × Int))) : sumLo l (List.replicate l.length 0) = 0 ∧ sumHi l (List.replicate l.length 0) = 0 := by
  induction l with
  | nil => exact ⟨rfl, rfl⟩
  | cons x l ih =>
    rw [List.length_cons, List.replicate_succ, sumLo_cons, sumHi_cons, ih.1, ih.2]
    simp
theorem fold_lo (l : List (Option (Int × Int))) (g : Int × Int → Nat) : ∀ (ws : List (Int × Int)) (a : List Int), a.length = l.length → (∀ s ∈ ws, g s < a.length) →
    sumLo l (ws.foldl (fun a s => incL a (g s)) a) = sumLo l a + (ws.map fun s => ((l.getD (g s) none).getD (0, 0)).1).sum ∧ sumHi l (ws.foldl (fun a s => incL a (g s)) a) = sumHi l a + (ws.map fun s => ((l.getD (g s) none).getD (0, 0)).2).sum
  | [], a, _, _ => by simp
  | w :: ws, a, e, h => by
    have h0 := h w List.mem_cons_self
    obtain ⟨i1, i2⟩ := fold_lo l g ws (incL a (g w)) (by rw [incL_len]; exact e) fun s hs => by rw [incL_len]; exact h s (List.mem_cons_of_mem _ hs)
    rw [List.foldl_cons, i1, i2, sumLo_inc l a _ h0 e, sumHi_inc l a _ h0 e, List.map_cons, List.sum_cons, List.map_cons, List.sum_cons]
    omega
theorem spans_at (b : Blk) {k : Nat} (h : k ≤ b.vs.length) : b.spans[k]? = some (spanAt b.vs b.e.least b.e.greatest k) := by
  unfold Blk.spans spansM
  rw [List.getElem?_map, List.getElem?_range (by omega)]
  rfl
theorem steps_at (b : Blk) {k : Nat} (h : k ≤ b.gs.length) : b.steps[k]? = some (spanAt b.gs 1 (b.e.last - b.e.first) k) := by
  unfold Blk.steps spansM
  rw [List.getElem?_map, List.getElem?_range (by omega)]
  rfl
theorem inner_v (b : Blk) {k : Nat} (h : k ≤ b.vs.length) : k ∈ innerM b.spans ↔ (spanAt b.vs b.e.least b.e.greatest k).isSome = true := by
  rw [mem_inner, spans_at b h]
  cases spanAt b.vs b.e.least b.e.greatest k <;> simp
theorem inner_g (b : Blk) {k : Nat} (h : k ≤ b.gs.length) : k ∈ innerM b.steps ↔ (spanAt b.gs 1 (b.e.last - b.e.first) k).isSome = true := by
  rw [mem_inner, steps_at b h]
  cases spanAt b.gs 1 (b.e.last - b.e.first) k <;> simp
theorem letter_iff (b : Blk) {s : Int × Int} {gone : Nat} (h0 : 0 ≤ s.1) (h1 : s.1 ≤ b.vs.length) : s ∈ lettersM b gone ↔ (spV b s.1).isSome = true ∧ s.2 ∈ gapsM b gone := by
  rw [mem_letters]
  have := inner_v b (k := s.1.toNat) (by omega)
  unfold spV
  rw [← this]
  constructor
  · rintro ⟨⟨k, h2, h3⟩, h4⟩
    have : k = s.1.toNat := by omega
    exact ⟨this ▸ h3, h4⟩
  · rintro ⟨h3, h4⟩
    exact ⟨⟨_, Int.toNat_of_nonneg h0, h3⟩, h4⟩
theorem gap_iff (b : Blk) {g : Int} {gone : Nat} (hg : gone ≠ 0) (h0 : 0 ≤ g) (h1 : g ≤ b.gs.length) : g ∈ gapsM b gone ↔ (spG b g).isSome = true := by
  unfold gapsM
  rw [if_neg hg, List.mem_map]
  have := inner_g b (k := g.toNat) (by omega)
  unfold spG
  rw [← this]
  constructor
  · rintro ⟨k, h2, h3⟩
    have : k = g.toNat := by omega
    exact this ▸ h2
  · intro h3
    exact ⟨_, h3, Int.toNat_of_nonneg h0⟩
theorem letters_iff (b : Blk) (w0 : Int × Int) (ws : List (Int × Int)) (hv : ∀ s ∈ w0 :: ws, 0 ≤ s.1 ∧ s.1 ≤ b.vs.length) (hg : ∀ s ∈ ws, 0 ≤ s.2 ∧ s.2 ≤ b.gs.length) :
    lettersAll b (w0 :: ws) = true ↔ w0.2 = firstM b.gs b.e b.ah ∧ (∀ s ∈ w0 :: ws, (spV b s.1).isSome = true) ∧ ∀ s ∈ ws, (spG b s.2).isSome = true := by
  unfold lettersAll
  rw [List.zipIdx_cons, List.all_cons, Bool.and_eq_true, decide_eq_true_iff, List.all_eq_true]
  have z := hv w0 List.mem_cons_self
  rw [letter_iff b z.1 z.2]
  have g0 : w0.2 ∈ gapsM b 0 ↔ w0.2 = firstM b.gs b.e b.ah := by
    unfold gapsM
    rw [if_pos rfl, List.mem_singleton]
  rw [g0]
  have ms : ∀ s ∈ ws, ∃ j, (s, j) ∈ ws.zipIdx (0 + 1) := fun s hs => by
    obtain ⟨i, hi⟩ := List.mem_iff_getElem?.mp hs
    exact ⟨i + 1, List.mem_iff_getElem?.mpr ⟨i, by rw [List.getElem?_zipIdx, hi]; simp; omega⟩⟩
  have jn : ∀ s j, (s, j) ∈ ws.zipIdx (0 + 1) → s ∈ ws ∧ j ≠ 0 := fun s j h => by
    obtain ⟨i, hi⟩ := List.mem_iff_getElem?.mp h
    rw [List.getElem?_zipIdx] at hi
    obtain ⟨x, h1, h2⟩ := Option.map_eq_some_iff.mp hi
    injection h2 with h2 h3
    subst h2
    exact ⟨List.mem_of_getElem? h1, by omega⟩
  constructor
  · rintro ⟨⟨h1, h2⟩, h3⟩
    have all : ∀ s ∈ ws, (spV b s.1).isSome = true ∧ (spG b s.2).isSome = true := fun s hs => by
      obtain ⟨j, hj⟩ := ms s hs
      have h4 := h3 (s, j) hj
      rw [decide_eq_true_iff] at h4
      have z := hv s (List.mem_cons_of_mem _ hs)
      have zg := hg s hs
      have h5 := (letter_iff b z.1 z.2).mp h4
      exact ⟨h5.1, (gap_iff b (jn s j hj).2 zg.1 zg.2).mp h5.2⟩
    refine ⟨h2, fun s hs => ?_, fun s hs => (all s hs).2⟩
    rcases List.mem_cons.mp hs with rfl | hs
    · exact h1
    · exact (all s hs).1
  · rintro ⟨h1, h2, h3⟩
    refine ⟨⟨h2 w0 List.mem_cons_self, h1⟩, ?_⟩
    rintro ⟨s, j⟩ hj
    obtain ⟨hs, j0⟩ := jn s j hj
    rw [decide_eq_true_iff]
    have z := hv s (List.mem_cons_of_mem _ hs)
    have zg := hg s hs
    exact (letter_iff b z.1 z.2).mpr ⟨h2 s (List.mem_cons_of_mem _ hs), (gap_iff b j0 zg.1 zg.2).mpr (h3 s hs)⟩
theorem metM_cons (x : Option (Int × Int)) (l : List (Option (Int × Int))) (c : Int) (cs : List Int) : metM (x :: l) (c :: cs) = ((decide (c = 0) || x.isSome) && metM l cs) := by
  unfold metM
  rw [List.zip_cons_cons, List.all_cons]
theorem met_inc : ∀ (l : List (Option (Int × Int))) (a : List Int) (k : Nat), metM l a = true → (l.getD k none).isSome = true → metM l (incL a k) = true
  | [], a, k, _, _ => by unfold metM; rw [List.zip_nil_right]; rfl
  | _ :: _, [], k, _, _ => by unfold metM incL; simp
  | y :: l, x :: a, 0, h, e => by
    rw [metM_cons, Bool.and_eq_true] at h
    rw [incL_zero, metM_cons, h.2, show y.isSome = true from e]
    simp
  | y :: l, x :: a, k + 1, h, e => by
    rw [metM_cons, Bool.and_eq_true] at h
    rw [incL_succ, metM_cons, h.1, met_inc l a k h.2 e]
    rfl
theorem met_rep (l : List (Option (Int × Int))) (n : Nat) : metM l (List.replicate n 0) = true := by
  unfold metM
  rw [List.all_eq_true]
  rintro ⟨c, x⟩ h
  have := (List.of_mem_zip h).1
  rw [List.eq_of_mem_replicate this]
  rfl
theorem fold_met (l : List (Option (Int × Int))) (g : Int × Int → Nat) : ∀ (ws : List (Int × Int)) (a : List Int), metM l a = true → (∀ s ∈ ws, (l.getD (g s) none).isSome = true) → metM l (ws.foldl (fun a s => incL a (g s)) a) = true
  | [], a, h, _ => h
  | w :: ws, a, h, hs => fold_met l g ws _ (met_inc l a _ h (hs w List.mem_cons_self)) fun s h => hs s (List.mem_cons_of_mem _ h)
theorem incL_get : ∀ (a : List Int) (k j : Nat), k < a.length → (incL a k).getD j 0 = a.getD j 0 + if k = j then 1 else 0
  | x :: a, 0, 0, _ => rfl
  | x :: a, 0, j + 1, _ => by rw [incL_zero, List.getD_cons_succ, List.getD_cons_succ, if_neg (by omega)]; omega
  | x :: a, k + 1, 0, _ => by rw [incL_succ, if_neg (by omega), List.getD_cons_zero, List.getD_cons_zero]; omega
  | x :: a, k + 1, j + 1, h => by
    rw [incL_succ, List.getD_cons_succ, List.getD_cons_succ, incL_get a k j (by simpa using h)]
    by_cases e : k = j
    · rw [if_pos e, if_pos (by omega)]
    · rw [if_neg e, if_neg (by omega)]
theorem fold_get (g : Int × Int → Nat) (j : Nat) : ∀ (ws : List (Int × Int)) (a : List Int), (∀ s ∈ ws, g s < a.length) → (ws.foldl (fun a s => incL a (g s)) a).getD j 0 = a.getD j 0 + ((ws.map g).count j : Nat)
  | [], a, _ => by simp
  | w :: ws, a, h => by
    rw [List.foldl_cons, fold_get g j ws _ (fun s hs => by rw [incL_len]; exact h s (List.mem_cons_of_mem _ hs)), incL_get _ _ _ (h w List.mem_cons_self), List.map_cons, List.count_cons]
    by_cases e : g w = j
    · rw [if_pos e, if_pos (by simpa using e)]
      omega
    · rw [if_neg e, if_neg (by simpa using e)]
      omega
theorem rep_get (n j : Nat) : (List.replicate n (0 : Int)).getD j 0 = 0 := by
  rw [List.getD_eq_getElem?_getD, List.getElem?_replicate]
  split <;> rfl
theorem cnt_int (ws : List (Int × Int)) (h : ∀ s ∈ ws, 0 ≤ s.1) (k : Nat) : (ws.map fun s => s.1.toNat).count k = (ws.map Prod.fst).count (k : Int) := by
  induction ws with
  | nil => rfl
  | cons w ws ih =>
    have h0 := h w List.mem_cons_self
    rw [List.map_cons, List.count_cons, ih fun s hs => h s (List.mem_cons_of_mem _ hs), List.map_cons, List.count_cons]
    by_cases e : w.1.toNat = k
    · rw [if_pos (by simpa using e), if_pos (by simp; omega)]
    · rw [if_neg (by simpa using e), if_neg (by simp; omega)]
theorem cntA_get (b : Blk) (ws : List (Int × Int)) (h : ∀ s ∈ ws, 0 ≤ s.1 ∧ s.1 ≤ b.vs.length) (k : Nat) : (cntA b ws).getD k 0 = ((ws.map Prod.fst).count (k : Int) : Nat) := by
  unfold cntA
  rw [fold_get (fun s => s.1.toNat) k ws _ (fun s hs => by rw [List.length_replicate, spans_len]; have := h s hs; omega), rep_get, cnt_int ws fun s hs => (h s hs).1]
  omega
theorem max0_zero (j : Int) : max0 j = 0 ↔ j ≤ 0 := by
  unfold max0
  split <;> omega
theorem want_iff (b : Blk) (ks : List Int) (a : List Int) (hl : b.e.least ≤ b.e.greatest) (h : ∀ k : Nat, a.getD k 0 = (ks.count (k : Int) : Nat)) : wantM b a = (0, 0) ↔ needM b ≤ (ks.count (b.bottom : Int) : Nat) ∧ 1 ≤ ks.count (b.top : Int) := by
  unfold wantM needM
  rw [h, h]
  by_cases c0 : b.e.least = b.e.greatest
  · have tb : b.bottom = b.top := by unfold Blk.bottom Blk.top; rw [c0]
    rw [if_pos c0, if_neg (fun h => by omega), tb, Prod.mk.injEq, max0_zero]
    omega
  · rw [if_neg c0]
    by_cases c1 : b.bottom = b.top
    · rw [if_pos c1, if_pos ⟨c1, by omega⟩, c1, Prod.mk.injEq, max0_zero]
      omega
    · rw [if_neg c1, if_neg (fun h => c1 h.1), Prod.mk.injEq, max0_zero, max0_zero]
      omega
end K21
end
section
set_option maxRecDepth 100000
set_option maxHeartbeats 4000000
namespace K21
theorem getD_v (b : Blk) {k : Nat} (h : k ≤ b.vs.length) : b.spans.getD k none = spanAt b.vs b.e.least b.e.greatest k := by rw [List.getD_eq_getElem?_getD, spans_at b h]; rfl
theorem getD_g (b : Blk) {k : Nat} (h : k ≤ b.gs.length) : b.steps.getD k none = spanAt b.gs 1 (b.e.last - b.e.first) k := by rw [List.getD_eq_getElem?_getD, steps_at b h]; rfl
theorem can_word (b : Blk) (w0 : Int × Int) (ws : List (Int × Int)) (o p t f : Int) (hl : b.e.least ≤ b.e.greatest) (hv : ∀ s ∈ w0 :: ws, 0 ≤ s.1 ∧ s.1 ≤ b.vs.length) (hg : ∀ s ∈ ws, 0 ≤ s.2 ∧ s.2 ≤ b.gs.length) :
    canM b w0 ws p t = wordM b (w0 :: ws) o p t f := by
  unfold canM canL wordM goM vGo gGo
  have li := letters_iff b w0 ws hv hg
  have wi := want_iff b ((w0 :: ws).map Prod.fst) (cntA b (w0 :: ws)) hl (cntA_get b (w0 :: ws) hv)
  have eL : ∀ s ∈ w0 :: ws, b.spans.getD s.1.toNat none = spV b s.1 := fun s hs => by have := hv s hs; rw [getD_v b (by omega)]; rfl
  have eG : ∀ s ∈ ws, b.steps.getD s.2.toNat none = spG b s.2 := fun s hs => by have := hg s hs; rw [getD_g b (by omega)]; rfl
  obtain ⟨s1, s2⟩ := fold_lo b.spans (fun s => s.1.toNat) (w0 :: ws) (List.replicate b.spans.length 0) (by rw [List.length_replicate]) (fun s hs => by rw [List.length_replicate, spans_len]; have := hv s hs; omega)
  obtain ⟨g1, g2⟩ := fold_lo b.steps (fun s => s.2.toNat) ws (List.replicate b.steps.length 0) (by rw [List.length_replicate]) (fun s hs => by rw [List.length_replicate, steps_len]; have := hg s hs; omega)
  obtain ⟨r1, r2⟩ := sum_rep b.spans
  obtain ⟨q1, q2⟩ := sum_rep b.steps
  have eA : cntA b (w0 :: ws) = (w0 :: ws).foldl (fun a s => incL a s.1.toNat) (List.replicate b.spans.length 0) := rfl
  have eC : cntC b (w0 :: ws) = ws.foldl (fun a s => incL a s.2.toNat) (List.replicate b.steps.length 0) := rfl
  have k1 : sumLo b.spans (cntA b (w0 :: ws)) = sumF ((w0 :: ws).map fun s => spV b s.1) := by
    rw [eA, s1, r1, Int.zero_add]
    unfold sumF
    rw [List.map_map]
    congr 1
    exact List.map_congr_left fun s hs => by rw [eL s hs]; rfl
  have k2 : sumHi b.spans (cntA b (w0 :: ws)) = sumS ((w0 :: ws).map fun s => spV b s.1) := by
    rw [eA, s2, r2, Int.zero_add]
    unfold sumS
    rw [List.map_map]
    congr 1
    exact List.map_congr_left fun s hs => by rw [eL s hs]; rfl
  have k3 : sumLo b.steps (cntC b (w0 :: ws)) = sumF (ws.map fun s => spG b s.2) := by
    rw [eC, g1, q1, Int.zero_add]
    unfold sumF
    rw [List.map_map]
    congr 1
    exact List.map_congr_left fun s hs => by rw [eG s hs]; rfl
  have k4 : sumHi b.steps (cntC b (w0 :: ws)) = sumS (ws.map fun s => spG b s.2) := by
    rw [eC, g2, q2, Int.zero_add]
    unfold sumS
    rw [List.map_map]
    congr 1
    exact List.map_congr_left fun s hs => by rw [eG s hs]; rfl
  rw [k1, k2, k3, k4]
  have e1 : sumS ((w0 :: ws).map fun s => spV b s.1) - p + b.e.least = sumS ((w0 :: ws).map fun s => spV b s.1) + b.e.least - p := by omega
  rw [e1]
  by_cases hA : lettersAll b (w0 :: ws) = true
  · obtain ⟨a1, a2, a3⟩ := li.mp hA
    have m1 : metM b.spans (cntA b (w0 :: ws)) = true := fold_met b.spans (fun s => s.1.toNat) (w0 :: ws) _ (met_rep _ _) fun s hs => by
      show (b.spans.getD s.1.toNat none).isSome = true
      rw [eL s hs]
      exact a2 s hs
    have m2 : metM b.steps (cntC b (w0 :: ws)) = true := fold_met b.steps (fun s => s.2.toNat) ws _ (met_rep _ _) fun s hs => by
      show (b.steps.getD s.2.toNat none).isSome = true
      rw [eG s hs]
      exact a3 s hs
    have l1 : (((w0 :: ws).map fun s => spV b s.1).all fun s => s.isSome) = true := by
      rw [List.all_map, List.all_eq_true]
      exact a2
    have l2 : ((ws.map fun s => spG b s.2).all fun s => s.isSome) = true := by
      rw [List.all_map, List.all_eq_true]
      exact a3
    rw [hA, m1, m2, l1, l2, decide_eq_true a1]
    simp only [Bool.true_and]
    have ww : decide (wantM b (cntA b (w0 :: ws)) = (0, 0)) = (decide (needM b ≤ (((w0 :: ws).map Prod.fst).count (b.bottom : Int) : Nat)) && decide (1 ≤ ((w0 :: ws).map Prod.fst).count (b.top : Int))) := by
      rw [← Bool.decide_and]
      exact decide_eq_decide.mpr wi
    rw [ww]
    simp only [Bool.and_assoc]
  · have hA' : lettersAll b (w0 :: ws) = false := by simpa using hA
    rw [hA', Bool.false_and]
    by_cases a1 : w0.2 = firstM b.gs b.e b.ah
    · cases l1 : ((w0 :: ws).map fun s => spV b s.1).all fun s => s.isSome with
      | false => simp
      | true =>
        cases l2 : (ws.map fun s => spG b s.2).all fun s => s.isSome with
        | false => simp
        | true =>
          rw [List.all_map, List.all_eq_true] at l1 l2
          exact absurd (li.mpr ⟨a1, l1, l2⟩) hA
    · rw [decide_eq_false a1, Bool.false_and]
end K21
end
section
set_option maxRecDepth 100000
set_option maxHeartbeats 4000000
namespace K21
theorem sums_le : ∀ (zs : List (Int × Int)), (∀ z ∈ zs, z.1 ≤ z.2) → (zs.map Prod.fst).sum ≤ (zs.map Prod.snd).sum
  | [], _ => by simp
  | z :: zs, h => by
    have := sums_le zs fun y hy => h y (List.mem_cons_of_mem _ hy)
    have := h z List.mem_cons_self
    simp only [List.map_cons, List.sum_cons]
    omega
theorem spr_ok : ∀ (zs : List (Int × Int)) (r : Int), (∀ z ∈ zs, z.1 ≤ z.2) → 0 ≤ r → r ≤ (zs.map Prod.snd).sum - (zs.map Prod.fst).sum →
    (∀ (i : Nat) (z : Int × Int) (v : Int), zs[i]? = some z → (sprL zs r)[i]? = some v → z.1 ≤ v ∧ v ≤ z.2) ∧ (sprL zs r).sum = (zs.map Prod.fst).sum + r
  | [], r, _, h0, h1 => ⟨fun i z v h => absurd h (by simp), by simp [sprL] at h1 ⊢; omega⟩
  | z :: zs, r, h, h0, h1 => by
    have hz := h z List.mem_cons_self
    have hs := sums_le zs fun y hy => h y (List.mem_cons_of_mem _ hy)
    simp only [List.map_cons, List.sum_cons] at h1 ⊢
    have m0 : 0 ≤ minI r (z.2 - z.1) ∧ minI r (z.2 - z.1) ≤ r ∧ minI r (z.2 - z.1) ≤ z.2 - z.1 ∧ (minI r (z.2 - z.1) = r ∨ minI r (z.2 - z.1) = z.2 - z.1) := by
      unfold minI
      split <;> omega
    rw [sprL]
    generalize minI r (z.2 - z.1) = m at m0
    obtain ⟨i1, i2⟩ := spr_ok zs (r - m) (fun y hy => h y (List.mem_cons_of_mem _ hy)) (by omega) (by omega)
    refine ⟨fun i y v hy hv => ?_, by rw [List.sum_cons, i2]; omega⟩
    cases i with
    | zero =>
      injection hy with hy
      injection hv with hv
      subst hy hv
      omega
    | succ i => exact i1 i y v hy hv
theorem sprM_ok (zs : List (Int × Int)) (total : Int) (h : ∀ z ∈ zs, z.1 ≤ z.2) (h0 : (zs.map Prod.fst).sum ≤ total) (h1 : total ≤ (zs.map Prod.snd).sum) :
    (∀ (i : Nat) (z : Int × Int) (v : Int), zs[i]? = some z → (sprM zs total)[i]? = some v → z.1 ≤ v ∧ v ≤ z.2) ∧ (sprM zs total).sum = total := by
  obtain ⟨a, b⟩ := spr_ok zs (total - (zs.map Prod.fst).sum) h (by omega) (by omega)
  exact ⟨a, by unfold sprM; rw [b]; omega⟩
end K21
end
section
set_option maxRecDepth 100000
set_option maxHeartbeats 4000000
namespace K21
theorem cls_cons (c : Int) (cs : List Int) (v : Int) : clsOf (c :: cs) v = (if c ≤ v then 1 else 0) + clsOf cs v := by
  unfold clsOf
  by_cases h : c ≤ v
  · rw [List.filter_cons_of_pos (by simpa using h), if_pos h, List.length_cons]
    omega
  · rw [List.filter_cons_of_neg (by simpa using h), if_neg h]
    omega
theorem cls_zero : ∀ (cs : List Int) (v : Int), (∀ c ∈ cs, v < c) → clsOf cs v = 0
  | [], _, _ => rfl
  | c :: cs, v, h => by
    rw [cls_cons, if_neg (by have := h c List.mem_cons_self; omega), cls_zero cs v fun x hx => h x (List.mem_cons_of_mem _ hx)]
/-- a value between its neighbouring cuts is of that class -/
theorem cls_at : ∀ (cs : List Int) (k : Nat) (v : Int), Asc cs → k ≤ cs.length → (0 < k → cs.getD (k - 1) 0 ≤ v) → (k < cs.length → v < cs.getD k 0) → clsOf cs v = k
  | [], k, v, _, h, _, _ => by
    have : k = 0 := by simpa using h
    rw [this]
    rfl
  | c :: cs, 0, v, a, _, _, h => by
    have hc : v < c := h (by simp)
    refine cls_zero _ _ fun x hx => ?_
    rcases List.mem_cons.mp hx with rfl | hx
    · exact hc
    · have := (List.pairwise_cons.mp a).1 x hx
      omega
  | c :: cs, k + 1, v, a, h0, h1, h2 => by
    have h1 : (c :: cs).getD k 0 ≤ v := h1 (Nat.succ_pos k)
    have pc := List.pairwise_cons.mp a
    have hk : k ≤ cs.length := by simpa using h0
    have hc : c ≤ v := by
      cases k with
      | zero => exact h1
      | succ j =>
        rw [List.getD_cons_succ, List.getD_eq_getElem?_getD, List.getElem?_eq_getElem (by omega)] at h1
        have := pc.1 _ (List.getElem_mem (show j < cs.length by omega))
        have h1' : cs[j] ≤ v := h1
        omega
    rw [cls_cons, if_pos hc, cls_at cs k v pc.2 hk (fun hp => ?_) fun hl => ?_]
    · omega
    · obtain ⟨j, rfl⟩ : ∃ j, k = j + 1 := ⟨k - 1, by omega⟩
      rw [List.getD_cons_succ] at h1
      exact h1
    · have := h2 (by simpa using hl)
      rw [List.getD_cons_succ] at this
      exact this
theorem cls_span {cs : List Int} {lo hi : Int} {k : Nat} {l m v : Int} (a : Asc cs) (hk : k ≤ cs.length) (h : spanAt cs lo hi k = some (l, m)) (h1 : l ≤ v) (h2 : v ≤ m) : clsOf cs v = k := by
  obtain ⟨e1, e2, _⟩ := span_at h
  refine cls_at cs k v a hk (fun hp => ?_) fun hl => ?_
  · rw [if_neg (by omega)] at e1
    split at e1 <;> omega
  · rw [if_neg (by omega)] at e2
    split at e2 <;> omega
end K21
end
section
set_option maxRecDepth 100000
set_option maxHeartbeats 4000000
namespace K21
theorem cls_nb : ∀ (cs : List Int) (v : Int), Asc cs → (0 < clsOf cs v → cs.getD (clsOf cs v - 1) 0 ≤ v) ∧ (clsOf cs v < cs.length → v < cs.getD (clsOf cs v) 0)
  | [], v, _ => ⟨fun h => absurd h (Nat.lt_irrefl 0), fun h => absurd h (Nat.lt_irrefl 0)⟩
  | c :: cs, v, a => by
    have pc := List.pairwise_cons.mp a
    by_cases h : c ≤ v
    · obtain ⟨i1, i2⟩ := cls_nb cs v pc.2
      rw [cls_cons, if_pos h, Nat.add_comm]
      refine ⟨fun _ => ?_, fun hl => ?_⟩
      · rw [Nat.add_sub_cancel]
        cases e : clsOf cs v with
        | zero => exact h
        | succ j =>
          rw [e] at i1
          rw [List.getD_cons_succ]
          exact i1 (Nat.succ_pos j)
      · rw [List.getD_cons_succ]
        exact i2 (by simpa using hl)
    · have z : clsOf (c :: cs) v = 0 := cls_zero _ _ fun x hx => by
        rcases List.mem_cons.mp hx with rfl | hx
        · omega
        · have := pc.1 x hx
          omega
      rw [z]
      exact ⟨fun h => absurd h (Nat.lt_irrefl 0), fun _ => by show v < c; omega⟩
theorem span_cls {cs : List Int} {lo hi v : Int} (a : Asc cs) (h1 : lo ≤ v) (h2 : v ≤ hi) : ∃ l m, spanAt cs lo hi (clsOf cs v) = some (l, m) ∧ l ≤ v ∧ v ≤ m := by
  obtain ⟨i1, i2⟩ := cls_nb cs v a
  have le := clsOf_le cs v
  unfold spanAt
  dsimp only
  have hl : (if clsOf cs v = 0 then lo else if cs.getD (clsOf cs v - 1) 0 > lo then cs.getD (clsOf cs v - 1) 0 else lo) ≤ v := by
    split
    · exact h1
    · split
      · exact i1 (by omega)
      · exact h1
  have hm : v ≤ (if clsOf cs v = cs.length then hi else if cs.getD (clsOf cs v) 0 - 1 < hi then cs.getD (clsOf cs v) 0 - 1 else hi) := by
    split
    · exact h2
    · have := i2 (by omega)
      split
      · omega
      · exact h2
  rw [if_pos (Int.le_trans hl hm)]
  exact ⟨_, _, rfl, hl, hm⟩
end K21
end
section
set_option maxRecDepth 100000
set_option maxHeartbeats 4000000
namespace K21
/-- the span of the least value begins with it, that of the greatest ends with it -/
theorem span_lo {cs : List Int} {lo hi l m : Int} (a : Asc cs) (h : spanAt cs lo hi (clsOf cs lo) = some (l, m)) : l = lo := by
  obtain ⟨e1, _, _⟩ := span_at h
  obtain ⟨i1, _⟩ := cls_nb cs lo a
  rw [e1]
  split
  · rfl
  · split
    · have := i1 (by omega)
      omega
    · rfl
theorem span_hi {cs : List Int} {lo hi l m : Int} (a : Asc cs) (h : spanAt cs lo hi (clsOf cs hi) = some (l, m)) : m = hi := by
  obtain ⟨_, e2, _⟩ := span_at h
  obtain ⟨_, i2⟩ := cls_nb cs hi a
  have le := clsOf_le cs hi
  rw [e2]
  split
  · rfl
  · split
    · have := i2 (by omega)
      omega
    · rfl
theorem set_sum : ∀ (l : List Int) (k : Nat) (x y : Int), l[k]? = some y → (l.set k x).sum = l.sum - y + x
  | z :: l, 0, x, y, h => by
    injection h with h
    subst h
    rw [List.set_cons_zero, List.sum_cons, List.sum_cons]
    omega
  | z :: l, k + 1, x, y, h => by
    rw [List.set_cons_succ, List.sum_cons, List.sum_cons, set_sum l k x y h]
    omega
  | [], _, _, _, h => by simp at h
end K21
end
section
set_option maxRecDepth 100000
set_option maxHeartbeats 4000000
namespace K21
theorem spanOf_v (b : Blk) {k : Int} (h0 : 0 ≤ k) (h1 : k ≤ b.vs.length) : spanOf b k = (spV b k).getD (0, 0) := by
  unfold spanOf spV
  rw [getD_v b (by omega)]
theorem stepOf_g (b : Blk) {k : Int} (h0 : 0 ≤ k) (h1 : k ≤ b.gs.length) : stepOf b k = (spG b k).getD (0, 0) := by
  unfold stepOf spG
  rw [getD_g b (by omega)]
/-- the values that are filled in: within their spans, of the told sum, the least and the greatest among them -/
theorem vals_ok (b : Blk) (W : List (Int × Int)) (low sp : Nat) (o p t f : Int) (av : Asc b.vs) (hl : b.e.least ≤ b.e.greatest) (hv : ∀ s ∈ W, 0 ≤ s.1 ∧ s.1 ≤ b.vs.length) (hs : ∀ s ∈ W, (spV b s.1).isSome = true)
    (hb : spV b b.bottom = some (o, p)) (ht : spV b b.top = some (t, f)) (lo : (W.map Prod.fst)[low]? = some (b.bottom : Int)) (spc : b.e.least < b.e.greatest → sp ≠ low ∧ (W.map Prod.fst)[sp]? = some (b.top : Int))
    (h1 : sumF (W.map fun s => spV b s.1) + b.e.greatest - t ≤ b.e.total) (h2 : b.e.total ≤ sumS (W.map fun s => spV b s.1) + b.e.least - p) :
    (∀ (i : Nat) (s : Int × Int) (v : Int), W[i]? = some s → (valsW b W low sp)[i]? = some v → clsOf b.vs v = s.1.toNat ∧ b.e.least ≤ v ∧ v ≤ b.e.greatest) ∧ (valsW b W low sp).sum = b.e.total ∧
      (valsW b W low sp)[low]? = some b.e.least ∧ (b.e.least < b.e.greatest → (valsW b W low sp)[sp]? = some b.e.greatest) := by
  have hb' : spanAt b.vs b.e.least b.e.greatest (clsOf b.vs b.e.least) = some (o, p) := by rw [← hb]; unfold spV; rw [Int.toNat_natCast]; rfl
  have ht' : spanAt b.vs b.e.least b.e.greatest (clsOf b.vs b.e.greatest) = some (t, f) := by rw [← ht]; unfold spV; rw [Int.toNat_natCast]; rfl
  have eo : o = b.e.least := span_lo av hb'
  have ef : f = b.e.greatest := span_hi av ht'
  have eop := (span_at hb').2.2
  have etf := (span_at ht').2.2
  let zs0 := W.map fun s => spanOf b s.1
  have z0 : ∀ (i : Nat) (s : Int × Int), W[i]? = some s → ∃ l m, zs0[i]? = some (l, m) ∧ spV b s.1 = some (l, m) := fun i s h => by
    have ms := List.mem_of_getElem? h
    have := hs s ms
    cases e : spV b s.1 with
    | none => rw [e] at this; cases this
    | some z =>
      refine ⟨z.1, z.2, ?_, rfl⟩
      show (W.map fun s => spanOf b s.1)[i]? = _
      rw [List.getElem?_map, h, Option.map_some, spanOf_v b (hv s ms).1 (hv s ms).2, e]
      rfl
  obtain ⟨slow, w1, w2⟩ : ∃ s, W[low]? = some s ∧ s.1 = (b.bottom : Int) := by
    rw [List.getElem?_map] at lo
    exact Option.map_eq_some_iff.mp lo
  have zlow : zs0[low]? = some (o, p) := by
    obtain ⟨l, m, e1, e2⟩ := z0 low slow w1
    rw [w2, hb] at e2
    rw [e1]
    exact congrArg some (Option.some.inj e2).symm
  have f0 : (zs0.map Prod.fst).sum = sumF (W.map fun s => spV b s.1) := by
    unfold sumF
    rw [List.map_map, List.map_map]
    congr 1
    exact List.map_congr_left fun s hs => by show (spanOf b s.1).1 = _; rw [spanOf_v b (hv s hs).1 (hv s hs).2]; rfl
  have g0 : (zs0.map Prod.snd).sum = sumS (W.map fun s => spV b s.1) := by
    unfold sumS
    rw [List.map_map, List.map_map]
    congr 1
    exact List.map_congr_left fun s hs => by show (spanOf b s.1).2 = _; rw [spanOf_v b (hv s hs).1 (hv s hs).2]; rfl
  let zs1 := zs0.set low (b.e.least, b.e.least)
  have f1 : (zs1.map Prod.fst).sum = (zs0.map Prod.fst).sum := by
    show ((zs0.set low (b.e.least, b.e.least)).map Prod.fst).sum = _
    rw [List.map_set, set_sum _ low _ o (by rw [List.getElem?_map, zlow]; rfl)]
    show _ - o + b.e.least = _
    omega
  have g1 : (zs1.map Prod.snd).sum = (zs0.map Prod.snd).sum - p + b.e.least := by
    show ((zs0.set low (b.e.least, b.e.least)).map Prod.snd).sum = _
    rw [List.map_set, set_sum _ low _ p (by rw [List.getElem?_map, zlow]; rfl)]
  have n0 : zs0.length = W.length := List.length_map _
  have llt : low < W.length := (List.getElem?_eq_some_iff.mp w1).1
  have q1 : ∀ (i : Nat) (z : Int × Int), zs1[i]? = some z → (i = low ∧ z = (b.e.least, b.e.least)) ∨ (i ≠ low ∧ zs0[i]? = some z) := fun i z h => by
    have h : (zs0.set low (b.e.least, b.e.least))[i]? = some z := h
    rw [List.getElem?_set] at h
    by_cases e : low = i
    · rw [if_pos e, if_pos (by omega)] at h
      exact .inl ⟨e.symm, (Option.some.inj h).symm⟩
    · rw [if_neg e] at h
      exact .inr ⟨fun x => e x.symm, h⟩
  have q1l : zs1[low]? = some (b.e.least, b.e.least) := by
    show (zs0.set low (b.e.least, b.e.least))[low]? = _
    rw [List.getElem?_set, if_pos rfl, if_pos (by omega)]
  have fin : ∀ zs, valsZ b W low sp = zs → zs.length = W.length → (∀ (i : Nat) (s z : Int × Int), W[i]? = some s → zs[i]? = some z → ∃ l m, spV b s.1 = some (l, m) ∧ l ≤ z.1 ∧ z.1 ≤ z.2 ∧ z.2 ≤ m) → (zs.map Prod.fst).sum ≤ b.e.total → b.e.total ≤ (zs.map Prod.snd).sum →
      zs[low]? = some (b.e.least, b.e.least) → (b.e.least < b.e.greatest → zs[sp]? = some (b.e.greatest, b.e.greatest)) →
      (∀ (i : Nat) (s : Int × Int) (v : Int), W[i]? = some s → (valsW b W low sp)[i]? = some v → clsOf b.vs v = s.1.toNat ∧ b.e.least ≤ v ∧ v ≤ b.e.greatest) ∧ (valsW b W low sp).sum = b.e.total ∧
      (valsW b W low sp)[low]? = some b.e.least ∧ (b.e.least < b.e.greatest → (valsW b W low sp)[sp]? = some b.e.greatest) := fun zs ez nz sub c1 c2 c3 c4 => by
    have el : ∀ z ∈ zs, z.1 ≤ z.2 := fun z hz => by
      obtain ⟨i, hi⟩ := List.mem_iff_getElem?.mp hz
      have li := (List.getElem?_eq_some_iff.mp hi).1
      obtain ⟨l, m, _, _, h, _⟩ := sub i _ z (List.getElem?_eq_getElem (by omega)) hi
      exact h
    obtain ⟨i1, i2⟩ := sprM_ok zs b.e.total el c1 c2
    have ev : valsW b W low sp = sprM zs b.e.total := by unfold valsW; rw [ez]
    have nv : (sprM zs b.e.total).length = zs.length := by unfold sprM; rw [sprL_len]
    rw [ev]
    have fix : ∀ (i : Nat) (x : Int), zs[i]? = some (x, x) → (sprM zs b.e.total)[i]? = some x := fun i x h => by
      have li := (List.getElem?_eq_some_iff.mp h).1
      have := i1 i _ _ h (List.getElem?_eq_getElem (by omega))
      rw [List.getElem?_eq_getElem (by omega)]
      exact congrArg some (by dsimp only at this; omega)
    refine ⟨fun i s v hi hv' => ?_, i2, fix low _ c3, fun h => fix sp _ (c4 h)⟩
    have li := (List.getElem?_eq_some_iff.mp hi).1
    obtain ⟨l, m, e1, e2, e3, e4⟩ := sub i s _ hi (List.getElem?_eq_getElem (by omega))
    have bd := i1 i _ v (List.getElem?_eq_getElem (by omega)) hv'
    have ms := hv s (List.mem_of_getElem? hi)
    have sb := span_bd (cs := b.vs) (lo := b.e.least) (hi := b.e.greatest) (p := (l, m)) (by
      unfold spansM
      exact List.mem_map.mpr ⟨s.1.toNat, List.mem_range.mpr (by omega), e1⟩)
    dsimp only at sb
    exact ⟨cls_span av (by omega) e1 (by omega) (by omega), by omega, by omega⟩
  have sub1 : ∀ (i : Nat) (s z : Int × Int), W[i]? = some s → zs1[i]? = some z → ∃ l m, spV b s.1 = some (l, m) ∧ l ≤ z.1 ∧ z.1 ≤ z.2 ∧ z.2 ≤ m := fun i s z hi hz => by
    rcases q1 i z hz with ⟨rfl, rfl⟩ | ⟨_, h⟩
    · rw [w1] at hi
      have es := Option.some.inj hi
      exact ⟨o, p, by rw [← es, w2, hb], by dsimp only; omega, Int.le_refl _, by dsimp only; omega⟩
    · obtain ⟨l, m, e1, e2⟩ := z0 i s hi
      rw [e1] at h
      have ez := Option.some.inj h
      subst ez
      exact ⟨l, m, e2, Int.le_refl _, (span_at e2).2.2, Int.le_refl _⟩
  by_cases hlt : b.e.least < b.e.greatest
  · obtain ⟨sl, se⟩ := spc hlt
    obtain ⟨ssp, w3, w4⟩ : ∃ s, W[sp]? = some s ∧ s.1 = (b.top : Int) := by
      rw [List.getElem?_map] at se
      exact Option.map_eq_some_iff.mp se
    have lsp : sp < W.length := (List.getElem?_eq_some_iff.mp w3).1
    have zsp : zs1[sp]? = some (t, f) := by
      obtain ⟨l, m, e1, e2⟩ := z0 sp ssp w3
      rw [w4, ht] at e2
      show (zs0.set low (b.e.least, b.e.least))[sp]? = _
      rw [List.getElem?_set, if_neg (fun h => sl h.symm), e1]
      exact congrArg some (Option.some.inj e2).symm
    have n1 : zs1.length = W.length := by show (zs0.set low _).length = _; rw [List.length_set, n0]
    refine fin (zs1.set sp (b.e.greatest, b.e.greatest)) (by unfold valsZ; dsimp only; rw [if_pos hlt]) (by rw [List.length_set, n1]) (fun i s z hi hz => ?_) ?_ ?_ ?_ fun _ => ?_
    · rw [List.getElem?_set] at hz
      by_cases e : sp = i
      · rw [if_pos e, if_pos (by omega)] at hz
        have ez := Option.some.inj hz
        subst ez
        rw [← e, w3] at hi
        have es := Option.some.inj hi
        exact ⟨t, f, by rw [← es, w4, ht], by dsimp only; omega, Int.le_refl _, by dsimp only; omega⟩
      · rw [if_neg e] at hz
        exact sub1 i s z hi hz
    · rw [List.map_set, set_sum _ sp _ t (by rw [List.getElem?_map, zsp]; rfl)]
      show _ - t + b.e.greatest ≤ _
      omega
    · rw [List.map_set, set_sum _ sp _ f (by rw [List.getElem?_map, zsp]; rfl)]
      show _ ≤ _ - f + b.e.greatest
      omega
    · rw [List.getElem?_set, if_neg sl]
      exact q1l
    · rw [List.getElem?_set, if_pos rfl, if_pos (by omega)]
  · have eq : b.e.least = b.e.greatest := by omega
    have et : t = b.e.least := by
      have : spanAt b.vs b.e.least b.e.greatest (clsOf b.vs b.e.least) = some (t, f) := by rw [← ht']; congr 2
      exact span_lo av this
    have n1 : zs1.length = W.length := by show (zs0.set low _).length = _; rw [List.length_set, n0]
    exact fin zs1 (by unfold valsZ; dsimp only; rw [if_neg hlt]) n1 sub1 (by omega) (by omega) q1l fun h => absurd h hlt
end K21
end
section
set_option maxRecDepth 100000
set_option maxHeartbeats 4000000
namespace K21
theorem moms_asc : ∀ (gaps : List Int) (x : Int), (∀ g ∈ gaps, 1 ≤ g) → (moms x gaps).Pairwise (· < ·) ∧ ∀ m ∈ moms x gaps, x ≤ m
  | [], x, _ => ⟨List.pairwise_singleton _ _, fun m h => by rw [List.mem_singleton.mp h]; exact Int.le_refl _⟩
  | g :: gaps, x, h => by
    have hg := h g List.mem_cons_self
    obtain ⟨i1, i2⟩ := moms_asc gaps (x + g) fun y hy => h y (List.mem_cons_of_mem _ hy)
    rw [moms]
    refine ⟨List.pairwise_cons.mpr ⟨fun m hm => ?_, i1⟩, fun m hm => ?_⟩
    · have := i2 m hm
      omega
    · rcases List.mem_cons.mp hm with rfl | hm
      · exact Int.le_refl _
      · have := i2 m hm
        omega
theorem signs_pts (vs gs : List Int) : ∀ (ws : List (Int × Int)) (vals gaps : List Int) (x v0 : Int) (bf : Option Int) (s0 : Int × Int), vals.length = ws.length → gaps.length = ws.length → ((clsOf vs v0 : Nat) : Int) = s0.1 → gapM gs bf x = s0.2 →
    (∀ (i : Nat) (s : Int × Int) (v : Int), ws[i]? = some s → vals[i]? = some v → ((clsOf vs v : Nat) : Int) = s.1) → (∀ (i : Nat) (s : Int × Int) (g : Int), ws[i]? = some s → gaps[i]? = some g → ((clsOf gs g : Nat) : Int) = s.2) →
    signsM vs gs bf ((moms x gaps).zip (v0 :: vals)) = s0 :: ws
  | [], [], [], x, v0, bf, s0, _, _, h1, h2, _, _ => by
    show [(((clsOf vs v0 : Nat) : Int), gapM gs bf x)] = [s0]
    rw [h1, h2]
  | s1 :: ws, v1 :: vals, g :: gaps, x, v0, bf, s0, l1, l2, h1, h2, h3, h4 => by
    rw [moms, List.zip_cons_cons]
    show (((clsOf vs v0 : Nat) : Int), gapM gs bf x) :: signsM vs gs (some x) ((moms (x + g) gaps).zip (v1 :: vals)) = _
    rw [h1, h2, signs_pts vs gs ws vals gaps (x + g) v1 (some x) s1 (by simpa using l1) (by simpa using l2) (h3 0 s1 v1 rfl rfl) ?_ (fun i s v a b => h3 (i + 1) s v a b) fun i s v a b => h4 (i + 1) s v a b]
    show ((clsOf gs (x + g - x) : Nat) : Int) = s1.2
    rw [show x + g - x = g by omega]
    exact h4 0 s1 g rfl rfl
  | [], _ :: _, _, _, _, _, _, l1, _, _, _, _, _ => nomatch l1
  | [], [], _ :: _, _, _, _, _, _, l2, _, _, _, _ => nomatch l2
  | _ :: _, [], _, _, _, _, _, l1, _, _, _, _, _ => nomatch l1
  | _ :: _, _ :: _, [], _, _, _, _, _, l2, _, _, _, _ => nomatch l2
theorem moms_first (x : Int) (gaps : List Int) : (moms x gaps)[0]? = some x := by cases gaps <;> rfl
theorem moms_last (x : Int) (gaps : List Int) : (moms x gaps)[gaps.length]? = some (x + gaps.sum) := by
  obtain ⟨pre, h⟩ := moms_end gaps x
  have := congrArg List.length h
  rw [moms_len, List.length_append, List.length_singleton] at this
  rw [h, List.getElem?_append_right (by omega), show gaps.length - pre.length = 0 by omega]
  rfl
/-- two entries of one row -/
theorem entOf_eq {rs : List (Int × Int)} {size : Int} {e e' : Ent} (h : EntOf rs size e) (h' : EntOf rs size e') : e.l = e'.l := by
  obtain ⟨p, p1, p2⟩ := h.first
  obtain ⟨q, q1, q2⟩ := h'.first
  obtain ⟨r, r1, r2⟩ := h.last
  obtain ⟨u, u1, u2⟩ := h'.last
  have e1 := Option.some.inj (p1.symm.trans q1)
  have e2 := Option.some.inj (r1.symm.trans u1)
  have e3 := h.l2 _ h'.l1
  have e4 := h'.l2 _ h.l1
  have e5 := h.g2 _ h'.g1
  have e6 := h'.g2 _ h.g1
  unfold Ent.l
  rw [h.bits, h'.bits, h.count, h'.count, p2, q2, e1, r2, u2, e2, h.total, h'.total, show e.least = e'.least by omega, show e.greatest = e'.greatest by omega]
end K21
end
section
set_option maxRecDepth 100000
set_option maxHeartbeats 4000000
namespace K21
theorem first_at : ∀ (ks : List Int) (x : Int), 0 < ks.count x → ∃ low : Nat, ks[low]? = some x ∧ ∀ j, j < low → ks[j]? ≠ some x
  | [], _, h => absurd h (by simp)
  | k :: ks, x, h => by
    by_cases e : k = x
    · exact ⟨0, by rw [e]; rfl, fun j hj => absurd hj (Nat.not_lt_zero _)⟩
    · rw [List.count_cons_of_ne e] at h
      obtain ⟨low, h1, h2⟩ := first_at ks x h
      refine ⟨low + 1, h1, fun j hj => ?_⟩
      cases j with
      | zero => exact fun h => e (Option.some.inj h)
      | succ j => exact h2 j (by omega)
theorem other_at : ∀ (ks : List Int) (x : Int) (low : Nat), 2 ≤ ks.count x → ∃ j : Nat, j ≠ low ∧ ks[j]? = some x
  | [], _, _, h => absurd h (by simp)
  | k :: ks, x, 0, h => by
    have : 0 < ks.count x := by
      rw [List.count_cons] at h
      split at h <;> omega
    obtain ⟨j, h1, _⟩ := first_at ks x this
    exact ⟨j + 1, by omega, h1⟩
  | k :: ks, x, low + 1, h => by
    by_cases e : k = x
    · exact ⟨0, by omega, by rw [e]; rfl⟩
    · rw [List.count_cons_of_ne e] at h
      obtain ⟨j, h1, h2⟩ := other_at ks x low h
      exact ⟨j + 1, by omega, h2⟩
theorem mem_spots {b : Blk} {ws : List (Int × Int)} {low sp : Nat} : sp ∈ spotsM b ws low ↔ (ws.map Prod.fst)[sp]? = some (b.top : Int) ∧ sp ≠ low := by
  unfold spotsM
  rw [List.mem_filterMap]
  constructor
  · rintro ⟨⟨s, i⟩, h1, h2⟩
    have h3 := List.mem_zipIdx_iff_getElem?.mp h1
    dsimp only at h2 h3
    split at h2
    · rename_i c
      injection h2 with h2
      subst h2
      exact ⟨by rw [List.getElem?_map, h3, Option.map_some, c.1], c.2⟩
    · cases h2
  · rintro ⟨h1, h2⟩
    rw [List.getElem?_map] at h1
    obtain ⟨s, h3, h4⟩ := Option.map_eq_some_iff.mp h1
    exact ⟨(s, sp), List.mem_zipIdx_iff_getElem?.mpr h3, by dsimp only; rw [if_pos ⟨h4, h2⟩]⟩
/-- what is filled in for a word that can be the block's has the entry and the word -/
theorem fill_ok (b : Blk) (w0 : Int × Int) (ws : List (Int × Int)) (o p t f : Int) (wi : WordIn b (w0 :: ws) o p t f) (hv : ∀ s ∈ w0 :: ws, 0 ≤ s.1 ∧ s.1 ≤ b.vs.length) (hg : ∀ s ∈ ws, 0 ≤ s.2 ∧ s.2 ≤ b.gs.length) (hw : canM b w0 ws p t = true) :
    ∃ low sp rest, FillOk b (w0 :: ws) low sp rest ∧ EntOf (ptsW b (w0 :: ws) low sp) b.e.bits b.e ∧ signsM b.vs b.gs b.ah (ptsW b (w0 :: ws) low sp) = w0 :: ws ∧ ((ptsW b (w0 :: ws) low sp).map Prod.fst).Pairwise (· < ·) ∧ (ptsW b (w0 :: ws) low sp).length = (w0 :: ws).length := by
  have lb : b.bottom ≤ b.vs.length := clsOf_le _ _
  have lt : b.top ≤ b.vs.length := clsOf_le _ _
  have hb : spV b b.bottom = some (o, p) := by
    have := wi.hb
    rw [spans_at b lb] at this
    unfold spV
    rw [Int.toNat_natCast]
    exact Option.some.inj this
  have ht : spV b b.top = some (t, f) := by
    have := wi.ht
    rw [spans_at b lt] at this
    unfold spV
    rw [Int.toNat_natCast]
    exact Option.some.inj this
  unfold canM canL at hw
  simp only [Bool.and_eq_true, decide_eq_true_eq] at hw
  obtain ⟨c1, c2, c3, c4, c5, ⟨c6, c7⟩, c8, c9⟩ := hw
  have s2 : ∀ s ∈ w0 :: ws, (spV b s.1).isSome = true := by
    rw [List.all_map, List.all_eq_true] at c2
    exact c2
  have s3 : ∀ s ∈ ws, (spG b s.2).isSome = true := by
    rw [List.all_map, List.all_eq_true] at c3
    exact c3
  have eo := wi.eo
  have lg := eo.lg
  obtain ⟨low, lo, lo2⟩ := first_at ((w0 :: ws).map Prod.fst) (b.bottom : Int) (by unfold needM at c4; split at c4 <;> omega)
  obtain ⟨sp, rest, hsp, spc⟩ : ∃ (sp : Nat) (rest : List Nat), (b.e.least < b.e.greatest → spotsM b (w0 :: ws) low = sp :: rest) ∧ (b.e.least < b.e.greatest → sp ≠ low ∧ ((w0 :: ws).map Prod.fst)[sp]? = some (b.top : Int)) := by
    by_cases hl : b.e.least < b.e.greatest
    · have ne : ∃ j, j ∈ spotsM b (w0 :: ws) low := by
        by_cases bt : b.bottom = b.top
        · have : 2 ≤ ((w0 :: ws).map Prod.fst).count (b.bottom : Int) := by unfold needM at c4; rw [if_pos ⟨bt, hl⟩] at c4; omega
          obtain ⟨j, h1, h2⟩ := other_at _ _ low this
          exact ⟨j, mem_spots.mpr ⟨by rw [h2, bt], h1⟩⟩
        · obtain ⟨j, h1, _⟩ := first_at _ _ c5
          refine ⟨j, mem_spots.mpr ⟨h1, fun e => ?_⟩⟩
          rw [e, lo] at h1
          have := Option.some.inj h1
          omega
      obtain ⟨j, hj⟩ := ne
      cases e : spotsM b (w0 :: ws) low with
      | nil => rw [e] at hj; cases hj
      | cons sp rest =>
        have : sp ∈ spotsM b (w0 :: ws) low := by rw [e]; exact List.mem_cons_self
        have := mem_spots.mp this
        exact ⟨sp, rest, fun _ => rfl, fun _ => ⟨this.2, this.1⟩⟩
    · exact ⟨0, [], fun h => absurd h hl, fun h => absurd h hl⟩
  have z0 : (w0 :: ws).length ≤ 900 := wi.z
  have vex : ∀ k : Int, 0 ≤ k → k ≤ b.vs.length → (spV b k).isSome = true → ∃ q, b.spans[k.toNat]? = some (some q) := fun k h0 h1 h2 => by
    rw [spans_at b (by omega)]
    cases e : spV b k with
    | none => rw [e] at h2; cases h2
    | some q => exact ⟨q, congrArg some e⟩
  have gex : ∀ k : Int, 0 ≤ k → k ≤ b.gs.length → (spG b k).isSome = true → ∃ q, b.steps[k.toNat]? = some (some q) := fun k h0 h1 h2 => by
    rw [steps_at b (by omega)]
    cases e : spG b k with
    | none => rw [e] at h2; cases h2
    | some q => exact ⟨q, congrArg some e⟩
  have fo : FillOk b (w0 :: ws) low sp rest := ⟨z0, fun s hs => ⟨(hv s hs).1, vex _ (hv s hs).1 (hv s hs).2 (s2 s hs)⟩, fun s hs => ⟨(hg s hs).1, gex _ (hg s hs).1 (hg s hs).2 (s3 s hs)⟩, lo, lo2, hsp⟩
  obtain ⟨v1, v2, v3, v4⟩ := vals_ok b (w0 :: ws) low sp o p t f wi.co.v3 lg hv s2 hb ht lo spc c6 c7
  have lv := valsW_len b (w0 :: ws) low sp
  -- the gaps
  let G := ws.map fun s => stepOf b s.2
  have Gat : ∀ (i : Nat) (s : Int × Int), ws[i]? = some s → ∃ l m, G[i]? = some (l, m) ∧ spG b s.2 = some (l, m) := fun i s h => by
    have ms := List.mem_of_getElem? h
    have := s3 s ms
    cases e : spG b s.2 with
    | none => rw [e] at this; cases this
    | some z =>
      refine ⟨z.1, z.2, ?_, rfl⟩
      show (ws.map fun s => stepOf b s.2)[i]? = _
      rw [List.getElem?_map, h, Option.map_some]
      unfold stepOf
      unfold spG at e
      rw [getD_g b (by have := hg s ms; omega), e]
      rfl
  have nG : G.length = ws.length := List.length_map _
  have Gle : ∀ z ∈ G, z.1 ≤ z.2 := fun z hz => by
    obtain ⟨i, hi⟩ := List.mem_iff_getElem?.mp hz
    have li := (List.getElem?_eq_some_iff.mp hi).1
    obtain ⟨l, m, e1, e2⟩ := Gat i _ (List.getElem?_eq_getElem (by omega))
    rw [hi] at e1
    cases e1
    exact (span_at e2).2.2
  have g0 : (G.map Prod.fst).sum = sumF (ws.map fun s => spG b s.2) := by
    unfold sumF
    rw [List.map_map, List.map_map]
    congr 1
    exact List.map_congr_left fun s hs => by
      show (stepOf b s.2).1 = _
      unfold stepOf
      rw [getD_g b (by have := hg s hs; omega)]
      rfl
  have g1 : (G.map Prod.snd).sum = sumS (ws.map fun s => spG b s.2) := by
    unfold sumS
    rw [List.map_map, List.map_map]
    congr 1
    exact List.map_congr_left fun s hs => by
      show (stepOf b s.2).2 = _
      unfold stepOf
      rw [getD_g b (by have := hg s hs; omega)]
      rfl
  obtain ⟨i1, i2⟩ := sprM_ok G (b.e.last - b.e.first) Gle (by omega) (by omega)
  have nS : (sprM G (b.e.last - b.e.first)).length = ws.length := by unfold sprM; rw [sprL_len, nG]
  have gcl : ∀ (i : Nat) (s : Int × Int) (g : Int), ws[i]? = some s → (sprM G (b.e.last - b.e.first))[i]? = some g → ((clsOf b.gs g : Nat) : Int) = s.2 ∧ 1 ≤ g := fun i s g h1 h2 => by
    obtain ⟨l, m, e1, e2⟩ := Gat i s h1
    have bd := i1 i _ g e1 h2
    have ms := hg s (List.mem_of_getElem? h1)
    have sb := span_bd (cs := b.gs) (lo := 1) (hi := b.e.last - b.e.first) (p := (l, m)) (by
      unfold spansM
      exact List.mem_map.mpr ⟨s.2.toNat, List.mem_range.mpr (by omega), e2⟩)
    dsimp only at sb bd
    have := cls_span wi.co.g3 (by omega) e2 bd.1 bd.2
    omega
  have mW : momsW b (w0 :: ws) = moms b.e.first (sprM G (b.e.last - b.e.first)) := rfl
  generalize sprM G (b.e.last - b.e.first) = gaps at i2 nS gcl mW
  have lm : (moms b.e.first gaps).length = ws.length + 1 := by rw [moms_len, nS]
  have pw : ptsW b (w0 :: ws) low sp = (moms b.e.first gaps).zip (valsW b (w0 :: ws) low sp) := by unfold ptsW; rw [mW]
  refine ⟨low, sp, rest, fo, ?_⟩
  rw [pw]
  generalize valsW b (w0 :: ws) low sp = vals at v1 v2 v3 v4 lv
  have lv' : vals.length = ws.length + 1 := lv
  have fm : ((moms b.e.first gaps).zip vals).map Prod.fst = moms b.e.first gaps := List.map_fst_zip (by omega)
  have sm : ((moms b.e.first gaps).zip vals).map Prod.snd = vals := List.map_snd_zip (by omega)
  have lz : ((moms b.e.first gaps).zip vals).length = ws.length + 1 := by rw [List.length_zip]; omega
  refine ⟨?_, ?_, ?_, ?_⟩
  · refine ⟨rfl, ?_, ?_, ?_, ?_, ?_, ?_, ?_, ?_⟩
    · rw [lz, ← wi.n]
      rfl
    · refine ⟨(b.e.first, vals[0]'(by omega)), List.getElem?_zip_eq_some.mpr ⟨moms_first _ _, List.getElem?_eq_getElem (by omega)⟩, rfl⟩
    · refine ⟨(b.e.first + gaps.sum, vals[ws.length]'(by omega)), ?_, by dsimp only; omega⟩
      rw [lz, Nat.add_sub_cancel]
      have := moms_last b.e.first gaps
      rw [nS] at this
      exact List.getElem?_zip_eq_some.mpr ⟨this, List.getElem?_eq_getElem (by omega)⟩
    · rw [sm, v2]
    · rw [sm]
      exact List.mem_of_getElem? v3
    · rw [sm]
      intro v hv'
      obtain ⟨i, hi⟩ := List.mem_iff_getElem?.mp hv'
      have li := (List.getElem?_eq_some_iff.mp hi).1
      exact (v1 i _ v (List.getElem?_eq_getElem (show i < (w0 :: ws).length by rw [List.length_cons]; omega)) hi).2.1
    · rw [sm]
      by_cases hl : b.e.least < b.e.greatest
      · exact List.mem_of_getElem? (v4 hl)
      · have : b.e.greatest = b.e.least := by omega
        rw [this]
        exact List.mem_of_getElem? v3
    · rw [sm]
      intro v hv'
      obtain ⟨i, hi⟩ := List.mem_iff_getElem?.mp hv'
      have li := (List.getElem?_eq_some_iff.mp hi).1
      exact (v1 i _ v (List.getElem?_eq_getElem (show i < (w0 :: ws).length by rw [List.length_cons]; omega)) hi).2.2
  · cases vals with
    | nil => cases lv'
    | cons v0 vals =>
      have cl : ∀ (i : Nat) (s : Int × Int) (v : Int), (w0 :: ws)[i]? = some s → (v0 :: vals)[i]? = some v → ((clsOf b.vs v : Nat) : Int) = s.1 := fun i s v a c => by
        have h1 := (v1 i s v a c).1
        have h2 := hv s (List.mem_of_getElem? a)
        omega
      refine signs_pts b.vs b.gs ws vals gaps b.e.first v0 b.ah w0 (by simpa using lv') nS (cl 0 w0 v0 rfl rfl) ?_ (fun i s v a c => cl (i + 1) s v a c) fun i s g a c => (gcl i s g a c).1
      rw [c1]
      unfold gapM firstM
      cases b.ah <;> rfl
  · rw [fm]
    refine (moms_asc gaps b.e.first fun g hg' => ?_).1
    obtain ⟨i, hi⟩ := List.mem_iff_getElem?.mp hg'
    have li := (List.getElem?_eq_some_iff.mp hi).1
    exact (gcl i _ g (List.getElem?_eq_getElem (by omega)) hi).2
  · rw [lz]
    rfl
end K21
end
section
set_option maxRecDepth 100000
set_option maxHeartbeats 4000000
namespace K21
theorem sum_up (f : Int → Int) : ∀ (l : List Int) (x : Int), x ∈ l → (∀ v ∈ l, f v ≤ v) → (l.map f).sum + x - f x ≤ l.sum
  | [], _, h, _ => nomatch h
  | y :: l, x, h, hf => by
    rw [List.map_cons, List.sum_cons, List.sum_cons]
    have hy := hf y List.mem_cons_self
    have all : (l.map f).sum ≤ l.sum := by
      clear h
      induction l with
      | nil => simp
      | cons z l ih =>
        rw [List.map_cons, List.sum_cons, List.sum_cons]
        have := hf z (List.mem_cons_of_mem _ List.mem_cons_self)
        have := ih fun v hv => hf v (by rcases List.mem_cons.mp hv with rfl | h <;> simp [*])
        omega
    rcases List.mem_cons.mp h with rfl | h
    · omega
    · have := sum_up f l x h fun v hv => hf v (List.mem_cons_of_mem _ hv)
      omega
theorem sum_down (f : Int → Int) : ∀ (l : List Int) (x : Int), x ∈ l → (∀ v ∈ l, v ≤ f v) → l.sum ≤ (l.map f).sum + x - f x
  | [], _, h, _ => nomatch h
  | y :: l, x, h, hf => by
    rw [List.map_cons, List.sum_cons, List.sum_cons]
    have hy := hf y List.mem_cons_self
    have all : l.sum ≤ (l.map f).sum := by
      clear h
      induction l with
      | nil => simp
      | cons z l ih =>
        rw [List.map_cons, List.sum_cons, List.sum_cons]
        have := hf z (List.mem_cons_of_mem _ List.mem_cons_self)
        have := ih fun v hv => hf v (by rcases List.mem_cons.mp hv with rfl | h <;> simp [*])
        omega
    rcases List.mem_cons.mp h with rfl | h
    · omega
    · have := sum_down f l x h fun v hv => hf v (List.mem_cons_of_mem _ hv)
      omega
theorem sum_konst (c : Int) : ∀ (l : List Int), (l.map fun _ => c).sum = (l.length : Int) * c
  | [] => by simp
  | y :: l => by rw [List.map_cons, List.sum_cons, sum_konst c l, List.length_cons, show (((l.length + 1 : Nat)) : Int) = (l.length : Int) + 1 by omega, Int.add_mul]; omega
theorem count_map_mem {α : Type} (g : α → Int) (x : Int) : ∀ (l : List α) (a : α), a ∈ l → g a = x → 1 ≤ (l.map g).count x
  | [], _, h, _ => nomatch h
  | y :: l, a, h, e => by
    rw [List.map_cons, List.count_cons]
    rcases List.mem_cons.mp h with rfl | h
    · rw [if_pos (by simpa using e)]
      omega
    · have := count_map_mem g x l a h e
      omega
theorem count_map_two (g : Int → Int) (x : Int) : ∀ (l : List Int) (a c : Int), a ∈ l → c ∈ l → a ≠ c → g a = x → g c = x → 2 ≤ (l.map g).count x
  | [], _, _, h, _, _, _, _ => nomatch h
  | y :: l, a, c, ha, hc, ne, ea, ec => by
    rw [List.map_cons, List.count_cons]
    rcases List.mem_cons.mp ha with rfl | ha'
    · rcases List.mem_cons.mp hc with rfl | hc'
      · exact absurd rfl ne
      · have := count_map_mem g x l c hc' ec
        rw [if_pos (by simpa using ea)]
        omega
    · rcases List.mem_cons.mp hc with rfl | hc'
      · have := count_map_mem g x l a ha' ea
        rw [if_pos (by simpa using ec)]
        omega
      · have := count_map_two g x l a c ha' hc' ne ea ec
        omega
/-- the gaps of a row behind a moment -/
def difs : Int → List (Int × Int) → List Int
  | _, [] => []
  | x, q :: qs => (q.1 - x) :: difs q.1 qs
theorem signs_fst (vs gs : List Int) : ∀ (rs : List (Int × Int)) (ah : Option Int), (signsM vs gs ah rs).map Prod.fst = (rs.map Prod.snd).map fun v => ((clsOf vs v : Nat) : Int)
  | [], _ => rfl
  | p :: rs, ah => by rw [signsM, List.map_cons, signs_fst vs gs rs, List.map_cons, List.map_cons]
theorem signs_snd (vs gs : List Int) : ∀ (rs : List (Int × Int)) (x : Int), (signsM vs gs (some x) rs).map Prod.snd = (difs x rs).map fun v => ((clsOf gs v : Nat) : Int)
  | [], _ => rfl
  | p :: rs, x => by rw [signsM, List.map_cons, signs_snd vs gs rs, difs, List.map_cons]; rfl
theorem difs_sum : ∀ (rs : List (Int × Int)) (x : Int), (difs x rs).sum = ((rs.getLast?.map Prod.fst).getD x) - x
  | [], x => by simp [difs]
  | [q], x => by simp [difs]
  | q :: r :: rs, x => by
    rw [difs, List.sum_cons, difs_sum (r :: rs) q.1, List.getLast?_cons_cons]
    obtain ⟨z, hz⟩ : ∃ z, (r :: rs).getLast? = some z := ⟨_, List.getLast?_eq_some_getLast (List.cons_ne_nil r rs)⟩
    rw [hz]
    show q.1 - x + (z.1 - q.1) = z.1 - x
    omega
theorem difs_pos : ∀ (rs : List (Int × Int)) (x : Int), (x :: rs.map Prod.fst).Pairwise (· < ·) → ∀ d ∈ difs x rs, 1 ≤ d
  | [], _, _, d, h => nomatch h
  | q :: rs, x, h, d, hd => by
    have pc := List.pairwise_cons.mp h
    rw [difs] at hd
    rcases List.mem_cons.mp hd with rfl | hd
    · have := pc.1 q.1 (by simp)
      omega
    · exact difs_pos rs q.1 pc.2 d hd
theorem nn_le_sum : ∀ (l : List Int), (∀ x ∈ l, 1 ≤ x) → 0 ≤ l.sum ∧ (l.length : Int) ≤ l.sum ∧ ∀ x ∈ l, x ≤ l.sum
  | [], _ => ⟨by simp, by simp, fun _ h => nomatch h⟩
  | y :: l, h => by
    obtain ⟨i1, i2, i3⟩ := nn_le_sum l fun x hx => h x (List.mem_cons_of_mem _ hx)
    have hy := h y List.mem_cons_self
    rw [List.sum_cons, List.length_cons]
    refine ⟨by omega, by omega, fun x hx => ?_⟩
    rcases List.mem_cons.mp hx with rfl | hx
    · omega
    · have := i3 x hx
      omega
theorem difs_len : ∀ (rs : List (Int × Int)) (x : Int), (difs x rs).length = rs.length
  | [], _ => rfl
  | q :: rs, x => by rw [difs, List.length_cons, difs_len rs, List.length_cons]
/-- a row that the law draws -/
structure RowIn (rs : List (Int × Int)) : Prop where
  n2 : 2 ≤ rs.length
  n3 : rs.length ≤ 30
  asc : (rs.map Prod.fst).Pairwise (· < ·)
  m0 : ∀ m ∈ rs.map Prod.fst, 0 < m ∧ m < 2 ^ 40
  v : ∀ v ∈ rs.map Prod.snd, -(2 ^ 40) ≤ v ∧ v ≤ 2 ^ 40
theorem last_first {rs : List (Int × Int)} (h : 2 ≤ rs.length) (asc : (rs.map Prod.fst).Pairwise (· < ·)) {size : Int} {e : Ent} (eo : EntOf rs size e) :
    ∃ p0 qs, rs = p0 :: qs ∧ e.first = p0.1 ∧ e.last - e.first = (difs p0.1 qs).sum ∧ ∀ d ∈ difs p0.1 qs, 1 ≤ d := by
  cases rs with
  | nil => cases h
  | cons p0 qs =>
    obtain ⟨p, h1, h2⟩ := eo.first
    obtain ⟨q, h3, h4⟩ := eo.last
    have : p = p0 := (Option.some.inj h1).symm
    subst this
    refine ⟨p, qs, rfl, h2, ?_, difs_pos qs p.1 (by simpa using asc)⟩
    rw [difs_sum, h2, h4]
    have l0 : qs ≠ [] := fun e => by subst e; simp at h
    have : qs.getLast? = some q := by
      rw [List.length_cons, Nat.add_sub_cancel] at h3
      have l1 := List.length_pos_iff.mpr l0
      rw [show qs.length = (qs.length - 1) + 1 by omega, List.getElem?_cons_succ] at h3
      rw [List.getLast?_eq_getElem?]
      exact h3
    rw [this]
    rfl
/-- the entry of such a row is possible -/
theorem ent_ok {rs : List (Int × Int)} {e : Ent} (ri : RowIn rs) (eo : EntOf rs 0 e) : EntOk e := by
  have n2 := ri.n2
  have n3 := ri.n3
  obtain ⟨p0, qs, rfl, f1, f2, f3⟩ := last_first ri.n2 ri.asc eo
  obtain ⟨d0, d1, _⟩ := nn_le_sum _ f3
  rw [difs_len] at d1
  have hc := eo.count
  rw [List.length_cons] at hc n2 n3
  have lf := ri.m0 p0.1 (by simp)
  obtain ⟨q, q1, q2⟩ := eo.last
  have ll := ri.m0 q.1 (List.mem_map.mpr ⟨q, List.mem_of_getElem? q1, rfl⟩)
  have vl := ri.v _ eo.l1
  have vg := ri.v _ eo.g1
  have tl := sum_up (fun _ => e.least) _ _ eo.g1 eo.l2
  have tg := sum_down (fun _ => e.greatest) _ _ eo.l1 eo.g2
  rw [sum_konst, List.length_map, List.length_cons, show (((qs.length + 1 : Nat)) : Int) = (qs.length : Int) + 1 by omega, Int.add_mul, Int.one_mul, ← eo.total] at tl tg
  have cc : e.count - 1 = (qs.length : Int) := by omega
  refine ⟨by rw [eo.bits]; decide, by omega, by omega, by omega, by omega, by omega, vl.1, eo.l2 _ eo.g1, vg.2, ?_, ?_⟩
  · rw [cc]
    omega
  · rw [cc]
    omega
/-- the row's own word can be its block's -/
theorem own_ok (b : Blk) (rs : List (Int × Int)) (ri : 2 ≤ rs.length) (asc : (rs.map Prod.fst).Pairwise (· < ·)) {size : Int} (eo : EntOf rs size b.e) (av : Asc b.vs) (ag : Asc b.gs) (o p t f : Int) (hb : spV b b.bottom = some (o, p)) (ht : spV b b.top = some (t, f)) :
    ∃ w0 ws, signsM b.vs b.gs b.ah rs = w0 :: ws ∧ w0.2 = firstM b.gs b.e b.ah ∧ (∀ s ∈ w0 :: ws, 0 ≤ s.1 ∧ s.1 ≤ b.vs.length) ∧ (∀ s ∈ ws, 0 ≤ s.2 ∧ s.2 ≤ b.gs.length) ∧ canM b w0 ws p t = true := by
  obtain ⟨p0, qs, rfl, f1, f2, f3⟩ := last_first ri asc eo
  obtain ⟨d0, d1, d2⟩ := nn_le_sum _ f3
  have hb' : spanAt b.vs b.e.least b.e.greatest (clsOf b.vs b.e.least) = some (o, p) := by rw [← hb]; unfold spV; rw [Int.toNat_natCast]; rfl
  have ht' : spanAt b.vs b.e.least b.e.greatest (clsOf b.vs b.e.greatest) = some (t, f) := by rw [← ht]; unfold spV; rw [Int.toNat_natCast]; rfl
  have eo1 : o = b.e.least := span_lo av hb'
  have ef1 : f = b.e.greatest := span_hi av ht'
  generalize hvals : (p0 :: qs).map Prod.snd = vals
  have l2 := eo.l2
  have g2 := eo.g2
  have l1 := eo.l1
  have g1 := eo.g1
  have tot := eo.total
  rw [hvals] at l2 g2 l1 g1 tot
  generalize hgaps : difs p0.1 qs = gaps at d0 d1 d2 f2 f3
  refine ⟨(((clsOf b.vs p0.2 : Nat) : Int), gapM b.gs b.ah p0.1), signsM b.vs b.gs (some p0.1) qs, rfl, ?_, ?_, ?_, ?_⟩
  · show gapM b.gs b.ah p0.1 = _
    unfold gapM firstM
    rw [f1]
    try (cases b.ah <;> rfl)
  · have hk : ((signsM b.vs b.gs b.ah (p0 :: qs)).map Prod.fst) = vals.map fun v => ((clsOf b.vs v : Nat) : Int) := by rw [signs_fst, hvals]
    intro s hs
    have : s.1 ∈ (signsM b.vs b.gs b.ah (p0 :: qs)).map Prod.fst := List.mem_map.mpr ⟨s, hs, rfl⟩
    rw [hk] at this
    obtain ⟨v, _, e⟩ := List.mem_map.mp this
    rw [← e]
    have := clsOf_le b.vs v
    omega
  · have hk : ((signsM b.vs b.gs (some p0.1) qs).map Prod.snd) = gaps.map fun v => ((clsOf b.gs v : Nat) : Int) := by rw [signs_snd, hgaps]
    intro s hs
    have : s.2 ∈ (signsM b.vs b.gs (some p0.1) qs).map Prod.snd := List.mem_map.mpr ⟨s, hs, rfl⟩
    rw [hk] at this
    obtain ⟨v, _, e⟩ := List.mem_map.mp this
    rw [← e]
    have := clsOf_le b.gs v
    omega
  · have hk : ((((clsOf b.vs p0.2 : Nat) : Int), gapM b.gs b.ah p0.1) :: signsM b.vs b.gs (some p0.1) qs).map Prod.fst = vals.map fun v => ((clsOf b.vs v : Nat) : Int) := by
      rw [← hvals, ← signs_fst b.vs b.gs (p0 :: qs) b.ah]
      rfl
    have hL : ((((clsOf b.vs p0.2 : Nat) : Int), gapM b.gs b.ah p0.1) :: signsM b.vs b.gs (some p0.1) qs).map (fun s => spV b s.1) = vals.map fun v => spanAt b.vs b.e.least b.e.greatest (clsOf b.vs v) := by
      have : ∀ l : List (Int × Int), l.map (fun s => spV b s.1) = (l.map Prod.fst).map (spV b) := fun l => by rw [List.map_map]; rfl
      rw [this, hk, List.map_map]
      rfl
    have hG : (signsM b.vs b.gs (some p0.1) qs).map (fun s => spG b s.2) = gaps.map fun v => spanAt b.gs 1 (b.e.last - b.e.first) (clsOf b.gs v) := by
      have : ∀ l : List (Int × Int), l.map (fun s => spG b s.2) = (l.map Prod.snd).map (spG b) := fun l => by rw [List.map_map]; rfl
      rw [this, signs_snd, hgaps, List.map_map]
      rfl
    unfold canM canL
    rw [hk, hL, hG]
    have sv : ∀ v ∈ vals, ∃ l m, spanAt b.vs b.e.least b.e.greatest (clsOf b.vs v) = some (l, m) ∧ l ≤ v ∧ v ≤ m := fun v hv => span_cls av (l2 v hv) (g2 v hv)
    have sg : ∀ v ∈ gaps, ∃ l m, spanAt b.gs 1 (b.e.last - b.e.first) (clsOf b.gs v) = some (l, m) ∧ l ≤ v ∧ v ≤ m := fun v hv => span_cls ag (f3 v hv) (by have := d2 v hv; omega)
    have x1 : decide ((((clsOf b.vs p0.2 : Nat) : Int), gapM b.gs b.ah p0.1).2 = firstM b.gs b.e b.ah) = true := by
      rw [decide_eq_true_iff]
      show gapM b.gs b.ah p0.1 = _
      unfold gapM firstM
      rw [f1]
      try (cases b.ah <;> rfl)
    have x2 : ((vals.map fun v => spanAt b.vs b.e.least b.e.greatest (clsOf b.vs v)).all fun s => s.isSome) = true := by
      rw [List.all_map, List.all_eq_true]
      intro v hv
      obtain ⟨l, m, e, _⟩ := sv v hv
      show (spanAt b.vs b.e.least b.e.greatest (clsOf b.vs v)).isSome = true
      rw [e]
      rfl
    have x3 : ((gaps.map fun v => spanAt b.gs 1 (b.e.last - b.e.first) (clsOf b.gs v)).all fun s => s.isSome) = true := by
      rw [List.all_map, List.all_eq_true]
      intro v hv
      obtain ⟨l, m, e, _⟩ := sg v hv
      show (spanAt b.gs 1 (b.e.last - b.e.first) (clsOf b.gs v)).isSome = true
      rw [e]
      rfl
    have x4 : needM b ≤ (((vals.map fun v => ((clsOf b.vs v : Nat) : Int)).count (b.bottom : Int) : Nat) : Int) := by
      unfold needM
      split
      · rename_i c
        have := count_map_two (fun v => ((clsOf b.vs v : Nat) : Int)) (b.bottom : Int) vals _ _ l1 g1 (by omega) rfl (by show ((b.top : Nat) : Int) = _; rw [c.1])
        omega
      · have := count_map_mem (fun v => ((clsOf b.vs v : Nat) : Int)) (b.bottom : Int) vals _ l1 rfl
        omega
    have x5 : 1 ≤ ((vals.map fun v => ((clsOf b.vs v : Nat) : Int)).count (b.top : Int)) := count_map_mem (fun v => ((clsOf b.vs v : Nat) : Int)) (b.top : Int) vals _ g1 rfl
    have fF : ∀ (l : List Int) (h : Int → Option (Int × Int)), sumF (l.map h) = (l.map fun v => ((h v).getD (0, 0)).1).sum := fun l h => by unfold sumF; rw [List.map_map]; rfl
    have fS : ∀ (l : List Int) (h : Int → Option (Int × Int)), sumS (l.map h) = (l.map fun v => ((h v).getD (0, 0)).2).sum := fun l h => by unfold sumS; rw [List.map_map]; rfl
    have y1 := sum_up (fun v => ((spanAt b.vs b.e.least b.e.greatest (clsOf b.vs v)).getD (0, 0)).1) vals _ g1 fun v hv => by obtain ⟨l, m, e, h, _⟩ := sv v hv; rw [e]; exact h
    have y2 := sum_down (fun v => ((spanAt b.vs b.e.least b.e.greatest (clsOf b.vs v)).getD (0, 0)).2) vals _ l1 fun v hv => by obtain ⟨l, m, e, _, h⟩ := sv v hv; rw [e]; exact h
    rw [ht'] at y1
    rw [hb'] at y2
    have x6 : sumF (vals.map fun v => spanAt b.vs b.e.least b.e.greatest (clsOf b.vs v)) + b.e.greatest - t ≤ b.e.total := by
      rw [fF, tot]
      exact y1
    have x7 : b.e.total ≤ sumS (vals.map fun v => spanAt b.vs b.e.least b.e.greatest (clsOf b.vs v)) + b.e.least - p := by
      rw [fS, tot]
      exact y2
    have z1 : ∀ l : List Int, (∀ v ∈ l, v ∈ gaps) → (l.map fun v => ((spanAt b.gs 1 (b.e.last - b.e.first) (clsOf b.gs v)).getD (0, 0)).1).sum ≤ l.sum ∧ l.sum ≤ (l.map fun v => ((spanAt b.gs 1 (b.e.last - b.e.first) (clsOf b.gs v)).getD (0, 0)).2).sum := fun l => by
      induction l with
      | nil => intro _; simp
      | cons v l ih =>
        intro h
        obtain ⟨i1, i2⟩ := ih fun u hu => h u (List.mem_cons_of_mem _ hu)
        obtain ⟨x, y, e, h1, h2⟩ := sg v (h v List.mem_cons_self)
        simp only [List.map_cons, List.sum_cons, e, Option.getD_some]
        omega
    obtain ⟨z2, z3⟩ := z1 gaps fun _ h => h
    have x8 : sumF (gaps.map fun v => spanAt b.gs 1 (b.e.last - b.e.first) (clsOf b.gs v)) ≤ b.e.last - b.e.first := by rw [fF, f2]; rw [← f2]; omega
    have x9 : b.e.last - b.e.first ≤ sumS (gaps.map fun v => spanAt b.gs 1 (b.e.last - b.e.first) (clsOf b.gs v)) := by rw [fS]; omega
    rw [x1, x2, x3, decide_eq_true x4, decide_eq_true x5, decide_eq_true x6, decide_eq_true x7, decide_eq_true x8, decide_eq_true x9]
    rfl
end K21
end
section
set_option maxRecDepth 100000
set_option maxHeartbeats 4000000
namespace K21
open DL
/-- a row as it is drawn: its last point is q -/
structure RowP (rs : List (Int × Int)) (q : Int × Int) : Prop where
  pre : ∃ pre, rs = pre ++ [q]
  asc : (rs.map Prod.fst).Pairwise (· < ·)
  m : ∀ m ∈ rs.map Prod.fst, 0 < m ∧ m ≤ q.1
  mb : q.1 ≤ rs.length * 2097152
  v : ∀ v ∈ rs.map Prod.snd, -(2 ^ 39) ≤ v ∧ v ≤ 2 ^ 39
theorem RowP.one {q : Int × Int} (h : 0 < q.1) (h2 : q.1 ≤ 2097152) (h3 : -(2 ^ 39) ≤ q.2 ∧ q.2 ≤ 2 ^ 39) : RowP [q] q :=
  ⟨⟨[], rfl⟩, List.pairwise_singleton _ _, fun m hm => by rw [List.mem_singleton.mp hm]; exact ⟨h, Int.le_refl _⟩, by simpa using h2, fun v hv => by rw [List.mem_singleton.mp hv]; exact h3⟩
theorem RowP.snoc {rs : List (Int × Int)} {q p : Int × Int} (h : RowP rs q) (h1 : q.1 < p.1) (h2 : p.1 ≤ q.1 + 2097152) (h3 : -(2 ^ 39) ≤ p.2 ∧ p.2 ≤ 2 ^ 39) : RowP (rs ++ [p]) p := by
  refine ⟨⟨rs, rfl⟩, ?_, fun m hm => ?_, ?_, fun v hv => ?_⟩
  · rw [List.map_append, List.pairwise_append]
    refine ⟨h.asc, List.pairwise_singleton _ _, fun a ha b hb => ?_⟩
    have := (h.m a ha).2
    rw [List.mem_singleton.mp hb]
    omega
  · rw [List.map_append] at hm
    rcases List.mem_append.mp hm with hm | hm
    · have := h.m m hm
      omega
    · rw [List.mem_singleton.mp hm]
      obtain ⟨pre, e⟩ := h.pre
      have := h.m q.1 (by rw [e]; simp)
      omega
  · have := h.mb
    rw [List.length_append, List.length_singleton]
    omega
  · rw [List.map_append] at hv
    rcases List.mem_append.mp hv with hv | hv
    · exact h.v v hv
    · rw [List.mem_singleton.mp hv]
      exact h3
theorem RowP.rowIn {rs : List (Int × Int)} {q : Int × Int} (h : RowP rs q) (h2 : 2 ≤ rs.length) (h3 : rs.length ≤ 30) : RowIn rs :=
  ⟨h2, h3, h.asc, fun m hm => by have := h.m m hm; have := h.mb; omega, fun v hv => by have := h.v v hv; omega⟩
theorem asc_len : ∀ (ms ns : List Int), ms.Pairwise (· < ·) → (∀ k ∈ ms, k ∈ ns) → ms.length ≤ ns.length
  | [], _, _, _ => Nat.zero_le _
  | m :: ms, ns, h, hs => by
    have pc := List.pairwise_cons.mp h
    have hm := hs m List.mem_cons_self
    have := asc_len ms (ns.erase m) pc.2 fun k hk => (List.mem_erase_of_ne (by have := pc.1 k hk; omega)).mpr (hs k (List.mem_cons_of_mem _ hk))
    rw [List.length_erase_of_mem hm] at this
    have := List.length_pos_of_mem hm
    rw [List.length_cons]
    omega
theorem gaps_ok {ys ms : List Int} {k : Nat} (h : ys.Perm [2, 3, 7, 20, 65536, 1048576]) (hk : k ≤ 3) (p : ms.Perm (ys.take k)) (s : ms.Pairwise (· ≤ ·)) : ms.length ≤ 3 ∧ (∀ c ∈ ms, 2 ≤ c ∧ c ≤ 2 ^ 20) ∧ Asc ms := by
  have nd : ys.Nodup := h.nodup_iff.mpr (by decide)
  have nd2 : ms.Nodup := p.nodup_iff.mpr (nd.sublist (List.take_sublist k ys))
  refine ⟨by rw [p.length_eq, List.length_take]; omega, fun c hc => ?_, ?_⟩
  · have := h.mem_iff.mp (List.mem_of_mem_take (p.mem_iff.mp hc))
    simp only [List.mem_cons, List.not_mem_nil, or_false] at this
    omega
  · exact (s.and nd2).imp fun ⟨a, b⟩ => by omega
theorem pick_int {ns : List Int} {r : Nat} {x : D} (h : (ns.map D.int)[r]? = some x) : ∃ n ∈ ns, x = .int n := by
  rw [List.getElem?_map] at h
  obtain ⟨n, h1, h2⟩ := Option.map_eq_some_iff.mp h
  exact ⟨n, List.mem_of_getElem? h1, h2.symm⟩
theorem Pen.more {n m : Nat} {c : List D} (h : Pen n c) (e : n ≤ m) : Pen m c := by
  obtain ⟨ns, a, g, h1, h2, h3, h4, h5⟩ := h
  exact ⟨ns, a, g, h1, h2, h3, by omega, h5⟩
/-- a word as it is drawn -/
structure WordP (many : Nat) (vs gs : List Int) (W : List (Int × Int)) : Prop where
  n : W.length = many
  v : ∀ s ∈ W, 0 ≤ s.1 ∧ s.1 ≤ vs.length
  g : ∀ (i : Nat) (s : Int × Int), W[i + 1]? = some s → 0 ≤ s.2 ∧ s.2 ≤ gs.length
theorem WordP.set {many : Nat} {vs gs : List Int} {W : List (Int × Int)} (h : WordP many vs gs W) (i : Nat) (s : Int × Int) (h1 : 0 ≤ s.1 ∧ s.1 ≤ vs.length) (h2 : i ≠ 0 → 0 ≤ s.2 ∧ s.2 ≤ gs.length) : WordP many vs gs (W.set i s) := by
  refine ⟨by rw [List.length_set]; exact h.n, fun u hu => ?_, fun j u hu => ?_⟩
  · rcases List.mem_or_eq_of_mem_set hu with hu | rfl
    · exact h.v u hu
    · exact h1
  · rw [List.getElem?_set] at hu
    by_cases e : i = j + 1
    · rw [if_pos e] at hu
      split at hu
      · injection hu with hu
        subst hu
        exact h2 (by omega)
      · cases hu
    · rw [if_neg e] at hu
      exact h.g j u hu
theorem moms_eq {l m : List Int} (h : l.Pairwise (· < ·)) (h2 : m.Pairwise (· < ·)) (hm : ∀ k, k ∈ m ↔ k ∈ l) : m = l := by
  induction l generalizing m with
  | nil =>
    cases m with
    | nil => rfl
    | cons x m => exact absurd ((hm x).mp List.mem_cons_self) (by simp)
  | cons y l ih =>
    cases m with
    | nil => exact absurd ((hm y).mpr List.mem_cons_self) (by simp)
    | cons x m =>
      have p1 := List.pairwise_cons.mp h
      have p2 := List.pairwise_cons.mp h2
      have e : x = y := by
        rcases List.mem_cons.mp ((hm x).mp List.mem_cons_self) with e | e
        · exact e
        · rcases List.mem_cons.mp ((hm y).mpr List.mem_cons_self) with e2 | e2
          · exact e2.symm
          · have := p1.1 x e
            have := p2.1 y e2
            omega
      subst e
      congr 1
      refine ih p1.2 p2.2 fun k => ⟨fun hk => ?_, fun hk => ?_⟩
      · rcases List.mem_cons.mp ((hm k).mp (List.mem_cons_of_mem _ hk)) with rfl | e
        · exact absurd (p2.1 k hk) (by omega)
        · exact e
      · rcases List.mem_cons.mp ((hm k).mpr (List.mem_cons_of_mem _ hk)) with rfl | e
        · exact absurd (p1.1 k hk) (by omega)
        · exact e
end K21
end
section
set_option maxRecDepth 100000
set_option maxHeartbeats 4000000
namespace K21
open PySem PySem.Spec PyProof.Rows L2 RZ StX NdefX DL
local macro_rules | `(tactic| walk_at "dl") => `(tactic| simp only [dSeq, dIfS, dTest, dOp, rdLt, rdLe, rdGt, rdGe, rdEq, rdNe, rdI0, rdI, rdPlus, rdTimes, rdIsN, rdNotN, rdIsB, rdIsi, dIsiT, dVar, dC, dRet, dRetN, dNext, dNever, dDrop, dAsg, dSetN, gNm, gTp, gCn, gNl, dCB, dCall, dCallM, dCons, dNil, dStar, dTup, rdInt, rdAbs, rdLen, rdBool, rdReprF, rdTuple, rdAll, rdAny, rdSum, rdSumA, rdMax2, rdMin2, rdMax, rdMin, dLenB, dIxB, gSb, dAnd, dOr, dNot, dAndV, dOrV, dNotV, dIf, dChain, dChain3, dUn, rdIx, dShare, dLst, dPar, dPar3, dParN1, dParN2, dParNN, dList, dAugS, dAsg2, dTupZip, dFld, dFldI, dFset, gFs, dMeth, dMake, dSl, dNoP, dPart, dAug, dYes, dApp, dPop, dPopAt, wipeS, backS, iSq, iLs, iTp, iEnq, iZq, iRg1, iRg2, tI, prD, spansD, vcuts, startS, startM, startI, lstAt, setLst, D.cv, D.cvs, D.isNon, D.seq, atI_0, atI_1, atI_2, atI_3, atI_4, atI_5, atI_6, Int.cast_ofNat_Int, Int.natCast_one, Int.natCast_zero, Int.reduceEq, Int.reduceLE, Int.reduceLT, decide_true, decide_false, List.getElem?_cons_succ, List.getElem?_cons_zero, List.length_cons, List.length_nil, List.map_cons, List.map_nil, List.cons_append, List.nil_append, List.append_nil, Nat.reduceAdd, Nat.reduceSub, List.replicate, Option.some.injEq, exists_eq_left', exists_eq_left, exists_eq', exists_and_left, exists_and_right, true_and, and_true, List.set_cons_zero, List.set_cons_succ, decide_eq_true_eq, Option.bind_some, Option.map_some, reduceIte, if_true, if_false, Bool.false_eq_true, Bool.not_true, Bool.not_false, Sl.io.injEq, Sl.sh.injEq, FOe_bits, entF_bits, FOe_count, entF_count, FOe_first, entF_first, FOe_last, entF_last, FOe_total, entF_total, FOe_least, entF_least, FOe_greatest, entF_greatest, FOe_parts, entF_parts, FOb_entry, FOb_many, FOb_first, FOb_length, FOb_spans, FOb_steps, FOb_bottom, FOb_top, FOb_inner, blkF_entry, blkF_many, blkF_first, blkF_length, blkF_spans, blkF_steps, blkF_bottom, blkF_top, blkF_inner, blkF_no_none, blkF_no_letters, blkF_no_behind, blkF_no_wanted, blkF_no_values_go_on, blkF_no_gaps_go_on, blkF_no_goes_on])

theorem dFor_cut {di : DI} {g : DG} {t : DS} {N : DN} {sl : List Sl} (h : ∀ G T, G = g → T = t → di sl (fun items sl1 => ∃ I : Nat → List Sl → Prop, I 0 sl1 ∧ (∀ i x sl, items[i]? = some x → I i sl → G x sl fun sl2 => T { nx := I (i + 1), ct := I (i + 1), bk := N.nx, rt := N.rt, ro := N.ro } sl2) ∧ ∀ sl, I items.length sl → N.nx sl)) : dFor di g t N sl := h g t rfl rfl
theorem seq_cutGN {g : DG} {x : D} {a b : DS} {N : DN} {sl : List Sl} (h : ∀ B M, B = b → M = N → g x sl fun sl2 => dSeq a B M sl2) : g x sl fun sl2 => dSeq a b N sl2 := h _ _ rfl rfl
theorem pow38 : CPow 2 38 := by unfold CPow; decide
theorem cdiv3 (i : Int) : CDiv100 i 3 := by unfold CDiv100; decide
theorem dFor_J {di : DI} {g : DG} {t : DS} {N : DN} {sl sl1 : List Sl} {items : List D} (I : Nat → List Sl → Prop) (hd : ∀ Q : List D → List Sl → Prop, Q items sl1 → di sl Q) (i0 : I 0 sl1)
    (step : ∀ J : Nat → List Sl → Prop, (∀ i sl, I i sl → J i sl) → ∀ i x sl, items[i]? = some x → I i sl → g x sl fun sl2 => t { nx := J (i + 1), ct := J (i + 1), bk := N.nx, rt := N.rt, ro := N.ro } sl2) (fin : ∀ sl, I items.length sl → N.nx sl) : dFor di g t N sl :=
  hd _ ⟨I, i0, step I fun _ _ h => h, fin⟩
theorem five {a b c d e : D} : 1 ≤ [a, b, c, d, e].length ∧ [a, b, c, d, e].length ≤ 1000 := by
  rw [show [a, b, c, d, e].length = 5 from rfl]
  decide
theorem pow16 : CPow 2 16 := by unfold CPow; decide
theorem for_J {G : DG} {T : DS} {N : DN} {sl1 : List Sl} {items : List D} (I : Nat → List Sl → Prop) (i0 : I 0 sl1)
    (step : ∀ J : Nat → List Sl → Prop, (∀ i sl, I i sl → J i sl) → ∀ i x sl, items[i]? = some x → I i sl → G x sl fun sl2 => T { nx := J (i + 1), ct := J (i + 1), bk := N.nx, rt := N.rt, ro := N.ro } sl2) (fin : ∀ sl, I items.length sl → N.nx sl) :
    ∃ I : Nat → List Sl → Prop, I 0 sl1 ∧ (∀ i x sl, items[i]? = some x → I i sl → G x sl fun sl2 => T { nx := I (i + 1), ct := I (i + 1), bk := N.nx, rt := N.rt, ro := N.ro } sl2) ∧ ∀ sl, I items.length sl → N.nx sl :=
  ⟨I, i0, step I fun _ _ h => h, fin⟩
theorem pow20 : CPow 2 20 := by unfold CPow; decide
theorem dLc_cut {di : DI} {g : DG} {tt : DT} {de : DE} {vs : List Nat} {sl : List Sl} {P : List D → List Sl → Prop} (h : ∀ G T E, G = g → T = tt → E = de → di sl (fun items sl1 => (NoOwn sl1 vs ∧ ∀ i ∈ vs, i < sl1.length) ∧ ∃ I : Nat → List Sl → List D → Prop, I 0 sl1 [] ∧
  (∀ i x sl2 acc, items[i]? = some x → I i sl2 acc → (NoOwn sl2 vs ∧ ∀ i ∈ vs, i < sl2.length) ∧ G x (wipeS sl2 vs) fun sl3 => T sl3 fun b sl4 =>
    if b = true then E sl4 fun d sl5 => acc.length < sizeLine ∧ I (i + 1) (backS sl2 sl5 vs) (acc ++ [d]) else I (i + 1) (backS sl2 sl4 vs) acc) ∧
  ∀ sl2 acc, I items.length sl2 acc → P acc sl2)) : dLc di g tt de vs sl P := h g tt de rfl rfl rfl
theorem lc_J {G : DG} {T : DT} {E : DE} {vs : List Nat} {sl1 : List Sl} {P : List D → List Sl → Prop} {items : List D} (I : Nat → List Sl → List D → Prop) (no : NoOwn sl1 vs ∧ ∀ i ∈ vs, i < sl1.length) (i0 : I 0 sl1 [])
    (step : ∀ J : Nat → List Sl → List D → Prop, (∀ i sl acc, I i sl acc → J i sl acc) → ∀ i x sl2 acc, items[i]? = some x → I i sl2 acc → (NoOwn sl2 vs ∧ ∀ i ∈ vs, i < sl2.length) ∧ G x (wipeS sl2 vs) fun sl3 => T sl3 fun b sl4 =>
      if b = true then E sl4 fun d sl5 => acc.length < sizeLine ∧ J (i + 1) (backS sl2 sl5 vs) (acc ++ [d]) else J (i + 1) (backS sl2 sl4 vs) acc)
    (fin : ∀ sl2 acc, I items.length sl2 acc → P acc sl2) : (NoOwn sl1 vs ∧ ∀ i ∈ vs, i < sl1.length) ∧ ∃ I : Nat → List Sl → List D → Prop, I 0 sl1 [] ∧
  (∀ i x sl2 acc, items[i]? = some x → I i sl2 acc → (NoOwn sl2 vs ∧ ∀ i ∈ vs, i < sl2.length) ∧ G x (wipeS sl2 vs) fun sl3 => T sl3 fun b sl4 =>
    if b = true then E sl4 fun d sl5 => acc.length < sizeLine ∧ I (i + 1) (backS sl2 sl5 vs) (acc ++ [d]) else I (i + 1) (backS sl2 sl4 vs) acc) ∧
  ∀ sl2 acc, I items.length sl2 acc → P acc sl2 := ⟨no, I, i0, step I fun _ _ _ h => h, fin⟩
theorem no1 {sl : List Sl} {v : Nat} {s0 : Sl} (h : sl[v]? = some s0) (h2 : s0.own = false) : NoOwn sl [v] := fun u hu s hs => by
  rw [List.mem_singleton.mp hu, h] at hs
  rw [← Option.some.inj hs]
  exact h2
section
variable {w : World} {K : PySem.W.Frag} {mg : Str → Option Value} {base : Heap}
def spLaw : SD := fun ds P => ∃ ns : List Int, ds = [.scr ns] ∧ ns.length ≤ 63 ∧ P (.bl true)
theorem ok_law (T : Txt K mg) : FnOk Prog w K mg base CX0 20 T.law.f T.law.fd ["script"] (SpD K spLaw) := by
  have G_law_pen : FnOk Prog w K mg base CX0 1 T.law_pen.f T.law_pen.fd _ _ := ok_law_pen T
  have G_law_draw : FnOk Prog w K mg base CX0 1 T.law_draw.f T.law_draw.fd _ _ := ok_law_draw T
  have G_law_pick : FnOk Prog w K mg base CX0 2 T.law_pick.f T.law_pick.fd _ _ := ok_law_pick T
  have G_law_mixed : FnOk Prog w K mg base CX0 2 T.law_mixed.f T.law_mixed.fd _ _ := ok_law_mixed T
  have G_law_entry : FnOk Prog w K mg base CX0 1 T.law_entry.f T.law_entry.fd _ _ := ok_law_entry T
  have G_law_signs : FnOk Prog w K mg base CX0 1 T.law_signs.f T.law_signs.fd _ _ := ok_law_signs T
  have G_law_paper : FnOk Prog w K mg base CX0 7 T.law_paper.f T.law_paper.fd _ _ := ok_law_paper T
  have G_law_can : FnOk Prog w K mg base CX0 2 T.law_can.f T.law_can.fd _ _ := ok_law_can T
  have G_can_be : FnOk Prog w K mg base CX0 7 T.can_be.f T.can_be.fd _ _ := ok_can_be T
  have G_filled : FnOk Prog w K mg base CX0 7 T.filled.f T.filled.fd _ _ := ok_filled T
  refine okD (k := 19) T.law.fu sc_law (fun ds P ⟨ns, q, _⟩ => by rw [q]; rfl) (fun cdv A outer s H E Fm hr =>
    (dss_cons (ds_setN (i := 1) sc_law.nd rfl (by first | exact Or.inl rfl | exact Or.inr rfl) (dn_call (G_law_pen) (hr.mono (by decide)) (by rfl) T.law_pen.mgf T.law_pen.fu.kp T.law_pen.bi (da_cons (de_var 0) da_nil)))
      (dss_cons (ds_for PassesOwn.never rfl (di_range1 (by rfl) T.b_range de_int) (dg_name (i := 2) sc_law.nd rfl (by first | exact Or.inl rfl | exact Or.inr rfl)) (dss_cons (ds_par (i := 3) (j := 4) rfl sc_law.nd rfl rfl (by decide) rfl rfl (de_plus de_int (de_callM 1 (G_law_draw) (hr.mono (by decide)) (by rfl) T.law_draw.mgf T.law_draw.fu.kp T.law_draw.bi (da_cons de_int da_nil))) (de_callM 1 (G_law_pick) (hr.mono (by decide)) (by rfl) T.law_pick.mgf T.law_pick.fu.kp T.law_pick.bi (da_cons (de_new (dn_lst (da_cons de_int (da_cons de_int (da_cons (de_pow de_int de_int) da_nil))))) da_nil)) (by rfl))
      (dss_cons (ds_setN (i := 5) sc_law.nd rfl (by first | exact Or.inl rfl | exact Or.inr rfl) (dn_lst (da_cons (de_tup (da_cons (de_plus de_int (de_callM 1 (G_law_draw) (hr.mono (by decide)) (by rfl) T.law_draw.mgf T.law_draw.fu.kp T.law_draw.bi (da_cons de_int da_nil))) (da_cons (de_sub (de_callM 1 (G_law_draw) (hr.mono (by decide)) (by rfl) T.law_draw.mgf T.law_draw.fu.kp T.law_draw.bi (da_cons (de_var 4) da_nil)) (de_fdivW (de_var 4) de_int)) da_nil))) da_nil)))
      (dss_cons (ds_for PassesOwn.never rfl (di_range1 (by rfl) T.b_range (de_sub (de_var 3) de_int)) (dg_name (i := 6) sc_law.nd rfl (by first | exact Or.inl rfl | exact Or.inr rfl)) (dss_one (ds_expr (de_app 5 (de_tup (da_cons (de_plus (de_plus (de_ix (de_ixB 5 (de_neg de_int)) de_int) de_int) (de_callM 1 (G_law_pick) (hr.mono (by decide)) (by rfl) T.law_pick.mgf T.law_pick.fu.kp T.law_pick.bi (da_cons (de_new (dn_lst (da_cons de_int (da_cons de_int (da_cons de_int (da_cons (de_callM 1 (G_law_draw) (hr.mono (by decide)) (by rfl) T.law_draw.mgf T.law_draw.fu.kp T.law_draw.bi (da_cons de_int da_nil)) (da_cons (de_callM 1 (G_law_draw) (hr.mono (by decide)) (by rfl) T.law_draw.mgf T.law_draw.fu.kp T.law_draw.bi (da_cons (de_pow de_int de_int) da_nil)) da_nil))))))) da_nil))) (da_cons (de_sub (de_callM 1 (G_law_draw) (hr.mono (by decide)) (by rfl) T.law_draw.mgf T.law_draw.fu.kp T.law_draw.bi (da_cons (de_var 4) da_nil)) (de_fdivW (de_var 4) de_int)) da_nil)))))))
      (dss_cons (ds_set (i := 7) sc_law.nd rfl (by first | exact Or.inl rfl | exact Or.inr rfl) (de_new (dn_sortSet rfl (by rfl) T.b_sorted (by rfl) T.b_set (de_new (dn_lc (own := [("lap", 14)]) rfl sc_law.nd (di_range1 (by rfl) T.b_range (de_callM 1 (G_law_draw) (hr.mono (by decide)) (by rfl) T.law_draw.mgf T.law_draw.fu.kp T.law_draw.bi (da_cons de_int da_nil))) (blkOk_by (by kernel_rfl)) (fun _ _ _ _ _ _ => (dg_name (i := 14) sc_law.nd rfl (by first | exact Or.inl rfl | exact Or.inr rfl))) (fun _ _ _ _ _ _ => dts_nil) (fun _ _ _ _ _ _ => (de_plus (de_ix (de_callM 1 (G_law_pick) (hr.mono (by decide)) (by rfl) T.law_pick.mgf T.law_pick.fu.kp T.law_pick.bi (da_cons (de_var 5) da_nil)) de_int) (de_callM 1 (G_law_draw) (hr.mono (by decide)) (by rfl) T.law_draw.mgf T.law_draw.fu.kp T.law_draw.bi (da_cons de_int da_nil)))))))))
      (dss_cons (ds_set (i := 8) sc_law.nd rfl (by first | exact Or.inl rfl | exact Or.inr rfl) (de_new (dn_sort (by rfl) T.b_sorted (de_sl (de_callM 1 (G_law_mixed) (hr.mono (by decide)) (by rfl) T.law_mixed.mgf T.law_mixed.fu.kp T.law_mixed.bi (da_cons (de_new (dn_lst (da_cons de_int (da_cons de_int (da_cons de_int (da_cons de_int (da_cons (de_pow de_int de_int) (da_cons (de_pow de_int de_int) da_nil)))))))) da_nil)) do_none (do_some (de_callM 1 (G_law_draw) (hr.mono (by decide)) (by rfl) T.law_draw.mgf T.law_draw.fu.kp T.law_draw.bi (da_cons de_int da_nil)))))))
      (dss_cons (ds_par3 (i := 9) (j := 10) (l := 11) rfl sc_law.nd rfl rfl rfl (by decide) (by decide) (by decide) rfl rfl rfl (de_call (G_law_entry) (hr.mono (by decide)) (by rfl) T.law_entry.mgf T.law_entry.fu.kp T.law_entry.bi .nil (fun _ => .nil) (da_cons (de_var 5) (da_cons de_int da_nil))) (de_tup (da_cons (de_callTy call_tuple_of lr_tuple (by rfl) T.b_tuple (by decide +kernel) (da_cons (de_var 7) da_nil)) (da_cons (de_callTy call_tuple_of lr_tuple (by rfl) T.b_tuple (by decide +kernel) (da_cons (de_var 8) da_nil)) da_nil))) (de_callM 1 (G_law_pick) (hr.mono (by decide)) (by rfl) T.law_pick.mgf T.law_pick.fu.kp T.law_pick.bi (da_cons (de_new (dn_lst (da_cons de_non (da_cons de_int da_nil)))) da_nil)) (by rfl))
      (dss_cons (ds_par (i := 12) (j := 13) rfl sc_law.nd rfl rfl (by decide) rfl rfl (de_call (G_law_paper) (hr.mono (by decide)) (by rfl) T.law_paper.mgf T.law_paper.fu.kp T.law_paper.bi .nil (fun _ => .nil) (da_cons (de_var 9) da_nil)) (de_call (G_law_signs) (hr.mono (by decide)) (by rfl) T.law_signs.mgf T.law_signs.fu.kp T.law_signs.bi .nil (fun _ => .nil) (da_cons (de_var 5) (da_cons (de_var 11) (da_cons (de_tup (da_cons (de_var 7) (da_cons (de_var 8) da_nil))) da_nil)))) (by rfl))
      (dss_one (ds_for PassesOwn.never rfl (di_range1 (by rfl) T.b_range de_int) (dg_name (i := 14) sc_law.nd rfl (by first | exact Or.inl rfl | exact Or.inr rfl)) (dss_cons (ds_setN (i := 15) sc_law.nd rfl (by first | exact Or.inl rfl | exact Or.inr rfl) (dn_list (by rfl) T.b_list (de_var 13)))
      (dss_cons (ds_for PassesOwn.never rfl (di_range1 (by rfl) T.b_range (de_callM 1 (G_law_pick) (hr.mono (by decide)) (by rfl) T.law_pick.mgf T.law_pick.fu.kp T.law_pick.bi (da_cons (de_new (dn_lst (da_cons de_int (da_cons de_int (da_cons de_int (da_cons de_int (da_cons (de_var 3) da_nil))))))) da_nil))) (dg_name (i := 16) sc_law.nd rfl (by first | exact Or.inl rfl | exact Or.inr rfl)) (dss_cons (ds_set (i := 6) sc_law.nd rfl (by first | exact Or.inl rfl | exact Or.inr rfl) (de_callM 1 (G_law_draw) (hr.mono (by decide)) (by rfl) T.law_draw.mgf T.law_draw.fu.kp T.law_draw.bi (da_cons (de_var 3) da_nil)))
      (dss_one (ds_asg (de_if (dt_w (dw_or (dt_cmp (op_eq2 hr.units) lr_eq (de_var 6) de_int) (dw_or1 (dt_cmp (op_eq2 hr.units) lr_eq (de_callM 1 (G_law_draw) (hr.mono (by decide)) (by rfl) T.law_draw.mgf T.law_draw.fu.kp T.law_draw.bi (da_cons de_int da_nil)) de_int)))) (de_tup (da_cons (de_callM 1 (G_law_draw) (hr.mono (by decide)) (by rfl) T.law_draw.mgf T.law_draw.fu.kp T.law_draw.bi (da_cons (de_plus (de_len (by rfl) T.b_len (de_var 7)) de_int) da_nil)) (da_cons (de_ix (de_ixB 15 (de_var 6)) de_int) da_nil))) (de_tup (da_cons (de_ix (de_ixB 15 (de_var 6)) de_int) (da_cons (de_callM 1 (G_law_draw) (hr.mono (by decide)) (by rfl) T.law_draw.mgf T.law_draw.fu.kp T.law_draw.bi (da_cons (de_plus (de_len (by rfl) T.b_len (de_var 8)) de_int) da_nil)) da_nil)))) (dg_sub 15 (de_var 6))))))
      (dss_cons (ds_set (i := 17) sc_law.nd rfl (by first | exact Or.inl rfl | exact Or.inr rfl) (de_call (G_law_can) (hr.mono (by decide)) (by rfl) T.law_can.mgf T.law_can.fu.kp T.law_can.bi .nil (fun _ => .nil) (da_cons (de_var 9) (da_cons (de_var 11) (da_cons (de_var 10) (da_cons (de_var 15) da_nil))))))
      (dss_cons (ds_if (dt_w (dw_or (dt_cmp (op_ne2 hr.units) lr_ne (de_callB call_reprF lr_reprF (by rfl) T.b_repr (by decide +kernel) (da_cons (de_call (G_can_be) (hr.mono (by decide)) (by rfl) T.can_be.mgf T.can_be.fu.kp T.can_be.bi .nil (fun _ => .nil) (da_cons (de_var 12) (da_cons (de_var 11) (da_cons (de_var 10) (da_cons (de_callTy call_tuple_of lr_tuple (by rfl) T.b_tuple (by decide +kernel) (da_cons (de_var 15) da_nil)) da_nil))))) da_nil)) (de_callB call_reprF lr_reprF (by rfl) T.b_repr (by decide +kernel) (da_cons (de_var 17) da_nil))) (dw_or1 (dt_w (dw_and (dt_cmp (op_eq2 hr.units) lr_eq (de_var 14) de_int) (dw_and1 (dt_cmp op_isnot_bl lr_isnotB (de_call (G_can_be) (hr.mono (by decide)) (by rfl) T.can_be.mgf T.can_be.fu.kp T.can_be.bi .nil (fun _ => .nil) (da_cons (de_var 12) (da_cons (de_var 11) (da_cons (de_var 10) (da_cons (de_var 13) da_nil))))) de_bl))))))) (dss_one (ds_ret de_bl)) dss_nil)
      (dss_one (ds_if (dt_val (de_var 17)) (dss_cons (ds_set (i := 18) sc_law.nd rfl (by first | exact Or.inl rfl | exact Or.inr rfl) (de_call (G_filled) (hr.mono (by decide)) (by rfl) T.filled.mgf T.filled.fu.kp T.filled.bi .nil (fun _ => .nil) (da_cons (de_var 12) (da_cons (de_var 11) (da_cons (de_var 10) (da_cons (de_var 15) da_nil))))))
      (dss_cons (ds_if (dt_w (dw_or (dt_not (dt_val (de_isiK K (by rfl) T.b_isinstance (de_var 18) (de_bltn (n := "tuple") (by rfl) T.b_tuple (by decide +kernel))))) (dw_or (dt_cmp (op_ne2 hr.units) lr_ne (de_call (G_law_entry) (hr.mono (by decide)) (by rfl) T.law_entry.mgf T.law_entry.fu.kp T.law_entry.bi .nil (fun _ => .nil) (da_cons (de_var 18) (da_cons de_int da_nil))) (de_var 9)) (dw_or1 (dt_cmp (op_ne2 hr.units) lr_ne (de_call (G_law_signs) (hr.mono (by decide)) (by rfl) T.law_signs.mgf T.law_signs.fu.kp T.law_signs.bi .nil (fun _ => .nil) (da_cons (de_var 18) (da_cons (de_var 11) (da_cons (de_var 10) da_nil)))) (de_callTy call_tuple_of lr_tuple (by rfl) T.b_tuple (by decide +kernel) (da_cons (de_var 15) da_nil))))))) (dss_one (ds_ret de_bl)) dss_nil)
      (dss_one (ds_if (dt_cmp (op_ne2 hr.units) lr_ne (de_new (dn_sortSet rfl (by rfl) T.b_sorted (by rfl) T.b_set (de_new (dn_lc (own := [("one", 19)]) rfl sc_law.nd (di_seq (de_var 18)) (blkOk_by (by kernel_rfl)) (fun _ _ _ _ _ _ => (dg_name (i := 19) sc_law.nd rfl (by first | exact Or.inl rfl | exact Or.inr rfl))) (fun _ _ _ _ _ _ => dts_nil) (fun _ _ _ _ _ _ => (de_ix (de_var 19) de_int)))))) (de_new (dn_lc (own := [("one", 19)]) rfl sc_law.nd (di_seq (de_var 18)) (blkOk_by (by kernel_rfl)) (fun _ _ _ _ _ _ => (dg_name (i := 19) sc_law.nd rfl (by first | exact Or.inl rfl | exact Or.inr rfl))) (fun _ _ _ _ _ _ => dts_nil) (fun _ _ _ _ _ _ => (de_ix (de_var 19) de_int))))) (dss_one (ds_ret de_bl)) dss_nil)))) dss_nil))))))))))))))))
      (dss_one (ds_ret de_bl))))) (fun ds Q ⟨ns, q, hn, h2⟩ => ?_)
  subst q
  refine seq_cut fun B hB => ?_
  simp only [dSeq, dIfS, dTest, dOp, rdLt, rdLe, rdGt, rdGe, rdEq, rdNe, rdI0, rdI, rdPlus, rdTimes, rdIsN, rdNotN, rdIsB, rdIsi, dIsiT, dVar, dC, dRet, dRetN, dNext, dNever, dDrop, dAsg, dSetN, gNm, gTp, gCn, gNl, dCB, dCall, dCallM, dCons, dNil, dStar, dTup, rdInt, rdAbs, rdLen, rdBool, rdReprF, rdTuple, rdAll, rdAny, rdSum, rdSumA, rdMax2, rdMin2, rdMax, rdMin, dLenB, dIxB, gSb, dAnd, dOr, dNot, dAndV, dOrV, dNotV, dIf, dChain, dChain3, dUn, rdIx, dShare, dLst, dPar, dPar3, dParN1, dParN2, dParNN, dList, dAugS, dAsg2, dTupZip, dFld, dFldI, dFset, gFs, dMeth, dMake, dSl, dNoP, dPart, dAug, dYes, dApp, dPop, dPopAt, wipeS, backS, iSq, iLs, iTp, iEnq, iZq, iRg1, iRg2, tI, prD, spansD, vcuts, startS, startM, startI, lstAt, setLst, D.cv, D.cvs, D.isNon, D.seq, atI_0, atI_1, atI_2, atI_3, atI_4, atI_5, atI_6, Int.cast_ofNat_Int, Int.natCast_one, Int.natCast_zero, Int.reduceEq, Int.reduceLE, Int.reduceLT, decide_true, decide_false, List.getElem?_cons_succ, List.getElem?_cons_zero, List.length_cons, List.length_nil, List.map_cons, List.map_nil, List.cons_append, List.nil_append, List.append_nil, Nat.reduceAdd, Nat.reduceSub, List.replicate, Option.some.injEq, exists_eq_left', exists_eq_left, exists_eq', exists_and_left, exists_and_right, true_and, and_true, List.set_cons_zero, List.set_cons_succ, decide_eq_true_eq, Option.bind_some, Option.map_some, reduceIte, if_true, if_false, Bool.false_eq_true, Bool.not_true, Bool.not_false, Sl.io.injEq, Sl.sh.injEq, FOe_bits, entF_bits, FOe_count, entF_count, FOe_first, entF_first, FOe_last, entF_last, FOe_total, entF_total, FOe_least, entF_least, FOe_greatest, entF_greatest, FOe_parts, entF_parts, FOb_entry, FOb_many, FOb_first, FOb_length, FOb_spans, FOb_steps, FOb_bottom, FOb_top, FOb_inner, blkF_entry, blkF_many, blkF_first, blkF_length, blkF_spans, blkF_steps, blkF_bottom, blkF_top, blkF_inner, blkF_no_none, blkF_no_letters, blkF_no_behind, blkF_no_wanted, blkF_no_values_go_on, blkF_no_gaps_go_on, blkF_no_goes_on, dCallN]
  refine ⟨ns, rfl, hn, fun c0 hp0 => ?_⟩
  subst hB
  refine seq_cut fun B hB => ?_
  refine dFor_of (sl1 := ?_) (items := rngD 0 (Int.toNat 4)) (fun i sl => ∃ (c : List D) (n : Nat) (s2 s3 s4 s5 s6 s7 s8 s9 s10 s11 s12 s13 s14 s15 s16 s17 s18 s19 : Sl), sl = [.sh (.scr ns), .ow c, s2, s3, s4, s5, s6, s7, s8, s9, s10, s11, s12, s13, s14, s15, s16, s17, s18, s19] ∧ s14.own = false ∧ s19 = .un ∧ Pen n c ∧ n ≤ i * 2000) (fun Q h => ?_) ?_ ?_ ?_
  rotate_left
  · walk_at "dl"
    refine ⟨by decide, ?_⟩
    exact h
  · exact ⟨c0, 0, _, _, _, _, _, _, _, _, _, _, _, _, _, _, _, _, _, _, rfl, rfl, rfl, hp0, Nat.le_refl _⟩
  · rintro i x sl hi ⟨c, n, s2, s3, s4, s5, s6, s7, s8, s9, s10, s11, s12, s13, s14, s15, s16, s17, s18, s19, rfl, h14, rfl, hp, hnn⟩
    obtain ⟨hi4, rfl⟩ := rngD_get hi
    have hi4 : i < 4 := hi4
    generalize D.int (i : Int) = x
    refine seq_cutGN fun B1 M hB1 hM => ?_
    walk_at "dl"
    refine ⟨n, 29, hp, by omega, rfl, by omega, by omega, fun r1 c1 hp1 a1 a2 => ?_⟩
    dsimp only
    refine ⟨pow38, by decide, n + 1, _, hp1, by omega, rfl, by decide, by decide, fun j1 x1 c2 hp2 hx1 => ?_⟩
    obtain ⟨wide, hw, rfl⟩ := pick_int (ns := [9, 1000, 2 ^ 38]) hx1
    have hw' : 9 ≤ wide ∧ wide ≤ 2 ^ 38 := by
      simp only [List.mem_cons, List.not_mem_nil, or_false] at hw
      omega
    clear hx1 hw
    have hmany : 2 ≤ 2 + r1 ∧ 2 + r1 ≤ 30 := by omega
    generalize 2 + r1 = many at hmany
    subst hB1
    refine seq_cut fun B1 hB1 => ?_
    walk_at "dl"
    refine ⟨_, 9, hp2, by omega, rfl, by omega, by omega, fun f1 c3 hp3 f2 f3 => ?_⟩
    dsimp only
    refine ⟨_, wide, hp3, by omega, rfl, by omega, by omega, fun v1 c4 hp4 v2 v3 => ?_⟩
    refine ⟨cdiv3 _, ?_⟩
    dsimp only
    refine ⟨by decide, by decide, ?_⟩
    subst hB1
    refine seq_cut fun B1 hB1 => ?_
    have w3 : 0 ≤ wide / 3 ∧ wide / 3 ≤ 2 ^ 38 := by omega
    refine dFor_J (sl1 := ?_) (items := rngD 0 (many - 1).toNat) (fun i sl => ∃ (c : List D) (k : Nat) (rs : List (Int × Int)) (q : Int × Int) (a6 : Sl), sl = [.sh (.scr ns), .ow c, .sh x, .sh (.int many), .sh (.int wide), .ow (rs.map prD), a6, s7, s8, s9, s10, s11, s12, s13, s14, s15, s16, s17, s18, .un] ∧ Pen k c ∧ k ≤ n + 4 + i * 5 ∧ RowP rs q ∧ rs.length = i + 1) (fun Q h => ?_) ?_ ?_ ?_
    rotate_left
    · walk_at "dl"
      refine ⟨by omega, ?_⟩
      exact h
    · exact ⟨c4, _, [(1 + f1, v1 - wide / 3)], _, _, rfl, hp4, Nat.le_refl _, RowP.one (by dsimp only; omega) (by dsimp only; omega) (by dsimp only; omega), rfl⟩
    · rintro J hJ j y sl hj ⟨c, k, rs, q, a6, rfl, hp, hk, hr, hl⟩
      obtain ⟨hj2, rfl⟩ := rngD_get hj
      generalize D.int (j : Int) = y
      have at1 : atI (rs.map prD) (-1) = some (prD q) := by
        obtain ⟨pre, rfl⟩ := hr.pre
        rw [List.map_append]
        exact atI_m1 _ _
      simp only [dSeq, dIfS, dTest, dOp, rdLt, rdLe, rdGt, rdGe, rdEq, rdNe, rdI0, rdI, rdPlus, rdTimes, rdIsN, rdNotN, rdIsB, rdIsi, dIsiT, dVar, dC, dRet, dRetN, dNext, dNever, dDrop, dAsg, dSetN, gNm, gTp, gCn, gNl, dCB, dCall, dCallM, dCons, dNil, dStar, dTup, rdInt, rdAbs, rdLen, rdBool, rdReprF, rdTuple, rdAll, rdAny, rdSum, rdSumA, rdMax2, rdMin2, rdMax, rdMin, dLenB, dIxB, gSb, dAnd, dOr, dNot, dAndV, dOrV, dNotV, dIf, dChain, dChain3, dUn, rdIx, dShare, dLst, dPar, dPar3, dParN1, dParN2, dParNN, dList, dAugS, dAsg2, dTupZip, dFld, dFldI, dFset, gFs, dMeth, dMake, dSl, dNoP, dPart, dAug, dYes, dApp, dPop, dPopAt, wipeS, backS, iSq, iLs, iTp, iEnq, iZq, iRg1, iRg2, tI, prD, spansD, vcuts, startS, startM, startI, lstAt, setLst, D.cv, D.cvs, D.isNon, D.seq, atI_0, atI_1, atI_2, atI_3, atI_4, atI_5, atI_6, Int.cast_ofNat_Int, Int.natCast_one, Int.natCast_zero, Int.reduceEq, Int.reduceLE, Int.reduceLT, decide_true, decide_false, List.getElem?_cons_succ, List.getElem?_cons_zero, List.length_cons, List.length_nil, List.map_cons, List.map_nil, List.cons_append, List.nil_append, List.append_nil, Nat.reduceAdd, Nat.reduceSub, List.replicate, Option.some.injEq, exists_eq_left', exists_eq_left, exists_eq', exists_and_left, exists_and_right, true_and, and_true, List.set_cons_zero, List.set_cons_succ, decide_eq_true_eq, Option.bind_some, Option.map_some, reduceIte, if_true, if_false, Bool.false_eq_true, Bool.not_true, Bool.not_false, Sl.io.injEq, Sl.sh.injEq, FOe_bits, entF_bits, FOe_count, entF_count, FOe_first, entF_first, FOe_last, entF_last, FOe_total, entF_total, FOe_least, entF_least, FOe_greatest, entF_greatest, FOe_parts, entF_parts, FOb_entry, FOb_many, FOb_first, FOb_length, FOb_spans, FOb_steps, FOb_bottom, FOb_top, FOb_inner, blkF_entry, blkF_many, blkF_first, blkF_length, blkF_spans, blkF_steps, blkF_bottom, blkF_top, blkF_inner, blkF_no_none, blkF_no_letters, blkF_no_behind, blkF_no_wanted, blkF_no_values_go_on, blkF_no_gaps_go_on, blkF_no_goes_on, at1]
      refine ⟨_, 30, hp, by omega, rfl, by omega, by omega, fun d1 c1 hp1 u1 u2 => ?_⟩
      refine ⟨pow20, _, 2 ^ 20, hp1, by omega, rfl, by omega, by omega, fun d2 c2 hp2 u3 u4 => ?_⟩
      refine ⟨by decide, _, _, hp2, by omega, rfl, five.1, five.2, fun j1 x1 c3 hp3 hx1 => ?_⟩
      obtain ⟨st, hw, rfl⟩ := pick_int (ns := [0, 0, 1, d1, d2]) hx1
      have hw' : 0 ≤ st ∧ st ≤ 2 ^ 20 := by
        simp only [List.mem_cons, List.not_mem_nil, or_false] at hw
        omega
      clear hx1 hw
      dsimp only
      refine ⟨_, wide, hp3, by omega, rfl, by omega, by omega, fun v1 c4 hp4 v2 v3 => ?_⟩
      refine ⟨cdiv3 _, ?_⟩
      dsimp only
      refine ⟨by decide, by rw [List.length_map, sizeLine_eq]; omega, ?_⟩
      refine hJ _ _ ⟨c4, _, rs ++ [(q.1 + 1 + st, v1 - wide / 3)], (q.1 + 1 + st, v1 - wide / 3), .sh y, ?_, hp4, by omega, hr.snoc (by dsimp only; omega) (by dsimp only; omega) (by dsimp only; omega), by rw [List.length_append, hl]; rfl⟩
      rw [List.map_append]
      rfl
    · rintro sl ⟨c, k, rs, q, a6, rfl, hp, hk, hr, hl⟩
      rw [rngD_len] at hk hl
      have hv39 : ∀ p ∈ rs, -(2 ^ 39) ≤ p.2 ∧ p.2 ≤ 2 ^ 39 := fun p h => hr.v p.2 (List.mem_map.mpr ⟨p, h, rfl⟩)
      have ri : RowIn rs := hr.rowIn (by omega) (by omega)
      have hmL : (rs.length : Int) = many := by omega
      have hk : k ≤ n + 154 := by omega
      clear hr hl q
      show B1 M _
      subst hB1
      refine seq_cut fun B1 hB1 => ?_
      walk_at "dl"
      unfold dSortSet dShare
      refine dLc_cut fun G T1 E1 hG hT hE => ?_
      walk_at "dl"
      refine ⟨_, 6, hp, by omega, rfl, by omega, by omega, fun r2 c1 hp1 u1 u2 => ?_⟩
      refine ⟨by omega, ?_⟩
      refine lc_J (fun i sl acc => ∃ (c : List D) (k : Nat) (ns1 : List Int) (b : Bool), sl = [.sh (.scr ns), .ow c, .sh x, .sh (.int many), .sh (.int wide), (if b = true then .sh (.lst (rs.map prD)) else .ow (rs.map prD)), a6, s7, s8, s9, s10, s11, s12, s13, s14, s15, s16, s17, s18, .un] ∧ Pen k c ∧ k ≤ n + 155 + i * 2 ∧ acc = ns1.map D.int ∧ ns1.length = i ∧ ∀ z ∈ ns1, -(2 ^ 39) ≤ z ∧ z ≤ 2 ^ 39 + 2) ?_ ?_ ?_ ?_
      · exact ⟨no1 rfl h14, len_of rfl⟩
      · exact ⟨c1, _, [], false, rfl, hp1, by omega, rfl, rfl, fun _ h => nomatch h⟩
      · rintro J hJ j y sl2 acc hj ⟨c, k, ns1, b, rfl, hp, hk, rfl, hl, hz⟩
        subst hG hT hE
        refine ⟨⟨no1 rfl h14, len_of rfl⟩, ?_⟩
        obtain ⟨hj2, rfl⟩ := rngD_get hj
        generalize D.int (j : Int) = y
        cases b
        all_goals
          walk_at "dl"
          refine ⟨_, _, hp, by omega, rfl, by rw [List.length_map]; have := ri.n2; omega, by rw [List.length_map]; have := ri.n3; omega, fun j1 x1 c3 hp3 hx1 => ?_⟩
          rw [List.getElem?_map] at hx1
          obtain ⟨p, hp1, rfl⟩ := Option.map_eq_some_iff.mp hx1
          dsimp only [prD]
          refine ⟨_, rfl, _, 3, hp3, by omega, rfl, by omega, by omega, fun z1 c4 hp4 z2 z3 => ?_⟩
          dsimp only
          refine ⟨by rw [List.length_map, sizeLine_eq]; omega, ?_⟩
          refine hJ _ _ _ ⟨c4, _, ns1 ++ [p.2 + z1], true, by rw [if_pos rfl], hp4, by omega, by rw [List.map_append]; rfl, by rw [List.length_append, hl]; rfl, fun z hz1 => ?_⟩
          rcases List.mem_append.mp hz1 with h | h
          · exact hz z h
          · rw [List.mem_singleton.mp h]
            have := hv39 p (List.mem_of_getElem? hp1)
            omega
      · rintro sl acc ⟨c, k, ns1, b, rfl, hp, hk, rfl, hl, hz⟩
        rw [rngD_len] at hk hl
        refine ⟨ns1, DL.ints_map ns1, by omega, fun vs hva hvm => ?_⟩
        have hvl : vs.length ≤ 6 := by
          have := asc_len vs ns1 hva fun z h => (hvm z).mp h
          omega
        have hvz : ∀ z ∈ vs, 1 - 2 ^ 40 ≤ z ∧ z ≤ 2 ^ 40 := fun z h => by
          have := hz z ((hvm z).mp h)
          omega
        have hk : k ≤ n + 170 := by omega
        clear hl hz hvm
        obtain ⟨s5, h5, e5⟩ : ∃ s5, (s5 = Sl.sh (.lst (rs.map prD)) ∨ s5 = Sl.ow (rs.map prD)) ∧ (if b = true then Sl.sh (.lst (rs.map prD)) else Sl.ow (rs.map prD)) = s5 := ⟨_, by cases b; exact .inr rfl; exact .inl rfl, rfl⟩
        rw [e5]
        clear e5
        subst hB1
        refine seq_cut fun B1 hB1 => ?_
        simp only [dSeq, dIfS, dTest, dOp, rdLt, rdLe, rdGt, rdGe, rdEq, rdNe, rdI0, rdI, rdPlus, rdTimes, rdIsN, rdNotN, rdIsB, rdIsi, dIsiT, dVar, dC, dRet, dRetN, dNext, dNever, dDrop, dAsg, dSetN, gNm, gTp, gCn, gNl, dCB, dCall, dCallM, dCons, dNil, dStar, dTup, rdInt, rdAbs, rdLen, rdBool, rdReprF, rdTuple, rdAll, rdAny, rdSum, rdSumA, rdMax2, rdMin2, rdMax, rdMin, dLenB, dIxB, gSb, dAnd, dOr, dNot, dAndV, dOrV, dNotV, dIf, dChain, dChain3, dUn, rdIx, dShare, dLst, dPar, dPar3, dParN1, dParN2, dParNN, dList, dAugS, dAsg2, dTupZip, dFld, dFldI, dFset, gFs, dMeth, dMake, dSl, dNoP, dPart, dAug, dYes, dApp, dPop, dPopAt, wipeS, backS, iSq, iLs, iTp, iEnq, iZq, iRg1, iRg2, tI, prD, spansD, vcuts, startS, startM, startI, lstAt, setLst, D.cv, D.cvs, D.isNon, D.seq, atI_0, atI_1, atI_2, atI_3, atI_4, atI_5, atI_6, Int.cast_ofNat_Int, Int.natCast_one, Int.natCast_zero, Int.reduceEq, Int.reduceLE, Int.reduceLT, decide_true, decide_false, List.getElem?_cons_succ, List.getElem?_cons_zero, List.length_cons, List.length_nil, List.map_cons, List.map_nil, List.cons_append, List.nil_append, List.append_nil, Nat.reduceAdd, Nat.reduceSub, List.replicate, Option.some.injEq, exists_eq_left', exists_eq_left, exists_eq', exists_and_left, exists_and_right, true_and, and_true, List.set_cons_zero, List.set_cons_succ, decide_eq_true_eq, Option.bind_some, Option.map_some, reduceIte, if_true, if_false, Bool.false_eq_true, Bool.not_true, Bool.not_false, Sl.io.injEq, Sl.sh.injEq, FOe_bits, entF_bits, FOe_count, entF_count, FOe_first, entF_first, FOe_last, entF_last, FOe_total, entF_total, FOe_least, entF_least, FOe_greatest, entF_greatest, FOe_parts, entF_parts, FOb_entry, FOb_many, FOb_first, FOb_length, FOb_spans, FOb_steps, FOb_bottom, FOb_top, FOb_inner, blkF_entry, blkF_many, blkF_first, blkF_length, blkF_spans, blkF_steps, blkF_bottom, blkF_top, blkF_inner, blkF_no_none, blkF_no_letters, blkF_no_behind, blkF_no_wanted, blkF_no_values_go_on, blkF_no_gaps_go_on, blkF_no_goes_on, dSort]
        refine ⟨pow16, pow20, by decide, k, [2, 3, 7, 20, 65536, 1048576], hp, by show k + 6 ≤ 99999; omega, rfl, by decide, fun ys c1 hp1 pm => ?_⟩
        refine ⟨_, 4, hp1, by show k + 6 ≤ 99999; omega, rfl, by omega, by omega, fun z1 c2 hp2 z2 z3 => ?_⟩
        dsimp only
        obtain ⟨kz, rfl⟩ : ∃ kz : Nat, z1 = (kz : Int) := ⟨z1.toNat, by omega⟩
        rw [cut_to, ← List.map_take]
        refine ⟨_, DL.ints_map _, fun gs gp gsrt => ?_⟩
        obtain ⟨hgl, hgz, hga⟩ := gaps_ok pm (by omega) gp gsrt
        have co : CutsOk vs gs := ⟨hvl, hvz, hva, hgl, hgz, hga⟩
        clear gp gsrt hgl hgz hga pm hvl hvz hva
        subst hB1
        refine seq_cut fun B1 hB1 => ?_
        have rest : ∀ (e : Ent) (ah : Option Int) (c : List D) (k : Nat), EntOf rs 0 e → (ah = none ∨ ah = some 0) → Pen k c → k ≤ n + 180 → B1 M [Sl.sh (D.scr ns), Sl.ow c, Sl.sh x, Sl.sh (D.int many), Sl.sh (D.int wide), Sl.sh (.lst (rs.map prD)), a6, Sl.sh (D.lst (List.map D.int vs)), Sl.sh (D.lst (List.map D.int gs)), .sh (tI e.l), .sh (vcuts vs gs), .sh (ahD ah), s12, s13, s14, s15, s16, s17, s18, Sl.un] := fun e ah c k he hah hp hk => by
          clear hp1 hp2 c1 c2 ys
          subst hB1
          refine seq_cut fun B1 hB1 => ?_
          walk_at "dl"
          refine ⟨e, rfl, ?_⟩
          refine ⟨by decide, _, _, _, rs, ah, vs, gs, rfl, .inl rfl, .inl rfl, .inl rfl, by have := ri.n3; omega, by have := co.v1; omega, by have := co.g1; omega, ?_⟩
          have eo := ent_ok ri he
          obtain ⟨o, p, hb0, _, _⟩ := span_cls (lo := e.least) (hi := e.greatest) (v := e.least) co.v3 (Int.le_refl _) eo.lg
          obtain ⟨t, f, ht0, _, _⟩ := span_cls (lo := e.least) (hi := e.greatest) (v := e.greatest) co.v3 eo.lg (Int.le_refl _)
          generalize hbl : (⟨e, vs, gs, ah⟩ : Blk) = b
          have be : b.e = e := by rw [← hbl]
          have bv : b.vs = vs := by rw [← hbl]
          have bg : b.gs = gs := by rw [← hbl]
          have ba : b.ah = ah := by rw [← hbl]
          have hb : spV b b.bottom = some (o, p) := by
            unfold spV Blk.bottom
            rw [Int.toNat_natCast, be, bv]
            exact hb0
          have ht : spV b b.top = some (t, f) := by
            unfold spV Blk.top
            rw [Int.toNat_natCast, be, bv]
            exact ht0
          obtain ⟨u0, us, hown, _, hu1, hu2, hu3⟩ := own_ok b rs ri.n2 ri.asc (by rw [be]; exact he) (by rw [bv]; exact co.v3) (by rw [bg]; exact co.g3) o p t f hb ht
          rw [bv, bg, ba] at hown
          rw [hown]
          have wp0 : WordP rs.length vs gs (u0 :: us) := ⟨by rw [← hown, signsM_len], by rw [← bv]; exact hu1, fun i s hs => by rw [← bg]; exact hu2 s (List.mem_of_getElem? hs)⟩
          have win : ∀ W, WordP rs.length vs gs W → WordIn b W o p t f := fun W hW => by
            refine ⟨by rw [be]; exact eo, by rw [bv, bg]; exact co, fun a ha => ?_, ?_, ?_, by rw [hW.n, be, ← he.count], by rw [hW.n]; have := ri.n3; omega⟩
            · rw [ba] at ha
              rcases hah with h | h
              · rw [h] at ha; cases ha
              · rw [h] at ha
                injection ha with ha
                obtain ⟨q, q1, q2⟩ := he.first
                have := ri.m0 q.1 (List.mem_map.mpr ⟨q, List.mem_of_getElem? q1, rfl⟩)
                rw [be]
                omega
            · rw [spans_at b (show b.bottom ≤ b.vs.length from clsOf_le _ _)]
              unfold spV at hb
              rw [Int.toNat_natCast] at hb
              rw [hb]
            · rw [spans_at b (show b.top ≤ b.vs.length from clsOf_le _ _)]
              unfold spV at ht
              rw [Int.toNat_natCast] at ht
              rw [ht]
          subst hB1
          refine dFor_J (sl1 := ?_) (items := rngD 0 (Int.toNat 10)) (fun i sl => ∃ (c : List D) (k : Nat) (a6 a14 a15 a16 a17 a18 : Sl), sl = [.sh (.scr ns), .ow c, .sh x, .sh (.int many), .sh (.int wide), Sl.sh (.lst (rs.map prD)), a6, .sh (.lst (vs.map D.int)), .sh (.lst (gs.map D.int)), .sh (tI e.l), .sh (vcuts vs gs), .sh (ahD ah), .sh (.ins T.a_Entry (entF e)), .sh (.tup ((u0 :: us).map prD)), a14, a15, a16, a17, a18, .un] ∧ a14.own = false ∧ Pen k c ∧ k ≤ n + 180 + i * 100) (fun Q h => ?_) ?_ ?_ ?_
          rotate_left
          · walk_at "dl"
            refine ⟨by decide, ?_⟩
            exact h
          · exact ⟨c, k, _, _, _, _, _, _, rfl, h14, hp, hk⟩
          · rintro J hJ lap y sl hj ⟨c, k, a6, a14, a15, a16, a17, a18, rfl, h14, hp, hk⟩
            obtain ⟨hl10, rfl⟩ := rngD_get hj
            have hl10 : lap < 10 := hl10
            refine seq_cutGN fun B2 M2 hB2 hM2 => ?_
            walk_at "dl"
            subst hB2
            refine seq_cut fun B2 hB2 => ?_
            refine dFor_cut fun G T2 hG hT => ?_
            walk_at "dl"
            refine ⟨by decide, k, _, hp, by omega, rfl, five.1, five.2, fun j1 x1 c3 hp3 hx1 => ?_⟩
            obtain ⟨z, hz, rfl⟩ := pick_int (ns := [0, 1, 1, 2, many]) hx1
            have hz' : 0 ≤ z ∧ z ≤ 30 := by
              simp only [List.mem_cons, List.not_mem_nil, or_false] at hz
              omega
            clear hx1 hz
            dsimp only
            refine ⟨by omega, ?_⟩
            refine for_J (N := { M2 with nx := B2 M2 }) (fun i sl => ∃ (c : List D) (k : Nat) (W : List (Int × Int)) (a6 a16 : Sl), sl = [.sh (.scr ns), .ow c, .sh x, .sh (.int many), .sh (.int wide), Sl.sh (.lst (rs.map prD)), a6, .sh (.lst (vs.map D.int)), .sh (.lst (gs.map D.int)), .sh (tI e.l), .sh (vcuts vs gs), .sh (ahD ah), .sh (.ins T.a_Entry (entF e)), .sh (.tup ((u0 :: us).map prD)), .sh (.int (lap : Nat)), .ow (W.map prD), a16, a17, a18, .un] ∧ WordP rs.length vs gs W ∧ Pen k c ∧ k ≤ n + 181 + lap * 100 + i * 3) ?_ ?_ ?_
            · exact ⟨c3, _, u0 :: us, _, _, rfl, wp0, hp3, by omega⟩
            · rintro J3 hJ3 j y sl hj ⟨c, k, W, a6, a16, rfl, hw, hp, hk⟩
              obtain ⟨hj2, rfl⟩ := rngD_get hj
              subst hG hT
              refine seq_cutGN fun B3 M3 hB3 hM3 => ?_
              walk_at "dl"
              refine ⟨k, many, hp, by omega, rfl, by omega, by omega, fun z c1 hp1 z1 z2 => ?_⟩
              obtain ⟨at_, rfl⟩ : ∃ a : Nat, z = (a : Int) := ⟨z.toNat, by omega⟩
              have la : at_ < W.length := by have := hw.n; omega
              have a1 : atI (W.map prD) (at_ : Int) = some (prD W[at_]) := atI_nat (by rw [List.getElem?_map, List.getElem?_eq_getElem la]; rfl)
              have ix1 : ixN (W.map prD).length (at_ : Int) = some at_ := ixN_nat (by rw [List.length_map]; exact la)
              subst hB3
              simp only [dSeq, dIfS, dTest, dOp, rdLt, rdLe, rdGt, rdGe, rdEq, rdNe, rdI0, rdI, rdPlus, rdTimes, rdIsN, rdNotN, rdIsB, rdIsi, dIsiT, dVar, dC, dRet, dRetN, dNext, dNever, dDrop, dAsg, dSetN, gNm, gTp, gCn, gNl, dCB, dCall, dCallM, dCons, dNil, dStar, dTup, rdInt, rdAbs, rdLen, rdBool, rdReprF, rdTuple, rdAll, rdAny, rdSum, rdSumA, rdMax2, rdMin2, rdMax, rdMin, dLenB, dIxB, gSb, dAnd, dOr, dNot, dAndV, dOrV, dNotV, dIf, dChain, dChain3, dUn, rdIx, dShare, dLst, dPar, dPar3, dParN1, dParN2, dParNN, dList, dAugS, dAsg2, dTupZip, dFld, dFldI, dFset, gFs, dMeth, dMake, dSl, dNoP, dPart, dAug, dYes, dApp, dPop, dPopAt, wipeS, backS, iSq, iLs, iTp, iEnq, iZq, iRg1, iRg2, tI, prD, spansD, vcuts, startS, startM, startI, lstAt, setLst, D.cv, D.cvs, D.isNon, D.seq, atI_0, atI_1, atI_2, atI_3, atI_4, atI_5, atI_6, Int.cast_ofNat_Int, Int.natCast_one, Int.natCast_zero, Int.reduceEq, Int.reduceLE, Int.reduceLT, decide_true, decide_false, List.getElem?_cons_succ, List.getElem?_cons_zero, List.length_cons, List.length_nil, List.map_cons, List.map_nil, List.cons_append, List.nil_append, List.append_nil, Nat.reduceAdd, Nat.reduceSub, List.replicate, Option.some.injEq, exists_eq_left', exists_eq_left, exists_eq', exists_and_left, exists_and_right, true_and, and_true, List.set_cons_zero, List.set_cons_succ, decide_eq_true_eq, Option.bind_some, Option.map_some, reduceIte, if_true, if_false, Bool.false_eq_true, Bool.not_true, Bool.not_false, Sl.io.injEq, Sl.sh.injEq, FOe_bits, entF_bits, FOe_count, entF_count, FOe_first, entF_first, FOe_last, entF_last, FOe_total, entF_total, FOe_least, entF_least, FOe_greatest, entF_greatest, FOe_parts, entF_parts, FOb_entry, FOb_many, FOb_first, FOb_length, FOb_spans, FOb_steps, FOb_bottom, FOb_top, FOb_inner, blkF_entry, blkF_many, blkF_first, blkF_length, blkF_spans, blkF_steps, blkF_bottom, blkF_top, blkF_inner, blkF_no_none, blkF_no_letters, blkF_no_behind, blkF_no_wanted, blkF_no_values_go_on, blkF_no_gaps_go_on, blkF_no_goes_on, a1, ix1]
              have v0 := hw.v W[at_] (List.getElem_mem la)
              have g0 : at_ ≠ 0 → 0 ≤ W[at_].2 ∧ W[at_].2 ≤ gs.length := fun h => hw.g (at_ - 1) W[at_] (by rw [show at_ - 1 + 1 = at_ by omega]; exact List.getElem?_eq_getElem la)
              have fin : ∀ (s : Int × Int) (c : List D) (k' : Nat), (0 ≤ s.1 ∧ s.1 ≤ vs.length) → (at_ ≠ 0 → 0 ≤ s.2 ∧ s.2 ≤ gs.length) → Pen k' c → k' ≤ k + 3 → M3.nx
                [Sl.sh (D.scr ns), Sl.ow c, Sl.sh x, Sl.sh (D.int many), Sl.sh (D.int wide), Sl.sh (D.lst (List.map prD rs)), Sl.sh (D.int at_), Sl.sh (D.lst (List.map D.int vs)), Sl.sh (D.lst (List.map D.int gs)), Sl.sh (tI e.l), Sl.sh (vcuts vs gs),
                  Sl.sh (ahD ah), Sl.sh (D.ins T.a_Entry (entF e)), Sl.sh (.tup ((u0 :: us).map prD)), Sl.sh (D.int (lap : Nat)), Sl.ow ((List.map prD W).set at_ (prD s)), Sl.sh (D.int (j : Nat)), a17, a18, Sl.un] := fun s c k' h1 h2 h3 h4 => by
                subst hM3
                exact hJ3 _ _ ⟨c, k', W.set at_ s, _, _, by rw [List.map_set], hw.set at_ s h1 h2, h3, by omega⟩
              rw [List.length_map, List.length_map]
              have co1 := co.v1
              have co2 := co.g1
              by_cases c0 : (at_ : Int) = 0
              · rw [if_pos c0]
                refine ⟨_, _, hp1, by omega, rfl, by omega, by omega, fun r c2 hp2 r1 r2 => ?_⟩
                exact ⟨by decide, fin (r, W[at_].2) c2 _ (by dsimp only; omega) g0 hp2 (by omega)⟩
              · rw [if_neg c0]
                refine ⟨_, _, hp1, by omega, rfl, by omega, by omega, fun r c2 hp2 r1 r2 => ?_⟩
                dsimp only
                by_cases c3 : r = 0
                · rw [if_pos c3]
                  refine ⟨_, _, hp2, by omega, rfl, by omega, by omega, fun r c2 hp2 r1 r2 => ?_⟩
                  exact ⟨by decide, fin (r, W[at_].2) c2 _ (by dsimp only; omega) g0 hp2 (by omega)⟩
                · rw [if_neg c3]
                  refine ⟨_, _, hp2, by omega, rfl, by omega, by omega, fun r c2 hp2 r1 r2 => ?_⟩
                  exact ⟨by decide, fin (W[at_].1, r) c2 _ v0 (fun _ => by dsimp only; omega) hp2 (by omega)⟩
            · rintro sl ⟨c, k, W, a6, a16, rfl, hw, hp, hk⟩
              rw [rngD_len] at hk
              have hk : k ≤ n + 180 + lap * 100 + 100 := by omega
              show B2 M2 _
              subst hB2
              refine seq_cut fun B2 hB2 => ?_
              walk_at "dl"
              have ll : 2 ≤ W.length := by have := hw.n; have := ri.n2; omega
              obtain ⟨w0, ws, rfl⟩ : ∃ w0 ws, W = w0 :: ws := by
                cases W with
                | nil => cases ll
                | cons a l => exact ⟨a, l, rfl⟩
              have wi := win _ hw
              have hv : ∀ s ∈ w0 :: ws, 0 ≤ s.1 ∧ s.1 ≤ b.vs.length := by rw [bv]; exact hw.v
              have hg : ∀ s ∈ ws, 0 ≤ s.2 ∧ s.2 ≤ b.gs.length := fun s hs => by
                obtain ⟨i, hi⟩ := List.mem_iff_getElem?.mp hs
                rw [bg]
                exact hw.g i s hi
              refine ⟨b, w0, ws, o, p, t, f, by rw [be, ba, bv, bg]; rfl, wi.ok, wi.eo, hb, ht, by have := wi.z; rw [List.length_cons] at this; omega, hv, hg, ?_⟩
              have cw := can_word b w0 ws o p t f (by rw [be]; exact eo.lg) hv hg
              have cw0 := can_word b u0 us o p t f (by rw [be]; exact eo.lg) hu1 hu2
              rw [hu3] at cw0
              subst hB2
              refine seq_cut fun B2 hB2 => ?_
              walk_at "dl"
              refine ⟨b, w0 :: ws, o, p, t, f, by rw [be, ba, bv, bg]; rfl, wi, ?_⟩
              rw [← cw]
              dsimp only
              rw [if_neg (by simp)]
              have fin : B2 M2
                  [Sl.sh (D.scr ns), Sl.ow c, Sl.sh x, Sl.sh (D.int many), Sl.sh (D.int wide), Sl.sh (D.lst (List.map prD rs)), a6, Sl.sh (D.lst (List.map D.int vs)), Sl.sh (D.lst (List.map D.int gs)), Sl.sh (tI e.l), Sl.sh (vcuts vs gs),
                    Sl.sh (ahD ah), Sl.sh (D.ins T.a_Entry (entF e)), Sl.sh (.tup ((u0 :: us).map prD)), Sl.sh (D.int (lap : Nat)), Sl.sh (.lst ((w0 :: ws).map prD)), a16, Sl.sh (D.bl (canM b w0 ws p t)), a18, Sl.un] := by
                have done : ∀ a18, M2.nx
                  [Sl.sh (D.scr ns), Sl.ow c, Sl.sh x, Sl.sh (D.int many), Sl.sh (D.int wide), Sl.sh (D.lst (List.map prD rs)), a6, Sl.sh (D.lst (List.map D.int vs)), Sl.sh (D.lst (List.map D.int gs)), Sl.sh (tI e.l), Sl.sh (vcuts vs gs),
                    Sl.sh (ahD ah), Sl.sh (D.ins T.a_Entry (entF e)), Sl.sh (.tup ((u0 :: us).map prD)), Sl.sh (D.int (lap : Nat)), Sl.sh (.lst ((w0 :: ws).map prD)), a16, Sl.sh (D.bl (canM b w0 ws p t)), a18, Sl.un] := fun a18 => by
                  subst hM2
                  exact hJ _ _ ⟨c, k, _, _, _, _, _, _, rfl, rfl, hp, by omega⟩
                subst hB2
                cases hd : canM b w0 ws p t with
                | false =>
                  rw [hd] at done
                  walk_at "dl"
                  exact done _
                | true =>
                  rw [hd] at done
                  obtain ⟨low, sp, rest, fo, feo, fsg, fpw, fln⟩ := fill_ok b w0 ws o p t f wi hv hg hd
                  rw [hd] at cw
                  walk_at "dl"
                  refine ⟨b, w0 :: ws, o, p, t, f, low, sp, rest, by rw [be, ba, bv, bg]; rfl, wi, cw.symm, fo, ?_⟩
                  generalize ptsW b (w0 :: ws) low sp = pts at feo fsg fpw fln
                  rw [be, he.bits] at feo
                  rw [bv, bg, ba] at fsg
                  have lp : 2 ≤ pts.length ∧ pts.length ≤ 30 := by
                    have := hw.n
                    have := ri.n3
                    omega
                  refine ⟨trivial, true, rfl, ?_⟩
                  rw [if_neg (by decide)]
                  refine ⟨_, pts, 0, rfl, .inr rfl, by omega, by omega, fun e' he' => ?_⟩
                  have e1 : e'.l = e.l := entOf_eq he' feo
                  refine ⟨.tuple (e'.l.map .int), by unfold tI; rw [D.py, pys_ints]; rfl, .tuple (e.l.map .int), by rw [D.py, pys_ints]; rfl, shp_ti _, shp_ti _, ?_⟩
                  have q1 : PyData.eqv (.tuple (e'.l.map .int)) (.tuple (e.l.map .int)) = true := by
                    simp only [PyData.eqv]
                    rw [eqv_ints, decide_eq_true e1]
                  rw [q1, if_neg (by decide)]
                  refine ⟨_, _, _, pts, ah, vs, gs, rfl, .inr rfl, .inr rfl, .inr rfl, by omega, by have := co.v1; omega, by have := co.g1; omega, ?_⟩
                  rw [fsg]
                  refine ⟨.tuple ((w0 :: ws).map pyP), by rw [D.py, pys_prs]; rfl, .tuple ((w0 :: ws).map pyP), by
                    show (D.tup ((w0 :: ws).map prD)).py = _
                    rw [D.py, pys_prs]
                    rfl, shp_tp _, shp_tp _, ?_⟩
                  have q2 : PyData.eqv (.tuple ((w0 :: ws).map pyP)) (.tuple ((w0 :: ws).map pyP)) = true := by
                    simp only [PyData.eqv]
                    rw [eqv_prs, decide_eq_true rfl]
                  rw [q2, if_neg (by decide)]
                  unfold dSortSet dShare
                  refine dLc_mapS pts prD (fun q => .int q.1) (fun Q h => ?_) ?_ ?_ (by rw [sizeLine_eq]; omega) (fun z hz Q1 h => ?_) ?_
                  · walk_at "dl"
                    exact h
                  · exact no_of rfl
                  · exact len_of rfl
                  · walk_at "dl"
                    exact h
                  refine ⟨_, ints_mapf pts Prod.fst, by rw [List.length_map]; omega, fun ms m1 m2 => ?_⟩
                  have em : ms = pts.map Prod.fst := moms_eq fpw m1 m2
                  refine dLc_mapS pts prD (fun q => .int q.1) (fun Q h => ?_) ?_ ?_ (by rw [sizeLine_eq]; omega) (fun z hz Q1 h => ?_) ?_
                  · walk_at "dl"
                    exact h
                  · exact no_of rfl
                  · exact len_of rfl
                  · walk_at "dl"
                    exact h
                  rw [show (pts.map fun q => D.int q.1) = (pts.map Prod.fst).map D.int by rw [List.map_map]; rfl, em]
                  refine ⟨.list ((pts.map Prod.fst).map .int), by rw [D.py, pys_ints]; rfl, .list ((pts.map Prod.fst).map .int), by rw [D.py, pys_ints]; rfl, shp_li _, shp_li _, ?_⟩
                  have q3 : PyData.eqv (.list ((pts.map Prod.fst).map .int)) (.list ((pts.map Prod.fst).map .int)) = true := by
                    simp only [PyData.eqv]
                    rw [eqv_ints, decide_eq_true rfl]
                  rw [q3, if_neg (by decide)]
                  exact done _
              by_cases c0 : (lap : Int) = 0
              · rw [if_pos c0]
                refine ⟨b, u0 :: us, o, p, t, f, by rw [be, ba, bv, bg]; rfl, win _ wp0, ?_⟩
                rw [← cw0]
                dsimp only
                rw [if_neg (by decide)]
                exact fin
              · rw [if_neg c0]
                exact fin
          · rintro sl ⟨c, k, a6, a14, a15, a16, a17, a18, rfl, h14, hp, hk⟩
            rw [rngD_len] at hk
            subst hM
            exact ⟨c, k, _, _, _, _, _, _, _, _, _, _, _, _, _, _, _, _, _, _, rfl, h14, rfl, hp, by have : k ≤ n + 180 + 10 * 100 := hk; omega⟩
        have n2 := ri.n2
        have n3 := ri.n3
        rcases h5 with rfl | rfl
        all_goals
          walk_at "dl"
          refine ⟨_, rs, 0, rfl, .inl rfl, by omega, by omega, fun e he => ?_⟩
          refine ⟨by decide, by decide, _, [.non, .int 0], hp2, by show k + 6 + 1 ≤ 99999; omega, rfl, by decide, by decide, fun j1 x1 c3 hp3 hx1 => ?_⟩
          obtain ⟨ah, hah, rfl⟩ : ∃ ah : Option Int, (ah = none ∨ ah = some 0) ∧ x1 = ahD ah := by
            cases j1 with
            | zero => exact ⟨none, .inl rfl, (Option.some.inj hx1).symm⟩
            | succ j1 =>
              cases j1 with
              | zero => exact ⟨some 0, .inr rfl, (Option.some.inj hx1).symm⟩
              | succ j1 => simp at hx1
          exact rest e ah c3 _ he hah hp3 (by show k + 6 + 1 + 1 ≤ _; omega)

  · rintro sl ⟨c, n, s2, s3, s4, s5, s6, s7, s8, s9, s10, s11, s12, s13, s14, s15, s16, s17, s18, s19, rfl, _, _, hp, hnn⟩
    subst hB
    walk_at "dl"
    exact h2
end
end K21
end
section
set_option maxRecDepth 100000
set_option maxHeartbeats 0
namespace K21
open PySem PySem.Spec PyProof.Rows L2 RZ StX NdefX DL
end K21
open PySem PySem.W PySem.Calls PyProof.Rows
theorem PySem.Challenge.cw_opencuts_k21_whole_words_of_many_points_holds : PySem.Challenge.rw_opencuts_k21_whole_words_of_many_points.Holds := by
  w_on; o_law
  refine HandSHeadRun.head_any (r := OpenLaw.row PySem.Challenge.rw_opencuts_k21_whole_words_of_many_points) (q := view (OpenLaw.row PySem.Challenge.rw_opencuts_k21_whole_words_of_many_points).prog [61]) (H := K21.hk) (ob := K21.ob) (M := 9000) (loose := K21.nmL) (d := HandSHeadRun.topDef (OpenLaw.row PySem.Challenge.rw_opencuts_k21_whole_words_of_many_points).prog 61) (kwd := []) K21.ob_eq
    (by kernel_rfl) (fun s => by kernel_rfl) K21.run (by kernel_rfl) (by kernel_rfl) (by kernel_rfl) (by rfl) (by first | assumption | decide +kernel) (by decide +kernel) ⟨rfl, rfl, rfl, rfl, rfl, by decide +kernel⟩ ?hw ?hc
  case hw => w_witness2
  case hc =>
    refine L2.walk_ofE (l := PySem.Challenge.rw_opencuts_k21_whole_words_of_many_points) (n := 63) (k := 20) (x := "script") (CX := L2.CX0) rfl (by decide) (by kernel_rfl) ⟨rfl, by decide, by decide⟩ ?F (fun _ _ _ _ z => z)
    intro w mg fa h Y G hmg0
    obtain ⟨K, KX, c⟩ := Y
    have hmg : mg ("law" : PySem.Str) = some (.ref fa) := by
      have e : (HandSHeadRun.topDef (OpenLaw.row PySem.Challenge.rw_opencuts_k21_whole_words_of_many_points).prog 61).name = ("law" : PySem.Str) := by kernel_rfl
      rw [← e]
      exact hmg0
    obtain ⟨T⟩ := K21.txt KX G c
    have e := hmg.symm.trans T.law.mgf
    cases e
    refine ⟨K, T.law.fd, DL.SpD K K21.spLaw, KX, fun s u => ?_, fun H a ns hl _ hS => ?_, fun base _ _ => K21.ok_law T⟩
    · have hb : ∀ us : List Value, us.length = 1 → bindArgs T.law.fd ⟨us, []⟩ = pure ((["script"] : List Str).zip us) := by
        obtain ⟨oc, od, kV, doc, pm, an, cdv, ct, osl, efd, lk, hcd⟩ := T.law.fu.ex
        rw [efd]
        exact fun us hl => match us, hl with | [_], _ => rfl
      exact .of_eq (hb [u] rfl)
    · exact ⟨H, [.scr ns], fun d => d = .bl true, DL.Ex.refl H, .cons (.scr hS) .nil, ⟨ns, rfl, hl, rfl⟩, fun v d S' H' hd _ r => by subst hd; cases r; rfl⟩
end

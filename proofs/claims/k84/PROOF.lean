import PyProof.Rows.All
import Wide.All
import OpenK.AllK
import Wide.FinOn
import HandS.Base
import HandS.Call
import HandS.List
import HandS.Comp
import HandS.Ends
import HandS.Words
import HandS.WordsList
import HandS.Wide
import HandS.WideMore
import HandS.Gcd
import HandS.AnyAll
import HandS.Style
import HandS.Dict
import HandS.Zip0
import HandS.JoinGen
import PyProof.TupleOfGen
import PyProof.GenCompT
import HandS.Nested
import HandS.Zip
import HandS.EndTab
import HandS.SortInts
import HandS.TupSets
import PyProof.GenCompD
import HandS.IsInst
import HandS.TupAny
import HandS.Star
import PySem.Challenge.RW_numberwright_k84_whole_rests_moved
set_option Elab.async false
set_option linter.all false
set_option maxRecDepth 100000
set_option maxHeartbeats 2000000
/-! the abstract machine: slots hold data, or lists of one's own -/
namespace Ab
open PySem PySem.Spec PyProof.Rows L2

abbrev Fg := PySem.W.Frag
def Ex (H H' : Hp) : Prop := ∀ a o, H a = some o → H' a = some o
theorem Ex.refl (H : Hp) : Ex H H := fun _ _ h => h
theorem Ex.trans {H H1 H2 : Hp} (a : Ex H H1) (b : Ex H1 H2) : Ex H H2 := fun x o h => b x o (a x o h)
theorem Ex.new {H : Hp} {p : Addr} {o : HO} (h : H p = none) : Ex H (upd H p o) := fun a u e => by
  rw [upd_ne (ne_of_none e h)]; exact e
theorem Ex.back {H H' : Hp} {p : Addr} (e : Ex H H') (h : H' p = none) : H p = none := by
  cases h1 : H p with
  | none => rfl
  | some o => rw [e p o h1] at h; cases h
theorem Ex.upd2 {H H' : Hp} {p : Addr} {o : HO} (e : Ex H H') : Ex (upd H p o) (upd H' p o) := fun a u h => by
  by_cases c : a = p
  · subst c; rw [upd_same] at h ⊢; exact h
  · rw [upd_ne c] at h ⊢; exact e a u h
theorem Ex.updR {H H' : Hp} {p : Addr} {o : HO} (e : Ex H H') (h : H p = none) : Ex H (upd H' p o) := fun a u ha => by
  rw [upd_ne (ne_of_none ha h)]; exact e a u ha
theorem Ex.rd {H H' : Hp} {a : Addr} {u : HO} (e : Ex H H') (h : Rd H a u) : Rd H' a u := by
  rcases h with h | ⟨o, h⟩
  · exact Or.inl (e a _ h)
  · exact Or.inr ⟨o, e a _ h⟩
theorem Ex.l {K : Fg} {H H' : Hp} {a : Addr} {xs : List V} (e : Ex H H') (h : SqL K H a xs) : SqL K H' a xs := by
  rcases h with h | h
  · exact Or.inl (e.rd h)
  · exact Or.inr h
theorem Ex.t {K : Fg} {H H' : Hp} {a : Addr} {xs : List V} (e : Ex H H') (h : SqT K H a xs) : SqT K H' a xs := by
  rcases h with h | h
  · exact Or.inl (e.rd h)
  · exact Or.inr h
mutual
theorem Dp.mono {K : Fg} {H H' : Hp} (e : Ex H H') : ∀ {v : V} {d : PyData}, Dp K H v d → Dp K H' v d
  | _, _, .non => .non
  | _, _, .bl b => .bl b
  | _, _, .int i => .int i
  | _, _, .str x => .str x
  | _, _, .lst h a => .lst (e.l h) (DpAll.mono e a)
  | _, _, .tup h a => .tup (e.t h) (DpAll.mono e a)
theorem DpAll.mono {K : Fg} {H H' : Hp} (e : Ex H H') : ∀ {v : List V} {d : List PyData}, DpAll K H v d → DpAll K H' v d
  | _, _, .nil => .nil
  | _, _, .cons a b => .cons (Dp.mono e a) (DpAll.mono e b)
end
theorem DpAll.length {K : Fg} {H : Hp} : ∀ {v : List V} {d : List PyData}, DpAll K H v d → v.length = d.length
  | _, _, .nil => rfl
  | _, _, .cons _ b => congrArg (· + 1) (DpAll.length b)
theorem DpAll.get {K : Fg} {H : Hp} : ∀ {vs : List V} {ds : List PyData} {i : Nat} {d : PyData}, DpAll K H vs ds → ds[i]? = some d → ∃ v, vs[i]? = some v ∧ Dp K H v d
  | _, _, 0, _, .cons a _, e => by simp at e; subst e; exact ⟨_, rfl, a⟩
  | _, _, i + 1, d, .cons _ b, e => by
    obtain ⟨v, h1, h2⟩ := DpAll.get (i := i) b (by simpa using e)
    exact ⟨v, by simpa using h1, h2⟩
  | _, _, _, _, .nil, e => by simp at e
theorem DpAll.get' {K : Fg} {H : Hp} : ∀ {vs : List V} {ds : List PyData} {i : Nat} {v : V}, DpAll K H vs ds → vs[i]? = some v → ∃ d, ds[i]? = some d ∧ Dp K H v d
  | _, _, 0, _, .cons a _, e => by simp at e; subst e; exact ⟨_, rfl, a⟩
  | _, _, i + 1, d, .cons _ b, e => by
    obtain ⟨v, h1, h2⟩ := DpAll.get' (i := i) b (by simpa using e)
    exact ⟨v, by simpa using h1, h2⟩
  | _, _, _, _, .nil, e => by simp at e
theorem DpAll.append {K : Fg} {H : Hp} : ∀ {v v' : List V} {d d' : List PyData}, DpAll K H v d → DpAll K H v' d' → DpAll K H (v ++ v') (d ++ d')
  | _, _, _, _, .nil, s => s
  | _, _, _, _, .cons a b, s => .cons a (DpAll.append b s)
theorem DpAll.set {K : Fg} {H : Hp} {x : V} {y : PyData} (r : Dp K H x y) : ∀ {v : List V} {d : List PyData} (i : Nat), DpAll K H v d → DpAll K H (v.set i x) (d.set i y)
  | _, _, _, .nil => .nil
  | _, _, 0, .cons _ b => .cons r b
  | _, _, i + 1, .cons a b => .cons a (DpAll.set r i b)
theorem DpAll.take {K : Fg} {H : Hp} : ∀ {v : List V} {d : List PyData} (n : Nat), DpAll K H v d → DpAll K H (v.take n) (d.take n)
  | _, _, 0, _ => .nil
  | _, _, _ + 1, .nil => .nil
  | _, _, n + 1, .cons a b => .cons a (DpAll.take n b)
theorem DpAll.drop {K : Fg} {H : Hp} : ∀ {v : List V} {d : List PyData} (n : Nat), DpAll K H v d → DpAll K H (v.drop n) (d.drop n)
  | _, _, 0, h => h
  | _, _, _ + 1, .nil => .nil
  | _, _, n + 1, .cons _ b => DpAll.drop n b
theorem DpAll.reverse {K : Fg} {H : Hp} : ∀ {v : List V} {d : List PyData}, DpAll K H v d → DpAll K H v.reverse d.reverse
  | _, _, .nil => .nil
  | _, _, .cons (v := v) (vs := vs) (d := d) (ds := ds) a b => by
    rw [List.reverse_cons, List.reverse_cons]
    exact DpAll.append (DpAll.reverse b) (.cons a .nil)
theorem DpAll.dropLast {K : Fg} {H : Hp} {v : List V} {d : List PyData} (h : DpAll K H v d) : DpAll K H v.dropLast d.dropLast := by
  rw [List.dropLast_eq_take, List.dropLast_eq_take, DpAll.length h]
  exact DpAll.take _ h
def dI (n : Int) : PyData := .int n
theorem DpAll.ints {K : Fg} {H : Hp} : ∀ (ns : List Int), DpAll K H (ns.map V.int) (ns.map PyData.int)
  | [] => .nil
  | n :: ns => .cons (.int n) (DpAll.ints ns)
theorem DpAll.ints_eq {K : Fg} {H : Hp} : ∀ {vs : List V} {ns : List Int}, DpAll K H vs (ns.map PyData.int) → vs = ns.map V.int
  | _, [], .nil => rfl
  | _, n :: ns, .cons a b => by
    cases a
    rw [DpAll.ints_eq b]; rfl

/-! ### slots -/
inductive Sl where
  | no
  | dat (d : PyData)
  | own (ds : List PyData)
  | dic (kvs : List (Int × PyData))
  | dit (kvs : List (List Int × PyData))
  | pown (ds : List PyData)
  | pool
def Sl.mut : Sl → Bool
  | .own _ => true
  | .dic _ => true
  | .dit _ => true
  | .pown _ => true
  | .pool => true
  | _ => false
abbrev LS := List Sl

def slot (σ : L2.St) (i : Nat) : Option V := (σ[i]?).join
theorem slot_some {σ : L2.St} {i : Nat} {v : V} (h : slot σ i = some v) : σ[i]? = some (some v) := by
  unfold slot at h
  cases e : σ[i]? with
  | none => rw [e] at h; cases h
  | some o => rw [e] at h; cases o with
    | none => cases h
    | some u => cases h; rfl
theorem slot_of {σ : L2.St} {i : Nat} {v : V} (h : σ[i]? = some (some v)) : slot σ i = some v := by
  unfold slot; rw [h]; rfl
theorem slot_set {σ : L2.St} {i : Nat} {o : Option V} (h : i < σ.length) : slot (σ.set i o) i = o := by
  unfold slot; rw [List.getElem?_set_self h]; rfl
theorem slot_set_ne {σ : L2.St} {i j : Nat} {o : Option V} (h : i ≠ j) : slot (σ.set i o) j = slot σ j := by
  unfold slot; rw [List.getElem?_set_ne h]

def KvAll (K : Fg) (F : Hp) : List (Key × V) → List (Int × PyData) → Prop := Paired fun p q => p.1 = Sum.inl q.1 ∧ Dp K F p.2 q.2
def KtAll (K : Fg) (F : Hp) : List (List Key × V) → List (List Int × PyData) → Prop := Paired fun p q => p.1 = q.1.map Sum.inl ∧ Dp K F p.2 q.2
theorem KvAll.mono {K : Fg} {F F' : Hp} (e : Ex F F') {a : List (Key × V)} {b : List (Int × PyData)} (h : KvAll K F a b) : KvAll K F' a b := Paired.mapP h fun _ _ q => ⟨q.1, Dp.mono e q.2⟩
theorem KtAll.mono {K : Fg} {F F' : Hp} (e : Ex F F') {a : List (List Key × V)} {b : List (List Int × PyData)} (h : KtAll K F a b) : KtAll K F' a b := Paired.mapP h fun _ _ q => ⟨q.1, Dp.mono e q.2⟩

/-- the pool of the law: [script, place, number, many, salt] -/
def PoolAt (K : Fg) (F H : Hp) (p : Addr) : Prop := F p = none ∧ ∃ (s : Addr) (ns : List Int) (i : Nat) (c k salt : Int), H p = some (.lst [.ref s, .int i, .int c, .int k, .int salt]) ∧ SqL K F s (ns.map V.int)

def SlOk (K : Fg) (b : Option Addr) (H0 F H : Hp) (o : Option V) : Sl → Prop
  | .no => True
  | .dat d => ∃ v, o = some v ∧ Dp K F v d
  | .own ds => ∃ p xs, o = some (.ref p) ∧ H p = some (.lst xs) ∧ F p = none ∧ H0 p = none ∧ DpAll K F xs ds
  | .dic kvs => ∃ p xs, o = some (.ref p) ∧ H p = some (.dK xs) ∧ F p = none ∧ H0 p = none ∧ KvAll K F xs kvs
  | .dit kvs => ∃ p xs, o = some (.ref p) ∧ H p = some (.dT xs) ∧ F p = none ∧ H0 p = none ∧ KtAll K F xs kvs
  | .pown ds => ∃ p xs, o = some (.ref p) ∧ H p = some (.lst xs) ∧ F p = none ∧ b = some p ∧ DpAll K F xs ds
  | .pool => ∃ p, o = some (.ref p) ∧ b = some p ∧ PoolAt K F H p

/-- kept: it stays as it is; a table of code objects may grow -/
def Kept (o o' : HO) : Prop := o' = o ∨ ∃ ps ps', o = .tbl ps ∧ o' = .tbl ps' ∧ TriplesOk ps'.toList
theorem Kept.refl (o : HO) : Kept o o := .inl rfl
theorem Kept.trans {a b c : HO} (x : Kept a b) (y : Kept b c) : Kept a c := by
  rcases x with rfl | ⟨ps, ps', rfl, rfl, h⟩
  · exact y
  · rcases y with rfl | ⟨qs, qs', _, rfl, h'⟩
    · exact .inr ⟨ps, ps', rfl, rfl, h⟩
    · exact .inr ⟨ps, qs', rfl, rfl, h'⟩
theorem Kept.eq {a b : HO} (x : Kept a b) (h : ∀ ps, a ≠ .tbl ps) : b = a := by
  rcases x with rfl | ⟨ps, _, rfl, _⟩
  · rfl
  · exact absurd rfl (h ps)
theorem Kept.lst {xs : List V} {o : HO} (x : Kept (.lst xs) o) : o = .lst xs := x.eq fun _ z => nomatch z
/-- p: the pool's address, if there is one; T: the tables of code objects -/
structure Bp where
  p : Option Addr
  T : Addr → Prop
/-- from the entry: what the caller sees is kept; b may change -/
structure Gr (b : Option Addr) (F H F' H' : Hp) : Prop where
  ex : Ex F F'
  sub : Ex F' H'
  keep : ∀ p o, F p = none → H p = some o → F' p = none ∧ (b ≠ some p → ∃ o', H' p = some o' ∧ Kept o o') ∧ ∃ o', H' p = some o'
theorem Gr.refl {b : Option Addr} {F H : Hp} (e : Ex F H) : Gr b F H F H := ⟨Ex.refl F, e, fun _ o h1 h2 => ⟨h1, fun _ => ⟨o, h2, .refl o⟩, o, h2⟩⟩
theorem Gr.trans {b : Option Addr} {F H F1 H1 F2 H2 : Hp} (x : Gr b F H F1 H1) (y : Gr b F1 H1 F2 H2) : Gr b F H F2 H2 := by
  refine ⟨x.ex.trans y.ex, y.sub, fun p o h1 h2 => ?_⟩
  obtain ⟨a1, a2, o', a3⟩ := x.keep p o h1 h2
  obtain ⟨b1, b2, b3⟩ := y.keep p o' a1 a3
  refine ⟨b1, fun hb => ?_, b3⟩
  obtain ⟨o1, c1, c2⟩ := a2 hb
  obtain ⟨o2, d1, d2⟩ := (y.keep p o1 a1 c1).2.1 hb
  exact ⟨o2, d1, c2.trans d2⟩
theorem Gr.weak {b : Option Addr} {F H F1 H1 : Hp} (x : Gr none F H F1 H1) : Gr b F H F1 H1 :=
  ⟨x.ex, x.sub, fun p o h1 h2 => by
    obtain ⟨a1, a2, a3⟩ := x.keep p o h1 h2
    exact ⟨a1, fun _ => a2 (fun z => nomatch z), a3⟩⟩
theorem Gr.there {b : Option Addr} {F H F1 H1 : Hp} (x : Gr b F H F1 H1) (e : Ex F H) {a : Addr} (z : H1 a = none) : H a = none := by
  cases y : H a with
  | none => rfl
  | some o =>
    cases q : F a with
    | none =>
      obtain ⟨_, _, o', w⟩ := x.keep a o q y
      rw [z] at w; cases w
    | some u =>
      have := x.sub a u (x.ex a u q)
      rw [z] at this; cases this
/-- a new object, seen -/
theorem Gr.new {b : Option Addr} {F H : Hp} {p : Addr} {o : HO} (e : Ex F H) (h : H p = none) : Gr b F H (upd F p o) (upd H p o) := by
  have hf : F p = none := e.back h
  refine ⟨Ex.new hf, e.upd2, fun q u h1 h2 => ?_⟩
  have ne : q ≠ p := ne_of_none h2 h
  rw [upd_ne ne, upd_ne ne]
  exact ⟨h1, fun _ => ⟨u, h2, .refl u⟩, u, h2⟩
/-- a new object, not seen -/
theorem Gr.newH {b : Option Addr} {F H : Hp} {p : Addr} {o : HO} (e : Ex F H) (h : H p = none) : Gr b F H F (upd H p o) := by
  have hf : F p = none := e.back h
  refine ⟨Ex.refl F, e.updR hf, fun q u h1 h2 => ?_⟩
  have ne : q ≠ p := ne_of_none h2 h
  rw [upd_ne ne]
  exact ⟨h1, fun _ => ⟨u, h2, .refl u⟩, u, h2⟩

structure Base where
  F : Hp
  H : Hp
structure Stt (K : Fg) (b : Bp) (B : Base) (F H : Hp) (σ : L2.St) (δ : LS) : Prop where
  sub : Ex F H
  gr : Gr b.p B.F B.H F H
  len : σ.length = δ.length
  ok : ∀ i s, δ[i]? = some s → SlOk K b.p B.H F H (slot σ i) s
  ap : ∀ i j si sj p, i ≠ j → δ[i]? = some si → δ[j]? = some sj → si.mut = true → sj.mut = true → slot σ i = some (.ref p) → slot σ j ≠ some (.ref p)
  bb : ∀ p, b.p = some p → H p ≠ none
  tb : ∀ P, b.T P → GxR.TabG H P ∧ F P = none

/-- an object that a slot holds as its own -/
def Own (σ : L2.St) (δ : LS) (p : Addr) : Prop := ∃ (i : Nat) (s : Sl), δ[i]? = some s ∧ s.mut = true ∧ slot σ i = some (.ref p)
/-- while an expression is evaluated: what is seen stays; what is nobody's stays as it is -/
structure Kp (b : Bp) (σ : L2.St) (δ : LS) (F H : Hp) (δ2 : LS) (F2 H2 : Hp) : Prop where
  ex : Ex F F2
  own : ∀ p, Own σ δ2 p → Own σ δ p
  keep : ∀ p o, F p = none → H p = some o → ¬ Own σ δ p → b.p ≠ some p → F2 p = none ∧ ∃ o', H2 p = some o' ∧ Kept o o'
  there : ∀ p, H2 p = none → H p = none
theorem Kp.rfl' {b : Bp} {σ : L2.St} {δ : LS} {F H : Hp} : Kp b σ δ F H δ F H := ⟨Ex.refl F, fun _ h => h, fun _ o h1 h2 _ _ => ⟨h1, o, h2, .refl o⟩, fun _ h => h⟩
theorem Kp.trans {b : Bp} {σ : L2.St} {δ δ1 δ2 : LS} {F H F1 H1 F2 H2 : Hp} (x : Kp b σ δ F H δ1 F1 H1) (y : Kp b σ δ1 F1 H1 δ2 F2 H2) : Kp b σ δ F H δ2 F2 H2 :=
  ⟨x.ex.trans y.ex, fun p h => x.own p (y.own p h), fun p o h1 h2 h3 h4 => by
    obtain ⟨a1, o1, a2, a3⟩ := x.keep p o h1 h2 h3 h4
    obtain ⟨c1, o2, c2, c3⟩ := y.keep p o1 a1 a2 (fun z => h3 (x.own p z)) h4
    exact ⟨c1, o2, c2, a3.trans c3⟩, fun p h => x.there p (y.there p h)⟩
theorem Kp.gr {b : Bp} {σ : L2.St} {δ : LS} {F H F2 H2 : Hp} (g : Gr none F H F2 H2) (e : Ex F H) : Kp b σ δ F H δ F2 H2 :=
  ⟨g.ex, fun _ h => h, fun p o h1 h2 _ _ => by
    obtain ⟨a, c, _⟩ := g.keep p o h1 h2
    exact ⟨a, c (fun z => nomatch z)⟩, fun p h => g.there e h⟩
theorem TabG.kept {H H' : Hp} {P : Addr} (h : GxR.TabG H P) (k : ∀ o, H P = some o → ∃ o', H' P = some o' ∧ Kept o o') : GxR.TabG H' P := by
  obtain ⟨ps, h1, h2⟩ := h
  obtain ⟨o', k1, k2⟩ := k _ h1
  rcases k2 with rfl | ⟨_, ps', _, rfl, h3⟩
  · exact ⟨ps, k1, h2⟩
  · exact ⟨ps', k1, h3⟩
theorem Gr.tab {F H F' H' : Hp} (g : Gr none F H F' H') {P : Addr} (h : GxR.TabG H P ∧ F P = none) : GxR.TabG H' P ∧ F' P = none := by
  obtain ⟨h1, h2⟩ := h
  obtain ⟨ps, h3, h4⟩ := id h1
  obtain ⟨a, c, _⟩ := g.keep P _ h2 h3
  exact ⟨TabG.kept h1 fun o ho => by rw [h3] at ho; cases ho; exact c (fun z => nomatch z), a⟩
section
variable {K : Fg} {b : Bp} {B : Base} {F H F' H' : Hp} {σ : L2.St} {δ : LS}
theorem SlOk.mono {b : Option Addr} {o : Option V} {s : Sl} (h : SlOk K b B.H F H o s) (e : Ex F F') (kp : ∀ p u, s.mut = true → o = some (.ref p) → F p = none → H p = some u → F' p = none ∧ ∃ u', H' p = some u' ∧ Kept u u') : SlOk K b B.H F' H' o s := by
  cases s with
  | no => trivial
  | dat d => obtain ⟨v, h1, h2⟩ := h; exact ⟨v, h1, Dp.mono e h2⟩
  | own ds =>
    obtain ⟨p, xs, h1, h2, h3, h4, h5⟩ := h
    obtain ⟨k1, u', k2, k3⟩ := kp p _ rfl h1 h3 h2
    cases k3.eq (fun _ z => nomatch z)
    exact ⟨p, xs, h1, k2, k1, h4, DpAll.mono e h5⟩
  | dic kvs =>
    obtain ⟨p, xs, h1, h2, h3, h4, h5⟩ := h
    obtain ⟨k1, u', k2, k3⟩ := kp p _ rfl h1 h3 h2
    cases k3.eq (fun _ z => nomatch z)
    exact ⟨p, xs, h1, k2, k1, h4, KvAll.mono e h5⟩
  | dit kvs =>
    obtain ⟨p, xs, h1, h2, h3, h4, h5⟩ := h
    obtain ⟨k1, u', k2, k3⟩ := kp p _ rfl h1 h3 h2
    cases k3.eq (fun _ z => nomatch z)
    exact ⟨p, xs, h1, k2, k1, h4, KtAll.mono e h5⟩
  | pool =>
    obtain ⟨p, h1, h2, h3, s, ns, i, c, k, salt, h4, h5⟩ := h
    obtain ⟨k1, u', k2, k3⟩ := kp p _ rfl h1 h3 h4
    cases k3.eq (fun _ z => nomatch z)
    exact ⟨p, h1, h2, k1, s, ns, i, c, k, salt, k2, e.l h5⟩
  | pown ds =>
    obtain ⟨p, xs, h1, h2, h3, h4, h5⟩ := h
    obtain ⟨k1, u', k2, k3⟩ := kp p _ rfl h1 h3 h2
    cases k3.eq (fun _ z => nomatch z)
    exact ⟨p, xs, h1, k2, k1, h4, DpAll.mono e h5⟩
/-- the heaps go on, the slots stand -/
theorem Stt.step (S : Stt K b B F H σ δ) (g : Gr none F H F' H') : Stt K b B F' H' σ δ :=
  ⟨g.sub, S.gr.trans g.weak, S.len, fun i s h => (S.ok i s h).mono g.ex fun p u _ _ h1 h2 => by
    obtain ⟨a, c, _⟩ := g.keep p u h1 h2
    exact ⟨a, c (fun z => nomatch z)⟩, S.ap, fun p hp z => S.bb p hp (g.there S.sub z), fun P hP => g.tab (S.tb P hP)⟩
theorem Stt.dat (S : Stt K b B F H σ δ) {i : Nat} {d : PyData} (h : δ[i]? = some (.dat d)) : ∃ v, σ[i]? = some (some v) ∧ Dp K F v d := by
  obtain ⟨v, h1, h2⟩ := S.ok i _ h
  exact ⟨v, slot_some h1, h2⟩
theorem Stt.own (S : Stt K b B F H σ δ) {i : Nat} {ds : List PyData} (h : δ[i]? = some (.own ds)) : ∃ p xs, σ[i]? = some (some (.ref p)) ∧ H p = some (.lst xs) ∧ F p = none ∧ B.H p = none ∧ DpAll K F xs ds := by
  obtain ⟨p, xs, h1, h2⟩ := S.ok i _ h
  exact ⟨p, xs, slot_some h1, h2⟩
theorem lt_of_get {α : Type} {l : List α} {i : Nat} {x : α} (h : l[i]? = some x) : i < l.length := (List.getElem?_eq_some_iff.mp h).1
theorem Stt.pown (S : Stt K b B F H σ δ) {i : Nat} {ds : List PyData} (h : δ[i]? = some (.pown ds)) : ∃ p xs, σ[i]? = some (some (.ref p)) ∧ H p = some (.lst xs) ∧ F p = none ∧ b.p = some p ∧ DpAll K F xs ds := by
  obtain ⟨p, xs, h1, h2⟩ := S.ok i _ h
  exact ⟨p, xs, slot_some h1, h2⟩
/-- a slot is set to data | to nothing -/
theorem Stt.set (S : Stt K b B F H σ δ) {i : Nat} {o : Option V} {s : Sl} (ok : i < σ.length → SlOk K b.p B.H F H o s) (ap : s.mut = false ∨ ∀ j sj p, i ≠ j → δ[j]? = some sj → sj.mut = true → o = some (.ref p) → slot σ j ≠ some (.ref p)) : Stt K b B F H (σ.set i o) (δ.set i s) := by
  refine ⟨S.sub, S.gr, by rw [List.length_set, List.length_set]; exact S.len, fun j t h => ?_, fun j k sj sk p hjk h1 h2 m1 m2 h3 => ?_, S.bb, S.tb⟩
  · by_cases e : i = j
    · subst e
      have hi : i < δ.length := by
        have := lt_of_get h
        rwa [List.length_set] at this
      rw [List.getElem?_set_self hi] at h
      cases h
      have hs : i < σ.length := by rw [S.len]; exact hi
      rw [slot_set hs]
      exact ok hs
    · rw [List.getElem?_set_ne e] at h
      rw [slot_set_ne e]
      exact S.ok j t h
  · by_cases e : i = j
    · subst e
      have hi : i < δ.length := by
        have := lt_of_get h1
        rwa [List.length_set] at this
      rw [List.getElem?_set_self hi] at h1
      cases h1
      rw [slot_set (by rw [S.len]; exact hi)] at h3
      rw [List.getElem?_set_ne hjk] at h2
      rw [slot_set_ne hjk]
      rcases ap with ap | ap
      · rw [ap] at m1; cases m1
      · exact ap k sk p hjk h2 m2 h3
    · rw [List.getElem?_set_ne e] at h1
      rw [slot_set_ne e] at h3
      by_cases e' : i = k
      · subst e'
        have hi : i < δ.length := by
          have := lt_of_get h2
          rwa [List.length_set] at this
        rw [List.getElem?_set_self hi] at h2
        cases h2
        rw [slot_set (by rw [S.len]; exact hi)]
        rcases ap with ap | ap
        · rw [ap] at m2; cases m2
        · exact fun z => ap j sj p e h1 m1 z h3
      · rw [List.getElem?_set_ne e'] at h2
        rw [slot_set_ne e']
        exact S.ap j k sj sk p hjk h1 h2 m1 m2 h3
theorem Stt.setD (S : Stt K b B F H σ δ) {i : Nat} {v : V} {d : PyData} (h : Dp K F v d) : Stt K b B F H (σ.set i (some v)) (δ.set i (.dat d)) :=
  S.set (fun _ => ⟨v, rfl, h⟩) (.inl rfl)
/-- a slot's object is written: it is that slot's alone -/
theorem Stt.wr (S : Stt K b B F H σ δ) {i : Nat} {s s' : Sl} {p : Addr} {o : HO} (h : δ[i]? = some s) (m : s.mut = true) (hp : slot σ i = some (.ref p)) (hF : F p = none) (hB : B.H p = none ∨ b.p = some p) (hH : ∃ u, H p = some u) (hN : ∀ ps, H p ≠ some (.tbl ps))
    (m' : s'.mut = true) (ok : SlOk K b.p B.H F (upd H p o) (some (.ref p)) s') : Stt K b B F (upd H p o) σ (δ.set i s') := by
  have hi : i < δ.length := lt_of_get h
  refine ⟨S.sub.updR hF, ⟨S.gr.ex, S.sub.updR hF, fun q u h1 h2 => ?_⟩, by rw [List.length_set]; exact S.len, fun j t hj => ?_, fun j k sj sk q hjk h1 h2 m1 m2 h3 => ?_, fun q hq z => by
    by_cases c : q = p
    · subst c; rw [upd_same] at z; cases z
    · rw [upd_ne c] at z; exact S.bb q hq z, fun P hP => by
    obtain ⟨h1, h2⟩ := S.tb P hP
    obtain ⟨ps, h3, h4⟩ := id h1
    have ne : P ≠ p := by rintro rfl; exact hN ps h3
    exact ⟨⟨ps, by rw [upd_ne ne]; exact h3, h4⟩, h2⟩⟩
  · obtain ⟨a1, a2, a3⟩ := S.gr.keep q u h1 h2
    refine ⟨a1, fun hb => ?_, ?_⟩
    · have ne : q ≠ p := by
        rintro rfl
        rcases hB with z | z
        · rw [h2] at z; cases z
        · exact hb z
      rw [upd_ne ne]; exact a2 hb
    · by_cases c : q = p
      · subst c; exact ⟨o, upd_same⟩
      · rw [upd_ne c]; exact a3
  · by_cases e : i = j
    · subst e
      rw [List.getElem?_set_self hi] at hj
      cases hj
      rw [hp]; exact ok
    · rw [List.getElem?_set_ne e] at hj
      refine (S.ok j t hj).mono (Ex.refl F) fun q u mt hq h1 h2 => ⟨h1, ?_⟩
      have ne : q ≠ p := by
        rintro rfl
        exact S.ap i j s t _ e h hj m mt hp hq
      rw [upd_ne ne]; exact ⟨u, h2, .refl u⟩
  · have get : ∀ (k : Nat) (sk : Sl), (δ.set i s')[k]? = some sk → sk.mut = true → ∃ sk' : Sl, δ[k]? = some sk' ∧ sk'.mut = true := fun k sk hk mk => by
      by_cases e : i = k
      · subst e; exact ⟨s, h, m⟩
      · rw [List.getElem?_set_ne e] at hk
        exact ⟨sk, hk, mk⟩
    obtain ⟨sj', g1, g2⟩ := get j sj h1 m1
    obtain ⟨sk', g3, g4⟩ := get k sk h2 m2
    exact S.ap j k sj' sk' q hjk g1 g3 g2 g4 h3
/-- a list of one's own becomes data -/
theorem Stt.frz (S : Stt K b B F H σ δ) {i : Nat} {ds : List PyData} (h : δ[i]? = some (.own ds)) : ∃ p F', σ[i]? = some (some (.ref p)) ∧ Kp b σ δ F H (δ.set i (.dat (.list ds))) F' H ∧ Dp K F' (.ref p) (.list ds) ∧ Stt K b B F' H σ (δ.set i (.dat (.list ds))) := by
  obtain ⟨p, xs, h1, h2, h3, h4, h5⟩ := S.own h
  have e : Ex F (upd F p (.lst xs)) := Ex.new h3
  have hd : Dp K (upd F p (.lst xs)) (.ref p) (.list ds) := .lst (.inl (.inl upd_same)) (DpAll.mono e h5)
  have hi : i < δ.length := lt_of_get h
  have nx : ∀ (k : Nat) (sk : Sl), (δ.set i (.dat (.list ds)))[k]? = some sk → sk.mut = true → δ[k]? = some sk := fun k sk hk mk => by
    by_cases e : i = k
    · subst e
      rw [List.getElem?_set_self hi] at hk
      cases hk; cases mk
    · rwa [List.getElem?_set_ne e] at hk
  refine ⟨p, _, h1, ⟨e, fun q ⟨k, sk, k1, k2, k3⟩ => ⟨k, sk, nx k sk k1 k2, k2, k3⟩, fun q u g1 g2 g3 _ => ?_, fun _ h => h⟩, hd, ⟨fun a u q => ?_, ⟨S.gr.ex.trans e, fun a u q => ?_, fun q u g1 g2 => ?_⟩, by rw [List.length_set]; exact S.len, fun j t hj => ?_, fun j k sj sk q hjk g1 g2 m1 m2 g3 => ?_, S.bb, fun P hP => ?_⟩⟩
  · have ne : q ≠ p := by rintro rfl; exact g3 ⟨i, _, h, rfl, slot_of h1⟩
    rw [upd_ne ne]; exact ⟨g1, u, g2, .refl u⟩
  · by_cases c : a = p
    · subst c; rw [upd_same] at q; cases q; exact h2
    · rw [upd_ne c] at q; exact S.sub a u q
  · by_cases c : a = p
    · subst c; rw [upd_same] at q; cases q; exact h2
    · rw [upd_ne c] at q; exact S.sub a u q
  · obtain ⟨a1, a2⟩ := S.gr.keep q u g1 g2
    have ne : q ≠ p := by rintro rfl; rw [h4] at g2; cases g2
    rw [upd_ne ne]; exact ⟨a1, a2⟩
  · by_cases c : i = j
    · subst c
      rw [List.getElem?_set_self hi] at hj
      cases hj
      exact ⟨.ref p, slot_of h1, hd⟩
    · rw [List.getElem?_set_ne c] at hj
      refine (S.ok j t hj).mono e fun q u mt hq g1 g2 => ⟨?_, u, g2, .refl u⟩
      have ne : q ≠ p := by
        rintro rfl
        exact S.ap i j _ t _ c h hj rfl mt (slot_of h1) hq
      rw [upd_ne ne]; exact g1
  · have ne : ∀ (k : Nat) (sk : Sl), (δ.set i (.dat (.list ds)))[k]? = some sk → sk.mut = true → k ≠ i ∧ δ[k]? = some sk := fun k sk hk mk => by
      by_cases e : i = k
      · subst e
        rw [List.getElem?_set_self hi] at hk
        cases hk; cases mk
      · rw [List.getElem?_set_ne e] at hk
        exact ⟨Ne.symm e, hk⟩
    exact S.ap j k sj sk q hjk (ne j sj g1 m1).2 (ne k sk g2 m2).2 m1 m2 g3
  · obtain ⟨g1, g2⟩ := S.tb P hP
    obtain ⟨ps, g3, g4⟩ := id g1
    have ne : P ≠ p := by rintro rfl; rw [h2] at g3; cases g3
    exact ⟨g1, by rw [upd_ne ne]; exact g2⟩
end
end Ab

set_option Elab.async false
set_option linter.all false
set_option maxRecDepth 100000
set_option maxHeartbeats 2000000
namespace Ab
open PySem PySem.Spec PyProof.Rows L2

inductive AV where
  | d (x : PyData)
  | o (i : Nat)
def VR (K : Fg) (F : Hp) (σ : L2.St) (v : V) : AV → Prop
  | .d x => Dp K F v x
  | .o i => σ[i]? = some (some v)
theorem VR.mono {K : Fg} {F F' : Hp} {σ : L2.St} {v : V} (e : Ex F F') : ∀ {a : AV}, VR K F σ v a → VR K F' σ v a
  | .d _, h => Dp.mono e h
  | .o _, h => h

/-! ### judgements -/
def De (K : Fg) (b : Bp) (te : TE) (δ : LS) (R : AV → LS → Prop) : Prop :=
  ∀ B F H σ, Stt K b B F H σ δ → ∀ Q : VK, (∀ v F2 H2 a δ2, R a δ2 → Stt K b B F2 H2 σ δ2 → Kp b σ δ F H δ2 F2 H2 → VR K F2 σ v a → Q v H2) → te σ H Q
/-- data alone -/
def Dd (K : Fg) (b : Bp) (te : TE) (δ : LS) (R : PyData → LS → Prop) : Prop :=
  ∀ B F H σ, Stt K b B F H σ δ → ∀ Q : VK, (∀ v F2 H2 x δ2, R x δ2 → Stt K b B F2 H2 σ δ2 → Kp b σ δ F H δ2 F2 H2 → Dp K F2 v x → Q v H2) → te σ H Q
def Dt (K : Fg) (b : Bp) (tt : TT) (δ : LS) (R : Bool → LS → Prop) : Prop :=
  ∀ B F H σ, Stt K b B F H σ δ → ∀ Q : Bool → Hp → Prop, (∀ c F2 H2 δ2, R c δ2 → Stt K b B F2 H2 σ δ2 → Kp b σ δ F H δ2 F2 H2 → Q c H2) → tt σ H Q
def Da (K : Fg) (b : Bp) (ta : TA) (δ : LS) (R : List PyData → LS → Prop) : Prop :=
  ∀ B F H σ, Stt K b B F H σ δ → ∀ Q : List V → Hp → Prop, (∀ vs F2 H2 ds δ2, R ds δ2 → Stt K b B F2 H2 σ δ2 → Kp b σ δ F H δ2 F2 H2 → DpAll K F2 vs ds → Q vs H2) → ta σ H Q
/-- a new list, nobody's yet -/
structure New (K : Fg) (B : Base) (F H : Hp) (σ : L2.St) (δ : LS) (p : Addr) (xs : List V) (ds : List PyData) : Prop where
  h : H p = some (.lst xs)
  f : F p = none
  b : B.H p = none
  ap : ∀ i s, δ[i]? = some s → s.mut = true → slot σ i ≠ some (.ref p)
  all : DpAll K F xs ds
def Dn (K : Fg) (b : Bp) (te : TE) (δ : LS) (R : List PyData → LS → Prop) : Prop :=
  ∀ B F H σ, Stt K b B F H σ δ → ∀ Q : VK, (∀ p xs F2 H2 ds δ2, R ds δ2 → Stt K b B F2 H2 σ δ2 → Kp b σ δ F H δ2 F2 H2 → H p = none → New K B F2 H2 σ δ2 p xs ds → Q (.ref p) H2) → te σ H Q
structure Po where
  nx : LS → Prop
  rt : PyData → Prop
  bk : LS → Prop := fun _ => False
  ct : LS → Prop := fun _ => False
  rn : List PyData → Prop := fun _ => False
  rs : PyData → LS → Prop := fun _ _ => False
structure EndsOk (K : Fg) (b : Bp) (B : Base) (F0 : Hp) (P : Po) (D : Ends) : Prop where
  nx : ∀ F H σ δ, P.nx δ → Stt K b B F H σ δ → Ex F0 F → D.nx σ H
  rt : ∀ v F H d, P.rt d → Gr b.p B.F B.H F H → Dp K F v d → D.rt v H
  bk : ∀ F H σ δ, P.bk δ → Stt K b B F H σ δ → Ex F0 F → D.bk σ H
  ct : ∀ F H σ δ, P.ct δ → Stt K b B F H σ δ → Ex F0 F → D.ct σ H
  rn : ∀ p xs F H σ δ ds, P.rn ds → Stt K b B F H σ δ → New K B F H σ δ p xs ds → D.rt (.ref p) H
  rs : ∀ v F H d σ δ, P.rs d δ → Stt K b B F H σ δ → Dp K F v d → D.rt v H
theorem EndsOk.mono {K : Fg} {b : Bp} {B : Base} {F0 F1 : Hp} {P : Po} {D : Ends} (E : EndsOk K b B F0 P D) (e : Ex F0 F1) : EndsOk K b B F1 P D :=
  ⟨fun F H σ δ h S e1 => E.nx F H σ δ h S (e.trans e1), E.rt, fun F H σ δ h S e1 => E.bk F H σ δ h S (e.trans e1), fun F H σ δ h S e1 => E.ct F H σ δ h S (e.trans e1), E.rn, E.rs⟩
def Ds (K : Fg) (b : Bp) (ts : TS) (δ : LS) (P : Po) : Prop :=
  ∀ B F H σ (D : Ends), Stt K b B F H σ δ → EndsOk K b B F P D → ts D σ H
def Dg (K : Fg) (b : Bp) (g : TG) (x : PyData) (δ : LS) (R : LS → Prop) : Prop :=
  ∀ B F H σ v, Stt K b B F H σ δ → Dp K F v x → ∀ Q : L2.St → Hp → Prop, (∀ σ2 δ2, R δ2 → Stt K b B F H σ2 δ2 → (∀ p, Own σ2 δ2 p → Own σ δ p) → Q σ2 H) → g v σ H Q
def Dgs (K : Fg) (b : Bp) (g : TGs) (xs : List PyData) (δ : LS) (R : LS → Prop) : Prop :=
  ∀ B F H σ vs, Stt K b B F H σ δ → DpAll K F vs xs → ∀ Q : L2.St → Hp → Prop, (∀ σ2 δ2, R δ2 → Stt K b B F H σ2 δ2 → (∀ p, Own σ2 δ2 p → Own σ δ p) → Q σ2 H) → g vs σ H Q

section
variable {K : Fg} {b : Bp} {δ : LS} {te ta tb : TE} {t u : TT} {R : AV → LS → Prop}

/-! ### values -/
theorem de_var {i : Nat} {d : PyData} (h : δ[i]? = some (.dat d)) (k : R (.d d) δ) : De K b (tVar i) δ R := fun B F H σ S Q q => by
  obtain ⟨v, h1, h2⟩ := S.dat h
  exact ⟨v, h1, q v F H _ δ k S Kp.rfl' h2⟩
theorem de_own {i : Nat} {s : Sl} (h : δ[i]? = some s) (m : s.mut = true) (k : R (.o i) δ) : De K b (tVar i) δ R := fun B F H σ S Q q => by
  have : ∃ p, slot σ i = some (.ref p) := by
    have x := S.ok i s h
    cases s with
    | no => cases m
    | dat d => cases m
    | own ds => obtain ⟨p, _, h1, _⟩ := x; exact ⟨p, h1⟩
    | dic ds => obtain ⟨p, _, h1, _⟩ := x; exact ⟨p, h1⟩
    | dit ds => obtain ⟨p, _, h1, _⟩ := x; exact ⟨p, h1⟩
    | pown ds => obtain ⟨p, _, h1, _⟩ := x; exact ⟨p, h1⟩
    | pool => obtain ⟨p, h1, _⟩ := x; exact ⟨p, h1⟩
  obtain ⟨p, hp⟩ := this
  exact ⟨.ref p, slot_some hp, q _ F H _ δ k S Kp.rfl' (slot_some hp)⟩
theorem de_ci {n : Int} (k : R (.d (.int n)) δ) : De K b (tC (.int n)) δ R := fun B F H σ S Q q => q _ F H _ δ k S Kp.rfl' (.int n)
theorem de_cn (k : R (.d .none) δ) : De K b (tC .non) δ R := fun B F H σ S Q q => q _ F H _ δ k S Kp.rfl' .non
theorem de_cb {c : Bool} (k : R (.d (.bool c)) δ) : De K b (tC (.bl c)) δ R := fun B F H σ S Q q => q _ F H _ δ k S Kp.rfl' (.bl c)
theorem de_cs {x : Str} (k : R (.d (.str x)) δ) : De K b (tC (.str x)) δ R := fun B F H σ S Q q => q _ F H _ δ k S Kp.rfl' (.str x)
theorem de_c {v : V} {d : PyData} (h : ∀ F, Dp K F v d) (k : R (.d d) δ) : De K b (tC v) δ R := fun B F H σ S Q q => q _ F H _ δ k S Kp.rfl' (h F)

/-- to data: a list of one's own is given away -/
def toD (R : PyData → LS → Prop) : AV → LS → Prop
  | .d x, δ => R x δ
  | .o i, δ => ∃ ds, δ[i]? = some (.own ds) ∧ R (.list ds) (δ.set i (.dat (.list ds)))
theorem dd_of {R : PyData → LS → Prop} (h : De K b te δ (toD R)) : Dd K b te δ R := fun B F H σ S Q q => h B F H σ S Q fun v F2 H2 a δ2 r S2 e vr => by
  cases a with
  | d x => exact q v F2 H2 x δ2 r S2 e vr
  | o i =>
    obtain ⟨ds, h1, h2⟩ := r
    obtain ⟨p, F3, g1, g2, g3, g4⟩ := S2.frz h1
    have : some (some v) = some (some (V.ref p)) := (show σ[i]? = some (some v) from vr).symm.trans g1
    cases this
    exact q _ F3 H2 _ _ h2 g4 (e.trans g2) g3
theorem de_ofD (h : Dd K b te δ fun x δ' => R (.d x) δ') : De K b te δ R := fun B F H σ S Q q => h B F H σ S Q fun v F2 H2 x δ2 r S2 e vr => q v F2 H2 _ δ2 r S2 e vr
theorem de_ofN (h : Dn K b te δ fun ds δ' => R (.d (.list ds)) δ') : De K b te δ R := fun B F H σ S Q q => h B F H σ S Q fun p xs F2 H2 ds δ2 r S2 e pn N => by
  have e2 : Ex F2 (upd F2 p (.lst xs)) := Ex.new N.f
  refine q _ (upd F2 p (.lst xs)) H2 _ δ2 r ⟨fun a u z => ?_, ⟨S2.gr.ex.trans e2, fun a u z => ?_, fun c u g1 g2 => ?_⟩, S2.len, fun i s hs => ?_, S2.ap, S2.bb, fun P hP => ?_⟩ ⟨e.ex.trans e2, e.own, fun c u g1 g2 g3 g4 => ?_, e.there⟩ (.lst (.inl (.inl upd_same)) (DpAll.mono e2 N.all))
  · by_cases c : a = p
    · subst c; rw [upd_same] at z; cases z; exact N.h
    · rw [upd_ne c] at z; exact S2.sub a u z
  · by_cases c : a = p
    · subst c; rw [upd_same] at z; cases z; exact N.h
    · rw [upd_ne c] at z; exact S2.sub a u z
  · obtain ⟨a1, a2⟩ := S2.gr.keep c u g1 g2
    have ne : c ≠ p := by rintro rfl; rw [N.b] at g2; cases g2
    rw [upd_ne ne]; exact ⟨a1, a2⟩
  · refine (S2.ok i s hs).mono e2 fun c u mt hc g1 g2 => ⟨?_, u, g2, .refl u⟩
    have ne : c ≠ p := by rintro rfl; exact N.ap i s hs mt hc
    rw [upd_ne ne]; exact g1
  · obtain ⟨g1, g2⟩ := S2.tb P hP
    obtain ⟨ps, g3, g4⟩ := id g1
    have ne : P ≠ p := by rintro rfl; have z := N.h; rw [g3] at z; cases z
    exact ⟨g1, by rw [upd_ne ne]; exact g2⟩
  · obtain ⟨a1, a2⟩ := e.keep c u g1 g2 g3 g4
    have ne : c ≠ p := by rintro rfl; rw [pn] at g2; cases g2
    rw [upd_ne ne]; exact ⟨a1, a2⟩
/-- reading a list or tuple -/
def seqIn (a : AV) (δ : LS) (xs : List PyData) : Prop := a = .d (.list xs) ∨ a = .d (.tuple xs) ∨ ∃ i, a = .o i ∧ (δ[i]? = some (.own xs) ∨ δ[i]? = some (.pown xs))
def lstIn (a : AV) (δ : LS) (xs : List PyData) : Prop := a = .d (.list xs) ∨ ∃ i, a = .o i ∧ (δ[i]? = some (.own xs) ∨ δ[i]? = some (.pown xs))
theorem seqIn.mkL {xs : List PyData} : seqIn (.d (.list xs)) δ xs := .inl rfl
theorem seqIn.mkT {xs : List PyData} : seqIn (.d (.tuple xs)) δ xs := .inr (.inl rfl)
theorem seqIn.mkO {xs : List PyData} {i : Nat} (h : δ[i]? = some (.own xs)) : seqIn (.o i) δ xs := .inr (.inr ⟨i, rfl, .inl h⟩)
theorem seqIn.mkP {xs : List PyData} {i : Nat} (h : δ[i]? = some (.pown xs)) : seqIn (.o i) δ xs := .inr (.inr ⟨i, rfl, .inr h⟩)
theorem lstIn.mkL {xs : List PyData} : lstIn (.d (.list xs)) δ xs := .inl rfl
theorem lstIn.mkO {xs : List PyData} {i : Nat} (h : δ[i]? = some (.own xs)) : lstIn (.o i) δ xs := .inr ⟨i, rfl, .inl h⟩
theorem Stt.any {B : Base} {F H : Hp} {σ : L2.St} (S : Stt K b B F H σ δ) {i : Nat} {ds : List PyData} (h : δ[i]? = some (.own ds) ∨ δ[i]? = some (.pown ds)) : ∃ p xs, σ[i]? = some (some (.ref p)) ∧ H p = some (.lst xs) ∧ DpAll K F xs ds := by
  rcases h with h | h
  · obtain ⟨p, xs, h1, h2, _, _, h5⟩ := S.own h; exact ⟨p, xs, h1, h2, h5⟩
  · obtain ⟨p, xs, h1, h2, _, _, h5⟩ := S.pown h; exact ⟨p, xs, h1, h2, h5⟩
theorem lstIn.get {B : Base} {F H : Hp} {σ : L2.St} {a : AV} {ds : List PyData} {v : V} (S : Stt K b B F H σ δ) (h : lstIn a δ ds) (r : VR K F σ v a) : ∃ p xs, v = .ref p ∧ SqL K H p xs ∧ DpAll K F xs ds := by
  rcases h with rfl | ⟨i, rfl, h⟩
  · cases r with
    | lst h1 h2 => exact ⟨_, _, rfl, S.sub.l h1, h2⟩
  · obtain ⟨p, xs, h1, h2, h5⟩ := S.any h
    have : some (some v) = some (some (V.ref p)) := (show σ[i]? = some (some v) from r).symm.trans h1
    cases this
    exact ⟨p, xs, rfl, .inl (.inl h2), h5⟩
theorem seqIn.get {B : Base} {F H : Hp} {σ : L2.St} {a : AV} {ds : List PyData} {v : V} (S : Stt K b B F H σ δ) (h : seqIn a δ ds) (r : VR K F σ v a) : ∃ p xs, v = .ref p ∧ (SqL K H p xs ∨ SqT K H p xs) ∧ DpAll K F xs ds := by
  rcases h with rfl | rfl | ⟨i, rfl, h⟩
  · cases r with
    | lst h1 h2 => exact ⟨_, _, rfl, .inl (S.sub.l h1), h2⟩
  · cases r with
    | tup h1 h2 => exact ⟨_, _, rfl, .inr (S.sub.t h1), h2⟩
  · obtain ⟨p, xs, h1, h2, h5⟩ := S.any h
    have : some (some v) = some (some (V.ref p)) := (show σ[i]? = some (some v) from r).symm.trans h1
    cases this
    exact ⟨p, xs, rfl, .inl (.inl (.inl h2)), h5⟩

/-! ### operators -/
/-- two operands, both data -/
theorem de_bin {r : R2} (h : De K b ta δ fun x δ1 => De K b tb δ1 fun y δ2 => ∃ d e z, x = .d d ∧ y = .d e ∧ R (.d z) δ2 ∧ ∀ (F H : Hp) (v w : V) (Q : VK), Ex F H → Dp K F v d → Dp K F w e → (∀ w', Dp K F w' z → Q w' H) → r v w H Q) : De K b (tOp r ta tb) δ R :=
  fun B F H σ S Q q => h B F H σ S _ fun v F1 H1 x δ1 r1 S1 e1 v1 => r1 B F1 H1 σ S1 _ fun w F2 H2 y δ2 r2 S2 e2 v2 => by
    obtain ⟨d, e, z, rfl, rfl, k, f⟩ := r2
    exact f F2 H2 v w Q S2.sub (VR.mono e2.ex v1) v2 fun w' hw => q w' F2 H2 _ δ2 k S2 (e1.trans e2) hw
theorem de_I0 {f : Int → Int → Int} (h : De K b ta δ fun x δ1 => De K b tb δ1 fun y δ2 => ∃ i, x = .d (.int i) ∧ ∃ j, y = .d (.int j) ∧ R (.d (.int (f i j))) δ2) : De K b (tOp (rI0 fun i j => .int (f i j)) ta tb) δ R :=
  fun B F H σ S Q q => h B F H σ S _ fun v F1 H1 x δ1 r1 S1 e1 v1 => r1 B F1 H1 σ S1 _ fun w F2 H2 y δ2 r2 S2 e2 v2 => by
    obtain ⟨i, rfl, j, rfl, k⟩ := r2
    cases v1; cases v2
    exact ⟨i, j, rfl, rfl, q _ F2 H2 _ δ2 k S2 (e1.trans e2) (.int _)⟩
theorem de_IC {C : Int → Int → Prop} {f : Int → Int → Int} (h : De K b ta δ fun x δ1 => De K b tb δ1 fun y δ2 => ∃ i, x = .d (.int i) ∧ ∃ j, y = .d (.int j) ∧ C i j ∧ R (.d (.int (f i j))) δ2) : De K b (tOp (rI C fun i j => .int (f i j)) ta tb) δ R :=
  fun B F H σ S Q q => h B F H σ S _ fun v F1 H1 x δ1 r1 S1 e1 v1 => r1 B F1 H1 σ S1 _ fun w F2 H2 y δ2 r2 S2 e2 v2 => by
    obtain ⟨i, rfl, j, rfl, c, k⟩ := r2
    cases v1; cases v2
    exact ⟨i, j, rfl, rfl, c, q _ F2 H2 _ δ2 k S2 (e1.trans e2) (.int _)⟩
theorem de_B0 {f : Int → Int → Bool} (h : De K b ta δ fun x δ1 => De K b tb δ1 fun y δ2 => ∃ i, x = .d (.int i) ∧ ∃ j, y = .d (.int j) ∧ R (.d (.bool (f i j))) δ2) : De K b (tOp (rI0 fun i j => .bl (f i j)) ta tb) δ R :=
  fun B F H σ S Q q => h B F H σ S _ fun v F1 H1 x δ1 r1 S1 e1 v1 => r1 B F1 H1 σ S1 _ fun w F2 H2 y δ2 r2 S2 e2 v2 => by
    obtain ⟨i, rfl, j, rfl, k⟩ := r2
    cases v1; cases v2
    exact ⟨i, j, rfl, rfl, q _ F2 H2 _ δ2 k S2 (e1.trans e2) (.bl _)⟩
/-- == and != of data -/
theorem de_eq (h : Dd K b ta δ fun x δ1 => Dd K b tb δ1 fun y δ2 => SeqAt.shaped x = true ∧ SeqAt.shaped y = true ∧ R (.d (.bool (PyData.eqv x y))) δ2) : De K b (tOp (rEqD K) ta tb) δ R :=
  fun B F H σ S Q q => h B F H σ S _ fun v F1 H1 x δ1 r1 S1 e1 v1 => r1 B F1 H1 σ S1 _ fun w F2 H2 y δ2 r2 S2 e2 v2 => by
    obtain ⟨s1, s2, k⟩ := r2
    exact ⟨x, y, Dp.mono (e2.ex.trans S2.sub) v1, Dp.mono S2.sub v2, s1, s2, q _ F2 H2 _ δ2 k S2 (e1.trans e2) (.bl _)⟩
theorem de_ne (h : Dd K b ta δ fun x δ1 => Dd K b tb δ1 fun y δ2 => SeqAt.shaped x = true ∧ SeqAt.shaped y = true ∧ R (.d (.bool (!PyData.eqv x y))) δ2) : De K b (tOp (rNeD K) ta tb) δ R :=
  fun B F H σ S Q q => h B F H σ S _ fun v F1 H1 x δ1 r1 S1 e1 v1 => r1 B F1 H1 σ S1 _ fun w F2 H2 y δ2 r2 S2 e2 v2 => by
    obtain ⟨s1, s2, k⟩ := r2
    exact ⟨x, y, Dp.mono (e2.ex.trans S2.sub) v1, Dp.mono S2.sub v2, s1, s2, q _ F2 H2 _ δ2 k S2 (e1.trans e2) (.bl _)⟩
/-- is None, is not None -/
def rIsN : R2 := fun x y H Q => y = .non ∧ Q (.bl (decide (x = .non))) H
def rNotN : R2 := fun x y H Q => y = .non ∧ Q (.bl (!decide (x = .non))) H
def isN : PyData → Bool
  | .none => true
  | _ => false
theorem isN_dp {F : Hp} {v : V} {d : PyData} (h : Dp K F v d) : decide (v = .non) = isN d := by
  cases h <;> first | rfl | exact decide_eq_false (fun z => by cases z)
theorem de_isN (h : Dd K b ta δ fun x δ1 => R (.d (.bool (isN x))) δ1) : De K b (tOp rIsN ta (tC .non)) δ R :=
  fun B F H σ S Q q => h B F H σ S _ fun v F1 H1 x δ1 r1 S1 e1 v1 => ⟨rfl, q _ F1 H1 _ δ1 r1 S1 e1 (by rw [isN_dp v1]; exact .bl _)⟩
theorem de_notN (h : Dd K b ta δ fun x δ1 => R (.d (.bool (!isN x))) δ1) : De K b (tOp rNotN ta (tC .non)) δ R :=
  fun B F H σ S Q q => h B F H σ S _ fun v F1 H1 x δ1 r1 S1 e1 v1 => ⟨rfl, q _ F1 H1 _ δ1 r1 S1 e1 (by rw [isN_dp v1]; exact .bl _)⟩
theorem de_U {f : Int → Int} (h : De K b ta δ fun x δ1 => ∃ i, x = .d (.int i) ∧ R (.d (.int (f i))) δ1) : De K b (tUn (rU fun i => .int (f i)) ta) δ R :=
  fun B F H σ S Q q => h B F H σ S _ fun v F1 H1 x δ1 r1 S1 e1 v1 => by
    obtain ⟨i, rfl, k⟩ := r1
    cases v1
    exact ⟨i, rfl, q _ F1 H1 _ δ1 k S1 e1 (.int _)⟩
/-- xs[i] of a list or a tuple -/
def rIxS (K : Fg) : R2 := fun x y H Q => rIxL K x y H Q ∨ rIxT K x y H Q
theorem ix_sq {X : Cx} : IxR X (rIxS X.K) := ix_list.or ix_tup
theorem atI_all {F : Hp} {xs : List V} {ds : List PyData} {n : Int} {d : PyData} (h : DpAll K F xs ds) (e : atI ds n = some d) : ∃ v, atI xs n = some v ∧ Dp K F v d := by
  unfold atI at e ⊢
  rw [DpAll.length h]
  cases q : ixN ds.length n with
  | none => rw [q] at e; cases e
  | some j =>
    rw [q] at e
    obtain ⟨v, h1, h2⟩ := DpAll.get h (show ds[j]? = some d from e)
    exact ⟨v, h1, h2⟩
theorem de_ix (h : De K b ta δ fun x δ1 => De K b tb δ1 fun y δ2 => ∃ xs, seqIn x δ2 xs ∧ ∃ n, y = .d (.int n) ∧ ∃ d, atI xs n = some d ∧ R (.d d) δ2) : De K b (tOp (rIxS K) ta tb) δ R :=
  fun B F H σ S Q q => h B F H σ S _ fun v F1 H1 x δ1 r1 S1 e1 v1 => r1 B F1 H1 σ S1 _ fun w F2 H2 y δ2 r2 S2 e2 v2 => by
    obtain ⟨ds, h1, n, rfl, d, h2, k⟩ := r2
    cases v2
    obtain ⟨p, xs, rfl, h3, h4⟩ := h1.get S2 (VR.mono e2.ex v1)
    obtain ⟨v', g1, g2⟩ := atI_all h4 h2
    have fin : Q v' H2 := q _ F2 H2 _ δ2 k S2 (e1.trans e2) g2
    rcases h3 with h3 | h3
    · exact .inl ⟨p, xs, n, v', rfl, rfl, h3, g1, fin⟩
    · exact .inr ⟨p, xs, n, v', rfl, rfl, h3, g1, fin⟩
/-- x in (a, b, ..): flat items -/
def flatD : PyData → Bool
  | .none => true
  | .bool _ => true
  | .int _ => true
  | .str _ => true
  | _ => false
def eqD : PyData → PyData → Bool
  | .int a, .int b => a == b
  | .str a, .str b => a == b
  | .bool a, .bool b => a == b
  | .none, .none => true
  | _, _ => false
end
end Ab

set_option Elab.async false
set_option linter.all false
set_option maxRecDepth 100000
set_option maxHeartbeats 2000000
namespace Ab
open PySem PySem.Spec PyProof.Rows L2
section
variable {K : Fg} {b : Bp} {δ : LS} {te ta tb tc : TE} {t u : TT} {R : AV → LS → Prop}

theorem any_ints (n : Int) : ∀ ns : List Int, ((ns.map V.int).any fun y => eqV y (V.int n)) = ns.any (fun m => m == n)
  | [] => rfl
  | m :: ns => by
    rw [List.map_cons, List.any_cons, List.any_cons, any_ints n ns]
    rfl
theorem flat_ints : ∀ ns : List Int, (ns.map V.int).all flatV = true
  | [] => rfl
  | m :: ns => by rw [List.map_cons, List.all_cons, flat_ints ns]; rfl
theorem de_inI {neg : Bool} (h : De K b ta δ fun x δ1 => De K b tb δ1 fun y δ2 => ∃ n, x = .d (.int n) ∧ ∃ ns : List Int, seqIn y δ2 (ns.map PyData.int) ∧ R (.d (.bool (if neg then !ns.any (fun m => m == n) else ns.any (fun m => m == n)))) δ2) : De K b (tOp (rIn K neg) ta tb) δ R :=
  fun B F H σ S Q q => h B F H σ S _ fun v F1 H1 x δ1 r1 S1 e1 v1 => r1 B F1 H1 σ S1 _ fun w F2 H2 y δ2 r2 S2 e2' v2 => by
    obtain ⟨n, rfl, ns, h1, k⟩ := r2
    cases v1
    obtain ⟨p, xs, rfl, h3, h4⟩ := h1.get S2 v2
    have e := DpAll.ints_eq h4
    subst e
    refine ⟨p, _, rfl, h3, rfl, flat_ints ns, ?_⟩
    have e2 : inV (V.int n) (ns.map V.int) = ns.any (fun m => m == n) := any_ints n ns
    rw [e2]
    exact q _ F2 H2 _ δ2 k S2 (e1.trans e2') (.bl _)

/-! ### tests -/
theorem dt_test {R : Bool → LS → Prop} (h : De K b te δ fun x δ1 => ∃ c, x = .d (.bool c) ∧ R c δ1) : Dt K b (tTest te) δ R :=
  fun B F H σ S Q q => h B F H σ S _ fun v F1 H1 x δ1 r1 S1 e1 v1 => by
    obtain ⟨c, rfl, k⟩ := r1
    cases v1
    exact ⟨c, rfl, q c F1 H1 δ1 k S1 e1⟩
theorem dt_B {R : Bool → LS → Prop} (h : De K b te δ fun x δ1 => ∃ c, x = .d (.bool c) ∧ R c δ1) : Dt K b (tB te) δ R :=
  fun B F H σ S Q q => h B F H σ S _ fun v F1 H1 x δ1 r1 S1 e1 v1 => by
    obtain ⟨c, rfl, k⟩ := r1
    cases v1
    exact ⟨c, rfl, q c F1 H1 δ1 k S1 e1⟩
theorem dt_and {R : Bool → LS → Prop} (h : Dt K b t δ fun c δ1 => if c = true then Dt K b u δ1 R else R false δ1) : Dt K b (tAnd t u) δ R :=
  fun B F H σ S Q q => h B F H σ S _ fun c F1 H1 δ1 r1 S1 e1 => by
    cases c with
    | true =>
      show u σ H1 Q
      exact r1 B F1 H1 σ S1 Q fun c F2 H2 δ2 r2 S2 e2 => q c F2 H2 δ2 r2 S2 (e1.trans e2)
    | false =>
      show Q false H1
      exact q false F1 H1 δ1 r1 S1 e1
theorem dt_or {R : Bool → LS → Prop} (h : Dt K b t δ fun c δ1 => if c = true then R true δ1 else Dt K b u δ1 R) : Dt K b (tOr t u) δ R :=
  fun B F H σ S Q q => h B F H σ S _ fun c F1 H1 δ1 r1 S1 e1 => by
    cases c with
    | true =>
      show Q true H1
      exact q true F1 H1 δ1 r1 S1 e1
    | false =>
      show u σ H1 Q
      exact r1 B F1 H1 σ S1 Q fun c F2 H2 δ2 r2 S2 e2 => q c F2 H2 δ2 r2 S2 (e1.trans e2)
theorem dt_not {R : Bool → LS → Prop} (h : Dt K b t δ fun c δ1 => R (!c) δ1) : Dt K b (tNot t) δ R :=
  fun B F H σ S Q q => h B F H σ S _ fun c F1 H1 δ1 r1 S1 e1 => q _ F1 H1 δ1 r1 S1 e1
theorem dt_yes {R : Bool → LS → Prop} (h : R true δ) : Dt K b tYes δ R := fun B F H σ S Q q => q true F H δ h S Kp.rfl'
theorem de_if (h : Dt K b t δ fun c δ1 => if c = true then De K b ta δ1 R else De K b tb δ1 R) : De K b (tIf t ta tb) δ R :=
  fun B F H σ S Q q => h B F H σ S _ fun c F1 H1 δ1 r1 S1 e1 => by
    cases c with
    | true =>
      show ta σ H1 Q
      exact r1 B F1 H1 σ S1 Q fun v F2 H2 a δ2 r2 S2 e2 => q v F2 H2 a δ2 r2 S2 (e1.trans e2)
    | false =>
      show tb σ H1 Q
      exact r1 B F1 H1 σ S1 Q fun v F2 H2 a δ2 r2 S2 e2 => q v F2 H2 a δ2 r2 S2 (e1.trans e2)
theorem de_andV (h : De K b ta δ fun x δ1 => ∃ c, x = .d (.bool c) ∧ if c = true then De K b tb δ1 R else R (.d (.bool false)) δ1) : De K b (tAndV ta tb) δ R :=
  fun B F H σ S Q q => h B F H σ S _ fun v F1 H1 x δ1 r1 S1 e1 v1 => by
    obtain ⟨c, rfl, k⟩ := r1
    cases v1
    refine ⟨c, rfl, ?_⟩
    cases c with
    | true =>
      show tb σ H1 Q
      exact k B F1 H1 σ S1 Q fun v F2 H2 a δ2 r2 S2 e2 => q v F2 H2 a δ2 r2 S2 (e1.trans e2)
    | false =>
      show Q (.bl false) H1
      exact q _ F1 H1 _ δ1 k S1 e1 (.bl _)
theorem de_orV (h : De K b ta δ fun x δ1 => ∃ c, x = .d (.bool c) ∧ if c = true then R (.d (.bool true)) δ1 else De K b tb δ1 R) : De K b (tOrV ta tb) δ R :=
  fun B F H σ S Q q => h B F H σ S _ fun v F1 H1 x δ1 r1 S1 e1 v1 => by
    obtain ⟨c, rfl, k⟩ := r1
    cases v1
    refine ⟨c, rfl, ?_⟩
    cases c with
    | true =>
      show Q (.bl true) H1
      exact q _ F1 H1 _ δ1 k S1 e1 (.bl _)
    | false =>
      show tb σ H1 Q
      exact k B F1 H1 σ S1 Q fun v F2 H2 a δ2 r2 S2 e2 => q v F2 H2 a δ2 r2 S2 (e1.trans e2)
theorem de_notV (h : De K b ta δ fun x δ1 => ∃ c, x = .d (.bool c) ∧ R (.d (.bool (!c))) δ1) : De K b (tNotV ta) δ R :=
  fun B F H σ S Q q => h B F H σ S _ fun v F1 H1 x δ1 r1 S1 e1 v1 => by
    obtain ⟨c, rfl, k⟩ := r1
    cases v1
    exact ⟨c, rfl, q _ F1 H1 _ δ1 k S1 e1 (.bl _)⟩

/-! ### arguments, displays -/
theorem da_nil {R : List PyData → LS → Prop} (k : R [] δ) : Da K b tNil δ R := fun B F H σ S Q q => q [] F H [] δ k S Kp.rfl' .nil
theorem da_cons {tr : TA} {R : List PyData → LS → Prop} (h : De K b te δ (toD fun x δ1 => Da K b tr δ1 fun xs δ2 => R (x :: xs) δ2)) : Da K b (tCons te tr) δ R :=
  fun B F H σ S Q q => (dd_of h) B F H σ S _ fun v F1 H1 x δ1 r1 S1 e1 v1 => r1 B F1 H1 σ S1 _ fun vs F2 H2 ds δ2 r2 S2 e2 v2 => q _ F2 H2 _ δ2 r2 S2 (e1.trans e2) (.cons (Dp.mono e2.ex v1) v2)
theorem sz_of {n : Nat} (h : n ≤ 100000) : n ≤ sizeLine := Nat.le_trans h (by decide)
theorem sz_lt {n : Nat} (h : n < 100000) : n < sizeLine := Nat.lt_of_lt_of_le h (by decide)
/-- the two lines of a new tuple -/
theorem Stt.newT {B : Base} {F H : Hp} {σ : L2.St} (S : Stt K b B F H σ δ) {p : Addr} {xs : List V} {ds : List PyData} (hp : H p = none) (h : DpAll K F xs ds) :
    Stt K b B (upd F p (.tup xs)) (upd H p (.tup xs)) σ δ ∧ Kp b σ δ F H δ (upd F p (.tup xs)) (upd H p (.tup xs)) ∧ Dp K (upd F p (.tup xs)) (.ref p) (.tuple ds) := by
  have g : Gr none F H (upd F p (.tup xs)) (upd H p (.tup xs)) := Gr.new S.sub hp
  exact ⟨S.step g, Kp.gr g S.sub, .tup (.inl (.inl upd_same)) (DpAll.mono g.ex h)⟩
theorem de_tup {tr : TA} (h : Da K b tr δ fun ds δ1 => ds.length ≤ 100000 ∧ R (.d (.tuple ds)) δ1) : De K b (tTup tr) δ R :=
  fun B F H σ S Q q => h B F H σ S _ fun vs F1 H1 ds δ1 r1 S1 e1 v1 => by
    obtain ⟨hl, k⟩ := r1
    refine ⟨sz_of (by rw [DpAll.length v1]; exact hl), fun p hp => ?_⟩
    obtain ⟨S2, e2, d2⟩ := S1.newT hp v1
    exact q _ _ _ _ δ1 k S2 (e1.trans e2) d2
/-- a new list's lines -/
theorem Stt.newL {B : Base} {F H : Hp} {σ : L2.St} (S : Stt K b B F H σ δ) {p : Addr} {xs : List V} {ds : List PyData} (hp : H p = none) (h : DpAll K F xs ds) :
    Stt K b B F (upd H p (.lst xs)) σ δ ∧ Kp b σ δ F H δ F (upd H p (.lst xs)) ∧ New K B F (upd H p (.lst xs)) σ δ p xs ds := by
  have hf : F p = none := S.sub.back hp
  have g : Gr none F H F (upd H p (.lst xs)) := Gr.newH S.sub hp
  refine ⟨S.step g, Kp.gr g S.sub, upd_same, hf, ?_, fun i s hs mt hq => ?_, h⟩
  · cases q : B.H p with
    | none => rfl
    | some o =>
      cases r : B.F p with
      | none => 
        obtain ⟨_, _, o', z⟩ := S.gr.keep p o r q
        rw [hp] at z; cases z
      | some u =>
        have := S.gr.sub p u (S.gr.ex p u r)
        rw [hp] at this; cases this
  · have x := S.ok i s hs
    cases s with
    | no => cases mt
    | dat d => cases mt
    | own ds => obtain ⟨a, _, h1, h2, _⟩ := x; rw [hq] at h1; cases h1; rw [hp] at h2; cases h2
    | dic ds => obtain ⟨a, _, h1, h2, _⟩ := x; rw [hq] at h1; cases h1; rw [hp] at h2; cases h2
    | dit ds => obtain ⟨a, _, h1, h2, _⟩ := x; rw [hq] at h1; cases h1; rw [hp] at h2; cases h2
    | pown ds => obtain ⟨a, _, h1, h2, _⟩ := x; rw [hq] at h1; cases h1; rw [hp] at h2; cases h2
    | pool => obtain ⟨a, h1, _, _, _, _, _, _, _, _, h2, _⟩ := x; rw [hq] at h1; cases h1; rw [hp] at h2; cases h2
theorem dn_lst {tr : TA} {R : List PyData → LS → Prop} (h : Da K b tr δ fun ds δ1 => ds.length ≤ 100000 ∧ R ds δ1) : Dn K b (tLst tr) δ R :=
  fun B F H σ S Q q => h B F H σ S _ fun vs F1 H1 ds δ1 r1 S1 e1 v1 => by
    obtain ⟨hl, k⟩ := r1
    refine ⟨sz_of (by rw [DpAll.length v1]; exact hl), fun p hp => ?_⟩
    obtain ⟨S2, e2, N⟩ := S1.newL hp v1
    exact q p vs F1 _ ds δ1 k S2 (e1.trans e2) (e1.there p hp) N

/-! ### calls of defs -/
/-- a def upon data: φ ds k, what is asked of the arguments so that each answer keeps k -/
def spP (K : Fg) (T : Addr → Prop) (φ : List PyData → (PyData → Prop) → Prop) : Sp := fun vs H Q _ => ∃ (F : Hp) (ds : List PyData) (k : PyData → Prop), Ex F H ∧ (∀ P, T P → GxR.TabG H P ∧ F P = none) ∧ DpAll K F vs ds ∧ φ ds k ∧ ∀ v F2 H2 d, k d → Gr none F H F2 H2 → Dp K F2 v d → Q v H2
theorem de_call {φ : List PyData → (PyData → Prop) → Prop} {E : XK} {tr : TA} (h : Da K b tr δ fun ds δ1 => φ ds fun d => R (.d d) δ1) : De K b (tCall (spP K b.T φ) [] E tr) δ R :=
  fun B F H σ S Q q => h B F H σ S _ fun vs F1 H1 ds δ1 r1 S1 e1 v1 => by
    refine ⟨F1, ds, _, S1.sub, S1.tb, (by rw [List.append_nil]; exact v1), r1, fun v F2 H2 d hd g dp => ?_⟩
    exact q v F2 H2 _ δ1 hd (S1.step g) (e1.trans (Kp.gr g S1.sub)) dp
/-- a def whose first argument is the law's pool -/
def spPP (K : Fg) (T : Addr → Prop) (φ : List PyData → (PyData → Prop) → Prop) : Sp := fun vs H Q _ => ∃ (F : Hp) (p : Addr) (vs' : List V) (ds : List PyData) (k : PyData → Prop), Ex F H ∧ (∀ P, T P → GxR.TabG H P ∧ F P = none) ∧ vs = .ref p :: vs' ∧ PoolAt K F H p ∧ DpAll K F vs' ds ∧ φ ds k ∧
  ∀ v F2 H2 d, k d → Gr (some p) F H F2 H2 → (∀ q o, H q = some o → q ≠ p → ∃ o', H2 q = some o' ∧ Kept o o') → PoolAt K F2 H2 p → Dp K F2 v d → Q v H2
theorem pth {b : Option Addr} {F H F2 H2 : Hp} (e : Ex F H) (g : Gr b F H F2 H2) (q : Addr) (z : H2 q = none) : H q = none := by
  cases y : H q with
  | none => rfl
  | some o =>
    cases x : F q with
    | none =>
      obtain ⟨_, _, o', w⟩ := g.keep q o x y
      rw [z] at w; cases w
    | some u =>
      have := g.sub q u (g.ex q u x)
      rw [z] at this; cases this
theorem de_callP {φ : List PyData → (PyData → Prop) → Prop} {E : XK} {tr : TA} {i : Nat} (hi : δ[i]? = some .pool) (h : Da K b tr δ fun ds δ1 => δ1[i]? = some .pool ∧ φ ds fun d => R (.d d) δ1) :
    De K b (tCall (spPP K b.T φ) [] E (tCons (tVar i) tr)) δ R := fun B F H σ S Q q => by
  obtain ⟨p, h1, h2, h3⟩ := S.ok i _ hi
  refine ⟨.ref p, slot_some h1, h B F H σ S _ fun vs F1 H1 ds δ1 r1 S1 e1 v1 => ?_⟩
  obtain ⟨hp, k⟩ := r1
  obtain ⟨p', g1, g2, g3⟩ := S1.ok i _ hp
  have : some (V.ref p') = some (V.ref p) := g1.symm.trans h1
  cases this
  refine ⟨F1, p, vs, ds, _, S1.sub, S1.tb, (by rw [List.append_nil]), g3, v1, k, fun v F2 H2 d hd g ot pa dp => ?_⟩
  refine q v F2 H2 _ δ1 hd ⟨g.sub, ?_, S1.len, fun j s hs => ?_, S1.ap, fun q hq z => S1.bb q hq (pth S1.sub g q z), fun P hP => ?_⟩ (e1.trans ⟨g.ex, fun _ h => h, fun q' o z1 z2 _ z4 => ⟨(g.keep q' o z1 z2).1, ot q' o z2 (fun z => z4 (by rw [h2, z]))⟩, fun q' z => pth S1.sub g q' z⟩) dp
  · have g' := g
    rw [← h2] at g'
    exact S1.gr.trans g'
  · by_cases c : s.mut = true ∧ slot σ j = some (.ref p)
    · by_cases e : j = i
      · subst e
        rw [hp] at hs
        cases hs
        exact ⟨p, g1, h2, pa⟩
      · exact absurd g1 (S1.ap j i s _ p e hs hp c.1 rfl c.2)
    · refine (S1.ok j s hs).mono g.ex fun q' u mt hq z1 z2 => ?_
      have ne : q' ≠ p := by
        rintro rfl
        exact c ⟨mt, hq⟩
      exact ⟨(g.keep q' u z1 z2).1, ot q' u z2 ne⟩
  · obtain ⟨t1, t2⟩ := S1.tb P hP
    obtain ⟨ps, t3, t4⟩ := id t1
    have ne : P ≠ p := by
      rintro rfl
      obtain ⟨_, _, _, _, _, _, _, g4, _⟩ := g3
      rw [t3] at g4; cases g4
    exact ⟨TabG.kept t1 fun o ho => ot P o ho ne, (g.keep P _ t2 t3).1⟩
def φ_law_draw (ds : List PyData) (k : PyData → Prop) : Prop := ∃ m : Int, ds = [.int m] ∧ 0 < m ∧ m.natAbs < 2 ^ 200 ∧ ∀ r : Int, 0 ≤ r → r < m → k (.int r)

/-! ### built-ins -/
def rLenS (K : Fg) : List V → Hp → VK → Prop := fun xs H Q => ∃ p ys, xs = [.ref p] ∧ (SqL K H p ys ∨ SqT K H p ys) ∧ Q (.int ys.length) H
theorem cr_len {X : Cx} : CallR X (.builtin "len") (rLenS X.K) := call_len_seq
theorem de_len (h : De K b te δ fun a δ1 => ∃ xs, seqIn a δ1 xs ∧ R (.d (.int (xs.length : Int))) δ1) : De K b (tCB (rLenS K) (tCons te tNil)) δ R :=
  fun B F H σ S Q q => h B F H σ S _ fun v F1 H1 x δ1 r1 S1 e1 v1 => by
    obtain ⟨ds, h1, k⟩ := r1
    obtain ⟨p, xs, rfl, h3, h4⟩ := h1.get S1 v1
    refine ⟨p, xs, rfl, h3, ?_⟩
    rw [DpAll.length h4]
    exact q _ F1 H1 _ δ1 k S1 e1 (.int _)
def rInt1 : List V → Hp → VK → Prop := fun xs H Q => (∃ i, xs = [.int i] ∧ Q (.int i) H) ∨ ∃ k, xs = [.bl k] ∧ Q (.int (if k then 1 else 0)) H
theorem cr_int {X : Cx} : CallR X (.type "int") rInt1 := call_int1
theorem de_int (h : De K b te δ fun a δ1 => ∃ n, a = .d (.int n) ∧ R (.d (.int n)) δ1) : De K b (tCB rInt1 (tCons te tNil)) δ R :=
  fun B F H σ S Q q => h B F H σ S _ fun v F1 H1 x δ1 r1 S1 e1 v1 => by
    obtain ⟨n, rfl, k⟩ := r1
    cases v1
    exact .inl ⟨n, rfl, q _ F1 H1 _ δ1 k S1 e1 (.int _)⟩
def rAbs : List V → Hp → VK → Prop := fun xs H Q => ∃ i, xs = [.int i] ∧ Q (.int (if i < 0 then -i else i)) H
theorem cr_abs {X : Cx} : CallR X (.builtin "abs") rAbs := call_abs
theorem de_abs (h : De K b te δ fun a δ1 => ∃ n, a = .d (.int n) ∧ R (.d (.int (n.natAbs : Int))) δ1) : De K b (tCB rAbs (tCons te tNil)) δ R :=
  fun B F H σ S Q q => h B F H σ S _ fun v F1 H1 x δ1 r1 S1 e1 v1 => by
    obtain ⟨n, rfl, k⟩ := r1
    cases v1
    refine ⟨n, rfl, ?_⟩
    have e : (if n < 0 then -n else n) = (n.natAbs : Int) := by split <;> omega
    rw [e]
    exact q _ F1 H1 _ δ1 k S1 e1 (.int _)
def gcdI (a b : Int) : Int := ((Nat.gcd a.natAbs b.natAbs : Nat) : Int)
theorem de_gcd (h : De K b ta δ fun x δ1 => De K b tb δ1 fun y δ2 => ∃ n, x = .d (.int n) ∧ ∃ m, y = .d (.int m) ∧ R (.d (.int (gcdI n m))) δ2) : De K b (tCB rGcd (tCons ta (tCons tb tNil))) δ R :=
  fun B F H σ S Q q => h B F H σ S _ fun v F1 H1 x δ1 r1 S1 e1 v1 => r1 B F1 H1 σ S1 _ fun w F2 H2 y δ2 r2 S2 e2 v2 => by
    obtain ⟨n, rfl, m, rfl, k⟩ := r2
    cases v1; cases v2
    exact ⟨n, m, rfl, q _ F2 H2 _ δ2 k S2 (e1.trans e2) (.int _)⟩
def rMin2 : List V → Hp → VK → Prop := fun xs H Q => ∃ i j, xs = [.int i, .int j] ∧ Q (.int (if j < i then j else i)) H
def rMax2 : List V → Hp → VK → Prop := fun xs H Q => ∃ i j, xs = [.int i, .int j] ∧ Q (.int (if j > i then j else i)) H
theorem cr_min2 {X : Cx} (hc : X.calm = true) : CallR X (.builtin "min") rMin2 := call_min2 hc
theorem cr_max2 {X : Cx} (hc : X.calm = true) : CallR X (.builtin "max") rMax2 := call_max2 hc
theorem de_min2 (h : De K b ta δ fun x δ1 => De K b tb δ1 fun y δ2 => ∃ n, x = .d (.int n) ∧ ∃ m, y = .d (.int m) ∧ R (.d (.int (min n m))) δ2) : De K b (tCB rMin2 (tCons ta (tCons tb tNil))) δ R :=
  fun B F H σ S Q q => h B F H σ S _ fun v F1 H1 x δ1 r1 S1 e1 v1 => r1 B F1 H1 σ S1 _ fun w F2 H2 y δ2 r2 S2 e2 v2 => by
    obtain ⟨n, rfl, m, rfl, k⟩ := r2
    cases v1; cases v2
    refine ⟨n, m, rfl, ?_⟩
    have e : (if m < n then m else n) = min n m := by split <;> omega
    rw [e]
    exact q _ F2 H2 _ δ2 k S2 (e1.trans e2) (.int _)
theorem de_max2 (h : De K b ta δ fun x δ1 => De K b tb δ1 fun y δ2 => ∃ n, x = .d (.int n) ∧ ∃ m, y = .d (.int m) ∧ R (.d (.int (max n m))) δ2) : De K b (tCB rMax2 (tCons ta (tCons tb tNil))) δ R :=
  fun B F H σ S Q q => h B F H σ S _ fun v F1 H1 x δ1 r1 S1 e1 v1 => r1 B F1 H1 σ S1 _ fun w F2 H2 y δ2 r2 S2 e2 v2 => by
    obtain ⟨n, rfl, m, rfl, k⟩ := r2
    cases v1; cases v2
    refine ⟨n, m, rfl, ?_⟩
    have e : (if m > n then m else n) = max n m := by split <;> omega
    rw [e]
    exact q _ F2 H2 _ δ2 k S2 (e1.trans e2) (.int _)
theorem de_sum (h : De K b te δ fun a δ1 => ∃ ns : List Int, lstIn a δ1 (ns.map PyData.int) ∧ R (.d (.int ns.sum)) δ1) : De K b (tCB (rSum K) (tCons te tNil)) δ R :=
  fun B F H σ S Q q => h B F H σ S _ fun v F1 H1 x δ1 r1 S1 e1 v1 => by
    obtain ⟨ns, h1, k⟩ := r1
    obtain ⟨p, xs, rfl, h3, h4⟩ := h1.get S1 v1
    have e := DpAll.ints_eq h4
    subst e
    exact ⟨p, ns, rfl, h3, q _ F1 H1 _ δ1 k S1 e1 (.int _)⟩
/-- list(xs): a new list -/
def rListS (K : Fg) : List V → Hp → VK → Prop := fun xs H Q => ∃ p ys, xs = [.ref p] ∧ (SqL K H p ys ∨ SqT K H p ys) ∧ ∀ l, H l = none → Q (.ref l) (upd H l (.lst ys))
theorem cr_list {X : Cx} : CallR X (.type "list") (rListS X.K) := call_list_of
theorem dn_list {R : List PyData → LS → Prop} (h : De K b te δ fun a δ1 => ∃ xs, seqIn a δ1 xs ∧ R xs δ1) : Dn K b (tCB (rListS K) (tCons te tNil)) δ R :=
  fun B F H σ S Q q => h B F H σ S _ fun v F1 H1 x δ1 r1 S1 e1 v1 => by
    obtain ⟨ds, h1, k⟩ := r1
    obtain ⟨p, xs, rfl, h3, h4⟩ := h1.get S1 v1
    refine ⟨p, xs, rfl, h3, fun l hl => ?_⟩
    obtain ⟨S2, e2, N⟩ := S1.newL hl h4
    exact q l xs F1 _ ds δ1 k S2 (e1.trans e2) (e1.there l hl) N
/-- tuple(xs) -/
def rTupS (K : Fg) : List V → Hp → VK → Prop := fun xs H Q => ∃ p ys, xs = [.ref p] ∧ ((SqL K H p ys ∧ ∀ l, H l = none → Q (.ref l) (upd H l (.tup ys))) ∨ (SqT K H p ys ∧ Q (.ref p) H))
theorem cr_tup {X : Cx} : CallR X (.type "tuple") (rTupS X.K) := call_tuple_of
theorem de_tupOf (h : De K b te δ fun a δ1 => ∃ xs, lstIn a δ1 xs ∧ R (.d (.tuple xs)) δ1) : De K b (tCB (rTupS K) (tCons te tNil)) δ R :=
  fun B F H σ S Q q => h B F H σ S _ fun v F1 H1 x δ1 r1 S1 e1 v1 => by
    obtain ⟨ds, h1, k⟩ := r1
    obtain ⟨p, xs, rfl, h3, h4⟩ := h1.get S1 v1
    refine ⟨p, xs, rfl, .inl ⟨h3, fun l hl => ?_⟩⟩
    obtain ⟨S2, e2, d2⟩ := S1.newT hl h4
    exact q _ _ _ _ δ1 k S2 (e1.trans e2) d2
end
end Ab

set_option Elab.async false
set_option linter.all false
set_option maxRecDepth 100000
set_option maxHeartbeats 2000000
namespace Ab
open PySem PySem.Spec PyProof.Rows L2
section
variable {K : Fg} {b : Bp} {δ : LS} {te ta tb tc : TE} {t u : TT} {P : Po} {ts tu tw tz : TS} {g : TG}

/-! ### statements -/
theorem ds_seq (h : Ds K b ts δ { P with nx := fun δ' => Ds K b tu δ' P }) : Ds K b (tSeq ts tu) δ P := fun B F H σ D S E =>
  h B F H σ { D with nx := tu D } S ⟨fun F2 H2 σ2 δ2 h2 S2 e => h2 B F2 H2 σ2 D S2 (E.mono e), E.rt, E.bk, E.ct, E.rn, E.rs⟩
theorem ds_next (h : P.nx δ) : Ds K b tNext δ P := fun B F H σ D S E => E.nx F H σ δ h S (Ex.refl F)
theorem ds_brk (h : P.bk δ) : Ds K b tBreak δ P := fun B F H σ D S E => E.bk F H σ δ h S (Ex.refl F)
theorem ds_cont (h : P.ct δ) : Ds K b tCont δ P := fun B F H σ D S E => E.ct F H σ δ h S (Ex.refl F)
theorem ds_ret (h : De K b te δ (toD fun d _ => P.rt d)) : Ds K b (tRet te) δ P := fun B F H σ D S E =>
  (dd_of h) B F H σ S _ fun v F2 H2 d δ2 r S2 e dp => E.rt v F2 H2 d r S2.gr dp
theorem ds_retF (h : Dn K b te δ fun ds _ => P.rn ds) : Ds K b (tRet te) δ P := fun B F H σ D S E =>
  h B F H σ S _ fun p xs F2 H2 ds δ2 r S2 e _ N => E.rn p xs F2 H2 σ δ2 ds r S2 N
theorem ds_retS (h : De K b te δ (toD fun d δ1 => P.rs d δ1)) : Ds K b (tRet te) δ P := fun B F H σ D S E =>
  (dd_of h) B F H σ S _ fun v F2 H2 d δ2 r S2 e dp => E.rs v F2 H2 d σ δ2 r S2 dp
theorem ds_retN (h : P.rt .none) : Ds K b tRetN δ P := fun B F H σ D S E => E.rt .non F H .none h S.gr .non
theorem ds_if (h : Dt K b t δ fun c δ1 => if c = true then Ds K b tu δ1 P else Ds K b tw δ1 P) : Ds K b (tIfS t tu tw) δ P := fun B F H σ D S E =>
  h B F H σ S _ fun c F1 H1 δ1 r1 S1 e1 => by
    cases c with
    | true =>
      show tu D σ H1
      exact r1 B F1 H1 σ D S1 (E.mono e1.ex)
    | false =>
      show tw D σ H1
      exact r1 B F1 H1 σ D S1 (E.mono e1.ex)
theorem ds_drop (h : De K b te δ fun _ δ1 => P.nx δ1) : Ds K b (tDrop te) δ P := fun B F H σ D S E =>
  h B F H σ S _ fun v F1 H1 x δ1 r1 S1 e1 v1 => E.nx F1 H1 σ δ1 r1 S1 e1.ex
/-! ### targets -/
theorem own_set {σ : L2.St} {i : Nat} {v : V} {d : PyData} (hl : σ.length = δ.length) {p : Addr} (h : Own (σ.set i (some v)) (δ.set i (.dat d)) p) : Own σ δ p := by
  obtain ⟨k, s, h1, h2, h3⟩ := h
  by_cases e : i = k
  · subst e
    have hi : i < δ.length := by
      have := lt_of_get h1
      rwa [List.length_set] at this
    rw [List.getElem?_set_self hi] at h1
    cases h1; cases h2
  · rw [List.getElem?_set_ne e] at h1
    rw [slot_set_ne e] at h3
    exact ⟨k, s, h1, h2, h3⟩
theorem dg_name {i : Nat} {x : PyData} {R : LS → Prop} (h : R (δ.set i (.dat x))) : Dg K b (gName i) x δ R := fun B F H σ v S dp Q q =>
  q _ _ h (S.setD dp) (fun p hp => own_set S.len hp)
theorem dgs_nil {R : LS → Prop} (h : R δ) : Dgs K b gNil [] δ R := fun B F H σ vs S dp Q q => by
  cases dp
  exact ⟨rfl, q σ δ h S (fun _ h => h)⟩
theorem dgs_cons {gs : TGs} {x : PyData} {xs : List PyData} {R : LS → Prop} (h : Dg K b g x δ fun δ1 => Dgs K b gs xs δ1 R) : Dgs K b (gCons g gs) (x :: xs) δ R := fun B F H σ vs S dp Q q => by
  cases dp with
  | cons d1 d2 => exact ⟨_, _, rfl, h B F H σ _ S d1 _ fun σ2 δ2 r S2 e => r B F H σ2 _ S2 d2 Q fun σ3 δ3 r3 S3 e3 => q σ3 δ3 r3 S3 (fun p hp => e p (e3 p hp))⟩
theorem dg_tup {gs : TGs} {n : Nat} {xs : List PyData} {R : LS → Prop} (hn : xs.length = n) (h : Dgs K b gs xs δ R) : Dg K b (gTup K n gs) (.tuple xs) δ R := fun B F H σ v S dp Q q => by
  cases dp with
  | tup h1 h2 => exact ⟨_, _, rfl, S.sub.t h1, (DpAll.length h2).trans hn, h B F H σ _ S h2 Q q⟩
theorem ds_asg (h : De K b te δ (toD fun x δ1 => Dg K b g x δ1 P.nx)) : Ds K b (tAsg te g) δ P := fun B F H σ D S E =>
  (dd_of h) B F H σ S _ fun v F1 H1 x δ1 r1 S1 e1 v1 => r1 B F1 H1 σ v S1 v1 _ fun σ2 δ2 r2 S2 _ => E.nx F1 H1 σ2 δ2 r2 S2 e1.ex
/-- a new list, kept as one's own -/
theorem Stt.setN {B : Base} {F H : Hp} {σ : L2.St} {p : Addr} {xs : List V} {ds : List PyData} (S : Stt K b B F H σ δ) (N : New K B F H σ δ p xs ds) (i : Nat) : Stt K b B F H (σ.set i (some (.ref p))) (δ.set i (.own ds)) :=
  S.set (fun _ => ⟨p, xs, rfl, N.h, N.f, N.b, N.all⟩) (.inr fun j sj q _ hj mj hq => by
    cases hq
    exact N.ap j sj hj mj)
theorem ds_own {i : Nat} (h : Dn K b te δ fun ds δ1 => P.nx (δ1.set i (.own ds))) : Ds K b (tAsg te (gName i)) δ P := fun B F H σ D S E =>
  h B F H σ S _ fun p xs F1 H1 ds δ1 r1 S1 e1 _ N => E.nx F1 H1 _ _ r1 (S1.setN N i) e1.ex
/-- x = y, a list of one's own: it moves -/
theorem ds_move {i j : Nat} {ds : List PyData} (hij : i ≠ j) (hj : δ[j]? = some (.own ds)) (h : P.nx ((δ.set j .no).set i (.own ds))) : Ds K b (tAsg (tVar j) (gName i)) δ P := fun B F H σ D S E => by
  obtain ⟨p, xs, h1, h2, h3, h4, h5⟩ := S.own hj
  refine ⟨.ref p, h1, E.nx F H _ _ h ?_ (Ex.refl F)⟩
  have S1 : Stt K b B F H (σ.set j (some (.ref p))) (δ.set j .no) := S.set (fun _ => trivial) (.inl rfl)
  have e : σ.set j (some (.ref p)) = σ := by
    apply List.ext_getElem?
    intro k
    by_cases c : j = k
    · subst c
      rw [List.getElem?_set_self (lt_of_get h1), h1]
    · rw [List.getElem?_set_ne c]
  rw [e] at S1
  refine S1.set (fun _ => ⟨p, xs, rfl, h2, h3, h4, h5⟩) (.inr fun k sk q hk hs mk hq => ?_)
  cases hq
  by_cases c : j = k
  · subst c
    rw [List.getElem?_set_self (lt_of_get hj)] at hs
    cases hs; cases mk
  · rw [List.getElem?_set_ne c] at hs
    exact S.ap j k _ sk p c hj hs rfl mk (slot_of h1)
/-- a, b = x, y -/
theorem ds_par {i j : Nat} {tr : TA} (h : Da K b tr δ fun ds δ1 => ∃ x y, ds = [x, y] ∧ P.nx ((δ1.set i (.dat x)).set j (.dat y))) : Ds K b (tPar i j tr) δ P := fun B F H σ D S E =>
  h B F H σ S _ fun vs F1 H1 ds δ1 r1 S1 e1 v1 => by
    obtain ⟨x, y, rfl, k⟩ := r1
    cases v1 with
    | cons d1 d2 => cases d2 with
      | cons d2 d3 =>
        cases d3
        exact ⟨_, _, rfl, E.nx F1 H1 _ _ k ((S1.setD d1).setD d2) e1.ex⟩
/-- x op= e of ints -/
theorem ds_aug {i : Nat} {f : Int → Int → Int} {n : Int} (hx : δ[i]? = some (.dat (.int n))) (h : De K b te δ fun y δ1 => ∃ m, y = .d (.int m) ∧ P.nx (δ1.set i (.dat (.int (f n m))))) : Ds K b (tAug i te (ipI f)) δ P := fun B F H σ D S E => by
  obtain ⟨v, h1, h2⟩ := S.dat hx
  cases h2
  refine ⟨_, h1, h B F H σ S _ fun w F1 H1 y δ1 r1 S1 e1 v1 => ?_⟩
  obtain ⟨m, rfl, k⟩ := r1
  cases v1
  exact ⟨n, m, rfl, rfl, E.nx F1 H1 _ _ k (S1.setD (.int _)) e1.ex⟩
def ipC (C : Int → Int → Prop) (f : Int → Int → Int) : TIp := fun x y H Q => ∃ i j, x = .int i ∧ y = .int j ∧ C i j ∧ Q (.int (f i j)) H
theorem ip_mul {X : Cx} : PIp X .Mult (ipC CMulW fun i j => i * j) := by
  intro pins s σ H x y v u Q I r1 r2 h
  obtain ⟨i, j, e1, e2, hc, q⟩ := h
  subst e1; subst e2
  obtain ⟨t, rfl⟩ := r1
  obtain ⟨t', rfl⟩ := r2
  exact imul_int ⟨.int _, H, I.tok _, ⟨_, rfl⟩, q⟩ hc.ok
theorem ip_fdiv {X : Cx} : PIp X .FloorDiv (ipC CDivW fun i j => i / j) := by
  intro pins s σ H x y v u Q I r1 r2 h
  obtain ⟨i, j, e1, e2, hc, q⟩ := h
  subst e1; subst e2
  obtain ⟨t, rfl⟩ := r1
  obtain ⟨t', rfl⟩ := r2
  have h1 : (0 : Int) < j := hc.1
  have q' : EP X pins σ Q (.int (i.fdiv j) s.toks) { s with toks := s.toks + 1 } := by
    rw [Int.fdiv_eq_ediv_of_nonneg i (by omega)]
    exact ⟨.int _, H, I.tok _, ⟨_, rfl⟩, q⟩
  exact ifloordiv_int (by omega) q' (.inl (PyProof.noPylong_of_log2 hc.2))
theorem ip_mod {X : Cx} : PIp X .Mod (ipC (fun _ j => 0 < j) fun i j => i % j) := by
  intro pins s σ H x y v u Q I r1 r2 h
  obtain ⟨i, j, e1, e2, hc, q⟩ := h
  subst e1; subst e2
  obtain ⟨t, rfl⟩ := r1
  obtain ⟨t', rfl⟩ := r2
  have h1 : (0 : Int) < j := hc
  exact imod_int (by omega) (by rw [Int.fmod_eq_emod_of_nonneg i (by omega)]; exact ⟨.int _, H, I.tok _, ⟨_, rfl⟩, q⟩)
theorem ds_augC {i : Nat} {C : Int → Int → Prop} {f : Int → Int → Int} {n : Int} (hx : δ[i]? = some (.dat (.int n))) (h : De K b te δ fun y δ1 => ∃ m, y = .d (.int m) ∧ C n m ∧ P.nx (δ1.set i (.dat (.int (f n m))))) : Ds K b (tAug i te (ipC C f)) δ P := fun B F H σ D S E => by
  obtain ⟨v, h1, h2⟩ := S.dat hx
  cases h2
  refine ⟨_, h1, h B F H σ S _ fun w F1 H1 y δ1 r1 S1 e1 v1 => ?_⟩
  obtain ⟨m, rfl, c, k⟩ := r1
  cases v1
  exact ⟨n, m, rfl, rfl, c, E.nx F1 H1 _ _ k (S1.setD (.int _)) e1.ex⟩
/-- xs.append(e), xs one's own -/
theorem Stt.wrL {B : Base} {F H : Hp} {σ : L2.St} (S : Stt K b B F H σ δ) {i : Nat} {ds es : List PyData} {ys : List V} (h : δ[i]? = some (.own ds)) (a : DpAll K F ys es) :
    ∃ p xs, σ[i]? = some (some (.ref p)) ∧ H p = some (.lst xs) ∧ DpAll K F xs ds ∧ Stt K b B F (upd H p (.lst ys)) σ (δ.set i (.own es)) := by
  obtain ⟨p, xs, h1, h2, h3, h4, h5⟩ := S.own h
  exact ⟨p, xs, h1, h2, h5, S.wr h rfl (slot_of h1) h3 (.inl h4) ⟨_, h2⟩ (fun ps z => by rw [h2] at z; cases z) rfl ⟨p, ys, rfl, upd_same, h3, h4, a⟩⟩
theorem ds_app {i : Nat} (h : De K b te δ (toD fun d δ1 => ∃ ds, δ1[i]? = some (.own ds) ∧ ds.length < 100000 ∧ P.nx (δ1.set i (.own (ds ++ [d]))))) (ho : ∃ ds, δ[i]? = some (.own ds)) : Ds K b (tDrop (tBM K "list" rAppend (tVar i) (tCons te tNil))) δ P := fun B F H σ D S E => by
  obtain ⟨ds0, h0⟩ := ho
  obtain ⟨p, xs, h1, h2, _⟩ := S.own h0
  refine ⟨.ref p, h1, .inl ⟨rfl, xs, .inl (.inl h2)⟩, (dd_of h) B F H σ S _ fun v F1 H1 x δ1 r1 S1 e1 v1 => ?_⟩
  obtain ⟨ds, g1, g2, k⟩ := r1
  obtain ⟨p', xs', k1, k2, k3, k4, k5⟩ := S1.own g1
  have : some (some (V.ref p')) = some (some (V.ref p)) := k1.symm.trans h1
  cases this
  obtain ⟨_, _, q1, q2, _, S2⟩ := S1.wrL g1 (ys := xs' ++ [v]) (DpAll.append k5 (.cons v1 .nil))
  have : some (some (V.ref _)) = some (some (V.ref p)) := q1.symm.trans h1
  cases this
  exact ⟨p, xs', v, rfl, rfl, k2, sz_lt (by rw [DpAll.length k5]; exact g2), E.nx F1 _ σ _ k S2 e1.ex⟩
/-- xs[i] = e -/
theorem ixN_nat {n j : Nat} (hj : j < n) : ixN n (j : Int) = some j := by
  unfold ixN
  rw [if_pos (by omega), if_pos (by omega)]
  simp

theorem ds_setO {i j : Nat} {ti : TE} (ho : ∃ ds, δ[i]? = some (.own ds)) (h : De K b te δ (toD fun d δ1 => De K b ti δ1 fun y δ2 => ∃ ds, δ2[i]? = some (.own ds) ∧ ∃ j : Nat, y = .d (.int (j : Int)) ∧ j < ds.length ∧ P.nx (δ2.set i (.own (ds.set j d))))) : Ds K b (tAsg te (gSub (tVar i) ti rSetL)) δ P := fun B F H σ D S E =>
  (dd_of h) B F H σ S _ fun v F1 H1 x δ1 r1 S1 e1 v1 => by
    obtain ⟨ds0, h0⟩ := ho
    obtain ⟨p, _, h1, _⟩ := S.own h0
    refine ⟨.ref p, h1, r1 B F1 H1 σ S1 _ fun w F2 H2 y δ2 r2 S2 e2 v2 => ?_⟩
    obtain ⟨ds, g1, j, rfl, g2, k⟩ := r2
    cases v2
    obtain ⟨p', xs, q1, q2, q3, q4, q5⟩ := S2.own g1
    have : some (some (V.ref p')) = some (some (V.ref p)) := q1.symm.trans h1
    cases this
    refine ⟨p, xs, j, j, rfl, rfl, q2, ixN_nat (by rw [DpAll.length q5]; exact g2), ?_⟩
    refine E.nx F2 _ σ _ k ?_ (e1.trans e2).ex
    exact S2.wr g1 rfl (slot_of q1) q3 (.inl q4) ⟨_, q2⟩ (fun ps z => by rw [q2] at z; cases z) rfl ⟨p, _, rfl, upd_same, q3, q4, DpAll.set (Dp.mono e2.ex v1) j q5⟩
theorem ds_setP {i : Nat} {ti : TE} (ho : ∃ ds, δ[i]? = some (.pown ds)) (h : De K b te δ (toD fun d δ1 => De K b ti δ1 fun y δ2 => ∃ ds, δ2[i]? = some (.pown ds) ∧ ∃ j : Nat, y = .d (.int (j : Int)) ∧ j < ds.length ∧ P.nx (δ2.set i (.pown (ds.set j d))))) : Ds K b (tAsg te (gSub (tVar i) ti rSetL)) δ P := fun B F H σ D S E =>
  (dd_of h) B F H σ S _ fun v F1 H1 x δ1 r1 S1 e1 v1 => by
    obtain ⟨ds0, h0⟩ := ho
    obtain ⟨p, _, h1, _⟩ := S.pown h0
    refine ⟨.ref p, h1, r1 B F1 H1 σ S1 _ fun w F2 H2 y δ2 r2 S2 e2 v2 => ?_⟩
    obtain ⟨ds, g1, j, rfl, g2, k⟩ := r2
    cases v2
    obtain ⟨p', xs, q1, q2, q3, q4, q5⟩ := S2.pown g1
    have : some (some (V.ref p')) = some (some (V.ref p)) := q1.symm.trans h1
    cases this
    refine ⟨p, xs, j, j, rfl, rfl, q2, ixN_nat (by rw [DpAll.length q5]; exact g2), ?_⟩
    refine E.nx F2 _ σ _ k ?_ (e1.trans e2).ex
    exact S2.wr g1 rfl (slot_of q1) q3 (.inr q4) ⟨_, q2⟩ (fun ps z => by rw [q2] at z; cases z) rfl ⟨p, _, rfl, upd_same, q3, q4, DpAll.set (Dp.mono e2.ex v1) j q5⟩
/-! ### slices -/
def Do (K : Fg) (b : Bp) (to : TO) (δ : LS) (R : Option Int → LS → Prop) : Prop :=
  ∀ B F H σ, Stt K b B F H σ δ → ∀ Q : Option Int → Hp → Prop, (∀ o F2 H2 δ2, R o δ2 → Stt K b B F2 H2 σ δ2 → Kp b σ δ F H δ2 F2 H2 → Q o H2) → to σ H Q
theorem do_none {R : Option Int → LS → Prop} (k : R none δ) : Do K b tNoPart δ R := fun B F H σ S Q q => q none F H δ k S Kp.rfl'
theorem do_some {R : Option Int → LS → Prop} (h : De K b te δ fun a δ1 => ∃ n, a = .d (.int n) ∧ R (some n) δ1) : Do K b (tPart te) δ R := fun B F H σ S Q q =>
  h B F H σ S _ fun v F1 H1 x δ1 r1 S1 e1 v1 => by
    obtain ⟨n, rfl, k⟩ := r1
    cases v1
    exact ⟨n, rfl, q _ F1 H1 δ1 k S1 e1⟩
def cutD (xs : List PyData) (lo hi : Option Int) : List PyData := (xs.drop (HT.sIx xs.length 0 lo)).take (HT.sIx xs.length xs.length hi - HT.sIx xs.length 0 lo)
theorem cut_all {F : Hp} {xs : List V} {ds : List PyData} (h : DpAll K F xs ds) (lo hi : Option Int) : DpAll K F (cutV xs lo hi) (cutD ds lo hi) := by
  unfold cutV cutD
  rw [DpAll.length h]
  exact DpAll.take _ (DpAll.drop _ h)
theorem dn_sl {tl th : TO} {R : List PyData → LS → Prop} (h : De K b te δ fun a δ1 => Do K b tl δ1 fun lo δ2 => Do K b th δ2 fun hi δ3 => ∃ xs, lstIn a δ3 xs ∧ R (cutD xs lo hi) δ3) : Dn K b (tSl (rSlL K) te tl th) δ R := fun B F H σ S Q q =>
  h B F H σ S _ fun v F1 H1 x δ1 r1 S1 e1 v1 => r1 B F1 H1 σ S1 _ fun lo F2 H2 δ2 r2 S2 e2 => r2 B F2 H2 σ S2 _ fun hi F3 H3 δ3 r3 S3 e3 => by
    obtain ⟨ds, h1, k⟩ := r3
    obtain ⟨p, xs, rfl, h3, h4⟩ := h1.get S3 (VR.mono (e2.trans e3).ex v1)
    refine ⟨p, xs, rfl, h3, fun l hl => ?_⟩
    obtain ⟨S4, e4, N⟩ := S3.newL hl (cut_all h4 lo hi)
    exact q l _ F3 _ _ δ3 k S4 (((e1.trans e2).trans e3).trans e4) (((e1.trans e2).trans e3).there l hl) N
theorem de_slT {tl th : TO} {R : AV → LS → Prop} (h : De K b te δ (toD fun a δ1 => Do K b tl δ1 fun lo δ2 => Do K b th δ2 fun hi δ3 => ∃ xs, a = .tuple xs ∧ ¬ (HT.sIx xs.length 0 lo = 0 ∧ HT.sIx xs.length xs.length hi = xs.length) ∧ R (.d (.tuple (cutD xs lo hi))) δ3)) : De K b (tSl (rSlT K) te tl th) δ R := fun B F H σ S Q q =>
  (dd_of h) B F H σ S _ fun v F1 H1 x δ1 r1 S1 e1 v1 => r1 B F1 H1 σ S1 _ fun lo F2 H2 δ2 r2 S2 e2 => r2 B F2 H2 σ S2 _ fun hi F3 H3 δ3 r3 S3 e3 => by
    obtain ⟨ds, rfl, nw, k⟩ := r3
    cases v1 with
    | tup g1 g2 =>
      rename_i a xs
      refine ⟨a, xs, rfl, ((e2.trans e3).ex.trans S3.sub).t g1, by rw [DpAll.length g2]; exact nw, fun p hp => ?_⟩
      obtain ⟨S4, e4, d4⟩ := S3.newT hp (cut_all (DpAll.mono (e2.trans e3).ex g2) lo hi)
      exact q _ _ _ _ δ3 k S4 (((e1.trans e2).trans e3).trans e4) d4
/-! ### loops -/
theorem ds_while (W : Nat → LS → Prop) (h0 : ∃ m, W m δ) (hs : ∀ m δ', W m δ' → Dt K b t δ' fun c δ1 => if c = true then Ds K b ts δ1 { P with nx := fun δ2 => ∃ m', m' < m ∧ W m' δ2, ct := fun δ2 => ∃ m', m' < m ∧ W m' δ2, bk := P.nx } else P.nx δ1) : Ds K b (tWhile t ts) δ P := fun B F H σ D S E => by
  obtain ⟨m0, w0⟩ := h0
  refine ⟨fun m σ' H' => ∃ F' δ', Stt K b B F' H' σ' δ' ∧ Ex F F' ∧ W m δ', ⟨m0, F, δ, S, Ex.refl F, w0⟩, ?_⟩
  rintro m σ' H' ⟨F', δ', S', e', w'⟩
  refine hs m δ' w' B F' H' σ' S' _ fun c F1 H1 δ1 r1 S1 e1 => ?_
  cases c with
  | false => exact E.nx F1 H1 σ' δ1 r1 S1 (e'.trans e1.ex)
  | true =>
    refine ⟨_, fun _ _ z => z, ?_⟩
    have nx : ∀ F2 H2 σ2 δ2, (∃ m', m' < m ∧ W m' δ2) → Stt K b B F2 H2 σ2 δ2 → Ex F1 F2 → ∃ m', m' < m ∧ ∃ F' δ', Stt K b B F' H2 σ2 δ' ∧ Ex F F' ∧ W m' δ' := fun F2 H2 σ2 δ2 ⟨m', a1, a2⟩ S2 e2 => ⟨m', a1, F2, δ2, S2, (e'.trans e1.ex).trans e2, a2⟩
    exact r1 B F1 H1 σ' _ S1 ⟨nx, E.rt, fun F2 H2 σ2 δ2 h2 S2 e2 => E.nx F2 H2 σ2 δ2 h2 S2 ((e'.trans e1.ex).trans e2), nx, E.rn, E.rs⟩
/-- the turn of a for -/
def Turn1 (K : Fg) (b : Bp) (g : TG) (ts : TS) (P : Po) (n : Nat) (at_ : Nat → PyData) (δ : LS) (Pv : Nat → LS → Prop) : Prop :=
  Pv 0 δ ∧ (∀ i δ', i < n → Pv i δ' → Dg K b g (at_ i) δ' fun δ2 => Ds K b ts δ2 { P with nx := Pv (i + 1), ct := Pv (i + 1), bk := P.nx }) ∧ ∀ δ', Pv n δ' → P.nx δ'
theorem turn_run {n : Nat} {at_ : Nat → PyData} {Pv : Nat → LS → Prop} {B : Base} {F : Hp} {D : Ends} (T : ∀ i δ', i < n → Pv i δ' → Dg K b g (at_ i) δ' fun δ2 => Ds K b ts δ2 { P with nx := Pv (i + 1), ct := Pv (i + 1), bk := P.nx }) (E : EndsOk K b B F P D)
    {i : Nat} {x : V} {σ : L2.St} {H F' : Hp} {δ' : LS} (hi : i < n) (S : Stt K b B F' H σ δ') (e : Ex F F') (pv : Pv i δ') (dp : Dp K F' x (at_ i)) :
    g x σ H fun σ2 H2 => ts { D with nx := fun σ' H' => ∃ F' δ', Stt K b B F' H' σ' δ' ∧ Ex F F' ∧ Pv (i + 1) δ', ct := fun σ' H' => ∃ F' δ', Stt K b B F' H' σ' δ' ∧ Ex F F' ∧ Pv (i + 1) δ', bk := D.nx } σ2 H2 :=
  T i δ' hi pv B F' H σ x S dp _ fun σ2 δ2 r2 S2 _ => r2 B F' H σ2 _ S2
    ⟨fun F3 H3 σ3 δ3 a1 S3 e3 => ⟨F3, δ3, S3, e.trans e3, a1⟩, E.rt, fun F3 H3 σ3 δ3 a1 S3 e3 => E.nx F3 H3 σ3 δ3 a1 S3 (e.trans e3), fun F3 H3 σ3 δ3 a1 S3 e3 => ⟨F3, δ3, S3, e.trans e3, a1⟩, E.rn, E.rs⟩
/-- over data, a list -/
theorem ds_forL (Pv : List PyData → Nat → LS → Prop) (h : De K b te δ (toD fun x δ1 => ∃ xs, x = .list xs ∧ Turn1 K b g ts P xs.length (fun i => xs.getD i .none) δ1 (Pv xs))) : Ds K b (tFor (iList K te) g ts) δ P :=
  fun B F H σ D S E => (dd_of h) B F H σ S _ fun v F1 H1 x δ1 r1 S1 e1 v1 => by
    obtain ⟨ds, rfl, h0, hs, hd⟩ := r1
    cases v1 with
    | lst q1 q2 =>
      rename_i a xs
      refine ⟨a, rfl, ⟨xs, S1.sub.l q1⟩, for_list (xs := xs) (fun i σ' H' => ∃ F' δ', Stt K b B F' H' σ' δ' ∧ Ex F1 F' ∧ Pv ds i δ') ⟨F1, δ1, S1, Ex.refl F1, h0⟩ (fun i σ' H' _ ⟨F', δ', S', e', _⟩ => (e'.trans S'.sub).l q1) (fun i x σ' H' hx ⟨F', δ', S', e', pv⟩ => ?_) fun σ' H' ⟨F', δ', S', e', pv⟩ => ?_⟩
      · obtain ⟨d, hd1, hd2⟩ := DpAll.get' q2 hx
        refine turn_run hs (E.mono e1.ex) (lt_of_get hd1) S' e' pv ?_
        rw [List.getD_eq_getElem?_getD, hd1]
        exact Dp.mono e' hd2
      · rw [show xs.length = ds.length from DpAll.length q2] at pv
        exact E.nx F' H' σ' δ' (hd δ' pv) S' (e1.ex.trans e')
/-- over a tuple -/
theorem ds_forT (Pv : List PyData → Nat → LS → Prop) (h : De K b te δ (toD fun x δ1 => ∃ xs, x = .tuple xs ∧ Turn1 K b g ts P xs.length (fun i => xs.getD i .none) δ1 (Pv xs))) : Ds K b (tFor (iTup K te) g ts) δ P :=
  fun B F H σ D S E => (dd_of h) B F H σ S _ fun v F1 H1 x δ1 r1 S1 e1 v1 => by
    obtain ⟨ds, rfl, h0, hs, hd⟩ := r1
    cases v1 with
    | tup q1 q2 =>
      rename_i a xs
      refine ⟨a, rfl, ⟨xs, S1.sub.t q1⟩, for_tup (xs := xs) (fun i σ' H' => ∃ F' δ', Stt K b B F' H' σ' δ' ∧ Ex F1 F' ∧ Pv ds i δ') ⟨F1, δ1, S1, Ex.refl F1, h0⟩ (fun i σ' H' _ ⟨F', δ', S', e', _⟩ => (e'.trans S'.sub).t q1) (fun i x σ' H' hx ⟨F', δ', S', e', pv⟩ => ?_) fun σ' H' ⟨F', δ', S', e', pv⟩ => ?_⟩
      · obtain ⟨d, hd1, hd2⟩ := DpAll.get' q2 hx
        refine turn_run hs (E.mono e1.ex) (lt_of_get hd1) S' e' pv ?_
        rw [List.getD_eq_getElem?_getD, hd1]
        exact Dp.mono e' hd2
      · rw [show xs.length = ds.length from DpAll.length q2] at pv
        exact E.nx F' H' σ' δ' (hd δ' pv) S' (e1.ex.trans e')
/-- over range(n), range(a, n) -/
theorem ds_forR1 {tr : TA} (Pv : Int → Nat → LS → Prop) (h : Da K b tr δ fun ds δ1 => ∃ n, ds = [.int n] ∧ -(2 ^ 62) ≤ n ∧ n < 2 ^ 62 ∧ Turn1 K b g ts P n.toNat (fun i => .int (i : Int)) δ1 (Pv n)) : Ds K b (tFor (iRng1 tr) g ts) δ P :=
  fun B F H σ D S E => h B F H σ S _ fun vs F1 H1 ds δ1 r1 S1 e1 v1 => by
    obtain ⟨n, rfl, n1, n2, h0, hs, hd⟩ := r1
    cases v1 with
    | cons d1 d2 =>
      cases d2; cases d1
      refine ⟨n, rfl, n1, n2, for_range (lo := 0) (n := n.toNat) (fun i σ' H' => ∃ F' δ', Stt K b B F' H' σ' δ' ∧ Ex F1 F' ∧ Pv n i δ') ⟨F1, δ1, S1, Ex.refl F1, h0⟩ (fun i σ' H' hi ⟨F', δ', S', e', pv⟩ => ?_) fun σ' H' ⟨F', δ', S', e', pv⟩ => E.nx F' H' σ' δ' (hd δ' pv) S' (e1.ex.trans e')⟩
      rw [Int.zero_add]
      exact turn_run hs (E.mono e1.ex) hi S' e' pv (.int _)
theorem ds_forR2 {tr : TA} (Pv : Int → Int → Nat → LS → Prop) (h : Da K b tr δ fun ds δ1 => ∃ a n, ds = [.int a, .int n] ∧ (-(2 ^ 62) ≤ a ∧ a < 2 ^ 62 ∧ -(2 ^ 62) ≤ n ∧ n < 2 ^ 62) ∧ Turn1 K b g ts P (n - a).toNat (fun i => .int (a + (i : Int))) δ1 (Pv a n)) : Ds K b (tFor (iRng2 tr) g ts) δ P :=
  fun B F H σ D S E => h B F H σ S _ fun vs F1 H1 ds δ1 r1 S1 e1 v1 => by
    obtain ⟨a, n, rfl, n1, h0, hs, hd⟩ := r1
    cases v1 with
    | cons d1 d2 =>
      cases d2 with
      | cons d2 d3 =>
        cases d3; cases d1; cases d2
        refine ⟨a, n, rfl, n1, for_range (lo := a) (n := (n - a).toNat) (fun i σ' H' => ∃ F' δ', Stt K b B F' H' σ' δ' ∧ Ex F1 F' ∧ Pv a n i δ') ⟨F1, δ1, S1, Ex.refl F1, h0⟩ (fun i σ' H' hi ⟨F', δ', S', e', pv⟩ => ?_) fun σ' H' ⟨F', δ', S', e', pv⟩ => E.nx F' H' σ' δ' (hd δ' pv) S' (e1.ex.trans e')⟩
        exact turn_run hs (E.mono e1.ex) hi S' e' pv (.int _)
end
end Ab

set_option Elab.async false
set_option linter.all false
set_option maxRecDepth 100000
set_option maxHeartbeats 2000000
namespace Ab
open PySem PySem.Spec PyProof.Rows L2

theorem start_dat {K : Fg} {F : Hp} : ∀ {vs : List V} {ds : List PyData}, DpAll K F vs ds → ∀ (m : Nat) (b : Option Addr) (H0 H : Hp) (i : Nat) (s : Sl), (ds.map Sl.dat ++ List.replicate m Sl.no)[i]? = some s → SlOk K b H0 F H (slot (vs.map some ++ List.replicate m none) i) s ∧ s.mut = false
  | _, _, .nil, m, b, H0, H, i, s, h => by
    have e : s = Sl.no := by
      simp only [List.map_nil, List.nil_append] at h
      rw [List.getElem?_replicate] at h
      split at h
      · cases h; rfl
      · cases h
    subst e
    exact ⟨trivial, rfl⟩
  | _, _, .cons a r, m, b, H0, H, 0, s, h => by
    simp at h
    subst h
    exact ⟨⟨_, rfl, a⟩, rfl⟩
  | _, _, .cons a r, m, b, H0, H, i + 1, s, h => by
    have := start_dat r m b H0 H i s (by simpa using h)
    simpa [slot] using this
theorem stt_start {K : Fg} {T : Addr → Prop} {F H : Hp} {vs : List V} {ds : List PyData} (e : Ex F H) (tb : ∀ P, T P → GxR.TabG H P ∧ F P = none) (h : DpAll K F vs ds) (m : Nat) : Stt K ⟨none, T⟩ ⟨F, H⟩ F H (vs.map some ++ List.replicate m none) (ds.map Sl.dat ++ List.replicate m Sl.no) := by
  refine ⟨e, Gr.refl e, by simp [DpAll.length h], fun i s hs => (start_dat h m none H H i s hs).1, fun i j si sj p _ h1 _ m1 => ?_, fun _ z => (nomatch z), tb⟩
  rw [(start_dat h m none H H i si h1).2] at m1
  cases m1
section
variable {P : Program} {w : World} {K : Fg} {T : Addr → Prop} {mg : Str → Option Value} {base : Heap}
/-- THE RULE for a def upon data -/
theorem mkFn {x qual : Str} {st : Stmt} {f : Addr} {fd : FuncData} {N ps : List Str} {k : Nat} {φ : List PyData → (PyData → Prop) → Prop} (F : Fun K x qual st f fd) (S : FnScope N ps (defScope st)) (len : ∀ ds kk, φ ds kk → ds.length = ps.length)
    (hb : ∀ (cdv : Value) (A : Around) (outer : List Env) (s : Shared) (H : Hp) (E : XK), Room k (A.deeper (envOfC qual (defScope st) s.heap.objs.size f cdv)) →
      ∃ t, PSs (cxOf CX0 P w K mg base N qual (defScope st) f cdv A outer s H E).nox (defBody st) t ∧ ∀ ds kk, φ ds kk → Ds K ⟨none, T⟩ t (ds.map Sl.dat ++ List.replicate (N.length - ds.length) Sl.no) { nx := fun _ => kk .none, rt := kk }) :
    FnOk P w K mg base CX0 (k + 1) f fd ps (spP K T φ) := by
  refine F.ok S (fun vs H Q E h => ?_) (fun cdv A outer s H vs Q E hr h => ?_)
  · obtain ⟨F0, ds, kk, _, _, h1, h2, _⟩ := h
    rw [DpAll.length h1]
    exact len ds kk h2
  · obtain ⟨F0, ds, kk, ex, tb, h1, h2, h3⟩ := h
    obtain ⟨t, ht, hd⟩ := hb cdv A outer s H E hr
    refine ⟨t, ht, ?_⟩
    have S0 := stt_start (T := T) ex tb h1 (N.length - ds.length)
    have e : L2.start N vs = vs.map some ++ List.replicate (N.length - ds.length) none := by
      unfold L2.start
      rw [DpAll.length h1]
    rw [e]
    refine hd ds kk h2 ⟨F0, H⟩ F0 H _ _ S0 ⟨fun F H' σ δ hk S _ => ?_, fun v F H' d hk g dp => ?_, fun _ _ _ _ z => z.elim, fun _ _ _ _ z => z.elim, fun _ _ _ _ _ _ _ z => z.elim, fun _ _ _ _ _ _ z => z.elim⟩
    · exact h3 .non F H' .none hk S.gr .non
    · exact h3 v F H' d hk g dp

/-! ### the law's pool -/
def spPool (K : Fg) (T : Addr → Prop) : Sp := fun vs H Q _ => ∃ (F : Hp) (a : Addr) (ns : List Int), Ex F H ∧ (∀ P, T P → GxR.TabG H P ∧ F P = none) ∧ vs = [.ref a] ∧ SqL K F a (ns.map V.int) ∧ ns.length ≤ 63 ∧
  ∀ p F2 H2, F2 p = none → H p = none → Gr none F H F2 H2 → PoolAt K F2 H2 p → Q (.ref p) H2
/-- the law's first line: the pool is made -/
theorem ds_pool {T : Addr → Prop} {E : XK} {δ : LS} {rest : TS} {P : Po} {ns : List Int} (h0 : δ[0]? = some (.dat (.list (ns.map PyData.int)))) (hn : ns.length ≤ 63) (h : ∀ p, Ds K ⟨some p, T⟩ rest (δ.set 1 .pool) { nx := fun _ => False, rt := P.rt })
    (hm : ∀ (i : Nat) (s : Sl), δ[i]? = some s → s.mut = false) : Ds K ⟨none, T⟩ (tSeq (tAsg (tCall (spPool K T) [] E (tCons (tVar 0) tNil)) (gName 1)) rest) δ P := fun B F H σ D S EO => by
  obtain ⟨v, h1, h2⟩ := S.dat h0
  cases h2 with
  | lst q1 q2 =>
    rename_i a xs
    have e := DpAll.ints_eq q2
    subst e
    refine ⟨.ref a, h1, F, a, ns, S.sub, S.tb, rfl, q1, hn, fun p F2 H2 f2 hp g pa => ?_⟩
    have S1 := S.step g
    have bp : B.H p = none := by
      cases q : B.H p with
      | none => rfl
      | some o =>
        cases r : B.F p with
        | none =>
          obtain ⟨_, _, o', z⟩ := S.gr.keep p o r q
          rw [hp] at z; cases z
        | some u =>
          have := S.gr.sub p u (S.gr.ex p u r)
          rw [hp] at this; cases this
    have S2 : Stt K ⟨some p, T⟩ B F2 H2 σ δ := ⟨S1.sub, S1.gr.weak, S1.len, (fun i s hs => by
      have x := S1.ok i s hs
      have m := hm i s hs
      cases s with
      | no => trivial
      | dat d => exact x
      | own _ => cases m
      | dic _ => cases m
      | dit _ => cases m
      | pown _ => cases m
      | pool => cases m), S1.ap, fun q hq z => by
      cases hq
      obtain ⟨_, s', ns', i', c', k', sa', z1, _⟩ := pa
      rw [z1] at z; exact (nomatch z), S1.tb⟩
    have S3 : Stt K ⟨some p, T⟩ B F2 H2 (σ.set 1 (some (.ref p))) (δ.set 1 .pool) := S2.set (fun _ => ⟨p, rfl, rfl, pa⟩) (.inr fun j sj q _ hj mj _ => by
      rw [hm j sj hj] at mj; cases mj)
    refine h p B F2 H2 _ D S3 ⟨fun _ _ _ _ z => z.elim, fun v F' H' d hd g' dp => ?_, fun _ _ _ _ z => z.elim, fun _ _ _ _ z => z.elim, fun _ _ _ _ _ _ _ z => z.elim, fun _ _ _ _ _ _ z => z.elim⟩
    refine EO.rt v F' H' d hd ⟨g'.ex, g'.sub, fun q o z1 z2 => ?_⟩ dp
    obtain ⟨a1, a2, a3⟩ := g'.keep q o z1 z2
    refine ⟨a1, fun _ => a2 ?_, a3⟩
    rintro e
    cases e
    rw [bp] at z2; cases z2
theorem mkPool {x qual : Str} {st : Stmt} {f : Addr} {fd : FuncData} {N ps : List Str} {k : Nat} (F : Fun K x qual st f fd) (S : FnScope N ps (defScope st)) (hps : ps.length = 1)
    (hb : ∀ (cdv : Value) (A : Around) (outer : List Env) (s : Shared) (H : Hp) (E : XK), Room k (A.deeper (envOfC qual (defScope st) s.heap.objs.size f cdv)) →
      ∃ t, PSs (cxOf CX0 P w K mg base N qual (defScope st) f cdv A outer s H E).nox (defBody st) t ∧ ∀ ns : List Int, ns.length ≤ 63 → Ds K ⟨none, T⟩ t (Sl.dat (.list (ns.map PyData.int)) :: List.replicate (N.length - 1) Sl.no)
        { nx := fun _ => False, rt := fun _ => False, rn := fun ds => ∃ salt, ds = [.list (ns.map PyData.int), .int 0, .int 0, .int 0, .int salt] }) :
    FnOk P w K mg base CX0 (k + 1) f fd ps (spPool K T) := by
  refine F.ok S (fun vs H Q E h => ?_) (fun cdv A outer s H vs Q E hr h => ?_)
  · obtain ⟨_, _, _, _, _, rfl, _⟩ := h
    exact hps.symm
  · obtain ⟨F0, a, ns, ex, tb, rfl, h1, h2, h3⟩ := h
    obtain ⟨t, ht, hd⟩ := hb cdv A outer s H E hr
    refine ⟨t, ht, ?_⟩
    have S0 : Stt K ⟨none, T⟩ ⟨F0, H⟩ F0 H _ _ := stt_start (vs := [.ref a]) (ds := [.list (ns.map PyData.int)]) ex tb (.cons (.lst h1 (DpAll.ints ns)) .nil) (N.length - 1)
    have e : L2.start N [.ref a] = [V.ref a].map some ++ List.replicate (N.length - 1) none := rfl
    rw [e]
    refine hd ns h2 ⟨F0, H⟩ F0 H _ _ S0 ⟨fun _ _ _ _ z => z.elim, fun _ _ _ _ z => z.elim, fun _ _ _ _ z => z.elim, fun _ _ _ _ z => z.elim, fun p xs F H' σ δ ds hk S N => ?_, fun _ _ _ _ _ _ z => z.elim⟩
    obtain ⟨salt, rfl⟩ := hk
    have all := N.all
    cases all with
    | cons d0 all => cases all with
      | cons d1 all => cases all with
        | cons d2 all => cases all with
          | cons d3 all => cases all with
            | cons d4 all =>
              cases all
              cases d1; cases d2; cases d3; cases d4
              cases d0 with
              | lst q1 q2 =>
                have e := DpAll.ints_eq q2
                subst e
                exact h3 p F H' N.f N.b S.gr ⟨N.f, _, ns, 0, 0, 0, salt, N.h, q1⟩
/-- a def with the pool as its first argument; slot 0 stands for it -/
theorem mkFnP {x qual : Str} {st : Stmt} {f : Addr} {fd : FuncData} {N ps : List Str} {k : Nat} {φ : List PyData → (PyData → Prop) → Prop} (F : Fun K x qual st f fd) (S : FnScope N ps (defScope st)) (len : ∀ ds kk, φ ds kk → ds.length + 1 = ps.length)
    (hb : ∀ (cdv : Value) (A : Around) (outer : List Env) (s : Shared) (H : Hp) (E : XK), Room k (A.deeper (envOfC qual (defScope st) s.heap.objs.size f cdv)) →
      ∃ t, PSs (cxOf CX0 P w K mg base N qual (defScope st) f cdv A outer s H E).nox (defBody st) t ∧ ∀ (p : Addr) ds kk, φ ds kk → Ds K ⟨some p, T⟩ t (Sl.pool :: (ds.map Sl.dat ++ List.replicate (N.length - (ds.length + 1)) Sl.no))
        { nx := fun _ => False, rt := fun _ => False, rs := fun d δ => kk d ∧ δ[0]? = some .pool }) :
    FnOk P w K mg base CX0 (k + 1) f fd ps (spPP K T φ) := by
  refine F.ok S (fun vs H Q E h => ?_) (fun cdv A outer s H vs Q E hr h => ?_)
  · obtain ⟨F0, p, vs', ds, kk, _, _, rfl, _, h1, h2, _⟩ := h
    rw [List.length_cons, DpAll.length h1]
    exact len ds kk h2
  · obtain ⟨F0, p, vs', ds, kk, ex, tb, rfl, pa, h1, h2, h3⟩ := h
    obtain ⟨t, ht, hd⟩ := hb cdv A outer s H E hr
    refine ⟨t, ht, ?_⟩
    have S0 := stt_start (K := K) (T := T) ex tb h1 (N.length - (ds.length + 1))
    have e : L2.start N (.ref p :: vs') = some (.ref p) :: (vs'.map some ++ List.replicate (N.length - (ds.length + 1)) none) := by
      unfold L2.start
      rw [List.length_cons, DpAll.length h1]
      rfl
    rw [e]
    have S1 : Stt K ⟨some p, T⟩ ⟨F0, H⟩ F0 H (some (.ref p) :: (vs'.map some ++ List.replicate (N.length - (ds.length + 1)) none)) (Sl.pool :: (ds.map Sl.dat ++ List.replicate (N.length - (ds.length + 1)) Sl.no)) := by
      refine ⟨ex, Gr.refl ex, by simpa using S0.len, fun i s hs => ?_, fun i j si sj q hij h1' h2' m1 m2 => ?_, fun q hq z => by
        cases hq
        obtain ⟨_, s', ns', i', c', k', sa', z1, _⟩ := pa
        rw [z1] at z; exact (nomatch z), tb⟩
      · cases i with
        | zero => simp at hs; subst hs; exact ⟨p, rfl, rfl, pa⟩
        | succ i =>
          have := (start_dat h1 (N.length - (ds.length + 1)) (some p) H H i s (by simpa using hs)).1
          simpa [slot] using this
      · cases i with
        | zero =>
          cases j with
          | zero => exact absurd rfl hij
          | succ j =>
            rw [(start_dat h1 (N.length - (ds.length + 1)) none H H j sj (by simpa using h2')).2] at m2
            cases m2
        | succ i =>
          rw [(start_dat h1 (N.length - (ds.length + 1)) none H H i si (by simpa using h1')).2] at m1
          cases m1
    refine hd p ds kk h2 ⟨F0, H⟩ F0 H _ _ S1 ⟨fun _ _ _ _ z => z.elim, fun _ _ _ _ z => z.elim, fun _ _ _ _ z => z.elim, fun _ _ _ _ z => z.elim, fun _ _ _ _ _ _ _ z => z.elim, fun v F' H' d σ δ hk S dp => ?_⟩
    obtain ⟨hk, hp⟩ := hk
    obtain ⟨p', g1, g2, g3⟩ := S.ok 0 _ hp
    cases g2
    refine h3 v F' H' d hk S.gr (fun q o z1 z2 => ?_) g3 dp
    cases y : F0 q with
    | none => exact (S.gr.keep q o y z1).2.1 (fun z => z2 (Option.some.inj z).symm)
    | some u =>
      have := ex q u y
      rw [z1] at this; cases this
      exact ⟨_, S.gr.sub q _ (S.gr.ex q _ y), .refl _⟩
theorem mkDraw {x qual : Str} {st : Stmt} {f : Addr} {fd : FuncData} {N ps : List Str} {k : Nat} (F : Fun K x qual st f fd) (S : FnScope N ps (defScope st)) (hps : ps.length = 2)
    (hb : ∀ (cdv : Value) (A : Around) (outer : List Env) (s : Shared) (H : Hp) (E : XK), Room k (A.deeper (envOfC qual (defScope st) s.heap.objs.size f cdv)) →
      ∃ t, PSs (cxOf CX0 P w K mg base N qual (defScope st) f cdv A outer s H E).nox (defBody st) t ∧ ∀ (p : Addr) (ns : List Int) (i : Nat) (c kn salt m : Int), 0 < m → m.natAbs < 2 ^ 200 →
        Ds K ⟨some p, T⟩ t (Sl.pown [.list (ns.map PyData.int), .int i, .int c, .int kn, .int salt] :: Sl.dat (.int m) :: List.replicate (N.length - 2) Sl.no)
        { nx := fun _ => False, rt := fun _ => False, rs := fun d δ => (∃ r : Int, d = .int r ∧ 0 ≤ r ∧ r < m) ∧ ∃ (i : Nat) (c kn salt : Int), δ[0]? = some (.pown [.list (ns.map PyData.int), .int i, .int c, .int kn, .int salt]) }) :
    FnOk P w K mg base CX0 (k + 1) f fd ps (spPP K T φ_law_draw) := by
  refine F.ok S (fun vs H Q E h => ?_) (fun cdv A outer s H vs Q E hr h => ?_)
  · obtain ⟨F0, p, vs', ds, kk, _, _, rfl, _, h1, ⟨m, rfl, _⟩, _⟩ := h
    rw [List.length_cons, DpAll.length h1]
    exact hps.symm
  · obtain ⟨F0, p, vs', ds, kk, ex, tb, rfl, pa, h1, ⟨m, rfl, m0, m9, hk⟩, h3⟩ := h
    obtain ⟨t, ht, hd⟩ := hb cdv A outer s H E hr
    refine ⟨t, ht, ?_⟩
    cases h1 with
    | cons a b =>
      cases b
      cases a
      obtain ⟨f0, sa, ns, i, c, kn, salt, hp, hs⟩ := pa
      have S0 := stt_start (K := K) (T := T) ex tb (vs := [.int m]) (ds := [.int m]) (.cons (.int m) .nil) (N.length - 2)
      have e : L2.start N [.ref p, .int m] = some (.ref p) :: some (.int m) :: List.replicate (N.length - 2) none := rfl
      rw [e]
      have S1 : Stt K ⟨some p, T⟩ ⟨F0, H⟩ F0 H (some (.ref p) :: some (.int m) :: List.replicate (N.length - 2) none) (Sl.pown [.list (ns.map PyData.int), .int i, .int c, .int kn, .int salt] :: Sl.dat (.int m) :: List.replicate (N.length - 2) Sl.no) := by
        refine ⟨ex, Gr.refl ex, by simpa using S0.len, fun i' s hs' => ?_, fun i' j si sj q hij h1' h2' m1 m2 => ?_, fun q hq z => by
          cases hq
          rw [hp] at z; exact (nomatch z), tb⟩
        · cases i' with
          | zero =>
            simp at hs'; subst hs'
            exact ⟨p, _, rfl, hp, f0, rfl, .cons (.lst hs (DpAll.ints ns)) (.cons (.int _) (.cons (.int _) (.cons (.int _) (.cons (.int _) .nil))))⟩
          | succ i' =>
            have := (start_dat (K := K) (F := F0) (vs := [.int m]) (ds := [.int m]) (.cons (.int m) .nil) (N.length - 2) (some p) H H i' s (by simpa using hs')).1
            simpa [slot] using this
        · cases i' with
          | zero =>
            cases j with
            | zero => exact absurd rfl hij
            | succ j =>
              rw [(start_dat (K := K) (F := F0) (vs := [.int m]) (ds := [.int m]) (.cons (.int m) .nil) (N.length - 2) none H H j sj (by simpa using h2')).2] at m2
              cases m2
          | succ i' =>
            rw [(start_dat (K := K) (F := F0) (vs := [.int m]) (ds := [.int m]) (.cons (.int m) .nil) (N.length - 2) none H H i' si (by simpa using h1')).2] at m1
            cases m1
      refine hd p ns i c kn salt m m0 m9 ⟨F0, H⟩ F0 H _ _ S1 ⟨fun _ _ _ _ z => z.elim, fun _ _ _ _ z => z.elim, fun _ _ _ _ z => z.elim, fun _ _ _ _ z => z.elim, fun _ _ _ _ _ _ _ z => z.elim, fun v F' H' d σ δ hk' S dp => ?_⟩
      obtain ⟨⟨r, rfl, r0, r1⟩, i', c', kn', salt', hδ⟩ := hk'
      obtain ⟨p', xs, g1, g2, g3, g4, g5⟩ := S.pown hδ
      cases g4
      refine h3 v F' H' _ (hk r r0 r1) S.gr (fun q o z1 z2 => ?_) ?_ dp
      · cases y : F0 q with
        | none => exact (S.gr.keep q o y z1).2.1 (fun z => z2 (Option.some.inj z).symm)
        | some u =>
          have := ex q u y
          rw [z1] at this; cases this
          exact ⟨_, S.gr.sub q _ (S.gr.ex q _ y), .refl _⟩
      · cases g5 with
        | cons d0 all => cases all with
          | cons d1 all => cases all with
            | cons d2 all => cases all with
              | cons d3 all => cases all with
                | cons d4 all =>
                  cases all
                  cases d1; cases d2; cases d3; cases d4
                  cases d0 with
                  | lst q1 q2 =>
                    have e := DpAll.ints_eq q2
                    subst e
                    exact ⟨g3, _, ns, i', c', kn', salt', g2, q1⟩
end
end Ab

set_option Elab.async false
set_option linter.all false
set_option maxRecDepth 100000
set_option maxHeartbeats 2000000
namespace Ab
open PySem PySem.Spec PyProof.Rows L2

/-- a def that may be called by its name -/
structure Cal (P : Program) (w : World) (K : Fg) (mg : Str → Option Value) (base : Heap) (x : Str) (k : Nat) (ps : List Str) (sp : Sp) : Prop where
  ex : ∃ f fd, FnOk P w K mg base CX0 k f fd ps sp ∧ mg x = some (.ref f) ∧ PySem.W.keepIn K (.ref f) = true ∧ Binds K fd ps []
section
variable {X : Cx} {e : Expr} {es : List Expr} {t : TA} {p pos : Pos} {x : Str} {k n : Nat} {ps : List Str} {sp : Sp}
theorem pe_cl (C : Cal X.prog X.w X.K X.mg X.base x k ps sp) (hr : Room n X.A) (hk : k ≤ n) (hg : Gl X x) (ha : PA X (e :: es) t) (hdb : (x == ("__debug__" : Str)) = false := by decide)
    (he : starEach (e :: es) X.env = (false, eval e X.env) :: starEach es X.env := by rfl) (hpl : (backTo pos (starEach es X.env)).any (·.1) = false := by rfl) : PE X (.Call (.Name x p) (e :: es) [] pos) (tCall sp [] E0 t) := by
  obtain ⟨f, fd, F, hm, hkp, hb⟩ := C.ex
  exact pe_call F (hr.mono hk) hg hm hkp hb .nil pass0 ha hdb he hpl
end

/-! ### small rules for the walk -/
section
variable {K : Fg} {b : Bp} {δ : LS} {A B : Prop}
theorem toD_d {R : PyData → LS → Prop} {x : PyData} (h : R x δ) : toD R (.d x) δ := h
theorem toD_o {R : PyData → LS → Prop} {i : Nat} {ds : List PyData} (h : δ[i]? = some (.own ds)) (k : R (.list ds) (δ.set i (.dat (.list ds)))) : toD R (.o i) δ := ⟨ds, h, k⟩
theorem ite_dec {p : Prop} [Decidable p] (h1 : p → A) (h2 : ¬p → B) : if decide p = true then A else B := by
  by_cases h : p
  · rw [decide_eq_true h]; exact iteT (h1 h)
  · rw [decide_eq_false h]; exact iteF (h2 h)
theorem ite_decN {p : Prop} [Decidable p] (h1 : ¬p → A) (h2 : p → B) : if (!decide p) = true then A else B := by
  by_cases h : p
  · rw [decide_eq_true h]; exact iteF (h2 h)
  · rw [decide_eq_false h]; exact iteT (h1 h)
theorem eqv_int (a b : Int) : PyData.eqv (.int a) (.int b) = decide (a = b) := by
  show (a == b) = decide (a = b)
  by_cases h : a = b
  · subst h; simp
  · rw [decide_eq_false h]; exact beq_eq_false_iff_ne.mpr h
theorem ite_eqI {x y : Int} (h1 : x = y → A) (h2 : x ≠ y → B) : if PyData.eqv (.int x) (.int y) = true then A else B := by
  rw [eqv_int]; exact ite_dec h1 h2
theorem ite_neI {x y : Int} (h1 : x ≠ y → A) (h2 : x = y → B) : if (!PyData.eqv (.int x) (.int y)) = true then A else B := by
  rw [eqv_int]; exact ite_decN h1 h2
theorem ite_bool {c : Bool} (h1 : c = true → A) (h2 : c = false → B) : if c = true then A else B := by
  cases c with
  | true => exact iteT (h1 rfl)
  | false => exact iteF (h2 rfl)
theorem shaped_int (n : Int) : SeqAt.shaped (.int n) = true := rfl
end
end Ab

set_option Elab.async false
set_option linter.all false
set_option maxRecDepth 100000
set_option maxHeartbeats 2000000
namespace Ab
open PySem PySem.Spec PyProof.Rows L2
/-! sizes: x has at most n bits -/
def Bd (n : Nat) (x : Int) : Prop := x.natAbs < 2 ^ n
instance {n : Nat} {x : Int} : Decidable (Bd n x) := inferInstanceAs (Decidable (x.natAbs < 2 ^ n))
theorem Bd.le {n : Nat} {x y : Int} (h : Bd n x) (l : y.natAbs ≤ x.natAbs) : Bd n y := Nat.lt_of_le_of_lt l h
theorem Bd.mono {n m : Nat} {x : Int} (h : Bd n x) (l : n ≤ m) : Bd m x := Nat.lt_of_lt_of_le h (Nat.pow_le_pow_right (by decide) l)
theorem Bd.mul {n m : Nat} {x y : Int} (h : Bd n x) (k : Bd m y) : Bd (n + m) (x * y) := wide_lt h k
theorem Bd.add {n m : Nat} {x y : Int} (h : Bd n x) (k : Bd m y) : Bd (n + m + 1) (x + y) := by
  unfold Bd at *
  have a := Int.natAbs_add_le x y
  have p1 : 2 ^ n ≤ 2 ^ (n + m) := Nat.pow_le_pow_right (by decide) (by omega)
  have p2 : 2 ^ m ≤ 2 ^ (n + m) := Nat.pow_le_pow_right (by decide) (by omega)
  rw [Nat.pow_succ]
  omega
theorem Bd.neg {n : Nat} {x : Int} (h : Bd n x) : Bd n (-x) := by unfold Bd at *; rwa [Int.natAbs_neg]
theorem Bd.sub {n m : Nat} {x y : Int} (h : Bd n x) (k : Bd m y) : Bd (n + m + 1) (x - y) := by
  rw [Int.sub_eq_add_neg]; exact h.add k.neg
theorem Bd.sub' {n : Nat} {x y : Int} (h : Bd n x) (k : Bd n y) : Bd (n + 1) (x - y) := by
  unfold Bd at *
  rw [Nat.pow_succ]; omega
theorem Bd.add' {n : Nat} {x y : Int} (h : Bd n x) (k : Bd n y) : Bd (n + 1) (x + y) := by
  unfold Bd at *
  rw [Nat.pow_succ]; omega
theorem Bd.emod {n : Nat} {x m : Int} (h : Bd n m) (h0 : 0 < m) : Bd n (x % m) := by
  unfold Bd at *
  have a := Int.emod_nonneg x (show m ≠ 0 by omega)
  have b := Int.emod_lt_of_pos x h0
  omega
theorem Bd.lit {x : Int} (h : x.natAbs < 18446744073709551616) : Bd 64 x := h
theorem Bd.of {n : Nat} {x : Int} (h : x.natAbs < 2 ^ n) : Bd n x := h
theorem Bd.nat {n : Nat} {x : Nat} (h : x < 2 ^ n) : Bd n (x : Int) := by unfold Bd; rwa [Int.natAbs_natCast]
theorem Bd.ediv {n : Nat} {x : Int} (y : Int) (h : Bd n x) : Bd (n + 1) (x / y) := by
  unfold Bd at *
  have : (x / y).natAbs ≤ x.natAbs := Int.natAbs_ediv_le_natAbs x y
  rw [Nat.pow_succ]; omega
theorem cmulW {n m : Nat} {x y : Int} (h : Bd n x) (k : Bd m y) (l : n + m + 2 ≤ 1000000) : CMulW x y :=
  wide_mul (h.mono (Nat.le_succ n)) (k.mono (Nat.le_succ m)) (by omega) (by omega) (by omega)
theorem cdivW {n : Nat} {x y : Int} (h0 : 0 < y) (h : Bd n y) (l : n + 1 ≤ 9000) : CDivW x y := wide_div h0 (h.mono (Nat.le_succ n)) (by omega) l
theorem cmulR {x y : Int} (h : -(2 ^ 64) < y ∧ y < 2 ^ 64) : CMul x y := .inr h
theorem cmulL {x y : Int} (h : -(2 ^ 64) < x ∧ x < 2 ^ 64) : CMul x y := .inl h
theorem gcdI_pos {a b : Int} (h : a ≠ 0 ∨ b ≠ 0) : 0 < gcdI a b := by
  unfold gcdI
  have : 0 < Nat.gcd a.natAbs b.natAbs := by
    rcases h with h | h
    · exact Nat.gcd_pos_of_pos_left _ (by omega)
    · exact Nat.gcd_pos_of_pos_right _ (by omega)
  omega
theorem gcdI_le_right {a b : Int} (h : b ≠ 0) : gcdI a b ≤ b.natAbs := by
  unfold gcdI
  have := Nat.gcd_le_right (m := a.natAbs) (n := b.natAbs) (by omega)
  omega
theorem ite_nt {A B : Prop} (h : B) : if (!true) = true then A else B := iteF h
theorem ite_nf {A B : Prop} (h : A) : if (!false) = true then A else B := iteT h
theorem len_ok {α : Type} {xs : List α} (h : Nat.ble xs.length 100000 = true) : xs.length ≤ 100000 := Nat.le_of_ble_eq_true h
theorem ds_cut {K : Fg} {b : Bp} {δ : LS} {ts tu : TS} {P : Po} (M : LS → Prop) (h1 : Ds K b ts δ { P with nx := M }) (h2 : ∀ δ', M δ' → Ds K b tu δ' P) : Ds K b (tSeq ts tu) δ P := fun B F H σ D S E =>
  h1 B F H σ { D with nx := tu D } S ⟨fun F2 H2 σ2 δ2 hm S2 e => h2 δ2 hm B F2 H2 σ2 D S2 (E.mono e), E.rt, E.bk, E.ct, E.rn, E.rs⟩
theorem cut_ints (ns : List Int) (lo hi : Option Int) : ∃ ms : List Int, cutD (ns.map PyData.int) lo hi = ms.map PyData.int ∧ ms.length ≤ ns.length := by
  refine ⟨(ns.drop (HT.sIx (ns.map PyData.int).length 0 lo)).take (HT.sIx (ns.map PyData.int).length (ns.map PyData.int).length hi - HT.sIx (ns.map PyData.int).length 0 lo), ?_, ?_⟩
  · unfold cutD
    rw [List.map_take, List.map_drop]
  · rw [List.length_take, List.length_drop]; omega
theorem getD_ints {ns : List Int} {j : Nat} (h : j < (ns.map PyData.int).length) : (ns.map PyData.int).getD j .none = .int (ns.getD j 0) := by
  have h' : j < ns.length := by simpa using h
  rw [List.getD_eq_getElem?_getD, List.getD_eq_getElem?_getD, List.getElem?_map, List.getElem?_eq_getElem h']
  rfl
theorem at_ints {ns : List Int} {i : Nat} (h : i < ns.length) : atI (ns.map PyData.int) (i : Int) = some (.int (ns.getD i 0)) := by
  apply atI_nat
  rw [List.getElem?_map, List.getElem?_eq_getElem h, List.getD_eq_getElem?_getD, List.getElem?_eq_getElem h]
  rfl
theorem len_lt {α : Type} {a : Nat} {xs : List α} (h : Nat.ble (a + 1) xs.length = true) : a < xs.length := Nat.le_of_ble_eq_true h
theorem dt_orV {K : Fg} {b : Bp} {δ : LS} {t u : TT} {R : Bool → LS → Prop} (c2 : Bool) (h1 : Dt K b t δ fun c δ1 => δ1 = δ ∧ R (c || c2) δ) (h2 : Dt K b u δ fun c δ1 => c = c2 ∧ δ1 = δ) : Dt K b (tOr t u) δ R :=
  fun B F H σ S Q q => h1 B F H σ S _ fun c F1 H1 δ1 r1 S1 e1 => by
    obtain ⟨rfl, r1⟩ := r1
    cases c with
    | true =>
      show Q true H1
      exact q true F1 H1 _ r1 S1 e1
    | false =>
      show u σ H1 Q
      refine h2 B F1 H1 σ S1 Q fun c F2 H2 δ2 r2 S2 e2 => ?_
      obtain ⟨rfl, rfl⟩ := r2
      exact q c F2 H2 _ r1 S2 (e1.trans e2)
theorem dt_andV {K : Fg} {b : Bp} {δ : LS} {t u : TT} {R : Bool → LS → Prop} (c2 : Bool) (h1 : Dt K b t δ fun c δ1 => δ1 = δ ∧ R (c && c2) δ) (h2 : Dt K b u δ fun c δ1 => c = c2 ∧ δ1 = δ) : Dt K b (tAnd t u) δ R :=
  fun B F H σ S Q q => h1 B F H σ S _ fun c F1 H1 δ1 r1 S1 e1 => by
    obtain ⟨rfl, r1⟩ := r1
    cases c with
    | false =>
      show Q false H1
      exact q false F1 H1 _ r1 S1 e1
    | true =>
      show u σ H1 Q
      refine h2 B F1 H1 σ S1 Q fun c F2 H2 δ2 r2 S2 e2 => ?_
      obtain ⟨rfl, rfl⟩ := r2
      exact q c F2 H2 _ r1 S2 (e1.trans e2)
/-- x if t else y, both ways told by one word -/
theorem de_ifM {K : Fg} {b : Bp} {δ : LS} {t : TT} {ta tb : TE} {R : AV → LS → Prop} (M : AV → Prop) (h : Dt K b t δ fun c δ1 => if c = true then De K b ta δ1 (fun a δ2 => δ2 = δ ∧ M a) else De K b tb δ1 (fun a δ2 => δ2 = δ ∧ M a)) (k : ∀ a, M a → R a δ) : De K b (tIf t ta tb) δ R :=
  de_if (fun B F H σ S Q q => h B F H σ S Q fun c F2 H2 δ2 r S2 e => q c F2 H2 δ2 (by
    cases c with
    | true =>
      have r' : De K b ta δ2 (fun a δ3 => δ3 = δ ∧ M a) := r
      exact iteT (fun B F H σ S Q q => r' B F H σ S Q fun v F3 H3 a δ3 r3 S3 e3 w3 => q v F3 H3 a δ3 (by obtain ⟨rfl, hm⟩ := r3; exact k a hm) S3 e3 w3)
    | false =>
      have r' : De K b tb δ2 (fun a δ3 => δ3 = δ ∧ M a) := r
      exact iteF (fun B F H σ S Q q => r' B F H σ S Q fun v F3 H3 a δ3 r3 S3 e3 w3 => q v F3 H3 a δ3 (by obtain ⟨rfl, hm⟩ := r3; exact k a hm) S3 e3 w3)) S2 e)
/-- the loop over data that stays data -/
theorem ds_forL' {K : Fg} {b : Bp} {δ : LS} {te : TE} {ts : TS} {g : TG} {P : Po} (Pv : List PyData → Nat → LS → Prop) (h : De K b te δ (toD fun x δ1 => ∃ xs, x = .list xs ∧ Turn1 K b g ts P xs.length (fun i => xs.getD i .none) δ1 (Pv xs))) : Ds K b (tFor (iList K te) g ts) δ P := ds_forL Pv h
end Ab

set_option Elab.async false
set_option linter.all false
set_option maxRecDepth 100000
set_option maxHeartbeats 2000000
namespace Ab
open PySem PySem.Spec PyProof.Rows L2
/-! comprehensions -/
def wipeD (δ : LS) : List Nat → LS
  | [] => δ
  | v :: vs => (wipeD δ vs).set v .no
theorem wipeD_length (δ : LS) : ∀ vs : List Nat, (wipeD δ vs).length = δ.length
  | [] => rfl
  | v :: vs => by unfold wipeD; rw [List.length_set, wipeD_length δ vs]
theorem wipeD_in {δ : LS} {i : Nat} : ∀ {vs : List Nat} {s : Sl}, i ∈ vs → (wipeD δ vs)[i]? = some s → s = .no
  | v :: vs, s, h, e => by
    unfold wipeD at e
    by_cases c : v = i
    · subst c
      have hi : v < (wipeD δ vs).length := by
        have := lt_of_get e
        rwa [List.length_set] at this
      rw [List.getElem?_set_self hi] at e
      cases e; rfl
    · rw [List.getElem?_set_ne c] at e
      rcases List.mem_cons.mp h with z | z
      · exact absurd z.symm c
      · exact wipeD_in z e
theorem wipeD_out {δ : LS} {i : Nat} : ∀ {vs : List Nat}, i ∉ vs → (wipeD δ vs)[i]? = δ[i]?
  | [], _ => rfl
  | v :: vs, h => by
    unfold wipeD
    rw [List.getElem?_set_ne (fun e => h (by rw [e]; exact List.mem_cons_self)), wipeD_out (fun z => h (List.mem_cons_of_mem _ z))]
theorem slot_wipe {σ : L2.St} {i : Nat} {vs : List Nat} (h : i ∉ vs) : slot (wipe σ vs) i = slot σ i := by
  unfold slot; rw [wipe_out h]
section
variable {K : Fg} {b : Bp} {B : Base} {F H F' H' : Hp} {σ : L2.St} {δ : LS}
theorem Stt.wipe (S : Stt K b B F H σ δ) : ∀ vs : List Nat, Stt K b B F H (L2.wipe σ vs) (wipeD δ vs)
  | [] => S
  | v :: vs => (Stt.wipe S vs).set (i := v) (o := none) (s := .no) (fun _ => trivial) (.inl rfl)
theorem Stt.unwipe {vs : List Nat} (hl : σ.length = δ.length) (S : Stt K b B F H (L2.wipe σ vs) (wipeD δ vs)) : Stt K b B F H σ (wipeD δ vs) := by
  refine ⟨S.sub, S.gr, by rw [wipeD_length]; exact hl, fun i s h => ?_, fun i j si sj p hij h1 h2 m1 m2 h3 => ?_, S.bb, S.tb⟩
  · by_cases c : i ∈ vs
    · rw [wipeD_in c h]; trivial
    · rw [← slot_wipe c]; exact S.ok i s h
  · have n1 : i ∉ vs := fun c => by rw [wipeD_in c h1] at m1; cases m1
    have n2 : j ∉ vs := fun c => by rw [wipeD_in c h2] at m2; cases m2
    rw [← slot_wipe n1] at h3
    rw [← slot_wipe n2]
    exact S.ap i j si sj p hij h1 h2 m1 m2 h3
theorem own_wipe {vs : List Nat} {p : Addr} (h : Own (L2.wipe σ vs) (wipeD δ vs) p) : Own σ δ p := by
  obtain ⟨k, s, h1, h2, h3⟩ := h
  have n : k ∉ vs := fun c => by rw [wipeD_in c h1] at h2; cases h2
  rw [wipeD_out n] at h1
  rw [slot_wipe n] at h3
  exact ⟨k, s, h1, h2, h3⟩
theorem own_wipe' {vs : List Nat} {p : Addr} (h : Own σ (wipeD δ vs) p) : Own σ δ p := by
  obtain ⟨k, s, h1, h2, h3⟩ := h
  have n : k ∉ vs := fun c => by rw [wipeD_in c h1] at h2; cases h2
  rw [wipeD_out n] at h1
  exact ⟨k, s, h1, h2, h3⟩
/-- nobody's object is written -/
theorem Stt.updN (S : Stt K b B F H σ δ) {D : Addr} {o : HO} (hF : F D = none) (hB : B.H D = none) (hO : ¬ Own σ δ D) (hN : ∀ ps, H D ≠ some (.tbl ps)) : Stt K b B F (upd H D o) σ δ := by
  refine ⟨S.sub.updR hF, ⟨S.gr.ex, S.sub.updR hF, fun q u h1 h2 => ?_⟩, S.len, fun i s h => ?_, S.ap, fun q hq z => by
    by_cases c : q = D
    · subst c; rw [upd_same] at z; cases z
    · rw [upd_ne c] at z; exact S.bb q hq z, fun P hP => by
    obtain ⟨h1, h2⟩ := S.tb P hP
    obtain ⟨ps, h3, h4⟩ := id h1
    have ne : P ≠ D := by rintro rfl; exact hN ps h3
    exact ⟨⟨ps, by rw [upd_ne ne]; exact h3, h4⟩, h2⟩⟩
  · obtain ⟨a1, a2, a3⟩ := S.gr.keep q u h1 h2
    have ne : q ≠ D := by rintro rfl; rw [hB] at h2; cases h2
    rw [upd_ne ne]
    exact ⟨a1, a2, a3⟩
  · refine (S.ok i s h).mono (Ex.refl F) fun q u mt hq h1 h2 => ⟨h1, ?_⟩
    have ne : q ≠ D := by rintro rfl; exact hO ⟨i, s, h, mt, hq⟩
    rw [upd_ne ne]; exact ⟨u, h2, .refl u⟩
end
/-- the turns' state: D the new list -/
structure LcS (K : Fg) (b : Bp) (B : Base) (F1 H1 : Hp) (σ : L2.St) (δ : LS) (vs : List Nat) (D : Addr) (Acc : Nat → List PyData → Prop) (i : Nat) (H : Hp) : Prop where
  ex : ∃ (F : Hp) (acc : List V) (ds : List PyData), Stt K b B F H (L2.wipe σ vs) (wipeD δ vs) ∧ Ex F1 F ∧ (∀ p o, F1 p = none → H1 p = some o → ¬ Own σ δ p → b.p ≠ some p → F p = none ∧ ∃ o', H p = some o' ∧ Kept o o') ∧ (∀ p, H p = none → H1 p = none) ∧
    F D = none ∧ H D = some (.lst acc) ∧ DpAll K F acc ds ∧ ds.length ≤ i ∧ Acc i ds
/-- a target: what the slots are behind it -/
def TgtOk (K : Fg) (g : TG) (vs : List Nat) (x : PyData) (δ δ2 : LS) : Prop :=
  ∀ (b : Bp) (B : Base) (F H : Hp) (σ : L2.St) (v : V), Stt K b B F H (L2.wipe σ vs) (wipeD δ vs) → Dp K F v x → ∀ Q : L2.St → Hp → Prop,
    (∀ σ2, Stt K b B F H σ2 δ2 → (∀ p, Own σ2 δ2 p → Own (L2.wipe σ vs) (wipeD δ vs) p) → L2.wipe σ2 vs = L2.wipe σ vs → wipeD δ2 vs = wipeD δ vs → Q σ2 H) → g v (L2.wipe σ vs) H Q
theorem tgt_name {K : Fg} {j : Nat} {x : PyData} {δ : LS} : TgtOk K (gName j) [j] x δ ((wipeD δ [j]).set j (.dat x)) := fun b B F H σ v S dp Q q =>
  q _ (S.setD dp) (fun p hp => own_set S.len hp) (by show ((σ.set j none).set j (some v)).set j none = σ.set j none; rw [List.set_set, List.set_set]) (by show ((δ.set j Sl.no).set j (.dat x)).set j Sl.no = δ.set j Sl.no; rw [List.set_set, List.set_set])
theorem set3 {α : Type} {i j : Nat} (h : i ≠ j) (l : List α) (x y z w : α) : (((((l.set j z).set i z).set i x).set j y).set j z).set i z = (l.set j z).set i z := by
  rw [List.set_set, List.set_set, List.set_comm z z (Ne.symm h), List.set_set, List.set_comm z z h, List.set_set]
theorem tgt_pair {K : Fg} {i j : Nat} {x y : PyData} {δ : LS} (h : i ≠ j) : TgtOk K (gTup K 2 (gCons (gName i) (gCons (gName j) gNil))) [i, j] (.tuple [x, y]) δ (((wipeD δ [i, j]).set i (.dat x)).set j (.dat y)) := fun b B F H σ v S dp Q q => by
  cases dp with
  | tup h1 h2 =>
    cases h2 with
    | cons a r => cases r with
      | cons c r =>
        cases r
        rename_i va vb
        refine ⟨_, _, rfl, S.sub.t h1, rfl, _, _, rfl, _, _, rfl, rfl, ?_⟩
        have S1 := S.setD (i := i) a
        have S2 := S1.setD (i := j) c
        refine q _ S2 (fun p hp => own_set S.len (own_set S1.len hp)) ?_ ?_
        · exact set3 h σ _ _ none none
        · exact set3 h δ _ _ Sl.no Sl.no
section
variable {K : Fg} {b : Bp} {δ : LS} {te tl : TE} {tt : TT} {g : TG} {vs : List Nat} {R : List PyData → LS → Prop}
/-- what is asked of each turn -/
def LcT (K : Fg) (b : Bp) (g : TG) (tt : TT) (te : TE) (vs : List Nat) (δ : LS) (n : Nat) (at_ : Nat → PyData) (Acc : Nat → List PyData → Prop) : Prop :=
  ∀ i ds, i < n → Acc i ds → ∃ δ2, TgtOk K g vs (at_ i) δ δ2 ∧ Dt K b tt δ2 fun c δ3 => δ3 = δ2 ∧ if c = true then De K b te δ2 (toD fun d δ4 => δ4 = δ2 ∧ Acc (i + 1) (ds ++ [d])) else Acc (i + 1) ds
theorem lc_turn {B : Base} {F1 H1 : Hp} {σ : L2.St} {D : Addr} {Acc : Nat → List PyData → Prop} {n : Nat} {at_ : Nat → PyData} (T : LcT K b g tt te vs δ n at_ Acc) (hD : H1 D = none) (hDB : B.H D = none) (hDO : ¬ Own σ δ D) (hDb : b.p ≠ some D) (hn : n ≤ 100000)
    {i : Nat} {H : Hp} {x : V} {F0 : Hp} (hi : i < n) (I : LcS K b B F1 H1 σ δ vs D Acc i H) (dp : ∀ F, Ex F1 F → Dp K F x (at_ i)) :
    g x (L2.wipe σ vs) H fun σ2 H2 => L2.wipe σ2 vs = L2.wipe σ vs ∧ tt σ2 H2 fun c H3 => if c = true then te σ2 H3 fun y H4 => ∃ acc, H4 D = some (.lst acc) ∧ acc.length < sizeLine ∧ LcS K b B F1 H1 σ δ vs D Acc (i + 1) (upd H4 D (.lst (acc ++ [y]))) else LcS K b B F1 H1 σ δ vs D Acc (i + 1) H3 := by
  obtain ⟨F, acc, ds, S, ex, kp, th, d1, d2, d3, dl, ha⟩ := I.ex
  obtain ⟨δ2, tg, ht⟩ := T i ds hi ha
  have nwD : ¬ Own (L2.wipe σ vs) (wipeD δ vs) D := fun z => hDO (own_wipe z)
  refine tg b B F H σ x S (dp F ex) _ fun σ2 S2 ow w1 w2 => ⟨w1, ?_⟩
  have n2D : ¬ Own σ2 δ2 D := fun z => nwD (ow D z)
  have back : ∀ {F' H' : Hp}, Stt K b B F' H' σ2 δ2 → Stt K b B F' H' (L2.wipe σ vs) (wipeD δ vs) := fun {F' H'} S' => by
    have := S'.wipe vs
    rwa [w1, w2] at this
  refine ht B F H σ2 S2 _ fun c F3 H3 δ3 r3 S3 e3 => ?_
  obtain ⟨rfl, r3⟩ := r3
  obtain ⟨f3, o3, h3, k3⟩ := e3.keep D _ d1 d2 n2D hDb
  cases k3.lst
  have kp3 : ∀ p o, F1 p = none → H1 p = some o → ¬ Own σ δ p → b.p ≠ some p → F3 p = none ∧ ∃ o', H3 p = some o' ∧ Kept o o' := fun p o a1 a2 a3 a4 => by
    obtain ⟨z1, o1, z2, z3⟩ := kp p o a1 a2 a3 a4
    obtain ⟨y1, o2, y2, y3⟩ := e3.keep p o1 z1 z2 (fun z => a3 (own_wipe (ow p z))) a4
    exact ⟨y1, o2, y2, z3.trans y3⟩
  cases c with
  | false =>
    have r3' : Acc (i + 1) ds := r3
    show LcS K b B F1 H1 σ δ vs D Acc (i + 1) H3
    exact ⟨F3, acc, ds, back S3, ex.trans e3.ex, kp3, fun p z => th p (e3.there p z), f3, h3, DpAll.mono e3.ex d3, by omega, r3'⟩
  | true =>
    show te σ2 H3 _
    have r3' : De K b te _ _ := r3
    refine (dd_of r3') B F3 H3 σ2 S3 _ fun y F4 H4 d δ4 r4 S4 e4 dy => ?_
    obtain ⟨rfl, r4⟩ := r4
    obtain ⟨f4, o4, h4, k4⟩ := e4.keep D _ f3 h3 n2D hDb
    cases k4.lst
    refine ⟨acc, h4, sz_lt (by rw [DpAll.length d3]; omega), F4, acc ++ [y], ds ++ [d], back (S4.updN f4 hDB n2D (fun ps z => by rw [h4] at z; exact (nomatch z))), (ex.trans e3.ex).trans e4.ex, fun p o a1 a2 a3 a4 => ?_, fun p z => ?_, f4, upd_same, DpAll.append (DpAll.mono (e3.ex.trans e4.ex) d3) (.cons dy .nil), by rw [List.length_append]; simp; omega, r4⟩
    · obtain ⟨z1, o1, z2, z3⟩ := kp3 p o a1 a2 a3 a4
      obtain ⟨y1, o2, y2, y3⟩ := e4.keep p o1 z1 z2 (fun z => a3 (own_wipe (ow p z))) a4
      have ne : p ≠ D := by rintro rfl; rw [hD] at a2; cases a2
      rw [upd_ne ne]; exact ⟨y1, o2, y2, z3.trans y3⟩
    · by_cases c : p = D
      · subst c; rw [upd_same] at z; cases z
      · rw [upd_ne c] at z
        exact th p (e3.there p (e4.there p z))
theorem lc_start {B : Base} {F1 H1 : Hp} {σ : L2.St} {D : Addr} {Acc : Nat → List PyData → Prop} (S : Stt K b B F1 H1 σ δ) (hD : H1 D = none) (h0 : Acc 0 []) :
    LcS K b B F1 H1 σ δ vs D Acc 0 (upd H1 D (.lst [])) ∧ B.H D = none ∧ ¬ Own σ δ D ∧ b.p ≠ some D := by
  obtain ⟨S2, e2, N⟩ := S.newL hD (ds := []) (xs := []) .nil
  have nO : ¬ Own σ δ D := fun ⟨i, s, h1, h2, h3⟩ => N.ap i s h1 h2 h3
  refine ⟨⟨F1, [], [], S2.wipe vs, Ex.refl F1, fun p o a1 a2 a3 a4 => ?_, fun p z => e2.there p z, N.f, upd_same, .nil, Nat.le_refl _, h0⟩, N.b, nO, fun z => S.bb D z hD⟩
  have ne : p ≠ D := by rintro rfl; rw [hD] at a2; cases a2
  rw [upd_ne ne]; exact ⟨a1, o, a2, .refl o⟩
theorem lc_fin {B : Base} {F0 H0 F1 H1 H : Hp} {σ : L2.St} {δ0 : LS} {D : Addr} {Acc : Nat → List PyData → Prop} {n : Nat} {Q : VK}
    (S1 : Stt K b B F1 H1 σ δ) (k1 : Kp b σ δ0 F0 H0 δ F1 H1) (hD : H1 D = none) (hDB : B.H D = none) (hDO : ¬ Own σ δ D) (I : LcS K b B F1 H1 σ δ vs D Acc n H) (r : ∀ ds, Acc n ds → R ds (wipeD δ vs))
    (q : ∀ p xs F2 H2 ds δ2, R ds δ2 → Stt K b B F2 H2 σ δ2 → Kp b σ δ0 F0 H0 δ2 F2 H2 → H0 p = none → New K B F2 H2 σ δ2 p xs ds → Q (.ref p) H2) : Q (.ref D) H := by
  obtain ⟨F, acc, ds, S, ex, kp, th, d1, d2, d3, dl, ha⟩ := I.ex
  have S' := S.unwipe S1.len
  refine q D acc F H ds _ (r ds ha) S' (k1.trans ⟨ex, fun p z => own_wipe' z, fun p o a1 a2 a3 a4 => kp p o a1 a2 a3 a4, fun p z => th p z⟩) (k1.there D hD) ⟨d2, d1, hDB, fun i s h1 h2 h3 => hDO (own_wipe' ⟨i, s, h1, h2, h3⟩), d3⟩
theorem dn_lcR1 {tr : TA} (Acc : Int → Nat → List PyData → Prop) (h : Da K b tr δ fun ds δ1 => ∃ n : Int, ds = [.int n] ∧ (-(2 ^ 62) ≤ n ∧ n < 2 ^ 62) ∧ n.toNat ≤ 100000 ∧ Acc n 0 [] ∧ LcT K b g tt te vs δ1 n.toNat (fun i => .int (i : Int)) (Acc n) ∧ ∀ ds, Acc n n.toNat ds → R ds (wipeD δ1 vs)) : Dn K b (tLc (iRng1 tr) g tt te vs) δ R :=
  fun B F H σ S Q q => h B F H σ S _ fun as F1 H1 ds δ1 r1 S1 e1 v1 => by
    obtain ⟨n, rfl, ⟨n1, n2⟩, hn, h0, T, r⟩ := r1
    cases v1 with
    | cons d1 d2 =>
      cases d2; cases d1
      refine ⟨n, rfl, n1, n2, fun D hD => ?_⟩
      obtain ⟨I0, bD, oD, pD⟩ := lc_start (vs := vs) (Acc := Acc n) S1 hD h0
      refine lc_range (LcS K b B F1 H1 σ δ1 vs D (Acc n)) I0 (fun i H hi I => ?_) fun H I => lc_fin S1 e1 hD bD oD I r q
      rw [Int.zero_add]
      exact lc_turn (F0 := F1) T hD bD oD pD hn hi I fun F _ => .int _
theorem dn_lcR2 {tr : TA} (Acc : Int → Int → Nat → List PyData → Prop) (h : Da K b tr δ fun ds δ1 => ∃ a n : Int, ds = [.int a, .int n] ∧ (-(2 ^ 62) ≤ a ∧ a < 2 ^ 62 ∧ -(2 ^ 62) ≤ n ∧ n < 2 ^ 62) ∧ (n - a).toNat ≤ 100000 ∧ Acc a n 0 [] ∧ LcT K b g tt te vs δ1 (n - a).toNat (fun i => .int (a + (i : Int))) (Acc a n) ∧ ∀ ds, Acc a n (n - a).toNat ds → R ds (wipeD δ1 vs)) : Dn K b (tLc (iRng2 tr) g tt te vs) δ R :=
  fun B F H σ S Q q => h B F H σ S _ fun as F1 H1 ds δ1 r1 S1 e1 v1 => by
    obtain ⟨a, n, rfl, n1, hn, h0, T, r⟩ := r1
    cases v1 with
    | cons d1 d2 =>
      cases d2 with
      | cons d2 d3 =>
        cases d3; cases d1; cases d2
        refine ⟨a, n, rfl, n1, fun D hD => ?_⟩
        obtain ⟨I0, bD, oD, pD⟩ := lc_start (vs := vs) (Acc := Acc a n) S1 hD h0
        refine lc_range (LcS K b B F1 H1 σ δ1 vs D (Acc a n)) I0 (fun i H hi I => ?_) fun H I => lc_fin S1 e1 hD bD oD I r q
        exact lc_turn (F0 := F1) T hD bD oD pD hn hi I fun F _ => .int _
theorem dn_lcL (Acc : List PyData → Nat → List PyData → Prop) (h : De K b tl δ (toD fun x δ1 => ∃ xs, x = .list xs ∧ xs.length ≤ 100000 ∧ Acc xs 0 [] ∧ LcT K b g tt te vs δ1 xs.length (fun i => xs.getD i .none) (Acc xs) ∧ ∀ ds, Acc xs xs.length ds → R ds (wipeD δ1 vs))) : Dn K b (tLc (iList K tl) g tt te vs) δ R :=
  fun B F H σ S Q q => (dd_of h) B F H σ S _ fun v F1 H1 x δ1 r1 S1 e1 v1 => by
    obtain ⟨ds, rfl, hn, h0, T, r⟩ := r1
    cases v1 with
    | lst q1 q2 =>
      rename_i a xs
      refine ⟨a, rfl, ⟨xs, S1.sub.l q1⟩, fun D hD => ?_⟩
      obtain ⟨I0, bD, oD, pD⟩ := lc_start (vs := vs) (Acc := Acc ds) S1 hD h0
      refine lc_list (xs := xs) (LcS K b B F1 H1 σ δ1 vs D (Acc ds)) I0 (fun i H _ I => ?_) (fun i x H hx I => ?_) fun H I => ?_
      · obtain ⟨F, _, _, S, ex, _⟩ := I.ex
        exact (ex.trans S.sub).l q1
      · obtain ⟨d, hd1, hd2⟩ := DpAll.get' q2 hx
        refine lc_turn (F0 := F1) T hD bD oD pD hn (lt_of_get hd1) I fun F e => ?_
        rw [List.getD_eq_getElem?_getD, hd1]
        exact Dp.mono e hd2
      · rw [show xs.length = ds.length from DpAll.length q2] at I
        exact lc_fin S1 e1 hD bD oD I r q
theorem dn_lcT (Acc : List PyData → Nat → List PyData → Prop) (h : De K b tl δ (toD fun x δ1 => ∃ xs, x = .tuple xs ∧ xs.length ≤ 100000 ∧ Acc xs 0 [] ∧ LcT K b g tt te vs δ1 xs.length (fun i => xs.getD i .none) (Acc xs) ∧ ∀ ds, Acc xs xs.length ds → R ds (wipeD δ1 vs))) : Dn K b (tLc (iTup K tl) g tt te vs) δ R :=
  fun B F H σ S Q q => (dd_of h) B F H σ S _ fun v F1 H1 x δ1 r1 S1 e1 v1 => by
    obtain ⟨ds, rfl, hn, h0, T, r⟩ := r1
    cases v1 with
    | tup q1 q2 =>
      rename_i a xs
      refine ⟨a, rfl, ⟨xs, S1.sub.t q1⟩, fun D hD => ?_⟩
      obtain ⟨I0, bD, oD, pD⟩ := lc_start (vs := vs) (Acc := Acc ds) S1 hD h0
      refine lc_tup (xs := xs) (LcS K b B F1 H1 σ δ1 vs D (Acc ds)) I0 (fun i H _ I => ?_) (fun i x H hx I => ?_) fun H I => ?_
      · obtain ⟨F, _, _, S, ex, _⟩ := I.ex
        exact (ex.trans S.sub).t q1
      · obtain ⟨d, hd1, hd2⟩ := DpAll.get' q2 hx
        refine lc_turn (F0 := F1) T hD bD oD pD hn (lt_of_get hd1) I fun F e => ?_
        rw [List.getD_eq_getElem?_getD, hd1]
        exact Dp.mono e hd2
      · rw [show xs.length = ds.length from DpAll.length q2] at I
        exact lc_fin S1 e1 hD bD oD I r q
/-- the turn, by a function -/
def lcF (n : Nat) (c : Nat → Bool) (f : Nat → PyData) : List PyData := ((List.range n).filter c).map f
theorem lcF_succ {n : Nat} {c : Nat → Bool} {f : Nat → PyData} : lcF (n + 1) c f = lcF n c f ++ if c n = true then [f n] else [] := by
  unfold lcF
  rw [List.range_succ, List.filter_append, List.map_append]
  by_cases h : c n = true <;> simp [h]
theorem LcT.fn {n : Nat} {at_ : Nat → PyData} (c : Nat → Bool) (f : Nat → PyData) (h : ∀ i, i < n → ∃ δ2, TgtOk K g vs (at_ i) δ δ2 ∧ Dt K b tt δ2 fun c' δ3 => δ3 = δ2 ∧ c' = c i ∧ (c i = true → De K b te δ2 (toD fun d δ4 => δ4 = δ2 ∧ d = f i))) :
    LcT K b g tt te vs δ n at_ fun i ds => ds = lcF i c f := fun i ds hi ha => by
  obtain ⟨δ2, h1, h2⟩ := h i hi
  refine ⟨δ2, h1, fun B F H σ S Q q => h2 B F H σ S Q fun c' F2 H2 δ3 r S2 k => q c' F2 H2 δ3 ?_ S2 k⟩
  obtain ⟨e, rfl, r⟩ := r
  refine ⟨e, ?_⟩
  subst ha
  cases hc : c i with
  | true =>
    simp only [if_true]
    refine fun B F H σ S Q q => (r hc) B F H σ S Q fun v F2 H2 a δ2' r' S2 k vr => q v F2 H2 a δ2' ?_ S2 k vr
    cases a with
    | d x => obtain ⟨a1, rfl⟩ := r'; exact ⟨a1, by rw [lcF_succ, hc]; rfl⟩
    | o i' => obtain ⟨ds, z1, a1, a2⟩ := r'; exact ⟨ds, z1, a1, by rw [lcF_succ, hc, a2]; rfl⟩
  | false =>
    simp only [Bool.false_eq_true, if_false]
    rw [lcF_succ, hc]; simp
end
end Ab

set_option Elab.async false
set_option linter.all false
set_option maxRecDepth 100000
set_option maxHeartbeats 2000000
namespace Ab
open PySem PySem.Spec PyProof.Rows L2
/-! dicts with whole numbers as keys -/
def dval (kvs : List (Int × PyData)) (k : Int) : Option PyData := (kvs.find? fun p => decide (p.1 = k)).map (·.2)
def dput (kvs : List (Int × PyData)) (k : Int) (d : PyData) : List (Int × PyData) :=
  if (kvs.any fun p => decide (p.1 = k)) = true then kvs.map (fun p => if p.1 = k then (p.1, d) else p) else kvs ++ [(k, d)]
section
variable {K : Fg} {F : Hp}
theorem kv_find {xs : List (Key × V)} {kvs : List (Int × PyData)} {k : Int} (h : KvAll K F xs kvs) : (valV xs (Sum.inl k)).isSome = (dval kvs k).isSome ∧ ∀ d, dval kvs k = some d → ∃ v, valV xs (Sum.inl k) = some v ∧ Dp K F v d := by
  induction h with
  | nil => exact ⟨rfl, fun d e => by cases e⟩
  | @cons p q ps qs hq t ih =>
    obtain ⟨h1, h2⟩ := hq
    by_cases c : q.1 = k
    · have e1 : p.1 = Sum.inl k := by rw [h1, c]
      have e2 : dval (q :: qs) k = some q.2 := by simp [dval, List.find?_cons, c]
      rw [valV_pos e1, e2]
      exact ⟨rfl, fun d e => by cases e; exact ⟨_, rfl, h2⟩⟩
    · have e1 : ¬ p.1 = (Sum.inl k : Key) := by rw [h1]; intro z; cases z; exact c rfl
      have e2 : dval (q :: qs) k = dval qs k := by simp [dval, List.find?_cons, c]
      rw [valV_neg e1, e2]
      exact ih
theorem kv_put {xs : List (Key × V)} {kvs : List (Int × PyData)} {k : Int} {v : V} {d : PyData} (h : KvAll K F xs kvs) (dp : Dp K F v d) : KvAll K F (putK xs (Sum.inl k) v) (dput kvs k d) := by
  have ea : (xs.any fun kv => decide (kv.1 = (Sum.inl k : Key))) = (kvs.any fun p => decide (p.1 = k)) := by
    induction h with
    | nil => rfl
    | @cons p q ps qs hq t ih =>
      rw [List.any_cons, List.any_cons, ih, hq.1]
      congr 1
      by_cases c : q.1 = k
      · simp [c]
      · have : ¬ (Sum.inl q.1 : Key) = Sum.inl k := fun z => c (by cases z; rfl)
        simp [c]
  unfold putK dput
  rw [ea]
  split
  · clear ea
    rename_i hany
    clear hany
    induction h with
    | nil => exact .nil
    | @cons p q ps qs hq t ih =>
      refine .cons ?_ ih
      show (if p.1 = (Sum.inl k : Key) then (p.1, v) else p).1 = Sum.inl (if q.1 = k then (q.1, d) else q).1 ∧ Dp K F (if p.1 = (Sum.inl k : Key) then (p.1, v) else p).2 (if q.1 = k then (q.1, d) else q).2
      obtain ⟨h1, h2⟩ := hq
      by_cases c : q.1 = k
      · have e1 : p.1 = Sum.inl k := by rw [h1, c]
        rw [if_pos e1, if_pos c]; exact ⟨h1, dp⟩
      · have e1 : ¬ p.1 = (Sum.inl k : Key) := by rw [h1]; intro z; cases z; exact c rfl
        rw [if_neg e1, if_neg c]; exact ⟨h1, h2⟩
  · exact Paired.snoc h ⟨rfl, dp⟩
end
section
variable {K : Fg} {b : Bp} {δ : LS} {te ta tb tc td ty tv : TE} {P : Po} {R : AV → LS → Prop}
theorem Stt.dic {B : Base} {F H : Hp} {σ : L2.St} (S : Stt K b B F H σ δ) {i : Nat} {kvs : List (Int × PyData)} (h : δ[i]? = some (.dic kvs)) : ∃ p xs, σ[i]? = some (some (.ref p)) ∧ H p = some (.dK xs) ∧ F p = none ∧ B.H p = none ∧ KvAll K F xs kvs := by
  obtain ⟨p, xs, h1, h2⟩ := S.ok i _ h
  exact ⟨p, xs, slot_some h1, h2⟩
theorem dic_get {i : Nat} {kvs : List (Int × PyData)} {Q : List (Int × PyData) → Prop} (h : δ[i]? = some (.dic kvs)) (k : Q kvs) : ∃ kvs, δ[i]? = some (.dic kvs) ∧ Q kvs := ⟨kvs, h, k⟩
theorem own_get {i : Nat} {ds : List PyData} {Q : List PyData → Prop} (h : δ[i]? = some (.own ds)) (k : Q ds) : ∃ ds, δ[i]? = some (.own ds) ∧ Q ds := ⟨ds, h, k⟩
theorem de_dnotin (h : De K b ty δ fun y δ1 => De K b td δ1 fun x δ2 => ∃ k, y = .d (.int k) ∧ ∃ i, x = .o i ∧ ∃ kvs, δ2[i]? = some (.dic kvs) ∧ R (.d (.bool (!(dval kvs k).isSome))) δ2) : De K b (tDNotIn ty td) δ R :=
  fun B F H σ S Q q => h B F H σ S _ fun v F1 H1 y δ1 r1 S1 e1 v1 => r1 B F1 H1 σ S1 _ fun u F2 H2 x δ2 r2 S2 e2 v2 => by
    obtain ⟨k, rfl, i, rfl, kvs, hi, r⟩ := r2
    cases v1
    obtain ⟨p, xs, h1, h2, h3, h4, h5⟩ := S2.dic hi
    have : some (some u) = some (some (V.ref p)) := (show σ[i]? = some (some u) from v2).symm.trans h1
    cases this
    refine ⟨p, _, rfl, DGet.k (k := Sum.inl k) h2, ?_⟩
    rw [(kv_find h5).1]
    exact q _ F2 H2 _ δ2 r S2 (e1.trans e2) (.bl _)
theorem de_din (h : De K b ty δ fun y δ1 => De K b td δ1 fun x δ2 => ∃ k, y = .d (.int k) ∧ ∃ i, x = .o i ∧ ∃ kvs, δ2[i]? = some (.dic kvs) ∧ R (.d (.bool (dval kvs k).isSome)) δ2) : De K b (tDIn ty td) δ R :=
  fun B F H σ S Q q => h B F H σ S _ fun v F1 H1 y δ1 r1 S1 e1 v1 => r1 B F1 H1 σ S1 _ fun u F2 H2 x δ2 r2 S2 e2 v2 => by
    obtain ⟨k, rfl, i, rfl, kvs, hi, r⟩ := r2
    cases v1
    obtain ⟨p, xs, h1, h2, h3, h4, h5⟩ := S2.dic hi
    have : some (some u) = some (some (V.ref p)) := (show σ[i]? = some (some u) from v2).symm.trans h1
    cases this
    refine ⟨p, _, rfl, DGet.k (k := Sum.inl k) h2, ?_⟩
    rw [(kv_find h5).1]
    exact q _ F2 H2 _ δ2 r S2 (e1.trans e2) (.bl _)
theorem de_dget (h : De K b td δ fun x δ1 => De K b ty δ1 fun y δ2 => ∃ k, y = .d (.int k) ∧ ∃ i, x = .o i ∧ ∃ kvs, δ2[i]? = some (.dic kvs) ∧ ∃ d, dval kvs k = some d ∧ R (.d d) δ2) : De K b (tDGet td ty) δ R :=
  fun B F H σ S Q q => h B F H σ S _ fun u F1 H1 x δ1 r1 S1 e1 v1 => r1 B F1 H1 σ S1 _ fun v F2 H2 y δ2 r2 S2 e2 v2 => by
    obtain ⟨k, rfl, i, rfl, kvs, hi, d, hd, r⟩ := r2
    cases v2
    obtain ⟨p, xs, h1, h2, h3, h4, h5⟩ := S2.dic hi
    have : some (some u) = some (some (V.ref p)) := (show σ[i]? = some (some u) from v1).symm.trans h1
    cases this
    obtain ⟨v, g1, g2⟩ := (kv_find h5).2 d hd
    refine ⟨p, v, rfl, ?_, q v F2 H2 _ δ2 r S2 (e1.trans e2) g2⟩
    rw [← g1]
    exact DGet.k (k := Sum.inl k) h2
theorem ds_dnew {i : Nat} (h : P.nx (δ.set i (.dic []))) : Ds K b (tAsg tDNewK (gName i)) δ P := fun B F H σ D S E => by
  refine fun p hp => ?_
  obtain ⟨_, _, N⟩ := S.newL hp (ds := []) (xs := []) .nil
  have nO : ¬ Own σ δ p := fun ⟨i, s, h1, h2, h3⟩ => N.ap i s h1 h2 h3
  have S1 : Stt K b B F (upd H p (.dK [])) σ δ := S.updN N.f N.b nO (fun ps z => by rw [hp] at z; exact (nomatch z))
  refine E.nx F _ _ _ h (S1.set (fun _ => ⟨p, [], rfl, upd_same, N.f, N.b, .nil⟩) (.inr fun j sj q _ hj mj hq => ?_)) (Ex.refl F)
  cases hq
  exact N.ap j sj hj mj
theorem ds_dput (h : De K b tv δ (toD fun d δ1 => De K b td δ1 fun x δ2 => De K b ty δ2 fun y δ3 => ∃ k, y = .d (.int k) ∧ ∃ i, x = .o i ∧ ∃ kvs, δ3[i]? = some (.dic kvs) ∧ kvs.length < 100000 ∧ P.nx (δ3.set i (.dic (dput kvs k d))))) : Ds K b (sDPut td ty tv) δ P :=
  fun B F H σ D S E => (dd_of h) B F H σ S _ fun v F1 H1 d δ1 r1 S1 e1 v1 => r1 B F1 H1 σ S1 _ fun u F2 H2 x δ2 r2 S2 e2 v2 => r2 B F2 H2 σ S2 _ fun v' F3 H3 y δ3 r3 S3 e3 v3 => by
    obtain ⟨k, rfl, i, rfl, kvs, hi, hl, r⟩ := r3
    cases v3
    obtain ⟨p, xs, h1, h2, h3, h4, h5⟩ := S3.dic hi
    have : some (some u) = some (some (V.ref p)) := (show σ[i]? = some (some u) from v2).symm.trans h1
    cases this
    refine ⟨p, _, rfl, DPut.k (k := Sum.inl k) h2 (sz_lt (by rw [Paired.length h5]; exact hl)), E.nx F3 _ σ _ r ?_ ((e1.trans e2).trans e3).ex⟩
    exact S3.wr hi rfl (slot_of h1) h3 (.inl h4) ⟨_, h2⟩ (fun ps z => by rw [h2] at z; cases z) rfl ⟨p, _, rfl, upd_same, h3, h4, kv_put h5 (Dp.mono (e2.trans e3).ex v1)⟩
end
end Ab

set_option Elab.async false
set_option linter.all false
set_option maxRecDepth 100000
set_option maxHeartbeats 2000000
namespace Ab
open PySem PySem.Spec PyProof.Rows L2
/-! plain data: it equals just what it is -/
def Pl : Nat → PyData → Prop
  | _, .none => True
  | _, .int _ => True
  | 0, _ => False
  | _, .str x => PyData.canLay0 (.str x) = true
  | n + 1, .tuple xs => ∀ x ∈ xs, Pl n x
  | n + 1, .list xs => ∀ x ∈ xs, Pl n x
  | _, _ => False
theorem lay_all : ∀ {xs : List PyData}, (∀ x ∈ xs, PyData.canLay0 x = true) → PyData.canLayAll0 xs = true
  | [], _ => by simp [PyData.canLayAll0]
  | x :: xs, h => by
    simp only [PyData.canLayAll0, Bool.and_eq_true]
    exact ⟨h x List.mem_cons_self, lay_all fun y hy => h y (List.mem_cons_of_mem _ hy)⟩
theorem depth_all {n : Nat} : ∀ {xs : List PyData}, (∀ x ∈ xs, PyData.depth x ≤ n) → PyData.depthAll xs ≤ n
  | [], _ => by simp [PyData.depthAll]
  | x :: xs, h => by
    simp only [PyData.depthAll]
    exact Nat.max_le.mpr ⟨h x List.mem_cons_self, depth_all fun y hy => h y (List.mem_cons_of_mem _ hy)⟩
theorem pl_ok : ∀ (n : Nat) (d : PyData), Pl n d → PyData.canLay0 d = true ∧ PyData.depth d ≤ n
  | n, .none, _ => by cases n <;> simp [PyData.canLay0, PyData.depth]
  | n, .int i, _ => by cases n <;> simp [PyData.canLay0, PyData.depth]
  | n + 1, .str x, h => ⟨h, by simp [PyData.depth]⟩
  | n + 1, .tuple xs, h => by
    have h : ∀ x ∈ xs, Pl n x := h
    simp only [PyData.canLay0, PyData.depth]
    exact ⟨lay_all fun x hx => (pl_ok n x (h x hx)).1, Nat.succ_le_succ (depth_all fun x hx => (pl_ok n x (h x hx)).2)⟩
  | n + 1, .list xs, h => by
    have h : ∀ x ∈ xs, Pl n x := h
    simp only [PyData.canLay0, PyData.depth]
    exact ⟨lay_all fun x hx => (pl_ok n x (h x hx)).1, Nat.succ_le_succ (depth_all fun x hx => (pl_ok n x (h x hx)).2)⟩
  | 0, .str _, h => h.elim
  | 0, .tuple _, h => h.elim
  | 0, .list _, h => h.elim
  | 0, .bool _, h => h.elim
  | 0, .dict _, h => h.elim
  | n + 1, .bool _, h => h.elim
  | n + 1, .dict _, h => h.elim
theorem shaped_pl {n : Nat} {d : PyData} (h : Pl n d) (hn : n ≤ 64 := by decide) : SeqAt.shaped d = true := by
  obtain ⟨h1, h2⟩ := pl_ok n d h
  show (d.canLay0 && decide (d.depth ≤ 64)) = true
  rw [Bool.and_eq_true]
  exact ⟨h1, decide_eq_true (by omega)⟩
theorem eqv_all {R : PyData → Prop} (ih : ∀ x, R x → ∀ y, PyData.eqv x y = true → R y → x = y) : ∀ (xs ys : List PyData), (∀ x ∈ xs, R x) → (∀ y ∈ ys, R y) → PyData.eqvAll xs ys = true → xs = ys
  | [], [], _, _, _ => rfl
  | x :: xs, y :: ys, h1, h2, h => by
    simp only [PyData.eqvAll, Bool.and_eq_true] at h
    rw [ih x (h1 x List.mem_cons_self) y h.1 (h2 y List.mem_cons_self), eqv_all ih xs ys (fun z hz => h1 z (List.mem_cons_of_mem _ hz)) (fun z hz => h2 z (List.mem_cons_of_mem _ hz)) h.2]
  | [], _ :: _, _, _, h => by simp [PyData.eqvAll] at h
  | _ :: _, [], _, _, h => by simp [PyData.eqvAll] at h
theorem eqv_refl_all : ∀ {xs : List PyData}, (∀ x ∈ xs, PyData.eqv x x = true) → PyData.eqvAll xs xs = true
  | [], _ => by simp [PyData.eqvAll]
  | x :: xs, h => by
    simp only [PyData.eqvAll, Bool.and_eq_true]
    exact ⟨h x List.mem_cons_self, eqv_refl_all fun y hy => h y (List.mem_cons_of_mem _ hy)⟩
theorem eqv_refl : ∀ (n : Nat) (d : PyData), Pl n d → PyData.eqv d d = true
  | n, .none, _ => by simp [PyData.eqv]
  | n, .int i, _ => by simp [PyData.eqv]
  | n, .str x, h => by simp [PyData.eqv]
  | n + 1, .tuple xs, h => by
    have h : ∀ x ∈ xs, Pl n x := h
    simp only [PyData.eqv]
    exact eqv_refl_all fun x hx => eqv_refl n x (h x hx)
  | n + 1, .list xs, h => by
    have h : ∀ x ∈ xs, Pl n x := h
    simp only [PyData.eqv]
    exact eqv_refl_all fun x hx => eqv_refl n x (h x hx)
  | 0, .tuple _, h => h.elim
  | 0, .list _, h => h.elim
  | 0, .bool _, h => h.elim
  | 0, .dict _, h => h.elim
  | n + 1, .bool _, h => h.elim
  | n + 1, .dict _, h => h.elim
theorem eqv_eq : ∀ (n : Nat) (d : PyData), Pl n d → ∀ e, PyData.eqv d e = true → Pl n e → d = e := by
  intro n
  induction n with
  | zero =>
    intro d hd e h he
    cases d with
    | none => cases e with
      | none => rfl
      | int _ => simp [PyData.eqv] at h
      | bool _ => exact he.elim
      | str _ => exact he.elim
      | tuple _ => exact he.elim
      | list _ => exact he.elim
      | dict _ => exact he.elim
    | int i => cases e with
      | none => simp [PyData.eqv] at h
      | int j => simp [PyData.eqv] at h; rw [h]
      | bool _ => exact he.elim
      | str _ => exact he.elim
      | tuple _ => exact he.elim
      | list _ => exact he.elim
      | dict _ => exact he.elim
    | bool _ => exact hd.elim
    | str _ => exact hd.elim
    | tuple _ => exact hd.elim
    | list _ => exact hd.elim
    | dict _ => exact hd.elim
  | succ n ih =>
    intro d hd e h he
    cases d with
    | none => cases e <;> simp [PyData.eqv] at h ⊢
    | int i => cases e with
      | int j => simp [PyData.eqv] at h; rw [h]
      | bool _ => exact he.elim
      | none => simp [PyData.eqv] at h
      | str _ => simp [PyData.eqv] at h
      | tuple _ => simp [PyData.eqv] at h
      | list _ => simp [PyData.eqv] at h
      | dict _ => exact he.elim
    | str x => cases e with
      | str y => simp [PyData.eqv] at h; rw [h]
      | int j => simp [PyData.eqv] at h
      | bool _ => exact he.elim
      | none => simp [PyData.eqv] at h
      | tuple _ => simp [PyData.eqv] at h
      | list _ => simp [PyData.eqv] at h
      | dict _ => exact he.elim
    | tuple xs => cases e with
      | tuple ys =>
        simp only [PyData.eqv] at h
        rw [eqv_all (R := Pl n) (fun x hx y hxy hy => ih x hx y hxy hy) xs ys hd he h]
      | int j => simp [PyData.eqv] at h
      | bool _ => exact he.elim
      | none => simp [PyData.eqv] at h
      | str _ => simp [PyData.eqv] at h
      | list _ => simp [PyData.eqv] at h
      | dict _ => exact he.elim
    | list xs => cases e with
      | list ys =>
        simp only [PyData.eqv] at h
        rw [eqv_all (R := Pl n) (fun x hx y hxy hy => ih x hx y hxy hy) xs ys hd he h]
      | int j => simp [PyData.eqv] at h
      | bool _ => exact he.elim
      | none => simp [PyData.eqv] at h
      | str _ => simp [PyData.eqv] at h
      | tuple _ => simp [PyData.eqv] at h
      | dict _ => exact he.elim
    | bool _ => exact hd.elim
    | dict _ => exact hd.elim
theorem eqv_pl {n : Nat} {d e : PyData} (h1 : Pl n d) (h2 : Pl n e) : PyData.eqv d e = true ↔ d = e :=
  ⟨fun h => eqv_eq n d h1 e h h2, fun h => by subst h; exact eqv_refl n d h1⟩
theorem eqv_decide {n : Nat} {d e : PyData} {P : Prop} [Decidable P] (h1 : Pl n d) (h2 : Pl n e) (h : d = e ↔ P) : PyData.eqv d e = decide P := by
  rw [Bool.eq_iff_iff, eqv_pl h1 h2, h, decide_eq_true_iff]
theorem eqv_boolB (a c : Bool) : PyData.eqv (.bool a) (.bool c) = (a == c) := by simp [PyData.eqv]
def natsD (l : List Nat) : List PyData := l.map fun x : Nat => .int (x : Int)
@[simp] theorem natsD_len (l : List Nat) : (natsD l).length = l.length := List.length_map ..
theorem natsD_pl {n : Nat} (l : List Nat) : ∀ x ∈ natsD l, Pl n x := fun x hx => by
  obtain ⟨a, _, rfl⟩ := List.mem_map.mp hx
  cases n <;> trivial
theorem natsD_inj {l m : List Nat} (h : natsD l = natsD m) : l = m := by
  unfold natsD at h
  exact (List.map_inj_right (fun (a b : Nat) e => by injection e with e; exact Int.ofNat.inj e)).mp h
theorem natsD_get {l : List Nat} {j : Nat} (h : j < l.length) : (natsD l).getD j .none = .int (l.getD j 0 : Nat) := by
  unfold natsD
  rw [List.getD_eq_getElem?_getD, List.getElem?_map, List.getElem?_eq_getElem h, List.getD_eq_getElem?_getD, List.getElem?_eq_getElem h]; rfl
theorem shaped_bool (a : Bool) : SeqAt.shaped (.bool a) = true := by
  show ((PyData.bool a).canLay0 && decide ((PyData.bool a).depth ≤ 64)) = true
  simp [PyData.canLay0, PyData.depth]
section
variable {K : Fg} {b : Bp} {δ : LS} {P : Po}
theorem cut_to (xs : List PyData) {j : Nat} (h : j ≤ xs.length) : cutD xs none (some (j : Int)) = xs.take j := by
  unfold cutD
  rw [HT.sIx_none, HT.sIx_nat, Nat.min_eq_left h, List.drop_zero, Nat.sub_zero]
theorem cut_from (xs : List PyData) {j : Nat} (h : j ≤ xs.length) : cutD xs (some (j : Int)) none = xs.drop j := by
  unfold cutD
  rw [HT.sIx_none, HT.sIx_nat, Nat.min_eq_left h, ← List.length_drop, List.take_length]
theorem iteR {A B : Prop} {c : Bool} (h : c = true) (k : A) : if c = true then A else B := by rw [if_pos h]; exact k
theorem iteL {A B : Prop} {c : Bool} (h : c = false) (k : B) : if c = true then A else B := by subst h; exact k
/-- a, b, c = x, y, z -/
theorem ds_par3 {i j l : Nat} {tr : TA} (h : Da K b tr δ fun ds δ1 => ∃ x y z, ds = [x, y, z] ∧ P.nx (((δ1.set i (.dat x)).set j (.dat y)).set l (.dat z))) : Ds K b (tPar3 i j l tr) δ P := fun B F H σ D S E =>
  h B F H σ S _ fun vs F1 H1 ds δ1 r1 S1 e1 v1 => by
    obtain ⟨x, y, z, rfl, k⟩ := r1
    cases v1 with
    | cons d1 d2 => cases d2 with
      | cons d2 d3 => cases d3 with
        | cons d3 d4 =>
          cases d4
          exact ⟨_, _, _, rfl, E.nx F1 H1 _ _ k (((S1.setD d1).setD d2).setD d3) e1.ex⟩
end
/-! the rules within a comprehension's block: its K is the def's -/
section
variable {X : Cx} {K : Fg}
theorem k_eqD (hK : X.K = K) (hu : X.A.units + 64 < cLine) : OpR X (compareOp .Eq) (rEqD K) := hK ▸ op_eqD hu
theorem k_neD (hK : X.K = K) (hu : X.A.units + 64 < cLine) : OpR X (compareOp .NotEq) (rNeD K) := hK ▸ op_neD hu
theorem k_in (hK : X.K = K) : OpR X (compareOp .In) (rIn K false) := hK ▸ op_in_seq
theorem k_notIn (hK : X.K = K) : OpR X (compareOp .NotIn) (rIn K true) := hK ▸ op_notIn_seq
theorem k_ix (hK : X.K = K) : IxR X (rIxS K) := hK ▸ ix_sq
theorem k_len (hK : X.K = K) : CallR X (.builtin "len") (rLenS K) := hK ▸ cr_len
theorem k_sum (hK : X.K = K) (hc : X.calm = true) : CallR X (.builtin "sum") (rSum K) := hK ▸ cr_sum hc
theorem k_list (hK : X.K = K) : CallR X (.type "list") (rListS K) := hK ▸ cr_list
theorem k_tup (hK : X.K = K) : CallR X (.type "tuple") (rTupS K) := hK ▸ cr_tup
theorem k_sorted (hK : X.K = K) : CallR X (.builtin "sorted") (rSorted K) := hK ▸ cr_sorted
theorem k_sll (hK : X.K = K) : SlR X (rSlL K) := hK ▸ sl_list
theorem k_slt (hK : X.K = K) : SlR X (rSlT K) := hK ▸ sl_tup
theorem k_pg {pos : Pos} {es : List Expr} {k : Nat} {t : TGs} {n : Nat} (hK : X.K = K) (hc : X.calm = true) (h : PGs X es t)
    (hn : (assignEach es X.env).length = n := by rfl) (hst : (assignEach es X.env).findIdx? (·.1) = none := by rfl) : PG X (.Tuple es k pos) (gTup K n t) := hK ▸ pg_tup hc h hn hst
theorem k_pil {tg l : Expr} {tl : TE} (hK : X.K = K) (hl : PE X l tl) : PI X tg l (iList K tl) := hK ▸ pi_list hl
theorem k_pit {tg l : Expr} {tl : TE} (hK : X.K = K) (hl : PE X l tl) : PI X tg l (iTup K tl) := hK ▸ pi_tup hl
end
end Ab

set_option Elab.async false
set_option linter.all false
set_option maxRecDepth 100000
set_option maxHeartbeats 2000000
namespace Gx
open PySem PySem.Spec PyProof.Rows L2
/-! the elements of a generator expression: a small language -/
def RdN (cenv : Env) (h : Heap) (y : Str) (v : V) : Prop := ∃ u m, RelV v u ∧ h.Ns cenv.locals m ∧ Look cenv h m y u ∧ cenv.scope.kind = .function
def EG (prog : Program) (w : World) (elt : Expr) (ρ : List (Str × V)) (v : V) : Prop := ∀ (cenv : Env) (A : Around) (E : Value → Shared → Prop) (s : Shared), (∀ p ∈ ρ, RdN cenv s.heap p.1 p.2) →
  wpAny (model prog w) A (eval elt cenv) (fun u s3 => RelV v u ∧ Keeps s s3) E s
theorem Keeps.tok (s : Shared) (k : Nat) : Keeps s { s with toks := k } := ⟨s.heap, k, rfl, fun _ _ e => e⟩
theorem Keeps.trans {a b c : Shared} (x : Keeps a b) (y : Keeps b c) : Keeps a c := by
  obtain ⟨h, k, rfl, e⟩ := x
  obtain ⟨h', k', rfl, e'⟩ := y
  exact ⟨h', k', rfl, fun b o q => e' b o (e b o q)⟩
theorem Keeps.get {a b : Shared} (x : Keeps a b) {c : Addr} {o : Obj} (e : a.heap.get? c = some o) : b.heap.get? c = some o := by
  obtain ⟨h, k, rfl, q⟩ := x
  exact q c o e
theorem RdN.keeps {cenv : Env} {a b : Shared} {y : Str} {v : V} (r : RdN cenv a.heap y v) (k : Keeps a b) : RdN cenv b.heap y v := by
  obtain ⟨u, m, r1, ⟨o, es, ep, e, r2⟩, r3, r4⟩ := r
  refine ⟨u, m, r1, ⟨o, es, ep, Keeps.get k e, r2⟩, ?_, r4⟩
  rcases r3 with z | ⟨z, c, hc, o', e', d⟩
  · exact .inl z
  · exact .inr ⟨z, c, hc, o', Keeps.get k e', d⟩
section
variable {prog : Program} {w : World} {ρ : List (Str × V)} {a b : Expr} {pos : Pos}
theorem eg_name {x : Str} {v : V} (h : (x, v) ∈ ρ) (hd : (x == ("__debug__" : Str)) = false := by decide) (hcd : (x == ("__classdict__" : Str)) = false := by decide) : EG prog w (.Name x pos) ρ v := fun cenv A E s hr => by
  obtain ⟨u, m, r, hn, l, hk⟩ := hr _ h
  rcases l with ⟨hl, hm⟩ | ⟨hl, c, hc, hcell⟩
  · exact wpAny_Name (wpAny_loadName_local hk hl hn hm ⟨r, Keeps.tok s s.toks⟩) hd
  · rcases hl with hl | hl
    · exact wpAny_Name (wpAny_loadName_cell hk hl hc hcell ⟨r, Keeps.tok s s.toks⟩) hd
    · exact wpAny_Name (wpAny_loadName_free hk hl hc hcell ⟨r, Keeps.tok s s.toks⟩ hcd) hd
theorem eg_int {i : Int} {j} : EG prog w (.Constant (.int i) j pos) ρ (.int i) := fun cenv A E s hr =>
  wpAny_Constant_int ⟨⟨_, rfl⟩, Keeps.tok _ _⟩
theorem eg_bin {op : Operator} {f : Int → Int → Int} {C : Int → Int → Prop} {i j : Int}
    (rule : ∀ (i j : Int) (t u : Tok) (A : Around) (E : Value → Shared → Prop) (Q : Value → Shared → Prop) (s : Shared), C i j → Q (.int (f i j) s.toks) { s with toks := s.toks + 1 } → wpAny (model prog w) A (binaryOp op (.int i t) (.int j u)) Q E s)
    (ha : EG prog w a ρ (.int i)) (hb : EG prog w b ρ (.int j)) (hc : C i j) : EG prog w (.BinOp a op b pos) ρ (.int (f i j)) := fun cenv A E s hr => by
  refine wpAny_BinOp (wpAny_mono (ha cenv A E s hr) (fun u s1 ⟨r1, k1⟩ => wpAny_mono (hb cenv A E s1 fun p hp => (hr p hp).keeps k1) (fun u2 s2 ⟨r2, k2⟩ => ?_) fun _ _ e => e) fun _ _ e => e)
  obtain ⟨t, rfl⟩ := r1
  obtain ⟨t', rfl⟩ := r2
  exact rule i j t t' A E _ s2 hc ⟨⟨_, rfl⟩, Keeps.trans (Keeps.trans k1 k2) (Keeps.tok _ _)⟩
theorem eg_add {i j : Int} (ha : EG prog w a ρ (.int i)) (hb : EG prog w b ρ (.int j)) : EG prog w (.BinOp a .Add b pos) ρ (.int (i + j)) :=
  eg_bin (C := fun _ _ => True) (fun _ _ _ _ _ _ _ _ _ q => PyProof.Rows.add_int q) ha hb trivial
theorem eg_sub {i j : Int} (ha : EG prog w a ρ (.int i)) (hb : EG prog w b ρ (.int j)) : EG prog w (.BinOp a .Sub b pos) ρ (.int (i - j)) :=
  eg_bin (C := fun _ _ => True) (fun _ _ _ _ _ _ _ _ _ q => PyProof.Rows.sub_int q) ha hb trivial
theorem eg_mul {i j : Int} (ha : EG prog w a ρ (.int i)) (hb : EG prog w b ρ (.int j)) (hc : CMulW i j) : EG prog w (.BinOp a .Mult b pos) ρ (.int (i * j)) :=
  eg_bin (C := CMulW) (fun _ _ _ _ _ _ _ _ hc q => mul_int q hc.ok) ha hb hc
theorem eg_mod {i j : Int} (ha : EG prog w a ρ (.int i)) (hb : EG prog w b ρ (.int j)) (hc : 0 < j) : EG prog w (.BinOp a .Mod b pos) ρ (.int (i % j)) :=
  eg_bin (C := fun _ j => 0 < j) (fun i j _ _ _ _ _ _ hc q => mod_int' (by omega) (by rw [Int.fmod_eq_emod_of_nonneg i (by omega)]; exact q)) ha hb hc
theorem eg_neg {i : Int} (ha : EG prog w a ρ (.int i)) : EG prog w (.UnaryOp .USub a pos) ρ (.int (-i)) := fun cenv A E s hr => by
  refine UnaryOp_ (wpAny_mono (ha cenv A E s hr) (fun u s1 ⟨r1, k1⟩ => ?_) fun _ _ e => e)
  obtain ⟨t, rfl⟩ := r1
  exact neg_int ⟨⟨_, rfl⟩, Keeps.trans k1 (Keeps.tok _ _)⟩
end
/-! the generator -/
/-- the scope of a generator expression: its own names, captured ones -/
structure GS (env : Env) (scope : Scope) (own : List Str) : Prop where
  kind : scope.kind = .function
  co : scope.isCoroutine = false
  cell : ∀ y ∈ scope.names, y.2 ≠ .cell
  dot : scope.names.lookup (".0" : Str) = some NameKind.local
  loc : ∀ x ∈ own, scope.names.lookup x = some .local
  free : ∀ y ∈ scope.names, y.2 = .free → env.scope.names.lookup y.1 = some .cell ∨ env.scope.names.lookup y.1 = some .free
/-- captured names and their values -/
def Cap (X : Cx) (scope : Scope) (σ : L2.St) (ρ : List (Str × V)) : Prop := ∀ p ∈ ρ, scope.names.lookup p.1 = some .free ∧ (X.env.scope.names.lookup p.1 = some .cell ∨ X.env.scope.names.lookup p.1 = some .free) ∧ ∃ i : Nat, X.N[i]? = some p.1 ∧ σ[i]? = some (some p.2)
/-- the walked thing, made in the state s1: s2 behind iter(..) -/
structure Src (X : Cx) (s1 s2 : Shared) (P I : Addr) (xs : List V) (fp wr : List Addr) (Pf : Nat → Value → Prop) (St : Nat → Heap → Prop) : Prop where
  sh : s2 = { s1 with heap := s2.heap, toks := s2.toks }
  keep : ∀ b o, s1.heap.get? b = some o → s2.heap.get? b = some o
  size : s1.heap.objs.size ≤ s2.heap.objs.size
  wrN : ∀ b ∈ wr, s1.heap.objs.size ≤ b
  fpP : ∀ b ∈ fp, b < s2.heap.objs.size ∧ b ≠ P
  walk : ∀ A' : Around, A'.handled = none → Walks X.prog X.w A' I fp wr xs.length Pf St
  st : St 0 s2.heap
  item : ∀ i v, Pf i v → ∃ x, xs[i]? = some x ∧ RelV x v
/-- the generator g over ys, ready to be walked -/
def Ready (X : Cx) (pins : List (Addr × Obj)) (σ : L2.St) (H1 : Hp) (P : Addr) (ys : List V) (g : Addr) (s5 : Shared) : Prop :=
  ∃ (fp wr : List Addr) (G : Array GenState → Array GenState → Prop) (F : Nat → Value → Prop) (St : Nat → Shared → Prop),
    WalksS X.prog X.w X.A.in4 g fp wr G ys.length F St ∧ St 0 s5 ∧ (∀ b ∈ fp, b < s5.heap.objs.size) ∧ g ∈ fp ∧ (∀ i s9, St i s9 → s9.TypeIs (.ref g) "generator") ∧
    (∀ j v, F j v → ∃ y, ys[j]? = some y ∧ RelV y v) ∧ ∀ s', Moved wr G s5 s' → ∃ H2, GxR.Tabbed P H1 H2 ∧ Inv X pins σ H2 s'
section
variable {X : Cx} {pins : List (Addr × Obj)} {σ : L2.St} {s : Shared}
theorem lookup_mem {α : Type} {l : List (Str × α)} {y : Str} {v : α} (h : l.lookup y = some v) : (y, v) ∈ l := by
  induction l with
  | nil => cases h
  | cons p ps ih =>
    obtain ⟨a, b⟩ := p
    rw [List.lookup_cons] at h
    by_cases c : y == a
    · rw [c] at h
      cases h
      have := eq_of_beq c
      subst this
      exact List.mem_cons_self
    · have c' : (y == a) = false := by simpa using c
      rw [c'] at h
      exact List.mem_cons_of_mem _ (ih h)
/-- the captured names can be read within -/
theorem cap_rd {scope : Scope} {ρ : List (Str × V)} {H1 : Hp} {s1 : Shared} (I1 : Inv X pins σ H1 s1) (C : Cap X scope σ ρ) (hk : scope.kind = .function) (hfree : ∀ y ∈ scope.names, y.2 = .free → ∃ c, X.env.cells.lookup y.1 = some c)
    {cenv : Env} {h2 : Heap} {m2 : Str → Option Value} (h1 : cenv.scope = scope) (h3 : cenv.cells = cloFrom X.env.cells scope.names []) (hn : h2.Ns cenv.locals m2)
    (kp : ∀ b o, H1 b = none → s1.heap.get? b = some o → h2.get? b = some o) : ∀ p ∈ ρ, RdN cenv h2 p.1 p.2 := fun p hp => by
  obtain ⟨c1, c2, i, c3, c4⟩ := C p hp
  obtain ⟨m, _, hl⟩ := I1.loc
  obtain ⟨u, r, l⟩ := hl i p.1 p.2 c3 c4 (.inr c2)
  rcases l with ⟨z, _⟩ | ⟨_, c, hc, o, ho, hd⟩
  · have z : X.env.scope.names.lookup p.1 = some .local := z
    rcases c2 with c2 | c2 <;> rw [z] at c2 <;> cases c2
  · refine ⟨u, m2, r, hn, .inr ⟨.inr (by show cenv.scope.names.lookup p.1 = _; rw [h1]; exact c1), c, ?_, o, kp c o (I1.freeC p.1 c hc) ho, hd⟩, by rw [h1]; exact hk⟩
    rw [h3]
    exact NdefX.clo_has hfree (lookup_mem c1) hc
theorem gen1 {c P : Addr} {elt iter : Expr} {x : Str} {px gpos : Pos} {scope : Scope} {k : Nat} {Q' : Value → Shared → Prop}
    (hr : Room k X.A) (TB : GxR.TabB X.base X.mg c P) (hcode : X.env.code = .ref c) (S : GS X.env scope [x]) (hs : ∀ v, genFold iter X.env v = pure v) (ok : X.Ok)
    (h : wpAny (model X.prog X.w) X.A (eval iter X.env) (fun xv s1 => ∃ H1, Inv X pins σ H1 s1 ∧ GxR.TabG H1 P ∧ wpAny (model X.prog X.w) X.A (pyIter xv) (fun it s2 => ∃ (I : Addr) (xs ys : List V) (ρ : List (Str × V)) (fp wr : List Addr) (Pf : Nat → Value → Prop) (St : Nat → Heap → Prop),
      it = .ref I ∧ Cap X scope σ ρ ∧ Src X s1 s2 P I xs fp wr Pf St ∧ ys.length = xs.length ∧ (∀ (i : Nat) (v : V), xs[i]? = some v → ∃ y, ys[i]? = some y ∧ EG X.prog X.w elt ((x, v) :: ρ) y) ∧ ∀ g s5, Ready X pins σ H1 P ys g s5 → Q' (.ref g) s5) X.xe s1) X.xe s) :
    wpAny (model X.prog X.w) X.A (eval (.GeneratorExp elt [⟨.Name x px, iter, [], 0⟩] scope gpos) X.env) Q' X.xe s := by
  have Sf : ∀ y ∈ scope.names, y.2 = .free → ∃ c, X.env.cells.lookup y.1 = some c := fun y hy e => ok.has _ (S.free y hy e)
  refine wpAny_GeneratorExp_walksQ hr.hd S.co (closure_ok Sf) S.cell S.dot (S.loc x List.mem_cons_self) S.kind (by have := hr.dp; omega) ?_ hs
  refine thn h fun xv s1 ⟨H1, I1, ⟨ps, hP, ht⟩, h1⟩ => thn h1 fun it s2 ⟨I, xs, ys, ρ, fp, wr, Pf, S0, eI, C, W, hl, hel, hQ⟩ => ?_
  have hPs : s1.heap.get? P = some { cls := .none, data := .fields ps } := I1.hok P _ hP
  have hP2 := W.keep _ _ hPs
  have cd : PySem.W.CodeHd s2.heap c P := TB.code.keeps fun b u e => W.keep _ _ (I1.bk b u e)
  have lim2 : s2.heap.NoLimit := I1.nolimit.keeps W.keep
  have s2os : s2.os = s1.os := by rw [W.sh]
  have cont : ∀ (code : Value) (h3 : Heap) (tk : Nat) (ps' : Array Value), Heap.ExtBut P s2.heap h3 → s2.heap.objs.size ≤ h3.objs.size → h3.get? P = some { cls := .none, data := .fields ps' } → (∃ more, ps' = ps ++ more) → TriplesOk ps'.toList →
      wpAny (model X.prog X.w) X.A (builtinsFor X.env.globals X.env.builtins) (fun bi s₄ =>
        ∃ Ia fp wr n₀ Pf St₀ pz F, it = .ref Ia ∧ (∀ A' : Around, A'.handled = none → Walks X.prog X.w A' Ia fp wr n₀ Pf St₀) ∧ St₀ 0 s₄.heap ∧ (∀ b ∈ fp, b < s₄.heap.objs.size) ∧ s₄.heap.NoLimit ∧ cStatics ∉ wr ∧
          (∀ href : Heap, (∀ b o, s₄.heap.get? b = some o → href.get? b = some o) →
            QuietGen X.prog X.w (genEnv scope (cloFrom X.env.cells scope.names []) s₄.heap.objs.size code bi X.env) x [] elt (List.range s₄.heap.objs.size) wr Pf pz F href) ∧
          (∀ a h₅ tk gs, gs.bare = true → s₄.heap.objs.size < a → h₅.objs.size = a + 1 → (∀ b o, s₄.heap.get? b = some o → h₅.get? b = some o) →
            WalksS X.prog X.w X.A.in4 a (a :: s₄.heap.objs.size :: List.range s₄.heap.objs.size) (s₄.heap.objs.size :: wr) (GenOnlyQ s₄.gens.size) (passing pz n₀ 0).length
              (fun j y => ∃ i, (passing pz n₀ 0)[j]? = some i ∧ F i y) (GenAt X.prog X.w X.A.in4 a s₄.gens.size s₄.heap.objs.size (List.range s₄.heap.objs.size) wr pz n₀ F) →
            GenAt X.prog X.w X.A.in4 a s₄.gens.size s₄.heap.objs.size (List.range s₄.heap.objs.size) wr pz n₀ F 0 { s₄ with gens := s₄.gens.push gs, toks := tk, heap := h₅ } →
            Q' (.ref a) { s₄ with gens := s₄.gens.push gs, toks := tk, heap := h₅ })) X.xe { s2 with heap := h3, toks := tk } := by
    intro code h3 tk ps' hx hsz hP3 hmore ht3
    obtain ⟨bm, ob, e1, e2, e3, e4, e5, e6, e7, e8⟩ := TB.bm
    have hcP : cStatics ≠ P := fun e => by
      obtain ⟨_, hns, _⟩ := I1.nolimit
      obtain ⟨o', es, ep, ho, hd, _⟩ := hns
      rw [e, hPs] at ho
      cases ho
      cases hd
    have hcl : cStatics < s1.heap.objs.size := let ⟨_, hns, _⟩ := I1.nolimit; hns.lt
    have keep3 : ∀ b u, b ≠ P → s1.heap.get? b = some u → h3.get? b = some u := fun b u hb e => hx b u hb (W.keep b u e)
    refine wpAny_builtinsFor (m := X.mg) (by rw [I1.ok.glob]; exact ((I1.mod.glob.keeps I1.bk).keeps W.keep).extBut hx TB.gP) e1 e2 (keep3 _ _ e4 (I1.bk _ _ e5)) e6 e7 e8 ?_
    refine ⟨I, fp, wr, xs.length, Pf, S0, (fun _ => true), (fun i y => ∃ z, ys[i]? = some z ∧ RelV z y), eI, W.walk, ?_, ?_, lim2.extBut hx hcP, ?_, ?_, ?_⟩
    · exact (W.walk X.A hr.hd).frame _ _ _ W.st fun b hb u e => hx b u (W.fpP b hb).2 e
    · intro b hb
      exact Nat.lt_of_lt_of_le (W.fpP b hb).1 hsz
    · intro z
      exact absurd hcl (Nat.not_lt.mpr (W.wrN _ z))
    · intro href hhref
      refine ⟨fun A' E' i v s₂ m₂ hA hPv hn hm hk => ?_, fun A' E' i v s₂ m₂ hA hPv hp hn hm hk => ?_⟩
      · simp only [List.forIn_nil]
        exact wpAny_pure ⟨rfl, GxR.keeps_refl _⟩
      · obtain ⟨xv', hxi, rx⟩ := W.item i v hPv
        obtain ⟨y, hy, eg⟩ := hel i xv' hxi
        refine wpAny_mono (eg (genEnv scope (cloFrom X.env.cells scope.names []) h3.objs.size code _ X.env) A' E' s₂ fun p hp => ?_) (fun u s3 r => ⟨⟨y, hy, r.1⟩, r.2⟩) fun _ _ e => e
        rcases List.mem_cons.mp hp with rfl | hp
        · exact ⟨v, m₂, rx, hn, .inl ⟨S.loc x List.mem_cons_self, hm⟩, S.kind⟩
        · refine cap_rd I1 C S.kind Sf rfl rfl hn (fun b o hb e => ?_) p hp
          have bP : b ≠ P := fun z => by rw [z, hP] at hb; cases hb
          refine hk b (List.mem_range.mpr (Nat.lt_of_lt_of_le (Nat.lt_of_lt_of_le (Heap.lt_size e) W.size) hsz)) (fun z => ?_) o (hhref b o (keep3 b o bP e))
          exact absurd (Heap.lt_size e) (Nat.not_lt.mpr (W.wrN b z))
    · intro g h5 tk5 gs hgb hag hsz5 hk5 W5 hgat
      simp only [GxR.passing_true, List.length_range] at W5
      rw [← hl] at W5 hgat
      refine hQ g _ ⟨_, _, _, _, _, W5, hgat, ?_, List.mem_cons_self, fun i s9 h9 => ?_, ?_, fun s' hm => ?_⟩
      · intro b hb
        show b < h5.objs.size
        have e5 : h5.objs.size = g + 1 := hsz5
        have h8 : h3.objs.size < g := hag
        rw [e5]
        rcases List.mem_cons.mp hb with z | z
        · rw [z]
          exact Nat.lt_succ_self g
        · rcases List.mem_cons.mp z with z | z
          · rw [z]
            exact Nat.lt_succ_of_lt h8
          · have z2 := List.mem_range.mp z
            have h7 : b < h3.objs.size := z2
            exact Nat.lt_succ_of_lt (Nat.lt_trans h7 h8)
      · obtain ⟨hg9, _⟩ := h9
        exact hg9.typeIs
      · intro j v hv
        obtain ⟨i, hij, z, hz, e⟩ := hv
        obtain ⟨hj, ej⟩ := List.getElem?_eq_some_iff.mp hij
        rw [List.getElem_range] at ej
        subst ej
        exact ⟨z, hz, e⟩
      · obtain ⟨more, em⟩ := hmore
        have nwr : ∀ b u, s1.heap.get? b = some u → b ∉ h3.objs.size :: wr := fun b u e hb => by
          have hl' := Heap.lt_size e
          rcases List.mem_cons.mp hb with z | z
          · rw [z] at hl'
            have := W.size
            have h9 : (h3.objs.size : Nat) < s1.heap.objs.size := hl'
            omega
          · exact absurd hl' (Nat.not_lt.mpr (W.wrN b z))
        have J := GxR.inv_tab (more := more) (h' := s'.heap) (g' := s'.gens) (d' := s'.drawn) (t' := s'.toks) I1 hP (fun b u hb e => hm.heap b u (nwr b u e) (hk5 b u (keep3 b u hb e)))
          (by rw [← em]; exact hm.heap P _ (nwr P _ hPs) (hk5 P _ hP3)) (AllBare.movedS ((by rw [W.sh]; exact I1.bare : AllBare s2.gens).push hgb) hm)
        rw [GxR.sh_eta s1 s' (hm.os.trans s2os)] at J
        exact ⟨upd H1 P (.tbl (ps ++ more)), ⟨⟨ps ++ more, upd_same, by rw [← em]; exact ht3⟩, fun b hb => upd_ne hb⟩, J⟩
  refine ⟨lim2, ?_⟩
  cases hf : codeAmong gpos ps.toList with
  | none =>
    refine wpAny_genexprCodeX hcode (cd.code hP2 ht) (cd.tab hP2) hf fun c' h' tk hx hge hlt hco' _ htab' _ => ?_
    obtain ⟨o1, vs, f1, tf, fl, tg, inF, tx, tt, op, _, _, _, _, _, _, _, _, _, htr, _⟩ := hco'
    exact cont _ h' tk _ hx (Nat.le_trans hge (Nat.le_of_lt hlt)) htab'.2 ⟨_, rfl⟩ htr
  | some cv =>
    refine wpAny_genexprCode_hit hcode (cd.code hP2 ht) hf ?_
    exact cont cv s2.heap s2.toks ps (Heap.ExtBut.refl _ _) (Nat.le_refl _) hP2 ⟨#[], by simp⟩ ht
/-- a tuple, walked -/
theorem src_tup {H1 : Hp} {s1 : Shared} {a P : Addr} {xs : List V} {Q : Value → Shared → Prop} {A : Around} {E : Value → Shared → Prop} (I1 : Inv X pins σ H1 s1) (h : SqT X.K H1 a xs) (hT : GxR.TabG H1 P)
    (hQ : ∀ I s2 fp wr Pf S0, Src X s1 s2 P I xs fp wr Pf S0 → Q (.ref I) s2) : wpAny (model X.prog X.w) A (pyIter (.ref a)) Q E s1 := by
  obtain ⟨its, rv, hl, hz⟩ := I1.tuple h
  have hl2 : s1.heap.IsTuple a its.toArray := hl
  refine wpAny_pyIter_tuple hl2 ?_
  generalize ho : ({ cls := .type "tuple_iterator", data := .fields #[.ref a, .int 0 0] } : Obj) = o
  have halt : a < s1.heap.objs.size := by
    obtain ⟨_, e, _⟩ := id hl2
    exact Heap.lt_size e
  obtain ⟨ps, hP, _⟩ := hT
  have hPs : s1.heap.get? P = some { cls := .none, data := .fields ps } := I1.hok P _ hP
  have hPlt : P < s1.heap.objs.size := Heap.lt_size hPs
  have aP : a ≠ P := fun z => by
    obtain ⟨_, e, _, _, hd⟩ := id hl2
    rw [z, hPs] at e
    cases e
    cases hd
  have hlen : its.toArray.size = xs.length := by rw [List.size_toArray, ← rv.length]
  have hit : (s1.heap.push o).IsTupleIter s1.heap.objs.size a 0 := by
    subst ho
    exact ⟨_, Heap.get?_push_size _ rfl, rfl, rfl⟩
  refine hQ s1.heap.objs.size _ [s1.heap.objs.size, a] [s1.heap.objs.size] (fun i v => its.toArray[i]? = some v) (fun i h => h.IsTupleIter s1.heap.objs.size a i ∧ h.IsTuple a its.toArray) ⟨rfl, fun b u e => Heap.get?_push_of_some _ e, by rw [Heap.size_push]; exact Nat.le_succ _, fun b hb => ?_, fun b hb => ?_, fun A' hA => ?_, ⟨hit, hl2.push _⟩, fun i v hv => ?_⟩
  · rw [List.mem_singleton] at hb; rw [hb]; exact Nat.le_refl _
  · rw [Heap.size_push]
    rcases List.mem_cons.mp hb with z | z
    · rw [z]; exact ⟨Nat.lt_succ_self _, Nat.ne_of_gt hPlt⟩
    · rw [List.mem_singleton] at z
      rw [z]; exact ⟨Nat.lt_succ_of_lt halt, aP⟩
  · rw [← hlen]
    exact Walks.tuple hA _ _ (Nat.ne_of_lt halt) _
  · have hv2 : its[i]? = some v := by simpa using hv
    have hi2 : i < its.length := (List.getElem?_eq_some_iff.mp hv2).1
    have hx : i < xs.length := by rw [rv.length]; exact hi2
    obtain ⟨u, hu, ru⟩ := rv.get (List.getElem?_eq_getElem hx)
    rw [hv2] at hu
    cases hu
    exact ⟨_, List.getElem?_eq_getElem hx, ru⟩
/-- tuple(elt for x in e), e a tuple of whole numbers -/
def tTupG (K : PySem.W.Frag) (P : Addr) (te : TE) (js : List Nat) (C : List Int → Int → Prop) (f : List Int → Int → Int) : TE := fun σ H Q => te σ H fun v H1 => ∃ (a : Addr) (ns cs : List Int), v = .ref a ∧ SqT K H1 a (ns.map V.int) ∧
  Paired (fun (j : Nat) (c : Int) => σ[j]? = some (some (V.int c))) js cs ∧ (∀ n ∈ ns, C cs n) ∧ ns.length ≤ sizeLine ∧ GxR.TabG H1 P ∧ ∀ H2, GxR.Tabbed P H1 H2 → ∀ p, H2 p = none → Q (.ref p) (upd H2 p (.tup (ns.map fun n => V.int (f cs n))))
theorem cap_of {scope : Scope} : ∀ {nm : List Str} {js : List Nat} {cs : List Int}, Paired (fun y (j : Nat) => scope.names.lookup y = some NameKind.free ∧ (X.env.scope.names.lookup y = some .cell ∨ X.env.scope.names.lookup y = some .free) ∧ X.N[j]? = some y) nm js →
    Paired (fun (j : Nat) (c : Int) => σ[j]? = some (some (V.int c))) js cs → Cap X scope σ (nm.zip (cs.map V.int))
  | _, _, _, .nil, .nil => fun p hp => by cases hp
  | _, _, _, .cons (a := y) (b := j) h1 t1, .cons h2 t2 => fun p hp => by
    rcases List.mem_cons.mp hp with rfl | hp
    · exact ⟨h1.1, h1.2.1, _, h1.2.2, h2⟩
    · exact cap_of t1 t2 p hp
theorem paired_get {α β : Type} {R : α → β → Prop} : ∀ {l : List α} {m : List β}, l.length = m.length → (∀ (j : Nat) a b, l[j]? = some a → m[j]? = some b → R a b) → Paired R l m
  | [], [], _, _ => .nil
  | a :: l, b :: m, h, k => .cons (k 0 a b rfl rfl) (paired_get (by simpa using h) fun j x y hx hy => k (j + 1) x y (by simpa using hx) (by simpa using hy))
  | [], _ :: _, h, _ => by simp at h
  | _ :: _, [], h, _ => by simp at h
/-- a new tuple of what the generator gave -/
theorem tup_of {H1 : Hp} {P g : Addr} {ys : List V} {s5 : Shared} {Q : VK} (R : Ready X pins σ H1 P ys g s5) (hz : ys.length ≤ sizeLine) (hQ : ∀ H2, GxR.Tabbed P H1 H2 → ∀ p, H2 p = none → Q (.ref p) (upd H2 p (.tup ys))) :
    wpAny (model X.prog X.w) X.A (call (.type "tuple") [.ref g]) (EP X pins σ Q) X.xe s5 := by
  obtain ⟨fp, wr, G, F, S0, W, hst, hfp, hg, hT, hF, hI⟩ := R
  refine call_tuple_gen W.in4_3 hT hst hfp hg (fun s' acc hm hacc => ?_) hz
  obtain ⟨H2, hT2, J⟩ := hI s' hm
  have rv : Vals ys acc.toList := paired_get (by rw [Array.length_toList]; exact hacc.1.symm) fun j y v hy hv => by
    obtain ⟨y', h1, h2⟩ := hF j v (hacc.2 j v (by rw [← Array.getElem?_toList]; exact hv))
    rw [hy] at h1
    cases h1
    exact h2
  have new : ObjOk X.prog X.w (upd H2 s'.heap.objs.size (.tup ys)) (s'.heap.push { cls := .type "tuple", data := .seq acc }) s'.heap.objs.size (.tup ys) :=
    ⟨hz, acc.toList, rv, ⟨_, Heap.get?_push_size _ rfl, rfl, _, by rw [Array.toArray_toList]⟩⟩
  exact ⟨.ref s'.heap.objs.size, _, J.laid (t' := s'.toks) (fun b u e => Heap.get?_push_of_some _ e) (Nat.le_refl _) new, rfl, hQ H2 hT2 _ (J.hok.fresh (Nat.le_refl _))⟩
theorem pe_tupG {c P : Addr} {elt iter : Expr} {x : Str} {px gpos p pos : Pos} {scope : Scope} {k : Nat} {te : TE} {nm : List Str} {js : List Nat} {C : List Int → Int → Prop} {f : List Int → Int → Int}
    (hr : Room k X.A) (hg : Gl X "tuple") (hm : X.mg "tuple" = none) (TB : GxR.TabB X.base X.mg c P) (hcode : X.env.code = .ref c) (S : GS X.env scope [x]) (hi : PE X iter te)
    (hc : Paired (fun y (j : Nat) => scope.names.lookup y = some NameKind.free ∧ (X.env.scope.names.lookup y = some .cell ∨ X.env.scope.names.lookup y = some .free) ∧ X.N[j]? = some y) nm js)
    (hel : ∀ cs n, cs.length = js.length → C cs n → EG X.prog X.w elt ((x, .int n) :: nm.zip (cs.map V.int)) (.int (f cs n)))
    (hs : ∀ v, genFold iter X.env v = pure v := by intro _; rfl)
    (he : starEach [.GeneratorExp elt [⟨.Name x px, iter, [], 0⟩] scope gpos] X.env = (false, eval (.GeneratorExp elt [⟨.Name x px, iter, [], 0⟩] scope gpos) X.env) :: starEach [] X.env := by rfl) :
    PE X (.Call (.Name "tuple" p) [.GeneratorExp elt [⟨.Name x px, iter, [], 0⟩] scope gpos] [] pos) (tTupG X.K P te js C f) := by
  refine ⟨fun pins s σ H Q I h => ?_⟩
  refine wpAny_Call_Name_kw (ld_blt (u := .type "tuple") I hg hm (by decide +kernel) ?_)
  refine PyProof.Rows.callWith_type1 ?_ he (by rfl)
  rw [he]
  show wpAny _ _ (spliced ((false, eval (.GeneratorExp elt [⟨.Name x px, iter, [], 0⟩] scope gpos) X.env) :: backTo pos (starEach [] X.env))) _ _ s
  refine Calls.spliced_cons (gen1 (pins := pins) (σ := σ) hr TB hcode S hs I.ok ?_)
  refine thn (hi.run pins s σ H _ I h) fun xv s1 ⟨v, H1, I1, r1, a, ns, cs, ev, hq, hcs, hC, hz, hT, hQ⟩ => ?_
  subst ev
  obtain rfl : xv = Value.ref a := r1
  refine ⟨H1, I1, hT, src_tup I1 hq hT fun I2 s2 fp wr Pf S0 W => ⟨I2, ns.map V.int, ns.map (fun n => V.int (f cs n)), nm.zip (cs.map V.int), fp, wr, Pf, S0, rfl, cap_of hc hcs, W, by rw [List.length_map, List.length_map], fun i v hv => ?_, fun g s5 R => ?_⟩⟩
  · rw [List.getElem?_map] at hv
    cases e : ns[i]? with
    | none => rw [e] at hv; cases hv
    | some n =>
      rw [e] at hv
      cases hv
      refine ⟨_, by rw [List.getElem?_map, e]; rfl, hel cs n (Paired.length hcs).symm (hC n (List.mem_of_getElem? e))⟩
  · refine Calls.spliced_nil ?_
    exact tup_of R (by rw [List.length_map]; exact hz) hQ
end
end Gx

set_option Elab.async false
set_option linter.all false
set_option maxRecDepth 100000
set_option maxHeartbeats 2000000
namespace Gx
open PySem PySem.Spec PyProof.Rows L2 RZ
/-! zip of two tuples, walked in a generator expression -/
def ZSt (z TI TO i1 i2 l1 l2 : Addr) (xs ys : Array Value) (i : Nat) (h : Heap) : Prop := IsZip h z TI TO .none ∧ IsPair h TI (.ref i1) (.ref i2) ∧ (∃ a b, IsPair h TO a b) ∧ h.IsTupleIter i1 l1 i ∧ h.IsTupleIter i2 l2 i ∧ h.IsTuple l1 xs ∧ h.IsTuple l2 ys
def ZMid (z TI TO i1 i2 l1 l2 : Addr) (xs ys : Array Value) (i : Nat) (T : Addr) (h : Heap) : Prop := IsZip h z TI TO (rawInt T) ∧ IsPair h TI (.ref i1) (.ref i2) ∧ (∃ a b, IsPair h TO a b) ∧ h.IsTupleIter i1 l1 (i + 1) ∧ h.IsTupleIter i2 l2 (i + 1) ∧ h.IsTuple l1 xs ∧ h.IsTuple l2 ys ∧
        T ≠ z ∧ T ≠ TO ∧ T ≠ i1 ∧ T ≠ i2
theorem walk_zipT {prog : Program} {w : World} {A : Around} (hh : A.handled = none) (z TI TO i1 i2 l1 l2 : Addr) (D : ZipApart z TI TO i1 i2 l1 l2) (xs ys : Array Value) (hl : xs.size = ys.size) :
    WalksU prog w A z [z, TI, TO, i1, i2, l1, l2] [z, TO, i1, i2] xs.size (fun i vals => ∃ x y, xs[i]? = some x ∧ ys[i]? = some y ∧ vals = #[x, y]) (ZSt z TI TO i1 i2 l1 l2 xs ys) (ZMid z TI TO i1 i2 l1 l2 xs ys) where
  sub := fun c hc => by simp at hc ⊢; rcases hc with rfl | rfl | rfl | rfl <;> simp
  frame := fun i h h' hst hk => by
    obtain ⟨hz, hTI, ⟨a, b, hTO⟩, h1, h2, hl1, hl2⟩ := hst
    exact ⟨hk z (by simp) _ hz, hk TI (by simp) _ hTI, ⟨a, b, hk TO (by simp) _ hTO⟩, h1.at fun o e => hk i1 (by simp) o e, h2.at fun o e => hk i2 (by simp) o e,
      hl1.at fun o e => hk l1 (by simp) o e, hl2.at fun o e => hk l2 (by simp) o e⟩
  item := fun i s Q E hi hst hQ => by
    obtain ⟨hz, hTI, ⟨a, b, hTO⟩, h1, h2, hl1, hl2⟩ := hst
    have hiy : i < ys.size := by omega
    refine pyNext_zipT_item D hz hTI hTO h1 h2 hl1 hl2 (Array.getElem?_eq_getElem hi) (Array.getElem?_eq_getElem hiy) fun h' a1 a2 a3 a4 a5 a6 hk => ?_
    have lt : ∀ {c o}, s.heap.get? c = some o → s.heap.objs.size ≠ c := fun e => Nat.ne_of_gt (Heap.lt_size e)
    exact hQ s.heap.objs.size #[xs[i], ys[i]] h' s.toks ⟨_, _, Array.getElem?_eq_getElem hi, Array.getElem?_eq_getElem hiy, rfl⟩ ⟨_, a5, rfl, _, rfl⟩
      ⟨a1, hk _ _ D.TIz D.TITO D.TIi1 D.TIi2 hTI, ⟨_, _, a2⟩, a3, a4, hl1.at fun o e => hk _ o D.l1z D.l1TO D.l1i1 D.l1i2 e, hl2.at fun o e => hk _ o D.l2z D.l2TO D.l2i1 D.l2i2 e,
        lt hz, lt hTO, (by obtain ⟨_, e, _⟩ := h1; exact lt e), (by obtain ⟨_, e, _⟩ := h2; exact lt e)⟩
      fun c o hc e => hk c o (fun x => hc (by simp [x])) (fun x => hc (by simp [x])) (fun x => hc (by simp [x])) (fun x => hc (by simp [x])) e
  go := fun elts k pos i T s Q E hm hQ => by
    obtain ⟨hz, hTI, ⟨a, b, hTO⟩, h1, h2, hl1, hl2, _⟩ := hm
    refine wpAny_letOwnedTupleGo_zip hz fun h' hz' hs' => hQ h' ⟨hz', hs'.extBut _ _ D.TIz hTI, ⟨a, b, hs'.extBut _ _ D.TOz hTO⟩, h1.extBut hs'.extBut D.i1z, h2.extBut hs'.extBut D.i2z,
      hl1.extBut hs'.extBut D.l1z, hl2.extBut hs'.extBut D.l2z⟩ fun c o hc e => hs'.extBut _ _ (fun x => hc (by simp [x])) e
  apart := fun i T h hm hT => by
    obtain ⟨_, _, _, _, _, _, _, t1, t2, t3, t4⟩ := hm
    simp at hT
    rcases hT with rfl | rfl | rfl | rfl
    · exact t1 rfl
    · exact t2 rfl
    · exact t3 rfl
    · exact t4 rfl
  done := fun s Q E hst hQ => by
    obtain ⟨hz, hTI, ⟨a, b, hTO⟩, h1, h2, hl1, hl2⟩ := hst
    exact pyNext_zipT_end hh D hz hTI hTO h1 h2 hl1 hl2 (.inl (Array.getElem?_eq_none (Nat.le_refl _))) fun h' hk => hQ h' s.toks fun c o hc e =>
      hk c o (fun x => hc (by simp [x])) (fun x => hc (by simp [x])) (fun x => hc (by simp [x])) (fun x => hc (by simp [x])) e
  self := fun i s Q E hst hQ => wpAny_pyIter_zip hst.1 hQ
structure Src2 (X : Cx) (s1 s2 : Shared) (P I : Addr) (xs zs : List V) (fp wr : List Addr) (Pf : Nat → Array Value → Prop) (St : Nat → Heap → Prop) (Mid : Nat → Addr → Heap → Prop) : Prop where
  sh : s2 = { s1 with heap := s2.heap, toks := s2.toks }
  keep : ∀ b o, s1.heap.get? b = some o → s2.heap.get? b = some o
  size : s1.heap.objs.size ≤ s2.heap.objs.size
  wrN : ∀ b ∈ wr, s1.heap.objs.size ≤ b
  fpP : ∀ b ∈ fp, b < s2.heap.objs.size ∧ b ≠ P
  walk : ∀ A' : Around, A'.handled = none → WalksU X.prog X.w A' I fp wr xs.length Pf St Mid
  st : St 0 s2.heap
  item : ∀ i vals, Pf i vals → ∃ va vb x z, vals = #[va, vb] ∧ xs[i]? = some x ∧ RelV x va ∧ zs[i]? = some z ∧ RelV z vb
section
variable {X : Cx} {pins : List (Addr × Obj)} {σ : L2.St} {s : Shared}
theorem gen2 {c P : Addr} {elt iter : Expr} {xa xb : Str} {pa pb pt gpos : Pos} {kt : Nat} {scope : Scope} {k : Nat} {Q' : Value → Shared → Prop}
    (hr : Room k X.A) (TB : GxR.TabB X.base X.mg c P) (hcode : X.env.code = .ref c) (S : GS X.env scope [xa, xb]) (hab : xa ≠ xb) (hs : ∀ v, genFold iter X.env v = pure v) (ok : X.Ok)
    (h : wpAny (model X.prog X.w) X.A (eval iter X.env) (fun xv s0 => wpAny (model X.prog X.w) X.A (pyIter xv) (fun it s2 => ∃ (s1 : Shared) (H1 : Hp) (I : Addr) (xs zs ys : List V) (ρ : List (Str × V)) (fp wr : List Addr) (Pf : Nat → Array Value → Prop) (St : Nat → Heap → Prop) (Mid : Nat → Addr → Heap → Prop),
      it = .ref I ∧ Inv X pins σ H1 s1 ∧ GxR.TabG H1 P ∧ Cap X scope σ ρ ∧ Src2 X s1 s2 P I xs zs fp wr Pf St Mid ∧ ys.length = xs.length ∧ (∀ (i : Nat) (v v' : V), xs[i]? = some v → zs[i]? = some v' → ∃ y, ys[i]? = some y ∧ EG X.prog X.w elt ((xa, v) :: (xb, v') :: ρ) y) ∧ ∀ g s5, Ready X pins σ H1 P ys g s5 → Q' (.ref g) s5) X.xe s0) X.xe s) :
    wpAny (model X.prog X.w) X.A (eval (.GeneratorExp elt [⟨.Tuple [.Name xa pa, .Name xb pb] kt pt, iter, [], 0⟩] scope gpos) X.env) Q' X.xe s := by
  have Sf : ∀ y ∈ scope.names, y.2 = .free → ∃ c, X.env.cells.lookup y.1 = some c := fun y hy e => ok.has _ (S.free y hy e)
  refine wpAny_GeneratorExp_walksQT hr.hd S.co (closure_ok Sf) S.cell S.dot (S.loc xa List.mem_cons_self) (S.loc xb (List.mem_cons_of_mem _ List.mem_cons_self)) hab S.kind (by have := hr.dp; omega) ?_ hs
  refine thn h fun xv s0 h1 => thn h1 fun it s2 ⟨s1, H1, I, xs, zs, ys, ρ, fp, wr, Pf, S0, Mid, eI, I1, ⟨ps, hP, ht⟩, C, W, hl, hel, hQ⟩ => ?_
  have hPs : s1.heap.get? P = some { cls := .none, data := .fields ps } := I1.hok P _ hP
  have hP2 := W.keep _ _ hPs
  have cd : PySem.W.CodeHd s2.heap c P := TB.code.keeps fun b u e => W.keep _ _ (I1.bk b u e)
  have lim2 : s2.heap.NoLimit := I1.nolimit.keeps W.keep
  have s2os : s2.os = s1.os := by rw [W.sh]
  have cont : ∀ (code : Value) (h3 : Heap) (tk : Nat) (ps' : Array Value), Heap.ExtBut P s2.heap h3 → s2.heap.objs.size ≤ h3.objs.size → h3.get? P = some { cls := .none, data := .fields ps' } → (∃ more, ps' = ps ++ more) → TriplesOk ps'.toList →
      wpAny (model X.prog X.w) X.A (builtinsFor X.env.globals X.env.builtins) (fun bi s₄ =>
        ∃ Ia fp wr n₀ Pf St₀ Mid pz F, it = .ref Ia ∧ (∀ A' : Around, A'.handled = none → WalksU X.prog X.w A' Ia fp wr n₀ Pf St₀ Mid) ∧ (∀ i vals, Pf i vals → ∃ va vb, vals = #[va, vb]) ∧ St₀ 0 s₄.heap ∧ (∀ b ∈ fp, b < s₄.heap.objs.size) ∧ s₄.heap.NoLimit ∧ cStatics ∉ wr ∧
          (∀ href : Heap, (∀ b o, s₄.heap.get? b = some o → href.get? b = some o) →
            QuietGenT X.prog X.w (genEnv scope (cloFrom X.env.cells scope.names []) s₄.heap.objs.size code bi X.env) xa xb [] elt (List.range s₄.heap.objs.size) wr Pf pz F href) ∧
          (∀ a h₅ tk gs, gs.bare = true → s₄.heap.objs.size < a → h₅.objs.size = a + 1 → (∀ b o, s₄.heap.get? b = some o → h₅.get? b = some o) →
            WalksS X.prog X.w X.A.in4 a (a :: s₄.heap.objs.size :: List.range s₄.heap.objs.size) (s₄.heap.objs.size :: wr) (GenOnlyQ s₄.gens.size) (passing pz n₀ 0).length
              (fun j y => ∃ i, (passing pz n₀ 0)[j]? = some i ∧ F i y) (GenAt X.prog X.w X.A.in4 a s₄.gens.size s₄.heap.objs.size (List.range s₄.heap.objs.size) wr pz n₀ F) →
            GenAt X.prog X.w X.A.in4 a s₄.gens.size s₄.heap.objs.size (List.range s₄.heap.objs.size) wr pz n₀ F 0 { s₄ with gens := s₄.gens.push gs, toks := tk, heap := h₅ } →
            Q' (.ref a) { s₄ with gens := s₄.gens.push gs, toks := tk, heap := h₅ })) X.xe { s2 with heap := h3, toks := tk } := by
    intro code h3 tk ps' hx hsz hP3 hmore ht3
    obtain ⟨bm, ob, e1, e2, e3, e4, e5, e6, e7, e8⟩ := TB.bm
    have hcP : cStatics ≠ P := fun e => by
      obtain ⟨_, hns, _⟩ := I1.nolimit
      obtain ⟨o', es, ep, ho, hd, _⟩ := hns
      rw [e, hPs] at ho
      cases ho
      cases hd
    have hcl : cStatics < s1.heap.objs.size := let ⟨_, hns, _⟩ := I1.nolimit; hns.lt
    have keep3 : ∀ b u, b ≠ P → s1.heap.get? b = some u → h3.get? b = some u := fun b u hb e => hx b u hb (W.keep b u e)
    refine wpAny_builtinsFor (m := X.mg) (by rw [I1.ok.glob]; exact ((I1.mod.glob.keeps I1.bk).keeps W.keep).extBut hx TB.gP) e1 e2 (keep3 _ _ e4 (I1.bk _ _ e5)) e6 e7 e8 ?_
    refine ⟨I, fp, wr, xs.length, Pf, S0, Mid, (fun _ => true), (fun i y => ∃ z, ys[i]? = some z ∧ RelV z y), eI, W.walk, (fun i vals hv => by obtain ⟨va, vb, x, y, e, _⟩ := W.item i vals hv; exact ⟨va, vb, e⟩), ?_, ?_, lim2.extBut hx hcP, ?_, ?_, ?_⟩
    · exact (W.walk X.A hr.hd).frame _ _ _ W.st fun b hb u e => hx b u (W.fpP b hb).2 e
    · intro b hb
      exact Nat.lt_of_lt_of_le (W.fpP b hb).1 hsz
    · intro z
      exact absurd hcl (Nat.not_lt.mpr (W.wrN _ z))
    · intro href hhref
      refine ⟨fun A' E' i va vb s₂ m₂ hA hPv hn hma hmb hk => ?_, fun A' E' i va vb s₂ m₂ hA hPv hp hn hma hmb hk => ?_⟩
      · simp only [List.forIn_nil]
        exact wpAny_pure ⟨rfl, GxR.keeps_refl _⟩
      · obtain ⟨va', vb', xv', zv', ev, hxi, rx, hzi, rz⟩ := W.item i _ hPv
        have ev1 : va = va' ∧ vb = vb' := by
          have := congrArg Array.toList ev
          simpa using this
        obtain ⟨rfl, rfl⟩ := ev1
        obtain ⟨y, hy, eg⟩ := hel i xv' zv' hxi hzi
        refine wpAny_mono (eg (genEnv scope (cloFrom X.env.cells scope.names []) h3.objs.size code _ X.env) A' E' s₂ fun p hp => ?_) (fun u s3 r => ⟨⟨y, hy, r.1⟩, r.2⟩) fun _ _ e => e
        rcases List.mem_cons.mp hp with rfl | hp
        · exact ⟨va, m₂, rx, hn, .inl ⟨S.loc xa List.mem_cons_self, hma⟩, S.kind⟩
        rcases List.mem_cons.mp hp with rfl | hp
        · exact ⟨vb, m₂, rz, hn, .inl ⟨S.loc xb (List.mem_cons_of_mem _ List.mem_cons_self), hmb⟩, S.kind⟩
        · refine cap_rd I1 C S.kind Sf rfl rfl hn (fun b o hb e => ?_) p hp
          have bP : b ≠ P := fun z => by rw [z, hP] at hb; cases hb
          refine hk b (List.mem_range.mpr (Nat.lt_of_lt_of_le (Nat.lt_of_lt_of_le (Heap.lt_size e) W.size) hsz)) (fun z => ?_) o (hhref b o (keep3 b o bP e))
          exact absurd (Heap.lt_size e) (Nat.not_lt.mpr (W.wrN b z))
    · intro g h5 tk5 gs hgb hag hsz5 hk5 W5 hgat
      simp only [GxR.passing_true, List.length_range] at W5
      rw [← hl] at W5 hgat
      refine hQ g _ ⟨_, _, _, _, _, W5, hgat, ?_, List.mem_cons_self, fun i s9 h9 => ?_, ?_, fun s' hm => ?_⟩
      · intro b hb
        show b < h5.objs.size
        have e5 : h5.objs.size = g + 1 := hsz5
        have h8 : h3.objs.size < g := hag
        rw [e5]
        rcases List.mem_cons.mp hb with z | z
        · rw [z]
          exact Nat.lt_succ_self g
        · rcases List.mem_cons.mp z with z | z
          · rw [z]
            exact Nat.lt_succ_of_lt h8
          · have z2 := List.mem_range.mp z
            have h7 : b < h3.objs.size := z2
            exact Nat.lt_succ_of_lt (Nat.lt_trans h7 h8)
      · obtain ⟨hg9, _⟩ := h9
        exact hg9.typeIs
      · intro j v hv
        obtain ⟨i, hij, z, hz, e⟩ := hv
        obtain ⟨hj, ej⟩ := List.getElem?_eq_some_iff.mp hij
        rw [List.getElem_range] at ej
        subst ej
        exact ⟨z, hz, e⟩
      · obtain ⟨more, em⟩ := hmore
        have nwr : ∀ b u, s1.heap.get? b = some u → b ∉ h3.objs.size :: wr := fun b u e hb => by
          have hl' := Heap.lt_size e
          rcases List.mem_cons.mp hb with z | z
          · rw [z] at hl'
            have := W.size
            have h9 : (h3.objs.size : Nat) < s1.heap.objs.size := hl'
            omega
          · exact absurd hl' (Nat.not_lt.mpr (W.wrN b z))
        have J := GxR.inv_tab (more := more) (h' := s'.heap) (g' := s'.gens) (d' := s'.drawn) (t' := s'.toks) I1 hP (fun b u hb e => hm.heap b u (nwr b u e) (hk5 b u (keep3 b u hb e)))
          (by rw [← em]; exact hm.heap P _ (nwr P _ hPs) (hk5 P _ hP3)) (AllBare.movedS ((by rw [W.sh]; exact I1.bare : AllBare s2.gens).push hgb) hm)
        rw [GxR.sh_eta s1 s' (hm.os.trans s2os)] at J
        exact ⟨upd H1 P (.tbl (ps ++ more)), ⟨⟨ps ++ more, upd_same, by rw [← em]; exact ht3⟩, fun b hb => upd_ne hb⟩, J⟩
  refine ⟨lim2, ?_⟩
  cases hf : codeAmong gpos ps.toList with
  | none =>
    refine wpAny_genexprCodeX hcode (cd.code hP2 ht) (cd.tab hP2) hf fun c' h' tk hx hge hlt hco' _ htab' _ => ?_
    obtain ⟨o1, vs, f1, tf, fl, tg, inF, tx, tt, op, _, _, _, _, _, _, _, _, _, htr, _⟩ := hco'
    exact cont _ h' tk _ hx (Nat.le_trans hge (Nat.le_of_lt hlt)) htab'.2 ⟨_, rfl⟩ htr
  | some cv =>
    refine wpAny_genexprCode_hit hcode (cd.code hP2 ht) hf ?_
    exact cont cv s2.heap s2.toks ps (Heap.ExtBut.refl _ _) (Nat.le_refl _) hP2 ⟨#[], by simp⟩ ht
/-- tuple(elt for a, b in zip(e, e2)), e and e2 tuples of whole numbers, of one length -/
def tTupG2 (K : PySem.W.Frag) (P : Addr) (ta : TA) (js : List Nat) (C : List Int → Int → Int → Prop) (f : List Int → Int → Int → Int) : TE := fun σ H Q => ta σ H fun vs H1 => ∃ (a b : Addr) (ns ms cs : List Int), vs = [.ref a, .ref b] ∧ SqT K H1 a (ns.map V.int) ∧ SqT K H1 b (ms.map V.int) ∧ ns.length = ms.length ∧
  Paired (fun (j : Nat) (c : Int) => σ[j]? = some (some (V.int c))) js cs ∧ (∀ (i : Nat) (n m : Int), ns[i]? = some n → ms[i]? = some m → C cs n m) ∧ ns.length ≤ sizeLine ∧ GxR.TabG H1 P ∧ ∀ H2, GxR.Tabbed P H1 H2 → ∀ p, H2 p = none → Q (.ref p) (upd H2 p (.tup ((ns.zip ms).map fun q => V.int (f cs q.1 q.2))))
theorem pe_tupG2 {c P : Addr} {elt e1 e2 : Expr} {xa xb : Str} {pa pb pt gpos p pos zp zpos : Pos} {kt : Nat} {scope : Scope} {k : Nat} {ta : TA} {nm : List Str} {js : List Nat} {C : List Int → Int → Int → Prop} {f : List Int → Int → Int → Int}
    (hr : Room k X.A) (hg : Gl X "tuple") (hm : X.mg "tuple" = none) (hgz : Gl X "zip") (hmz : X.mg "zip" = none) (TB : GxR.TabB X.base X.mg c P) (hcode : X.env.code = .ref c) (S : GS X.env scope [xa, xb]) (hab : xa ≠ xb) (ha : PA X [e1, e2] ta)
    (hc : Paired (fun y (j : Nat) => scope.names.lookup y = some NameKind.free ∧ (X.env.scope.names.lookup y = some .cell ∨ X.env.scope.names.lookup y = some .free) ∧ X.N[j]? = some y) nm js)
    (hel : ∀ cs n m, cs.length = js.length → C cs n m → EG X.prog X.w elt ((xa, .int n) :: (xb, .int m) :: nm.zip (cs.map V.int)) (.int (f cs n m)))
    (hs : ∀ v, genFold (.Call (.Name "zip" zp) [e1, e2] [] zpos) X.env v = pure v := by intro _; rfl)
    (hs2 : starEach [e1, e2] X.env = (false, eval e1 X.env) :: starEach [e2] X.env := by rfl) (hpl : (backTo zpos (starEach [e2] X.env)).any (·.1) = false := by rfl)
    (he : starEach [.GeneratorExp elt [⟨.Tuple [.Name xa pa, .Name xb pb] kt pt, .Call (.Name "zip" zp) [e1, e2] [] zpos, [], 0⟩] scope gpos] X.env = (false, eval (.GeneratorExp elt [⟨.Tuple [.Name xa pa, .Name xb pb] kt pt, .Call (.Name "zip" zp) [e1, e2] [] zpos, [], 0⟩] scope gpos) X.env) :: starEach [] X.env := by rfl) :
    PE X (.Call (.Name "tuple" p) [.GeneratorExp elt [⟨.Tuple [.Name xa pa, .Name xb pb] kt pt, .Call (.Name "zip" zp) [e1, e2] [] zpos, [], 0⟩] scope gpos] [] pos) (tTupG2 X.K P ta js C f) := by
  refine ⟨fun pins s σ H Q I h => ?_⟩
  refine wpAny_Call_Name_kw (ld_blt (u := .type "tuple") I hg hm (by decide +kernel) ?_)
  refine PyProof.Rows.callWith_type1 ?_ he (by rfl)
  rw [he]
  show wpAny _ _ (spliced ((false, eval (.GeneratorExp elt [⟨.Tuple [.Name xa pa, .Name xb pb] kt pt, .Call (.Name "zip" zp) [e1, e2] [] zpos, [], 0⟩] scope gpos) X.env) :: backTo pos (starEach [] X.env))) _ _ s
  refine Calls.spliced_cons (gen2 (pins := pins) (σ := σ) hr TB hcode S hab hs I.ok ?_)
  refine Call_ (ld_blt I hgz hmz PyProof.Rows.boot_zip (PyProof.Rows.callWith_type1 (thn (ha.run zpos pins s σ H _ I h) fun us s1 ⟨vs, H1, I1, r1, a, b, ns, ms, cs, ev, hq1, hq2, hl, hcs, hC, hz, hT, hQ⟩ => ?_) hs2 hpl))
  subst ev
  cases r1 with
  | cons r rr =>
    cases rr with
    | cons r' rr =>
      cases rr
      cases r
      cases r'
      obtain ⟨its, rv, p1, _⟩ := I1.tuple hq1
      obtain ⟨its2, rv2, p2, _⟩ := I1.tuple hq2
      obtain ⟨o1, ho1, hc1, _, hd1⟩ := id p1
      obtain ⟨o2, ho2, hc2, _, hd2⟩ := id p2
      obtain ⟨ps, hP, _⟩ := id hT
      have hPs : s1.heap.get? P = some { cls := .none, data := .fields ps } := I1.hok P _ hP
      have hPlt : P < s1.heap.objs.size := Heap.lt_size hPs
      have aP : a ≠ P := fun z => by rw [z, hPs] at ho1; cases ho1; cases hd1
      have bP : b ≠ P := fun z => by rw [z, hPs] at ho2; cases ho2; cases hd2
      have la := Heap.lt_size ho1
      have lb := Heap.lt_size ho2
      have l1 : its.toArray.size = ns.length := by rw [List.size_toArray, ← rv.length, List.length_map]
      have l2 : its2.toArray.size = ms.length := by rw [List.size_toArray, ← rv2.length, List.length_map]
      refine call_zipT (show s1.heap.IsTuple a its.toArray from p1) (show s1.heap.IsTuple b its2.toArray from p2) fun h' hz' hTI hTO h1 h2 hsz hk => wpAny_pyIter_zip hz' ?_
      refine ⟨s1, H1, s1.heap.objs.size + 4, ns.map V.int, ms.map V.int, (ns.zip ms).map (fun q => V.int (f cs q.1 q.2)), nm.zip (cs.map V.int), [s1.heap.objs.size + 4, s1.heap.objs.size + 2, s1.heap.objs.size + 3, s1.heap.objs.size, s1.heap.objs.size + 1, a, b], [s1.heap.objs.size + 4, s1.heap.objs.size + 3, s1.heap.objs.size, s1.heap.objs.size + 1], (fun i vals => ∃ x y, its.toArray[i]? = some x ∧ its2.toArray[i]? = some y ∧ vals = #[x, y]), ZSt (s1.heap.objs.size + 4) (s1.heap.objs.size + 2) (s1.heap.objs.size + 3) s1.heap.objs.size (s1.heap.objs.size + 1) a b its.toArray its2.toArray, ZMid (s1.heap.objs.size + 4) (s1.heap.objs.size + 2) (s1.heap.objs.size + 3) s1.heap.objs.size (s1.heap.objs.size + 1) a b its.toArray its2.toArray, rfl, I1, hT, cap_of hc hcs,
        ⟨rfl, hk, by show s1.heap.objs.size ≤ h'.objs.size; omega, fun c hc => ?_, fun c hc => ?_, fun A' hA => by rw [List.length_map, ← l1]; exact walk_zipT hA _ _ _ _ _ _ _ (PySem.W.ktu_apart s1.heap.objs.size a b la lb) _ _ (by omega), ⟨hz', hTI, ⟨_, _, hTO⟩, h1, h2, (show s1.heap.IsTuple a its.toArray from p1).at fun o e => hk _ _ e, (show s1.heap.IsTuple b its2.toArray from p2).at fun o e => hk _ _ e⟩, fun i vals hv => ?_⟩, ?_, fun i v v' hv hv' => ?_, fun g s5 R => ?_⟩
      · simp at hc; rcases hc with rfl | rfl | rfl | rfl <;> first | exact Nat.le_refl _ | exact Nat.le_add_right _ _
      · show c < h'.objs.size ∧ c ≠ P
        simp at hc; rcases hc with rfl | rfl | rfl | rfl | rfl | rfl | rfl <;> constructor <;> first | assumption | exact Nat.lt_of_lt_of_le la (hsz ▸ Nat.le_add_right _ _) | exact Nat.lt_of_lt_of_le lb (hsz ▸ Nat.le_add_right _ _) | exact hsz ▸ Nat.add_lt_add_left (by decide) _ | exact hsz ▸ Nat.lt_add_of_pos_right (by decide) | exact Nat.ne_of_gt (Nat.lt_of_lt_of_le hPlt (Nat.le_add_right _ _)) | exact Nat.ne_of_gt hPlt
      · obtain ⟨u, v, hu, hv, e⟩ := hv
        have hu2 : its[i]? = some u := by simpa using hu
        have hv2 : its2[i]? = some v := by simpa using hv
        have hi : i < (ns.map V.int).length := by rw [rv.length]; exact (List.getElem?_eq_some_iff.mp hu2).1
        have hi2 : i < (ms.map V.int).length := by rw [rv2.length]; exact (List.getElem?_eq_some_iff.mp hv2).1
        obtain ⟨u', hu', ru⟩ := rv.get (List.getElem?_eq_getElem hi)
        obtain ⟨v', hv', rv'⟩ := rv2.get (List.getElem?_eq_getElem hi2)
        rw [hu2] at hu'; cases hu'
        rw [hv2] at hv'; cases hv'
        exact ⟨u, v, _, _, e, List.getElem?_eq_getElem hi, ru, List.getElem?_eq_getElem hi2, rv'⟩
      · rw [List.length_map, List.length_zip, List.length_map]; omega
      · rw [List.getElem?_map] at hv hv'
        cases e : ns[i]? with
        | none => rw [e] at hv; cases hv
        | some n =>
          cases e' : ms[i]? with
          | none => rw [e'] at hv'; cases hv'
          | some m =>
            rw [e] at hv; rw [e'] at hv'
            cases hv; cases hv'
            have ez : (ns.zip ms)[i]? = some (n, m) := by rw [List.getElem?_zip_eq_some]; exact ⟨e, e'⟩
            exact ⟨_, by rw [List.getElem?_map, ez]; rfl, hel cs n m (Paired.length hcs).symm (hC i n m e e')⟩
      · refine Calls.spliced_nil ?_
        exact tup_of R (by rw [List.length_map, List.length_zip]; omega) hQ
end
end Gx

set_option Elab.async false
set_option linter.all false
set_option maxRecDepth 100000
set_option maxHeartbeats 2000000
namespace Ab
open PySem PySem.Spec PyProof.Rows L2
/-! generator expressions, over data -/
section
variable {K : Fg} {b : Bp} {B : Base} {F H H2 : Hp} {σ : L2.St} {δ : LS}
/-- a table has grown -/
theorem Gr.tabbed {P : Addr} (e : Ex F H) (h : GxR.TabG H P ∧ F P = none) (t : GxR.Tabbed P H H2) : Gr none F H F H2 := by
  obtain ⟨⟨ps, h1, h2⟩, h3⟩ := h
  obtain ⟨⟨qs, t1, t2⟩, t3⟩ := t
  refine ⟨Ex.refl F, fun a o ha => ?_, fun p o hp hH => ⟨hp, fun _ => ?_, ?_⟩⟩
  · have ne : a ≠ P := by rintro rfl; rw [h3] at ha; cases ha
    rw [t3 a ne]; exact e a o ha
  · by_cases c : p = P
    · subst c
      rw [h1] at hH; cases hH
      exact ⟨_, t1, .inr ⟨_, _, rfl, rfl, t2⟩⟩
    · exact ⟨o, by rw [t3 p c]; exact hH, .refl o⟩
  · by_cases c : p = P
    · subst c; exact ⟨_, t1⟩
    · exact ⟨o, by rw [t3 p c]; exact hH⟩
end
section
variable {K : Fg} {b : Bp} {δ : LS} {te : TE} {ta : TA} {R : AV → LS → Prop}
/-- tuple(e for x in xs) of whole numbers -/
theorem de_tupG {P : Addr} {js : List Nat} {C : List Int → Int → Prop} {f : List Int → Int → Int} (hP : b.T P)
    (h : De K b te δ (toD fun x δ1 => ∃ ns : List Int, x = .tuple (ns.map PyData.int) ∧ ∃ cs : List Int, Paired (fun (j : Nat) (c : Int) => δ1[j]? = some (.dat (.int c))) js cs ∧ (∀ n ∈ ns, C cs n) ∧ ns.length ≤ 100000 ∧ R (.d (.tuple ((ns.map (f cs)).map PyData.int))) δ1)) :
    De K b (Gx.tTupG K P te js C f) δ R := fun B F H σ S Q q => (dd_of h) B F H σ S _ fun v F1 H1 x δ1 r1 S1 e1 v1 => by
  obtain ⟨ns, rfl, cs, hcs, hC, hl, r⟩ := r1
  cases v1 with
  | tup q1 q2 =>
    rename_i a xs
    have ex := DpAll.ints_eq q2
    subst ex
    refine ⟨a, ns, cs, rfl, S1.sub.t q1, Paired.mapP hcs fun j c hj => ?_, hC, sz_of hl, (S1.tb P hP).1, fun H2 t p hp => ?_⟩
    · obtain ⟨v, h1, h2⟩ := S1.dat hj
      cases h2; exact h1
    · have g := Gr.tabbed S1.sub (S1.tb P hP) t
      have S2 := S1.step g
      have e : (ns.map fun n => V.int (f cs n)) = (ns.map (f cs)).map V.int := by rw [List.map_map]; rfl
      rw [e]
      obtain ⟨S3, e3, d3⟩ := S2.newT hp (DpAll.ints (ns.map (f cs)))
      exact q _ _ _ _ δ1 r S3 ((e1.trans (Kp.gr g S1.sub)).trans e3) d3
/-- tuple(e for x, y in zip(xs, ys)) of whole numbers -/
theorem de_tupG2 {P : Addr} {js : List Nat} {C : List Int → Int → Int → Prop} {f : List Int → Int → Int → Int} (hP : b.T P)
    (h : Da K b ta δ fun ds δ1 => ∃ ns ms : List Int, ds = [.tuple (ns.map PyData.int), .tuple (ms.map PyData.int)] ∧ ∃ cs : List Int, Paired (fun (j : Nat) (c : Int) => δ1[j]? = some (.dat (.int c))) js cs ∧ ns.length = ms.length ∧ (∀ (i : Nat) (n m : Int), ns[i]? = some n → ms[i]? = some m → C cs n m) ∧ ns.length ≤ 100000 ∧
      R (.d (.tuple (((ns.zip ms).map fun q => f cs q.1 q.2).map PyData.int))) δ1) :
    De K b (Gx.tTupG2 K P ta js C f) δ R := fun B F H σ S Q q => h B F H σ S _ fun vs F1 H1 ds δ1 r1 S1 e1 v1 => by
  obtain ⟨ns, ms, rfl, cs, hcs, hl2, hC, hl, r⟩ := r1
  cases v1 with
  | cons d1 d2 => cases d2 with
    | cons d2 d3 =>
      cases d3
      cases d1 with
      | tup q1 q2 =>
        cases d2 with
        | tup q3 q4 =>
          have ex := DpAll.ints_eq q2
          subst ex
          have ex := DpAll.ints_eq q4
          subst ex
          refine ⟨_, _, ns, ms, cs, rfl, S1.sub.t q1, S1.sub.t q3, hl2, Paired.mapP hcs fun j c hj => ?_, hC, sz_of hl, (S1.tb P hP).1, fun H2 t p hp => ?_⟩
          · obtain ⟨v, h1, h2⟩ := S1.dat hj
            cases h2; exact h1
          · have g := Gr.tabbed S1.sub (S1.tb P hP) t
            have S2 := S1.step g
            have e : ((ns.zip ms).map fun q => V.int (f cs q.1 q.2)) = ((ns.zip ms).map fun q => f cs q.1 q.2).map V.int := by rw [List.map_map]; rfl
            rw [e]
            obtain ⟨S3, e3, d3⟩ := S2.newT hp (DpAll.ints ((ns.zip ms).map fun q => f cs q.1 q.2))
            exact q _ _ _ _ δ1 r S3 ((e1.trans (Kp.gr g S1.sub)).trans e3) d3
end
/-- a def whose code object stands at c -/
structure FunC (K : PySem.W.Frag) (x qual : Str) (st : Stmt) (f : Addr) (fd : FuncData) (c : Addr) : Prop where
  ex : ∃ (oc : Value) (od : Option Addr) (kV doc pm : Value) (an : Option Addr) (ct : Value) (osl : Array (Option Value)),
    fd = PySem.W.fnOf x qual (defArgs st) (defBody st) (defScope st) .none kV doc pm an (.ref c) ct ∧ K.lookup f = some ⟨oc, od, .func fd, osl⟩ ∧ PySem.W.codeIn K (.ref c) qual = true
  kp : PySem.W.keepIn K (.ref f) = true
section
variable {P : Program} {w : World} {K : Fg} {T : Addr → Prop} {mg : Str → Option Value} {base : Heap}
theorem FunC.ok {x qual : Str} {st : Stmt} {f c : Addr} {fd : FuncData} {N ps : List Str} {k : Nat} {sp : Sp} (F : FunC K x qual st f fd c) (S : FnScope N ps (defScope st)) (len : ∀ vs H Q E, sp vs H Q E → vs.length = ps.length)
    (hbody : ∀ (A : Around) (outer : List Env) (s : Shared) (H : Hp) (vs : List V) (Q : VK) (E : XK), Room k (A.deeper (envOfC qual (defScope st) s.heap.objs.size f (.ref c))) → sp vs H Q E →
      ∃ t, PSs (cxOf CX0 P w K mg base N qual (defScope st) f (.ref c) A outer s H E).nox (defBody st) t ∧ t { nx := fun _ H' => Q .non H', rt := Q } (L2.start N vs) H) : FnOk P w K mg base CX0 (k + 1) f fd ps sp := by
  obtain ⟨oc, od, kV, doc, pm, an, ct, osl, rfl, lk, hcd⟩ := F.ex
  refine fn_of lk hcd S len fun A outer s H vs Q E hr hsp => ?_
  obtain ⟨t, h, q⟩ := hbody A outer s H vs Q E hr hsp
  exact ⟨t, h.nox, q⟩
/-- the rule for a def that holds generator expressions: its code object stands at c -/
theorem mkFnC {x qual : Str} {st : Stmt} {f : Addr} {fd : FuncData} {N ps : List Str} {k : Nat} {c : Addr} {φ : List PyData → (PyData → Prop) → Prop} (F : FunC K x qual st f fd c) (S : FnScope N ps (defScope st)) (len : ∀ ds kk, φ ds kk → ds.length = ps.length)
    (hb : ∀ (A : Around) (outer : List Env) (s : Shared) (H : Hp) (E : XK), Room k (A.deeper (envOfC qual (defScope st) s.heap.objs.size f (.ref c))) →
      ∃ t, PSs (cxOf CX0 P w K mg base N qual (defScope st) f (.ref c) A outer s H E).nox (defBody st) t ∧ ∀ ds kk, φ ds kk → Ds K ⟨none, T⟩ t (ds.map Sl.dat ++ List.replicate (N.length - ds.length) Sl.no) { nx := fun _ => kk .none, rt := kk }) :
    FnOk P w K mg base CX0 (k + 1) f fd ps (spP K T φ) := by
  refine F.ok S (fun vs H Q E h => ?_) (fun A outer s H vs Q E hr h => ?_)
  · obtain ⟨F0, ds, kk, _, _, h1, h2, _⟩ := h
    rw [DpAll.length h1]
    exact len ds kk h2
  · obtain ⟨F0, ds, kk, ex, tb, h1, h2, h3⟩ := h
    obtain ⟨t, ht, hd⟩ := hb A outer s H E hr
    refine ⟨t, ht, ?_⟩
    have S0 := stt_start (T := T) ex tb h1 (N.length - ds.length)
    have e : L2.start N vs = vs.map some ++ List.replicate (N.length - ds.length) none := by
      unfold L2.start
      rw [DpAll.length h1]
    rw [e]
    refine hd ds kk h2 ⟨F0, H⟩ F0 H _ _ S0 ⟨fun F H' σ δ hk S _ => ?_, fun v F H' d hk g dp => ?_, fun _ _ _ _ z => z.elim, fun _ _ _ _ z => z.elim, fun _ _ _ _ _ _ _ z => z.elim, fun _ _ _ _ _ _ z => z.elim⟩
    · exact h3 .non F H' .none hk S.gr .non
    · exact h3 v F H' d hk g dp

end
def gsC (sc scope : Scope) (own : List Str) : Bool :=
  (match scope.kind with | .function => true | _ => false) && !scope.isCoroutine && (scope.names.all fun y => match y.2 with | .cell => false | _ => true) && decide (scope.names.lookup (".0" : Str) = some NameKind.local) &&
    (own.all fun x => decide (scope.names.lookup x = some NameKind.local)) && (scope.names.all fun y => match y.2 with | .free => (match sc.names.lookup y.1 with | some .cell => true | some .free => true | _ => false) | _ => true)
theorem gs_by {env : Env} {sc scope : Scope} {own : List Str} (e : env.scope = sc) (h : gsC sc scope own = true) : Gx.GS env scope own := by
  subst e
  unfold gsC at h
  simp only [Bool.and_eq_true, List.all_eq_true, decide_eq_true_eq] at h
  obtain ⟨⟨⟨⟨⟨h1, h2⟩, h3⟩, h4⟩, h5⟩, h6⟩ := h
  refine ⟨?_, by simpa using h2, fun y hy e => ?_, h4, h5, fun y hy e => ?_⟩
  · split at h1
    · assumption
    · cases h1
  · have := h3 y hy
    rw [e] at this; cases this
  · have := h6 y hy
    rw [e] at this
    simp only at this
    split at this
    · exact .inl (by assumption)
    · exact .inr (by assumption)
    · cases this
end Ab

set_option Elab.async false
set_option linter.all false
set_option maxRecDepth 100000
set_option maxHeartbeats 2000000
namespace Ab
open PySem PySem.Spec PyProof.Rows L2
/-! the end where defs hold generator expressions -/
/-- what the head tells of a def's code object and table -/
def TabFacts (K : PySem.W.Frag) (h : Heap) (f : Addr) : Prop := ∀ (oc : Value) (od : Option Addr) (osl : Array (Option Value)) (fd : FuncData) (c P : Addr) (e : Value) (dd : Option Addr) (vs : Array Value) (sl : Array (Option Value)), K.lookup f = some ⟨oc, od, .func fd, osl⟩ → fd.code = .ref c →
  K.lookup c = some ⟨e, dd, .fields vs, sl⟩ → vs[11]? = some (.ref P) → PySem.W.CodeHd h c P ∧ h.get? P = some { cls := .none, data := .fields #[] }
theorem walk_ofG {l : PySem.W.OpenLaw} {n k : Nat} {q : Program} {loose : List Str} {XP : (Str → Option Value) → Heap → Prop} {YP : World → Heap → Prop} {d : DefRec} {K : Params → PySem.W.Frag} {CX : World → CXT} {x : Str} (names : List Str)
    (hn : l.most = some n) (hn2 : n ≤ sizeLine) (hdf : d.params.defaults = []) (hr : Room k callerA) (hrec : (names.all fun x => (recsOf q).any fun e => e.name == x) = true) (hY : ∀ (w : World) (h : Heap), YP w h → (K w.params).In h)
    (F : ∀ (w : World) (mg : Str → Option Value) (fa : Addr) (h : Heap), (K w.params).In h → h.Ns mainGlobals mg → mg d.name = some (.ref fa) → (∀ x ∈ names, ∀ f, mg x = some (.ref f) → TabFacts (K w.params) h f) → LamX.LawAtS l w (K w.params) (CX w) k n x mg fa h)
    (hCX : ∀ (w : World) (H : Hp) (s : Shared) (e : Value) (s' : Shared), CX w [] H s (fun _ _ _ => False) e s' → False) :
    PySem.W.WalkO q loose XP YP l.row.toRowW d [] (fun f vs => PySem.call f vs) := by
  refine Att.attach_callB hn hdf fun w s₀ s₁ mg mb fa o pm cd doc a vs ns G Y ho hd hcd hmg hobj hints hlen hbits hg => ?_
  have KX := hY w _ Y
  have own : ∀ x ∈ names, ∀ f, mg x = some (.ref f) → TabFacts (K w.params) s₁.heap f := fun x hx f hf oc od osl fd1 c P e dd vs1 sl k1 k3 k4 k5 => by
    obtain ⟨dL, hm, hn1⟩ := List.any_eq_true.mp (List.all_eq_true.mp hrec x hx)
    have hn2 : dL.name = x := beq_iff_eq.mp hn1
    obtain ⟨a', o', fd', c', P', h1, h2, h3, h4, h5, h6⟩ := G.T.tab dL hm
    rw [hn2, hf] at h1
    cases h1
    have g1 := KX _ _ k1
    rw [g1] at h2
    cases h2
    cases h3
    rw [k3] at h4
    cases h4
    have h6' := h6
    obtain ⟨⟨oc, vc, e1, _, e3, e4⟩, hP⟩ := h6'
    have g2 := KX _ _ k4
    rw [g2] at e1
    cases e1
    cases e3
    rw [k5] at e4
    cases e4
    exact ⟨PySem.W.CodeHd.of h5 h6, hP⟩
  obtain ⟨fd, cs, sp, hT, nT, C, hb, hsp, hF⟩ := F w mg fa _ KX G.T.g hmg own
  exact LamX.law_callTs KX G.T.g G.T.b G.T.builtins G.T.nolimit hg hT nT C G.T.bmain hobj hints (Nat.le_trans hlen hn2) hr hF hb (fun H hH hS => hsp H a ns hlen hbits hH hS) fun H e s' => hCX w H s₁ e s'
def TS (cs : List (Addr × Addr)) : Addr → Prop := fun a => a ∈ cs.map (·.2)
theorem law_tabs {l : PySem.W.OpenLaw} {w : World} {K : PySem.W.Frag} {k n : Nat} {x : Str} {mg : Str → Option Value} {fa : Addr} {h : Heap} {φ : List PyData → (PyData → Prop) → Prop} (cs : List (Addr × Addr)) (fd : FuncData)
    (hp : ∀ p ∈ cs, PySem.W.CodeHd h p.1 p.2 ∧ h.get? p.2 = some { cls := .none, data := .fields #[] }) (nT : ∀ p ∈ cs, K.lookup p.2 = none)
    (hb : ∀ (s : Shared) (u : Value), BindsTo s fd ⟨[u], []⟩ [(x, u)]) (hφ : ∀ ns : List Int, ns.length ≤ n → φ [.list (ns.map PyData.int)] fun d => d = .bool true)
    (hF : ∀ base : Heap, K.In base → base.Ns mainGlobals mg → (∀ p ∈ cs, GxR.TabB base mg p.1 p.2) → FnOk l.prog w K mg base CX0 k fa fd [x] (spP K (TS cs) φ)) : LamX.LawAtS l w K CX0 k n x mg fa h := by
  refine ⟨fd, cs, spP K (TS cs) φ, fun p q => (hp p q).2, nT, fun p q => (hp p q).1, hb, fun H a ns hl _ hH hS => ?_, fun base h1 h2 h3 => hF base h1 h2 fun p q => ?_⟩
  · let F0 : Hp := fun b => if b ∈ cs.map (·.2) then none else H b
    have nF : ∀ b, b ∈ cs.map (·.2) → F0 b = none := fun b hb => if_pos hb
    have yF : ∀ b, ¬ b ∈ cs.map (·.2) → F0 b = H b := fun b hb => if_neg hb
    have eF : Ex F0 H := fun b o e => by
      by_cases c : b ∈ cs.map (·.2)
      · rw [nF b c] at e; cases e
      · rw [yF b c] at e; exact e
    have tab : ∀ b, b ∈ cs.map (·.2) → H b = some (.tbl #[]) := fun b hb => by
      obtain ⟨p, hp, rfl⟩ := List.mem_map.mp hb
      exact hH p hp
    refine ⟨F0, [.list (ns.map PyData.int)], fun d => d = .bool true, eF, fun P hP => ⟨⟨#[], tab P hP, ?_⟩, nF P hP⟩, .cons (.lst ?_ (DpAll.ints ns)) .nil, hφ ns hl, fun v F2 H2 d hd _ dp => by subst hd; cases dp; rfl⟩
    · first | trivial | (intro z hz; cases hz) | simp [TriplesOk]
    · rcases hS with r | r
      · refine .inl ?_
        have na : ¬ a ∈ cs.map (·.2) := fun c => by
          rcases r with r | ⟨o, r⟩
          · rw [tab a c] at r; cases r
          · rw [tab a c] at r; cases r
        rcases r with r | ⟨o, r⟩
        · exact .inl (by rw [yF a na]; exact r)
        · exact .inr ⟨o, by rw [yF a na]; exact r⟩
      · exact .inr r
  · have t := h3 p q
    exact ⟨t.code, t.bm, t.gP⟩
theorem FunC.toFun {K : PySem.W.Frag} {x qual : Str} {st : Stmt} {f : Addr} {fd : FuncData} {c : Addr} (F : FunC K x qual st f fd c) : Fun K x qual st f fd := by
  obtain ⟨⟨oc, od, kV, doc, pm, an, ct, osl, rfl, lk, hcd⟩, kp⟩ := F
  exact fun_mk lk hcd kp
theorem func_mk {K : PySem.W.Frag} {x qual : Str} {st : Stmt} {f c : Addr} {oc : Value} {od an : Option Addr} {osl : Array (Option Value)} {kV doc pm ct : Value} (l : K.lookup f = some ⟨oc, od, .func (PySem.W.fnOf x qual (defArgs st) (defBody st) (defScope st) .none kV doc pm an (.ref c) ct), osl⟩)
    (hc : PySem.W.codeIn K (.ref c) qual = true) (kp : PySem.W.keepIn K (.ref f) = true) : FunC K x qual st f (PySem.W.fnOf x qual (defArgs st) (defBody st) (defScope st) .none kV doc pm an (.ref c) ct) c := ⟨⟨oc, od, kV, doc, pm, an, ct, osl, rfl, l, hc⟩, kp⟩
theorem op_isN2 {X : Cx} : OpR X (compareOp .Is) Ab.rIsN := op_isN
theorem op_notN2 {X : Cx} : OpR X (compareOp .IsNot) Ab.rNotN := op_notN
theorem shaped_str {x : Str} (h : (PyData.str x).canLay0 = true) : SeqAt.shaped (.str x) = true := shaped_pl (n := 1) (by simpa [Pl] using h)
theorem cpow {i j : Int} (h0 : 0 ≤ j) (h1 : j ≤ 1000000) (h2 : i.natAbs < 2 ^ 64) : CPow i j := ⟨h0, h1, h2⟩
theorem gcdI_nat (a b : Nat) : gcdI a b = (Nat.gcd a b : Nat) := by unfold gcdI; simp
end Ab

set_option Elab.async false
set_option linter.all false
set_option maxRecDepth 100000
set_option maxHeartbeats 2000000
namespace Ab
open PySem PySem.Spec PyProof.Rows L2
/-! sorted, list + list, comprehensions of two clauses -/
section
variable {K : Fg} {b : Bp} {δ : LS} {te ta tb : TE} {R : List PyData → LS → Prop}
/-- sorted(xs), whole numbers -/
theorem dn_sortI (h : De K b te δ fun a δ1 => ∃ ns : List Int, lstIn a δ1 (ns.map PyData.int) ∧ ∀ ns' : List Int, ns'.Perm ns → ns'.Pairwise (· ≤ ·) → R (ns'.map PyData.int) δ1) : Dn K b (tCB (rSortedI K) (tCons te tNil)) δ R :=
  fun B F H σ S Q q => h B F H σ S _ fun v F1 H1 x δ1 r1 S1 e1 v1 => by
    obtain ⟨ns, h1, k⟩ := r1
    obtain ⟨p, xs, rfl, h3, h4⟩ := h1.get S1 v1
    have e := DpAll.ints_eq h4
    subst e
    refine ⟨p, ns, rfl, h3, fun ns' l pm so hl => ?_⟩
    obtain ⟨S2, e2, N⟩ := S1.newL hl (DpAll.ints ns')
    exact q l _ F1 _ _ δ1 (k ns' pm so) S2 (e1.trans e2) (e1.there l hl) N
def prD (p : Int × Int) : PyData := .tuple [.int p.1, .int p.2]
theorem prs_at {F : Hp} : ∀ {xs : List V} {L : List (Int × Int)}, DpAll K F xs (L.map prD) → Paired (fun x (p : Int × Int) => ∃ t, x = V.ref t ∧ SqT K F t [V.int p.1, V.int p.2]) xs L
  | _, [], .nil => .nil
  | _, p :: L, .cons a r => by
    refine .cons ?_ (prs_at r)
    cases a with
    | tup h1 h2 =>
      cases h2 with
      | cons c d => cases d with
        | cons d e => cases e; cases c; cases d; exact ⟨_, rfl, h1⟩
theorem prs_to {F : Hp} : ∀ {xs : List V} {L : List (Int × Int)}, Paired (fun x (p : Int × Int) => ∃ t, x = V.ref t ∧ SqT K F t [V.int p.1, V.int p.2]) xs L → DpAll K F xs (L.map prD)
  | _, _, .nil => .nil
  | _, _, .cons a r => by
    obtain ⟨t, rfl, ht⟩ := a
    exact .cons (.tup ht (.cons (.int _) (.cons (.int _) .nil))) (prs_to r)
theorem paired_perm {α β : Type} {G : α → β → Prop} {xs ys : List α} (h : ys.Perm xs) : ∀ {L : List β}, Paired G xs L → ∃ L', L'.Perm L ∧ Paired G ys L' := by
  induction h with
  | nil => intro L g; cases g; exact ⟨[], .nil, .nil⟩
  | cons x _ ih =>
    intro L g
    cases g with
    | cons a r =>
      obtain ⟨L', p, g'⟩ := ih r
      exact ⟨_ :: L', .cons _ p, .cons a g'⟩
  | swap x y l =>
    intro L g
    cases g with
    | cons a r => cases r with
      | cons c r => exact ⟨_ :: _ :: _, .swap _ _ _, .cons c (.cons a r)⟩
  | trans _ _ i1 i2 =>
    intro L g
    obtain ⟨L1, p1, g1⟩ := i2 g
    obtain ⟨L2, p2, g2⟩ := i1 g1
    exact ⟨L2, p2.trans p1, g2⟩
theorem paired_mem {α β : Type} {G : α → β → Prop} : ∀ {xs : List α} {L : List β}, Paired G xs L → ∀ x ∈ xs, ∃ y ∈ L, G x y
  | _, _, .cons a r, x, hx => by
    rcases List.mem_cons.mp hx with rfl | z
    · exact ⟨_, List.mem_cons_self, a⟩
    · obtain ⟨y, h1, h2⟩ := paired_mem r x z
      exact ⟨y, List.mem_cons_of_mem _ h1, h2⟩
theorem paired_pw {α β : Type} {G : α → β → Prop} {P : α → α → Prop} {P' : β → β → Prop} (hh : ∀ a b x y, G a x → G b y → P a b → P' x y) : ∀ {xs : List α} {L : List β}, Paired G xs L → xs.Pairwise P → L.Pairwise P'
  | _, _, .nil, _ => .nil
  | _, _, .cons (l₁ := xs) (l₂ := L) a r, w => by
    have w := List.pairwise_cons.mp w
    refine List.pairwise_cons.mpr ⟨fun y hy => ?_, paired_pw hh r w.2⟩
    have back : ∀ {xs : List α} {L : List β}, Paired G xs L → ∀ y ∈ L, ∃ x ∈ xs, G x y := fun {xs L} r => by
      induction r with
      | nil => intro y hy; cases hy
      | cons a r ih =>
        intro y hy
        rcases List.mem_cons.mp hy with rfl | z
        · exact ⟨_, List.mem_cons_self, a⟩
        · obtain ⟨x, h1, h2⟩ := ih y z
          exact ⟨x, List.mem_cons_of_mem _ h1, h2⟩
    obtain ⟨x, hx, g⟩ := back r y hy
    exact hh _ _ _ _ a g (w.1 x hx)
/-- sorted(xs), pairs of whole numbers at least 0 -/
theorem dn_sortP {N : Int} (h : De K b te δ fun a δ1 => ∃ L : List (Int × Int), lstIn a δ1 (L.map prD) ∧ L.length < 64 ∧ (∀ p ∈ L, 0 ≤ p.1 ∧ p.1 < N ∧ 0 ≤ p.2 ∧ p.2 < N) ∧ ∀ L' : List (Int × Int), L'.Perm L → L'.Pairwise (fun p q => p.1 * N + p.2 ≤ q.1 * N + q.2) → R (L'.map prD) δ1) : Dn K b (tCB (rSortU K 2 N) (tCons te tNil)) δ R :=
  fun B F H σ S Q q => h B F H σ S _ fun v F1 H1 x δ1 r1 S1 e1 v1 => by
    obtain ⟨L, h1, l64, bd, k⟩ := r1
    obtain ⟨p, xs, rfl, h3, h4⟩ := h1.get S1 v1
    have G := prs_at h4
    have ll : xs.length = L.length := Paired.length G
    refine ⟨p, xs, rfl, h3, by omega, fun x hx => ?_, fun ys l pm so hl => ?_⟩
    · obtain ⟨y, hy, t, rfl, ht⟩ := paired_mem G x hx
      refine ⟨[y.1, y.2], ⟨t, rfl, S1.sub.t ht⟩, rfl, fun m hm => ?_⟩
      have := bd y hy
      simp only [List.mem_cons, List.not_mem_nil, or_false] at hm
      rcases hm with rfl | rfl
      · exact ⟨this.1, this.2.1⟩
      · exact ⟨this.2.2.1, this.2.2.2⟩
    · obtain ⟨L', pL, G'⟩ := paired_perm pm G
      obtain ⟨S2, e2, NN⟩ := S1.newL hl (prs_to G')
      refine q l _ F1 _ _ δ1 (k L' pL ?_) S2 (e1.trans e2) (e1.there l hl) NN
      refine paired_pw (fun a c x y ga gc hac => ?_) G' so
      obtain ⟨t, rfl, ht⟩ := ga
      obtain ⟨u, rfl, hu⟩ := gc
      have := hac [x.1, x.2] [y.1, y.2] ⟨t, rfl, S1.sub.t ht⟩ ⟨u, rfl, S1.sub.t hu⟩
      have ec : ∀ a b : Int, TS.code N [a, b] = a * N + b := fun a b => by
        show a * N ^ 1 + (b * N ^ 0 + 0) = a * N + b
        grind
      rw [ec, ec] at this
      exact this
/-- xs + ys, new lists both -/
theorem dn_cat (h : Dn K b ta δ fun ds δ1 => Dn K b tb δ1 fun es δ2 => ds.length + es.length ≤ 100000 ∧ R (ds ++ es) δ2) : Dn K b (tOp rCat ta tb) δ R :=
  fun B F H σ S Q q => h B F H σ S _ fun p xs F1 H1 ds δ1 r1 S1 e1 hp N1 => r1 B F1 H1 σ S1 _ fun p2 ys F2 H2 es δ2 r2 S2 e2 hp2 N2 => by
    obtain ⟨hl, r2⟩ := r2
    obtain ⟨f2, o', h2, k2⟩ := e2.keep p (.lst xs) N1.f N1.h (fun ⟨i, s, a1, a2, a3⟩ => N1.ap i s a1 a2 a3) (fun z => S.bb p z hp)
    cases k2.lst
    have l1 := DpAll.length N1.all
    have l2 := DpAll.length N2.all
    refine ⟨p, p2, xs, ys, rfl, rfl, h2, N2.h, sz_of (by omega), fun r hr => ?_⟩
    obtain ⟨S3, e3, N⟩ := S2.newL hr (DpAll.append (DpAll.mono e2.ex N1.all) N2.all)
    exact q r _ F2 _ _ δ2 r2 S3 ((e1.trans e2).trans e3) (e1.there r (e2.there r hr)) N
/-- a list of one's own, given up: data from now on -/
theorem ds_frz {ts : L2.TS} {P : Po} {i : Nat} {ds : List PyData} (hi : δ[i]? = some (.own ds)) (h : Ds K b ts (δ.set i (.dat (.list ds))) P) : Ds K b ts δ P := fun B F H σ D S E => by
  obtain ⟨p, F', _, k, _, S'⟩ := S.frz hi
  exact h B F' H σ D S' (E.mono k.ex)
/-! comprehensions of two clauses -/
/-- the turns' state, slots wiped: D the new list -/
structure LcS2 (K : Fg) (b : Bp) (B : Base) (Fx F1 H1 : Hp) (σ : L2.St) (δ : LS) (σw : L2.St) (δw : LS) (D : Addr) (ds : List PyData) (H : Hp) : Prop where
  ex : ∃ (F : Hp) (acc : List V), Stt K b B F H σw δw ∧ Ex Fx F ∧ (∀ p o, F1 p = none → H1 p = some o → ¬ Own σ δ p → b.p ≠ some p → F p = none ∧ ∃ o', H p = some o' ∧ Kept o o') ∧ (∀ p, H p = none → H1 p = none) ∧
    F D = none ∧ H D = some (.lst acc) ∧ DpAll K F acc ds
theorem wipe_back {α : Type} {i j : Nat} (hij : i ≠ j) (l : List α) (z x : α) : ((((l.set j z).set i z).set i x).set j z).set i z = (l.set j z).set i z := by
  rw [List.set_set, List.set_comm x z hij, List.set_set, List.set_set]
theorem flat_step {f : PyData → PyData → PyData} {ys xs : List PyData} {i : Nat} {x : PyData} (h : xs[i]? = some x) : (xs.take (i + 1)).flatMap (fun d => ys.map (f d)) = (xs.take i).flatMap (fun d => ys.map (f d)) ++ ys.map (f x) := by
  have hi : i < xs.length := lt_of_get h
  rw [List.take_add_one, h, List.flatMap_append]
  simp
theorem flat_len {f : PyData → PyData → PyData} {ys : List PyData} : ∀ xs : List PyData, (xs.flatMap fun d => ys.map (f d)).length = xs.length * ys.length
  | [] => by simp
  | x :: xs => by
    rw [List.flatMap_cons, List.length_append, flat_len xs, List.length_map]
    show _ = (xs.length + 1) * ys.length
    rw [Nat.add_mul]; omega
theorem yesT {σ : L2.St} {H : Hp} {A C : Hp → Prop} (h : A H) : tYes σ H fun b H3 => if b = true then A H3 else C H3 := h
/-- [elt for x in xs for y in ys], x and y plain names -/
theorem dn_lc2 {i j : Nat} (hij : i ≠ j) {tl tl1 : TE} {f : PyData → PyData → PyData} (h : De K b tl δ (toD fun x δ1 => ∃ xs ys, x = .list xs ∧ xs.length * ys.length ≤ 100000 ∧
      (∀ d ∈ xs, De K b tl1 ((wipeD δ1 [i, j]).set i (.dat d)) (toD fun y δ3 => δ3 = (wipeD δ1 [i, j]).set i (.dat d) ∧ y = .list ys) ∧
        ∀ d' ∈ ys, De K b te ((wipeD ((wipeD δ1 [i, j]).set i (.dat d)) [j]).set j (.dat d')) (toD fun r δ5 => δ5 = (wipeD ((wipeD δ1 [i, j]).set i (.dat d)) [j]).set j (.dat d') ∧ r = f d d')) ∧
      R (xs.flatMap fun d => ys.map (f d)) (wipeD δ1 [i, j]))) : Dn K b (tLc2 (iList K tl) (gName i) tYes (iList K tl1) (gName j) tYes te [i, j] [j]) δ R :=
  fun B F H σ S Q q => (dd_of h) B F H σ S _ fun v F1 H1 x δ1 r1 S1 e1 v1 => by
    obtain ⟨xs, ys, rfl, hlen, hb, r⟩ := r1
    cases v1 with
    | lst q1 q2 =>
      rename_i a vs
      have lv : vs.length = xs.length := DpAll.length q2
      refine ⟨a, rfl, ⟨vs, S1.sub.l q1⟩, fun D hD => ?_⟩
      obtain ⟨S2, e2, N⟩ := S1.newL hD (ds := []) (xs := []) .nil
      have nO : ¬ Own σ δ1 D := fun ⟨i, s, h1, h2, h3⟩ => N.ap i s h1 h2 h3
      have nP : b.p ≠ some D := fun z => S1.bb D z hD
      have nB : B.H D = none := N.b
      have nwD : ¬ Own (L2.wipe σ [i, j]) (wipeD δ1 [i, j]) D := fun z => nO (own_wipe z)
      refine ⟨fun n m H => m = xs.length - n ∧ n ≤ xs.length ∧ LcS2 K b B F1 F1 H1 σ δ1 (L2.wipe σ [i, j]) (wipeD δ1 [i, j]) D ((xs.take n).flatMap fun d => ys.map (f d)) H, ⟨xs.length, by simp, Nat.zero_le _, ?_⟩, ?_⟩
      · refine ⟨F1, [], S2.wipe [i, j], Ex.refl F1, fun p o a1 a2 a3 a4 => ?_, fun p z => e2.there p z, N.f, upd_same, .nil⟩
        have ne : p ≠ D := by rintro rfl; rw [hD] at a2; cases a2
        rw [upd_ne ne]; exact ⟨a1, o, a2, .refl o⟩
      · rintro n m Hn ⟨rfl, hn, I⟩
        obtain ⟨F, acc, S, ex, kp, th, d1, d2, d3⟩ := I.ex
        have sq : SqL K Hn a vs := (ex.trans S.sub).l q1
        by_cases hlt : n < xs.length
        · have hv : n < vs.length := by omega
          refine .inr ⟨⟨vs, vs[n], sq, by simp [hv]⟩, fun H' => LcS2 K b B F1 F1 H1 σ δ1 (L2.wipe σ [i, j]) (wipeD δ1 [i, j]) D ((xs.take (n + 1)).flatMap fun d => ys.map (f d)) H', fun H' p' => ⟨xs.length - (n + 1), by omega, rfl, hlt, p'⟩, fun x H' y => ?_⟩
          obtain ⟨e, y⟩ := y
          subst e
          have hx : vs[n]? = some x := y vs sq
          obtain ⟨d, hd1, hd2⟩ := DpAll.get' q2 hx
          have dx : Dp K F x d := Dp.mono ex hd2
          have dm : d ∈ xs := List.mem_of_getElem? hd1
          obtain ⟨hb1, hb2⟩ := hb d dm
          have S3 := S.setD (i := i) dx
          have ow3 : ∀ p, Own ((L2.wipe σ [i, j]).set i (some x)) ((wipeD δ1 [i, j]).set i (.dat d)) p → Own (L2.wipe σ [i, j]) (wipeD δ1 [i, j]) p := fun p hp => own_set S.len hp
          have n3D : ¬ Own ((L2.wipe σ [i, j]).set i (some x)) ((wipeD δ1 [i, j]).set i (.dat d)) D := fun z => nwD (ow3 D z)
          have w3 : L2.wipe ((L2.wipe σ [i, j]).set i (some x)) [i, j] = L2.wipe σ [i, j] := wipe_back hij σ none (some x)
          have w3D : wipeD ((wipeD δ1 [i, j]).set i (.dat d)) [i, j] = wipeD δ1 [i, j] := wipe_back hij δ1 Sl.no (.dat d)
          refine ⟨w3, ?_⟩
          refine yesT ?_
          refine (dd_of hb1) B F H' _ S3 _ fun w F4 H4 y4 δ4 r4 S4 e4 v4 => ?_
          obtain ⟨rfl, rfl⟩ := r4
          obtain ⟨f4, o4, h4, k4⟩ := e4.keep D _ d1 d2 n3D nP
          cases k4.lst
          generalize hσ3 : (L2.wipe σ [i, j]).set i (some x) = σ3 at *
          generalize hδ3 : (wipeD δ1 [i, j]).set i (.dat d) = δ3 at *
          cases v4 with
          | lst u1 u2 =>
            rename_i a1 vs1
            have l1 : vs1.length = ys.length := DpAll.length u2
            have bnd : ∀ k, k < ys.length → ((xs.take n).flatMap (fun d => ys.map (f d)) ++ (ys.take k).map (f d)).length < 100000 := fun k hk => by
              rw [List.length_append, flat_len, List.length_take, Nat.min_eq_left hn, List.length_map, List.length_take, Nat.min_eq_left (Nat.le_of_lt hk)]
              have := Nat.mul_le_mul_right ys.length (show n + 1 ≤ xs.length from hlt)
              rw [Nat.add_mul] at this
              omega
            refine ⟨a1, rfl, ⟨vs1, S4.sub.l u1⟩, fun k m H => m = ys.length - k ∧ k ≤ ys.length ∧ LcS2 K b B F4 F1 H1 σ δ1 (L2.wipe σ3 [j]) (wipeD δ3 [j]) D ((xs.take n).flatMap (fun d => ys.map (f d)) ++ (ys.take k).map (f d)) H, ⟨ys.length, by simp, Nat.zero_le _, ?_⟩, ?_⟩
            · refine ⟨F4, acc, S4.wipe [j], Ex.refl F4, fun p o a1 a2 a3 a4 => ?_, fun p z => th p (e4.there p z), f4, h4, ?_⟩
              · obtain ⟨z1, o1, z2, z3⟩ := kp p o a1 a2 a3 a4
                obtain ⟨y1, o2, y2, y3⟩ := e4.keep p o1 z1 z2 (fun z => a3 (own_wipe (ow3 p z))) a4
                exact ⟨y1, o2, y2, z3.trans y3⟩
              · simp only [List.take_zero, List.map_nil, List.append_nil]
                exact DpAll.mono e4.ex d3
            · rintro k m Hk ⟨rfl, hk, I⟩
              obtain ⟨F5, acc5, S5, ex5, kp5, th5, g1, g2, g3⟩ := I.ex
              have sq5 : SqL K Hk a1 vs1 := (ex5.trans S5.sub).l u1
              by_cases hkt : k < ys.length
              · have hv5 : k < vs1.length := by omega
                refine .inr ⟨⟨vs1, vs1[k], sq5, by simp [hv5]⟩, fun H' => LcS2 K b B F4 F1 H1 σ δ1 (L2.wipe σ3 [j]) (wipeD δ3 [j]) D ((xs.take n).flatMap (fun d => ys.map (f d)) ++ (ys.take (k + 1)).map (f d)) H', fun H' p' => ⟨ys.length - (k + 1), by omega, rfl, hkt, p'⟩, fun x5 H' y => ?_⟩
                obtain ⟨e, y⟩ := y
                subst e
                have hx5 : vs1[k]? = some x5 := y vs1 sq5
                obtain ⟨d', he1, he2⟩ := DpAll.get' u2 hx5
                have dx5 : Dp K F5 x5 d' := Dp.mono ex5 he2
                have S6 := S5.setD (i := j) dx5
                have ow6 : ∀ p, Own ((L2.wipe σ3 [j]).set j (some x5)) ((wipeD δ3 [j]).set j (.dat d')) p → Own σ δ1 p := fun p hp => own_wipe (ow3 p (own_wipe (own_set S5.len hp)))
                have n6D : ¬ Own ((L2.wipe σ3 [j]).set j (some x5)) ((wipeD δ3 [j]).set j (.dat d')) D := fun z => nO (ow6 D z)
                refine ⟨by show ((σ3.set j none).set j (some x5)).set j none = σ3.set j none; rw [List.set_set, List.set_set], ?_⟩
                refine yesT ?_
                refine (dd_of (hb2 d' (List.mem_of_getElem? he1))) B F5 H' _ S6 _ fun w F7 H7 y7 δ7 r7 S7 e7 v7 => ?_
                obtain ⟨rfl, rfl⟩ := r7
                obtain ⟨f7, o7, h7, k7⟩ := e7.keep D _ g1 g2 n6D nP
                cases k7.lst
                have S8 := S7.updN (o := .lst (acc5 ++ [w])) f7 nB n6D (fun ps z => by rw [h7] at z; exact (nomatch z))
                have S9 := S8.wipe [j]
                have ew : L2.wipe ((L2.wipe σ3 [j]).set j (some x5)) [j] = L2.wipe σ3 [j] := by show ((σ3.set j none).set j (some x5)).set j none = σ3.set j none; rw [List.set_set, List.set_set]
                have ewD : wipeD ((wipeD δ3 [j]).set j (.dat d')) [j] = wipeD δ3 [j] := by show ((δ3.set j Sl.no).set j (.dat d')).set j Sl.no = δ3.set j Sl.no; rw [List.set_set, List.set_set]
                rw [ew, ewD] at S9
                refine ⟨acc5, h7, sz_lt (by rw [DpAll.length g3]; exact bnd k hkt), F7, acc5 ++ [w], S9, ex5.trans e7.ex, fun p o a1 a2 a3 a4 => ?_, fun p z => ?_, f7, upd_same, ?_⟩
                · obtain ⟨z1, o1, z2, z3⟩ := kp5 p o a1 a2 a3 a4
                  obtain ⟨y1, o2, y2, y3⟩ := e7.keep p o1 z1 z2 (fun z => a3 (ow6 p z)) a4
                  have ne : p ≠ D := by rintro rfl; rw [hD] at a2; cases a2
                  rw [upd_ne ne]; exact ⟨y1, o2, y2, z3.trans y3⟩
                · by_cases c : p = D
                  · subst c; rw [upd_same] at z; cases z
                  · rw [upd_ne c] at z
                    exact th5 p (e7.there p z)
                · rw [List.take_add_one, he1, List.map_append, ← List.append_assoc]
                  exact DpAll.append (DpAll.mono e7.ex g3) (.cons v7 .nil)
              · have e : k = ys.length := by omega
                subst e
                refine .inl ⟨⟨vs1, sq5, by omega⟩, F5, acc5, ?_, (ex.trans e4.ex).trans ex5, kp5, th5, g1, g2, ?_⟩
                · have S6 := S5.wipe [i]
                  have a1 : L2.wipe (L2.wipe σ3 [j]) [i] = L2.wipe σ [i, j] := by rw [← w3]; rfl
                  have a2 : wipeD (wipeD δ3 [j]) [i] = wipeD δ1 [i, j] := by rw [← w3D]; rfl
                  rwa [a1, a2] at S6
                · rw [flat_step hd1]
                  rwa [List.take_length] at g3
        · have e : n = xs.length := by omega
          subst e
          refine .inl ⟨⟨vs, sq, by omega⟩, ?_⟩
          rw [List.take_length] at d3
          have S' := S.unwipe S1.len
          exact q D acc F Hn _ _ r S' (e1.trans ⟨ex, fun p z => own_wipe' z, fun p o a1 a2 a3 a4 => kp p o a1 a2 a3 a4, fun p z => th p z⟩) (e1.there D hD) ⟨d2, d1, nB, fun i s h1 h2 h3 => nO (own_wipe' ⟨i, s, h1, h2, h3⟩), d3⟩
end
end Ab

set_option Elab.async false
set_option linter.all false
set_option maxRecDepth 100000
set_option maxHeartbeats 2000000
namespace Gx
open PySem PySem.Spec PyProof.Rows L2
/-! elements that call a def -/
/-- what an element may lean on: room for calls, the module's names -/
structure CtxQ (base : Heap) (k : Nat) (scope : Scope) (cenv : Env) (A : Around) (s : Shared) : Prop where
  room : Room k A
  kind : cenv.scope.kind = .function
  sc : cenv.scope = scope
  gl : cenv.globals = mainGlobals
  bi : cenv.builtins = builtinsNs
  kp : ∀ b o, base.get? b = some o → s.heap.get? b = some o
theorem CtxQ.keeps {base : Heap} {k : Nat} {scope : Scope} {cenv : Env} {A : Around} {s s' : Shared} (c : CtxQ base k scope cenv A s) (h : Keeps s s') : CtxQ base k scope cenv A s' :=
  ⟨c.room, c.kind, c.sc, c.gl, c.bi, fun b o e => Keeps.get h (c.kp b o e)⟩
def EQ (prog : Program) (w : World) (K : PySem.W.Frag) (mg : Str → Option Value) (base : Heap) (k : Nat) (scope : Scope) (elt : Expr) (ρ : List (Str × V)) (v : V) : Prop :=
  ∀ (cenv : Env) (A : Around) (E : Value → Shared → Prop) (s : Shared), L2.Mod K mg base → CtxQ base k scope cenv A s → (∀ p ∈ ρ, RdN cenv s.heap p.1 p.2) → wpAny (model prog w) A (eval elt cenv) (fun u s3 => RelV v u ∧ Keeps s s3) E s
section
variable {prog : Program} {w : World} {K : PySem.W.Frag} {mg : Str → Option Value} {base : Heap} {k : Nat} {scope : Scope} {ρ : List (Str × V)} {a e e1 : Expr} {rest : List Expr} {pos p1 p2 : Pos}
theorem eq_eg {elt : Expr} {v : V} (h : EG prog w elt ρ v) : EQ prog w K mg base k scope elt ρ v := fun cenv A E s _ _ hr => h cenv A E s hr
theorem eq_one {op : BoolOp} {v : V} (h : EQ prog w K mg base k scope a ρ v) : EQ prog w K mg base k scope (.BoolOp op [a] pos) ρ v := fun cenv A E s M C hr => BoolOp_one (h cenv A E s M C hr)
theorem eq_and {x y : Bool} (ha : EQ prog w K mg base k scope a ρ (.bl x)) (hb : x = true → EQ prog w K mg base k scope (.BoolOp .And (e :: rest) pos) ρ (.bl y)) : EQ prog w K mg base k scope (.BoolOp .And (a :: e :: rest) pos) ρ (.bl (x && y)) := fun cenv A E s M C hr => by
  refine BoolOp_and (thn (ha cenv A E s M C hr) fun v s1 ⟨r, k1⟩ => ?_)
  obtain rfl : v = Value.bool x := r
  refine wpAny_truthy_bool ?_
  cases x with
  | true => exact thn (hb rfl cenv A E s1 M (C.keeps k1) fun p hp => (hr p hp).keeps k1) fun v s2 ⟨r, k2⟩ => ⟨r, Keeps.trans k1 k2⟩
  | false => exact ⟨rfl, k1⟩
theorem eq_not {x : Bool} (ha : EQ prog w K mg base k scope a ρ (.bl x)) : EQ prog w K mg base k scope (.UnaryOp .Not a pos) ρ (.bl (!x)) := fun cenv A E s M C hr => by
  refine UnaryOp_ (thn (ha cenv A E s M C hr) fun v s1 ⟨r, k1⟩ => ?_)
  obtain rfl : v = Value.bool x := r
  exact not_of (wpAny_truthy_bool ⟨rfl, k1⟩)
theorem ld_bltQ {cenv : Env} {A : Around} {E : Value → Shared → Prop} {s : Shared} {x : Str} {u : Value} {Q : Value → Shared → Prop} (M : L2.Mod K mg base) (C : CtxQ base k scope cenv A s) (hg : scope.names.lookup x = some .globalImplicit) (hm : mg x = none) (hv : bootBuiltins x = some u) (h : Q u s)
    (hn : x ≠ "__name__" := by decide) (hd : (x == ("__debug__" : Str)) = false := by decide) : wpAny (model prog w) A (eval (.Name x pos) cenv) Q E s := by
  obtain ⟨mb, h1, h2⟩ := M.blt
  exact Calls.Name_function_global C.kind (by show cenv.scope.names.lookup x = _; rw [C.sc]; exact hg) (Calls.loadGlobal_builtin (by rw [C.gl]; exact M.glob.keeps C.kp) hm (by rw [C.bi]; exact h1.keeps C.kp) ((h2 x hn).trans hv) h) hd
/-- isinstance(e, T), e a whole number -/
theorem eq_isint {i : Int} {cl : Str} {T : String} {b : Bool} (hg : scope.names.lookup ("isinstance" : Str) = some .globalImplicit) (hm : mg "isinstance" = none) (hg2 : scope.names.lookup cl = some .globalImplicit) (hm2 : mg cl = none) (hv2 : bootBuiltins cl = some (.type T)) (he1 : EQ prog w K mg base k scope e ρ (.int i))
    (hb : PySem.W.kitOne K (.type "int") (.type T) = some b) (hn2 : cl ≠ "__name__" := by decide) (hd2 : (cl == ("__debug__" : Str)) = false := by decide) (hv : bootBuiltins "isinstance" = some (.builtin "isinstance") := by decide +kernel)
    (he : ∀ env, starEach [e, .Name cl p2] env = (false, eval e env) :: starEach [.Name cl p2] env := by intro _; rfl) : EQ prog w K mg base k scope (.Call (.Name "isinstance" p1) [e, .Name cl p2] [] pos) ρ (.bl b) := fun cenv A E s M C hr => by
  refine wpAny_Call_Name_kw (ld_bltQ M C hg hm hv ?_)
  refine PyProof.Rows.callWith_builtin1 ?_ (he cenv) (by rfl)
  rw [he]
  show wpAny _ _ (spliced ((false, eval e cenv) :: backTo pos (starEach [.Name cl p2] cenv))) _ _ s
  refine Calls.spliced_cons (thn (he1 cenv A E s M C hr) fun u s1 ⟨r, k1⟩ => ?_)
  refine Calls.spliced_cons (ld_bltQ M (C.keeps k1) hg2 hm2 hv2 ?_ hn2 hd2)
  refine Calls.spliced_nil ?_
  obtain ⟨t, rfl⟩ := r
  have kin : K.In s1.heap := M.kin.keeps fun b o q => (C.keeps k1).kp b o q
  exact PySem.W.kia_one PySem.W.kitx_int kin True.intro hb (fun z => nomatch z) fun tk => ⟨rfl, Keeps.trans k1 (Keeps.tok _ _)⟩
/-- g(e), g a def whose body is one return -/
theorem eq_call1 {g x : Str} {qual : Str} {st : Stmt} {f : Addr} {fd : FuncData} {N : List Str} {p : Str} {body : Expr} {rp : Pos} {v1 v : V} (F : Fun K x qual st f fd) (S : FnScope N [p] (defScope st)) (hbd : defBody st = [.Return (some body) rp])
    (hbi : ∀ (kV doc pm : Value) (an : Option Addr) (cdv ct : Value) (u : Value), bindArgs (PySem.W.fnOf x qual (defArgs st) (defBody st) (defScope st) .none kV doc pm an cdv ct) ⟨[u], []⟩ = pure [(p, u)])
    (hg : scope.names.lookup g = some .globalImplicit) (hm : mg g = some (.ref f)) (he1 : EQ prog w K mg base (k + 1) scope e ρ v1) (hb : EQ prog w K mg base k (defScope st) body [(p, v1)] v)
    (hpl : (defScope st).names.lookup p = some .local) (hdb : (g == ("__debug__" : Str)) = false := by decide) (he : ∀ env, starEach [e] env = (false, eval e env) :: starEach [] env := by intro _; rfl) : EQ prog w K mg base (k + 1) scope (.Call (.Name g p1) [e] [] pos) ρ v := fun cenv A E s M C hr => by
  obtain ⟨oc, od, kV, doc, pm, an, cdv, ct, osl, rfl, lk, hcd⟩ := F.ex
  refine wpAny_Call_Name_kw (Calls.Name_function_global C.kind (by show cenv.scope.names.lookup g = _; rw [C.sc]; exact hg) (Calls.loadGlobal_global (by rw [C.gl]; exact M.glob.keeps C.kp) hm ?_) hdb)
  refine PySem.W.callWith_K (h₀ := base) M.kin F.kp ?_ (he cenv) (by rfl)
  rw [he]
  show wpAny _ _ (spliced ((false, eval e cenv) :: backTo pos (starEach [] cenv))) _ _ s
  refine Calls.spliced_cons (thn (he1 cenv A E s M C hr) fun u s1 ⟨r, k1⟩ => ?_)
  refine Calls.spliced_nil ?_
  have C1 := C.keeps k1
  have kin : K.In s1.heap := M.kin.keeps fun b o q => C1.kp b o q
  refine ⟨kin, wpAny_call ?_⟩
  have lim : s1.heap.NoLimit := M.nolimit.keeps C1.kp
  have hp : (defScope st).names.lookup p = some .local ∨ ((defScope st).names.lookup p = some .cell ∧ ((cellsFrom (s1.heap.objs.size + 1) (defScope st).names []).lookup p).isSome = true) := by
    rcases S.par p List.mem_cons_self with q | q
    · exact .inl q
    · exact .inr ⟨q, PySem.W.cellsFrom_some _ _ _ (.inl q)⟩
  refine codeAny_call_function C.room.depth (kin _ _ lk) rfl S.co S.gen (show (PySem.W.fnOf x qual (defArgs st) (defBody st) (defScope st) .none kV doc pm an cdv ct).body = .stmts (defBody st) from rfl) (PySem.W.codeRec_of kin hcd) ?_
  show wpAny _ _ (bindArgs (PySem.W.fnOf x qual (defArgs st) (defBody st) (defScope st) .none kV doc pm an cdv ct) ⟨[u], []⟩) _ _ _
  rw [hbi]
  refine wpAny_pure ?_
  refine wpAny_newFunctionEnv_cells S.kind (fun y hy => by rw [List.mem_singleton] at hy; subst hy; exact hp) fun env he s2 x => ?_
  subst he
  refine ⟨lim.keeps x.toInCall.keep, codeAny_func ?_⟩
  rw [hbd]
  have nsx := x.toInCall.ns
  obtain ⟨h2, tk2, rfl, hk2⟩ := x.done
  have kx : Keeps s1 { s1 with heap := h2, toks := tk2 } := ⟨h2, tk2, rfl, hk2⟩
  refine wpAny_execs_cons (wpAny_Return_some (thn (hb _ _ _ _ M ⟨C.room.deeper _, S.kind, rfl, rfl, rfl, fun b o q => hk2 b o (C1.kp b o q)⟩ fun q hq => ?_) fun u3 s3 ⟨r3, k3⟩ => ?_))
  · rw [List.mem_singleton] at hq
    subst hq
    exact ⟨u, _, r, nsx, .inl ⟨hpl, bindL_get (P := [p]) (vs := [u]) (show [p].Nodup from List.Pairwise.cons (fun _ h => nomatch h) .nil) (i := 0) rfl rfl hpl⟩, S.kind⟩
  · exact ⟨r3, Keeps.trans k1 (Keeps.trans kx k3)⟩
end
section
variable {X : Cx} {pins : List (Addr × Obj)} {σ : L2.St} {s : Shared}
theorem gen1Q {c P : Addr} {elt iter : Expr} {x : Str} {px gpos : Pos} {scope : Scope} {k : Nat} {Q' : Value → Shared → Prop}
    (hr : Room (k + 1) X.A) (TB : GxR.TabB X.base X.mg c P) (hcode : X.env.code = .ref c) (S : GS X.env scope [x]) (hs : ∀ v, genFold iter X.env v = pure v) (ok : X.Ok)
    (h : wpAny (model X.prog X.w) X.A (eval iter X.env) (fun xv s1 => ∃ H1, Inv X pins σ H1 s1 ∧ GxR.TabG H1 P ∧ wpAny (model X.prog X.w) X.A (pyIter xv) (fun it s2 => ∃ (I : Addr) (xs ys : List V) (ρ : List (Str × V)) (fp wr : List Addr) (Pf : Nat → Value → Prop) (St : Nat → Heap → Prop),
      it = .ref I ∧ Cap X scope σ ρ ∧ Src X s1 s2 P I xs fp wr Pf St ∧ ys.length = xs.length ∧ (∀ (i : Nat) (v : V), xs[i]? = some v → ∃ y, ys[i]? = some y ∧ EQ X.prog X.w X.K X.mg X.base k scope elt ((x, v) :: ρ) y) ∧ ∀ g s5, Ready X pins σ H1 P ys g s5 → Q' (.ref g) s5) X.xe s1) X.xe s) :
    wpAny (model X.prog X.w) X.A (eval (.GeneratorExp elt [⟨.Name x px, iter, [], 0⟩] scope gpos) X.env) Q' X.xe s := by
  have Sf : ∀ y ∈ scope.names, y.2 = .free → ∃ c, X.env.cells.lookup y.1 = some c := fun y hy e => ok.has _ (S.free y hy e)
  refine wpAny_GeneratorExp_walksQD hr.hd S.co (closure_ok Sf) S.cell S.dot (S.loc x List.mem_cons_self) S.kind (by have := hr.dp; omega) ?_ hs
  refine thn h fun xv s1 ⟨H1, I1, ⟨ps, hP, ht⟩, h1⟩ => thn h1 fun it s2 ⟨I, xs, ys, ρ, fp, wr, Pf, S0, eI, C, W, hl, hel, hQ⟩ => ?_
  have hPs : s1.heap.get? P = some { cls := .none, data := .fields ps } := I1.hok P _ hP
  have hP2 := W.keep _ _ hPs
  have cd : PySem.W.CodeHd s2.heap c P := TB.code.keeps fun b u e => W.keep _ _ (I1.bk b u e)
  have lim2 : s2.heap.NoLimit := I1.nolimit.keeps W.keep
  have s2os : s2.os = s1.os := by rw [W.sh]
  have cont : ∀ (code : Value) (h3 : Heap) (tk : Nat) (ps' : Array Value), Heap.ExtBut P s2.heap h3 → s2.heap.objs.size ≤ h3.objs.size → h3.get? P = some { cls := .none, data := .fields ps' } → (∃ more, ps' = ps ++ more) → TriplesOk ps'.toList →
      wpAny (model X.prog X.w) X.A (builtinsFor X.env.globals X.env.builtins) (fun bi s₄ =>
        ∃ Ia fp wr n₀ Pf St₀ pz F, it = .ref Ia ∧ (∀ A' : Around, A'.handled = none → Walks X.prog X.w A' Ia fp wr n₀ Pf St₀) ∧ St₀ 0 s₄.heap ∧ (∀ b ∈ fp, b < s₄.heap.objs.size) ∧ s₄.heap.NoLimit ∧ cStatics ∉ wr ∧
          (∀ href : Heap, (∀ b o, s₄.heap.get? b = some o → href.get? b = some o) →
            QuietGenD X.prog X.w (genEnv scope (cloFrom X.env.cells scope.names []) s₄.heap.objs.size code bi X.env) x [] elt (List.range s₄.heap.objs.size) wr Pf pz F href (X.A.depth + 1) (X.A.units + 8)) ∧
          (∀ a h₅ tk gs, gs.bare = true → s₄.heap.objs.size < a → h₅.objs.size = a + 1 → (∀ b o, s₄.heap.get? b = some o → h₅.get? b = some o) →
            WalksS X.prog X.w X.A.in4 a (a :: s₄.heap.objs.size :: List.range s₄.heap.objs.size) (s₄.heap.objs.size :: wr) (GenOnlyQ s₄.gens.size) (passing pz n₀ 0).length
              (fun j y => ∃ i, (passing pz n₀ 0)[j]? = some i ∧ F i y) (GenAt X.prog X.w X.A.in4 a s₄.gens.size s₄.heap.objs.size (List.range s₄.heap.objs.size) wr pz n₀ F) →
            GenAt X.prog X.w X.A.in4 a s₄.gens.size s₄.heap.objs.size (List.range s₄.heap.objs.size) wr pz n₀ F 0 { s₄ with gens := s₄.gens.push gs, toks := tk, heap := h₅ } →
            Q' (.ref a) { s₄ with gens := s₄.gens.push gs, toks := tk, heap := h₅ })) X.xe { s2 with heap := h3, toks := tk } := by
    intro code h3 tk ps' hx hsz hP3 hmore ht3
    obtain ⟨bm, ob, e1, e2, e3, e4, e5, e6, e7, e8⟩ := TB.bm
    have hcP : cStatics ≠ P := fun e => by
      obtain ⟨_, hns, _⟩ := I1.nolimit
      obtain ⟨o', es, ep, ho, hd, _⟩ := hns
      rw [e, hPs] at ho
      cases ho
      cases hd
    have hcl : cStatics < s1.heap.objs.size := let ⟨_, hns, _⟩ := I1.nolimit; hns.lt
    have keep3 : ∀ b u, b ≠ P → s1.heap.get? b = some u → h3.get? b = some u := fun b u hb e => hx b u hb (W.keep b u e)
    refine wpAny_builtinsFor (m := X.mg) (by rw [I1.ok.glob]; exact ((I1.mod.glob.keeps I1.bk).keeps W.keep).extBut hx TB.gP) e1 e2 (keep3 _ _ e4 (I1.bk _ _ e5)) e6 e7 e8 ?_
    refine ⟨I, fp, wr, xs.length, Pf, S0, (fun _ => true), (fun i y => ∃ z, ys[i]? = some z ∧ RelV z y), eI, W.walk, ?_, ?_, lim2.extBut hx hcP, ?_, ?_, ?_⟩
    · exact (W.walk X.A hr.hd).frame _ _ _ W.st fun b hb u e => hx b u (W.fpP b hb).2 e
    · intro b hb
      exact Nat.lt_of_lt_of_le (W.fpP b hb).1 hsz
    · intro z
      exact absurd hcl (Nat.not_lt.mpr (W.wrN _ z))
    · intro href hhref
      refine ⟨fun A' E' i v s₂ m₂ hA hD hU hPv hn hm hk => ?_, fun A' E' i v s₂ m₂ hA hD hU hPv hp hn hm hk => ?_⟩
      · simp only [List.forIn_nil]
        exact wpAny_pure ⟨rfl, GxR.keeps_refl _⟩
      · obtain ⟨xv', hxi, rx⟩ := W.item i v hPv
        obtain ⟨y, hy, eg⟩ := hel i xv' hxi
        have kept : ∀ b o, b ≠ P → s1.heap.get? b = some o → s₂.heap.get? b = some o := fun b o bP e => by
          refine hk b (List.mem_range.mpr (Nat.lt_of_lt_of_le (Nat.lt_of_lt_of_le (Heap.lt_size e) W.size) hsz)) (fun z => ?_) o (hhref b o (keep3 b o bP e))
          exact absurd (Heap.lt_size e) (Nat.not_lt.mpr (W.wrN b z))
        refine wpAny_mono (eg (genEnv scope (cloFrom X.env.cells scope.names []) h3.objs.size code _ X.env) A' E' s₂ I1.ok.mod ⟨⟨hA, by have := hr.dp; omega, by have := hr.un; omega⟩, S.kind, rfl, I1.ok.glob, rfl, fun b o e => kept b o (fun z => by have := (I1.bs b o e).2; rw [z, hP] at this; cases this) (I1.bk b o e)⟩ fun p hp => ?_) (fun u s3 r => ⟨⟨y, hy, r.1⟩, r.2⟩) fun _ _ e => e
        rcases List.mem_cons.mp hp with rfl | hp
        · exact ⟨v, m₂, rx, hn, .inl ⟨S.loc x List.mem_cons_self, hm⟩, S.kind⟩
        · refine cap_rd I1 C S.kind Sf rfl rfl hn (fun b o hb e => ?_) p hp
          have bP : b ≠ P := fun z => by rw [z, hP] at hb; cases hb
          refine hk b (List.mem_range.mpr (Nat.lt_of_lt_of_le (Nat.lt_of_lt_of_le (Heap.lt_size e) W.size) hsz)) (fun z => ?_) o (hhref b o (keep3 b o bP e))
          exact absurd (Heap.lt_size e) (Nat.not_lt.mpr (W.wrN b z))
    · intro g h5 tk5 gs hgb hag hsz5 hk5 W5 hgat
      simp only [GxR.passing_true, List.length_range] at W5
      rw [← hl] at W5 hgat
      refine hQ g _ ⟨_, _, _, _, _, W5, hgat, ?_, List.mem_cons_self, fun i s9 h9 => ?_, ?_, fun s' hm => ?_⟩
      · intro b hb
        show b < h5.objs.size
        have e5 : h5.objs.size = g + 1 := hsz5
        have h8 : h3.objs.size < g := hag
        rw [e5]
        rcases List.mem_cons.mp hb with z | z
        · rw [z]
          exact Nat.lt_succ_self g
        · rcases List.mem_cons.mp z with z | z
          · rw [z]
            exact Nat.lt_succ_of_lt h8
          · have z2 := List.mem_range.mp z
            have h7 : b < h3.objs.size := z2
            exact Nat.lt_succ_of_lt (Nat.lt_trans h7 h8)
      · obtain ⟨hg9, _⟩ := h9
        exact hg9.typeIs
      · intro j v hv
        obtain ⟨i, hij, z, hz, e⟩ := hv
        obtain ⟨hj, ej⟩ := List.getElem?_eq_some_iff.mp hij
        rw [List.getElem_range] at ej
        subst ej
        exact ⟨z, hz, e⟩
      · obtain ⟨more, em⟩ := hmore
        have nwr : ∀ b u, s1.heap.get? b = some u → b ∉ h3.objs.size :: wr := fun b u e hb => by
          have hl' := Heap.lt_size e
          rcases List.mem_cons.mp hb with z | z
          · rw [z] at hl'
            have := W.size
            have h9 : (h3.objs.size : Nat) < s1.heap.objs.size := hl'
            omega
          · exact absurd hl' (Nat.not_lt.mpr (W.wrN b z))
        have J := GxR.inv_tab (more := more) (h' := s'.heap) (g' := s'.gens) (d' := s'.drawn) (t' := s'.toks) I1 hP (fun b u hb e => hm.heap b u (nwr b u e) (hk5 b u (keep3 b u hb e)))
          (by rw [← em]; exact hm.heap P _ (nwr P _ hPs) (hk5 P _ hP3)) (AllBare.movedS ((by rw [W.sh]; exact I1.bare : AllBare s2.gens).push hgb) hm)
        rw [GxR.sh_eta s1 s' (hm.os.trans s2os)] at J
        exact ⟨upd H1 P (.tbl (ps ++ more)), ⟨⟨ps ++ more, upd_same, by rw [← em]; exact ht3⟩, fun b hb => upd_ne hb⟩, J⟩
  refine ⟨lim2, ?_⟩
  cases hf : codeAmong gpos ps.toList with
  | none =>
    refine wpAny_genexprCodeX hcode (cd.code hP2 ht) (cd.tab hP2) hf fun c' h' tk hx hge hlt hco' _ htab' _ => ?_
    obtain ⟨o1, vs, f1, tf, fl, tg, inF, tx, tt, op, _, _, _, _, _, _, _, _, _, htr, _⟩ := hco'
    exact cont _ h' tk _ hx (Nat.le_trans hge (Nat.le_of_lt hlt)) htab'.2 ⟨_, rfl⟩ htr
  | some cv =>
    refine wpAny_genexprCode_hit hcode (cd.code hP2 ht) hf ?_
    exact cont cv s2.heap s2.toks ps (Heap.ExtBut.refl _ _) (Nat.le_refl _) hP2 ⟨#[], by simp⟩ ht

/-- all(elt for x in e), e a tuple of whole numbers -/
def tAllG (K : PySem.W.Frag) (P : Addr) (te : TE) (js : List Nat) (C : List Int → Int → Prop) (f : List Int → Int → Bool) : TE := fun σ H Q => te σ H fun v H1 => ∃ (a : Addr) (ns cs : List Int), v = .ref a ∧ SqT K H1 a (ns.map V.int) ∧
  Paired (fun (j : Nat) (c : Int) => σ[j]? = some (some (V.int c))) js cs ∧ (∀ n ∈ ns, C cs n) ∧ GxR.TabG H1 P ∧ ∀ H2, GxR.Tabbed P H1 H2 → Q (.bl (ns.all (f cs))) H2
def tAnyG (K : PySem.W.Frag) (P : Addr) (te : TE) (js : List Nat) (C : List Int → Int → Prop) (f : List Int → Int → Bool) : TE := fun σ H Q => te σ H fun v H1 => ∃ (a : Addr) (ns cs : List Int), v = .ref a ∧ SqT K H1 a (ns.map V.int) ∧
  Paired (fun (j : Nat) (c : Int) => σ[j]? = some (some (V.int c))) js cs ∧ (∀ n ∈ ns, C cs n) ∧ GxR.TabG H1 P ∧ ∀ H2, GxR.Tabbed P H1 H2 → Q (.bl (ns.any (f cs))) H2
def trL (pb : Int → Bool) (l : List Int) (j : Nat) : Bool := match l[j]? with
  | some b => pb b
  | none => false
theorem trL_some {pb : Int → Bool} {l : List Int} {j : Nat} {b : Int} (h : l[j]? = some b) : trL pb l j = pb b := by
  unfold trL
  rw [h]
theorem any_trL (l : List Int) (pb : Int → Bool) : (List.range l.length).any (trL pb l) = l.any pb := by
  rw [Bool.eq_iff_iff, List.any_eq_true, List.any_eq_true]
  constructor
  · intro ⟨j, hj, h⟩
    have hj' := List.mem_range.mp hj
    rw [trL_some (List.getElem?_eq_getElem hj')] at h
    exact ⟨l[j], List.getElem_mem hj', h⟩
  · intro ⟨b, hb, h⟩
    obtain ⟨j, hj, e⟩ := List.getElem_of_mem hb
    refine ⟨j, List.mem_range.mpr hj, ?_⟩
    rw [trL_some (List.getElem?_eq_getElem hj), e]
    exact h
theorem all_trL (l : List Int) (pb : Int → Bool) : (List.range l.length).all (trL pb l) = l.all pb := by
  rw [Bool.eq_iff_iff, List.all_eq_true, List.all_eq_true]
  constructor
  · intro h b hb
    obtain ⟨j, hj, e⟩ := List.getElem_of_mem hb
    have q := h j (List.mem_range.mpr hj)
    rw [trL_some (List.getElem?_eq_getElem hj), e] at q
    exact q
  · intro h j hj
    have hj' := List.mem_range.mp hj
    rw [trL_some (List.getElem?_eq_getElem hj')]
    exact h _ (List.getElem_mem hj')
theorem pe_allG {c P : Addr} {elt iter : Expr} {x : Str} {px gpos p pos : Pos} {scope : Scope} {k : Nat} {te : TE} {nm : List Str} {js : List Nat} {C : List Int → Int → Prop} {f : List Int → Int → Bool}
    (hr : Room (k + 1) X.A) (hg : Gl X "all") (hm : X.mg "all" = none) (TB : GxR.TabB X.base X.mg c P) (hcode : X.env.code = .ref c) (S : GS X.env scope [x]) (hi : PE X iter te)
    (hc : Paired (fun y (j : Nat) => scope.names.lookup y = some NameKind.free ∧ (X.env.scope.names.lookup y = some .cell ∨ X.env.scope.names.lookup y = some .free) ∧ X.N[j]? = some y) nm js)
    (hel : ∀ cs n, cs.length = js.length → C cs n → EQ X.prog X.w X.K X.mg X.base k scope elt ((x, .int n) :: nm.zip (cs.map V.int)) (.bl (f cs n)))
    (hs : ∀ v, genFold iter X.env v = pure v := by intro _; rfl) (hb : bootBuiltins "all" = some (.builtin "all") := by decide +kernel)
    (he : starEach [.GeneratorExp elt [⟨.Name x px, iter, [], 0⟩] scope gpos] X.env = (false, eval (.GeneratorExp elt [⟨.Name x px, iter, [], 0⟩] scope gpos) X.env) :: starEach [] X.env := by rfl) :
    PE X (.Call (.Name "all" p) [.GeneratorExp elt [⟨.Name x px, iter, [], 0⟩] scope gpos] [] pos) (tAllG X.K P te js C f) := by
  refine ⟨fun pins s σ H Q I h => ?_⟩
  refine wpAny_Call_Name_kw (ld_blt I hg hm hb ?_)
  refine PyProof.Rows.callWith_builtin1 ?_ he (by rfl)
  rw [he]
  show wpAny _ _ (spliced ((false, eval (.GeneratorExp elt [⟨.Name x px, iter, [], 0⟩] scope gpos) X.env) :: backTo pos (starEach [] X.env))) _ _ s
  refine Calls.spliced_cons (gen1Q (pins := pins) (σ := σ) hr TB hcode S hs I.ok ?_)
  refine thn (hi.run pins s σ H _ I h) fun xv s1 ⟨v, H1, I1, r1, a, ns, cs, ev, hq, hcs, hC, hT, hQ⟩ => ?_
  subst ev
  obtain rfl : xv = Value.ref a := r1
  refine ⟨H1, I1, hT, src_tup I1 hq hT fun I2 s2 fp wr Pf S0 W => ⟨I2, ns.map V.int, ns.map (fun n => V.bl (f cs n)), nm.zip (cs.map V.int), fp, wr, Pf, S0, rfl, cap_of hc hcs, W, by rw [List.length_map, List.length_map], fun i v hv => ?_, fun g s5 R => ?_⟩⟩
  · rw [List.getElem?_map] at hv
    cases e : ns[i]? with
    | none => rw [e] at hv; cases hv
    | some n =>
      rw [e] at hv
      cases hv
      refine ⟨_, by rw [List.getElem?_map, e]; rfl, hel cs n (Paired.length hcs).symm (hC n (List.mem_of_getElem? e))⟩
  · refine Calls.spliced_nil ?_
    obtain ⟨fp, wr, G, F, S0, W, hst, hfp, hg, hTy, hF, hI⟩ := R
    rw [List.length_map] at W
    have W1 := W.in4_1
    refine call_all_walkS (W1.self 0 _ _ _ hst ⟨g, fp, wr, G, _, F, S0, trL (f cs) ns, rfl, W1, hst, ?_, fun s' hmv => ?_⟩)
    · intro j y sj Qj Ej hy hQj
      obtain ⟨y', h1, h2⟩ := hF j y hy
      rw [List.getElem?_map] at h1
      cases e : ns[j]? with
      | none => rw [e] at h1; cases h1
      | some n =>
        rw [e] at h1
        cases h1
        obtain rfl : y = Value.bool (f cs n) := h2
        have hQ2 : Qj (trL (f cs) ns j) sj := hQj
        rw [trL_some e] at hQ2
        exact wpAny_truthy_bool hQ2
    · obtain ⟨H2, hT2, J⟩ := hI s' hmv
      refine ⟨.bl _, H2, J, rfl, ?_⟩
      rw [all_trL ns (f cs)]
      exact hQ H2 hT2
end
end Gx
namespace Ab
open PySem PySem.Spec PyProof.Rows L2
section
variable {K : Fg} {b : Bp} {δ : LS} {te : TE} {R : AV → LS → Prop}
theorem de_allG {P : Addr} {js : List Nat} {C : List Int → Int → Prop} {f : List Int → Int → Bool} (hP : b.T P)
    (h : De K b te δ (toD fun x δ1 => ∃ ns : List Int, x = .tuple (ns.map PyData.int) ∧ ∃ cs : List Int, Paired (fun (j : Nat) (c : Int) => δ1[j]? = some (.dat (.int c))) js cs ∧ (∀ n ∈ ns, C cs n) ∧ R (.d (.bool (ns.all (f cs)))) δ1)) :
    De K b (Gx.tAllG K P te js C f) δ R := fun B F H σ S Q q => (dd_of h) B F H σ S _ fun v F1 H1 x δ1 r1 S1 e1 v1 => by
  obtain ⟨ns, rfl, cs, hcs, hC, r⟩ := r1
  cases v1 with
  | tup q1 q2 =>
    rename_i a xs
    have ex := DpAll.ints_eq q2
    subst ex
    refine ⟨a, ns, cs, rfl, S1.sub.t q1, Paired.mapP hcs fun j c hj => ?_, hC, (S1.tb P hP).1, fun H2 t => ?_⟩
    · obtain ⟨v, h1, h2⟩ := S1.dat hj
      cases h2; exact h1
    · have g := Gr.tabbed S1.sub (S1.tb P hP) t
      have S2 := S1.step g
      exact q _ _ _ _ δ1 r S2 (e1.trans (Kp.gr g S1.sub)) (.bl _)
end
end Ab

set_option Elab.async false
set_option linter.all false
set_option maxRecDepth 100000
set_option maxHeartbeats 2000000
namespace HT
open PySem PySem.Spec PyProof.Rows L2
section
variable {prog : Program} {w : World} {A : Around} {s : Shared} {E : Value → Shared → Prop}
theorem sliceApplied_rev {sl : Addr} {vs : Value} {n : Nat} {Q : Int × Int × Nat → Shared → Prop} (hs : s.heap.IsSliceOf sl .none .none vs) (ps : IsPart vs (some (-1)))
    (h : Q ((n : Int) - 1, -1, n) s) : wpAny (model prog w) A (Builtin.Slice.sliceApplied (.ref sl) (pure (n : Int))) Q E s := by
  obtain ⟨os, hos, hcs, hds⟩ := id hs
  unfold Builtin.Slice.sliceApplied Builtin.Slice.sliceFields
  refine wpAny_bind (wpAny_bind (wpAny_field hos hds (x := .none) rfl (wpAny_bind (wpAny_field hos hds (x := .none) rfl (wpAny_bind (wpAny_field hos hds (x := vs) rfl (wpAny_pure ?_)))))))
  refine wpAny_bind (slicePart_ ps ?_)
  show wpAny _ _ (if ((-1 : Int) == 0) = true then _ else _) _ _ s
  rw [if_neg (by decide)]
  refine wpAny_bind (slicePart_none (wpAny_bind (slicePart_none (wpAny_bind (wpAny_pure ?_)))))
  show wpAny _ _ (pure ((n : Int) - 1, (-1 : Int), Builtin.Slice.slicePlaces ((n : Int) - 1) (-1) (-1))) _ _ s
  have e : Builtin.Slice.slicePlaces ((n : Int) - 1) (-1) (-1) = n := by
    unfold Builtin.Slice.slicePlaces
    rw [if_neg (by decide)]
    split
    · have : ((n : Int) - 1 - -1 - 1) / - -1 + 1 = n := by
        rw [show -(-1 : Int) = 1 by decide, Int.ediv_one]; omega
      rw [this]; omega
    · have : n = 0 := by omega
      subst this; rfl
  rw [e]
  exact wpAny_pure h
theorem pick_rev (xs : Array Value) : ((List.range xs.size).filterMap fun (m : Nat) => xs[((xs.size : Int) - 1 + (m : Int) * (-1)).toNat]?).toArray = xs.toList.reverse.toArray := by
  congr 1
  refine List.ext_getElem? fun i => ?_
  have e : (List.range xs.size).filterMap (fun (m : Nat) => xs[((xs.size : Int) - 1 + (m : Int) * (-1)).toNat]?) = (List.range xs.size).map fun m => (xs.toList.reverse).getD m .none := by
    have gen : ∀ (l : List Nat) (f : Nat → Option Value) (g : Nat → Value), (∀ m ∈ l, f m = some (g m)) → l.filterMap f = l.map g := fun l f g => by
      induction l with
      | nil => intro _; rfl
      | cons x xs ih =>
        intro h
        rw [List.filterMap_cons, h x List.mem_cons_self, List.map_cons, ih fun m hm => h m (List.mem_cons_of_mem _ hm)]
    refine gen _ _ _ fun m hm => ?_
    have hm := List.mem_range.mp hm
    have e2 : ((xs.size : Int) - 1 + (m : Int) * (-1)).toNat = xs.size - 1 - m := by omega
    rw [e2]
    have h1 : xs.size - 1 - m < xs.size := by omega
    rw [Array.getElem?_eq_getElem h1]
    show some _ = some _
    congr 1
    rw [List.getD_eq_getElem?_getD, List.getElem?_reverse (by simpa using hm)]
    simp [h1]
  rw [e]
  by_cases h : i < xs.size
  · rw [List.getElem?_map, List.getElem?_range h]
    show some (xs.toList.reverse.getD i .none) = _
    have hl : i < xs.toList.reverse.length := by simpa using h
    rw [List.getD_eq_getElem?_getD, List.getElem?_eq_getElem hl]; rfl
  · rw [List.getElem?_eq_none (by simpa using h), List.getElem?_eq_none (by simpa using h)]
theorem getItem_tuple_rev {t sl : Addr} {items : Array Value} {vs : Value} {Q : Value → Shared → Prop} (ht : IsTup s.heap t items) (hs : s.heap.IsSliceOf sl .none .none vs) (ps : IsPart vs (some (-1)))
    (h : Q (.ref s.heap.objs.size) { s with heap := s.heap.push { cls := .type "tuple", data := .seq items.toList.reverse.toArray } })
    (hsz : items.size ≤ sizeLine) : wpAny (model prog w) A (getItem (.ref t) (.ref sl)) Q E s := by
  have htake : sizeOk (.seq items.toList.reverse.toArray) := by
    show (items.toList.reverse).toArray.size ≤ sizeLine
    rw [List.size_toArray, List.length_reverse, Array.length_toList]
    exact hsz
  obtain ⟨os, hos, hcs, hds⟩ := id hs
  have hTs : s.TypeIs (.ref sl) "slice" := ⟨os, hos, hcs⟩
  unfold getItem
  try with_reducible refine wpAny_holding ?_
  first | refine wpAny_bind (wpAny_pure ?_) | skip
  refine wpAny_bind (wpAny_sequenceKey ht.typeIs (by decide) ?_)
  refine wpAny_bind (wpAny_callSpecial?_slot (name := Str.ofString "__getitem__") ht.typeIs PyProof.Rows.slot_tuple_getitem
    (wpAny_call_entry PyProof.Rows.slot_tuple_getitem ht.typeIs entry_tuple_getitem ?_ (args_tuple_getitem _ _)))
  show wpAny _ _ (Builtin.Tuple.tupleItemsOf (.ref t) >>= _) _ _ s
  refine wpAny_bind (tupleItemsOf_ ht ?_)
  refine wpAny_bind (wpAny_typeOf hTs ?_)
  rw [if_pos (by decide)]
  refine wpAny_bind (sliceApplied_rev hs ps ?_)
  have hno : ¬ ((((items.size : Int) - 1) == 0 && (-1 : Int) == 1 && items.size == items.size) = true) := by
    rw [show ((-1 : Int) == 1) = false by decide, Bool.and_false, Bool.false_and]
    exact Bool.false_ne_true
  show wpAny _ _ (if (((items.size : Int) - 1) == 0 && (-1 : Int) == 1 && items.size == items.size) = true then _ else _) _ _ s
  rw [if_neg hno, pick_rev]
  first
    | exact wpAny_bind (m := Builtin.Tuple.tupleExact _) (wpAny_newObj_type (wpAny_pure ⟨_, rfl, wpAny_pure h⟩) htake)
    | exact wpAny_bind (m := Builtin.Tuple.tupleExact _) (wpAny_newObj_type (wpAny_bind (wpAny_pure (wpAny_pure ⟨_, rfl, wpAny_pure h⟩))) htake)
    | exact wpAny_bind (wpAny_bind (m := Builtin.Tuple.tupleExact _) (wpAny_newObj_type (wpAny_pure (wpAny_pure ⟨_, rfl, wpAny_pure h⟩)) htake))
    | exact wpAny_bind (wpAny_bind (m := Builtin.Tuple.tupleExact _) (wpAny_newObj_type (wpAny_pure ⟨_, rfl, wpAny_pure h⟩) htake))
end
end HT
namespace Ab
open PySem PySem.Spec PyProof.Rows L2
/-- xs[::-1], a tuple -/
def tRevT (K : PySem.W.Frag) (te : TE) : TE := fun σ H Q => te σ H fun x H1 => ∃ a xs, x = .ref a ∧ SqT K H1 a xs ∧ ∀ p, H1 p = none → Q (.ref p) (upd H1 p (.tup xs.reverse))
section
variable {X : Cx}
theorem pe_revT {e : Expr} {te : TE} {k : Nat} {p1 p2 p3 pos : Pos} (he : PE X e te) : PE X (.Subscript e (.Slice none none (some (.UnaryOp .USub (.Constant (.int 1) k p1) p2)) p3) pos) (tRevT X.K te) := by
  refine ⟨fun pins s σ H Q I h => ?_⟩
  refine Subscript_ (thn (he.run pins s σ H _ I h) fun v s1 ⟨x, H1, I1, r1, q1⟩ => ?_)
  obtain ⟨a, xs, ex, hx, q⟩ := q1
  subst ex
  cases r1
  have hst : PO X (some (.UnaryOp .USub (.Constant (.int 1) k p1) p2)) (tPart (tUn (rU fun i => .int (-i)) (tC (.int 1)))) := po_some (pe_un un_neg pe_int)
  refine wpAny_Slice (thn (po_none.run pins s1 σ H1 (fun o H2 => o = none ∧ H2 = H1) I1 ⟨rfl, rfl⟩) fun vl s2 ⟨l, H2, I2, pl, el, e2⟩ => ?_)
  subst el e2
  refine thn (po_none.run pins s2 σ H2 (fun o H3 => o = none ∧ H3 = H2) I2 ⟨rfl, rfl⟩) fun vu s3 ⟨u, H3, I3, pu, eu, e3⟩ => ?_
  subst eu e3
  refine thn (hst.run pins s3 σ H3 (fun o H4 => o = some (-1) ∧ H4 = H3) I3 ⟨1, rfl, -1, rfl, rfl, rfl⟩) fun vs s4 ⟨o, H4, I4, ps, eo, e4⟩ => ?_
  subst eo e4
  cases pl
  cases pu
  have I5 : Inv X pins σ H4 { s4 with heap := s4.heap.push { cls := .type "slice", data := .fields #[.none, .none, vs] } } := I4.kept (t' := s4.toks) fun b ob q => Heap.get?_push_of_some _ q
  obtain ⟨its, r, ht, hz⟩ := I5.tuple hx
  have hlen := r.length
  show wpAny (model X.prog X.w) X.A (subscriptTail e (.Slice none none (some (.UnaryOp .USub (.Constant (.int 1) k p1) p2)) p3) (.ref a) (.ref s4.heap.objs.size)) (EP X pins σ Q) X.xe { s4 with heap := s4.heap.push { cls := .type "slice", data := .fields #[.none, .none, vs] } }
  refine tail_any (ops := [.ref a, .ref s4.heap.objs.size]) ht.typeIs (PyProof.Rows.slot_tuple_getitem.lookup) ?_ (by with_unfolding_all rfl)
  refine HT.getItem_tuple_rev ht (Heap.IsSliceOf.new _ .none .none vs) ps ?_ (by rw [List.size_toArray]; omega)
  refine ⟨.ref _, _, I5.laid (t' := s4.toks) (o := .tup xs.reverse) (fun b ob q => Heap.get?_push_of_some _ q) (Nat.le_refl _) ?_, rfl, q _ (I5.hok.fresh (Nat.le_refl _))⟩
  refine ⟨by rw [List.length_reverse]; exact hz, _, r.reverse, ?_⟩
  exact IsTup.new _ _
end
/-! for i, x in enumerate(xs) -/
theorem for_enum {K : PySem.W.Frag} {a : Addr} {xs : List V} {g : TG} {tb : L2.TS} {D : Ends} {σ : L2.St} {H : Hp} (Pv : Nat → L2.St → Hp → Prop) (h0 : Pv 0 σ H) (hl : ∀ i σ H, i ≤ xs.length → Pv i σ H → SqL K H a xs)
    (hs : ∀ i x σ H T, xs[i]? = some x → Pv i σ H → H T = none → g (.ref T) σ (upd H T (.tup [.int (i : Nat), x])) fun σ2 H2 => tb { D with nx := Pv (i + 1), ct := Pv (i + 1), bk := D.nx } σ2 H2) (hd : ∀ σ H, Pv xs.length σ H → D.nx σ H) :
    ∃ W : Nat → Nat → L2.St → Hp → Prop, (∃ m, W 0 m σ H) ∧ ∀ i m σ H, W i m σ H →
      ((Ite K a).stop i H ∧ D.nx σ H) ∨ ((Ite K a).go i H ∧ ∃ N : L2.St → Hp → Prop, (∀ σ' H', N σ' H' → ∃ m', m' < m ∧ W (i + 1) m' σ' H') ∧ ∀ x H', (Ite K a).yld i H x H' → g x σ H' fun σ2 H2 => tb { D with nx := N, ct := N, bk := D.nx } σ2 H2) := by
  refine ⟨fun i m σ H => m = xs.length - i ∧ i ≤ xs.length ∧ Pv i σ H, ⟨xs.length, by simp, Nat.zero_le _, h0⟩, ?_⟩
  rintro i m σ H ⟨rfl, hi, p⟩
  have q := hl i σ H hi p
  by_cases hlt : i < xs.length
  · refine .inr ⟨⟨xs, xs[i], q, by simp [hlt]⟩, Pv (i + 1), fun σ' H' p' => ⟨xs.length - (i + 1), by omega, rfl, hlt, p'⟩, fun x H' y => ?_⟩
    obtain ⟨T, x', rfl, hT, rfl, y⟩ := y
    exact hs i x' σ H T (y xs q) p hT
  · have e : i = xs.length := by omega
    subst e
    exact .inl ⟨⟨xs, q, Nat.le_refl _⟩, hd σ H p⟩
section
variable {K : Fg} {b : Bp} {δ : LS} {g : TG} {ts : L2.TS} {P : Po} {tr : TA} {te ta tb : TE} {R : AV → LS → Prop}
theorem ds_enum (Pv : List PyData → Nat → LS → Prop) (h : Da K b tr δ fun ds δ1 => ∃ xs, ds = [.list xs] ∧ Turn1 K b g ts P xs.length (fun i => .tuple [.int (i : Nat), xs.getD i .none]) δ1 (Pv xs)) : Ds K b (tFor (iEnum K tr) g ts) δ P :=
  fun B F H σ D S E => h B F H σ S _ fun vs F1 H1 ds δ1 r1 S1 e1 v1 => by
    obtain ⟨xs, rfl, h0, hs, hd⟩ := r1
    cases v1 with
    | cons v1 r => cases r; cases v1 with
      | lst q1 q2 =>
        rename_i a ys
        refine ⟨a, ys, rfl, S1.sub.l q1, for_enum (xs := ys) (fun i σ' H' => ∃ F' δ', Stt K b B F' H' σ' δ' ∧ Ex F1 F' ∧ Pv xs i δ') ⟨F1, δ1, S1, Ex.refl F1, h0⟩ (fun i σ' H' _ ⟨F', δ', S', e', _⟩ => (e'.trans S'.sub).l q1) (fun i x σ' H' T hx ⟨F', δ', S', e', pv⟩ hT => ?_) fun σ' H' ⟨F', δ', S', e', pv⟩ => ?_⟩
        · obtain ⟨d, hd1, hd2⟩ := DpAll.get' q2 hx
          obtain ⟨S2, k2, d2⟩ := S'.newT hT (ds := [.int (i : Nat), d]) (.cons (.int _) (.cons (Dp.mono e' hd2) .nil))
          refine turn_run hs (E.mono e1.ex) (lt_of_get hd1) S2 (e'.trans k2.ex) pv ?_
          rw [List.getD_eq_getElem?_getD, hd1]
          exact d2
        · rw [show ys.length = xs.length from DpAll.length q2] at pv
          exact E.nx F' H' σ' δ' (hd δ' pv) S' (e1.ex.trans e')
/-- xs + ys, tuples -/
theorem de_catT (h : De K b ta δ (toD fun x δ1 => De K b tb δ1 (toD fun y δ2 => ∃ xs ys, x = .tuple xs ∧ y = .tuple ys ∧ xs.length + ys.length ≤ 100000 ∧ R (.d (.tuple (xs ++ ys))) δ2))) : De K b (tOp (rCatA K) ta tb) δ R :=
  fun B F H σ S Q q => (dd_of h) B F H σ S _ fun v F1 H1 x δ1 r1 S1 e1 v1 => (dd_of r1) B F1 H1 σ S1 _ fun w F2 H2 y δ2 r2 S2 e2 v2 => by
    obtain ⟨xs, ys, rfl, rfl, hl, r⟩ := r2
    cases v1 with
    | tup a1 a2 =>
      cases v2 with
      | tup b1 b2 =>
        rename_i pa va pb vb
        have la := DpAll.length a2
        have lb := DpAll.length b2
        have e12 := e1.trans e2
        refine ⟨pa, pb, va, vb, rfl, rfl, S2.sub.t (e2.ex.t a1), S2.sub.t b1, sz_of (by omega), fun z => ?_, fun z z2 => ?_, fun z z2 p hp => ?_⟩
        · subst z
          have : xs = [] := List.eq_nil_of_length_eq_zero (by rw [← la]; rfl)
          subst this
          exact q _ F2 H2 _ δ2 r S2 e12 (.tup b1 b2)
        · subst z2
          have : ys = [] := List.eq_nil_of_length_eq_zero (by rw [← lb]; rfl)
          subst this
          rw [List.append_nil] at r
          exact q _ F2 H2 _ δ2 r S2 e12 (.tup (e2.ex.t a1) (DpAll.mono e2.ex a2))
        · obtain ⟨S3, e3, d3⟩ := S2.newT hp (DpAll.append (DpAll.mono e2.ex a2) b2)
          exact q _ _ _ _ δ2 r S3 (e12.trans e3) d3
/-- xs[::-1], a tuple -/
theorem de_revT (h : De K b te δ (toD fun x δ1 => ∃ xs, x = .tuple xs ∧ R (.d (.tuple xs.reverse)) δ1)) : De K b (tRevT K te) δ R :=
  fun B F H σ S Q q => (dd_of h) B F H σ S _ fun v F1 H1 x δ1 r1 S1 e1 v1 => by
    obtain ⟨xs, rfl, r⟩ := r1
    cases v1 with
    | tup a1 a2 =>
      refine ⟨_, _, rfl, S1.sub.t a1, fun p hp => ?_⟩
      obtain ⟨S2, e2, d2⟩ := S1.newT hp (DpAll.reverse a2)
      exact q _ _ _ _ δ1 r S2 (e1.trans e2) d2
/-- xs[lo:hi], a tuple, whole or not -/
theorem de_slA {tl th : TO} (h : De K b te δ (toD fun a δ1 => Do K b tl δ1 fun lo δ2 => Do K b th δ2 fun hi δ3 => ∃ xs, a = .tuple xs ∧ R (.d (.tuple (cutD xs lo hi))) δ3)) : De K b (tSl (rSlA K) te tl th) δ R := fun B F H σ S Q q =>
  (dd_of h) B F H σ S _ fun v F1 H1 x δ1 r1 S1 e1 v1 => r1 B F1 H1 σ S1 _ fun lo F2 H2 δ2 r2 S2 e2 => r2 B F2 H2 σ S2 _ fun hi F3 H3 δ3 r3 S3 e3 => by
    obtain ⟨ds, rfl, k⟩ := r3
    cases v1 with
    | tup g1 g2 =>
      rename_i a xs
      have l := DpAll.length g2
      refine ⟨a, xs, rfl, ((e2.trans e3).ex.trans S3.sub).t g1, fun w => ?_, fun w p hp => ?_⟩
      · rw [l] at w
        have e : cutD ds lo hi = ds := by
          unfold cutD
          rw [w.1, w.2, List.drop_zero, Nat.sub_zero, List.take_length]
        rw [e] at k
        exact q _ _ _ _ δ3 k S3 ((e1.trans e2).trans e3) (.tup ((e2.trans e3).ex.t g1) (DpAll.mono (e2.trans e3).ex g2))
      · obtain ⟨S4, e4, d4⟩ := S3.newT hp (cut_all (DpAll.mono (e2.trans e3).ex g2) lo hi)
        exact q _ _ _ _ δ3 k S4 (((e1.trans e2).trans e3).trans e4) d4
/-- *xs among the items -/
theorem da_star {t : TA} {R : List PyData → LS → Prop} (h : De K b te δ fun a δ1 => ∃ xs, seqIn a δ1 xs ∧ Da K b t δ1 fun ys δ2 => R (xs ++ ys) δ2) : Da K b (StX.tStar K te t) δ R :=
  fun B F H σ S Q q => h B F H σ S _ fun v F1 H1 x δ1 r1 S1 e1 v1 => by
    obtain ⟨ds, h1, k⟩ := r1
    obtain ⟨p, xs, rfl, h3, h4⟩ := h1.get S1 v1
    refine ⟨p, xs, rfl, h3.symm, k B F1 H1 σ S1 _ fun vs F2 H2 es δ2 r2 S2 e2 v2 => ?_⟩
    exact q _ F2 H2 _ δ2 r2 S2 (e1.trans e2) (DpAll.append (DpAll.mono e2.ex h4) v2)
/-- isinstance(x, T) -/
def typN : PyData → String
  | .none => "NoneType"
  | .bool _ => "bool"
  | .int _ => "int"
  | .str _ => "str"
  | .tuple _ => "tuple"
  | .list _ => "list"
  | _ => ""
theorem tyX_of {F H : Hp} {v : V} {d : PyData} (e : Ex F H) (h : Dp K F v d) : TyX K H v (.type (typN d)) := by
  cases h with
  | non => exact .base .non
  | bl x => exact .base (.bl x)
  | int i => exact .base (.int i)
  | str x => exact .base (.str x)
  | lst h1 _ =>
    rcases e.l h1 with (h1 | ⟨o, h1⟩) | ⟨o, its, n, h1, h2, _⟩
    · exact .base (.lst h1)
    · exact .base (.frz h1)
    · exact .kList h1 h2
  | tup h1 _ =>
    rcases e.t h1 with (h1 | ⟨o, h1⟩) | ⟨o, its, n, h1, h2, _⟩
    · exact .base (.tup h1)
    · exact .fTuple h1
    · exact .kTuple h1 h2
def IsiB (x : PyData) (T : String) (c : Bool) : Prop := kitB (typN x) T = some c
theorem isi_ii {i : Int} : IsiB (.int i) "int" true := by show kitB "int" "int" = some true; decide +kernel
theorem isi_ib {i : Int} : IsiB (.int i) "bool" false := by show kitB "int" "bool" = some false; decide +kernel
theorem isi_tt {xs : List PyData} : IsiB (.tuple xs) "tuple" true := by show kitB "tuple" "tuple" = some true; decide +kernel
theorem isi_ss {x : Str} : IsiB (.str x) "str" true := by show kitB "str" "str" = some true; decide +kernel
theorem de_isi {T : String} (h : De K b te δ (toD fun x δ1 => ∃ c, IsiB x T c ∧ R (.d (.bool c)) δ1)) : De K b (tCB (rIsi K) (tCons te (tCons (tC (.ty T)) tNil))) δ R :=
  fun B F H σ S Q q => (dd_of h) B F H σ S _ fun v F1 H1 x δ1 r1 S1 e1 v1 => by
    obtain ⟨c, hc, r⟩ := r1
    exact ⟨v, .ty T, _, _, c, rfl, .ty T, tyX_of S1.sub v1, kit_ty hc, q _ F1 H1 _ δ1 r S1 e1 (.bl c)⟩
/-- a <= b <= c, whole numbers -/
theorem de_chain {tc : TE} {p r : Int → Int → Bool} (h : De K b ta δ fun x δ1 => De K b tb δ1 fun y δ2 => ∃ i, x = .d (.int i) ∧ ∃ j, y = .d (.int j) ∧ if p i j = true then De K b tc δ2 (fun z δ3 => ∃ l, z = .d (.int l) ∧ R (.d (.bool (r j l))) δ3) else R (.d (.bool false)) δ2) :
    De K b (tChain (rI0 fun i j => .bl (p i j)) (rI0 fun i j => .bl (r i j)) ta tb tc) δ R :=
  fun B F H σ S Q q => h B F H σ S _ fun v F1 H1 x δ1 r1 S1 e1 v1 => r1 B F1 H1 σ S1 _ fun w F2 H2 y δ2 r2 S2 e2 v2 => by
    obtain ⟨i, rfl, j, rfl, k⟩ := r2
    cases v1; cases v2
    refine ⟨i, j, rfl, rfl, p i j, rfl, ?_⟩
    by_cases c : p i j = true
    · rw [if_pos c] at k ⊢
      refine k B F2 H2 σ S2 _ fun u F3 H3 z δ3 r3 S3 e3 v3 => ?_
      obtain ⟨l, rfl, r3⟩ := r3
      cases v3
      exact ⟨j, l, rfl, rfl, q _ F3 H3 _ δ3 r3 S3 ((e1.trans e2).trans e3) (.bl _)⟩
    · rw [if_neg c] at k ⊢
      exact q _ F2 H2 _ δ2 k S2 (e1.trans e2) (.bl _)
/-- a comprehension's three names -/
theorem tgt_triple {i j l : Nat} {x y z : PyData} {δ : LS} (hij : i ≠ j) (hil : i ≠ l) (hjl : j ≠ l) : TgtOk K (gTup K 3 (gCons (gName i) (gCons (gName j) (gCons (gName l) gNil)))) [i, j, l] (.tuple [x, y, z]) δ ((((wipeD δ [i, j, l]).set i (.dat x)).set j (.dat y)).set l (.dat z)) := fun b B F H σ v S dp Q q => by
  have back : ∀ {α : Type} (m : List α) (a b c n : α), ((((((((m.set l n).set j n).set i n).set i a).set j b).set l c).set l n).set j n).set i n = ((m.set l n).set j n).set i n := fun m a b c n => by
    refine List.ext_getElem? fun k => ?_
    simp only [List.getElem?_set, List.length_set]
    by_cases h1 : i = k <;> by_cases h2 : j = k <;> by_cases h3 : l = k <;> simp [h1, h2, h3] <;> (try omega) <;> (try (split <;> rfl))
  cases dp with
  | tup h1 h2 =>
    cases h2 with
    | cons a r => cases r with
      | cons c r => cases r with
        | cons d r =>
          cases r
          rename_i va vb vc
          refine ⟨_, _, rfl, S.sub.t h1, rfl, _, _, rfl, _, _, rfl, _, _, rfl, rfl, ?_⟩
          have S1 := S.setD (i := i) a
          have S2 := S1.setD (i := j) c
          have S3 := S2.setD (i := l) d
          refine q _ S3 (fun p hp => own_set S.len (own_set S1.len (own_set S2.len hp))) ?_ ?_
          · exact back σ _ _ _ none
          · exact back δ _ _ _ Sl.no
end
end Ab

set_option linter.all false
namespace M78
section
variable (p q : Int)
/-- the two rows -/
def u : Nat → Int
  | 0 => 0
  | 1 => 1
  | n + 2 => p * u (n + 1) - q * u n
def v : Nat → Int
  | 0 => 2
  | 1 => p
  | n + 2 => p * v (n + 1) - q * v n
def w : Nat → Int
  | 0 => 1
  | n + 1 => -q * u p q n
theorem uS (n : Nat) : u p q (n + 2) = p * u p q (n + 1) - q * u p q n := rfl
theorem uw : ∀ n : Nat, u p q (n + 1) = p * u p q n + w p q n
  | 0 => by show (1 : Int) = p * 0 + 1; grind
  | n + 1 => by
    show p * u p q (n + 1) - q * u p q n = p * u p q (n + 1) + -q * u p q n
    grind
/-- the sum of places -/
theorem u_add (a : Nat) : ∀ b : Nat, u p q (a + 1 + b) = u p q (a + 1) * u p q (b + 1) - q * u p q a * u p q b ∧ u p q (a + 1 + (b + 1)) = u p q (a + 1) * u p q (b + 2) - q * u p q a * u p q (b + 1)
  | 0 => by
    constructor
    · show u p q (a + 1) = u p q (a + 1) * 1 - q * u p q a * 0; grind
    · show p * u p q (a + 1) - q * u p q a = u p q (a + 1) * (p * 1 - q * 0) - q * u p q a * 1; grind
  | b + 1 => by
    obtain ⟨h1, h2⟩ := u_add a b
    refine ⟨h2, ?_⟩
    have e : u p q (a + 1 + (b + 1 + 1)) = p * u p q (a + 1 + (b + 1)) - q * u p q (a + 1 + b) := uS p q (a + 1 + b)
    rw [e, h1, h2, uS p q (b + 1), uS p q b]
    grind
theorem u_add' (a b : Nat) : u p q (a + 1 + b) = u p q (a + 1) * u p q (b + 1) - q * u p q a * u p q b := (u_add p q a b).1
/-- b + r: by u_b u_(r+1) -/
theorem u_sub (b r : Nat) : u p q (b + 1 + r) = u p q (b + 1) * u p q (r + 1) - q * u p q b * u p q r := u_add' p q b r
theorem u_norm : ∀ n : Nat, u p q (n + 1) * u p q (n + 1) - p * u p q n * u p q (n + 1) + q * (u p q n * u p q n) = q ^ n
  | 0 => by show (1 : Int) * 1 - p * 0 * 1 + q * (0 * 0) = q ^ 0; grind
  | n + 1 => by
    have h := u_norm n
    rw [uS, Int.pow_succ, ← h]
    grind
end
section
variable {p q : Int}
theorem dvd_pow_one {m q : Int} (h : Int.gcd q m = 1) : ∀ n : Nat, Int.gcd (q ^ n) m = 1
  | 0 => by rw [Int.pow_zero]; exact Int.one_gcd
  | n + 1 => by
    rw [Int.pow_succ]
    have a := dvd_pow_one h n
    have : (q ^ n * q).natAbs.gcd m.natAbs = 1 := by
      rw [Int.natAbs_mul]
      exact Nat.Coprime.mul_left a h
    exact this
/-- m divides u_b just if it divides u_(b+r) -/
theorem rank_step {m : Int} (g : Int.gcd q m = 1) {r : Nat} (h : m ∣ u p q r) (b : Nat) : m ∣ u p q (b + r) ↔ m ∣ u p q b := by
  cases b with
  | zero =>
    rw [Nat.zero_add]
    exact ⟨fun _ => Int.dvd_zero m, fun _ => h⟩
  | succ b =>
    rw [u_add']
    have e : m ∣ q * u p q b * u p q r := Int.dvd_mul_of_dvd_right h
    have unit : Int.gcd (u p q (r + 1)) m = 1 := by
      have n := u_norm p q r
      have c := dvd_pow_one g r
      have d1 : ((Int.gcd (u p q (r + 1)) m : Nat) : Int) ∣ u p q (r + 1) := Int.gcd_dvd_left _ _
      have d2 : ((Int.gcd (u p q (r + 1)) m : Nat) : Int) ∣ m := Int.gcd_dvd_right _ _
      have d3 := Int.dvd_trans d2 h
      have d4 : ((Int.gcd (u p q (r + 1)) m : Nat) : Int) ∣ q ^ r := by
        rw [← n]
        exact Int.dvd_add (Int.dvd_sub (Int.dvd_mul_of_dvd_left d1) (Int.dvd_mul_of_dvd_right d1)) (Int.dvd_mul_of_dvd_right (Int.dvd_mul_of_dvd_left d3))
      have d5 := Int.dvd_coe_gcd d4 d2
      rw [c] at d5
      exact Nat.eq_one_of_dvd_one (Int.natCast_dvd_natCast.mp d5)
    constructor
    · intro k
      have k1 : m ∣ u p q (r + 1) * u p q (b + 1) := by
        have := Int.dvd_add k e
        rw [show u p q (b + 1) * u p q (r + 1) - q * u p q b * u p q r + q * u p q b * u p q r = u p q (r + 1) * u p q (b + 1) by grind] at this
        exact this
      have k2 := Int.dvd_gcd_mul_iff_dvd_mul.mpr k1
      rw [Int.gcd_comm, unit] at k2
      simpa using k2
    · intro k
      exact Int.dvd_sub (Int.dvd_mul_of_dvd_left k) e
/-- the rank: the least place above 0 at which m divides -/
structure IsRank (p q m : Int) (r : Nat) : Prop where
  pos : 0 < r
  dvd : m ∣ u p q r
  least : ∀ s, 0 < s → s < r → ¬ m ∣ u p q s
theorem IsRank.iff {m : Int} {r : Nat} (R : IsRank p q m r) (g : Int.gcd q m = 1) (k : Nat) : m ∣ u p q k ↔ r ∣ k := by
  have go : ∀ (t b : Nat), m ∣ u p q (b + r * t) ↔ m ∣ u p q b := by
    intro t
    induction t with
    | zero => intro b; rw [Nat.mul_zero, Nat.add_zero]
    | succ t ih =>
      intro b
      rw [Nat.mul_succ, ← Nat.add_assoc, rank_step g R.dvd, ih]
  have e : k = k % r + r * (k / r) := by have := Nat.mod_add_div k r; omega
  have l := Nat.mod_lt k R.pos
  rw [e, go, ← e]
  constructor
  · intro h
    rcases Nat.eq_zero_or_pos (k % r) with z | z
    · exact Nat.dvd_of_mod_eq_zero z
    · exact absurd h (R.least _ z l)
  · intro h
    rw [Nat.mod_eq_zero_of_dvd h]
    exact Int.dvd_zero m
theorem rank_lcm {m n : Nat} {a b c : Nat} (A : IsRank p q m a) (B : IsRank p q n b) (C : IsRank p q (Nat.lcm m n : Nat) c) (g1 : Int.gcd q m = 1) (g2 : Int.gcd q n = 1) (g3 : Int.gcd q (Nat.lcm m n : Nat) = 1) : c = Nat.lcm a b := by
  apply Nat.dvd_antisymm
  · rw [← C.iff g3, Int.ofNat_dvd_left, Nat.lcm_dvd_iff, ← Int.ofNat_dvd_left, ← Int.ofNat_dvd_left, A.iff g1, B.iff g2]
    exact ⟨Nat.dvd_lcm_left a b, Nat.dvd_lcm_right a b⟩
  · have h := (C.iff g3 c).mpr (Nat.dvd_refl c)
    rw [Int.ofNat_dvd_left, Nat.lcm_dvd_iff, ← Int.ofNat_dvd_left, ← Int.ofNat_dvd_left, A.iff g1, B.iff g2] at h
    exact Nat.lcm_dvd h.1 h.2
theorem lcm_cop {m n : Nat} (g1 : Int.gcd q m = 1) (g2 : Int.gcd q n = 1) : Int.gcd q (Nat.lcm m n : Nat) = 1 := by
  have a : Nat.gcd q.natAbs m = 1 := g1
  have b : Nat.gcd q.natAbs n = 1 := g2
  show Nat.gcd q.natAbs (Nat.lcm m n) = 1
  have c : Nat.Coprime q.natAbs (m * n) := Nat.Coprime.mul_right a b
  exact Nat.Coprime.coprime_dvd_right (Nat.lcm_dvd (Nat.dvd_mul_right m n) (Nat.dvd_mul_left n m)) c
theorem lcm_bd {m n : Nat} (hm : m < 2 ^ 10) (hn : n < 2 ^ 10) (m2 : 2 ≤ m) (n2 : 2 ≤ n) : 2 ≤ Nat.lcm m n ∧ Nat.lcm m n < 2 ^ 20 := by
  have p0 : 0 < Nat.lcm m n := Nat.lcm_pos (by omega) (by omega)
  have a := Nat.le_of_dvd p0 (Nat.dvd_lcm_left m n)
  have b := Nat.le_of_dvd (Nat.mul_pos (show 0 < m by omega) (show 0 < n by omega)) (Nat.lcm_dvd (Nat.dvd_mul_right m n) (Nat.dvd_mul_left n m))
  have c := Nat.mul_lt_mul'' hm hn
  have e : (2 ^ 10 * 2 ^ 10 : Nat) = 2 ^ 20 := by decide
  omega
/-- more pigeons than holes -/
theorem pigeon : ∀ (N : Nat) (f : Nat → Nat), (∀ i, i ≤ N → f i < N) → ∃ i j, i < j ∧ j ≤ N ∧ f i = f j := by
  intro N
  induction N with
  | zero => intro f h; exact absurd (h 0 (Nat.le_refl _)) (Nat.not_lt_zero _)
  | succ N ih =>
    intro f h
    by_cases c : ∃ i, i ≤ N ∧ f i = f (N + 1)
    · obtain ⟨i, hi, e⟩ := c
      exact ⟨i, N + 1, by omega, Nat.le_refl _, e⟩
    · have c' : ∀ i, i ≤ N → f i ≠ f (N + 1) := fun i hi e => c ⟨i, hi, e⟩
      have hN := h (N + 1) (Nat.le_refl _)
      obtain ⟨i, j, h1, h2, h3⟩ := ih (fun i => if f i = N then f (N + 1) else f i) (fun i hi => by
        have a := h i (by omega)
        have b := c' i hi
        show (if f i = N then f (N + 1) else f i) < N
        split
        · omega
        · omega)
      refine ⟨i, j, h1, by omega, ?_⟩
      have a1 := c' i (by omega)
      have a2 := c' j (by omega)
      replace h3 : (if f i = N then f (N + 1) else f i) = (if f j = N then f (N + 1) else f j) := h3
      split at h3 <;> split at h3 <;> omega
theorem least_of (P : Nat → Prop) : ∀ n, P n → ∃ r, P r ∧ r ≤ n ∧ ∀ s, s < r → ¬ P s := by
  intro n
  induction n using Nat.strongRecOn with
  | ind n ih =>
    intro h
    by_cases c : ∃ s, s < n ∧ P s
    · obtain ⟨s, h1, h2⟩ := c
      obtain ⟨r, a, b, d⟩ := ih s h1 h2
      exact ⟨r, a, by omega, d⟩
    · exact ⟨n, h, Nat.le_refl _, fun s hs hp => c ⟨s, hs, hp⟩⟩
/-- there is a rank -/
theorem rank_ex {m : Nat} (m0 : 0 < m) (g : Int.gcd q m = 1) : ∃ r, IsRank p q m r ∧ r ≤ m * m := by
  have key : ∀ i d : Nat, (m : Int) ∣ u p q (i + d) - u p q i → (m : Int) ∣ u p q (i + 1 + d) - u p q (i + 1) → (m : Int) ∣ u p q d := by
    intro i
    induction i with
    | zero =>
      intro d h _
      rw [Nat.zero_add] at h
      have e : u p q 0 = 0 := rfl
      rw [e, Int.sub_zero] at h
      exact h
    | succ i ih =>
      intro d h1 h2
      refine ih d ?_ h1
      have e1 : u p q (i + 1 + 1 + d) = p * u p q (i + 1 + d) - q * u p q (i + d) := by
        rw [show i + 1 + 1 + d = (i + d) + 2 by omega, uS, show i + d + 1 = i + 1 + d by omega]
      rw [e1, uS p q i] at h2
      have h3 := Int.dvd_sub (Int.dvd_mul_of_dvd_right (b := p) h1) h2
      rw [show p * (u p q (i + 1 + d) - u p q (i + 1)) - (p * u p q (i + 1 + d) - q * u p q (i + d) - (p * u p q (i + 1) - q * u p q i)) = q * (u p q (i + d) - u p q i) by grind] at h3
      have k2 := Int.dvd_gcd_mul_iff_dvd_mul.mpr h3
      rw [Int.gcd_comm, g] at k2
      simpa using k2
  obtain ⟨i, j, hij, hj, e⟩ := pigeon (m * m) (fun i => (u p q i % m).toNat * m + (u p q (i + 1) % m).toNat) (fun i _ => by
    have a := Int.emod_lt_of_pos (u p q i) (show (0 : Int) < m by omega)
    have b := Int.emod_lt_of_pos (u p q (i + 1)) (show (0 : Int) < m by omega)
    have a0 := Int.emod_nonneg (u p q i) (show (m : Int) ≠ 0 by omega)
    have l : (u p q i % m).toNat + 1 ≤ m := by omega
    have := Nat.mul_le_mul_right m l
    rw [Nat.add_mul] at this
    show (u p q i % m).toNat * m + (u p q (i + 1) % m).toNat < m * m
    omega)
  replace e : (u p q i % m).toNat * m + (u p q (i + 1) % m).toNat = (u p q j % m).toNat * m + (u p q (j + 1) % m).toNat := e
  have a0 := Int.emod_nonneg (u p q i) (show (m : Int) ≠ 0 by omega)
  have b0 := Int.emod_nonneg (u p q j) (show (m : Int) ≠ 0 by omega)
  have a1 := Int.emod_nonneg (u p q (i + 1)) (show (m : Int) ≠ 0 by omega)
  have b1 := Int.emod_nonneg (u p q (j + 1)) (show (m : Int) ≠ 0 by omega)
  have a2 := Int.emod_lt_of_pos (u p q (i + 1)) (show (0 : Int) < m by omega)
  have b2 := Int.emod_lt_of_pos (u p q (j + 1)) (show (0 : Int) < m by omega)
  have d1 : (u p q (i + 1) % m).toNat = (u p q (j + 1) % m).toNat := by
    have := congrArg (· % m) e
    simp only [Nat.mul_add_mod_self_right, Nat.mul_comm _ m, Nat.mul_add_mod] at this
    rwa [Nat.mod_eq_of_lt (by omega), Nat.mod_eq_of_lt (by omega)] at this
  have d2 : (u p q i % m).toNat = (u p q j % m).toNat := by
    rw [d1] at e
    exact Nat.eq_of_mul_eq_mul_right m0 (by omega)
  have f1 : (m : Int) ∣ u p q (i + (j - i)) - u p q i := by
    rw [show i + (j - i) = j by omega]
    exact Int.dvd_of_emod_eq_zero (Int.emod_eq_emod_iff_emod_sub_eq_zero.mp (by omega))
  have f2 : (m : Int) ∣ u p q (i + 1 + (j - i)) - u p q (i + 1) := by
    rw [show i + 1 + (j - i) = j + 1 by omega]
    exact Int.dvd_of_emod_eq_zero (Int.emod_eq_emod_iff_emod_sub_eq_zero.mp (by omega))
  obtain ⟨r, hr, hl, hs⟩ := least_of (fun r => 0 < r ∧ (m : Int) ∣ u p q r) (j - i) ⟨by omega, key i (j - i) f1 f2⟩
  exact ⟨r, ⟨hr.1, hr.2, fun s s0 sr hd => hs s sr ⟨s0, hd⟩⟩, by omega⟩
/-- the common divisors of two members -/
theorem gcd_q (g : Int.gcd p q = 1) : ∀ n, Int.gcd (u p q (n + 1)) q = 1
  | 0 => by show Int.gcd 1 q = 1; exact Int.one_gcd
  | n + 1 => by
    rw [uS, Int.gcd_sub_mul_left_left]
    show Nat.gcd (p * u p q (n + 1)).natAbs q.natAbs = 1
    rw [Int.natAbs_mul]
    exact Nat.Coprime.mul_left g (gcd_q g n)
theorem gcd_next (g : Int.gcd p q = 1) : ∀ n, Int.gcd (u p q (n + 1)) (u p q n) = 1
  | 0 => by show Int.gcd 1 0 = 1; decide
  | n + 1 => by
    have h := gcd_next g n
    have h2 := gcd_q g n
    rw [uS]
    have e : Int.gcd (p * u p q (n + 1) - q * u p q n) (u p q (n + 1)) = Int.gcd (q * u p q n) (u p q (n + 1)) := by
      rw [show p * u p q (n + 1) - q * u p q n = -(q * u p q n) + u p q (n + 1) * p by grind, Int.gcd_add_mul_left_left, Int.neg_gcd]
    rw [e]
    show Nat.gcd (q * u p q n).natAbs _ = 1
    rw [Int.natAbs_mul]
    exact Nat.Coprime.mul_left (by rw [Int.gcd_comm] at h2; exact h2) (by rw [Int.gcd_comm] at h; exact h)
theorem gcd_step (g : Int.gcd p q = 1) (b k : Nat) : Int.gcd (u p q (b + k)) (u p q k) = Int.gcd (u p q b) (u p q k) := by
  cases b with
  | zero =>
    rw [Nat.zero_add]
    show _ = Int.gcd 0 _
    simp
  | succ b =>
    rw [u_add', show u p q (b + 1) * u p q (k + 1) - q * u p q b * u p q k = u p q (b + 1) * u p q (k + 1) - u p q k * (q * u p q b) by grind, Int.gcd_sub_mul_left_left]
    show Nat.gcd (u p q (b + 1) * u p q (k + 1)).natAbs (u p q k).natAbs = Nat.gcd _ _
    rw [Int.natAbs_mul]
    exact Nat.Coprime.gcd_mul_right_cancel _ (gcd_next g k)
theorem gcd_u (g : Int.gcd p q = 1) (j k : Nat) : Int.gcd (u p q j) (u p q k) = (u p q (Nat.gcd j k)).natAbs := by
  have go : ∀ (k t b : Nat), Int.gcd (u p q (b + k * t)) (u p q k) = Int.gcd (u p q b) (u p q k) := by
    intro k t
    induction t with
    | zero => intro b; rw [Nat.mul_zero, Nat.add_zero]
    | succ t ih =>
      intro b
      rw [Nat.mul_succ, ← Nat.add_assoc, gcd_step g, ih]
  induction j, k using Nat.gcd.induction with
  | H0 k =>
    rw [Nat.gcd_zero_left]
    show Int.gcd 0 _ = _
    simp
  | H1 j k h ih =>
    rw [Nat.gcd_rec, ← ih, Int.gcd_comm]
    have e : k = k % j + j * (k / j) := by have := Nat.mod_add_div k j; omega
    have := go j (k / j) (k % j)
    rw [← e] at this
    exact this
/-- the table's powers -/
theorem mat_add (a : Nat) : ∀ b : Nat,
    u p q (a + 1) * u p q (b + 1) + w p q (a + 1) * u p q b = u p q (a + b + 1) ∧ u p q (a + 1) * w p q (b + 1) + w p q (a + 1) * w p q b = w p q (a + b + 1) ∧
    u p q a * u p q (b + 1) + w p q a * u p q b = u p q (a + b) ∧ u p q a * w p q (b + 1) + w p q a * w p q b = w p q (a + b)
  | 0 => by
    refine ⟨?_, ?_, ?_, ?_⟩
    · show u p q (a + 1) * 1 + w p q (a + 1) * 0 = u p q (a + 1); grind
    · show u p q (a + 1) * (-q * 0) + w p q (a + 1) * 1 = w p q (a + 1); grind
    · show u p q a * 1 + w p q a * 0 = u p q a; grind
    · show u p q a * (-q * 0) + w p q a * 1 = w p q a; grind
  | b + 1 => by
    obtain ⟨h1, h2, h3, h4⟩ := mat_add a b
    have e5 := uw p q (a + b + 1)
    have e6 := uw p q (a + b)
    have e7 := uw p q (b + 1)
    have e8 := uw p q b
    have f1 : w p q (b + 1 + 1) = -q * u p q (b + 1) := rfl
    have f2 : w p q (b + 1) = -q * u p q b := rfl
    have f3 : w p q (a + (b + 1) + 1) = -q * u p q (a + b + 1) := rfl
    have f4 : w p q (a + (b + 1)) = -q * u p q (a + b) := rfl
    have g1 : u p q (a + (b + 1) + 1) = u p q (a + b + 1 + 1) := rfl
    have g2 : u p q (a + (b + 1)) = u p q (a + b + 1) := rfl
    have key : ∀ A B x y z W pp : Int, x = pp * y + z → A * (pp * x + W) + B * x = pp * (A * x + B * y) + (A * W + B * z) := by
      intro A B x y z W pp h
      subst h
      grind
    have key2 : ∀ A B x y qq : Int, A * (-qq * x) + B * (-qq * y) = -qq * (A * x + B * y) := by
      intro A B x y qq
      grind
    refine ⟨?_, ?_, ?_, ?_⟩
    · rw [g1, e5, e7, ← h1, ← h2]; exact key _ _ _ _ _ _ _ e8
    · rw [f3, f1, f2, ← h1]; exact key2 _ _ _ _ _
    · rw [g2, e6, e7, ← h3, ← h4]; exact key _ _ _ _ _ _ _ e8
    · rw [f4, f1, f2, ← h3]; exact key2 _ _ _ _ _
end
end M78

set_option linter.all false
set_option maxRecDepth 100000
set_option maxHeartbeats 1000000
namespace MP
/-! powers that are one -/
def One (a : Int) (m t : Nat) : Prop := (m : Int) ∣ a ^ t - 1
theorem One.zero {a : Int} {m : Nat} : One a m 0 := by
  unfold One; rw [Int.pow_zero]; exact Int.dvd_zero _
theorem One.add {a : Int} {m s : Nat} (h : One a m s) (t : Nat) : One a m (s + t) ↔ One a m t := by
  unfold One at *
  have e : a ^ (s + t) - 1 = (a ^ s - 1) * a ^ t + (a ^ t - 1) := by rw [Int.pow_add]; grind
  rw [e]
  exact Int.dvd_add_right (Int.dvd_mul_of_dvd_left h)
theorem One.mul {a : Int} {m s : Nat} (h : One a m s) : ∀ k : Nat, One a m (s * k)
  | 0 => One.zero
  | k + 1 => by rw [Nat.mul_succ, Nat.add_comm]; exact (h.add _).mpr (One.mul h k)
theorem One.dvd {a : Int} {m s t : Nat} (h : One a m s) (d : s ∣ t) : One a m t := by
  obtain ⟨k, rfl⟩ := d; exact h.mul k
theorem One.of_dvd {a : Int} {m n t : Nat} (h : One a m t) (d : n ∣ m) : One a n t := Int.dvd_trans (Int.natCast_dvd_natCast.mpr d) h
theorem one_emod {a : Int} {m t : Nat} : One a m t ↔ a ^ t % m = 1 % m := by
  unfold One
  rw [Int.dvd_iff_emod_eq_zero, ← Int.emod_eq_emod_iff_emod_sub_eq_zero]
theorem pow_emod (a m : Int) (t : Nat) : (a % m) ^ t % m = a ^ t % m := by
  induction t with
  | zero => rw [Int.pow_zero, Int.pow_zero]
  | succ t ih => rw [Int.pow_succ, Int.pow_succ, Int.mul_emod, ih, Int.emod_emod_of_dvd _ (Int.dvd_refl m), ← Int.mul_emod]
theorem one_mod {a : Int} {m t : Nat} : One (a % m) m t ↔ One a m t := by rw [one_emod, one_emod, pow_emod]
theorem one_congr {a b : Int} {m t : Nat} (h : a % m = b % m) : One a m t ↔ One b m t := by rw [← one_mod, h, one_mod]
structure IsOrd (a : Int) (m t : Nat) : Prop where
  pos : 0 < t
  one : One a m t
  least : ∀ s, 0 < s → s < t → ¬ One a m s
theorem IsOrd.iff {a : Int} {m t : Nat} (R : IsOrd a m t) (k : Nat) : One a m k ↔ t ∣ k := by
  constructor
  · intro h
    have e : k = t * (k / t) + k % t := (Nat.div_add_mod k t).symm
    rw [e] at h
    have h2 := ((R.one.mul (k / t)).add _).mp h
    rcases Nat.eq_zero_or_pos (k % t) with z | z
    · exact Nat.dvd_of_mod_eq_zero z
    · exact absurd h2 (R.least _ z (Nat.mod_lt _ R.pos))
  · exact fun d => R.one.dvd d
theorem IsOrd.uniq {a : Int} {m s t : Nat} (R : IsOrd a m s) (S : IsOrd a m t) : s = t :=
  Nat.dvd_antisymm ((R.iff t).mp S.one) ((S.iff s).mp R.one)
theorem IsOrd.of_iff {a : Int} {m t : Nat} (h0 : 0 < t) (h : ∀ k, One a m k ↔ t ∣ k) : IsOrd a m t :=
  ⟨h0, (h t).mpr (Nat.dvd_refl t), fun s s0 st hs => by have := Nat.le_of_dvd s0 ((h s).mp hs); omega⟩
/-- cancelling -/
theorem cancel {x y m : Int} (g : Int.gcd x m = 1) (h : m ∣ x * y) : m ∣ y := by
  have k2 := Int.dvd_gcd_mul_iff_dvd_mul.mpr h
  rw [Int.gcd_comm, g] at k2
  simpa using k2
theorem ord_ex {a : Int} {m : Nat} (m0 : 0 < m) (g : Int.gcd a m = 1) : ∃ t, IsOrd a m t ∧ t ≤ m := by
  obtain ⟨i, j, hij, hj, e⟩ := M78.pigeon m (fun i => (a ^ i % m).toNat) (fun i _ => by
    have h1 := Int.emod_lt_of_pos (a ^ i) (show (0 : Int) < m by omega)
    have h2 := Int.emod_nonneg (a ^ i) (show (m : Int) ≠ 0 by omega)
    show (a ^ i % m).toNat < m
    omega)
  replace e : (a ^ i % m).toNat = (a ^ j % m).toNat := e
  have h1 := Int.emod_nonneg (a ^ i) (show (m : Int) ≠ 0 by omega)
  have h2 := Int.emod_nonneg (a ^ j) (show (m : Int) ≠ 0 by omega)
  have d : (m : Int) ∣ a ^ j - a ^ i := Int.dvd_of_emod_eq_zero (Int.emod_eq_emod_iff_emod_sub_eq_zero.mp (by omega))
  have o : One a m (j - i) := by
    have e2 : a ^ j - a ^ i = a ^ i * (a ^ (j - i) - 1) := by
      have : a ^ j = a ^ i * a ^ (j - i) := by rw [← Int.pow_add]; congr 1; omega
      rw [this]; grind
    rw [e2] at d
    exact cancel (M78.dvd_pow_one g i) d
  obtain ⟨r, hr, hl, hs⟩ := M78.least_of (fun r => 0 < r ∧ One a m r) (j - i) ⟨by omega, o⟩
  exact ⟨r, ⟨hr.1, hr.2, fun s s0 sr hd => hs s sr ⟨s0, hd⟩⟩, by omega⟩
/-! primes -/
structure Pr (p : Nat) : Prop where
  two : 2 ≤ p
  div : ∀ d, d ∣ p → d = 1 ∨ d = p
theorem Pr.cop {p n : Nat} (h : Pr p) (d : ¬ p ∣ n) : Nat.gcd p n = 1 := by
  rcases h.div _ (Nat.gcd_dvd_left p n) with z | z
  · exact z
  · exact absurd (z ▸ Nat.gcd_dvd_right p n) d
theorem Pr.mul {p a b : Nat} (h : Pr p) (d : p ∣ a * b) : p ∣ a ∨ p ∣ b := by
  by_cases c : p ∣ a
  · exact .inl c
  · exact .inr (Nat.Coprime.dvd_of_dvd_mul_left (h.cop c) d)
theorem Pr.pow {p a : Nat} (h : Pr p) : ∀ {e : Nat}, p ∣ a ^ e → p ∣ a
  | 0, d => by rw [Nat.pow_zero] at d; have := Nat.le_of_dvd (by decide) d; have := h.two; omega
  | e + 1, d => by
    rw [Nat.pow_succ] at d
    rcases h.mul d with z | z
    · exact Pr.pow h z
    · exact z
theorem pr_ex : ∀ n : Nat, 2 ≤ n → ∃ p, Pr p ∧ p ∣ n := by
  intro n
  induction n using Nat.strongRecOn with
  | ind n ih =>
    intro h2
    by_cases c : ∃ d, d ∣ n ∧ d ≠ 1 ∧ d ≠ n
    · obtain ⟨d, h, h1, hn⟩ := c
      have l := Nat.le_of_dvd (by omega) h
      have : d ≠ 0 := by rintro rfl; rw [Nat.zero_dvd] at h; omega
      obtain ⟨p, hp, hd⟩ := ih d (by omega) (by omega)
      exact ⟨p, hp, Nat.dvd_trans hd h⟩
    · refine ⟨n, ⟨h2, fun d hd => ?_⟩, Nat.dvd_refl n⟩
      by_cases c1 : d = 1
      · exact .inl c1
      · by_cases c2 : d = n
        · exact .inr c2
        · exact absurd ⟨d, hd, c1, c2⟩ c
/-- the order, found by dividing out -/
theorem ord_of {a : Int} {m F f : Nat} (F0 : 0 < F) (hf : f ∣ F) (h1 : One a m f) (hp : ∀ p, Pr p → p ∣ F → p ∣ f → ¬ One a m (f / p)) : IsOrd a m f := by
  have f0 : 0 < f := Nat.pos_of_dvd_of_pos hf F0
  refine ⟨f0, h1, fun s s0 sf hs => ?_⟩
  -- the least one
  obtain ⟨t, ht, hl, hq⟩ := M78.least_of (fun r => 0 < r ∧ One a m r) s ⟨s0, hs⟩
  have T : IsOrd a m t := ⟨ht.1, ht.2, fun u u0 ut hu => hq u ut ⟨u0, hu⟩⟩
  obtain ⟨c, hc⟩ := (T.iff f).mp h1
  have c2 : 2 ≤ c := by
    rcases Nat.lt_or_ge c 2 with z | z
    · have : c = 0 ∨ c = 1 := by omega
      rcases this with rfl | rfl
      · rw [Nat.mul_zero] at hc; omega
      · rw [Nat.mul_one] at hc; omega
    · exact z
  obtain ⟨p, pp, pd⟩ := pr_ex c c2
  have pf : p ∣ f := by rw [hc]; exact Nat.dvd_mul_left_of_dvd pd t
  refine hp p pp (Nat.dvd_trans pf hf) pf ?_
  obtain ⟨k, rfl⟩ := pd
  have : f / p = t * k := by
    rw [hc, show t * (p * k) = p * (t * k) by grind]
    exact Nat.mul_div_cancel_left _ (by have := pp.two; omega)
  rw [this]
  exact T.one.mul k
/-! Fermat -/
def prd : List Nat → Nat
  | [] => 1
  | x :: xs => x * prd xs
theorem prd_perm {l m : List Nat} (h : l.Perm m) : prd l = prd m := by
  induction h with
  | nil => rfl
  | cons x _ ih => show x * _ = x * _; rw [ih]
  | swap x y l => show y * (x * _) = x * (y * _); grind
  | trans _ _ a b => rw [a, b]
theorem prd_map (a p : Nat) : ∀ l : List Nat, prd (l.map fun x => a * x % p) % p = a ^ l.length * prd l % p
  | [] => by show 1 % p = a ^ 0 * 1 % p; simp
  | x :: xs => by
    show (a * x % p) * prd (xs.map fun x => a * x % p) % p = a ^ (xs.length + 1) * (x * prd xs) % p
    rw [Nat.mul_mod, prd_map a p xs, Nat.mod_mod, ← Nat.mul_mod, Nat.pow_succ]
    congr 1; grind
theorem prd_cop {p : Nat} (h : Pr p) : ∀ l : List Nat, (∀ x ∈ l, 0 < x ∧ x < p) → Nat.gcd (prd l) p = 1
  | [], _ => Nat.gcd_one_left p
  | x :: xs, hx => by
    have a := hx x List.mem_cons_self
    have b := prd_cop h xs fun y hy => hx y (List.mem_cons_of_mem _ hy)
    refine Nat.Coprime.mul_left ?_ b
    show Nat.gcd x p = 1
    rw [Nat.gcd_comm]
    refine h.cop fun d => ?_
    have := Nat.le_of_dvd a.1 d
    omega
theorem mul_inj {a p x y : Nat} (h : Nat.gcd a p = 1) (hx : x < p) (hy : y < p) (e : a * x % p = a * y % p) : x = y := by
  have key : ∀ x y, x ≤ y → x < p → y < p → a * x % p = a * y % p → x = y := fun x y hxy hx hy e => by
    have d : p ∣ a * (y - x) := by
      rw [Nat.mul_sub]
      exact (Nat.dvd_iff_mod_eq_zero ..).mpr (Nat.sub_mod_eq_zero_of_mod_eq e.symm)
    have d2 : p ∣ y - x := Nat.Coprime.dvd_of_dvd_mul_left (by rw [Nat.Coprime, Nat.gcd_comm]; exact h) d
    rcases Nat.eq_zero_or_pos (y - x) with z | z
    · omega
    · have := Nat.le_of_dvd z d2; omega
  rcases Nat.le_total x y with z | z
  · exact key x y z hx hy e
  · exact (key y x z hy hx e.symm).symm
theorem fermatN {p a : Nat} (h : Pr p) (g : Nat.gcd a p = 1) : a ^ (p - 1) % p = 1 := by
  have p2 := h.two
  let l := List.range' 1 (p - 1)
  have hl : ∀ x, x ∈ l ↔ 1 ≤ x ∧ x < 1 + (p - 1) := fun x => List.mem_range'_1
  have nd : (l.map fun x => a * x % p).Nodup := by
    refine List.Pairwise.map _ (R := fun x y => x ≠ y ∧ x ∈ l ∧ y ∈ l) ?_ ?_
    · rintro x y ⟨h1, h2, h3⟩ e
      exact h1 (mul_inj g (by have := (hl x).mp h2; omega) (by have := (hl y).mp h3; omega) e)
    · have : l.Nodup := List.nodup_range'
      exact List.Pairwise.imp_of_mem (fun hx hy hn => ⟨hn, hx, hy⟩) this
  have sub : ∀ y, y ∈ (l.map fun x => a * x % p) → y ∈ l := fun y hy => by
    obtain ⟨x, hx, rfl⟩ := List.mem_map.mp hy
    have hx' := (hl x).mp hx
    have nz : a * x % p ≠ 0 := fun z => by
      have d : p ∣ a * x := Nat.dvd_of_mod_eq_zero z
      have d2 : p ∣ x := Nat.Coprime.dvd_of_dvd_mul_left (by rw [Nat.Coprime, Nat.gcd_comm]; exact g) d
      have := Nat.le_of_dvd (by omega) d2
      omega
    refine (hl _).mpr ⟨by omega, ?_⟩
    have := Nat.mod_lt (a * x) (show 0 < p by omega)
    omega
  have sup : ∀ y, y ∈ l → y ∈ (l.map fun x => a * x % p) := fun y hy => by
    have hy' := (hl y).mp hy
    obtain ⟨t, T, _⟩ := ord_ex (a := (a : Int)) (m := p) (by omega) (by simpa using g)
    have t1 := one_emod.mp T.one
    have tp := T.pos
    have t2 : a ^ t % p = 1 := by
      have : ((a ^ t % p : Nat) : Int) = ((1 : Nat) : Int) := by
        rw [Int.natCast_emod, Int.natCast_pow, t1]; exact Int.emod_eq_of_lt (by decide) (by omega)
      omega
    have e : a * (a ^ (t - 1) * y % p) % p = y := by
      rw [Nat.mul_mod, Nat.mod_mod, ← Nat.mul_mod, ← Nat.mul_assoc, ← Nat.pow_succ', show (t - 1).succ = t by omega, Nat.mul_mod, t2, Nat.one_mul, Nat.mod_mod, Nat.mod_eq_of_lt (by omega)]
    refine List.mem_map.mpr ⟨a ^ (t - 1) * y % p, (hl _).mpr ⟨?_, ?_⟩, e⟩
    · rcases Nat.eq_zero_or_pos (a ^ (t - 1) * y % p) with z | z
      · rw [z, Nat.mul_zero, Nat.zero_mod] at e; omega
      · omega
    · have := Nat.mod_lt (a ^ (t - 1) * y) (show 0 < p by omega)
      omega
  have sp : (l.map fun x => a * x % p).Perm l := (List.perm_ext_iff_of_nodup nd List.nodup_range').mpr fun y => ⟨sub y, sup y⟩
  have e := prd_map a p l
  rw [prd_perm sp] at e
  have gc := prd_cop h l fun x hx => by have := (hl x).mp hx; omega
  have ln : l.length = p - 1 := List.length_range'
  rw [ln] at e
  have : a ^ (p - 1) * prd l % p = 1 * prd l % p := by rw [Nat.one_mul]; exact e.symm
  rw [Nat.mul_comm, Nat.mul_comm 1] at this
  have z : prd l * (a ^ (p - 1) % p) % p = prd l * 1 % p := by rw [← this, Nat.mul_mod, Nat.mod_mod, ← Nat.mul_mod]
  exact mul_inj gc (Nat.mod_lt _ (by omega)) (by omega) z
theorem fermat {p : Nat} {a : Int} (h : Pr p) (g : Int.gcd a p = 1) : One a p (p - 1) := by
  have p2 := h.two
  have n0 := Int.emod_nonneg a (show (p : Int) ≠ 0 by omega)
  have e : ((a % p).toNat : Int) = a % p := Int.toNat_of_nonneg n0
  rw [← one_mod, ← e]
  rw [one_emod]
  have g2 : Nat.gcd (a % p).toNat p = 1 := by
    have : Int.gcd ((a % p).toNat : Int) p = Int.gcd a p := by
      rw [e]
      have h1 : a = a % p + p * (a / p) := by have := Int.emod_add_mul_ediv a p; omega
      exact (by rw [← Int.gcd_add_mul_left_left p (a % p) (a / p), ← h1])
    rw [g] at this
    exact this
  have f := fermatN h g2
  have : (((a % p).toNat ^ (p - 1) % p : Nat) : Int) = ((1 : Nat) : Int) := by rw [f]
  rw [Int.natCast_emod, Int.natCast_pow] at this
  rw [this]
  exact (Int.emod_eq_of_lt (by decide) (by omega)).symm
end MP

set_option linter.all false
set_option maxRecDepth 100000
set_option maxHeartbeats 1000000
namespace MP
/-! the program's splitting into primes, mirrored -/
def strip : Nat → Nat → Nat → Nat × Nat
  | 0, n, _ => (n, 0)
  | f + 1, n, p => if n % p = 0 then ((strip f (n / p) p).1, (strip f (n / p) p).2 + 1) else (n, 0)
def tri : Nat → Nat → Nat → List (Nat × Nat)
  | 0, n, _ => if 1 < n then [(n, 1)] else []
  | f + 1, n, p => if p * p ≤ n then (if 0 < (strip n n p).2 then [(p, (strip n n p).2)] else []) ++ tri f (strip n n p).1 (if p = 2 then 3 else p + 2) else if 1 < n then [(n, 1)] else []
def partsF (n : Nat) : List (Nat × Nat) := tri n n 2
def prodP : List (Nat × Nat) → Nat
  | [] => 1
  | x :: xs => x.1 ^ x.2 * prodP xs
theorem strip_ok {p : Nat} (p2 : 2 ≤ p) : ∀ f n : Nat, 0 < n → n ≤ f → n = p ^ (strip f n p).2 * (strip f n p).1 ∧ ¬ p ∣ (strip f n p).1 ∧ 0 < (strip f n p).1
  | 0, n, n0, h => by omega
  | f + 1, n, n0, h => by
    unfold strip
    by_cases c : n % p = 0
    · rw [if_pos c]
      have d : p * (n / p) = n := Nat.mul_div_cancel' (Nat.dvd_of_mod_eq_zero c)
      have l : n / p < n := Nat.div_lt_self n0 p2
      have z : 0 < n / p := by
        rcases Nat.eq_zero_or_pos (n / p) with z | z
        · rw [z] at d; omega
        · exact z
      obtain ⟨h1, h2, h3⟩ := strip_ok p2 f (n / p) z (by omega)
      refine ⟨?_, h2, h3⟩
      show n = p ^ ((strip f (n / p) p).2 + 1) * (strip f (n / p) p).1
      rw [Nat.pow_succ, Nat.mul_right_comm, ← h1, Nat.mul_comm]
      exact d.symm
    · rw [if_neg c]
      exact ⟨by simp, fun d => c (Nat.mod_eq_zero_of_dvd d), n0⟩
structure PartsOk (n lo : Nat) (L : List (Nat × Nat)) : Prop where
  pr : ∀ x ∈ L, Pr x.1 ∧ lo ≤ x.1 ∧ 0 < x.2
  sorted : L.Pairwise fun x y => x.1 < y.1
  prod : prodP L = n
theorem tri_ok : ∀ f n p : Nat, 0 < n → 2 ≤ p → (p = 2 ∨ p % 2 = 1) → (∀ d, 2 ≤ d → d < p → ¬ d ∣ n) → n + 2 ≤ p + f → PartsOk n p (tri f n p) := by
  have last : ∀ n p : Nat, 0 < n → 2 ≤ p → (∀ d, 2 ≤ d → d < p → ¬ d ∣ n) → n < p * p → PartsOk n p (if 1 < n then [(n, 1)] else []) := fun n p n0 p2 hd hn => by
    by_cases c : 1 < n
    · rw [if_pos c]
      have pn : Pr n := ⟨by omega, fun d hdn => by
        obtain ⟨e, rfl⟩ := hdn
        by_cases d2 : 2 ≤ d
        · by_cases e2 : 2 ≤ e
          · have a1 : p ≤ d := Nat.le_of_not_lt fun z => hd d d2 z (Nat.dvd_mul_right d e)
            have a2 : p ≤ e := Nat.le_of_not_lt fun z => hd e e2 z (Nat.dvd_mul_left e d)
            have := Nat.mul_le_mul a1 a2
            omega
          · have : e = 0 ∨ e = 1 := by omega
            rcases this with rfl | rfl
            · omega
            · exact .inr (Nat.mul_one d).symm
        · have : d = 0 ∨ d = 1 := by omega
          rcases this with rfl | rfl
          · omega
          · exact .inl rfl⟩
      refine ⟨fun x hx => ?_, List.pairwise_singleton _ _, by simp [prodP]⟩
      rw [List.mem_singleton] at hx
      subst hx
      exact ⟨pn, Nat.le_of_not_lt fun z => hd n (by omega) z (Nat.dvd_refl n), by show 0 < 1; omega⟩
    · rw [if_neg c]
      have : n = 1 := by omega
      subst this
      exact ⟨fun x hx => (by cases hx), List.Pairwise.nil, rfl⟩
  intro f
  induction f with
  | zero =>
    intro n p n0 p2 _ hd hf
    unfold tri
    exact last n p n0 p2 hd (by have := Nat.mul_le_mul_left p p2; omega)
  | succ f ih =>
    intro n p n0 p2 po hd hf
    unfold tri
    by_cases c : p * p ≤ n
    · rw [if_pos c]
      obtain ⟨h1, h2, h3⟩ := strip_ok p2 n n n0 (Nat.le_refl n)
      generalize hs : strip n n p = s at h1 h2 h3
      have rd : s.1 ∣ n := ⟨p ^ s.2, by rw [Nat.mul_comm]; exact h1⟩
      have rl : s.1 ≤ n := Nat.le_of_dvd n0 rd
      have nx : ∃ q, (if p = 2 then 3 else p + 2) = q ∧ p < q ∧ q % 2 = 1 ∧ (∀ d, 2 ≤ d → d < q → ¬ d ∣ s.1) := by
        refine ⟨_, rfl, ?_, ?_, fun d d2 dq => ?_⟩
        · split <;> omega
        · split <;> omega
        · by_cases dp : d < p
          · exact fun z => hd d d2 dp (Nat.dvd_trans z rd)
          · by_cases dp2 : d = p
            · subst dp2; exact h2
            · split at dq
              · omega
              · have : d = p + 1 := by omega
                have ev : 2 ∣ d := by omega
                intro z
                exact hd 2 (by omega) (by omega) (Nat.dvd_trans ev (Nat.dvd_trans z rd))
      obtain ⟨q, hq, q1, q2, q3⟩ := nx
      rw [hq]
      have I := ih s.1 q h3 (by omega) (.inr q2) q3 (by omega)
      by_cases c2 : 0 < s.2
      · rw [if_pos c2]
        have pn : p ∣ n := by
          rw [h1]
          exact Nat.dvd_mul_right_of_dvd (Nat.dvd_trans ⟨1, by simp⟩ (Nat.pow_dvd_pow p (show 1 ≤ s.2 from c2))) _
        have pp : Pr p := ⟨p2, fun d hdp => by
          have l := Nat.le_of_dvd (by omega) hdp
          by_cases d2 : 2 ≤ d
          · by_cases dl : d < p
            · exact absurd (Nat.dvd_trans hdp pn) (hd d d2 dl)
            · exact .inr (by omega)
          · have : d = 0 ∨ d = 1 := by omega
            rcases this with rfl | rfl
            · rw [Nat.zero_dvd] at hdp; omega
            · exact .inl rfl⟩
        refine ⟨fun x hx => ?_, ?_, ?_⟩
        · rcases List.mem_append.mp hx with z | z
          · rw [List.mem_singleton] at z; subst z; exact ⟨pp, Nat.le_refl p, c2⟩
          · obtain ⟨a1, a2, a3⟩ := I.pr x z
            exact ⟨a1, by omega, a3⟩
        · show List.Pairwise _ ((p, s.2) :: tri f s.1 q)
          refine List.pairwise_cons.mpr ⟨fun x hx => ?_, I.sorted⟩
          have := (I.pr x hx).2.1
          show p < x.1
          omega
        · show p ^ s.2 * prodP (tri f s.1 q) = n
          rw [I.prod]; exact h1.symm
      · rw [if_neg c2]
        have e0 : s.2 = 0 := by omega
        rw [e0, Nat.pow_zero, Nat.one_mul] at h1
        refine ⟨fun x hx => ?_, I.sorted, I.prod.trans h1.symm⟩
        obtain ⟨a1, a2, a3⟩ := I.pr x hx
        exact ⟨a1, by omega, a3⟩
    · rw [if_neg c]
      exact last n p n0 p2 hd (by omega)
theorem parts_ok {n : Nat} (n0 : 0 < n) : PartsOk n 2 (partsF n) := tri_ok n n 2 n0 (Nat.le_refl 2) (.inl rfl) (fun d a b => by omega) (by omega)
theorem prod_pos : ∀ {L : List (Nat × Nat)}, (∀ x ∈ L, Pr x.1) → 0 < prodP L
  | [], _ => by decide
  | x :: xs, h => Nat.mul_pos (Nat.pow_pos (by have := (h x List.mem_cons_self).two; omega)) (prod_pos fun y hy => h y (List.mem_cons_of_mem _ hy))
theorem mem_of_dvd {p : Nat} (hp : Pr p) : ∀ {L : List (Nat × Nat)}, (∀ x ∈ L, Pr x.1) → p ∣ prodP L → ∃ e, (p, e) ∈ L
  | [], _, d => by have := Nat.le_of_dvd (by decide) d; have := hp.two; unfold prodP at *; omega
  | x :: xs, h, d => by
    rcases hp.mul d with z | z
    · have z := hp.pow z
      rcases (h x List.mem_cons_self).div p z with e | e
      · have := hp.two; omega
      · exact ⟨x.2, by rw [e]; exact List.mem_cons_self⟩
    · obtain ⟨e, he⟩ := mem_of_dvd hp (fun y hy => h y (List.mem_cons_of_mem _ hy)) z
      exact ⟨e, List.mem_cons_of_mem _ he⟩
theorem parts_mem {n p : Nat} (n0 : 0 < n) (hp : Pr p) (d : p ∣ n) : ∃ e, (p, e) ∈ partsF n := by
  have O := parts_ok n0
  exact mem_of_dvd hp (fun x hx => (O.pr x hx).1) (by rw [O.prod]; exact d)
/-! how many without a common divisor -/
def phiL (L : List (Nat × Nat)) (n : Nat) : Nat := L.foldl (fun f x => f / x.1 * (x.1 - 1)) n
def phiF (n : Nat) : Nat := phiL (partsF n) n
def phiP : List (Nat × Nat) → Nat
  | [] => 1
  | x :: xs => x.1 ^ (x.2 - 1) * (x.1 - 1) * phiP xs
theorem phiL_eq : ∀ (L : List (Nat × Nat)) (c : Nat), (∀ x ∈ L, Pr x.1 ∧ 0 < x.2) → phiL L (c * prodP L) = c * phiP L
  | [], c, _ => rfl
  | x :: xs, c, h => by
    obtain ⟨h1, h2⟩ := h x List.mem_cons_self
    have p2 := h1.two
    show phiL xs (c * (x.1 ^ x.2 * prodP xs) / x.1 * (x.1 - 1)) = c * (x.1 ^ (x.2 - 1) * (x.1 - 1) * phiP xs)
    have e : x.1 ^ x.2 = x.1 * x.1 ^ (x.2 - 1) := by
      rw [← Nat.pow_succ']; congr 1; omega
    have : c * (x.1 ^ x.2 * prodP xs) / x.1 * (x.1 - 1) = (c * (x.1 ^ (x.2 - 1) * (x.1 - 1))) * prodP xs := by
      rw [e, show c * (x.1 * x.1 ^ (x.2 - 1) * prodP xs) = x.1 * (c * x.1 ^ (x.2 - 1) * prodP xs) by grind, Nat.mul_div_cancel_left _ (by omega)]
      grind
    rw [this, phiL_eq xs _ fun y hy => h y (List.mem_cons_of_mem _ hy)]
    grind
theorem phiF_eq {n : Nat} (n0 : 0 < n) : phiF n = phiP (partsF n) := by
  have O := parts_ok n0
  have := phiL_eq (partsF n) 1 fun x hx => ⟨(O.pr x hx).1, (O.pr x hx).2.2⟩
  rw [O.prod, Nat.one_mul, Nat.one_mul] at this
  exact this
theorem phiP_pos : ∀ {L : List (Nat × Nat)}, (∀ x ∈ L, Pr x.1) → 0 < phiP L
  | [], _ => by decide
  | x :: xs, h => by
    have := (h x List.mem_cons_self).two
    exact Nat.mul_pos (Nat.mul_pos (Nat.pow_pos (by omega)) (by omega)) (phiP_pos fun y hy => h y (List.mem_cons_of_mem _ hy))
/-! lifting -/
def geo (a : Int) : Nat → Int
  | 0 => 0
  | n + 1 => geo a n + a ^ n
theorem geo_mul (a : Int) : ∀ n : Nat, (a - 1) * geo a n = a ^ n - 1
  | 0 => by show (a - 1) * 0 = a ^ 0 - 1; rw [Int.pow_zero]; omega
  | n + 1 => by
    show (a - 1) * (geo a n + a ^ n) = a ^ (n + 1) - 1
    have := geo_mul a n
    rw [Int.pow_succ]; grind
theorem geo_mod {a p : Int} (h : p ∣ a - 1) : ∀ n : Nat, p ∣ geo a n - n
  | 0 => by show p ∣ 0 - ((0 : Nat) : Int); simp
  | n + 1 => by
    have h1 := geo_mod h n
    have h2 : p ∣ a ^ n - 1 := by rw [← geo_mul a n]; exact Int.dvd_mul_of_dvd_left h
    show p ∣ geo a n + a ^ n - ((n + 1 : Nat) : Int)
    have := Int.dvd_add h1 h2
    rwa [show geo a n - n + (a ^ n - 1) = geo a n + a ^ n - ((n + 1 : Nat) : Int) by push_cast; omega] at this
theorem lift {a : Int} {p k t : Nat} (k1 : 0 < k) (h : One a (p ^ k) t) : One a (p ^ (k + 1)) (t * p) := by
  unfold One at *
  have hp : (p : Int) ∣ a ^ t - 1 := by
    refine Int.dvd_trans ?_ h
    exact Int.natCast_dvd_natCast.mpr (Nat.dvd_trans ⟨1, by simp⟩ (Nat.pow_dvd_pow p (show 1 ≤ k from k1)))
  have g := geo_mod hp p
  have gd : (p : Int) ∣ geo (a ^ t) p := by
    have := Int.dvd_add g (Int.dvd_refl (p : Int))
    rwa [Int.sub_add_cancel] at this
  rw [Int.pow_mul, ← geo_mul, Nat.pow_succ, Int.natCast_mul]
  exact Int.mul_dvd_mul h gd
theorem euler_pp {a : Int} {p : Nat} (hp : Pr p) (g : Int.gcd a p = 1) : ∀ e : Nat, One a (p ^ (e + 1)) (p ^ e * (p - 1))
  | 0 => by rw [Nat.pow_zero, Nat.one_mul, Nat.zero_add, Nat.pow_one]; exact fermat hp g
  | e + 1 => by
    have := lift (Nat.succ_pos e) (euler_pp hp g e)
    rwa [show p ^ e * (p - 1) * p = p ^ (e + 1) * (p - 1) by rw [Nat.pow_succ]; grind] at this
theorem pp_cop {p : Nat} (hp : Pr p) {e : Nat} : ∀ {L : List (Nat × Nat)}, (∀ x ∈ L, Pr x.1 ∧ x.1 ≠ p) → Nat.gcd (p ^ e) (prodP L) = 1
  | [], _ => Nat.gcd_one_right _
  | x :: xs, h => by
    obtain ⟨h1, h2⟩ := h x List.mem_cons_self
    refine Nat.Coprime.mul_right (Nat.Coprime.pow e x.2 ?_) (pp_cop hp fun y hy => h y (List.mem_cons_of_mem _ hy))
    exact hp.cop fun d => by
      rcases h1.div p d with z | z
      · have := hp.two; omega
      · exact h2 z.symm
theorem one_prod {a : Int} {t : Nat} : ∀ {L : List (Nat × Nat)}, (∀ x ∈ L, Pr x.1) → L.Pairwise (fun x y => x.1 < y.1) → (∀ x ∈ L, One a (x.1 ^ x.2) t) → One a (prodP L) t
  | [], _, _, _ => by unfold One prodP; exact ⟨_, (Int.one_mul _).symm⟩
  | x :: xs, h, hs, ho => by
    have hs := List.pairwise_cons.mp hs
    have I := one_prod (fun y hy => h y (List.mem_cons_of_mem _ hy)) hs.2 fun y hy => ho y (List.mem_cons_of_mem _ hy)
    have g := pp_cop (h x List.mem_cons_self) (e := x.2) (L := xs) fun y hy => ⟨h y (List.mem_cons_of_mem _ hy), by have := hs.1 y hy; omega⟩
    unfold One at *
    have o1 := ho x List.mem_cons_self
    rw [Int.ofNat_dvd_left] at *
    exact Nat.Coprime.mul_dvd_of_dvd_of_dvd g o1 I
theorem phiP_dvd : ∀ {L : List (Nat × Nat)}, ∀ x ∈ L, x.1 ^ (x.2 - 1) * (x.1 - 1) ∣ phiP L
  | y :: ys, x, hx => by
    rcases List.mem_cons.mp hx with rfl | z
    · exact Nat.dvd_mul_right _ _
    · exact Nat.dvd_mul_left_of_dvd (phiP_dvd x z) _
theorem gcd_of_dvd {a : Int} {m n : Nat} (g : Int.gcd a m = 1) (d : n ∣ m) : Int.gcd a n = 1 := by
  have : Nat.gcd a.natAbs m = 1 := g
  exact Nat.Coprime.coprime_dvd_right d this
theorem dvd_prodP : ∀ {L : List (Nat × Nat)}, ∀ x ∈ L, x.1 ^ x.2 ∣ prodP L
  | y :: ys, x, hx => by
    rcases List.mem_cons.mp hx with rfl | z
    · exact Nat.dvd_mul_right _ _
    · exact Nat.dvd_mul_left_of_dvd (dvd_prodP x z) _
theorem euler {a : Int} {n : Nat} (n0 : 0 < n) (g : Int.gcd a n = 1) : One a n (phiF n) := by
  have O := parts_ok n0
  rw [phiF_eq n0]
  conv => arg 2; rw [← O.prod]
  refine one_prod (fun x hx => (O.pr x hx).1) O.sorted fun x hx => ?_
  obtain ⟨h1, h2, h3⟩ := O.pr x hx
  have d : x.1 ^ x.2 ∣ n := by
    have := dvd_prodP x hx
    rwa [O.prod] at this
  have gp : Int.gcd a x.1 = 1 := gcd_of_dvd g (Nat.dvd_trans (Nat.dvd_trans ⟨1, by simp⟩ (Nat.pow_dvd_pow x.1 (show 1 ≤ x.2 from h3))) d)
  have e := euler_pp h1 gp (x.2 - 1)
  rw [show x.2 - 1 + 1 = x.2 by omega] at e
  exact e.dvd (phiP_dvd x hx)
end MP

set_option linter.all false
set_option maxRecDepth 100000
set_option maxHeartbeats 1000000
namespace MT
/-- the state of the extended common divisor -/
structure TF (a b : Nat) (r0 : Nat) (x0 y0 : Int) (r1 : Nat) (x1 y1 : Int) : Prop where
  e0 : x0 * a + y0 * b = r0
  e1 : x1 * a + y1 * b = r1
  g : Nat.gcd r0 r1 = Nat.gcd a b
  sx : x0 * x1 ≤ 0
  sy : y0 * y1 ≤ 0
  bx : x1.natAbs * r0 + x0.natAbs * r1 = b
  by' : y1.natAbs * r0 + y0.natAbs * r1 = a
  kx : x0.natAbs ≤ b + 1 ∧ x1.natAbs ≤ b + 1
  ky : y0.natAbs ≤ a + 1 ∧ y1.natAbs ≤ a + 1
theorem tf_start (a b : Nat) : TF a b a 1 0 b 0 1 :=
  ⟨by omega, by omega, rfl, by decide, by decide, by simp, by simp, by simp, by simp⟩
theorem abs_step {x0 x1 : Int} (h : x0 * x1 ≤ 0) (q : Nat) : (x0 - q * x1).natAbs = x0.natAbs + q * x1.natAbs := by
  rcases Int.le_total 0 x0 with c | c
  · rcases Int.le_total 0 x1 with d | d
    · have : x0 = 0 ∨ x1 = 0 := by
        rcases Int.lt_or_eq_of_le c with c' | c'
        · rcases Int.lt_or_eq_of_le d with d' | d'
          · have := Int.mul_pos c' d'; omega
          · exact .inr d'.symm
        · exact .inl c'.symm
      rcases this with rfl | rfl
      · simp [Int.natAbs_mul]
      · simp
    · have e : (q : Int) * x1 ≤ 0 := by have := Int.mul_nonneg (show (0 : Int) ≤ q by omega) (show 0 ≤ -x1 by omega); rw [Int.mul_neg] at this; omega
      have f : ((q * x1.natAbs : Nat) : Int) = -(q * x1) := by rw [Int.natCast_mul, ← Int.mul_neg]; congr 1; omega
      omega
  · rcases Int.le_total 0 x1 with d | d
    · have e : 0 ≤ (q : Int) * x1 := Int.mul_nonneg (by omega) d
      have f : ((q * x1.natAbs : Nat) : Int) = q * x1 := by rw [Int.natCast_mul]; congr 1; omega
      omega
    · have : x0 = 0 ∨ x1 = 0 := by
        rcases Int.lt_or_eq_of_le c with c' | c'
        · rcases Int.lt_or_eq_of_le d with d' | d'
          · have := Int.mul_pos_of_neg_of_neg c' d'; omega
          · exact .inr d'
        · exact .inl c'
      rcases this with rfl | rfl
      · simp [Int.natAbs_mul]
      · simp
theorem sg_step {x0 x1 : Int} (h : x0 * x1 ≤ 0) (q : Nat) : x1 * (x0 - q * x1) ≤ 0 := by
  have : x1 * (x0 - q * x1) = x0 * x1 - q * (x1 * x1) := by grind
  rw [this]
  have s : 0 ≤ x1 * x1 := by
    rcases Int.le_total 0 x1 with c | c
    · exact Int.mul_nonneg c c
    · have := Int.mul_nonneg (show 0 ≤ -x1 by omega) (show 0 ≤ -x1 by omega); rwa [Int.neg_mul_neg] at this
  have := Int.mul_nonneg (show (0 : Int) ≤ q by omega) s
  omega
theorem tf_step {a b r0 r1 : Nat} {x0 y0 x1 y1 : Int} (I : TF a b r0 x0 y0 r1 x1 y1) (h : 0 < r1) :
    TF a b r1 x1 y1 (r0 % r1) (x0 - (r0 / r1 : Nat) * x1) (y0 - (r0 / r1 : Nat) * y1) ∧ ((r0 % r1 : Nat) : Int) = r0 - (r0 / r1 : Nat) * r1 := by
  have hd := Nat.div_add_mod r0 r1
  have e : ((r0 % r1 : Nat) : Int) = r0 - (r0 / r1 : Nat) * r1 := by
    have : ((r1 * (r0 / r1) + r0 % r1 : Nat) : Int) = r0 := by rw [hd]
    rw [Int.natCast_add, Int.natCast_mul] at this
    rw [Int.mul_comm]; omega
  have ax := abs_step I.sx (r0 / r1)
  have ay := abs_step I.sy (r0 / r1)
  have b1 : (x0 - (r0 / r1 : Nat) * x1).natAbs * r1 + x1.natAbs * (r0 % r1) = b := by
    rw [ax, ← I.bx]
    conv => rhs; arg 1; arg 2; rw [← hd]
    grind
  have b2 : (y0 - (r0 / r1 : Nat) * y1).natAbs * r1 + y1.natAbs * (r0 % r1) = a := by
    rw [ay, ← I.by']
    conv => rhs; arg 1; arg 2; rw [← hd]
    grind
  refine ⟨⟨I.e1, ?_, ?_, sg_step I.sx _, sg_step I.sy _, b1, b2, ⟨I.kx.2, ?_⟩, ⟨I.ky.2, ?_⟩⟩, e⟩
  · rw [e, ← I.e0, ← I.e1]; grind
  · rw [← I.g, Nat.gcd_comm r0 r1, Nat.gcd_rec r1 r0, Nat.gcd_comm]
  · have := Nat.le_mul_of_pos_right (x0 - (r0 / r1 : Nat) * x1).natAbs h
    omega
  · have := Nat.le_mul_of_pos_right (y0 - (r0 / r1 : Nat) * y1).natAbs h
    omega
end MT

set_option linter.all false
set_option maxRecDepth 100000
set_option maxHeartbeats 1000000
namespace MT
open MP
/-! orders put together -/
theorem dvd_mul_iff {o k t : Nat} (o0 : 0 < o) : o ∣ k * t ↔ o / Nat.gcd o k ∣ t := by
  have g0 : 0 < Nat.gcd o k := Nat.gcd_pos_of_pos_left k o0
  obtain ⟨a, ha⟩ := Nat.gcd_dvd_left o k
  obtain ⟨b, hb⟩ := Nat.gcd_dvd_right o k
  have c := Nat.coprime_div_gcd_div_gcd g0
  have e1 : o / Nat.gcd o k = a := Nat.div_eq_of_eq_mul_right g0 ha
  have e2 : k / Nat.gcd o k = b := Nat.div_eq_of_eq_mul_right g0 hb
  rw [e1, e2] at c
  rw [e1]
  have e3 : o ∣ k * t ↔ Nat.gcd o k * a ∣ Nat.gcd o k * (b * t) := by
    rw [← ha, ← Nat.mul_assoc, ← hb]
  rw [e3]
  constructor
  · intro h
    exact c.dvd_of_dvd_mul_left (Nat.dvd_of_mul_dvd_mul_left g0 h)
  · intro h
    exact Nat.mul_dvd_mul_left _ (Nat.dvd_mul_left_of_dvd h _)
theorem ord_pow {a : Int} {m o : Nat} (O : IsOrd a m o) (k : Nat) : IsOrd (a ^ k % m) m (o / Nat.gcd o k) := by
  refine IsOrd.of_iff ?_ fun t => ?_
  · exact Nat.div_pos (Nat.le_of_dvd O.pos (Nat.gcd_dvd_left o k)) (Nat.gcd_pos_of_pos_left k O.pos)
  · rw [one_mod, ← dvd_mul_iff O.pos, ← O.iff]
    unfold MP.One
    rw [Int.pow_mul]
theorem one_mulr {a c : Int} {m t : Nat} (h : (m : Int) ∣ c * a - 1) (hc : One c m t) : One a m t := by
  have h1 : One (c * a) m t := by
    have : One (c * a) m 1 := by unfold MP.One; rwa [Int.pow_one (c * a)]
    exact this.dvd (Nat.one_dvd t)
  unfold MP.One at *
  rw [Int.mul_pow] at h1
  have e : c ^ t * a ^ t - 1 = (c ^ t - 1) * a ^ t + (a ^ t - 1) := by grind
  rw [e] at h1
  exact (Int.dvd_add_right (Int.dvd_mul_of_dvd_left hc)).mp h1
theorem ord_inv {a c : Int} {m o : Nat} (O : IsOrd a m o) (h : (m : Int) ∣ c * a - 1) : IsOrd (c % m) m o := by
  refine IsOrd.of_iff O.pos fun t => ?_
  rw [one_mod, ← O.iff]
  exact ⟨one_mulr h, one_mulr (by rwa [Int.mul_comm])⟩
theorem one_prd {a b : Int} {m t : Nat} (ha : One a m t) : One (a * b) m t ↔ One b m t := by
  unfold MP.One at *
  rw [Int.mul_pow, show a ^ t * b ^ t - 1 = (a ^ t - 1) * b ^ t + (b ^ t - 1) by grind]
  exact Int.dvd_add_right (Int.dvd_mul_of_dvd_left ha)
theorem ord_mul {a b : Int} {m o p q : Nat} (O : IsOrd a m o) (P : IsOrd b m p) (Q : IsOrd (a * b) m q) : q ∣ Nat.lcm o p ∧ (Nat.gcd o p = 1 → q = o * p) := by
  constructor
  · rw [← Q.iff]
    exact (one_prd (O.one.dvd (Nat.dvd_lcm_left o p))).mpr (P.one.dvd (Nat.dvd_lcm_right o p))
  · intro g
    refine Nat.dvd_antisymm ((Q.iff _).mp ((one_prd (O.one.dvd (Nat.dvd_mul_right o p))).mpr (P.one.dvd (Nat.dvd_mul_left p o)))) ?_
    refine Nat.Coprime.mul_dvd_of_dvd_of_dvd g ?_ ?_
    · have h : One (b * a) m (q * p) := by rw [Int.mul_comm]; exact Q.one.dvd (Nat.dvd_mul_right q p)
      have h2 := (one_prd (P.one.dvd (Nat.dvd_mul_left p q))).mp h
      exact Nat.Coprime.dvd_of_dvd_mul_right g ((O.iff _).mp h2)
    · have h : One (a * b) m (q * o) := Q.one.dvd (Nat.dvd_mul_right q o)
      have h2 := (one_prd (O.one.dvd (Nat.dvd_mul_left o q))).mp h
      exact Nat.Coprime.dvd_of_dvd_mul_right (Nat.Coprime.symm g) ((P.iff _).mp h2)
theorem ord_lcm {a : Int} {m n o p : Nat} (O : IsOrd a m o) (P : IsOrd a n p) : IsOrd a (Nat.lcm m n) (Nat.lcm o p) := by
  refine IsOrd.of_iff (Nat.lcm_pos O.pos P.pos) fun t => ?_
  rw [Nat.lcm_dvd_iff, ← O.iff, ← P.iff]
  unfold MP.One
  rw [Int.ofNat_dvd_left, Int.ofNat_dvd_left, Int.ofNat_dvd_left, Nat.lcm_dvd_iff]
theorem ord_shift {a : Int} {m o : Nat} (O : IsOrd a m o) (d : Int) : IsOrd (a + m * d) m o := by
  refine IsOrd.of_iff O.pos fun t => ?_
  rw [← O.iff]
  exact one_congr (by rw [Int.add_mul_emod_self_left])
/-! the least power that leads all to one -/
def lamP (p e : Nat) : Nat := if p = 2 ∧ 2 < e then p ^ (e - 1) * (p - 1) / 2 else p ^ (e - 1) * (p - 1)
def lamL (L : List (Nat × Nat)) (f : Nat) : Nat := L.foldl (fun f x => f / Nat.gcd f (lamP x.1 x.2) * lamP x.1 x.2) f
def lamF (n : Nat) : Nat := lamL (partsF n) 1
theorem lcm_eq (a b : Nat) : a / Nat.gcd a b * b = Nat.lcm a b := by
  unfold Nat.lcm
  exact Nat.div_mul_right_comm (Nat.gcd_dvd_left a b) b
theorem lamL_dvd : ∀ (L : List (Nat × Nat)) (f : Nat), f ∣ lamL L f ∧ ∀ x ∈ L, lamP x.1 x.2 ∣ lamL L f
  | [], f => ⟨Nat.dvd_refl f, by simp⟩
  | x :: xs, f => by
    have e : lamL (x :: xs) f = lamL xs (Nat.lcm f (lamP x.1 x.2)) := by rw [← lcm_eq]; rfl
    obtain ⟨h1, h2⟩ := lamL_dvd xs (Nat.lcm f (lamP x.1 x.2))
    rw [e]
    refine ⟨Nat.dvd_trans (Nat.dvd_lcm_left _ _) h1, fun y hy => ?_⟩
    rcases List.mem_cons.mp hy with rfl | z
    · exact Nat.dvd_trans (Nat.dvd_lcm_right _ _) h1
    · exact h2 y z
theorem one_two {a : Int} (g : Int.gcd a (2 : Nat) = 1) : ∀ e : Nat, One a (2 ^ (e + 3)) (2 ^ (e + 1))
  | 0 => by
    unfold MP.One
    have odd : a % 2 = 1 := by
      rcases Int.emod_two_eq a with z | z
      · exfalso
        have : (2 : Int) ∣ (Int.gcd a (2 : Nat) : Int) := Int.dvd_coe_gcd (Int.dvd_of_emod_eq_zero z) (Int.dvd_refl 2)
        rw [g] at this
        exact absurd this (by decide)
      · exact z
    have h : a ^ (2 ^ (0 + 1)) = a * a := by
      rw [show 2 ^ (0 + 1) = 2 from rfl]; grind
    rw [h]
    have : a * a % 8 = 1 := by
      have h8 : a % 8 = 1 ∨ a % 8 = 3 ∨ a % 8 = 5 ∨ a % 8 = 7 := by omega
      rw [Int.mul_emod]
      rcases h8 with z | z | z | z <;> rw [z] <;> decide
    refine Int.dvd_of_emod_eq_zero ?_
    show (a * a - 1) % (8 : Int) = 0
    omega
  | e + 1 => by
    have := lift (p := 2) (k := e + 3) (by omega) (one_two g e)
    rwa [← Nat.pow_succ] at this
theorem lam_one {a : Int} {n : Nat} (n0 : 0 < n) (g : Int.gcd a n = 1) : One a n (lamF n) := by
  have O := parts_ok n0
  conv => arg 2; rw [← O.prod]
  refine one_prod (fun x hx => (O.pr x hx).1) O.sorted fun x hx => ?_
  obtain ⟨h1, h2, h3⟩ := O.pr x hx
  have d : x.1 ^ x.2 ∣ n := by
    have := dvd_prodP x hx
    rwa [O.prod] at this
  have gp : Int.gcd a x.1 = 1 := gcd_of_dvd g (Nat.dvd_trans (Nat.dvd_trans ⟨1, by simp⟩ (Nat.pow_dvd_pow x.1 (show 1 ≤ x.2 from h3))) d)
  refine One.dvd (s := lamP x.1 x.2) ?_ ((lamL_dvd (partsF n) 1).2 x hx)
  unfold lamP
  by_cases c : x.1 = 2 ∧ 2 < x.2
  · rw [if_pos c]
    obtain ⟨c1, c2⟩ := c
    rw [c1] at gp ⊢
    have := one_two gp (x.2 - 3)
    rw [show x.2 - 3 + 3 = x.2 by omega, show x.2 - 3 + 1 = x.2 - 2 by omega] at this
    rw [show 2 ^ (x.2 - 1) * (2 - 1) / 2 = 2 ^ (x.2 - 2) by
      rw [show x.2 - 1 = x.2 - 2 + 1 by omega, Nat.pow_succ]; omega]
    exact this
  · rw [if_neg c]
    have e := euler_pp h1 gp (x.2 - 1)
    rwa [show x.2 - 1 + 1 = x.2 by omega] at e
theorem lamP_pos {p e : Nat} (h : Pr p) : 0 < lamP p e := by
  have p2 := h.two
  unfold lamP
  split
  · rename_i c
    rw [c.1, show 2 ^ (e - 1) * (2 - 1) / 2 = 2 ^ (e - 2) by
      rw [show e - 1 = e - 2 + 1 by omega, Nat.pow_succ]; omega]
    exact Nat.pow_pos (by decide)
  · exact Nat.mul_pos (Nat.pow_pos (by omega)) (by omega)
theorem lamP_le {p e : Nat} : lamP p e ≤ p ^ (e - 1) * (p - 1) := by
  unfold lamP
  split
  · exact Nat.div_le_self _ _
  · exact Nat.le_refl _
theorem lamL_bd : ∀ (L : List (Nat × Nat)) (f : Nat), (∀ x ∈ L, Pr x.1) → 0 < f → 0 < lamL L f ∧ lamL L f ≤ f * phiP L
  | [], f, _, f0 => ⟨f0, by show f ≤ f * 1; omega⟩
  | x :: xs, f, h, f0 => by
    have hx := lamP_pos (e := x.2) (h x List.mem_cons_self)
    have e : lamL (x :: xs) f = lamL xs (Nat.lcm f (lamP x.1 x.2)) := by rw [← lcm_eq]; rfl
    obtain ⟨h1, h2⟩ := lamL_bd xs (Nat.lcm f (lamP x.1 x.2)) (fun y hy => h y (List.mem_cons_of_mem _ hy)) (Nat.lcm_pos f0 hx)
    rw [e]
    refine ⟨h1, Nat.le_trans h2 ?_⟩
    have a : Nat.lcm f (lamP x.1 x.2) ≤ f * (x.1 ^ (x.2 - 1) * (x.1 - 1)) := Nat.le_trans (Nat.le_of_dvd (Nat.mul_pos f0 hx) (Nat.lcm_dvd (Nat.dvd_mul_right _ _) (Nat.dvd_mul_left _ _))) (Nat.mul_le_mul_left _ lamP_le)
    show _ ≤ f * (x.1 ^ (x.2 - 1) * (x.1 - 1) * phiP xs)
    rw [← Nat.mul_assoc]
    exact Nat.mul_le_mul_right _ a
end MT

set_option linter.all false
set_option maxRecDepth 100000
set_option maxHeartbeats 1000000
namespace MJ
open MP
/-! products and sums over lists of numbers -/
def pr1 (f : Nat → Int) : List Nat → Int
  | [] => 1
  | x :: xs => f x * pr1 f xs
def sm (f : Nat → Nat) : List Nat → Nat
  | [] => 0
  | x :: xs => f x + sm f xs
theorem pr1_perm {f : Nat → Int} {l m : List Nat} (h : l.Perm m) : pr1 f l = pr1 f m := by
  induction h with
  | nil => rfl
  | cons x _ ih => show f x * _ = f x * _; rw [ih]
  | swap x y l => show f y * (f x * _) = f x * (f y * _); grind
  | trans _ _ a b => rw [a, b]
theorem pr1_mul (f g : Nat → Int) : ∀ l, pr1 (fun x => f x * g x) l = pr1 f l * pr1 g l
  | [] => rfl
  | x :: xs => by show f x * g x * pr1 _ xs = f x * pr1 f xs * (g x * pr1 g xs); rw [pr1_mul f g xs]; grind
theorem pr1_map (f : Nat → Int) (g : Nat → Nat) : ∀ l, pr1 f (l.map g) = pr1 (fun x => f (g x)) l
  | [] => rfl
  | x :: xs => by show f (g x) * pr1 f (xs.map g) = _; rw [pr1_map f g xs]; rfl
theorem pr1_congr {f g : Nat → Int} : ∀ {l : List Nat}, (∀ x ∈ l, f x = g x) → pr1 f l = pr1 g l
  | [], _ => rfl
  | x :: xs, h => by
    show f x * pr1 f xs = g x * pr1 g xs
    rw [h x List.mem_cons_self, pr1_congr fun y hy => h y (List.mem_cons_of_mem _ hy)]
theorem pr1_sq {f : Nat → Int} : ∀ {l : List Nat}, (∀ x ∈ l, f x * f x = 1) → pr1 f l * pr1 f l = 1
  | [], _ => rfl
  | x :: xs, h => by
    have a := h x List.mem_cons_self
    have b := pr1_sq fun y hy => h y (List.mem_cons_of_mem _ hy)
    show f x * pr1 f xs * (f x * pr1 f xs) = 1
    rw [show f x * pr1 f xs * (f x * pr1 f xs) = (f x * f x) * (pr1 f xs * pr1 f xs) by grind, a, b]; rfl
theorem pr1_append (f : Nat → Int) : ∀ l m, pr1 f (l ++ m) = pr1 f l * pr1 f m
  | [], m => by show _ = 1 * _; rw [Int.one_mul]; rfl
  | x :: xs, m => by show f x * pr1 f (xs ++ m) = f x * pr1 f xs * pr1 f m; rw [pr1_append f xs m, Int.mul_assoc]
theorem pr1_one : ∀ {l : List Nat} {f : Nat → Int}, (∀ x ∈ l, f x = 1) → pr1 f l = 1
  | [], _, _ => rfl
  | x :: xs, f, h => by
    show f x * pr1 f xs = 1
    rw [h x List.mem_cons_self, pr1_one fun y hy => h y (List.mem_cons_of_mem _ hy)]; rfl
/-- the sign of a parity -/
def e (k : Nat) : Int := if k % 2 = 0 then 1 else -1
theorem e_add (j k : Nat) : e (j + k) = e j * e k := by
  unfold e
  rcases Nat.mod_two_eq_zero_or_one j with a | a <;> rcases Nat.mod_two_eq_zero_or_one k with b | b <;> rw [Nat.add_mod, a, b] <;> decide
theorem e_sq (k : Nat) : e k * e k = 1 := by
  unfold e; split <;> decide
theorem e_congr {j k : Nat} (h : j % 2 = k % 2) : e j = e k := by unfold e; rw [h]
theorem pr1_neg : ∀ {l : List Nat} {f : Nat → Int}, (∀ x ∈ l, f x = -1) → pr1 f l = e l.length
  | [], _, _ => rfl
  | x :: xs, f, h => by
    show f x * pr1 f xs = e (xs.length + 1)
    rw [h x List.mem_cons_self, pr1_neg fun y hy => h y (List.mem_cons_of_mem _ hy), e_add]
    show -1 * e xs.length = e xs.length * -1
    omega
theorem pr1_e (q : Nat → Nat) : ∀ l, pr1 (fun x => e (q x)) l = e (sm q l)
  | [] => rfl
  | x :: xs => by show e (q x) * _ = e (q x + sm q xs); rw [e_add, pr1_e q xs]
theorem rng_mem {h x : Nat} : x ∈ List.range' 1 h ↔ 1 ≤ x ∧ x ≤ h := by rw [List.mem_range'_1]; omega
theorem rng_split {c h : Nat} (l : c ≤ h) : List.range' 1 h = List.range' 1 c ++ List.range' (1 + c) (h - c) := by
  obtain ⟨d, rfl⟩ := Nat.exists_eq_add_of_le l
  rw [show c + d - c = d by omega]
  have := (List.range'_append (s := 1) (m := c) (n := d) (step := 1)).symm
  rwa [Nat.one_mul] at this
theorem perm_sub : ∀ {l m : List Nat}, l.Nodup → (∀ x ∈ l, x ∈ m) → m.length ≤ l.length → l.Perm m
  | [], m, _, _, hl => by
    have : m = [] := List.eq_nil_of_length_eq_zero (Nat.le_zero.mp hl)
    subst this; exact .nil
  | x :: xs, m, nd, hs, hl => by
    have hx := hs x List.mem_cons_self
    have nd := List.nodup_cons.mp nd
    have p := List.perm_cons_erase hx
    refine List.Perm.trans (List.Perm.cons x (perm_sub nd.2 (fun y hy => ?_) ?_)) p.symm
    · exact (List.mem_erase_of_ne (fun q => nd.1 (by rw [← q]; exact hy))).mpr (hs y (List.mem_cons_of_mem _ hy))
    · rw [List.length_erase_of_mem hx]
      have : (x :: xs).length = xs.length + 1 := rfl
      omega
/-! least rests of both signs -/
def ar (n r : Nat) : Nat := if 2 * (r % n) < n then r % n else n - r % n
def sg (n r : Nat) : Int := if 2 * (r % n) < n then 1 else -1
def G (a h : Nat) : Int := pr1 (fun x => sg (2 * h + 1) (a * x)) (List.range' 1 h)
theorem sg_sq (n r : Nat) : sg n r * sg n r = 1 := by unfold sg; split <;> decide
theorem G_sq (a h : Nat) : G a h * G a h = 1 := pr1_sq fun x _ => sg_sq _ _
theorem nz {a n x : Nat} (g : Nat.gcd a n = 1) (x0 : 0 < x) (xn : x < n) : a * x % n ≠ 0 := fun z => by
  have d : n ∣ a * x := Nat.dvd_of_mod_eq_zero z
  have d2 : n ∣ x := Nat.Coprime.dvd_of_dvd_mul_left (by rw [Nat.Coprime, Nat.gcd_comm]; exact g) d
  have := Nat.le_of_dvd x0 d2
  omega
theorem ar_rng {h r : Nat} (z : r % (2 * h + 1) ≠ 0) : 1 ≤ ar (2 * h + 1) r ∧ ar (2 * h + 1) r ≤ h := by
  have := Nat.mod_lt r (show 0 < 2 * h + 1 by omega)
  unfold ar
  split <;> omega
theorem ar_perm {a h : Nat} (g : Nat.gcd a (2 * h + 1) = 1) : ((List.range' 1 h).map fun x => ar (2 * h + 1) (a * x)).Perm (List.range' 1 h) := by
  refine perm_sub ?_ (fun y hy => ?_) (by rw [List.length_map]; exact Nat.le_refl _)
  · refine List.Pairwise.map _ (R := fun x y => x ≠ y ∧ x ∈ List.range' 1 h ∧ y ∈ List.range' 1 h) ?_ ?_
    · rintro x y ⟨h1, h2, h3⟩ q
      have h2 := rng_mem.mp h2
      have h3 := rng_mem.mp h3
      have lx := Nat.mod_lt (a * x) (show 0 < 2 * h + 1 by omega)
      have ly := Nat.mod_lt (a * y) (show 0 < 2 * h + 1 by omega)
      have same : a * x % (2 * h + 1) = a * y % (2 * h + 1) → False := fun q => h1 (mul_inj g (by omega) (by omega) q)
      have opp : a * x % (2 * h + 1) + a * y % (2 * h + 1) = 2 * h + 1 → False := fun q => by
        refine nz g (x := x + y) (by omega) (by omega) ?_
        rw [Nat.mul_add, Nat.add_mod, q, Nat.mod_self]
      unfold ar at q
      split at q <;> split at q
      · exact same q
      · exact opp (by omega)
      · exact opp (by omega)
      · exact same (by omega)
    · have : (List.range' 1 h).Nodup := List.nodup_range'
      exact List.Pairwise.imp_of_mem (fun hx hy hn => ⟨hn, hx, hy⟩) this
  · obtain ⟨x, hx, rfl⟩ := List.mem_map.mp hy
    have hx := rng_mem.mp hx
    exact rng_mem.mpr (ar_rng (nz g (by omega) (by omega)))
theorem sg_mod (n r : Nat) : sg n (r % n) = sg n r := by unfold sg; rw [Nat.mod_mod]
theorem sg_mul {a b h x : Nat} (ga : Nat.gcd a (2 * h + 1) = 1) (gb : Nat.gcd b (2 * h + 1) = 1) (hx : 1 ≤ x ∧ x ≤ h) :
    sg (2 * h + 1) (a * b * x) = sg (2 * h + 1) (b * x) * sg (2 * h + 1) (a * ar (2 * h + 1) (b * x)) := by
  have l := Nat.mod_lt (b * x) (show 0 < 2 * h + 1 by omega)
  have z := nz gb (x := x) (by omega) (by omega)
  have e1 : a * b * x % (2 * h + 1) = a * (b * x % (2 * h + 1)) % (2 * h + 1) := by
    rw [Nat.mul_assoc, Nat.mul_mod, ← Nat.mod_mod (b * x) (2 * h + 1), ← Nat.mul_mod, Nat.mod_mod]
  rw [← sg_mod, e1, sg_mod]
  generalize b * x = bx at *
  unfold ar
  by_cases c : 2 * (bx % (2 * h + 1)) < 2 * h + 1
  · rw [if_pos c]
    have : sg (2 * h + 1) bx = 1 := if_pos c
    rw [this, Int.one_mul]
  · rw [if_neg c]
    have : sg (2 * h + 1) bx = -1 := if_neg c
    rw [this]
    generalize bx % (2 * h + 1) = r at *
    have z2 := nz ga (x := r) (by omega) (by omega)
    have l2 := Nat.mod_lt (a * r) (show 0 < 2 * h + 1 by omega)
    have e2 : a * (2 * h + 1 - r) % (2 * h + 1) = 2 * h + 1 - a * r % (2 * h + 1) := by
      have s1 : (a * (2 * h + 1 - r) + a * r) % (2 * h + 1) = 0 := by
        rw [← Nat.mul_add, show 2 * h + 1 - r + r = 2 * h + 1 by omega, Nat.mul_mod_left]
      rw [Nat.add_mod] at s1
      have l3 := Nat.mod_lt (a * (2 * h + 1 - r)) (show 0 < 2 * h + 1 by omega)
      have d := Nat.dvd_of_mod_eq_zero s1
      obtain ⟨k, hk⟩ := d
      have k1 : k = 1 := by
        rcases k with _ | _ | k
        · omega
        · rfl
        · have : (2 * h + 1) * (k + 1 + 1) = (2 * h + 1) * k + 2 * (2 * h + 1) := by rw [Nat.mul_add, Nat.mul_add]; omega
          omega
      subst k1; omega
    unfold sg
    rw [e2]
    split <;> split <;> first | rfl | omega
theorem G_mul {a b h : Nat} (ga : Nat.gcd a (2 * h + 1) = 1) (gb : Nat.gcd b (2 * h + 1) = 1) : G (a * b) h = G a h * G b h := by
  unfold G
  rw [pr1_congr fun x hx => sg_mul ga gb (rng_mem.mp hx), pr1_mul, ← pr1_map (fun y => sg (2 * h + 1) (a * y)) (fun x => ar (2 * h + 1) (b * x)), pr1_perm (ar_perm gb), Int.mul_comm]
theorem G_mod (a h : Nat) : G (a % (2 * h + 1)) h = G a h := pr1_congr fun x _ => by
  rw [← sg_mod, ← sg_mod _ (a * x)]
  congr 1
  rw [Nat.mul_mod, Nat.mod_mod, ← Nat.mul_mod]
theorem G_one (h : Nat) : G 1 h = 1 := pr1_one fun x hx => by
  have := rng_mem.mp hx
  rw [Nat.one_mul]
  unfold sg
  rw [Nat.mod_eq_of_lt (by omega), if_pos (by omega)]
theorem G_two (h : Nat) : G 2 h = e (h - h / 2) := by
  unfold G
  have h1 : pr1 (fun x => sg (2 * h + 1) (2 * x)) (List.range' 1 (h / 2)) = 1 := pr1_one fun x hx => by
    have := rng_mem.mp hx
    unfold sg
    rw [Nat.mod_eq_of_lt (by omega), if_pos (by omega)]
  have h2 : pr1 (fun x => sg (2 * h + 1) (2 * x)) (List.range' (1 + h / 2) (h - h / 2)) = e (List.range' (1 + h / 2) (h - h / 2)).length := pr1_neg fun x hx => by
    rw [List.mem_range'_1] at hx
    unfold sg
    rw [Nat.mod_eq_of_lt (by omega), if_neg (by omega)]
  rw [rng_split (show h / 2 ≤ h by omega), pr1_append, h1, h2, Int.one_mul, List.length_range']
theorem G_neg (h : Nat) : G (2 * h) h = e h := by
  unfold G
  rw [pr1_neg fun x hx => ?_, List.length_range']
  have hx := rng_mem.mp hx
  have e2 : 2 * h * x % (2 * h + 1) = 2 * h + 1 - x := by
    have : 2 * h * x = (2 * h + 1 - x) + (2 * h + 1) * (x - 1) := by
      obtain ⟨y, rfl⟩ : ∃ y, x = y + 1 := ⟨x - 1, by omega⟩
      rw [show y + 1 - 1 = y by omega, Nat.mul_add, Nat.add_mul]; omega
    rw [this, Nat.add_mul_mod_self_left, Nat.mod_eq_of_lt (by omega)]
  unfold sg
  rw [e2, if_neg (by omega)]
/-! Eisenstein -/
theorem e_step {a h x : Nat} (oa : a % 2 = 1) : e x = e (a * x / (2 * h + 1)) * (e (ar (2 * h + 1) (a * x)) * sg (2 * h + 1) (a * x)) := by
  have dm := Nat.div_add_mod (a * x) (2 * h + 1)
  have l := Nat.mod_lt (a * x) (show 0 < 2 * h + 1 by omega)
  have p1 : (a * x) % 2 = x % 2 := by rw [Nat.mul_mod, oa, Nat.one_mul, Nat.mod_mod]
  have p2 : ((2 * h + 1) * (a * x / (2 * h + 1))) % 2 = (a * x / (2 * h + 1)) % 2 := by rw [Nat.mul_mod, show (2 * h + 1) % 2 = 1 by omega, Nat.one_mul, Nat.mod_mod]
  have ex : e x = e (a * x / (2 * h + 1)) * e (a * x % (2 * h + 1)) := by
    rw [← e_add]; exact e_congr (by omega)
  rw [ex]
  congr 1
  unfold ar sg
  split
  · rw [Int.mul_one]
  · have : e (a * x % (2 * h + 1)) = e (2 * h + 1 - a * x % (2 * h + 1) + 1) := e_congr (by omega)
    rw [this, e_add]; rfl
def Fl (a h : Nat) : Nat := sm (fun x => a * x / (2 * h + 1)) (List.range' 1 h)
theorem G_floor {a h : Nat} (oa : a % 2 = 1) (g : Nat.gcd a (2 * h + 1) = 1) : G a h = e (Fl a h) := by
  have h1 : pr1 e (List.range' 1 h) = e (Fl a h) * (pr1 e (List.range' 1 h) * G a h) := by
    have : pr1 e (List.range' 1 h) = pr1 (fun x => e (a * x / (2 * h + 1)) * (e (ar (2 * h + 1) (a * x)) * sg (2 * h + 1) (a * x))) (List.range' 1 h) := pr1_congr fun x _ => e_step oa
    rw [pr1_mul, pr1_e (fun x => a * x / (2 * h + 1)), pr1_mul, ← pr1_map e (fun x => ar (2 * h + 1) (a * x)), pr1_perm (ar_perm g)] at this
    exact this
  have s1 := pr1_sq (f := e) (l := List.range' 1 h) fun x _ => e_sq x
  have s2 := G_sq a h
  have s3 := e_sq (Fl a h)
  generalize pr1 e (List.range' 1 h) = z at *
  generalize G a h = u at *
  generalize e (Fl a h) = v at *
  have : z * z = v * u := by
    rw [show z * z = (v * (z * u)) * z by rw [← h1], show v * (z * u) * z = (v * u) * (z * z) by grind, s1]; omega
  rw [s1] at this
  have h3 : v * 1 = v * (v * u) := by rw [this]
  rw [← Int.mul_assoc, s3] at h3
  omega
/-! counting the lattice -/
theorem sm_add (f g : Nat → Nat) : ∀ l, sm (fun x => f x + g x) l = sm f l + sm g l
  | [] => rfl
  | x :: xs => by show f x + g x + sm _ xs = f x + sm f xs + (g x + sm g xs); rw [sm_add f g xs]; omega
theorem sm_congr {f g : Nat → Nat} : ∀ {l : List Nat}, (∀ x ∈ l, f x = g x) → sm f l = sm g l
  | [], _ => rfl
  | x :: xs, h => by
    show f x + sm f xs = g x + sm g xs
    rw [h x List.mem_cons_self, sm_congr fun y hy => h y (List.mem_cons_of_mem _ hy)]
theorem sm_const (c : Nat) : ∀ l : List Nat, sm (fun _ => c) l = c * l.length
  | [] => rfl
  | x :: xs => by show c + sm _ xs = c * (xs.length + 1); rw [sm_const c xs, Nat.mul_add]; omega
theorem sm_swap (f : Nat → Nat → Nat) : ∀ l m, sm (fun x => sm (fun y => f x y) m) l = sm (fun y => sm (fun x => f x y) l) m
  | [], m => by
    have : sm (fun _ => 0) m = 0 := by rw [sm_const, Nat.zero_mul]
    exact this.symm
  | x :: xs, m => by
    show sm (fun y => f x y) m + sm _ xs = sm (fun y => f x y + sm (fun x => f x y) xs) m
    rw [sm_swap f xs m, sm_add]
theorem sm_le {c k : Nat} (h : c ≤ k) : sm (fun y => if y ≤ c then 1 else 0) (List.range' 1 k) = c := by
  have app : ∀ (f : Nat → Nat) (l m : List Nat), sm f (l ++ m) = sm f l + sm f m := fun f l m => by
    induction l with
    | nil => show _ = 0 + _; rw [Nat.zero_add]; rfl
    | cons x xs ih => show f x + sm f (xs ++ m) = f x + sm f xs + sm f m; rw [ih]; omega
  rw [rng_split h, app, sm_congr (g := fun _ => 1) fun x hx => if_pos (rng_mem.mp hx).2, sm_const, sm_congr (g := fun _ => 0) fun x hx => if_neg (by rw [List.mem_range'_1] at hx; omega), sm_const, List.length_range']
  omega
theorem fl_count {a h k x : Nat} (ha : a = 2 * k + 1) (g : Nat.gcd a (2 * h + 1) = 1) (hx : 1 ≤ x ∧ x ≤ h) : a * x / (2 * h + 1) = sm (fun y => if (2 * h + 1) * y < a * x then 1 else 0) (List.range' 1 k) := by
  have hz := nz g (x := x) (by omega) (by omega)
  have b : a * x / (2 * h + 1) ≤ k := by
    have h1 : a * x < (2 * h + 1) * (k + 1) := by
      have : a * x ≤ a * h := Nat.mul_le_mul_left _ hx.2
      have e1 : a * h = 2 * (k * h) + h := by rw [ha, Nat.add_mul, Nat.mul_assoc]; omega
      have e2 : (2 * h + 1) * (k + 1) = 2 * (k * h) + 2 * h + k + 1 := by rw [Nat.add_mul, Nat.mul_add, Nat.mul_comm k h, Nat.mul_assoc]; omega
      omega
    have := Nat.div_lt_of_lt_mul h1
    omega
  rw [← sm_le b]
  have : a * x / (2 * h + 1) = sm (fun y => if y ≤ a * x / (2 * h + 1) then 1 else 0) (List.range' 1 k) := (sm_le b).symm
  rw [sm_le b, this]
  refine sm_congr fun y hy => ?_
  have iff : y ≤ a * x / (2 * h + 1) ↔ (2 * h + 1) * y < a * x := by
    rw [Nat.le_div_iff_mul_le (by omega), Nat.mul_comm y]
    constructor
    · intro q
      rcases Nat.lt_or_eq_of_le q with c | c
      · exact c
      · exact absurd (by rw [← c]; exact Nat.mul_mod_right _ _) hz
    · exact Nat.le_of_lt
  by_cases c : y ≤ a * x / (2 * h + 1)
  · rw [if_pos c, if_pos (iff.mp c)]
  · rw [if_neg c, if_neg fun q => c (iff.mpr q)]
theorem lattice {h k : Nat} (g : Nat.gcd (2 * k + 1) (2 * h + 1) = 1) : Fl (2 * k + 1) h + Fl (2 * h + 1) k = h * k := by
  have g' : Nat.gcd (2 * h + 1) (2 * k + 1) = 1 := by rw [Nat.gcd_comm]; exact g
  unfold Fl
  rw [sm_congr fun x hx => fl_count rfl g (rng_mem.mp hx), sm_congr fun y hy => fl_count rfl g' (rng_mem.mp hy)]
  rw [sm_swap, ← sm_add]
  have : sm (fun y => sm (fun x => if (2 * h + 1) * y < (2 * k + 1) * x then 1 else 0) (List.range' 1 h) + sm (fun x => if (2 * k + 1) * x < (2 * h + 1) * y then 1 else 0) (List.range' 1 h)) (List.range' 1 k) = sm (fun _ => h) (List.range' 1 k) := by
    refine sm_congr fun y hy => ?_
    rw [← sm_add]
    have : sm (fun x => (if (2 * h + 1) * y < (2 * k + 1) * x then 1 else 0) + (if (2 * k + 1) * x < (2 * h + 1) * y then 1 else 0)) (List.range' 1 h) = sm (fun _ => 1) (List.range' 1 h) := by
      refine sm_congr fun x hx => ?_
      have hx := rng_mem.mp hx
      have hz := nz g (x := x) (by omega) (by omega)
      have ne : (2 * h + 1) * y ≠ (2 * k + 1) * x := fun q => hz (by rw [← q]; exact Nat.mul_mod_right _ _)
      split <;> split <;> omega
    rw [this, sm_const, List.length_range', Nat.one_mul]
  rw [this, sm_const, List.length_range']
theorem G_rec {h k : Nat} (g : Nat.gcd (2 * k + 1) (2 * h + 1) = 1) : G (2 * k + 1) h = e (h * k) * G (2 * h + 1) k := by
  have g' : Nat.gcd (2 * h + 1) (2 * k + 1) = 1 := by rw [Nat.gcd_comm]; exact g
  rw [G_floor (by omega) g, G_floor (by omega) g', ← lattice g, e_add, Int.mul_assoc, e_sq, Int.mul_one]
/-! the symbol -/
def J (a n : Nat) : Int := if Nat.gcd a n = 1 then G a (n / 2) else 0
def chi (n : Nat) : Int := if n % 8 = 3 ∨ n % 8 = 5 then -1 else 1
def sr (a n : Nat) : Int := if a % 4 = 3 ∧ n % 4 = 3 then -1 else 1
theorem half {n : Nat} (o : n % 2 = 1) : 2 * (n / 2) + 1 = n := by omega
theorem J_mod {a n : Nat} (o : n % 2 = 1) : J (a % n) n = J a n := by
  unfold J
  have e1 : Nat.gcd (a % n) n = Nat.gcd a n := by rw [Nat.gcd_comm a n, Nat.gcd_rec n a]
  have := G_mod a (n / 2)
  rw [half o] at this
  by_cases c : Nat.gcd a n = 1
  · rw [if_pos c, if_pos (e1.trans c), this]
  · rw [if_neg c, if_neg fun q => c (e1.symm.trans q)]
theorem J_mul {a b n : Nat} (o : n % 2 = 1) : J (a * b) n = J a n * J b n := by
  unfold J
  by_cases ca : Nat.gcd a n = 1
  · by_cases cb : Nat.gcd b n = 1
    · rw [if_pos ca, if_pos cb, if_pos (Nat.Coprime.mul_left ca cb)]
      exact G_mul (by rw [half o]; exact ca) (by rw [half o]; exact cb)
    · rw [if_neg cb, if_neg fun q => cb (Nat.Coprime.coprime_dvd_left (Nat.dvd_mul_left b a) q), Int.mul_zero]
  · rw [if_neg ca, if_neg fun q => ca (Nat.Coprime.coprime_dvd_left (Nat.dvd_mul_right a b) q), Int.zero_mul]
theorem cop_two {n : Nat} (o : n % 2 = 1) : Nat.gcd 2 n = 1 := by
  rw [Nat.gcd_rec, o]; rfl
theorem J_two {n : Nat} (o : n % 2 = 1) : J 2 n = chi n := by
  unfold J
  rw [if_pos (cop_two o), G_two]
  unfold e chi
  split <;> split <;> first | rfl | omega
theorem J_rec {a n : Nat} (oa : a % 2 = 1) (o : n % 2 = 1) : J a n = sr a n * J n a := by
  unfold J
  by_cases c : Nat.gcd a n = 1
  · rw [if_pos c, if_pos (by rw [Nat.gcd_comm]; exact c)]
    have := G_rec (h := n / 2) (k := a / 2) (by rw [half o, half oa]; exact c)
    rw [half o, half oa] at this
    rw [this]
    congr 1
    unfold e sr
    have p : (n / 2 * (a / 2)) % 2 = ((n / 2) % 2) * ((a / 2) % 2) % 2 := Nat.mul_mod ..
    rcases Nat.mod_two_eq_zero_or_one (n / 2) with x | x <;> rcases Nat.mod_two_eq_zero_or_one (a / 2) with y | y <;> rw [x, y] at p <;> split <;> split <;> first | rfl | omega
  · rw [if_neg c, if_neg (fun q => c (by rw [Nat.gcd_comm]; exact q)), Int.mul_zero]
theorem J_zero {n : Nat} : J 0 n = if n = 1 then 1 else 0 := by
  unfold J
  by_cases c : n = 1
  · subst c; rfl
  · rw [if_neg c, if_neg (by rw [Nat.gcd_zero_left]; exact c)]
theorem J_one {n : Nat} : J 1 n = 1 := by
  unfold J
  rw [if_pos (Nat.gcd_one_left n), G_one]
theorem J_den1 (a : Nat) : J a 1 = 1 := by
  unfold J
  rw [if_pos (Nat.gcd_one_right a)]; rfl
theorem J_sq (a n : Nat) : J a n * J a n = if Nat.gcd a n = 1 then 1 else 0 := by
  unfold J
  split
  · exact G_sq _ _
  · rfl
theorem J_neg {n : Nat} (o : n % 2 = 1) : J (n - 1) n = if n % 4 = 1 then 1 else -1 := by
  have g : Nat.gcd (n - 1) n = 1 := by
    have h : Nat.gcd (n - 1) n ∣ 1 := by
      have := Nat.dvd_sub (Nat.gcd_dvd_right (n - 1) n) (Nat.gcd_dvd_left (n - 1) n)
      rwa [show n - (n - 1) = 1 by omega] at this
    exact Nat.dvd_one.mp h
  unfold J
  rw [if_pos g, show n - 1 = 2 * (n / 2) by omega, G_neg]
  unfold e
  split <;> split <;> first | rfl | omega
theorem J_range (a n : Nat) : J a n = 0 ∨ J a n = 1 ∨ J a n = -1 := by
  have := J_sq a n
  by_cases c : Nat.gcd a n = 1
  · rw [if_pos c] at this
    have : (J a n - 1) * (J a n + 1) = 0 := by
      rw [show (J a n - 1) * (J a n + 1) = J a n * J a n - 1 by grind]; omega
    rcases Int.mul_eq_zero.mp this with x | x <;> omega
  · left
    unfold J; rw [if_neg c]
theorem sr_mul {a m n : Nat} (oa : a % 2 = 1) (om : m % 2 = 1) (o : n % 2 = 1) : sr a (m * n) = sr a m * sr a n := by
  unfold sr
  have p : m * n % 4 = (m % 4) * (n % 4) % 4 := Nat.mul_mod ..
  have a4 : a % 4 = 1 ∨ a % 4 = 3 := by omega
  have m4 : m % 4 = 1 ∨ m % 4 = 3 := by omega
  have n4 : n % 4 = 1 ∨ n % 4 = 3 := by omega
  rcases a4 with x | x <;> rcases m4 with y | y <;> rcases n4 with z | z <;> rw [p, x, y, z] <;> decide
theorem J_den {a m n : Nat} (om : m % 2 = 1) (o : n % 2 = 1) : J a (m * n) = J a m * J a n := by
  have odd : ∀ a, a % 2 = 1 → J a (m * n) = J a m * J a n := fun a oa => by
    have omn : m * n % 2 = 1 := by rw [Nat.mul_mod, om, o]
    rw [J_rec oa omn, J_mul oa, sr_mul oa om o, J_rec oa om, J_rec oa o]; grind
  by_cases oa : a % 2 = 1
  · exact odd a oa
  · have omn : m * n % 2 = 1 := by rw [Nat.mul_mod, om, o]
    have h := odd (a + m * n) (by omega)
    rw [← J_mod omn, Nat.add_mod_right, J_mod omn, ← J_mod om, Nat.add_mul_mod_self_left, J_mod om, ← J_mod (a := a + m * n) o, Nat.add_mul_mod_self_right, J_mod o] at h
    exact h
end MJ

set_option linter.all false
set_option maxRecDepth 100000
set_option maxHeartbeats 1000000
namespace MJ
open MP
/-! squares by a prime -/
theorem len_sub : ∀ {l m : List Nat}, l.Nodup → (∀ x ∈ l, x ∈ m) → l.length ≤ m.length
  | [], m, _, _ => Nat.zero_le _
  | x :: xs, m, nd, hs => by
    have hx := hs x List.mem_cons_self
    have nd := List.nodup_cons.mp nd
    have I := len_sub (m := m.erase x) nd.2 fun y hy => (List.mem_erase_of_ne (fun q => nd.1 (by rw [← q]; exact hy))).mpr (hs y (List.mem_cons_of_mem _ hy))
    rw [List.length_erase_of_mem hx] at I
    have : 0 < m.length := List.length_pos_of_mem hx
    show xs.length + 1 ≤ _
    omega
theorem part_len (f g : Nat → Bool) : ∀ l : List Nat, (∀ x ∈ l, f x = true → g x = true → False) → (l.filter f).length + (l.filter g).length ≤ l.length
  | [], _ => Nat.le_refl _
  | x :: xs, h => by
    have I := part_len f g xs fun y hy => h y (List.mem_cons_of_mem _ hy)
    have hx := h x List.mem_cons_self
    rw [List.filter_cons, List.filter_cons]
    show _ ≤ xs.length + 1
    cases a : f x <;> cases b : g x
    · simp; omega
    · simp; omega
    · simp; omega
    · exact (hx a b).elim
theorem odd_of {p : Nat} (hp : Pr p) (p3 : 3 ≤ p) : p % 2 = 1 := by
  rcases Nat.mod_two_eq_zero_or_one p with h | h
  · rcases hp.div 2 (Nat.dvd_of_mod_eq_zero h) with z | z <;> omega
  · exact h
theorem cop_lt {p x : Nat} (hp : Pr p) (x0 : 0 < x) (xp : x < p) : Nat.gcd x p = 1 := by
  rw [Nat.gcd_comm]
  exact hp.cop fun d => by have := Nat.le_of_dvd x0 d; omega
theorem J_root {p a c : Nat} (hp : Pr p) (p3 : 3 ≤ p) (hc : J c p = -1) (ha : J a p = 1) : ∃ x, 1 ≤ x ∧ x ≤ p / 2 ∧ x * x % p = a % p := by
  have o := odd_of hp p3
  have hh := half o
  let S := (List.range' 1 (2 * (p / 2))).filter fun x => decide (J x p = 1)
  let N := (List.range' 1 (2 * (p / 2))).filter fun x => decide (J x p = -1)
  let Q := (List.range' 1 (p / 2)).map fun x => x * x % p
  have mS : ∀ x, x ∈ S ↔ (1 ≤ x ∧ x ≤ 2 * (p / 2)) ∧ J x p = 1 := fun x => by
    show x ∈ List.filter _ _ ↔ _
    rw [List.mem_filter, rng_mem, decide_eq_true_iff]
  have mN : ∀ x, x ∈ N ↔ (1 ≤ x ∧ x ≤ 2 * (p / 2)) ∧ J x p = -1 := fun x => by
    show x ∈ List.filter _ _ ↔ _
    rw [List.mem_filter, rng_mem, decide_eq_true_iff]
  have nS : S.Nodup := List.Pairwise.sublist List.filter_sublist List.nodup_range'
  have rg : ∀ x, J x p ≠ 0 → x % p ≠ 0 := fun x h z => h (by
    rw [← J_mod o, z, J_zero, if_neg (by omega)])
  have gc : Nat.gcd c p = 1 := by
    refine Decidable.byContradiction fun z => ?_
    unfold J at hc
    rw [if_neg z] at hc; omega
  have SN : S.length ≤ N.length := by
    have nd : (S.map fun x => c * x % p).Nodup := by
      refine List.Pairwise.map _ (R := fun x y => x ≠ y ∧ x ∈ S ∧ y ∈ S) ?_ ?_
      · rintro x y ⟨h1, h2, h3⟩ q
        have h2 := (mS x).mp h2
        have h3 := (mS y).mp h3
        exact h1 (mul_inj gc (by omega) (by omega) q)
      · exact List.Pairwise.imp_of_mem (fun hx hy hn => ⟨hn, hx, hy⟩) nS
    have := len_sub (m := N) nd fun y hy => by
      obtain ⟨x, hx, rfl⟩ := List.mem_map.mp hy
      have hx := (mS x).mp hx
      have jc : J (c * x % p) p = -1 := by rw [J_mod o, J_mul o, hc, hx.2]; rfl
      have z := rg (c * x % p) (by rw [jc]; decide)
      rw [Nat.mod_mod] at z
      have := Nat.mod_lt (c * x) (show 0 < p by omega)
      exact (mN _).mpr ⟨⟨by omega, by omega⟩, jc⟩
    rwa [List.length_map] at this
  have both := part_len (fun x => decide (J x p = 1)) (fun x => decide (J x p = -1)) (List.range' 1 (2 * (p / 2))) fun x _ h1 h2 => by
    have h1 := of_decide_eq_true h1
    have h2 := of_decide_eq_true h2
    rw [h1] at h2; omega
  have both : S.length + N.length ≤ 2 * (p / 2) := by rwa [List.length_range'] at both
  have nQ : Q.Nodup := by
    refine List.Pairwise.map _ (R := fun x y => x < y ∧ x ∈ List.range' 1 (p / 2) ∧ y ∈ List.range' 1 (p / 2)) ?_ ?_
    · rintro x y ⟨h1, h2, h3⟩ q
      have h2 := rng_mem.mp h2
      have h3 := rng_mem.mp h3
      have d : p ∣ (y + x) * (y - x) := by
        rw [← Nat.mul_self_sub_mul_self_eq]
        exact (Nat.dvd_iff_mod_eq_zero ..).mpr (Nat.sub_mod_eq_zero_of_mod_eq q.symm)
      rcases hp.mul d with z | z
      · have := Nat.le_of_dvd (by omega) z; omega
      · have := Nat.le_of_dvd (by omega) z; omega
    · have : (List.range' 1 (p / 2)).Pairwise (· < ·) := List.pairwise_lt_range'
      exact List.Pairwise.imp_of_mem (fun hx hy hn => ⟨hn, hx, hy⟩) this
  have QS : ∀ y ∈ Q, y ∈ S := fun y hy => by
    obtain ⟨x, hx, rfl⟩ := List.mem_map.mp hy
    have hx := rng_mem.mp hx
    have jj : J (x * x % p) p = 1 := by
      rw [J_mod o, J_mul o, J_sq, if_pos (cop_lt hp (by omega) (by omega))]
    have z := rg (x * x % p) (by rw [jj]; decide)
    rw [Nat.mod_mod] at z
    have := Nat.mod_lt (x * x) (show 0 < p by omega)
    exact (mS _).mpr ⟨⟨by omega, by omega⟩, jj⟩
  have ql : Q.length = p / 2 := by
    show (List.map _ _).length = _
    rw [List.length_map, List.length_range']
  have P := perm_sub nQ QS (by omega)
  have z := rg a (by rw [ha]; decide)
  have l := Nat.mod_lt a (show 0 < p by omega)
  have aS : a % p ∈ S := (mS _).mpr ⟨⟨by omega, by omega⟩, by rw [J_mod o]; exact ha⟩
  obtain ⟨x, hx, q⟩ := List.mem_map.mp (P.mem_iff.mpr aS)
  have hx := rng_mem.mp hx
  exact ⟨x, hx.1, hx.2, q⟩
def chk (p : Nat) : Bool := (List.range' 2 24).any (fun d => decide (d < p) && decide (p % d = 0)) || (List.range 30).any (fun c => decide (J c p = -1))
theorem chk_all : ((List.range 300).all fun i => chk (3 + 2 * i)) = true := by decide +kernel
theorem non_res {p : Nat} (hp : Pr p) (p3 : 3 ≤ p) (p9 : p ≤ 601) : ∃ c, J c p = -1 := by
  have o := odd_of hp p3
  have h := List.all_eq_true.mp chk_all ((p - 3) / 2) (List.mem_range.mpr (by omega))
  rw [show 3 + 2 * ((p - 3) / 2) = p by omega] at h
  unfold chk at h
  rcases Bool.or_eq_true _ _ |>.mp h with h | h
  · obtain ⟨d, hd, h⟩ := List.any_eq_true.mp h
    rw [Bool.and_eq_true, decide_eq_true_iff, decide_eq_true_iff] at h
    rw [List.mem_range'_1] at hd
    rcases hp.div d (Nat.dvd_of_mod_eq_zero h.2) with z | z <;> omega
  · obtain ⟨c, _, h⟩ := List.any_eq_true.mp h
    exact ⟨c, of_decide_eq_true h⟩
/-! whole numbers of both signs -/
def JI (a : Int) (n : Nat) : Int := J (a % n).toNat n
theorem JI_nat {a n : Nat} (o : n % 2 = 1) : JI a n = J a n := by
  unfold JI
  rw [← Int.natCast_emod, Int.toNat_natCast, J_mod o]
theorem JI_congr {a b : Int} {n : Nat} (h : a % n = b % n) : JI a n = JI b n := by unfold JI; rw [h]
theorem toN {a : Int} {n : Nat} (n0 : 0 < n) : ((a % n).toNat : Int) = a % n := Int.toNat_of_nonneg (Int.emod_nonneg _ (by omega))
theorem JI_mul {a b : Int} {n : Nat} (o : n % 2 = 1) : JI (a * b) n = JI a n * JI b n := by
  have n0 : 0 < n := by omega
  have h : JI (a * b) n = JI (((a % n).toNat * (b % n).toNat : Nat) : Int) n := JI_congr (by
    rw [Int.natCast_mul, toN n0, toN n0, ← Int.mul_emod])
  rw [h, JI_nat o, J_mul o]; rfl
theorem sq_iff {a x : Int} {p : Nat} (p0 : 0 < p) : (p : Int) ∣ x * x - a ↔ (x % p).toNat * (x % p).toNat % p = (a % p).toNat := by
  have e : (((x % p).toNat * (x % p).toNat % p : Nat) : Int) = x * x % p := by
    rw [Int.natCast_emod, Int.natCast_mul, toN p0, ← Int.mul_emod]
  have e2 := toN (a := a) p0
  constructor
  · intro h
    have := Int.emod_eq_emod_iff_emod_sub_eq_zero.mpr (Int.emod_eq_zero_of_dvd h)
    omega
  · intro h
    refine Int.dvd_of_emod_eq_zero (Int.emod_eq_emod_iff_emod_sub_eq_zero.mp ?_)
    omega
theorem J_nonneg_sq {x n : Nat} (o : n % 2 = 1) : J (x * x) n ≠ -1 := by
  rw [J_mul o, J_sq]; split <;> decide
theorem J_zero_iff {p b : Nat} (hp : Pr p) (bp : b < p) (h : J b p = 0) : b = 0 := by
  rcases Nat.eq_zero_or_pos b with z | z
  · exact z
  · have := J_sq b p
    rw [h, if_pos (cop_lt hp z bp)] at this
    omega
theorem root_iff {p : Nat} {a : Int} (hp : Pr p) (p3 : 3 ≤ p) (p9 : p ≤ 601) : (∃ z : Int, (p : Int) ∣ z * z - a) ↔ JI a p ≠ -1 := by
  have o := odd_of hp p3
  have p0 : 0 < p := by omega
  have bl : (a % p).toNat < p := by have := Int.emod_lt_of_pos a (show (0 : Int) < p by omega); have := toN (a := a) p0; omega
  constructor
  · rintro ⟨z, hz⟩
    have := (sq_iff p0).mp hz
    unfold JI
    rw [← this, J_mod o]
    exact J_nonneg_sq o
  · intro h
    rcases J_range (a % p).toNat p with j | j | j
    · have b0 := J_zero_iff hp bl j
      refine ⟨0, (sq_iff p0).mpr ?_⟩
      rw [b0]; simp
    · obtain ⟨c, hc⟩ := non_res hp p3 p9
      obtain ⟨x, x1, x2, hx⟩ := J_root hp p3 hc j
      refine ⟨x, (sq_iff p0).mpr ?_⟩
      rw [← Int.natCast_emod, Int.toNat_natCast, ← Nat.mul_mod, hx, Nat.mod_eq_of_lt bl]
    · exact absurd j h
def rootsL (a : Int) (m : Nat) : List Nat := (List.range m).filter fun x => decide (((x : Int) * x - a) % m = 0)
theorem roots_mem {a : Int} {m x : Nat} (m0 : 0 < m) : x ∈ rootsL a m ↔ x < m ∧ x * x % m = (a % m).toNat := by
  unfold rootsL
  rw [List.mem_filter, List.mem_range, decide_eq_true_iff]
  refine and_congr_right fun l => ?_
  have h := sq_iff (a := a) (x := (x : Int)) m0
  rw [← Int.natCast_emod, Int.toNat_natCast, Nat.mod_eq_of_lt l] at h
  rw [← h]
  exact ⟨Int.dvd_of_emod_eq_zero, Int.emod_eq_zero_of_dvd⟩
theorem roots_nodup (a : Int) (m : Nat) : (rootsL a m).Nodup := List.Pairwise.sublist List.filter_sublist List.nodup_range
theorem roots_len {p : Nat} {a : Int} (hp : Pr p) (p3 : 3 ≤ p) (p9 : p ≤ 601) : ((rootsL a p).length : Int) = 1 + JI a p := by
  have o := odd_of hp p3
  have p0 : 0 < p := by omega
  have bl : (a % p).toNat < p := by have := Int.emod_lt_of_pos a (show (0 : Int) < p by omega); have := toN (a := a) p0; omega
  have mem := fun x => roots_mem (a := a) (x := x) p0
  have nd := roots_nodup a p
  unfold JI
  generalize (a % p).toNat = b at *
  rcases J_range b p with j | j | j
  · have b0 := J_zero_iff hp bl j
    have P : (rootsL a p).Perm [0] := (List.perm_ext_iff_of_nodup nd (by decide)).mpr fun x => by
      rw [mem, b0, List.mem_singleton]
      constructor
      · rintro ⟨l, q⟩
        have d := Nat.dvd_of_mod_eq_zero q
        rcases hp.mul d with z | z <;> (rcases Nat.eq_zero_or_pos x with y | y; exact y; have := Nat.le_of_dvd y z; omega)
      · rintro rfl; exact ⟨p0, by simp⟩
    rw [P.length_eq, j]; rfl
  · obtain ⟨c, hc⟩ := non_res hp p3 p9
    obtain ⟨x, x1, x2, hx⟩ := J_root hp p3 hc j
    rw [Nat.mod_eq_of_lt bl] at hx
    have P : (rootsL a p).Perm [x, p - x] := (List.perm_ext_iff_of_nodup nd (by simp; omega)).mpr fun y => by
      rw [mem]
      simp only [List.mem_cons, List.not_mem_nil, or_false]
      constructor
      · rintro ⟨l, q⟩
        have key : ∀ u v : Nat, u ≤ v → u * u % p = v * v % p → u < p → v < p → v = u ∨ v + u = p ∨ v + u = 0 := fun u v uv q lu lv => by
          have d : p ∣ (v + u) * (v - u) := by
            rw [← Nat.mul_self_sub_mul_self_eq]
            exact (Nat.dvd_iff_mod_eq_zero ..).mpr (Nat.sub_mod_eq_zero_of_mod_eq q.symm)
          rcases hp.mul d with z | z
          · rcases Nat.eq_zero_or_pos (v + u) with w | w
            · right; right; exact w
            · obtain ⟨t, ht⟩ := z
              right; left
              have : t = 1 := by
                rcases t with _ | _ | t
                · omega
                · rfl
                · have : p * (t + 1 + 1) = p * t + 2 * p := by rw [Nat.mul_add, Nat.mul_add]; omega
                  omega
              subst this; omega
          · rcases Nat.eq_zero_or_pos (v - u) with w | w
            · left; omega
            · have := Nat.le_of_dvd w z; omega
        rcases Nat.le_total x y with w | w
        · rcases key x y w (by omega) (by omega) l with z | z | z <;> omega
        · rcases key y x w (by omega) l (by omega) with z | z | z <;> omega
      · rintro (rfl | rfl)
        · exact ⟨by omega, hx⟩
        · refine ⟨by omega, ?_⟩
          rw [← hx]
          have : (p - x) * (p - x) + p * (2 * x) = x * x + p * p := by
            obtain ⟨d, rfl⟩ := Nat.exists_eq_add_of_le (show x ≤ p by omega)
            rw [show x + d - x = d by omega]; grind
          have h1 : ((p - x) * (p - x) + p * (2 * x)) % p = (x * x + p * p) % p := by rw [this]
          rwa [Nat.add_mul_mod_self_left, Nat.add_mul_mod_self_left] at h1
    rw [P.length_eq, j]; rfl
  · have : rootsL a p = [] := by
      refine List.eq_nil_iff_forall_not_mem.mpr fun x hx => ?_
      have h := (mem x).mp hx
      have h2 := J_nonneg_sq (x := x) o
      rw [← J_mod o, h.2, j] at h2
      exact h2 rfl
    rw [this, j]; rfl
end MJ

set_option linter.all false
set_option maxRecDepth 100000
set_option maxHeartbeats 1000000
namespace M72
open MP MT
/-! the splitting into primes is one -/
theorem prod_split {p e : Nat} : ∀ {L : List (Nat × Nat)}, (∀ x ∈ L, Pr x.1) → L.Pairwise (fun x y => x.1 < y.1) → (p, e) ∈ L → ∃ r, prodP L = p ^ e * r ∧ ¬ p ∣ r
  | x :: xs, h, hs, hm => by
    have hs := List.pairwise_cons.mp hs
    have hp : Pr p := h (p, e) hm
    rcases List.mem_cons.mp hm with z | z
    · subst z
      refine ⟨prodP xs, rfl, fun d => ?_⟩
      obtain ⟨e', he⟩ := mem_of_dvd hp (fun y hy => h y (List.mem_cons_of_mem _ hy)) d
      have := hs.1 (p, e') he
      exact Nat.lt_irrefl _ this
    · obtain ⟨r, h1, h2⟩ := prod_split (fun y hy => h y (List.mem_cons_of_mem _ hy)) hs.2 z
      refine ⟨x.1 ^ x.2 * r, ?_, fun d => ?_⟩
      · show x.1 ^ x.2 * prodP xs = _
        rw [h1]; grind
      · rcases hp.mul d with y | y
        · have hx := h x List.mem_cons_self
          have d1 := hp.pow y
          rcases hx.div p d1 with w | w
          · have := hp.two; omega
          · have := hs.1 (p, e) z
            have : x.1 < p := this
            omega
        · exact h2 y
theorem parts_iff {n : Nat} {L : List (Nat × Nat)} (n0 : 0 < n) (O : PartsOk n 2 L) (p e : Nat) : (p, e) ∈ L ↔ Pr p ∧ 0 < e ∧ p ^ e ∣ n ∧ ¬ p ^ (e + 1) ∣ n := by
  have fw : ∀ e, (p, e) ∈ L → Pr p ∧ 0 < e ∧ p ^ e ∣ n ∧ ¬ p ^ (e + 1) ∣ n := fun e hm => by
    obtain ⟨h1, h2, h3⟩ := O.pr (p, e) hm
    obtain ⟨r, e1, e2⟩ := prod_split (fun x hx => (O.pr x hx).1) O.sorted hm
    rw [O.prod] at e1
    refine ⟨h1, h3, ⟨r, e1⟩, fun d => e2 ?_⟩
    rw [e1, Nat.pow_succ] at d
    exact Nat.dvd_of_mul_dvd_mul_left (Nat.pow_pos (by have := h1.two; show 0 < p; omega)) d
  constructor
  · exact fw e
  · rintro ⟨h1, h2, h3, h4⟩
    have d : p ∣ prodP L := by
      rw [O.prod]
      exact Nat.dvd_trans (Nat.dvd_trans ⟨1, by simp⟩ (Nat.pow_dvd_pow p (show 1 ≤ e from h2))) h3
    obtain ⟨e', he⟩ := mem_of_dvd h1 (fun x hx => (O.pr x hx).1) d
    obtain ⟨_, _, g3, g4⟩ := fw e' he
    have : e = e' := by
      rcases Nat.lt_trichotomy e e' with z | z | z
      · exact absurd (Nat.dvd_trans (Nat.pow_dvd_pow p (show e + 1 ≤ e' from z)) g3) h4
      · exact z
      · exact absurd (Nat.dvd_trans (Nat.pow_dvd_pow p (show e' + 1 ≤ e from z)) h3) g4
    rw [this]; exact he
theorem sorted_ext : ∀ {L M : List (Nat × Nat)}, L.Pairwise (fun x y => x.1 < y.1) → M.Pairwise (fun x y => x.1 < y.1) → (∀ x, x ∈ L ↔ x ∈ M) → L = M
  | [], [], _, _, _ => rfl
  | [], y :: ys, _, _, h => absurd ((h y).mpr List.mem_cons_self) List.not_mem_nil
  | x :: xs, [], _, _, h => absurd ((h x).mp List.mem_cons_self) List.not_mem_nil
  | x :: xs, y :: ys, hL, hM, h => by
    have hL := List.pairwise_cons.mp hL
    have hM := List.pairwise_cons.mp hM
    have e : x = y := by
      rcases List.mem_cons.mp ((h x).mp List.mem_cons_self) with z | z
      · exact z
      · rcases List.mem_cons.mp ((h y).mpr List.mem_cons_self) with w | w
        · exact w.symm
        · have := hM.1 x z
          have := hL.1 y w
          omega
    subst e
    congr 1
    refine sorted_ext hL.2 hM.2 fun z => ?_
    constructor
    · intro hz
      rcases List.mem_cons.mp ((h z).mp (List.mem_cons_of_mem _ hz)) with w | w
      · subst w; exact absurd (hL.1 z hz) (Nat.lt_irrefl _)
      · exact w
    · intro hz
      rcases List.mem_cons.mp ((h z).mpr (List.mem_cons_of_mem _ hz)) with w | w
      · subst w; exact absurd (hM.1 z hz) (Nat.lt_irrefl _)
      · exact w
theorem parts_uniq {n : Nat} {L : List (Nat × Nat)} (n0 : 0 < n) (O : PartsOk n 2 L) : L = partsF n :=
  sorted_ext O.sorted (parts_ok n0).sorted fun x => (parts_iff n0 O x.1 x.2).trans (parts_iff n0 (parts_ok n0) x.1 x.2).symm
theorem nodup_of {L : List (Nat × Nat)} (h : L.Pairwise fun x y => x.1 < y.1) : L.Nodup := List.Pairwise.imp (fun {a b} hab e => by subst e; exact Nat.lt_irrefl _ hab) h
theorem apart {m n : Nat} (m0 : 0 < m) (n0 : 0 < n) (g : Nat.gcd m n = 1) {x y : Nat × Nat} (hx : x ∈ partsF m) (hy : y ∈ partsF n) : x.1 ≠ y.1 := fun e => by
  obtain ⟨h1, h2, h3, _⟩ := (parts_iff m0 (parts_ok m0) x.1 x.2).mp hx
  obtain ⟨_, k2, k3, _⟩ := (parts_iff n0 (parts_ok n0) y.1 y.2).mp hy
  have d1 : x.1 ∣ m := Nat.dvd_trans (Nat.dvd_trans ⟨1, by simp⟩ (Nat.pow_dvd_pow x.1 (show 1 ≤ x.2 from h2))) h3
  have d2 : x.1 ∣ n := by rw [e]; exact Nat.dvd_trans (Nat.dvd_trans ⟨1, by simp⟩ (Nat.pow_dvd_pow y.1 (show 1 ≤ y.2 from k2))) k3
  have := Nat.dvd_gcd d1 d2
  rw [g] at this
  have := Nat.dvd_one.mp this
  have := h1.two
  omega
theorem parts_perm {m n : Nat} (m0 : 0 < m) (n0 : 0 < n) (g : Nat.gcd m n = 1) : (partsF (m * n)).Perm (partsF m ++ partsF n) := by
  have mn0 := Nat.mul_pos m0 n0
  have nd : (partsF m ++ partsF n).Nodup := List.nodup_append.mpr ⟨nodup_of (parts_ok m0).sorted, nodup_of (parts_ok n0).sorted, fun x hx y hy e => apart m0 n0 g hx hy (by rw [e])⟩
  refine (List.perm_ext_iff_of_nodup (nodup_of (parts_ok mn0).sorted) nd).mpr fun x => ?_
  rw [List.mem_append]
  obtain ⟨p, e⟩ := x
  rw [parts_iff mn0 (parts_ok mn0), parts_iff m0 (parts_ok m0), parts_iff n0 (parts_ok n0)]
  have key : ∀ {a b : Nat}, Nat.gcd a b = 1 → Pr p → p ∣ a → ∀ k, p ^ k ∣ a * b ↔ p ^ k ∣ a := fun {a b} g hp d k => by
    constructor
    · intro h
      refine Nat.Coprime.dvd_of_dvd_mul_right (Nat.Coprime.pow_left k ?_) h
      exact Nat.Coprime.coprime_dvd_left d g
    · exact fun h => Nat.dvd_mul_right_of_dvd h b
  have one : ∀ {a e : Nat}, 0 < e → p ^ e ∣ a → p ∣ a := fun {a e} h d => Nat.dvd_trans (Nat.dvd_trans ⟨1, by simp⟩ (Nat.pow_dvd_pow p (show 1 ≤ e from h))) d
  have g' : Nat.gcd n m = 1 := by rw [Nat.gcd_comm]; exact g
  constructor
  · rintro ⟨h1, h2, h3, h4⟩
    rcases h1.mul (one h2 h3) with z | z
    · left
      exact ⟨h1, h2, (key g h1 z e).mp h3, fun q => h4 ((key g h1 z (e + 1)).mpr q)⟩
    · right
      rw [Nat.mul_comm] at h3 h4
      exact ⟨h1, h2, (key g' h1 z e).mp h3, fun q => h4 ((key g' h1 z (e + 1)).mpr q)⟩
  · rintro (⟨h1, h2, h3, h4⟩ | ⟨h1, h2, h3, h4⟩)
    · have z := one h2 h3
      exact ⟨h1, h2, (key g h1 z e).mpr h3, fun q => h4 ((key g h1 z (e + 1)).mp q)⟩
    · have z := one h2 h3
      rw [Nat.mul_comm]
      exact ⟨h1, h2, (key g' h1 z e).mpr h3, fun q => h4 ((key g' h1 z (e + 1)).mp q)⟩
/-- a sorted turn of both splittings -/
theorem parts_sorted {m n : Nat} {N : Int} {L : List (Int × Int)} (m0 : 0 < m) (n0 : 0 < n) (g : Nat.gcd m n = 1) (P : L.Perm ((partsF m ++ partsF n).map fun x => ((x.1 : Int), (x.2 : Int)))) (hN : ∀ x ∈ partsF m ++ partsF n, (x.2 : Int) < N)
    (so : L.Pairwise fun p q => p.1 * N + p.2 ≤ q.1 * N + q.2) : L = (partsF (m * n)).map fun x => ((x.1 : Int), (x.2 : Int)) := by
  obtain ⟨Z, PZ, LZ⟩ : ∃ Z : List (Nat × Nat), Z.Perm (partsF m ++ partsF n) ∧ L = Z.map fun x => ((x.1 : Int), (x.2 : Int)) := by
    refine ⟨L.map fun p => (p.1.toNat, p.2.toNat), ?_, ?_⟩
    · have := P.map (fun p : Int × Int => (p.1.toNat, p.2.toNat))
      rw [List.map_map] at this
      have e : ((fun p : Int × Int => (p.1.toNat, p.2.toNat)) ∘ fun x : Nat × Nat => ((x.1 : Int), (x.2 : Int))) = id := by funext x; simp
      rwa [e, List.map_id] at this
    · rw [List.map_map]
      conv => lhs; rw [← List.map_id L]
      refine List.map_congr_left fun p hp => ?_
      obtain ⟨x, _, rfl⟩ := List.mem_map.mp (P.mem_iff.mp hp)
      simp
  subst LZ
  have mn0 := Nat.mul_pos m0 n0
  have mem : ∀ x, x ∈ Z ↔ x ∈ partsF (m * n) := fun x => PZ.mem_iff.trans (parts_perm m0 n0 g).mem_iff.symm
  have ap : (partsF m ++ partsF n).Pairwise fun x y => x.1 ≠ y.1 := by
    refine List.pairwise_append.mpr ⟨List.Pairwise.imp (fun h => Nat.ne_of_lt h) (parts_ok m0).sorted, List.Pairwise.imp (fun h => Nat.ne_of_lt h) (parts_ok n0).sorted, fun x hx y hy => apart m0 n0 g hx hy⟩
  have apZ : Z.Pairwise fun x y => x.1 ≠ y.1 := (PZ.pairwise_iff (fun {x y} h => Ne.symm h)).mpr ap
  have soZ : Z.Pairwise fun x y => (x.1 : Int) * N + x.2 ≤ y.1 * N + y.2 := (List.pairwise_map (R := fun p q : Int × Int => p.1 * N + p.2 ≤ q.1 * N + q.2)).mp so
  have srt : Z.Pairwise fun x y => x.1 < y.1 := by
    refine List.Pairwise.imp_of_mem (R := fun x y => x.1 ≠ y.1 ∧ (x.1 : Int) * N + x.2 ≤ y.1 * N + y.2) (fun {x y} hx hy h => ?_) (List.Pairwise.and apZ soZ)
    have b1 := hN x (PZ.mem_iff.mp hx)
    have b2 := hN y (PZ.mem_iff.mp hy)
    rcases Nat.lt_trichotomy x.1 y.1 with z | z | z
    · exact z
    · exact absurd z h.1
    · exfalso
      have : ((y.1 : Int) + 1) * N ≤ x.1 * N := Int.mul_le_mul_of_nonneg_right (by omega) (by omega)
      rw [Int.add_mul] at this
      have := h.2
      omega
  rw [sorted_ext srt (parts_ok mn0).sorted mem]
/-! functions of the splitting -/
theorem phiP_app : ∀ L M : List (Nat × Nat), phiP (L ++ M) = phiP L * phiP M
  | [], M => by show _ = 1 * _; rw [Nat.one_mul]; rfl
  | x :: xs, M => by show x.1 ^ (x.2 - 1) * (x.1 - 1) * phiP (xs ++ M) = x.1 ^ (x.2 - 1) * (x.1 - 1) * phiP xs * _; rw [phiP_app xs M]; exact (Nat.mul_assoc _ _ _).symm
theorem phiP_perm {L M : List (Nat × Nat)} (h : L.Perm M) : phiP L = phiP M := by
  induction h with
  | nil => rfl
  | cons x _ ih => show x.1 ^ (x.2 - 1) * (x.1 - 1) * _ = x.1 ^ (x.2 - 1) * (x.1 - 1) * _; rw [ih]
  | swap x y l => show y.1 ^ (y.2 - 1) * (y.1 - 1) * (x.1 ^ (x.2 - 1) * (x.1 - 1) * _) = x.1 ^ (x.2 - 1) * (x.1 - 1) * (y.1 ^ (y.2 - 1) * (y.1 - 1) * _); exact Nat.mul_left_comm _ _ _
  | trans _ _ a b => rw [a, b]
theorem phi_mul {m n : Nat} (m0 : 0 < m) (n0 : 0 < n) (g : Nat.gcd m n = 1) : phiF (m * n) = phiF m * phiF n := by
  rw [phiF_eq (Nat.mul_pos m0 n0), phiP_perm (parts_perm m0 n0 g), phiP_app, ← phiF_eq m0, ← phiF_eq n0]
def sgnL (L : List (Nat × Nat)) (f : Int) : Int := L.foldl (fun f x => if x.2 = 1 then -f else 0) f
def sgnP : List (Nat × Nat) → Int
  | [] => 1
  | x :: xs => (if x.2 = 1 then -1 else 0) * sgnP xs
def sgnF (n : Nat) : Int := sgnL (partsF n) 1
theorem sgnL_eq : ∀ (L : List (Nat × Nat)) (f : Int), sgnL L f = f * sgnP L
  | [], f => (Int.mul_one f).symm
  | x :: xs, f => by
    show sgnL xs (if x.2 = 1 then -f else 0) = f * ((if x.2 = 1 then -1 else 0) * sgnP xs)
    rw [sgnL_eq xs]
    split <;> grind
theorem sgnP_app : ∀ L M : List (Nat × Nat), sgnP (L ++ M) = sgnP L * sgnP M
  | [], M => by show _ = 1 * _; rw [Int.one_mul]; rfl
  | x :: xs, M => by show _ * sgnP (xs ++ M) = _ * sgnP xs * _; rw [sgnP_app xs M, Int.mul_assoc]
theorem sgnP_perm {L M : List (Nat × Nat)} (h : L.Perm M) : sgnP L = sgnP M := by
  induction h with
  | nil => rfl
  | cons x _ ih => show _ * _ = _ * _; rw [ih]
  | swap x y l => exact Int.mul_left_comm _ _ _
  | trans _ _ a b => rw [a, b]
theorem sgn_mul {m n : Nat} (m0 : 0 < m) (n0 : 0 < n) (g : Nat.gcd m n = 1) : sgnF (m * n) = sgnF m * sgnF n := by
  unfold sgnF
  rw [sgnL_eq, sgnL_eq, sgnL_eq, Int.one_mul, Int.one_mul, Int.one_mul, sgnP_perm (parts_perm m0 n0 g), sgnP_app]
theorem sgn_bd : ∀ L : List (Nat × Nat), sgnP L = 0 ∨ sgnP L = 1 ∨ sgnP L = -1
  | [] => .inr (.inl rfl)
  | x :: xs => by
    show (if x.2 = 1 then (-1 : Int) else 0) * sgnP xs = 0 ∨ _ ∨ _
    have := sgn_bd xs
    show _ ∨ (if x.2 = 1 then (-1 : Int) else 0) * sgnP xs = 1 ∨ (if x.2 = 1 then (-1 : Int) else 0) * sgnP xs = -1
    split <;> omega
def lcmP : List (Nat × Nat) → Nat
  | [] => 1
  | x :: xs => Nat.lcm (lamP x.1 x.2) (lcmP xs)
theorem lamL_eq : ∀ (L : List (Nat × Nat)) (f : Nat), lamL L f = Nat.lcm f (lcmP L)
  | [], f => (Nat.lcm_one_right f).symm
  | x :: xs, f => by
    have e : lamL (x :: xs) f = lamL xs (Nat.lcm f (lamP x.1 x.2)) := by rw [← lcm_eq]; rfl
    rw [e, lamL_eq xs]
    exact Nat.lcm_assoc _ _ _
theorem lcmP_app : ∀ L M : List (Nat × Nat), lcmP (L ++ M) = Nat.lcm (lcmP L) (lcmP M)
  | [], M => (Nat.lcm_one_left _).symm
  | x :: xs, M => by
    show Nat.lcm _ (lcmP (xs ++ M)) = Nat.lcm (Nat.lcm _ _) _
    rw [lcmP_app xs M, Nat.lcm_assoc]
theorem lcmP_perm {L M : List (Nat × Nat)} (h : L.Perm M) : lcmP L = lcmP M := by
  induction h with
  | nil => rfl
  | cons x _ ih => show Nat.lcm _ _ = Nat.lcm _ _; rw [ih]
  | swap x y l =>
    show Nat.lcm _ (Nat.lcm _ _) = Nat.lcm _ (Nat.lcm _ _)
    rw [← Nat.lcm_assoc, Nat.lcm_comm (lamP y.1 y.2), Nat.lcm_assoc]
  | trans _ _ a b => rw [a, b]
theorem lam_mul {m n : Nat} (m0 : 0 < m) (n0 : 0 < n) (g : Nat.gcd m n = 1) : lamF (m * n) = Nat.lcm (lamF m) (lamF n) := by
  unfold lamF
  rw [lamL_eq, lamL_eq, lamL_eq, Nat.lcm_one_left, Nat.lcm_one_left, Nat.lcm_one_left, lcmP_perm (parts_perm m0 n0 g), lcmP_app]
/-! divisors -/
def pw (p e : Nat) : List Nat := (List.range (e + 1)).map fun k => p ^ k
def dL (L : List (Nat × Nat)) (F : List Nat) : List Nat := L.foldl (fun F x => F.flatMap fun d => (pw x.1 x.2).map fun q => d * q) F
def dF (n : Nat) : List Nat := dL (partsF n) [1]
theorem pw_succ (p e : Nat) : pw p (e + 1) = pw p e ++ [p ^ (e + 1)] := by
  unfold pw
  rw [List.range_succ, List.map_append]; rfl
theorem pw_len (p e : Nat) : (pw p e).length = e + 1 := by unfold pw; rw [List.length_map, List.length_range]
def cntP : List (Nat × Nat) → Nat
  | [] => 1
  | x :: xs => (x.2 + 1) * cntP xs
theorem fl_len (F q : List Nat) : (F.flatMap fun d => q.map fun x => d * x).length = F.length * q.length := by
  induction F with
  | nil => simp
  | cons x xs ih =>
    rw [List.flatMap_cons, List.length_append, ih, List.length_map]
    show _ = (xs.length + 1) * q.length
    rw [Nat.add_mul]; omega
theorem dL_len : ∀ (L : List (Nat × Nat)) (F : List Nat), (dL L F).length = F.length * cntP L
  | [], F => (Nat.mul_one _).symm
  | x :: xs, F => by
    show (dL xs _).length = F.length * ((x.2 + 1) * cntP xs)
    rw [dL_len xs, fl_len, pw_len, Nat.mul_assoc]
theorem cntP_app : ∀ L M : List (Nat × Nat), cntP (L ++ M) = cntP L * cntP M
  | [], M => by show _ = 1 * _; rw [Nat.one_mul]; rfl
  | x :: xs, M => by show (x.2 + 1) * cntP (xs ++ M) = (x.2 + 1) * cntP xs * _; rw [cntP_app xs M, Nat.mul_assoc]
theorem cntP_perm {L M : List (Nat × Nat)} (h : L.Perm M) : cntP L = cntP M := by
  induction h with
  | nil => rfl
  | cons x _ ih => show (x.2 + 1) * _ = (x.2 + 1) * _; rw [ih]
  | swap x y l => exact Nat.mul_left_comm _ _ _
  | trans _ _ a b => rw [a, b]
theorem cnt_eq (n : Nat) : (dF n).length = cntP (partsF n) := by
  unfold dF
  rw [dL_len]
  show 1 * _ = _
  omega
theorem cnt_mul {m n : Nat} (m0 : 0 < m) (n0 : 0 < n) (g : Nat.gcd m n = 1) : (dF (m * n)).length = (dF m).length * (dF n).length := by
  rw [cnt_eq, cnt_eq, cnt_eq, cntP_perm (parts_perm m0 n0 g), cntP_app]
def ps (k : Nat) : List Nat → Nat
  | [] => 0
  | d :: ds => d ^ k + ps k ds
theorem ps_app (k : Nat) : ∀ F G : List Nat, ps k (F ++ G) = ps k F + ps k G
  | [], G => by show _ = 0 + _; rw [Nat.zero_add]; rfl
  | x :: xs, G => by show x ^ k + ps k (xs ++ G) = x ^ k + ps k xs + _; rw [ps_app k xs G]; omega
theorem ps_perm {k : Nat} {F G : List Nat} (h : F.Perm G) : ps k F = ps k G := by
  induction h with
  | nil => rfl
  | cons x _ ih => show x ^ k + _ = x ^ k + _; rw [ih]
  | swap x y l => show y ^ k + (x ^ k + _) = x ^ k + (y ^ k + _); omega
  | trans _ _ a b => rw [a, b]
theorem ps_map (k d : Nat) : ∀ q : List Nat, ps k (q.map fun x => d * x) = d ^ k * ps k q
  | [] => rfl
  | x :: xs => by
    show (d * x) ^ k + ps k (xs.map fun x => d * x) = d ^ k * (x ^ k + ps k xs)
    rw [ps_map k d xs, Nat.mul_pow, Nat.mul_add]
theorem ps_flat (k : Nat) (q : List Nat) : ∀ F : List Nat, ps k (F.flatMap fun d => q.map fun x => d * x) = ps k F * ps k q
  | [] => by show 0 = 0 * _; rw [Nat.zero_mul]
  | d :: ds => by
    rw [List.flatMap_cons, ps_app, ps_map, ps_flat k q ds]
    show _ = (d ^ k + ps k ds) * ps k q
    rw [Nat.add_mul]
def sigP (k : Nat) : List (Nat × Nat) → Nat
  | [] => 1
  | x :: xs => ps k (pw x.1 x.2) * sigP k xs
theorem dL_ps (k : Nat) : ∀ (L : List (Nat × Nat)) (F : List Nat), ps k (dL L F) = ps k F * sigP k L
  | [], F => (Nat.mul_one _).symm
  | x :: xs, F => by
    show ps k (dL xs _) = ps k F * (ps k (pw x.1 x.2) * sigP k xs)
    rw [dL_ps k xs, ps_flat, Nat.mul_assoc]
theorem sigP_app (k : Nat) : ∀ L M : List (Nat × Nat), sigP k (L ++ M) = sigP k L * sigP k M
  | [], M => by show _ = 1 * _; rw [Nat.one_mul]; rfl
  | x :: xs, M => by show _ * sigP k (xs ++ M) = _ * sigP k xs * _; rw [sigP_app k xs M, Nat.mul_assoc]
theorem sigP_perm {k : Nat} {L M : List (Nat × Nat)} (h : L.Perm M) : sigP k L = sigP k M := by
  induction h with
  | nil => rfl
  | cons x _ ih => show _ * _ = _ * _; rw [ih]
  | swap x y l => exact Nat.mul_left_comm _ _ _
  | trans _ _ a b => rw [a, b]
theorem sig_eq (k n : Nat) : ps k (dF n) = sigP k (partsF n) := by
  unfold dF
  rw [dL_ps]
  show (1 ^ k + 0) * _ = _
  rw [Nat.one_pow]; omega
theorem sig_mul {m n : Nat} (k : Nat) (m0 : 0 < m) (n0 : 0 < n) (g : Nat.gcd m n = 1) : ps k (dF (m * n)) = ps k (dF m) * ps k (dF n) := by
  rw [sig_eq, sig_eq, sig_eq, sigP_perm (parts_perm m0 n0 g), sigP_app]
theorem dL_dvd : ∀ (L : List (Nat × Nat)) (F : List Nat) (c : Nat), (∀ d ∈ F, d ∣ c) → ∀ d ∈ dL L F, d ∣ c * prodP L
  | [], F, c, h, d, hd => by show d ∣ c * 1; rw [Nat.mul_one]; exact h d hd
  | x :: xs, F, c, h, d, hd => by
    have := dL_dvd xs (F.flatMap fun d => (pw x.1 x.2).map fun q => d * q) (c * x.1 ^ x.2) (fun t ht => by
      obtain ⟨u, hu, ht⟩ := List.mem_flatMap.mp ht
      obtain ⟨q, hq, rfl⟩ := List.mem_map.mp ht
      unfold pw at hq
      obtain ⟨k, hk, rfl⟩ := List.mem_map.mp hq
      have := List.mem_range.mp hk
      exact Nat.mul_dvd_mul (h u hu) (Nat.pow_dvd_pow x.1 (by omega))) d hd
    show d ∣ c * (x.1 ^ x.2 * prodP xs)
    rwa [← Nat.mul_assoc]
theorem dF_dvd {n d : Nat} (n0 : 0 < n) (h : d ∈ dF n) : d ∣ n := by
  have := dL_dvd (partsF n) [1] 1 (by simp) d h
  rwa [(parts_ok n0).prod, Nat.one_mul] at this
theorem dL_take {L : List (Nat × Nat)} {j : Nat} (h : j < L.length) (F : List Nat) : dL (L.take (j + 1)) F = (dL (L.take j) F).flatMap fun d => (pw L[j].1 L[j].2).map fun q => d * q := by
  unfold dL
  rw [List.take_add_one, List.getElem?_eq_getElem h, List.foldl_append]
  rfl
theorem cube3 : ∀ e : Nat, (e + 1) * (e + 1) * (e + 1) ≤ 9 ^ e
  | 0 => by decide
  | e + 1 => by
    have I := cube3 e
    rw [Nat.pow_succ]
    have a : e + 1 + 1 ≤ 2 * (e + 1) := by omega
    have b := Nat.mul_le_mul (Nat.mul_le_mul a a) a
    have c : 2 * (e + 1) * (2 * (e + 1)) * (2 * (e + 1)) = 8 * ((e + 1) * (e + 1) * (e + 1)) := by grind
    omega
theorem cube2 : ∀ e : Nat, (e + 1) * (e + 1) * (e + 1) ≤ 2 * 4 ^ e
  | 0 => by decide
  | 1 => by decide
  | e + 2 => by
    have I := cube2 (e + 1)
    rw [Nat.pow_succ]
    have b : (e + 2 + 1) * (e + 2 + 1) * (e + 2 + 1) ≤ 4 * ((e + 1 + 1) * (e + 1 + 1) * (e + 1 + 1)) := by
      have : (e + 2 + 1) * (e + 2 + 1) * (e + 2 + 1) = e*e*e + 9*(e*e) + 27*e + 27 := by grind
      have : (e + 1 + 1) * (e + 1 + 1) * (e + 1 + 1) = e*e*e + 6*(e*e) + 12*e + 8 := by grind
      have : 0 ≤ e*e*e := Nat.zero_le _
      have : 0 ≤ e*e := Nat.zero_le _
      omega
    omega
theorem cnt3 : ∀ {L : List (Nat × Nat)}, (∀ x ∈ L, 3 ≤ x.1) → cntP L * cntP L * cntP L ≤ prodP L * prodP L
  | [], _ => by decide
  | x :: xs, h => by
    have I := cnt3 fun y hy => h y (List.mem_cons_of_mem _ hy)
    have hx := h x List.mem_cons_self
    have a : (x.2 + 1) * (x.2 + 1) * (x.2 + 1) ≤ x.1 ^ x.2 * x.1 ^ x.2 := by
      refine Nat.le_trans (cube3 x.2) ?_
      rw [← Nat.mul_pow]
      exact Nat.pow_le_pow_left (Nat.mul_le_mul hx hx) _
    have b := Nat.mul_le_mul a I
    show (x.2 + 1) * cntP xs * ((x.2 + 1) * cntP xs) * ((x.2 + 1) * cntP xs) ≤ x.1 ^ x.2 * prodP xs * (x.1 ^ x.2 * prodP xs)
    have c1 : (x.2 + 1) * cntP xs * ((x.2 + 1) * cntP xs) * ((x.2 + 1) * cntP xs) = (x.2 + 1) * (x.2 + 1) * (x.2 + 1) * (cntP xs * cntP xs * cntP xs) := by grind
    have c2 : x.1 ^ x.2 * prodP xs * (x.1 ^ x.2 * prodP xs) = x.1 ^ x.2 * x.1 ^ x.2 * (prodP xs * prodP xs) := by grind
    rw [c1, c2]; exact b
theorem cnt_bd {L : List (Nat × Nat)} (h : ∀ x ∈ L, Pr x.1) (hs : L.Pairwise fun x y => x.1 < y.1) : cntP L * cntP L * cntP L ≤ 2 * (prodP L * prodP L) := by
  cases L with
  | nil => decide
  | cons x xs =>
    have hs := List.pairwise_cons.mp hs
    have hx := (h x List.mem_cons_self).two
    have I := cnt3 (L := xs) fun y hy => by have := hs.1 y hy; omega
    have a : (x.2 + 1) * (x.2 + 1) * (x.2 + 1) ≤ 2 * (x.1 ^ x.2 * x.1 ^ x.2) := by
      refine Nat.le_trans (cube2 x.2) (Nat.mul_le_mul_left 2 ?_)
      rw [← Nat.mul_pow]
      exact Nat.pow_le_pow_left (Nat.mul_le_mul hx hx) _
    have b := Nat.mul_le_mul a I
    show (x.2 + 1) * cntP xs * ((x.2 + 1) * cntP xs) * ((x.2 + 1) * cntP xs) ≤ 2 * (x.1 ^ x.2 * prodP xs * (x.1 ^ x.2 * prodP xs))
    have c1 : (x.2 + 1) * cntP xs * ((x.2 + 1) * cntP xs) * ((x.2 + 1) * cntP xs) = (x.2 + 1) * (x.2 + 1) * (x.2 + 1) * (cntP xs * cntP xs * cntP xs) := by grind
    have c2 : 2 * (x.1 ^ x.2 * prodP xs * (x.1 ^ x.2 * prodP xs)) = 2 * (x.1 ^ x.2 * x.1 ^ x.2) * (prodP xs * prodP xs) := by grind
    rw [c1, c2]; exact b
theorem cnt_pre {n : Nat} (n0 : 0 < n) (n9 : n < 2 ^ 20) (j : Nat) : cntP ((partsF n).take j) < 2 ^ 14 := by
  have O := parts_ok n0
  have h1 := cnt_bd (L := (partsF n).take j) (fun x hx => (O.pr x (List.mem_of_mem_take hx)).1) (List.Pairwise.sublist (List.take_sublist j _) O.sorted)
  have app : ∀ L M : List (Nat × Nat), prodP (L ++ M) = prodP L * prodP M := fun L M => by
    induction L with
    | nil => show _ = 1 * _; rw [Nat.one_mul]; rfl
    | cons y ys ih => show y.1 ^ y.2 * prodP (ys ++ M) = y.1 ^ y.2 * prodP ys * _; rw [ih, Nat.mul_assoc]
  have d : prodP ((partsF n).take j) ∣ n := by
    have e : prodP (partsF n) = prodP ((partsF n).take j) * prodP ((partsF n).drop j) := by rw [← app, List.take_append_drop]
    rw [O.prod] at e
    exact ⟨_, e⟩
  have le := Nat.le_of_dvd n0 d
  have h2 := Nat.mul_le_mul le le
  have h3 : n * n < 2 ^ 40 := by
    have := Nat.mul_lt_mul'' n9 n9
    rwa [← Nat.pow_add] at this
  refine Nat.lt_of_not_le fun z => ?_
  have := Nat.mul_le_mul (Nat.mul_le_mul z z) z
  rw [← Nat.pow_add, ← Nat.pow_add] at this
  omega
/-! remainders by two moduli -/
theorem crt {m n : Nat} (m0 : 0 < m) (g : Nat.gcd m n = 1) (x y : Int) : ∃ z : Int, (m : Int) ∣ z - x ∧ (n : Int) ∣ z - y := by
  obtain ⟨t, T, _⟩ := ord_ex (a := (n : Int)) (m := m) m0 (by show Nat.gcd n m = 1; rw [Nat.gcd_comm]; exact g)
  have o : (m : Int) ∣ (n : Int) ^ t - 1 := T.one
  have t0 := T.pos
  refine ⟨x * (n : Int) ^ t + y * (1 - (n : Int) ^ t), ?_, ?_⟩
  · rw [show x * (n : Int) ^ t + y * (1 - (n : Int) ^ t) - x = ((n : Int) ^ t - 1) * (x - y) by grind]
    exact Int.dvd_mul_of_dvd_left o
  · rw [show x * (n : Int) ^ t + y * (1 - (n : Int) ^ t) - y = (n : Int) ^ t * (x - y) by grind]
    refine Int.dvd_mul_of_dvd_left ?_
    obtain ⟨s, rfl⟩ : ∃ s, t = s + 1 := ⟨t - 1, by omega⟩
    rw [Int.pow_succ]
    exact Int.dvd_mul_left _ _
theorem sq_cong {m : Int} {z x a : Int} (h : m ∣ z - x) : m ∣ z * z - a ↔ m ∣ x * x - a := by
  rw [show z * z - a = (z - x) * (z + x) + (x * x - a) by grind]
  exact Int.dvd_add_right (Int.dvd_mul_of_dvd_left h)
theorem both_dvd {m n : Nat} {w : Int} (g : Nat.gcd m n = 1) : ((m * n : Nat) : Int) ∣ w ↔ (m : Int) ∣ w ∧ (n : Int) ∣ w := by
  rw [Int.ofNat_dvd_left, Int.ofNat_dvd_left, Int.ofNat_dvd_left]
  constructor
  · exact fun h => ⟨Nat.dvd_trans (Nat.dvd_mul_right m n) h, Nat.dvd_trans (Nat.dvd_mul_left n m) h⟩
  · exact fun h => Nat.Coprime.mul_dvd_of_dvd_of_dvd g h.1 h.2
theorem root_both {m n : Nat} {a : Int} (m0 : 0 < m) (g : Nat.gcd m n = 1) : (∃ z : Int, ((m * n : Nat) : Int) ∣ z * z - a) ↔ (∃ z : Int, (m : Int) ∣ z * z - a) ∧ (∃ z : Int, (n : Int) ∣ z * z - a) := by
  constructor
  · rintro ⟨z, h⟩
    obtain ⟨h1, h2⟩ := (both_dvd g).mp h
    exact ⟨⟨z, h1⟩, ⟨z, h2⟩⟩
  · rintro ⟨⟨x, hx⟩, ⟨y, hy⟩⟩
    obtain ⟨z, h1, h2⟩ := crt m0 g x y
    exact ⟨z, (both_dvd g).mpr ⟨(sq_cong h1).mpr hx, (sq_cong h2).mpr hy⟩⟩
theorem len_subG {α : Type} [DecidableEq α] : ∀ {l m : List α}, l.Nodup → (∀ x ∈ l, x ∈ m) → l.length ≤ m.length
  | [], m, _, _ => Nat.zero_le _
  | x :: xs, m, nd, hs => by
    have hx := hs x List.mem_cons_self
    have nd := List.nodup_cons.mp nd
    have I := len_subG (m := m.erase x) nd.2 fun y hy => (List.mem_erase_of_ne (fun q => nd.1 (by rw [← q]; exact hy))).mpr (hs y (List.mem_cons_of_mem _ hy))
    rw [List.length_erase_of_mem hx] at I
    have : 0 < m.length := List.length_pos_of_mem hx
    show xs.length + 1 ≤ _
    omega
def prs (X Y : List Nat) : List (Nat × Nat) := X.flatMap fun x => Y.map fun y => (x, y)
theorem prs_len (X Y : List Nat) : (prs X Y).length = X.length * Y.length := by
  unfold prs
  induction X with
  | nil => simp
  | cons x xs ih =>
    rw [List.flatMap_cons, List.length_append, ih, List.length_map]
    show _ = (xs.length + 1) * Y.length
    rw [Nat.add_mul]; omega
theorem prs_mem {X Y : List Nat} {p : Nat × Nat} : p ∈ prs X Y ↔ p.1 ∈ X ∧ p.2 ∈ Y := by
  unfold prs
  rw [List.mem_flatMap]
  constructor
  · rintro ⟨x, hx, h⟩
    obtain ⟨y, hy, rfl⟩ := List.mem_map.mp h
    exact ⟨hx, hy⟩
  · rintro ⟨h1, h2⟩
    exact ⟨p.1, h1, List.mem_map.mpr ⟨p.2, h2, rfl⟩⟩
theorem prs_nodup : ∀ {X Y : List Nat}, X.Nodup → Y.Nodup → (prs X Y).Nodup
  | [], Y, _, _ => List.nodup_nil
  | x :: xs, Y, hX, hY => by
    have hX := List.nodup_cons.mp hX
    show (Y.map (fun y => (x, y)) ++ prs xs Y).Nodup
    refine List.nodup_append.mpr ⟨?_, prs_nodup hX.2 hY, fun p hp q hq e => ?_⟩
    · exact List.Pairwise.map _ (fun a b h e => h (by injection e)) hY
    · subst e
      obtain ⟨y, _, rfl⟩ := List.mem_map.mp hp
      exact hX.1 (prs_mem.mp hq).1
theorem emod_dvd (z : Int) (m : Nat) : (m : Int) ∣ z % m - z := by
  rw [Int.emod_def]
  exact ⟨-(z / m), by grind⟩
theorem roots_mul {m n : Nat} {a : Int} (m0 : 0 < m) (n0 : 0 < n) (g : Nat.gcd m n = 1) : (MJ.rootsL a (m * n)).length = (MJ.rootsL a m).length * (MJ.rootsL a n).length := by
  have mn0 := Nat.mul_pos m0 n0
  have mem : ∀ {k x : Nat}, x ∈ MJ.rootsL a k ↔ x < k ∧ (k : Int) ∣ (x : Int) * x - a := fun {k x} => by
    unfold MJ.rootsL
    rw [List.mem_filter, List.mem_range, decide_eq_true_iff]
    exact and_congr_right fun _ => ⟨Int.dvd_of_emod_eq_zero, Int.emod_eq_zero_of_dvd⟩
  have cast : ∀ (w k : Nat), ((w % k : Nat) : Int) = (w : Int) % k := fun w k => Int.natCast_emod w k
  have nd : ((MJ.rootsL a (m * n)).map fun w => (w % m, w % n)).Nodup := by
    refine List.Pairwise.map _ (R := fun x y => x ≠ y ∧ x ∈ MJ.rootsL a (m * n) ∧ y ∈ MJ.rootsL a (m * n)) ?_ (List.Pairwise.imp_of_mem (fun hx hy hn => ⟨hn, hx, hy⟩) (MJ.roots_nodup a (m * n)))
    rintro x y ⟨h1, h2, h3⟩ e
    injection e with e1 e2
    have hx := (mem.mp h2).1
    have hy := (mem.mp h3).1
    have d1 : (m : Int) ∣ (x : Int) - y := by
      have := Int.emod_eq_emod_iff_emod_sub_eq_zero.mp (show (x : Int) % m = (y : Int) % m by rw [← cast, ← cast, e1])
      exact Int.dvd_of_emod_eq_zero this
    have d2 : (n : Int) ∣ (x : Int) - y := by
      have := Int.emod_eq_emod_iff_emod_sub_eq_zero.mp (show (x : Int) % n = (y : Int) % n by rw [← cast, ← cast, e2])
      exact Int.dvd_of_emod_eq_zero this
    have d := (both_dvd g).mpr ⟨d1, d2⟩
    rw [Int.ofNat_dvd_left] at d
    rcases Nat.eq_zero_or_pos ((x : Int) - y).natAbs with z | z
    · omega
    · have := Nat.le_of_dvd z d
      omega
  have l1 := len_subG (m := prs (MJ.rootsL a m) (MJ.rootsL a n)) nd fun p hp => by
    obtain ⟨w, hw, rfl⟩ := List.mem_map.mp hp
    obtain ⟨h1, h2⟩ := mem.mp hw
    obtain ⟨h3, h4⟩ := (both_dvd g).mp h2
    refine prs_mem.mpr ⟨mem.mpr ⟨Nat.mod_lt _ m0, ?_⟩, mem.mpr ⟨Nat.mod_lt _ n0, ?_⟩⟩
    · show (m : Int) ∣ ((w % m : Nat) : Int) * ((w % m : Nat) : Int) - a
      rw [cast]
      exact (sq_cong (emod_dvd _ _)).mpr h3
    · show (n : Int) ∣ ((w % n : Nat) : Int) * ((w % n : Nat) : Int) - a
      rw [cast]
      exact (sq_cong (emod_dvd _ _)).mpr h4
  have l2 := len_subG (m := (MJ.rootsL a (m * n)).map fun w => (w % m, w % n)) (prs_nodup (MJ.roots_nodup a m) (MJ.roots_nodup a n)) fun p hp => by
    obtain ⟨h1, h2⟩ := prs_mem.mp hp
    obtain ⟨x, y⟩ := p
    obtain ⟨x1, x2⟩ := mem.mp h1
    obtain ⟨y1, y2⟩ := mem.mp h2
    obtain ⟨z, z1, z2⟩ := crt m0 g (x : Int) (y : Int)
    have e0 := MJ.toN (a := z) mn0
    have lt := Int.emod_lt_of_pos z (show (0 : Int) < ((m * n : Nat) : Int) by omega)
    have dd := emod_dvd z (m * n)
    rw [← e0] at dd lt
    generalize (z % ((m * n : Nat) : Int)).toNat = w at *
    obtain ⟨d1, d2⟩ := (both_dvd g).mp dd
    have w1 : (m : Int) ∣ (w : Int) - x := by
      have := Int.dvd_add d1 z1
      rwa [show (w : Int) - z + (z - x) = w - x by omega] at this
    have w2 : (n : Int) ∣ (w : Int) - y := by
      have := Int.dvd_add d2 z2
      rwa [show (w : Int) - z + (z - y) = w - y by omega] at this
    refine List.mem_map.mpr ⟨w, mem.mpr ⟨by omega, (both_dvd g).mpr ⟨(sq_cong w1).mpr x2, (sq_cong w2).mpr y2⟩⟩, ?_⟩
    have e1 : w % m = x := by
      have := Int.emod_eq_emod_iff_emod_sub_eq_zero.mpr (Int.emod_eq_zero_of_dvd w1)
      rw [← cast, ← cast, Nat.mod_eq_of_lt x1] at this
      omega
    have e2 : w % n = y := by
      have := Int.emod_eq_emod_iff_emod_sub_eq_zero.mpr (Int.emod_eq_zero_of_dvd w2)
      rw [← cast, ← cast, Nat.mod_eq_of_lt y1] at this
      omega
    rw [e1, e2]
  rw [List.length_map] at l1 l2
  rw [prs_len] at l1 l2
  omega
end M72

set_option linter.all false
set_option maxRecDepth 100000
set_option maxHeartbeats 1000000
namespace M84
open MP
/-! rests -/
abbrev Tri := Int × Int × Nat
def sol (t : Tri) (x : Int) : Prop := (t.2.2 : Int) ∣ t.1 * x - t.2.1
def Sol (L : List Tri) (x : Int) : Prop := ∀ t ∈ L, sol t x
/-- a x = b by m, as a plain rest -/
theorem alone_math {a b : Int} {m r : Nat} {u v q : Int} (m0 : 0 < m) (hr : a % m = r) (h : u * r + v * m = (Nat.gcd r m : Nat)) (hb : b = (Nat.gcd r m : Nat) * q) (x : Int) :
    (m : Int) ∣ a * x - b ↔ ((m / Nat.gcd r m : Nat) : Int) ∣ x - q * u % ((m / Nat.gcd r m : Nat) : Int) := by
  have g0 : 0 < Nat.gcd r m := Nat.gcd_pos_of_pos_right r m0
  obtain ⟨k, hk⟩ := Nat.gcd_dvd_right r m
  obtain ⟨s, hs⟩ := Nat.gcd_dvd_left r m
  have ek : m / Nat.gcd r m = k := Nat.div_eq_of_eq_mul_right g0 hk
  rw [ek]
  have ea := Int.mul_ediv_add_emod a m
  rw [hr] at ea
  have hm' : (m : Int) = (Nat.gcd r m : Nat) * k := by rw [← Int.natCast_mul, ← hk]
  have hr' : (r : Int) = (Nat.gcd r m : Nat) * s := by rw [← Int.natCast_mul, ← hs]
  generalize a / (m : Int) = c at *
  generalize hg : Nat.gcd r m = g at *
  have gz : (g : Int) ≠ 0 := by omega
  have bez : u * s + v * k = 1 := by
    have : (g : Int) * (u * s + v * k) = g * 1 := by
      rw [Int.mul_one, ← h, hm', hr']; grind
    exact Int.eq_of_mul_eq_mul_left gz this
  have e1 : a * x - b = g * (s * x - q) + m * (c * x) := by rw [← ea, hr', hb]; grind
  rw [e1]
  have s1 : (m : Int) ∣ g * (s * x - q) + m * (c * x) ↔ (k : Int) ∣ s * x - q := by
    rw [Int.dvd_add_left (Int.dvd_mul_right _ _), hm']
    exact Int.mul_dvd_mul_iff_left gz
  rw [s1]
  have em : (k : Int) ∣ q * u - q * u % (k : Int) := by
    rw [Int.emod_def]
    exact ⟨q * u / k, by omega⟩
  have s2 : (k : Int) ∣ x - q * u % (k : Int) ↔ (k : Int) ∣ x - q * u := by
    rw [show x - q * u % (k : Int) = (x - q * u) + (q * u - q * u % (k : Int)) by omega]
    exact Int.dvd_add_left em
  rw [s2]
  constructor
  · intro hd
    have : x - q * u = u * (s * x - q) + k * (v * x) := by
      have : x = (u * s + v * k) * x := by rw [bez, Int.one_mul]
      conv => lhs; rw [this]
      grind
    rw [this]
    exact Int.dvd_add (Int.dvd_mul_of_dvd_right hd) (Int.dvd_mul_right _ _)
  · intro hd
    have : s * x - q = s * (x - q * u) + k * (-(v * q)) := by
      have : q = (u * s + v * k) * q := by rw [bez, Int.one_mul]
      conv => lhs; rw [this]
      grind
    rw [this]
    exact Int.dvd_add (Int.dvd_mul_of_dvd_right hd) (Int.dvd_mul_right _ _)
theorem alone_none {a b : Int} {m r : Nat} (hr : a % m = r) (h : ¬ ((Nat.gcd r m : Nat) : Int) ∣ b) (x : Int) : ¬ (m : Int) ∣ a * x - b := fun hd => by
  apply h
  have ea := Int.mul_ediv_add_emod a m
  rw [hr] at ea
  have h1 : ((Nat.gcd r m : Nat) : Int) ∣ r := Int.natCast_dvd_natCast.mpr (Nat.gcd_dvd_left r m)
  have h2 : ((Nat.gcd r m : Nat) : Int) ∣ m := Int.natCast_dvd_natCast.mpr (Nat.gcd_dvd_right r m)
  have h3 : ((Nat.gcd r m : Nat) : Int) ∣ a := by
    rw [← ea]
    exact Int.dvd_add (Int.dvd_mul_of_dvd_left h2) h1
  have h4 := Int.dvd_trans h2 hd
  have := Int.dvd_sub (Int.dvd_mul_of_dvd_left (c := x) h3) h4
  rwa [show a * x - (a * x - b) = b by omega] at this
/-! common divisors and multiples -/
theorem lcm_gcd {a b e : Nat} (h : e ∣ Nat.lcm a b) (e0 : 0 < e) : e ∣ Nat.lcm (Nat.gcd a e) (Nat.gcd b e) := by
  have u0 : 0 < Nat.gcd a e := Nat.gcd_pos_of_pos_right a e0
  have w0 : 0 < Nat.gcd (Nat.gcd a e) (Nat.gcd b e) := Nat.gcd_pos_of_pos_left _ u0
  have wa : Nat.gcd (Nat.gcd a e) (Nat.gcd b e) ∣ a := Nat.dvd_trans (Nat.gcd_dvd_left _ _) (Nat.gcd_dvd_left _ _)
  have wb : Nat.gcd (Nat.gcd a e) (Nat.gcd b e) ∣ b := Nat.dvd_trans (Nat.gcd_dvd_right _ _) (Nat.gcd_dvd_left _ _)
  have wv : Nat.gcd (Nat.gcd a e) (Nat.gcd b e) ∣ Nat.gcd b e := Nat.gcd_dvd_right _ _
  have ab : e * Nat.gcd (Nat.gcd a e) (Nat.gcd b e) ∣ a * b := by
    have := Nat.mul_dvd_mul (Nat.dvd_gcd wa wb) h
    rw [Nat.gcd_mul_lcm, Nat.mul_comm] at this
    exact this
  have k1 : e * Nat.gcd (Nat.gcd a e) (Nat.gcd b e) ∣ a * Nat.gcd b e := by
    rw [← Nat.gcd_mul_left a b e]
    exact Nat.dvd_gcd ab (by rw [Nat.mul_comm]; exact Nat.mul_dvd_mul_right wa e)
  have k2 : e * Nat.gcd (Nat.gcd a e) (Nat.gcd b e) ∣ e * Nat.gcd b e := Nat.mul_dvd_mul_left e wv
  have k3 : e * Nat.gcd (Nat.gcd a e) (Nat.gcd b e) ∣ Nat.gcd a e * Nat.gcd b e := by
    rw [← Nat.gcd_mul_right a (Nat.gcd b e) e]
    exact Nat.dvd_gcd k1 k2
  rw [show Nat.gcd a e * Nat.gcd b e = Nat.gcd (Nat.gcd a e) (Nat.gcd b e) * Nat.lcm (Nat.gcd a e) (Nat.gcd b e) from (Nat.gcd_mul_lcm _ _).symm, Nat.mul_comm e] at k3
  exact Nat.dvd_of_mul_dvd_mul_left w0 k3
theorem join_keep {M m k : Nat} {x y z r : Int} (k0 : 0 < k) (hM : ((Nat.gcd M k : Nat) : Int) ∣ r - x) (hm : ((Nat.gcd m k : Nat) : Int) ∣ r - y) (zx : (M : Int) ∣ z - x) (zy : (m : Int) ∣ z - y) : ((Nat.gcd (Nat.lcm M m) k : Nat) : Int) ∣ r - z := by
  have e0 : 0 < Nat.gcd (Nat.lcm M m) k := Nat.gcd_pos_of_pos_right _ k0
  have h := lcm_gcd (Nat.gcd_dvd_left (Nat.lcm M m) k) e0
  have g1 : Nat.gcd M (Nat.gcd (Nat.lcm M m) k) ∣ Nat.gcd M k := Nat.dvd_gcd (Nat.gcd_dvd_left _ _) (Nat.dvd_trans (Nat.gcd_dvd_right _ _) (Nat.gcd_dvd_right _ _))
  have g2 : Nat.gcd m (Nat.gcd (Nat.lcm M m) k) ∣ Nat.gcd m k := Nat.dvd_gcd (Nat.gcd_dvd_left _ _) (Nat.dvd_trans (Nat.gcd_dvd_right _ _) (Nat.gcd_dvd_right _ _))
  have d1 : ((Nat.gcd M k : Nat) : Int) ∣ r - z := by
    rw [show r - z = (r - x) - (z - x) by omega]
    exact Int.dvd_sub hM (Int.dvd_trans (Int.natCast_dvd_natCast.mpr (Nat.gcd_dvd_left M k)) zx)
  have d2 : ((Nat.gcd m k : Nat) : Int) ∣ r - z := by
    rw [show r - z = (r - y) - (z - y) by omega]
    exact Int.dvd_sub hm (Int.dvd_trans (Int.natCast_dvd_natCast.mpr (Nat.gcd_dvd_left m k)) zy)
  rw [Int.ofNat_dvd_left] at d1 d2 ⊢
  exact Nat.dvd_trans h (Nat.lcm_dvd (Nat.dvd_trans g1 d1) (Nat.dvd_trans g2 d2))
theorem join_iff {M m : Nat} {x y z : Int} (zx : (M : Int) ∣ z - x) (zy : (m : Int) ∣ z - y) (w : Int) : ((Nat.lcm M m : Nat) : Int) ∣ w - z ↔ (M : Int) ∣ w - x ∧ (m : Int) ∣ w - y := by
  have h1 : (M : Int) ∣ w - x ↔ (M : Int) ∣ w - z := by
    rw [show w - x = (w - z) + (z - x) by omega]; exact Int.dvd_add_left zx
  have h2 : (m : Int) ∣ w - y ↔ (m : Int) ∣ w - z := by
    rw [show w - y = (w - z) + (z - y) by omega]; exact Int.dvd_add_left zy
  rw [h1, h2, Int.ofNat_dvd_left, Int.ofNat_dvd_left, Int.ofNat_dvd_left, Nat.lcm_dvd_iff]
theorem pair_sol {k l : Nat} {r s : Int} (k0 : 0 < k) (l0 : 0 < l) : (∃ x : Int, (k : Int) ∣ x - r ∧ (l : Int) ∣ x - s) ↔ ((Nat.gcd k l : Nat) : Int) ∣ r - s := by
  constructor
  · rintro ⟨x, h1, h2⟩
    have d1 := Int.dvd_trans (Int.natCast_dvd_natCast.mpr (Nat.gcd_dvd_left k l)) h1
    have d2 := Int.dvd_trans (Int.natCast_dvd_natCast.mpr (Nat.gcd_dvd_right k l)) h2
    have := Int.dvd_sub d2 d1
    rwa [show x - s - (x - r) = r - s by omega] at this
  · rintro ⟨q, hq⟩
    have g0 : 0 < Nat.gcd k l := Nat.gcd_pos_of_pos_left l k0
    obtain ⟨k', hk⟩ := Nat.gcd_dvd_left k l
    obtain ⟨l', hl⟩ := Nat.gcd_dvd_right k l
    have c := Nat.coprime_div_gcd_div_gcd g0
    rw [Nat.div_eq_of_eq_mul_right g0 hk, Nat.div_eq_of_eq_mul_right g0 hl] at c
    have k1 : 0 < k' := by
      rcases Nat.eq_zero_or_pos k' with z | z
      · rw [z] at hk; omega
      · exact z
    obtain ⟨z, z1, z2⟩ := M72.crt k1 c (0 : Int) q
    refine ⟨s + ((Nat.gcd k l : Nat) : Int) * (q - z), ?_, ?_⟩
    · have e : (k : Int) = (Nat.gcd k l : Nat) * k' := by rw [← Int.natCast_mul, ← hk]
      rw [show s + ((Nat.gcd k l : Nat) : Int) * (q - z) - r = (Nat.gcd k l : Nat) * (-(z - 0)) by grind, e]
      exact Int.mul_dvd_mul_left _ (Int.dvd_neg.mpr z1)
    · have e : (l : Int) = (Nat.gcd k l : Nat) * l' := by rw [← Int.natCast_mul, ← hl]
      rw [show s + ((Nat.gcd k l : Nat) : Int) * (q - z) - s = (Nat.gcd k l : Nat) * (-(z - q)) by grind, e]
      exact Int.mul_dvd_mul_left _ (Int.dvd_neg.mpr z2)
/-- a class of rests is one thing -/
theorem class_uniq {x y : Int} {M N : Nat} (M0 : 0 < M) (N0 : 0 < N) (x0 : 0 ≤ x) (x1 : x < M) (y0 : 0 ≤ y) (y1 : y < N) (h : ∀ z : Int, (M : Int) ∣ z - x ↔ (N : Int) ∣ z - y) : x = y ∧ M = N := by
  have a1 := (h x).mp (by rw [Int.sub_self]; exact Int.dvd_zero _)
  have a2 := (h y).mpr (by rw [Int.sub_self]; exact Int.dvd_zero _)
  have b1 := (h (x + M)).mp ⟨1, by omega⟩
  have b2 := (h (y + N)).mpr ⟨1, by omega⟩
  have d1 : (N : Int) ∣ M := by
    have := Int.dvd_sub b1 a1
    rwa [show x + M - y - (x - y) = M by omega] at this
  have d2 : (M : Int) ∣ N := by
    have := Int.dvd_sub b2 a2
    rwa [show y + N - x - (y - x) = N by omega] at this
  have e : M = N := Nat.dvd_antisymm (Int.natCast_dvd_natCast.mp d2) (Int.natCast_dvd_natCast.mp d1)
  subst e
  refine ⟨?_, rfl⟩
  obtain ⟨c, hc⟩ := a2
  have : c = 0 := by
    rcases Int.lt_trichotomy c 0 with z | z | z
    · have : (M : Int) * c ≤ M * (-1) := Int.mul_le_mul_of_nonneg_left (by omega) (by omega)
      omega
    · exact z
    · have : (M : Int) * 1 ≤ M * c := Int.mul_le_mul_of_nonneg_left (by omega) (by omega)
      omega
  subst this; omega
theorem moved_iff {a b y : Int} {m : Nat} (x : Int) : sol (a, b + a * y, m) x ↔ sol (a, b, m) (x - y) := by
  unfold sol
  show (m : Int) ∣ a * x - (b + a * y) ↔ (m : Int) ∣ a * (x - y) - b
  rw [show a * x - (b + a * y) = a * (x - y) - b by grind]
theorem plain_iff {a b c : Int} {m : Nat} (h : (m : Int) ∣ c * a - 1) (x : Int) : sol (1, b * (c % m), m) x ↔ sol (a, b, m) x := by
  unfold sol
  show (m : Int) ∣ 1 * x - b * (c % m) ↔ (m : Int) ∣ a * x - b
  obtain ⟨d, hd⟩ := h
  have ec := Int.mul_ediv_add_emod c m
  generalize c / (m : Int) = e at *
  generalize c % (m : Int) = f at *
  constructor
  · rintro ⟨q, hq⟩
    refine ⟨a * q + b * d - b * e * a, ?_⟩
    have : a * x - b = a * (1 * x - b * f) + b * (f * a - 1) := by grind
    rw [this, hq, show f = c - m * e by omega]
    have : (c - m * e) * a - 1 = m * d - m * e * a := by rw [← hd]; grind
    rw [this]; grind
  · rintro ⟨q, hq⟩
    refine ⟨f * q - x * (d - e * a), ?_⟩
    have : 1 * x - b * f = f * (a * x - b) - x * (f * a - 1) := by grind
    rw [this, hq, show f = c - m * e by omega]
    have : (c - m * e) * a - 1 = m * d - m * e * a := by rw [← hd]; grind
    rw [this]; grind
end M84

set_option Elab.async false
set_option linter.all false
set_option maxRecDepth 100000
set_option maxHeartbeats 4000000
set_option pp.maxSteps 3000
namespace My
open PySem PySem.Spec PyProof.Rows L2 Ab
def topS (i : Nat) : Stmt := PySem.Challenge.pw_numberwright_k84_whole_rests_moved.main.body.getD i (.Pass ⟨0, 0, 0, 0⟩)
abbrev T0 : Addr → Prop := fun _ => False
local macro_rules | `(tactic| walk_at "rfl1") => `(tactic| first | rfl | exact rfl)
local macro_rules | `(tactic| walk_at "ab") => `(tactic| first
  | with_reducible refine toD_d ?_
  | ((with_reducible refine' de_var ?hv ?_); (case' hv => exact rfl))
  | with_reducible refine de_ci ?_
  | with_reducible refine de_I0 ?_
  | with_reducible refine de_IC ?_
  | with_reducible refine de_B0 ?_
  | with_reducible refine da_cons ?_
  | with_reducible refine da_nil ?_
  | with_reducible refine dt_test ?_
  | with_reducible refine de_call ?_
  | with_reducible refine de_ix ?_
  | with_reducible refine de_tup ?_
  | with_reducible refine de_eq (dd_of ?_)
  | with_reducible refine de_ne (dd_of ?_)
  | with_reducible refine (dd_of ?_)
  | with_reducible refine de_U ?_
  | with_reducible refine de_gcd ?_
  | with_reducible refine de_int ?_
  | with_reducible refine de_abs ?_
  | with_reducible refine de_len ?_
  | with_reducible refine de_min2 ?_
  | with_reducible refine de_max2 ?_
  | with_reducible refine de_sum ?_
  | with_reducible refine de_cb ?_
  | with_reducible refine de_cn ?_
  | with_reducible refine de_cs ?_
  | with_reducible refine de_isN (dd_of ?_)
  | with_reducible refine de_notN (dd_of ?_)
  | with_reducible refine de_inI ?_
  | with_reducible refine de_notV ?_
  | with_reducible refine de_tupOf ?_
  | with_reducible refine dt_B ?_
  | with_reducible refine dt_not ?_
  | with_reducible refine dt_yes ?_
  | with_reducible refine dn_list ?_
  | with_reducible refine dn_lst ?_
  | with_reducible refine ds_ret ?_
  | with_reducible refine ds_retN ?_
  | with_reducible refine ds_if ?_
  | with_reducible refine ds_next ?_
  | with_reducible refine ds_par ?_
  | ((with_reducible refine' ds_aug ?hv ?_); (case' hv => exact rfl))
  | ((with_reducible refine' ds_augC ?hv ?_); (case' hv => exact rfl))
  | with_reducible refine dg_name ?_
  | ((with_reducible refine' dg_tup ?hv ?_); (case' hv => exact rfl))
  | with_reducible refine dgs_cons ?_
  | with_reducible refine dgs_nil ?_
  | ((with_reducible refine' ds_setP ?hv ?_); (case' hv => exact ⟨_, rfl⟩))
  | ((with_reducible refine' ds_setO ?hv ?_); (case' hv => exact ⟨_, rfl⟩))
  | ((with_reducible refine' ds_app ?_ ?hv); (case' hv => exact ⟨_, rfl⟩))
  | with_reducible refine ds_own (dn_lst ?_)
  | with_reducible refine ds_own (dn_list ?_)
  | with_reducible refine ds_own (dn_sl ?_)
  | with_reducible refine ds_dnew ?_
  | with_reducible refine ds_dput ?_
  | with_reducible refine de_dnotin ?_
  | with_reducible refine de_din ?_
  | with_reducible refine de_dget ?_
  | with_reducible refine ds_asg ?_
  | with_reducible refine ds_par3 ?_
  | with_reducible refine ds_drop ?_
  | with_reducible refine de_catT ?_
  | with_reducible refine de_revT ?_
  | with_reducible refine de_slA ?_
  | with_reducible refine da_star ?_
  | with_reducible refine de_isi ?_
  | with_reducible refine Exists.intro _ (And.intro isi_ii ?_)
  | with_reducible refine Exists.intro _ (And.intro isi_ib ?_)
  | with_reducible refine Exists.intro _ (And.intro isi_tt ?_)
  | with_reducible refine Exists.intro _ (And.intro isi_ss ?_)
  | with_reducible refine de_chain ?_
  | ((with_reducible refine' de_callP ?hv ?_); (case' hv => exact rfl))
  | with_reducible refine dn_sl ?_
  | with_reducible refine de_slT ?_
  | with_reducible refine do_none ?_
  | with_reducible refine do_some ?_
  | with_reducible refine de_ofN (dn_sl ?_)
  | with_reducible refine de_ofN (dn_list ?_)
  | with_reducible refine de_ofN (dn_lst ?_)
  | with_reducible refine iteF ?_
  | ((with_reducible refine' dic_get ?hv ?_); (case' hv => exact rfl))
  | ((with_reducible refine' own_get ?hv ?_); (case' hv => exact rfl))
  | with_reducible refine iteT ?_
  | with_reducible refine ite_nt ?_
  | with_reducible refine ite_nf ?_
  | with_reducible refine Exists.intro _ (And.intro rfl ?_)
  | with_reducible refine Exists.intro _ (Exists.intro _ (And.intro rfl ?_))
  | with_reducible refine Exists.intro _ (And.intro seqIn.mkT ?_)
  | with_reducible refine Exists.intro _ (And.intro seqIn.mkL ?_)
  | with_reducible refine Exists.intro _ (And.intro lstIn.mkL ?_)
  | ((with_reducible refine' Exists.intro _ (And.intro (seqIn.mkP ?hv) ?_)); (case' hv => exact rfl))
  | ((with_reducible refine' Exists.intro _ (And.intro (seqIn.mkO ?hv) ?_)); (case' hv => exact rfl))
  | ((with_reducible refine' Exists.intro _ (And.intro (lstIn.mkO ?hv) ?_)); (case' hv => exact rfl))
  | ((with_reducible refine' de_own ?hv ?hm ?_); (case' hv => exact rfl); (case' hm => exact rfl))
  | ((with_reducible refine' toD_o ?hv ?_); (case' hv => exact rfl)))
local macro_rules | `(tactic| walk_at "bd") => `(tactic| repeat' first
  | assumption
  | exact Bd.lit (by decide)
  | apply Bd.mul
  | apply Bd.add
  | apply Bd.sub
  | apply Bd.neg)
local macro_rules | `(tactic| walk_at "sd") => `(tactic| first
  | (with_reducible assumption)
  | ((with_reducible refine cmulR ?_); exact ⟨by decide, by decide⟩)
  | ((with_reducible refine cmulL ?_); exact ⟨by decide, by decide⟩)
  | exact len_ok rfl
  | ((with_reducible refine' cpow ?ha ?hb ?hc) <;> decide)
  | exact len_lt rfl
  | exact shaped_int _
  | exact shaped_bool _
  | ((with_reducible refine shaped_str ?_); decide +kernel)
  | exact shaped_pl (n := 4) (by simp [Pl])
  | omega
  | assumption
  | exact cdivW (by first | decide | omega) (Bd.lit (by decide)) (by decide)
  | ((refine' cmulW ?ha ?hb ?hc); (case' ha => walk_at "bd"); (case' hb => walk_at "bd"); (case' hc => first | decide | omega))
  | (show (0 : Int) < _; first | decide | omega | assumption)
  | rfl)
local macro_rules | `(tactic| walk_at "st") => `(tactic| first
  | walk_at "ab"
  | ((with_reducible refine' And.intro ?hs ?_); (case hs => walk_at "sd"))
  | exact len_ok rfl)
local macro_rules | `(tactic| walk_at "br") => `(tactic| first
  | with_reducible refine de_if ?_
  | with_reducible refine dt_and ?_
  | with_reducible refine dt_or ?_
  | with_reducible refine de_andV ?_
  | with_reducible refine de_orV ?_)
local macro_rules | `(tactic| walk_at "go") => `(tactic| repeat first | walk_at "st" | with_reducible refine ds_seq ?_ | walk_at "br")
local macro_rules | `(tactic| walk_at "gp") => `(tactic| repeat first | walk_at "st" | with_reducible refine ds_seq ?_)
local macro_rules | `(tactic| walk_at "ge") => `(tactic| repeat first | walk_at "st" | walk_at "br")
abbrev s_law_pool : Stmt := topS 22
theorem sc_law_pool : FnScope ["script", "salt", "cell"] ["script"] (defScope s_law_pool) := ⟨rfl, rfl, rfl, by decide +kernel, rfl, by decide +kernel, by decide +kernel⟩
abbrev s_law_spread : Stmt := topS 23
theorem sc_law_spread : FnScope ["cell", "blended", "whole_sum", "k"] ["cell"] (defScope s_law_spread) := ⟨rfl, rfl, rfl, by decide +kernel, rfl, by decide +kernel, by decide +kernel⟩
abbrev s_law_draw : Stmt := topS 24
theorem sc_law_draw : FnScope ["pool", "many", "cell", "blended", "value"] ["pool", "many"] (defScope s_law_draw) := ⟨rfl, rfl, rfl, by decide +kernel, rfl, by decide +kernel, by decide +kernel⟩

def φ_law_spread (ds : List PyData) (k : PyData → Prop) : Prop := ∃ c : Int, ds = [.int c] ∧ ∀ r : Int, k (.int r)
theorem φ_law_spread_len (ds k) (h : φ_law_spread ds k) : ds.length = 1 := by obtain ⟨c, rfl, _⟩ := h; rfl
section
local macro_rules | `(tactic| walk_at "ab") => `(tactic| with_reducible refine ds_retF ?_)
variable {P : Program} {w : World} {K : PySem.W.Frag} {mg : Str → Option Value} {base : Heap} {T : Addr → Prop}
theorem ok_law_pool {f : Addr} {fd : FuncData} (F : Fun K "_law_pool" "_law_pool" s_law_pool f fd) (z_list : mg "list" = none) (z_int : mg "int" = none) : FnOk P w K mg base CX0 1 f fd ["script"] (spPool K T) := by
  refine mkPool (k := 0) F sc_law_pool rfl (fun cdv A outer s H E hr => ?_)
  refine ⟨_, (pss_cons (ps_set (i := 1) sc_law_pool.nd rfl (.inl rfl) pe_int)
      (pss_cons (ps_for PassesOwn.never rfl (pi_list (pe_slice sl_list (pv 0) po_none (po_some pe_int))) (pg_name (i := 2) sc_law_pool.nd rfl (.inl rfl)) (pss_one (ps_set (i := 1) sc_law_pool.nd rfl (.inl rfl) (pe_op op_mod (pe_callTy cr_int (by rfl) z_int (by decide +kernel) (pa_cons (pe_op op_add (pe_op op_mul (pv 1) pe_int) (pv 2)) pa_nil)) pe_int))))
      (pss_one (ps_ret (pe_lst (pa_cons (pe_callTy cr_list (by rfl) z_list (by decide +kernel) (pa_cons (pv 0) pa_nil)) (pa_cons pe_int (pa_cons pe_int (pa_cons pe_int (pa_cons (pv 1) pa_nil)))))))))), fun ns hns => ?_⟩
  show Ds K ⟨none, T⟩ _ [Sl.dat _, Sl.no, Sl.no] _
  try dsimp only [L2.cxOf, L2.Cx.nox, L2.Cx.wish]
  walk_at "go"
  refine ds_forL (fun xs j δ' => ∃ (a : Int) (s2 : Sl), δ' = [.dat (.list (ns.map PyData.int)), .dat (.int a), s2]) ?_
  walk_at "go"
  obtain ⟨ms, e, _⟩ := cut_ints ns none (some 63)
  rw [e]
  refine ⟨⟨7, _, rfl⟩, fun j δ' hj hp => ?_, fun δ' hp => ?_⟩
  · show Dg K _ (gName 2) ((ms.map PyData.int).getD j .none) _ _
    rw [getD_ints hj]
    obtain ⟨a, s2, rfl⟩ := hp
    walk_at "go"
    exact ⟨_, _, rfl⟩
  · obtain ⟨a, s2, rfl⟩ := hp
    walk_at "go"
    exact ⟨_, rfl⟩
end
section
variable {P : Program} {w : World} {K : PySem.W.Frag} {mg : Str → Option Value} {base : Heap} {T : Addr → Prop}
theorem ok_law_spread {f : Addr} {fd : FuncData} (F : Fun K "_law_spread" "_law_spread" s_law_spread f fd) (z_range : mg "range" = none) (z_int : mg "int" = none) : FnOk P w K mg base CX0 1 f fd ["cell"] (spP K T φ_law_spread) := by
  refine mkFn (k := 0) F sc_law_spread φ_law_spread_len (fun cdv A outer s H E hr => ?_)
  refine ⟨_, (pss_cons (ps_set (i := 1) sc_law_spread.nd rfl (.inl rfl) (pe_op op_mod (pe_callTy cr_int (by rfl) z_int (by decide +kernel) (pa_cons (pv 0) pa_nil)) pe_int))
      (pss_cons (ps_set (i := 2) sc_law_spread.nd rfl (.inl rfl) pe_int)
      (pss_cons (ps_for PassesOwn.never rfl (pi_range1 (by rfl) z_range (pa_cons pe_int pa_nil)) (pg_name (i := 3) sc_law_spread.nd rfl (.inl rfl)) (pss_cons (ps_set (i := 1) sc_law_spread.nd rfl (.inl rfl) (pe_op op_mod (pe_callTy cr_int (by rfl) z_int (by decide +kernel) (pa_cons (pe_op op_add (pe_op op_add (pe_op op_mul (pv 1) pe_int) pe_int) (pv 3)) pa_nil)) pe_int))
      (pss_one (ps_set (i := 2) sc_law_spread.nd rfl (.inl rfl) (pe_op op_add (pe_op op_mul (pv 2) pe_int) (pv 1))))))
      (pss_one (ps_ret (pv 2)))))), fun ds kk h => ?_⟩
  obtain ⟨c, rfl, hk⟩ := h
  show Ds K ⟨none, T⟩ _ [Sl.dat _, Sl.no, Sl.no, Sl.no] _
  try dsimp only [L2.cxOf, L2.Cx.nox, L2.Cx.wish]
  walk_at "go"
  refine ds_forR1 (fun n j δ' => ∃ (a b c : Int) (s3 : Sl), δ' = [.dat (.int a), .dat (.int b), .dat (.int c), s3]) ?_
  walk_at "go"
  refine ⟨⟨_, _, _, _, rfl⟩, fun j δ' hj hp => ?_, fun δ' hp => ?_⟩
  · obtain ⟨a, b, c, s3, rfl⟩ := hp
    walk_at "go"
    exact ⟨_, _, _, _, rfl⟩
  · obtain ⟨a, b, c, s3, rfl⟩ := hp
    walk_at "go"
    exact hk _
end
section
local macro_rules | `(tactic| walk_at "ab") => `(tactic| with_reducible refine ds_retS ?_)
variable {P : Program} {w : World} {K : PySem.W.Frag} {mg : Str → Option Value} {base : Heap} {T : Addr → Prop}
theorem ok_law_draw {f : Addr} {fd : FuncData} (F : Fun K "_law_draw" "_law_draw" s_law_draw f fd) (C_law_spread : Cal P w K mg base "_law_spread" 1 ["cell"] (spP K T φ_law_spread)) (z_int : mg "int" = none) (z_len : mg "len" = none) : FnOk P w K mg base CX0 2 f fd ["pool", "many"] (spPP K T φ_law_draw) := by
  refine mkDraw (k := 1) F sc_law_draw rfl (fun cdv A outer s H E hr => ?_)
  refine ⟨_, (pss_cons (ps_if (PW.pt (pw_and (pt_cmpR op_le (pe_ix ix_sq (pv 0) pe_int (fun _ _ => rfl)) pe_int (nomark _)) (pw_and1 (pt_cmpR op_lt (pe_ix ix_sq (pv 0) pe_int (fun _ _ => rfl)) (pe_callB cr_len (by rfl) z_len PySem.boot_len (pa_cons (pe_ix ix_sq (pv 0) pe_int (fun _ _ => rfl)) pa_nil)) (nomark _))))) (pss_cons (ps_set (i := 2) sc_law_draw.nd rfl (.inl rfl) (pe_ix ix_sq (pe_ix ix_sq (pv 0) pe_int (fun _ _ => rfl)) (pe_ix ix_sq (pv 0) pe_int (fun _ _ => rfl)) (fun _ _ => rfl)))
      (pss_cons (ps_asg (pe_op op_add (pe_ix ix_sq (pv 0) pe_int (fun _ _ => rfl)) pe_int) (pg_sub (pv 0) pe_int set_list))
      (pss_cons (ps_asg (pv 2) (pg_sub (pv 0) pe_int set_list))
      (pss_one (ps_if (pt_cmpR op_lt (pv 2) pe_int (nomark _)) (pss_one (ps_asg (pe_cl C_law_spread hr (by decide) (by rfl) (pa_cons (pv 2) pa_nil)) (pg_sub (pv 0) pe_int set_list))) pss_nil))))) pss_nil)
      (pss_cons (ps_asg (pe_op op_add (pe_ix ix_sq (pv 0) pe_int (fun _ _ => rfl)) pe_int) (pg_sub (pv 0) pe_int set_list))
      (pss_cons (ps_if (pt_cmpR op_le (pe_ix ix_sq (pv 0) pe_int (fun _ _ => rfl)) pe_int (nomark _)) (pss_cons (ps_set (i := 3) sc_law_draw.nd rfl (.inl rfl) (pe_op op_mod (pe_callTy cr_int (by rfl) z_int (by decide +kernel) (pa_cons (pe_op op_add (pe_op op_add (pe_op op_mul (pe_ix ix_sq (pv 0) pe_int (fun _ _ => rfl)) pe_int) (pe_op op_mul (pe_ix ix_sq (pv 0) pe_int (fun _ _ => rfl)) pe_int)) pe_int) pa_nil)) pe_int))
      (pss_cons (ps_set (i := 3) sc_law_draw.nd rfl (.inl rfl) (pe_op op_mod (pe_callTy cr_int (by rfl) z_int (by decide +kernel) (pa_cons (pe_op op_add (pe_op op_mul (pv 3) pe_int) (pe_ix ix_sq (pv 0) pe_int (fun _ _ => rfl))) pa_nil)) pe_int))
      (pss_one (ps_ret (pe_op op_mod (pe_op op_fdivW (pv 3) pe_int) (pv 1)))))) pss_nil)
      (pss_cons (ps_set (i := 4) sc_law_draw.nd rfl (.inl rfl) (pe_op op_mod (pe_callTy cr_int (by rfl) z_int (by decide +kernel) (pa_cons (pe_ix ix_sq (pv 0) pe_int (fun _ _ => rfl)) pa_nil)) (pv 1)))
      (pss_cons (ps_asg (pe_op op_fdivW (pe_ix ix_sq (pv 0) pe_int (fun _ _ => rfl)) (pv 1)) (pg_sub (pv 0) pe_int set_list))
      (pss_one (ps_ret (pv 4)))))))), fun p ns i c kn salt m m0 m9 => ?_⟩
  show Ds K ⟨some p, T⟩ _ [Sl.pown _, Sl.dat _, Sl.no, Sl.no, Sl.no] _
  try dsimp only [L2.cxOf, L2.Cx.nox, L2.Cx.wish]
  refine ds_cut (fun δ' => ∃ (i : Nat) (c kn salt : Int) (s2 : Sl), δ' = [.pown [.list (ns.map PyData.int), .int i, .int c, .int kn, .int salt], .dat (.int m), s2, .no, .no]) ?_ ?_
  · walk_at "go"
    refine ite_dec (fun h1 => ?_) (fun h1 => ?_)
    · walk_at "go"
      rw [List.length_map]
      refine ite_dec (fun h2 => ?_) (fun h2 => ?_)
      · walk_at "go"
        refine ⟨_, at_ints (by omega), ?_⟩
        walk_at "go"
        refine ite_dec (fun h3 => ?_) (fun h3 => ?_)
        · walk_at "go"
          refine ⟨_, rfl, fun r => ?_⟩
          walk_at "go"
          exact ⟨i + 1, r, kn, salt, _, rfl⟩
        · walk_at "go"
          exact ⟨i + 1, _, kn, salt, _, rfl⟩
      · walk_at "go"
        exact ⟨i, c, kn, salt, _, rfl⟩
    · walk_at "go"
      exact ⟨i, c, kn, salt, _, rfl⟩
  · rintro δ' ⟨i, c, kn, salt, s2, rfl⟩
    walk_at "go"
    refine ite_dec (fun h1 => ?_) (fun h1 => ?_)
    · walk_at "go"
      exact ⟨⟨_, rfl, Int.emod_nonneg _ (by omega), Int.emod_lt_of_pos _ m0⟩, i, c, _, salt, rfl⟩
    · walk_at "go"
      refine ⟨wide_div m0 m9 (by decide) (by decide), ?_⟩
      walk_at "go"
      exact ⟨⟨_, rfl, Int.emod_nonneg _ (by omega), Int.emod_lt_of_pos _ m0⟩, i, _, _, salt, rfl⟩
end

theorem foldl_take {α : Type} (f : Int → α → Int) (z : Int) (ns : List α) (d : α) {j : Nat} (h : j < ns.length) : (ns.take (j + 1)).foldl f z = f ((ns.take j).foldl f z) (ns.getD j d) := by
  rw [List.take_add_one, List.getElem?_eq_getElem h, List.foldl_append, List.getD_eq_getElem?_getD, List.getElem?_eq_getElem h]
  rfl

def φ_law (ds : List PyData) (k : PyData → Prop) : Prop := ∃ ns : List Int, ds = [.list (ns.map PyData.int)] ∧ ns.length ≤ 63 ∧ k (.bool true)
theorem φ_law_len (ds k) (h : φ_law ds k) : ds.length = 1 := by obtain ⟨a, rfl, _⟩ := h; rfl
abbrev s_is_integer : Stmt := topS 2
theorem sc_is_integer : FnScope ["value"] ["value"] (defScope s_is_integer) := ⟨rfl, rfl, rfl, by decide +kernel, rfl, by decide +kernel, by decide +kernel⟩
abbrev s_is_row : Stmt := topS 4
theorem sc_is_row : FnScope ["value", "length", "one"] ["value", "length"] (defScope s_is_row) := ⟨rfl, rfl, rfl, by decide +kernel, rfl, by decide +kernel, by decide +kernel⟩
abbrev s_is_within : Stmt := topS 3
theorem sc_is_within : FnScope ["value", "low", "high"] ["value", "low", "high"] (defScope s_is_within) := ⟨rfl, rfl, rfl, by decide +kernel, rfl, by decide +kernel, by decide +kernel⟩
abbrev s_is_worded : Stmt := topS 5
theorem sc_is_worded : FnScope ["value", "word", "length"] ["value", "word", "length"] (defScope s_is_worded) := ⟨rfl, rfl, rfl, by decide +kernel, rfl, by decide +kernel, by decide +kernel⟩
abbrev s_two_factors : Stmt := topS 7
theorem sc_two_factors : FnScope ["a", "b", "old", "new", "times", "one", "two"] ["a", "b"] (defScope s_two_factors) := ⟨rfl, rfl, rfl, by decide +kernel, rfl, by decide +kernel, by decide +kernel⟩
abbrev s_common : Stmt := topS 8
theorem sc_common : FnScope ["row", "found", "one"] ["row"] (defScope s_common) := ⟨rfl, rfl, rfl, by decide +kernel, rfl, by decide +kernel, by decide +kernel⟩
abbrev s_multiple : Stmt := topS 9
theorem sc_multiple : FnScope ["row", "found", "one"] ["row"] (defScope s_multiple) := ⟨rfl, rfl, rfl, by decide +kernel, rfl, by decide +kernel, by decide +kernel⟩
abbrev s_inverse : Stmt := topS 20
theorem sc_inverse : FnScope ["a", "m", "g", "factor", "other"] ["a", "m"] (defScope s_inverse) := ⟨rfl, rfl, rfl, by decide +kernel, rfl, by decide +kernel, by decide +kernel⟩
abbrev s_alone : Stmt := topS 11
theorem sc_alone : FnScope ["triple", "a", "b", "m", "g", "factor", "other"] ["triple"] (defScope s_alone) := ⟨rfl, rfl, rfl, by decide +kernel, rfl, by decide +kernel, by decide +kernel⟩
abbrev s_joined : Stmt := topS 12
theorem sc_joined : FnScope ["one", "two", "x", "m", "y", "k", "g", "factor", "other", "both"] ["one", "two"] (defScope s_joined) := ⟨rfl, rfl, rfl, by decide +kernel, rfl, by decide +kernel, by decide +kernel⟩
abbrev s_parting : Stmt := topS 13
theorem sc_parting : FnScope ["one", "two"] ["one", "two"] (defScope s_parting) := ⟨rfl, rfl, rfl, by decide +kernel, rfl, by decide +kernel, by decide +kernel⟩
abbrev s_rest_paper : Stmt := topS 14
theorem sc_rest_paper : FnScope ["rests", "plain", "i", "one", "j", "two", "found", "triple"] ["rests"] (defScope s_rest_paper) := ⟨rfl, rfl, rfl, by decide +kernel, rfl, by decide +kernel, by decide +kernel⟩
abbrev s_check_rests : Stmt := topS 15
theorem sc_check_rests : FnScope ["rests", "value", "last", "one", "two"] ["rests", "value"] (defScope s_check_rests) := ⟨rfl, rfl, rfl, by decide +kernel, rfl, by decide +kernel, by decide +kernel⟩
abbrev s_law_int : Stmt := topS 25
theorem sc_law_int : FnScope ["pool", "most"] ["pool", "most"] (defScope s_law_int) := ⟨rfl, rfl, rfl, by decide +kernel, rfl, by decide +kernel, by decide +kernel⟩
abbrev s_law_rests : Stmt := topS 26
theorem sc_law_rests : FnScope ["pool", "many", "most", "x", "found", "k", "m", "a", "b"] ["pool"] (defScope s_law_rests) := ⟨rfl, rfl, rfl, by decide +kernel, rfl, by decide +kernel, by decide +kernel⟩
abbrev s_law : Stmt := topS 27
theorem sc_law : FnScope ["script", "pool", "rests", "by", "paper", "a", "b", "m", "moved", "other", "turned", "plain", "x", "n", "one", "two"] ["script"] (defScope s_law) := ⟨rfl, rfl, rfl, by decide +kernel, rfl, by decide +kernel, by decide +kernel⟩
open Gx

theorem at0 (x : PyData) (xs : List PyData) : atI (x :: xs) 0 = some x := by
  unfold atI
  rw [show ixN (x :: xs).length 0 = some 0 by unfold ixN; rw [if_pos (by decide), if_pos (by simp)]; rfl]
  rfl

def φ_two_factors (ds : List PyData) (k : PyData → Prop) : Prop := ∃ a b : Nat, ds = [.int a, .int b] ∧ (a < 2 ^ 200 ∧ b < 2 ^ 200) ∧ ∀ x y : Int, x * a + y * b = (Nat.gcd a b : Nat) → x.natAbs ≤ b + 1 → y.natAbs ≤ a + 1 → k (.tuple [.int (Nat.gcd a b : Nat), .int x, .int y])
theorem φ_two_factors_len (ds k) (h : φ_two_factors ds k) : ds.length = 2 := by obtain ⟨a, b, rfl, _⟩ := h; rfl
section
variable {P : Program} {w : World} {K : PySem.W.Frag} {mg : Str → Option Value} {base : Heap} {T : Addr → Prop}
theorem ok_two_factors {f : Addr} {fd : FuncData} {cT PT : Addr} (F : FunC K "two_factors" "two_factors" s_two_factors f fd cT) (TB : GxR.TabB base mg cT PT) (hT : T PT) (z_tuple : mg "tuple" = none) (z_zip : mg "zip" = none) : FnOk P w K mg base CX0 1 f fd ["a", "b"] (spP K T φ_two_factors) := by
  refine mkFnC (k := 0) F sc_two_factors φ_two_factors_len (fun A outer s H E hr => ?_)
  refine ⟨_, (pss_cons (ps_par (i := 2) (j := 3) rfl sc_two_factors.nd rfl rfl (by decide) rfl rfl (pa_cons (pe_tup (pa_cons (pv 0) (pa_cons pe_int (pa_cons pe_int pa_nil)))) (pa_cons (pe_tup (pa_cons (pv 1) (pa_cons pe_int (pa_cons pe_int pa_nil)))) pa_nil)) rfl)
      (pss_cons (ps_while PassesOwn.never (pt_cmpR (op_neD hr.units) (pe_ix ix_sq (pv 3) pe_int (fun _ _ => rfl)) pe_int (nomark _)) (pss_cons (ps_set (i := 4) sc_two_factors.nd rfl (.inr rfl) (pe_op op_fdivW (pe_ix ix_sq (pv 2) pe_int (fun _ _ => rfl)) (pe_ix ix_sq (pv 3) pe_int (fun _ _ => rfl))))
      (pss_one (ps_par (i := 2) (j := 3) rfl sc_two_factors.nd rfl rfl (by decide) rfl rfl (pa_cons (pv 3) (pa_cons (Gx.pe_tupG2 (js := [4]) (nm := ["times"]) (C := (fun cs n m => CMulW (cs.getD 0 0) (m))) (f := fun cs n m => ((n) - ((cs.getD 0 0) * (m)))) hr (by rfl) z_tuple (by rfl) z_zip TB rfl (gs_by (sc := defScope s_two_factors) rfl (by decide +kernel)) (by decide) (pa_cons (pv 2) (pa_cons (pv 3) pa_nil)) (.cons ⟨rfl, .inl rfl, rfl⟩ .nil) (fun cs n m hl hC => match cs, hl, hC with | [c0], _, hC => (eg_sub (eg_name List.mem_cons_self) (eg_mul (eg_name (List.mem_cons_of_mem _ (List.mem_cons_of_mem _ List.mem_cons_self))) (eg_name (List.mem_cons_of_mem _ List.mem_cons_self)) hC)))) pa_nil)) rfl))))
      (pss_one (ps_ret (pe_ifExp (pt_cmpR op_ge (pe_ix ix_sq (pv 2) pe_int (fun _ _ => rfl)) pe_int (nomark _)) (pv 2) (Gx.pe_tupG (js := []) (nm := []) (C := (fun cs n => True)) (f := fun cs n => (-(n))) hr (by rfl) z_tuple TB rfl (gs_by (sc := defScope s_two_factors) rfl (by decide +kernel)) (pv 2) .nil (fun cs n hl hC => match cs, hl, hC with | [], _, hC => (eg_neg (eg_name List.mem_cons_self))))))))), fun ds kk h => ?_⟩
  obtain ⟨a, b, rfl, ⟨ha, hb⟩, hk⟩ := h
  show Ds K ⟨none, T⟩ _ [Sl.dat _, Sl.dat _, Sl.no, Sl.no, Sl.no, Sl.no, Sl.no] _
  try dsimp only [L2.cxOf, L2.Cx.nox, L2.Cx.wish]
  walk_at "go"
  refine ds_while (fun t δ' => ∃ (r0 r1 : Nat) (x0 y0 x1 y1 : Int) (s4 : Sl), δ' = [.dat (.int a), .dat (.int b), .dat (.tuple [.int r0, .int x0, .int y0]), .dat (.tuple [.int r1, .int x1, .int y1]), s4, .no, .no] ∧ MT.TF a b r0 x0 y0 r1 x1 y1 ∧ r1 ≤ t ∧ r0 < 2 ^ 200 ∧ r1 < 2 ^ 200) ⟨b, a, b, 1, 0, 0, 1, .no, rfl, MT.tf_start a b, Nat.le_refl b, ha, hb⟩ (fun t δ' hw => ?_)
  obtain ⟨r0, r1, x0, y0, x1, y1, s4, rfl, I, ht, h0, h1⟩ := hw
  have bw : ∀ {z : Int} {n : Nat}, z.natAbs ≤ n + 1 → n < 2 ^ 200 → Bd 202 z := fun h h' => by unfold Bd; omega
  walk_at "go"
  refine ite_neI (fun c => ?_) (fun c => ?_)
  · have p1 : 0 < r1 := by omega
    obtain ⟨J, ej⟩ := MT.tf_step I p1
    have lt := Nat.mod_lt r0 p1
    have dl := Nat.div_le_self r0 r1
    have dv : CDivW (r0 : Int) (r1 : Int) := cdivW (n := 200) (by omega) (Bd.nat h1) (by decide)
    have bq : Bd 202 ((r0 / r1 : Nat) : Int) := Bd.nat (by omega)
    walk_at "go"
    refine de_tupG2 hT ?_
    walk_at "go"
    refine ⟨[(r0 : Int), x0, y0], [(r1 : Int), x1, y1], rfl, [((r0 / r1 : Nat) : Int)], .cons rfl .nil, rfl, fun i n m hn hm => ?_, len_ok rfl, ?_⟩
    · rcases i with _ | _ | _ | i
      · cases hn; cases hm; exact cmulW bq (Bd.nat h1) (by decide)
      · cases hn; cases hm; exact cmulW bq (bw I.kx.2 hb) (by decide)
      · cases hn; cases hm; exact cmulW bq (bw I.ky.2 ha) (by decide)
      · cases hn
    · walk_at "go"
      refine ⟨r0 % r1, by omega, r1, r0 % r1, x1, y1, x0 - ((r0 / r1 : Nat) : Int) * x1, y0 - ((r0 / r1 : Nat) : Int) * y1, .dat (.int ((r0 / r1 : Nat) : Int)), ?_, J, Nat.le_refl _, h1, by omega⟩
      rw [ej]; rfl
  · have z : r1 = 0 := by omega
    subst z
    have eg := I.g
    rw [Nat.gcd_zero_right] at eg
    have e0 := I.e0
    rw [eg] at e0 ⊢
    walk_at "go"
    refine ite_dec (fun y => ?_) (fun y => ?_)
    · walk_at "go"
      exact hk x0 y0 e0 I.kx.1 I.ky.1
    · omega
end

def φ_law_int (ds : List PyData) (k : PyData → Prop) : Prop := ∃ m : Int, ds = [.int m] ∧ (0 < m ∧ m.natAbs < 2 ^ 199) ∧ ∀ r : Int, -m < r → r < m → k (.int r)
theorem φ_law_int_len (ds k) (h : φ_law_int ds k) : ds.length + 1 = 2 := by obtain ⟨a, rfl, _⟩ := h; rfl
section
local macro_rules | `(tactic| walk_at "ab") => `(tactic| with_reducible refine ds_retS ?_)
variable {P : Program} {w : World} {K : PySem.W.Frag} {mg : Str → Option Value} {base : Heap} {T : Addr → Prop}
theorem ok_law_int {f : Addr} {fd : FuncData} (F : Fun K "_law_int" "_law_int" s_law_int f fd) (C_law_draw : Cal P w K mg base "_law_draw" 2 ["pool", "many"] (spPP K T φ_law_draw)) : FnOk P w K mg base CX0 3 f fd ["pool", "most"] (spPP K T φ_law_int) := by
  refine mkFnP (k := 2) F sc_law_int φ_law_int_len (fun cdv A outer s H E hr => ?_)
  refine ⟨_, (pss_one (ps_ret (pe_op op_mulW (pe_cl C_law_draw hr (by decide) (by rfl) (pa_cons (pv 0) (pa_cons (pv 1) pa_nil))) (pe_ifExp (pt_cmpR (op_eqD hr.units) (pe_cl C_law_draw hr (by decide) (by rfl) (pa_cons (pv 0) (pa_cons pe_int pa_nil))) pe_int (nomark _)) pe_int (pe_un un_neg pe_int))))), fun p ds kk h => ?_⟩
  obtain ⟨m, rfl, ⟨m0, m9⟩, hk⟩ := h
  show Ds K ⟨some p, T⟩ _ [Sl.pool, Sl.dat _] _
  try dsimp only [L2.cxOf, L2.Cx.nox, L2.Cx.wish]
  walk_at "go"
  refine ⟨_, rfl, m0, by omega, fun r r0 r1 => ?_⟩
  have br : Bd 200 r := by unfold Bd; omega
  walk_at "go"
  refine ⟨_, rfl, by decide, by decide, fun s s0 s1 => ?_⟩
  walk_at "go"
  refine ite_eqI (fun c => ?_) (fun c => ?_)
  · walk_at "go"
    exact ⟨hk _ (by omega) (by omega), rfl⟩
  · walk_at "go"
    exact ⟨hk _ (by omega) (by omega), rfl⟩
end

def φ_inverse (ds : List PyData) (k : PyData → Prop) : Prop := ∃ (a : Int) (m : Nat), ds = [.int a, .int m] ∧ (0 < m ∧ m < 2 ^ 99 ∧ Int.gcd a m = 1) ∧ ∀ c : Int, (m : Int) ∣ c * a - 1 → k (.int (c % m))
theorem φ_inverse_len (ds k) (h : φ_inverse ds k) : ds.length = 2 := by obtain ⟨a, b, rfl, _⟩ := h; rfl
theorem inv_math {a : Int} {m r : Nat} (g : Int.gcd a m = 1) (hr : a % m = r) : Nat.gcd r m = 1 ∧ ∀ x y : Int, x * r + y * m = 1 → (m : Int) ∣ x * a - 1 := by
  have e := Int.mul_ediv_add_emod a m
  rw [hr] at e
  constructor
  · have h1 : ((Nat.gcd r m : Nat) : Int) ∣ r := Int.natCast_dvd_natCast.mpr (Nat.gcd_dvd_left r m)
    have h2 : ((Nat.gcd r m : Nat) : Int) ∣ m := Int.natCast_dvd_natCast.mpr (Nat.gcd_dvd_right r m)
    have h3 : ((Nat.gcd r m : Nat) : Int) ∣ a := by
      rw [← e]
      exact Int.dvd_add (Int.dvd_mul_of_dvd_left h2) h1
    have h4 : ((Nat.gcd r m : Nat) : Int) ∣ (Int.gcd a m : Nat) := Int.dvd_coe_gcd h3 h2
    rw [g] at h4
    exact Nat.dvd_one.mp (Int.natCast_dvd_natCast.mp h4)
  · intro x y h
    refine ⟨x * (a / m) - y, ?_⟩
    rw [← h]
    conv => lhs; rw [← e]
    grind
section
variable {P : Program} {w : World} {K : PySem.W.Frag} {mg : Str → Option Value} {base : Heap} {T : Addr → Prop}
theorem ok_inverse {f : Addr} {fd : FuncData} (F : Fun K "inverse" "inverse" s_inverse f fd) (C_two_factors : Cal P w K mg base "two_factors" 1 ["a", "b"] (spP K T φ_two_factors)) : FnOk P w K mg base CX0 2 f fd ["a", "m"] (spP K T φ_inverse) := by
  refine mkFn (k := 1) F sc_inverse φ_inverse_len (fun cdv A outer s H E hr => ?_)
  refine ⟨_, (pss_cons (ps_asg (pe_cl C_two_factors hr (by decide) (by rfl) (pa_cons (pe_op op_mod (pv 0) (pv 1)) (pa_cons (pv 1) pa_nil))) (pg_tup (n := 3) rfl (pgs_cons (pg_name (i := 2) sc_inverse.nd rfl (.inl rfl)) (pgs_cons (pg_name (i := 3) sc_inverse.nd rfl (.inl rfl)) (pgs_cons (pg_name (i := 4) sc_inverse.nd rfl (.inl rfl)) pgs_nil)))))
      (pss_cons (ps_if (pt_cmpR (op_neD hr.units) (pv 2) pe_int (nomark _)) (pss_one ps_never) pss_nil)
      (pss_one (ps_ret (pe_op op_mod (pv 3) (pv 1)))))), fun ds kk h => ?_⟩
  obtain ⟨a, m, rfl, ⟨m0, m9, g⟩, hk⟩ := h
  show Ds K ⟨none, T⟩ _ [Sl.dat _, Sl.dat _, Sl.no, Sl.no, Sl.no] _
  try dsimp only [L2.cxOf, L2.Cx.nox, L2.Cx.wish]
  have m1 : (0 : Int) < m := by omega
  have e0 := Int.emod_nonneg a (show (m : Int) ≠ 0 by omega)
  have e1 := Int.emod_lt_of_pos a m1
  obtain ⟨r, hr⟩ := Int.eq_ofNat_of_zero_le e0
  obtain ⟨g1, g2⟩ := inv_math g hr
  have bm : Bd 99 (m : Int) := Bd.nat m9
  walk_at "go"
  rw [hr]
  refine ⟨r, m, rfl, ⟨by omega, by omega⟩, fun x y hxy _ _ => ?_⟩
  rw [g1] at hxy ⊢
  walk_at "go"
  refine ite_neI (fun c => absurd rfl c) (fun _ => ?_)
  walk_at "go"
  exact hk x (g2 x y hxy)
end

def φ_is_integer (ds : List PyData) (k : PyData → Prop) : Prop := ∃ i : Int, ds = [.int i] ∧ k (.bool true)
theorem φ_is_integer_len (ds k) (h : φ_is_integer ds k) : ds.length = 1 := by obtain ⟨i, rfl, _⟩ := h; rfl
section
variable {P : Program} {w : World} {K : PySem.W.Frag} {mg : Str → Option Value} {base : Heap} {T : Addr → Prop}
theorem ok_is_integer {f : Addr} {fd : FuncData} (F : Fun K "is_integer" "is_integer" s_is_integer f fd) (z_isinstance : mg "isinstance" = none) (z_bool : mg "bool" = none) (z_int : mg "int" = none) : FnOk P w K mg base CX0 1 f fd ["value"] (spP K T φ_is_integer) := by
  refine mkFn (k := 0) F sc_is_integer φ_is_integer_len (fun cdv A outer s H E hr => ?_)
  refine ⟨_, (pss_one (ps_ret (pe_and (pe_callB call_isi (by rfl) z_isinstance (by decide +kernel) (pa_cons (pv 0) (pa_cons (pe_bltn (v := .ty "int") (by rfl) z_int (by decide +kernel) rfl) pa_nil))) (pe_one (pe_not (pe_callB call_isi (by rfl) z_isinstance (by decide +kernel) (pa_cons (pv 0) (pa_cons (pe_bltn (v := .ty "bool") (by rfl) z_bool (by decide +kernel) rfl) pa_nil)))))))), fun ds kk h => ?_⟩
  obtain ⟨i, rfl, hk⟩ := h
  show Ds K ⟨none, T⟩ _ [Sl.dat _] _
  try dsimp only [L2.cxOf, L2.Cx.nox, L2.Cx.wish]
  walk_at "go"
  exact hk
end

def φ_is_row (ds : List PyData) (k : PyData → Prop) : Prop := ∃ ns : List Int, ds = [.tuple (ns.map PyData.int), .int ns.length] ∧ k (.bool true)
theorem φ_is_row_len (ds k) (h : φ_is_row ds k) : ds.length = 2 := by obtain ⟨i, rfl, _⟩ := h; rfl
section
variable {P : Program} {w : World} {K : PySem.W.Frag} {mg : Str → Option Value} {base : Heap} {T : Addr → Prop}
theorem ok_is_row {f : Addr} {fd : FuncData} {cT PT : Addr} (F : FunC K "is_row" "is_row" s_is_row f fd cT) (TB : GxR.TabB base mg cT PT) (hT : T PT) {fq_is_integer : Addr} {dq_is_integer : FuncData} (Q_is_integer : Fun K "is_integer" "is_integer" s_is_integer fq_is_integer dq_is_integer) (qm_is_integer : mg "is_integer" = some (.ref fq_is_integer)) (z_isinstance : mg "isinstance" = none) (z_bool : mg "bool" = none) (z_int : mg "int" = none) (z_all : mg "all" = none) (z_len : mg "len" = none) (z_tuple : mg "tuple" = none) : FnOk P w K mg base CX0 3 f fd ["value", "length"] (spP K T φ_is_row) := by
  refine mkFnC (k := 2) F sc_is_row φ_is_row_len (fun A outer s H E hr => ?_)
  refine ⟨_, (pss_one (ps_ret (pe_and (pe_callB call_isi (by rfl) z_isinstance (by decide +kernel) (pa_cons (pv 0) (pa_cons (pe_bltn (v := .ty "tuple") (by rfl) z_tuple (by decide +kernel) rfl) pa_nil))) (pe_and (pe_cmpR (op_eqD hr.units) (pe_callB cr_len (by rfl) z_len PySem.boot_len (pa_cons (pv 0) pa_nil)) (pv 1) (nomark _)) (pe_one (Gx.pe_allG (k := 1) (js := []) (nm := []) (C := fun _ _ => True) (f := fun _ _ => true) hr (by rfl) z_all TB rfl (gs_by (sc := defScope s_is_row) rfl (by decide +kernel)) (pv 0) .nil (fun cs n hl hC => match cs, hl, hC with | [], _, hC => (Gx.eq_call1 Q_is_integer sc_is_integer rfl (fun _ _ _ _ _ _ u => rfl) (by rfl) qm_is_integer (Gx.eq_eg (Gx.eg_name List.mem_cons_self)) (Gx.eq_and (Gx.eq_isint (T := "int") (cl := "int") (b := true) rfl z_isinstance rfl z_int (by decide +kernel) (Gx.eq_eg (Gx.eg_name List.mem_cons_self)) (kit_ty (by decide +kernel))) (fun _ => (Gx.eq_one (Gx.eq_not (Gx.eq_isint (T := "bool") (cl := "bool") (b := false) rfl z_isinstance rfl z_bool (by decide +kernel) (Gx.eq_eg (Gx.eg_name List.mem_cons_self)) (kit_ty (by decide +kernel))))))) rfl)))))))), fun ds kk h => ?_⟩
  obtain ⟨ns, rfl, hk⟩ := h
  show Ds K ⟨none, T⟩ _ [Sl.dat _, Sl.dat _, Sl.no] _
  try dsimp only [L2.cxOf, L2.Cx.nox, L2.Cx.wish]
  walk_at "go"
  rw [List.length_map]
  refine iteR (by rw [eqv_int, decide_eq_true rfl]) ?_
  refine de_allG hT ?_
  walk_at "go"
  rw [show (ns.all fun _ => true) = true from List.all_eq_true.mpr fun _ _ => rfl]
  exact ⟨[], .nil, fun _ _ => trivial, hk⟩
end

def φ_is_within (ds : List PyData) (k : PyData → Prop) : Prop := ∃ v lo hi : Int, ds = [.int v, .int lo, .int hi] ∧ k (.bool (decide (lo ≤ v ∧ v ≤ hi)))
theorem φ_is_within_len (ds k) (h : φ_is_within ds k) : ds.length = 3 := by obtain ⟨i, _, _, rfl, _⟩ := h; rfl
section
variable {P : Program} {w : World} {K : PySem.W.Frag} {mg : Str → Option Value} {base : Heap} {T : Addr → Prop}
theorem ok_is_within {f : Addr} {fd : FuncData} (F : Fun K "is_within" "is_within" s_is_within f fd) (C_is_integer : Cal P w K mg base "is_integer" 1 ["value"] (spP K T φ_is_integer)) : FnOk P w K mg base CX0 2 f fd ["value", "low", "high"] (spP K T φ_is_within) := by
  refine mkFn (k := 1) F sc_is_within φ_is_within_len (fun cdv A outer s H E hr => ?_)
  refine ⟨_, (pss_one (ps_ret (pe_and (pe_cl C_is_integer hr (by decide) (by rfl) (pa_cons (pv 0) pa_nil)) (pe_one (pe_chain op_le op_le (pv 1) (pv 0) (pv 2)))))), fun ds kk h => ?_⟩
  obtain ⟨v, lo, hi, rfl, hk⟩ := h
  show Ds K ⟨none, T⟩ _ [Sl.dat _, Sl.dat _, Sl.dat _] _
  try dsimp only [L2.cxOf, L2.Cx.nox, L2.Cx.wish]
  walk_at "go"
  refine ⟨v, rfl, ?_⟩
  walk_at "go"
  refine ite_dec (fun c => ?_) (fun c => ?_)
  · walk_at "go"
    rw [show decide (lo ≤ v ∧ v ≤ hi) = decide (v ≤ hi) from decide_eq_decide.mpr ⟨fun h => h.2, fun h => ⟨c, h⟩⟩] at hk
    exact hk
  · walk_at "go"
    rw [show decide (lo ≤ v ∧ v ≤ hi) = false from decide_eq_false fun h => c h.1] at hk
    exact hk
end

theorem eqv_str (a b : Str) : PyData.eqv (.str a) (.str b) = decide (a = b) := by
  simp [PyData.eqv]
  by_cases h : a = b
  · subst h; simp
  · rw [decide_eq_false h]; exact beq_eq_false_iff_ne.mpr h

def φ_is_worded (ds : List PyData) (k : PyData → Prop) : Prop := ∃ (x : Str) (xs : List PyData) (word : Str) (n : Nat), ds = [.tuple (.str x :: xs), .str word, .int n] ∧ (PyData.canLay0 (.str x) = true ∧ PyData.canLay0 (.str word) = true) ∧ k (.bool (decide (xs.length + 1 = n ∧ x = word)))
theorem φ_is_worded_len (ds k) (h : φ_is_worded ds k) : ds.length = 3 := by obtain ⟨_, _, _, _, rfl, _⟩ := h; rfl
section
variable {P : Program} {w : World} {K : PySem.W.Frag} {mg : Str → Option Value} {base : Heap} {T : Addr → Prop}
theorem ok_is_worded {f : Addr} {fd : FuncData} (F : Fun K "is_worded" "is_worded" s_is_worded f fd) (z_isinstance : mg "isinstance" = none) (z_str : mg "str" = none) (z_len : mg "len" = none) (z_tuple : mg "tuple" = none) : FnOk P w K mg base CX0 1 f fd ["value", "word", "length"] (spP K T φ_is_worded) := by
  refine mkFn (k := 0) F sc_is_worded φ_is_worded_len (fun cdv A outer s H E hr => ?_)
  refine ⟨_, (pss_cons (ps_if (PW.pt (pw_or (pt_not (pt_val (pe_callB call_isi (by rfl) z_isinstance (by decide +kernel) (pa_cons (pv 0) (pa_cons (pe_bltn (v := .ty "tuple") (by rfl) z_tuple (by decide +kernel) rfl) pa_nil))))) (pw_or1 (pt_cmpR (op_neD hr.units) (pe_callB cr_len (by rfl) z_len PySem.boot_len (pa_cons (pv 0) pa_nil)) (pv 2) (nomark _))))) (pss_one (ps_ret pe_bl)) pss_nil)
      (pss_one (ps_ret (pe_and (pe_callB call_isi (by rfl) z_isinstance (by decide +kernel) (pa_cons (pe_ix ix_sq (pv 0) pe_int (fun _ _ => rfl)) (pa_cons (pe_bltn (v := .ty "str") (by rfl) z_str (by decide +kernel) rfl) pa_nil))) (pe_one (pe_cmpR (op_eqD hr.units) (pe_ix ix_sq (pv 0) pe_int (fun _ _ => rfl)) (pv 1) (nomark _))))))), fun ds kk h => ?_⟩
  obtain ⟨x, xs, word, n, rfl, ⟨c1, c2⟩, hk⟩ := h
  show Ds K ⟨none, T⟩ _ [Sl.dat _, Sl.dat _, Sl.dat _] _
  try dsimp only [L2.cxOf, L2.Cx.nox, L2.Cx.wish]
  have s1 : SeqAt.shaped (.str x) = true := shaped_str c1
  have s2 : SeqAt.shaped (.str word) = true := shaped_str c2
  walk_at "go"
  refine ite_neI (fun c => ?_) (fun c => ?_)
  · walk_at "go"
    rw [show decide (xs.length + 1 = n ∧ x = word) = false from decide_eq_false fun h => c (by rw [List.length_cons]; omega)] at hk
    exact hk
  · walk_at "go"
    refine ⟨_, at0 _ _, ?_⟩
    walk_at "go"
    refine ⟨_, at0 _ _, ?_⟩
    walk_at "go"
    rw [eqv_str, show decide (x = word) = decide (xs.length + 1 = n ∧ x = word) from decide_eq_decide.mpr ⟨fun h => ⟨by rw [List.length_cons] at c; omega, h⟩, fun h => h.2⟩]
    exact hk
end

def gcdL (ns : List Int) : Int := ns.foldl gcdI 0
def φ_common (ds : List PyData) (k : PyData → Prop) : Prop := ∃ ns : List Int, ds = [.tuple (ns.map PyData.int)] ∧ k (.int (gcdL ns))
theorem φ_common_len (ds k) (h : φ_common ds k) : ds.length = 1 := by obtain ⟨a, rfl, _⟩ := h; rfl
section
variable {P : Program} {w : World} {K : PySem.W.Frag} {mg : Str → Option Value} {base : Heap} {T : Addr → Prop}
theorem ok_common {f : Addr} {fd : FuncData} (F : Fun K "common" "common" s_common f fd) (m_gcd : mg "gcd" = some (.builtin "math.gcd")) : FnOk P w K mg base CX0 1 f fd ["row"] (spP K T φ_common) := by
  refine mkFn (k := 0) F sc_common φ_common_len (fun cdv A outer s H E hr => ?_)
  refine ⟨_, (pss_cons (ps_set (i := 1) sc_common.nd rfl (.inl rfl) pe_int)
      (pss_cons (ps_for PassesOwn.never rfl (pi_tup (pv 0)) (pg_name (i := 2) sc_common.nd rfl (.inl rfl)) (pss_one (ps_set (i := 1) sc_common.nd rfl (.inl rfl) (pe_callBfun cr_gcd (by rfl) m_gcd (pa_cons (pv 1) (pa_cons (pv 2) pa_nil))))))
      (pss_one (ps_ret (pv 1))))), fun ds kk h => ?_⟩
  obtain ⟨ns, rfl, hk⟩ := h
  show Ds K ⟨none, T⟩ _ [Sl.dat _, Sl.no, Sl.no] _
  try dsimp only [L2.cxOf, L2.Cx.nox, L2.Cx.wish]
  walk_at "go"
  refine ds_forT (fun xs j δ' => ∃ (s2 : Sl), δ' = [.dat (.tuple (ns.map PyData.int)), .dat (.int ((ns.take j).foldl gcdI 0)), s2]) ?_
  walk_at "go"
  refine ⟨⟨_, rfl⟩, fun j δ' hj hp => ?_, fun δ' hp => ?_⟩
  · show Dg K _ (gName 2) ((ns.map PyData.int).getD j .none) _ _
    rw [getD_ints hj]
    obtain ⟨s2, rfl⟩ := hp
    walk_at "go"
    refine ⟨.dat (.int (ns.getD j 0)), ?_⟩
    rw [foldl_take _ _ _ 0 (by simpa using hj)]
    rfl
  · obtain ⟨s2, rfl⟩ := hp
    walk_at "go"
    rw [List.length_map, List.take_length]
    exact hk
end

theorem gcdL2 (a b : Int) : gcdL [a, b] = (Int.gcd a b : Nat) := by
  unfold gcdL gcdI
  simp [Int.gcd]

def φ_joined (ds : List PyData) (κ : PyData → Prop) : Prop := ∃ (x y : Int) (m k : Nat), ds = [.tuple [.int x, .int m], .tuple [.int y, .int k]] ∧ (0 < m ∧ 0 < k ∧ m < 2 ^ 199 ∧ k < 2 ^ 199 ∧ Bd 200 x ∧ Bd 200 y) ∧
  (¬ ((Nat.gcd m k : Nat) : Int) ∣ y - x → κ .none) ∧ (∀ z : Int, 0 ≤ z → z < (Nat.lcm m k : Nat) → (m : Int) ∣ z - x → (k : Int) ∣ z - y → κ (.tuple [.int z, .int (Nat.lcm m k : Nat)]))
theorem φ_joined_len (ds k) (h : φ_joined ds k) : ds.length = 2 := by obtain ⟨a, b, c, d, rfl, _⟩ := h; rfl
theorem join_math {x y u v q : Int} {m k : Nat} (m0 : 0 < m) (k0 : 0 < k) (h : u * m + v * k = (Nat.gcd m k : Nat)) (hq : y - x = (Nat.gcd m k : Nat) * q) :
    0 ≤ (x + q * u % ((k / Nat.gcd m k : Nat) : Int) * m) % (Nat.lcm m k : Nat) ∧ (x + q * u % ((k / Nat.gcd m k : Nat) : Int) * m) % (Nat.lcm m k : Nat) < (Nat.lcm m k : Nat) ∧
    (m : Int) ∣ (x + q * u % ((k / Nat.gcd m k : Nat) : Int) * m) % (Nat.lcm m k : Nat) - x ∧ (k : Int) ∣ (x + q * u % ((k / Nat.gcd m k : Nat) : Int) * m) % (Nat.lcm m k : Nat) - y := by
  have l0 : 0 < Nat.lcm m k := Nat.lcm_pos m0 k0
  have l1 : (0 : Int) < (Nat.lcm m k : Nat) := by omega
  refine ⟨Int.emod_nonneg _ (by omega), Int.emod_lt_of_pos _ l1, ?_⟩
  have dm : (m : Int) ∣ (Nat.lcm m k : Nat) := Int.natCast_dvd_natCast.mpr (Nat.dvd_lcm_left m k)
  have dk : (k : Int) ∣ (Nat.lcm m k : Nat) := Int.natCast_dvd_natCast.mpr (Nat.dvd_lcm_right m k)
  obtain ⟨m', hm⟩ := Nat.gcd_dvd_left m k
  obtain ⟨k', hk⟩ := Nat.gcd_dvd_right m k
  have g0 : 0 < Nat.gcd m k := Nat.gcd_pos_of_pos_left k m0
  have ek : k / Nat.gcd m k = k' := Nat.div_eq_of_eq_mul_right g0 hk
  rw [ek]
  have e1 := Int.mul_ediv_add_emod (q * u) k'
  generalize q * u % (k' : Int) = r at *
  generalize q * u / (k' : Int) = w at *
  have e2 := Int.mul_ediv_add_emod (x + r * m) (Nat.lcm m k : Nat)
  generalize (x + r * m) % ((Nat.lcm m k : Nat) : Int) = z at *
  generalize (x + r * m) / ((Nat.lcm m k : Nat) : Int) = s at *
  have ez : z = x + r * m - (Nat.lcm m k : Nat) * s := by omega
  constructor
  · rw [ez, show x + r * m - ((Nat.lcm m k : Nat) : Int) * s - x = m * r - (Nat.lcm m k : Nat) * s by grind]
    exact Int.dvd_sub (Int.dvd_mul_right _ _) (Int.dvd_mul_of_dvd_left dm)
  · have hm' : (m : Int) = (Nat.gcd m k : Nat) * m' := by rw [← Int.natCast_mul, ← hm]
    have hk' : (k : Int) = (Nat.gcd m k : Nat) * k' := by rw [← Int.natCast_mul, ← hk]
    have key : x + r * m - y = k * (-(v * q) - m' * w) := by
      have a1 : r = q * u - k' * w := by omega
      have a2 : x - y = -(((Nat.gcd m k : Nat) : Int) * q) := by omega
      generalize ((Nat.gcd m k : Nat) : Int) = g at *
      have : x + r * m - y = -(g * q) + (q * u - k' * w) * m := by rw [← a1]; omega
      rw [this, ← h]
      have b1 : (k' : Int) * w * m = m' * w * k := by rw [hm', hk']; grind
      grind
    rw [ez, show x + r * m - ((Nat.lcm m k : Nat) : Int) * s - y = (x + r * m - y) - (Nat.lcm m k : Nat) * s by grind, key]
    exact Int.dvd_sub (Int.dvd_mul_right _ _) (Int.dvd_mul_of_dvd_left dk)
section
variable {P : Program} {w : World} {K : PySem.W.Frag} {mg : Str → Option Value} {base : Heap} {T : Addr → Prop}
theorem ok_joined {f : Addr} {fd : FuncData} (F : Fun K "joined" "joined" s_joined f fd) (C_two_factors : Cal P w K mg base "two_factors" 1 ["a", "b"] (spP K T φ_two_factors)) : FnOk P w K mg base CX0 2 f fd ["one", "two"] (spP K T φ_joined) := by
  refine mkFn (k := 1) F sc_joined φ_joined_len (fun cdv A outer s H E hr => ?_)
  refine ⟨_, (pss_cons (ps_asg (pe_tup (pa_cons (pv 0) (pa_cons (pv 1) pa_nil))) (pg_tup rfl (pgs_cons (pg_tup rfl (pgs_cons (pg_name (i := 2) sc_joined.nd rfl (.inl rfl)) (pgs_cons (pg_name (i := 3) sc_joined.nd rfl (.inl rfl)) pgs_nil))) (pgs_cons (pg_tup rfl (pgs_cons (pg_name (i := 4) sc_joined.nd rfl (.inl rfl)) (pgs_cons (pg_name (i := 5) sc_joined.nd rfl (.inl rfl)) pgs_nil))) pgs_nil))))
      (pss_cons (ps_asg (pe_cl C_two_factors hr (by decide) (by rfl) (pa_cons (pv 3) (pa_cons (pv 5) pa_nil))) (pg_tup (n := 3) rfl (pgs_cons (pg_name (i := 6) sc_joined.nd rfl (.inl rfl)) (pgs_cons (pg_name (i := 7) sc_joined.nd rfl (.inl rfl)) (pgs_cons (pg_name (i := 8) sc_joined.nd rfl (.inl rfl)) pgs_nil)))))
      (pss_cons (ps_if (pt_cmpR (op_neD hr.units) (pe_op op_mod (pe_op op_sub (pv 4) (pv 2)) (pv 6)) pe_int (nomark _)) (pss_one (ps_ret pe_non)) pss_nil)
      (pss_cons (ps_set (i := 9) sc_joined.nd rfl (.inl rfl) (pe_op op_mulW (pe_op op_fdivW (pv 3) (pv 6)) (pv 5)))
      (pss_one (ps_ret (pe_tup (pa_cons (pe_op op_mod (pe_op op_add (pv 2) (pe_op op_mulW (pe_op op_mod (pe_op op_mulW (pe_op op_fdivW (pe_op op_sub (pv 4) (pv 2)) (pv 6)) (pv 7)) (pe_op op_fdivW (pv 5) (pv 6))) (pv 3))) (pv 9)) (pa_cons (pv 9) pa_nil))))))))), fun ds kk h => ?_⟩
  obtain ⟨x, y, m, k, rfl, ⟨m0, k0, m9, k9, bx, by'⟩, h1, h2⟩ := h
  show Ds K ⟨none, T⟩ _ [Sl.dat _, Sl.dat _, Sl.no, Sl.no, Sl.no, Sl.no, Sl.no, Sl.no, Sl.no, Sl.no] _
  try dsimp only [L2.cxOf, L2.Cx.nox, L2.Cx.wish]
  have g0 : 0 < Nat.gcd m k := Nat.gcd_pos_of_pos_left k m0
  have g1 : (0 : Int) < (Nat.gcd m k : Nat) := by omega
  have gm : Nat.gcd m k ≤ m := Nat.le_of_dvd m0 (Nat.gcd_dvd_left m k)
  have l0 : 0 < Nat.lcm m k := Nat.lcm_pos m0 k0
  have l1 : (0 : Int) < (Nat.lcm m k : Nat) := by omega
  have dv : ∀ x : Int, CDivW x ((Nat.gcd m k : Nat) : Int) := fun x => cdivW (n := 199) g1 (Bd.nat (by omega)) (by decide)
  have bm : Bd 199 (m : Int) := Bd.nat m9
  have bk : Bd 199 (k : Int) := Bd.nat k9
  have kg : 0 < k / Nat.gcd m k := Nat.div_pos (Nat.le_of_dvd k0 (Nat.gcd_dvd_right m k)) g0
  have kg1 : (0 : Int) < (k : Int) / (Nat.gcd m k : Nat) := by
    rw [show (k : Int) / ((Nat.gcd m k : Nat) : Int) = ((k / Nat.gcd m k : Nat) : Int) from rfl]; omega
  walk_at "go"
  refine ⟨m, k, rfl, ⟨by omega, by omega⟩, fun u v huv bu bv => ?_⟩
  walk_at "go"
  refine ite_neI (fun c => ?_) (fun c => ?_)
  · walk_at "go"
    exact h1 fun d => c (Int.emod_eq_zero_of_dvd d)
  · obtain ⟨q, hq⟩ := Int.dvd_of_emod_eq_zero c
    obtain ⟨z0, z1, z2, z3⟩ := join_math m0 k0 huv hq
    have eq : (y - x) / ((Nat.gcd m k : Nat) : Int) = q := by rw [hq]; exact Int.mul_ediv_cancel_left _ (by omega)
    have el : (m : Int) / (Nat.gcd m k : Nat) * k = (Nat.lcm m k : Nat) := by
      rw [show (m : Int) / ((Nat.gcd m k : Nat) : Int) = ((m / Nat.gcd m k : Nat) : Int) from rfl, ← Int.natCast_mul]
      congr 1
      exact Nat.div_mul_right_comm (Nat.gcd_dvd_left m k) k
    have bq : Bd 500 q := by
      rw [← eq]
      exact ((by'.sub bx).ediv _).mono (by decide)
    have bu : Bd 201 u := by unfold Bd; omega
    have ba : Bd 200 ((m : Int) / (Nat.gcd m k : Nat)) := bm.ediv _
    have bb : Bd 200 ((k : Int) / (Nat.gcd m k : Nat)) := bk.ediv _
    have bc : Bd 200 (q * u % ((k : Int) / (Nat.gcd m k : Nat))) := bb.emod kg1
    walk_at "go"
    refine ⟨dv _, ?_⟩
    walk_at "go"
    rw [el]
    refine ⟨dv _, ?_⟩
    rw [eq]
    walk_at "go"
    refine ⟨dv _, ?_⟩
    walk_at "go"
    exact h2 _ z0 z1 z2 z3
end

def φ_multiple (ds : List PyData) (k : PyData → Prop) : Prop := ∃ a b : Nat, ds = [.tuple [.int a, .int b]] ∧ (0 < a ∧ 0 < b ∧ a < 2 ^ 100 ∧ b < 2 ^ 100) ∧ k (.int (Nat.lcm a b : Nat))
theorem φ_multiple_len (ds k) (h : φ_multiple ds k) : ds.length = 1 := by obtain ⟨a, b, rfl, _⟩ := h; rfl
def mulV (a b : Nat) : Nat → Nat
  | 0 => 1
  | 1 => a
  | _ => Nat.lcm a b
section
variable {P : Program} {w : World} {K : PySem.W.Frag} {mg : Str → Option Value} {base : Heap} {T : Addr → Prop}
theorem ok_multiple {f : Addr} {fd : FuncData} (F : Fun K "multiple" "multiple" s_multiple f fd) (m_gcd : mg "gcd" = some (.builtin "math.gcd")) (z_abs : mg "abs" = none) : FnOk P w K mg base CX0 1 f fd ["row"] (spP K T φ_multiple) := by
  refine mkFn (k := 0) F sc_multiple φ_multiple_len (fun cdv A outer s H E hr => ?_)
  refine ⟨_, (pss_cons (ps_set (i := 1) sc_multiple.nd rfl (.inl rfl) pe_int)
      (pss_cons (ps_for PassesOwn.never rfl (pi_tup (pv 0)) (pg_name (i := 2) sc_multiple.nd rfl (.inl rfl)) (pss_cons (ps_if (pt_cmpR (op_eqD hr.units) (pv 2) pe_int (nomark _)) (pss_one (ps_ret pe_int)) pss_nil)
      (pss_one (ps_set (i := 1) sc_multiple.nd rfl (.inl rfl) (pe_op op_mulW (pe_op op_fdivW (pv 1) (pe_callBfun cr_gcd (by rfl) m_gcd (pa_cons (pv 1) (pa_cons (pv 2) pa_nil)))) (pe_callB cr_abs (by rfl) z_abs (by decide +kernel) (pa_cons (pv 2) pa_nil)))))))
      (pss_one (ps_ret (pv 1))))), fun ds kk h => ?_⟩
  obtain ⟨a, b, rfl, ⟨a0, b0, a9, b9⟩, hk⟩ := h
  show Ds K ⟨none, T⟩ _ [Sl.dat _, Sl.no, Sl.no] _
  try dsimp only [L2.cxOf, L2.Cx.nox, L2.Cx.wish]
  walk_at "go"
  refine ds_forT (fun xs j δ' => ∃ (s2 : Sl), δ' = [.dat (.tuple [.int a, .int b]), .dat (.int (mulV a b j : Nat)), s2]) ?_
  walk_at "go"
  have step : ∀ (j : Nat) (f c : Nat), 0 < f → 0 < c → c < 2 ^ 100 → f < 2 ^ 100 → mulV a b j = f → mulV a b (j + 1) = f / Nat.gcd f c * c → ∀ P : Po, (∀ s2 : Sl, P.nx [.dat (.tuple [.int a, .int b]), .dat (.int (mulV a b (j + 1) : Nat)), s2]) → Ds K ⟨none, T⟩ (tSeq (tIfS (tTest (tOp (rEqD K) (tVar 2) (tC (V.int 0)))) (tRet (tC (V.int 0))) tNext) (tAsg (tOp (rI CMulW fun i j => V.int (i * j)) (tOp (rI CDivW fun i j => V.int (i / j)) (tVar 1) (tCB rGcd (tCons (tVar 1) (tCons (tVar 2) tNil)))) (tCB rAbs (tCons (tVar 2) tNil))) (gName 1)))
      [.dat (.tuple [.int a, .int b]), .dat (.int f), .dat (.int c)] P := by
    intro j f c f0 c0 c9 f9 e1 e2 P hP
    have g0 : 0 < gcdI f c := gcdI_pos (.inl (by omega))
    have g9 : gcdI (f : Int) c ≤ (c : Int).natAbs := gcdI_le_right (by omega)
    have dv : CDivW (f : Int) (gcdI f c) := cdivW (n := 100) g0 (by unfold Bd; omega) (by decide)
    have b1 : Bd 101 ((f : Int) / gcdI f c) := (Bd.nat f9).ediv _
    have b2 : Bd 100 (((c : Int).natAbs : Nat) : Int) := Bd.nat (by omega)
    walk_at "go"
    refine ite_eqI (fun w => absurd w (by omega)) (fun _ => ?_)
    walk_at "go"
    have h := hP (.dat (.int c))
    rw [e2, Int.natCast_mul, Int.natCast_ediv] at h
    have e3 : (((c : Int).natAbs : Nat) : Int) = c := by omega
    rw [e3]
    exact h
  refine ⟨⟨_, rfl⟩, fun j δ' hj hp => ?_, fun δ' hp => ?_⟩
  · obtain ⟨s2, rfl⟩ := hp
    have hj2 : j < 2 := hj
    have : j = 0 ∨ j = 1 := by omega
    rcases this with rfl | rfl
    · refine dg_name ?_
      exact step 0 1 a (by decide) a0 a9 (by decide) rfl (by show a = _; simp) _ fun s2 => ⟨s2, rfl⟩
    · refine dg_name ?_
      refine step 1 a b a0 b0 b9 a9 rfl ?_ _ fun s2 => ⟨s2, rfl⟩
      exact (Nat.div_mul_right_comm (Nat.gcd_dvd_left a b) b).symm
  · obtain ⟨s2, rfl⟩ := hp
    walk_at "go"
    exact hk
end

open M84
def triD (t : Tri) : PyData := .tuple [.int t.1, .int t.2.1, .int t.2.2]
def OkT (t : Tri) : Prop := Bd 120 t.1 ∧ Bd 400 t.2.1 ∧ 0 < t.2.2 ∧ t.2.2 < 2 ^ 31
def φ_alone (ds : List PyData) (κ : PyData → Prop) : Prop := ∃ t : Tri, ds = [triD t] ∧ OkT t ∧ ((∀ x, ¬ sol t x) → κ .none) ∧ (∀ r k : Nat, 0 < k → r < k → k < 2 ^ 31 → (∀ x : Int, sol t x ↔ (k : Int) ∣ x - r) → κ (.tuple [.int r, .int k]))
theorem φ_alone_len (ds k) (h : φ_alone ds k) : ds.length = 1 := by obtain ⟨_, rfl, _⟩ := h; rfl
section
variable {P : Program} {w : World} {K : PySem.W.Frag} {mg : Str → Option Value} {base : Heap} {T : Addr → Prop}
theorem ok_alone {f : Addr} {fd : FuncData} (F : Fun K "alone" "alone" s_alone f fd) (C_two_factors : Cal P w K mg base "two_factors" 1 ["a", "b"] (spP K T φ_two_factors)) : FnOk P w K mg base CX0 2 f fd ["triple"] (spP K T φ_alone) := by
  refine mkFn (k := 1) F sc_alone φ_alone_len (fun cdv A outer s H E hr => ?_)
  refine ⟨_, (pss_cons (ps_asg (pv 0) (pg_tup (n := 3) rfl (pgs_cons (pg_name (i := 1) sc_alone.nd rfl (.inl rfl)) (pgs_cons (pg_name (i := 2) sc_alone.nd rfl (.inl rfl)) (pgs_cons (pg_name (i := 3) sc_alone.nd rfl (.inl rfl)) pgs_nil)))))
      (pss_cons (ps_asg (pe_cl C_two_factors hr (by decide) (by rfl) (pa_cons (pe_op op_mod (pv 1) (pv 3)) (pa_cons (pv 3) pa_nil))) (pg_tup (n := 3) rfl (pgs_cons (pg_name (i := 4) sc_alone.nd rfl (.inl rfl)) (pgs_cons (pg_name (i := 5) sc_alone.nd rfl (.inl rfl)) (pgs_cons (pg_name (i := 6) sc_alone.nd rfl (.inl rfl)) pgs_nil)))))
      (pss_cons (ps_if (pt_cmpR (op_neD hr.units) (pe_op op_mod (pv 2) (pv 4)) pe_int (nomark _)) (pss_one (ps_ret pe_non)) pss_nil)
      (pss_one (ps_ret (pe_tup (pa_cons (pe_op op_mod (pe_op op_mulW (pe_op op_fdivW (pv 2) (pv 4)) (pv 5)) (pe_op op_fdivW (pv 3) (pv 4))) (pa_cons (pe_op op_fdivW (pv 3) (pv 4)) pa_nil)))))))), fun ds kk h => ?_⟩
  obtain ⟨⟨a, b, m⟩, rfl, ⟨ba, bb, m0, m9⟩, h1, h2⟩ := h
  show Ds K ⟨none, T⟩ _ [Sl.dat _, Sl.no, Sl.no, Sl.no, Sl.no, Sl.no, Sl.no] _
  try dsimp only [L2.cxOf, L2.Cx.nox, L2.Cx.wish]
  show Ds K _ _ [Sl.dat (.tuple [.int a, .int b, .int m]), .no, .no, .no, .no, .no, .no] _
  have ba : Bd 120 a := ba
  have bb : Bd 400 b := bb
  have m0 : 0 < m := m0
  have m9 : m < 2 ^ 31 := m9
  have m1 : (0 : Int) < m := by omega
  have e0 := Int.emod_nonneg a (show (m : Int) ≠ 0 by omega)
  have e1 := Int.emod_lt_of_pos a m1
  obtain ⟨r, hr⟩ := Int.eq_ofNat_of_zero_le e0
  have bm : Bd 31 (m : Int) := Bd.nat m9
  have g0 : 0 < Nat.gcd r m := Nat.gcd_pos_of_pos_right r m0
  have g1 : (0 : Int) < (Nat.gcd r m : Nat) := by omega
  have gm : Nat.gcd r m ≤ m := Nat.le_of_dvd m0 (Nat.gcd_dvd_right r m)
  have k0 : 0 < m / Nat.gcd r m := Nat.div_pos gm g0
  have k9 : m / Nat.gcd r m ≤ m := Nat.div_le_self _ _
  have ek : (m : Int) / ((Nat.gcd r m : Nat) : Int) = ((m / Nat.gcd r m : Nat) : Int) := rfl
  have k1 : (0 : Int) < (m : Int) / ((Nat.gcd r m : Nat) : Int) := by rw [ek]; omega
  have dv : ∀ x : Int, CDivW x ((Nat.gcd r m : Nat) : Int) := fun x => cdivW (n := 31) g1 (Bd.nat (by omega)) (by decide)
  walk_at "go"
  rw [hr]
  refine ⟨r, m, rfl, ⟨by omega, by omega⟩, fun u v huv bu bv => ?_⟩
  walk_at "go"
  refine ite_neI (fun c => ?_) (fun c => ?_)
  · walk_at "go"
    exact h1 fun x => alone_none hr (fun d => c (Int.emod_eq_zero_of_dvd d)) x
  · obtain ⟨q, hq⟩ := Int.dvd_of_emod_eq_zero c
    have eq : b / ((Nat.gcd r m : Nat) : Int) = q := by rw [hq]; exact Int.mul_ediv_cancel_left _ (by omega)
    have bq : Bd 401 q := by rw [← eq]; exact bb.ediv _
    have bu : Bd 33 u := by unfold Bd; omega
    walk_at "go"
    refine ⟨dv _, ?_⟩
    rw [eq]
    walk_at "go"
    refine ⟨dv _, ?_⟩
    walk_at "go"
    refine ⟨dv _, ?_⟩
    walk_at "go"
    rw [ek]
    have f0 := Int.emod_nonneg (q * u) (show ((m / Nat.gcd r m : Nat) : Int) ≠ 0 by omega)
    have f1 := Int.emod_lt_of_pos (q * u) (show (0 : Int) < ((m / Nat.gcd r m : Nat) : Int) by omega)
    have am := alone_math m0 hr huv hq
    obtain ⟨s, hs⟩ := Int.eq_ofNat_of_zero_le f0
    rw [hs] at f1 am ⊢
    exact h2 s _ k0 (by omega) (by omega) am
end

def φ_parting (ds : List PyData) (κ : PyData → Prop) : Prop := ∃ r k s l : Nat, ds = [.tuple [.int r, .int k], .tuple [.int s, .int l]] ∧ (0 < k ∧ 0 < l ∧ k < 2 ^ 31 ∧ l < 2 ^ 31) ∧ κ (.bool (!decide (((Nat.gcd k l : Nat) : Int) ∣ (r : Int) - s)))
theorem φ_parting_len (ds k) (h : φ_parting ds k) : ds.length = 2 := by obtain ⟨_, _, _, _, rfl, _⟩ := h; rfl
section
variable {P : Program} {w : World} {K : PySem.W.Frag} {mg : Str → Option Value} {base : Heap} {T : Addr → Prop}
theorem ok_parting {f : Addr} {fd : FuncData} (F : Fun K "parting" "parting" s_parting f fd) (m_gcd : mg "gcd" = some (.builtin "math.gcd")) : FnOk P w K mg base CX0 1 f fd ["one", "two"] (spP K T φ_parting) := by
  refine mkFn (k := 0) F sc_parting φ_parting_len (fun cdv A outer s H E hr => ?_)
  refine ⟨_, (pss_one (ps_ret (pe_cmpR (op_neD hr.units) (pe_op op_mod (pe_op op_sub (pe_ix ix_sq (pv 0) pe_int (fun _ _ => rfl)) (pe_ix ix_sq (pv 1) pe_int (fun _ _ => rfl))) (pe_callBfun cr_gcd (by rfl) m_gcd (pa_cons (pe_ix ix_sq (pv 0) pe_int (fun _ _ => rfl)) (pa_cons (pe_ix ix_sq (pv 1) pe_int (fun _ _ => rfl)) pa_nil)))) pe_int (nomark _)))), fun ds kk h => ?_⟩
  obtain ⟨r, k, s, l, rfl, ⟨k0, l0, k9, l9⟩, hk⟩ := h
  show Ds K ⟨none, T⟩ _ [Sl.dat _, Sl.dat _] _
  try dsimp only [L2.cxOf, L2.Cx.nox, L2.Cx.wish]
  have g0 : 0 < Nat.gcd k l := Nat.gcd_pos_of_pos_left l k0
  have g1 : (0 : Int) < gcdI k l := by rw [gcdI_nat]; omega
  walk_at "go"
  rw [gcdI_nat, eqv_int]
  rw [show decide (((r : Int) - s) % ((Nat.gcd k l : Nat) : Int) = 0) = decide (((Nat.gcd k l : Nat) : Int) ∣ (r : Int) - s) from decide_eq_decide.mpr ⟨Int.dvd_of_emod_eq_zero, Int.emod_eq_zero_of_dvd⟩]
  exact hk
end

def t0 : Tri := (0, 0, 0)
def Rp (L : List Tri) (κ : PyData → Prop) : Prop := (∀ (x : Int) (M : Nat), 0 < M → 0 ≤ x → x < M → (∀ w, Sol L w ↔ (M : Int) ∣ w - x) → κ (.tuple [.str "meets", .int x, .int M])) ∧
  (∀ i : Nat, i < L.length → (∀ x, ¬ sol (L.getD i t0) x) → κ (.tuple [.str "alone", .int i])) ∧
  (∀ i j : Nat, i < j → j < L.length → (∃ x, sol (L.getD i t0) x) → (∃ x, sol (L.getD j t0) x) → (∀ x, ¬ (sol (L.getD i t0) x ∧ sol (L.getD j t0) x)) → κ (.tuple [.str "parts", .int i, .int j]))
def φ_rest_paper (ds : List PyData) (κ : PyData → Prop) : Prop := ∃ L : List Tri, ds = [.tuple (L.map triD)] ∧ (L.length ≤ 5 ∧ ∀ t ∈ L, OkT t) ∧ Rp L κ
theorem φ_rest_paper_len (ds k) (h : φ_rest_paper ds k) : ds.length = 1 := by obtain ⟨_, rfl, _⟩ := h; rfl
def Good (t : Tri) (d : PyData) : Prop := (d = .none ∧ ∀ x, ¬ sol t x) ∨ ∃ r k : Nat, d = .tuple [.int r, .int k] ∧ 0 < k ∧ r < k ∧ k < 2 ^ 31 ∧ ∀ x : Int, sol t x ↔ (k : Int) ∣ x - r
def Goods (L : List Tri) (i : Nat) (ds : List PyData) : Prop := ds.length = i ∧ ∀ j, j < i → Good (L.getD j t0) (ds.getD j .none)
theorem goods_zero (L : List Tri) : Goods L 0 [] := ⟨rfl, fun j h => absurd h (Nat.not_lt_zero j)⟩
theorem getD_append {ds : List PyData} {d : PyData} {j : Nat} : (ds ++ [d]).getD j .none = if j < ds.length then ds.getD j .none else if j = ds.length then d else .none := by
  rw [List.getD_eq_getElem?_getD]
  by_cases h : j < ds.length
  · rw [if_pos h, List.getElem?_append_left h, List.getD_eq_getElem?_getD]
  · rw [if_neg h, List.getElem?_append_right (by omega)]
    by_cases z : j = ds.length
    · rw [if_pos z, z, Nat.sub_self]; rfl
    · rw [if_neg z, List.getElem?_eq_none (by show 1 ≤ _; omega)]; rfl
theorem goods_succ {L : List Tri} {i : Nat} {ds : List PyData} {d : PyData} (h : Goods L i ds) (g : Good (L.getD i t0) d) : Goods L (i + 1) (ds ++ [d]) := by
  refine ⟨by rw [List.length_append, h.1]; rfl, fun j hj => ?_⟩
  rw [getD_append, h.1]
  by_cases c : j < i
  · rw [if_pos c]; exact h.2 j c
  · have : j = i := by omega
    subst this
    rw [if_neg c, if_pos rfl]; exact g
theorem tri_getD {L : List Tri} {i : Nat} (h : i < L.length) : (L.map triD).getD i .none = triD (L.getD i t0) := by
  rw [List.getD_eq_getElem?_getD, List.getD_eq_getElem?_getD, List.getElem?_map, List.getElem?_eq_getElem h]; rfl
theorem tri_mem {L : List Tri} {i : Nat} (h : i < L.length) : L.getD i t0 ∈ L := by
  rw [List.getD_eq_getElem?_getD, List.getElem?_eq_getElem h]; exact List.getElem_mem h
theorem take_getD {ds : List PyData} {i j : Nat} (h : i < j) : (ds.take j).getD i .none = ds.getD i .none := by
  rw [List.getD_eq_getElem?_getD, List.getD_eq_getElem?_getD, List.getElem?_take_of_lt h]
def NF (ds : List PyData) (j : Nat) : Prop := ∀ i, i < j → ds.getD i .none ≠ .none
theorem nf_succ {ds : List PyData} {j : Nat} (h : NF ds j) (k : ds.getD j .none ≠ .none) : NF ds (j + 1) := fun i hi => by
  by_cases c : i = j
  · subst c; exact k
  · exact h i (by omega)
def Cp (f : Nat → Nat × Nat) (a b : Nat) : Prop := ((Nat.gcd (f a).2 (f b).2 : Nat) : Int) ∣ ((f a).1 : Int) - (f b).1
def CpIn (f : Nat → Nat × Nat) (j i : Nat) : Prop := ∀ a, a < i → Cp f a j
theorem cpin_zero (f : Nat → Nat × Nat) (j : Nat) : CpIn f j 0 := fun a h => absurd h (Nat.not_lt_zero a)
theorem cpin_succ {f : Nat → Nat × Nat} {j i : Nat} (h : CpIn f j i) (k : Cp f i j) : CpIn f j (i + 1) := fun a ha => by
  by_cases c : a = i
  · subst c; exact k
  · exact h a (by omega)
def CpAll (f : Nat → Nat × Nat) (j : Nat) : Prop := ∀ b, b < j → CpIn f b b
theorem cpall_zero (f : Nat → Nat × Nat) : CpAll f 0 := fun a h => absurd h (Nat.not_lt_zero a)
theorem cpall_succ {f : Nat → Nat × Nat} {j : Nat} (h : CpAll f j) (k : CpIn f j j) : CpAll f (j + 1) := fun a ha => by
  by_cases c : a = j
  · subst c; exact k
  · exact h a (by omega)
structure Jn (f : Nat → Nat × Nat) (n j : Nat) (x : Int) (M : Nat) : Prop where
  pos : 0 < M
  bd : M ≤ 2 ^ (31 * j)
  lo : 0 ≤ x
  hi : x < M
  cls : ∀ w : Int, (∀ a, a < j → ((f a).2 : Int) ∣ w - (f a).1) ↔ (M : Int) ∣ w - x
  cp : ∀ b, b < n → ((Nat.gcd M (f b).2 : Nat) : Int) ∣ ((f b).1 : Int) - x
theorem jn_zero (f : Nat → Nat × Nat) (n : Nat) : Jn f n 0 0 1 := ⟨by decide, by decide, by decide, by decide, fun w => ⟨fun _ => Int.one_dvd _, fun _ a h => absurd h (Nat.not_lt_zero a)⟩, fun b _ => by rw [Nat.gcd_one_left]; exact Int.one_dvd _⟩
theorem jn_succ {f : Nat → Nat × Nat} {n j : Nat} {x z : Int} {M : Nat} (J : Jn f n j x M) (k0 : ∀ b, b < n → 0 < (f b).2) (k9 : (f j).2 < 2 ^ 31) (hj : j < n) (all : CpAll f n) (z0 : 0 ≤ z) (z1 : z < (Nat.lcm M (f j).2 : Nat)) (zx : (M : Int) ∣ z - x) (zy : ((f j).2 : Int) ∣ z - (f j).1) :
    Jn f n (j + 1) z (Nat.lcm M (f j).2) := by
  refine ⟨Nat.lcm_pos J.pos (k0 j hj), ?_, z0, z1, fun w => ?_, fun b hb => ?_⟩
  · have h1 : Nat.lcm M (f j).2 ≤ M * (f j).2 := Nat.le_of_dvd (Nat.mul_pos J.pos (k0 j hj)) (Nat.lcm_dvd (Nat.dvd_mul_right _ _) (Nat.dvd_mul_left _ _))
    have h2 := Nat.mul_le_mul J.bd (Nat.le_of_lt k9)
    rw [← Nat.pow_add] at h2
    rw [show 31 * (j + 1) = 31 * j + 31 by omega]
    omega
  · rw [join_iff zx zy w, ← J.cls w]
    constructor
    · exact fun h => ⟨fun a ha => h a (by omega), h j (by omega)⟩
    · rintro ⟨h1, h2⟩ a ha
      by_cases c : a = j
      · subst c; exact h2
      · exact h1 a (by omega)
  · refine join_keep (k0 b hb) (J.cp b hb) ?_ zx zy
    rcases Nat.lt_trichotomy j b with c | c | c
    · have := all b hb j c
      unfold Cp at this
      rw [← Int.dvd_neg, Int.neg_sub] at this
      exact this
    · subst c
      rw [Int.sub_self]; exact Int.dvd_zero _
    · have := all j hj b c
      unfold Cp at this
      rwa [Nat.gcd_comm] at this
section
variable {P : Program} {w : World} {K : PySem.W.Frag} {mg : Str → Option Value} {base : Heap} {T : Addr → Prop}
theorem ok_rest_paper {f : Addr} {fd : FuncData} (F : Fun K "rest_paper" "rest_paper" s_rest_paper f fd) (C_joined : Cal P w K mg base "joined" 2 ["one", "two"] (spP K T φ_joined)) (C_parting : Cal P w K mg base "parting" 1 ["one", "two"] (spP K T φ_parting)) (C_alone : Cal P w K mg base "alone" 2 ["triple"] (spP K T φ_alone)) (z_enumerate : mg "enumerate" = none) : FnOk P w K mg base CX0 3 f fd ["rests"] (spP K T φ_rest_paper) := by
  refine mkFn (k := 2) F sc_rest_paper φ_rest_paper_len (fun cdv A outer s H E hr => ?_)
  refine ⟨_, (pss_cons (ps_setLc (i := 1) (own := [("triple", 7)]) rfl sc_rest_paper.nd rfl rfl (sw_true rfl rfl rfl (by decide +kernel)) (pi_tup (pv 0)) (blkOk_by (N := ["rests", "plain", "i", "one", "j", "two", "found", "triple"]) (sc := defScope s_rest_paper) (by decide +kernel)) (fun _ _ _ _ _ => (pg_name (i := 7) sc_rest_paper.nd rfl (.inl rfl))) (fun _ _ _ _ _ => pts_nil) (fun _ _ _ _ _ => (pe_cl C_alone hr (by decide) (by rfl) (pa_cons (pv 7) pa_nil))))
      (pss_cons (ps_for PassesOwn.never rfl (pi_enum (by rfl) z_enumerate (pa_cons (pv 1) pa_nil)) (pg_tup rfl (pgs_cons (pg_name (i := 2) sc_rest_paper.nd rfl (.inl rfl)) (pgs_cons (pg_name (i := 3) sc_rest_paper.nd rfl (.inl rfl)) pgs_nil))) (pss_one (ps_if (pt_cmpR Ab.op_isN2 (pv 3) pe_non (nomark _)) (pss_one (ps_ret (pe_tup (pa_cons pe_str (pa_cons (pv 2) pa_nil))))) pss_nil)))
      (pss_cons (ps_for PassesOwn.never rfl (pi_enum (by rfl) z_enumerate (pa_cons (pv 1) pa_nil)) (pg_tup rfl (pgs_cons (pg_name (i := 4) sc_rest_paper.nd rfl (.inl rfl)) (pgs_cons (pg_name (i := 5) sc_rest_paper.nd rfl (.inl rfl)) pgs_nil))) (pss_one (ps_for PassesOwn.never rfl (pi_enum (by rfl) z_enumerate (pa_cons (pe_slice sl_list (pv 1) po_none (po_some (pv 4))) pa_nil)) (pg_tup rfl (pgs_cons (pg_name (i := 2) sc_rest_paper.nd rfl (.inl rfl)) (pgs_cons (pg_name (i := 3) sc_rest_paper.nd rfl (.inl rfl)) pgs_nil))) (pss_one (ps_if (pt_val (pe_cl C_parting hr (by decide) (by rfl) (pa_cons (pv 3) (pa_cons (pv 5) pa_nil)))) (pss_one (ps_ret (pe_tup (pa_cons pe_str (pa_cons (pv 2) (pa_cons (pv 4) pa_nil)))))) pss_nil)))))
      (pss_cons (ps_set (i := 6) sc_rest_paper.nd rfl (.inl rfl) (pe_tup (pa_cons pe_int (pa_cons pe_int pa_nil))))
      (pss_cons (ps_for PassesOwn.never rfl (pi_list (pv 1)) (pg_name (i := 3) sc_rest_paper.nd rfl (.inl rfl)) (pss_one (ps_set (i := 6) sc_rest_paper.nd rfl (.inl rfl) (pe_cl C_joined hr (by decide) (by rfl) (pa_cons (pv 6) (pa_cons (pv 3) pa_nil))))))
      (pss_one (ps_ret (pe_tup (pa_cons pe_str (StX.pa_star (pv 6) pa_nil)))))))))), fun ds kk h => ?_⟩
  obtain ⟨L, rfl, ⟨l5, ok⟩, h1, h2, h3⟩ := h
  show Ds K ⟨none, T⟩ _ [Sl.dat _, Sl.no, Sl.no, Sl.no, Sl.no, Sl.no, Sl.no, Sl.no] _
  try dsimp only [L2.cxOf, L2.Cx.nox, L2.Cx.wish]
  have ll : (L.map triD).length = L.length := List.length_map ..
  walk_at "go"
  refine de_ofN (dn_lcT (fun xs i ds => Goods L i ds) ?_)
  walk_at "go"
  refine ⟨goods_zero L, fun i ds hi ha => ?_, fun ds hds => ?_⟩
  · have hi : i < L.length := by omega
    show ∃ δ2, TgtOk K (gName 7) [7] ((L.map triD).getD i .none) _ δ2 ∧ _
    rw [tri_getD hi]
    refine ⟨_, tgt_name, ?_⟩
    refine fun B F H σ S Q q => q true F H _ ⟨rfl, ?_⟩ S Kp.rfl'
    refine iteT ?_
    walk_at "go"
    refine ⟨L.getD i t0, rfl, ok _ (tri_mem hi), fun no => ?_, fun r k k0 rk k9 hs => ?_⟩
    · walk_at "go"
      exact goods_succ ha (.inl ⟨rfl, no⟩)
    · walk_at "go"
      exact goods_succ ha (.inr ⟨r, k, rfl, k0, rk, k9, hs⟩)
  have hds : Goods L (L.map triD).length ds := hds
  rw [ll] at hds
  obtain ⟨dl, dg⟩ := hds
  walk_at "go"
  refine ds_enum (fun xs j δ' => ∃ (s2 s3 : Sl), δ' = [.dat (.tuple (L.map triD)), .dat (.list ds), s2, s3, .no, .no, .no, .no] ∧ NF ds j) ?_
  walk_at "go"
  refine ⟨⟨_, _, rfl, fun i hi => absurd hi (Nat.not_lt_zero i)⟩, fun j δ' hj hp => ?_, fun δ' hp => ?_⟩
  · have hj : j < ds.length := hj
    show Dg K _ _ (.tuple [.int (j : Nat), ds.getD j .none]) _ _
    obtain ⟨s2, s3, rfl, no⟩ := hp
    have g := dg j (by omega)
    have nx : ds.getD j .none ≠ .none → NF ds (j + 1) := fun h => nf_succ no h
    generalize ds.getD j .none = d at *
    rcases g with ⟨rfl, ns⟩ | ⟨r, k, rfl, k0, rk, k9, sk⟩
    · walk_at "go"
      refine iteR rfl ?_
      walk_at "go"
      exact h2 j (by omega) ns
    · walk_at "go"
      refine iteL rfl ?_
      walk_at "go"
      exact nx (fun z => by cases z)
  obtain ⟨s2, s3, rfl, no⟩ := hp
  have no : NF ds ds.length := no
  have ch : ∀ i, ∃ p : Nat × Nat, i < ds.length → ds.getD i .none = .tuple [.int p.1, .int p.2] ∧ 0 < p.2 ∧ p.1 < p.2 ∧ p.2 < 2 ^ 31 ∧ ∀ x : Int, sol (L.getD i t0) x ↔ (p.2 : Int) ∣ x - p.1 := fun i => by
    by_cases c : i < ds.length
    · rcases dg i (by omega) with ⟨h, _⟩ | ⟨r, k, e, k0, rk, k9, sk⟩
      · exact absurd h (no i c)
      · exact ⟨(r, k), fun _ => ⟨e, k0, rk, k9, sk⟩⟩
    · exact ⟨(0, 0), fun h => absurd h c⟩
  obtain ⟨f, hf⟩ := Classical.axiomOfChoice ch
  walk_at "go"
  refine ds_enum (fun xs j δ' => ∃ (s2 s3 s4 s5 : Sl), δ' = [.dat (.tuple (L.map triD)), .dat (.list ds), s2, s3, s4, s5, .no, .no] ∧ CpAll f j) ?_
  walk_at "go"
  refine ⟨⟨_, _, _, _, rfl, cpall_zero f⟩, fun j δ' hj hp => ?_, fun δ' hp => ?_⟩
  · have hj : j < ds.length := hj
    show Dg K _ _ (.tuple [.int (j : Nat), ds.getD j .none]) _ _
    obtain ⟨s2, s3, s4, s5, rfl, all⟩ := hp
    obtain ⟨ej, kj0, rj, kj9, sj⟩ := hf j hj
    rw [ej]
    walk_at "go"
    refine ds_enum (fun xs i δ' => ∃ (s2 s3 : Sl), δ' = [.dat (.tuple (L.map triD)), .dat (.list ds), s2, s3, .dat (.int (j : Nat)), .dat (.tuple [.int (f j).1, .int (f j).2]), .no, .no] ∧ CpIn f j i) ?_
    walk_at "go"
    rw [cut_to _ (Nat.le_of_lt hj)]
    have tl : (ds.take j).length = j := by rw [List.length_take]; omega
    refine ⟨⟨_, _, rfl, cpin_zero f j⟩, fun i δ' hi hp => ?_, fun δ' hp => ?_⟩
    · have hi : i < j := by omega
      show Dg K _ _ (.tuple [.int (i : Nat), (ds.take j).getD i .none]) _ _
      obtain ⟨s2, s3, rfl, cin⟩ := hp
      obtain ⟨ei, ki0, ri, ki9, si⟩ := hf i (by omega)
      rw [take_getD hi, ei]
      walk_at "go"
      refine ⟨(f i).1, (f i).2, (f j).1, (f j).2, rfl, ⟨ki0, kj0, ki9, kj9⟩, ?_⟩
      walk_at "go"
      refine ite_decN (fun c => ?_) (fun c => ?_)
      · walk_at "go"
        refine h3 i j hi (by omega) ⟨(f i).1, (si _).mpr (by rw [Int.sub_self]; exact Int.dvd_zero _)⟩ ⟨(f j).1, (sj _).mpr (by rw [Int.sub_self]; exact Int.dvd_zero _)⟩ fun x hx => c ?_
        exact (pair_sol ki0 kj0).mp ⟨x, (si x).mp hx.1, (sj x).mp hx.2⟩
      · walk_at "go"
        exact cpin_succ cin c
    · obtain ⟨s2, s3, rfl, cin⟩ := hp
      have cin : CpIn f j (ds.take j).length := cin
      rw [tl] at cin
      walk_at "go"
      exact ⟨_, _, _, _, rfl, cpall_succ all cin⟩
  obtain ⟨s2, s3, s4, s5, rfl, all⟩ := hp
  have all : CpAll f ds.length := all
  walk_at "go"
  refine ds_forL (fun xs j δ' => ∃ (x : Int) (M : Nat) (s3 : Sl), δ' = [.dat (.tuple (L.map triD)), .dat (.list ds), s2, s3, s4, s5, .dat (.tuple [.int x, .int M]), .no] ∧ Jn f ds.length j x M) ?_
  walk_at "go"
  refine ⟨⟨0, 1, s3, rfl, jn_zero f _⟩, fun j δ' hj hp => ?_, fun δ' hp => ?_⟩
  · have hj : j < ds.length := hj
    show Dg K _ _ (ds.getD j .none) _ _
    obtain ⟨x, M, s3, rfl, J⟩ := hp
    obtain ⟨ej, kj0, rj, kj9, sj⟩ := hf j hj
    rw [ej]
    have M9 : M < 2 ^ 199 := Nat.lt_of_le_of_lt J.bd (Nat.pow_lt_pow_right (by decide) (by omega))
    have J0 := J.pos
    have J1 := J.lo
    have J2 := J.hi
    walk_at "go"
    refine ⟨x, (f j).1, M, (f j).2, rfl, ⟨J0, kj0, M9, by omega, by unfold Bd; omega, by unfold Bd; omega⟩, fun c => absurd (J.cp j hj) c, fun z z0 z1 zx zy => ?_⟩
    walk_at "go"
    exact ⟨z, _, _, rfl, jn_succ J (fun b hb => (hf b hb).2.1) kj9 hj all z0 z1 zx zy⟩
  · obtain ⟨x, M, s3, rfl, J⟩ := hp
    have J : Jn f ds.length ds.length x M := J
    walk_at "go"
    refine h1 x M J.pos J.lo J.hi fun w => ?_
    rw [← J.cls w]
    constructor
    · exact fun h a ha => ((hf a ha).2.2.2.2 w).mp (h _ (tri_mem (by omega)))
    · intro h t ht
      obtain ⟨a, ha, rfl⟩ := List.getElem_of_mem ht
      have := ((hf a (by omega)).2.2.2.2 w).mpr (h a (by omega))
      rwa [List.getD_eq_getElem?_getD, List.getElem?_eq_getElem ha] at this
end

def Paper (L : List Tri) (v : PyData) : Prop := (∃ (x : Int) (M : Nat), v = .tuple [.str "meets", .int x, .int M] ∧ 0 < M ∧ 0 ≤ x ∧ x < M ∧ ∀ w, Sol L w ↔ (M : Int) ∣ w - x) ∨
  (∃ i : Nat, v = .tuple [.str "alone", .int i] ∧ i < L.length ∧ ∀ x, ¬ sol (L.getD i t0) x) ∨
  (∃ i j : Nat, v = .tuple [.str "parts", .int i, .int j] ∧ i < j ∧ j < L.length ∧ (∃ x, sol (L.getD i t0) x) ∧ (∃ x, sol (L.getD j t0) x) ∧ ∀ x, ¬ (sol (L.getD i t0) x ∧ sol (L.getD j t0) x))
theorem rp_of {L : List Tri} {κ : PyData → Prop} (h : ∀ v, Paper L v → κ v) : Rp L κ :=
  ⟨fun x M a b c d => h _ (.inl ⟨x, M, rfl, a, b, c, d⟩), fun i a b => h _ (.inr (.inl ⟨i, rfl, a, b⟩)), fun i j a b c d e => h _ (.inr (.inr ⟨i, j, rfl, a, b, c, d, e⟩))⟩
theorem paper_meets {L : List Tri} {v : PyData} {x : Int} {M : Nat} (P : Paper L v) (M0 : 0 < M) (x0 : 0 ≤ x) (x1 : x < M) (h : ∀ w, Sol L w ↔ (M : Int) ∣ w - x) : v = .tuple [.str "meets", .int x, .int M] := by
  have sx : Sol L x := (h x).mpr (by rw [Int.sub_self]; exact Int.dvd_zero _)
  rcases P with ⟨y, N, rfl, N0, y0, y1, k⟩ | ⟨i, rfl, hi, no⟩ | ⟨i, j, rfl, hij, hj, _, _, no⟩
  · obtain ⟨e1, e2⟩ := class_uniq M0 N0 x0 x1 y0 y1 fun z => (h z).symm.trans (k z)
    rw [e1, e2]
  · exact absurd (sx _ (tri_mem hi)) (no x)
  · exact absurd ⟨sx _ (tri_mem (by omega)), sx _ (tri_mem hj)⟩ (no x)
theorem paper_pl {L : List Tri} {v : PyData} (P : Paper L v) : Pl 2 v := by
  have c1 : PyData.canLay0 (.str "meets") = true := by decide +kernel
  have c2 : PyData.canLay0 (.str "alone") = true := by decide +kernel
  have c3 : PyData.canLay0 (.str "parts") = true := by decide +kernel
  rcases P with ⟨y, N, rfl, _⟩ | ⟨i, rfl, _⟩ | ⟨i, j, rfl, _⟩
  · intro x hx
    simp only [List.mem_cons, List.not_mem_nil, or_false] at hx
    rcases hx with rfl | rfl | rfl
    · exact c1
    · trivial
    · trivial
  · intro x hx
    simp only [List.mem_cons, List.not_mem_nil, or_false] at hx
    rcases hx with rfl | rfl
    · exact c2
    · trivial
  · intro x hx
    simp only [List.mem_cons, List.not_mem_nil, or_false] at hx
    rcases hx with rfl | rfl | rfl
    · exact c3
    · trivial
    · trivial
def φ_check_rests (ds : List PyData) (κ : PyData → Prop) : Prop := ∃ (L : List Tri) (v : PyData), ds = [.tuple (L.map triD), v] ∧ (L.length ≤ 5 ∧ (∀ t ∈ L, OkT t) ∧ Paper L v) ∧ κ (.bool true)
theorem φ_check_rests_len (ds k) (h : φ_check_rests ds k) : ds.length = 2 := by obtain ⟨_, _, rfl, _⟩ := h; rfl
theorem tri_at {L : List Tri} {i : Nat} (h : i < L.length) : atI (L.map triD) (i : Int) = some (triD (L.getD i t0)) := by
  apply atI_nat
  rw [List.getElem?_map, List.getElem?_eq_getElem h, List.getD_eq_getElem?_getD, List.getElem?_eq_getElem h]; rfl
theorem cl1 : PyData.canLay0 (.str "meets") = true := by decide +kernel
theorem cl2 : PyData.canLay0 (.str "alone") = true := by decide +kernel
theorem cl3 : PyData.canLay0 (.str "parts") = true := by decide +kernel
theorem ne12 : ¬ ("alone" : Str) = "meets" := by decide +kernel
theorem ne13 : ¬ ("parts" : Str) = "meets" := by decide +kernel
theorem ne23 : ¬ ("parts" : Str) = "alone" := by decide +kernel
section
variable {P : Program} {w : World} {K : PySem.W.Frag} {mg : Str → Option Value} {base : Heap} {T : Addr → Prop}
theorem ok_check_rests {f : Addr} {fd : FuncData} (F : Fun K "check_rests" "check_rests" s_check_rests f fd) (C_parting : Cal P w K mg base "parting" 1 ["one", "two"] (spP K T φ_parting)) (C_alone : Cal P w K mg base "alone" 2 ["triple"] (spP K T φ_alone)) (C_is_within : Cal P w K mg base "is_within" 2 ["value", "low", "high"] (spP K T φ_is_within)) (C_is_worded : Cal P w K mg base "is_worded" 1 ["value", "word", "length"] (spP K T φ_is_worded)) (C_rest_paper : Cal P w K mg base "rest_paper" 3 ["rests"] (spP K T φ_rest_paper)) (C_is_row : Cal P w K mg base "is_row" 3 ["value", "length"] (spP K T φ_is_row)) (z_len : mg "len" = none) : FnOk P w K mg base CX0 4 f fd ["rests", "value"] (spP K T φ_check_rests) := by
  refine mkFn (k := 3) F sc_check_rests φ_check_rests_len (fun cdv A outer s H E hr => ?_)
  refine ⟨_, (pss_cons (ps_set (i := 2) sc_check_rests.nd rfl (.inl rfl) (pe_op op_sub (pe_callB cr_len (by rfl) z_len PySem.boot_len (pa_cons (pv 0) pa_nil)) pe_int))
      (pss_cons (ps_if (pt_val (pe_cl C_is_worded hr (by decide) (by rfl) (pa_cons (pv 1) (pa_cons pe_str (pa_cons pe_int pa_nil))))) (pss_one (ps_ret (pe_and (pe_cl C_is_row hr (by decide) (by rfl) (pa_cons (pe_slice sl_tupA (pv 1) (po_some pe_int) po_none) (pa_cons pe_int pa_nil))) (pe_one (pe_cmpR (op_eqD hr.units) (pv 1) (pe_cl C_rest_paper hr (by decide) (by rfl) (pa_cons (pv 0) pa_nil)) (nomark _)))))) pss_nil)
      (pss_cons (ps_if (pt_val (pe_cl C_is_worded hr (by decide) (by rfl) (pa_cons (pv 1) (pa_cons pe_str (pa_cons pe_int pa_nil))))) (pss_one (ps_ret (pe_and (pe_cl C_is_within hr (by decide) (by rfl) (pa_cons (pe_ix ix_sq (pv 1) pe_int (fun _ _ => rfl)) (pa_cons pe_int (pa_cons (pv 2) pa_nil)))) (pe_one (pe_cmpR Ab.op_isN2 (pe_cl C_alone hr (by decide) (by rfl) (pa_cons (pe_ix ix_sq (pv 0) (pe_ix ix_sq (pv 1) pe_int (fun _ _ => rfl)) (fun _ _ => rfl)) pa_nil)) pe_non (nomark _)))))) pss_nil)
      (pss_cons (ps_if (PW.pt (pw_or (pt_not (pt_val (pe_cl C_is_worded hr (by decide) (by rfl) (pa_cons (pv 1) (pa_cons pe_str (pa_cons pe_int pa_nil)))))) (pw_or1 (pt_not (pt_val (pe_cl C_is_within hr (by decide) (by rfl) (pa_cons (pe_ix ix_sq (pv 1) pe_int (fun _ _ => rfl)) (pa_cons pe_int (pa_cons (pv 2) pa_nil))))))))) (pss_one (ps_ret pe_bl)) pss_nil)
      (pss_cons (ps_if (pt_not (pt_val (pe_cl C_is_within hr (by decide) (by rfl) (pa_cons (pe_ix ix_sq (pv 1) pe_int (fun _ _ => rfl)) (pa_cons (pe_op op_add (pe_ix ix_sq (pv 1) pe_int (fun _ _ => rfl)) pe_int) (pa_cons (pv 2) pa_nil)))))) (pss_one (ps_ret pe_bl)) pss_nil)
      (pss_cons (ps_par (i := 3) (j := 4) rfl sc_check_rests.nd rfl rfl (by decide) rfl rfl (pa_cons (pe_cl C_alone hr (by decide) (by rfl) (pa_cons (pe_ix ix_sq (pv 0) (pe_ix ix_sq (pv 1) pe_int (fun _ _ => rfl)) (fun _ _ => rfl)) pa_nil)) (pa_cons (pe_cl C_alone hr (by decide) (by rfl) (pa_cons (pe_ix ix_sq (pv 0) (pe_ix ix_sq (pv 1) pe_int (fun _ _ => rfl)) (fun _ _ => rfl)) pa_nil)) pa_nil)) rfl)
      (pss_one (ps_ret (pe_and (pe_cmpR Ab.op_notN2 (pv 3) pe_non (nomark _)) (pe_and (pe_cmpR Ab.op_notN2 (pv 4) pe_non (nomark _)) (pe_one (pe_cl C_parting hr (by decide) (by rfl) (pa_cons (pv 3) (pa_cons (pv 4) pa_nil)))))))))))))), fun ds kk h => ?_⟩
  obtain ⟨L, v, rfl, ⟨l5, ok, P⟩, hk⟩ := h
  show Ds K ⟨none, T⟩ _ [Sl.dat _, Sl.dat _, Sl.no, Sl.no, Sl.no] _
  try dsimp only [L2.cxOf, L2.Cx.nox, L2.Cx.wish]
  have ll : (L.map triD).length = L.length := List.length_map ..
  have P0 := P
  rcases P with ⟨x, M, rfl, M0, x0, x1, hs⟩ | ⟨i, rfl, hi, no⟩ | ⟨i, j, rfl, hij, hj, si, sj, no⟩
  · have pl := paper_pl P0
    have sv : SeqAt.shaped (.tuple [.str "meets", .int x, .int M]) = true := shaped_pl (n := 2) pl
    walk_at "go"
    refine ⟨"meets", [.int x, .int M], "meets", 3, rfl, ⟨cl1, cl1⟩, ?_⟩
    walk_at "go"
    refine iteR (decide_eq_true ⟨rfl, rfl⟩) ?_
    walk_at "go"
    refine ⟨[x, (M : Int)], rfl, ?_⟩
    walk_at "go"
    refine ⟨L, rfl, ⟨l5, ok⟩, rp_of fun u hu => ?_⟩
    have e := paper_meets hu M0 x0 x1 hs
    subst e
    walk_at "go"
    rw [eqv_refl 2 _ pl]
    exact hk
  · walk_at "go"
    refine ⟨"alone", [.int i], "meets", 3, rfl, ⟨cl2, cl1⟩, ?_⟩
    walk_at "go"
    refine iteL (decide_eq_false fun h => ne12 h.2) ?_
    walk_at "go"
    refine ⟨"alone", [.int i], "alone", 2, rfl, ⟨cl2, cl2⟩, ?_⟩
    walk_at "go"
    refine iteR (decide_eq_true ⟨rfl, rfl⟩) ?_
    walk_at "go"
    refine ⟨(i : Int), 0, _, rfl, ?_⟩
    walk_at "go"
    refine iteR (decide_eq_true (by omega)) ?_
    walk_at "go"
    refine ⟨_, tri_at hi, ?_⟩
    walk_at "go"
    refine ⟨_, rfl, ok _ (tri_mem hi), fun _ => ?_, fun r k k0 rk k9 sk => absurd ((sk r).mpr (by rw [Int.sub_self]; exact Int.dvd_zero _)) (no r)⟩
    walk_at "go"
    exact hk
  · walk_at "go"
    refine ⟨"parts", [.int i, .int j], "meets", 3, rfl, ⟨cl3, cl1⟩, ?_⟩
    walk_at "go"
    refine iteL (decide_eq_false fun h => ne13 h.2) ?_
    walk_at "go"
    refine ⟨"parts", [.int i, .int j], "alone", 2, rfl, ⟨cl3, cl2⟩, ?_⟩
    walk_at "go"
    refine iteL (decide_eq_false fun h => ne23 h.2) ?_
    walk_at "go"
    refine ⟨"parts", [.int i, .int j], "parts", 3, rfl, ⟨cl3, cl3⟩, ?_⟩
    walk_at "go"
    refine iteL (by rw [Bool.not_eq_false']; exact decide_eq_true ⟨rfl, rfl⟩) ?_
    walk_at "go"
    refine ⟨(i : Int), 0, _, rfl, ?_⟩
    walk_at "go"
    refine iteL (by rw [Bool.not_eq_false']; exact decide_eq_true (by omega)) ?_
    walk_at "go"
    refine ⟨(j : Int), _, _, rfl, ?_⟩
    walk_at "go"
    refine iteL (by rw [Bool.not_eq_false']; exact decide_eq_true (by omega)) ?_
    walk_at "go"
    refine ⟨_, tri_at (by omega), ?_⟩
    walk_at "go"
    refine ⟨_, rfl, ok _ (tri_mem (by omega)), fun z => absurd si fun ⟨x, hx⟩ => z x hx, fun r k k0 rk k9 sk => ?_⟩
    walk_at "go"
    refine ⟨_, tri_at hj, ?_⟩
    walk_at "go"
    refine ⟨_, rfl, ok _ (tri_mem hj), fun z => absurd sj fun ⟨x, hx⟩ => z x hx, fun s l l0 sl l9 sm => ?_⟩
    walk_at "go"
    refine iteR rfl ?_
    walk_at "go"
    refine iteR rfl ?_
    walk_at "go"
    refine ⟨r, k, s, l, rfl, ⟨k0, l0, k9, l9⟩, ?_⟩
    walk_at "go"
    rw [decide_eq_false fun d => by
      obtain ⟨x, e1, e2⟩ := (pair_sol k0 l0).mpr d
      exact no x ⟨(sk x).mpr e1, (sm x).mpr e2⟩]
    exact hk
end

def OkR (t : Tri) : Prop := Bd 40 t.1 ∧ Bd 100 t.2.1 ∧ 0 < t.2.2 ∧ t.2.2 < 2 ^ 31
def φ_law_rests (ds : List PyData) (k : PyData → Prop) : Prop := ds = [] ∧ ∀ L : List Tri, 1 ≤ L.length → L.length ≤ 4 → (∀ t ∈ L, OkR t) → k (.tuple (L.map triD))
theorem φ_law_rests_len (ds k) (h : φ_law_rests ds k) : ds.length + 1 = 1 := by obtain ⟨rfl, _⟩ := h; rfl
def LR (L : List Tri) (i : Nat) : Prop := L.length = i ∧ ∀ t ∈ L, OkR t
theorem lr_succ {L : List Tri} {i : Nat} {t : Tri} (h : LR L i) (k : OkR t) : LR (L ++ [t]) (i + 1) := by
  refine ⟨by rw [List.length_append, h.1]; rfl, fun u hu => ?_⟩
  rcases List.mem_append.mp hu with z | z
  · exact h.2 u z
  · rw [List.mem_singleton] at z; subst z; exact k
theorem sizes3 {q : Int} (h0 : 0 ≤ q) (h1 : q < 3) : ∃ z : Int, atI [PyData.int 6, PyData.int 30, PyData.int (10 ^ (9 : Int).toNat)] q = some (.int z) ∧ 0 < z ∧ z ≤ 10 ^ 9 := by
  have : q = 0 ∨ q = 1 ∨ q = 2 := by omega
  rcases this with rfl | rfl | rfl
  · exact ⟨6, rfl, by decide, by decide⟩
  · exact ⟨30, rfl, by decide, by decide⟩
  · exact ⟨10 ^ (9 : Int).toNat, rfl, by decide, by decide⟩
section
local macro_rules | `(tactic| walk_at "ab") => `(tactic| with_reducible refine ds_retS ?_)
variable {P : Program} {w : World} {K : PySem.W.Frag} {mg : Str → Option Value} {base : Heap} {T : Addr → Prop}
theorem ok_law_rests {f : Addr} {fd : FuncData} (F : Fun K "_law_rests" "_law_rests" s_law_rests f fd) (C_law_draw : Cal P w K mg base "_law_draw" 2 ["pool", "many"] (spPP K T φ_law_draw)) (C_law_int : Cal P w K mg base "_law_int" 3 ["pool", "most"] (spPP K T φ_law_int)) (z_tuple : mg "tuple" = none) (z_range : mg "range" = none) : FnOk P w K mg base CX0 4 f fd ["pool"] (spPP K T φ_law_rests) := by
  refine mkFnP (k := 3) F sc_law_rests φ_law_rests_len (fun cdv A outer s H E hr => ?_)
  refine ⟨_, (pss_cons (ps_set (i := 1) sc_law_rests.nd rfl (.inl rfl) (pe_op op_add pe_int (pe_cl C_law_draw hr (by decide) (by rfl) (pa_cons (pv 0) (pa_cons pe_int pa_nil)))))
      (pss_cons (ps_set (i := 2) sc_law_rests.nd rfl (.inl rfl) (pe_ix ix_sq (pe_tup (pa_cons pe_int (pa_cons pe_int (pa_cons (pe_op op_pow pe_int pe_int) pa_nil)))) (pe_cl C_law_draw hr (by decide) (by rfl) (pa_cons (pv 0) (pa_cons pe_int pa_nil))) (fun _ _ => rfl)))
      (pss_cons (ps_set (i := 3) sc_law_rests.nd rfl (.inl rfl) (pe_cl C_law_int hr (by decide) (by rfl) (pa_cons (pv 0) (pa_cons (pe_op op_mul pe_int (pv 2)) pa_nil))))
      (pss_cons (ps_set (i := 4) sc_law_rests.nd rfl (.inl rfl) (pe_lst pa_nil))
      (pss_cons (ps_for PassesOwn.never rfl (pi_range1 (by rfl) z_range (pa_cons (pv 1) pa_nil)) (pg_name (i := 5) sc_law_rests.nd rfl (.inl rfl)) (pss_cons (ps_set (i := 6) sc_law_rests.nd rfl (.inl rfl) (pe_op op_add pe_int (pe_cl C_law_draw hr (by decide) (by rfl) (pa_cons (pv 0) (pa_cons (pv 2) pa_nil)))))
      (pss_cons (ps_set (i := 7) sc_law_rests.nd rfl (.inl rfl) (pe_cl C_law_int hr (by decide) (by rfl) (pa_cons (pv 0) (pa_cons (pe_op op_mul pe_int (pv 2)) pa_nil))))
      (pss_cons (ps_set (i := 8) sc_law_rests.nd rfl (.inl rfl) (pe_ifExp (pt_cmpR op_gt (pe_cl C_law_draw hr (by decide) (by rfl) (pa_cons (pv 0) (pa_cons pe_int pa_nil))) pe_int (nomark _)) (pe_op op_add (pe_op op_mulW (pv 7) (pv 3)) (pe_op op_mulW (pv 6) (pe_cl C_law_int hr (by decide) (by rfl) (pa_cons (pv 0) (pa_cons pe_int pa_nil))))) (pe_cl C_law_int hr (by decide) (by rfl) (pa_cons (pv 0) (pa_cons (pv 2) pa_nil)))))
      (pss_one (ps_expr (pe_bm PySem.F.plainAttrs_list PySem.F.slot_list_append PySem.F.type_list_append mt_append (pv 4) (pa_cons (pe_tup (pa_cons (pv 7) (pa_cons (pv 8) (pa_cons (pv 6) pa_nil)))) pa_nil))))))))
      (pss_one (ps_ret (pe_callTy cr_tup (by rfl) z_tuple (by decide +kernel) (pa_cons (pv 4) pa_nil))))))))), fun p ds kk h => ?_⟩
  obtain ⟨rfl, hk⟩ := h
  show Ds K ⟨some p, T⟩ _ [Sl.pool, Sl.no, Sl.no, Sl.no, Sl.no, Sl.no, Sl.no, Sl.no, Sl.no] _
  try dsimp only [L2.cxOf, L2.Cx.nox, L2.Cx.wish]
  walk_at "go"
  refine ⟨_, rfl, by decide, by decide, fun many n0 n1 => ?_⟩
  obtain ⟨many, rfl⟩ := Int.eq_ofNat_of_zero_le n0
  walk_at "go"
  refine ⟨_, rfl, by decide, by decide, fun q q0 q1 => ?_⟩
  obtain ⟨z, hz, z0, z9⟩ := sizes3 q0 q1
  walk_at "go"
  refine ⟨_, hz, ?_⟩
  walk_at "go"
  refine ⟨_, rfl, ⟨by omega, by omega⟩, fun x xl xh => ?_⟩
  have bx : Bd 33 x := by unfold Bd; omega
  walk_at "go"
  refine ds_forR1 (fun n i δ' => ∃ (L : List Tri) (s5 s6 s7 s8 : Sl), δ' = [.pool, .dat (.int (1 + (many : Int))), .dat (.int z), .dat (.int x), .own (L.map triD), s5, s6, s7, s8] ∧ LR L i) ?_
  walk_at "go"
  refine ⟨⟨[], _, _, _, _, rfl, rfl, fun t ht => by cases ht⟩, fun i δ' hi hp => ?_, fun δ' hp => ?_⟩
  · obtain ⟨L, s5, s6, s7, s8, rfl, lr⟩ := hp
    have hl : (L.map triD).length < 100000 := by rw [List.length_map, lr.1]; omega
    walk_at "go"
    refine ⟨_, rfl, z0, by omega, fun m m0 m1 => ?_⟩
    obtain ⟨m, rfl⟩ := Int.eq_ofNat_of_zero_le m0
    have bm : Bd 31 (1 + (m : Int)) := by unfold Bd; omega
    walk_at "go"
    refine ⟨_, rfl, ⟨by omega, by omega⟩, fun a al ah => ?_⟩
    have ba : Bd 32 a := by unfold Bd; omega
    walk_at "gp"
    refine de_ifM (fun v => ∃ b : Int, v = .d (.int b) ∧ Bd 100 b) ?_ (fun v hv => ?_)
    · walk_at "go"
      refine ⟨_, rfl, by decide, by decide, fun c c0 c1 => ?_⟩
      walk_at "go"
      refine ite_dec (fun q => ?_) (fun q => ?_)
      · walk_at "go"
        refine ⟨_, rfl, ⟨by decide, by decide⟩, fun e el eh => ?_⟩
        have be : Bd 2 e := by unfold Bd; omega
        walk_at "go"
        exact ((ba.mul bx).add (bm.mul be)).mono (by decide)
      · walk_at "go"
        refine ⟨_, rfl, ⟨by omega, by omega⟩, fun e el eh => ?_⟩
        walk_at "go"
        unfold Bd; omega
    obtain ⟨b, rfl, bb⟩ := hv
    walk_at "go"
    have e : (1 : Int) + (m : Int) = ((m + 1 : Nat) : Int) := by omega
    have el : L.map triD ++ [PyData.tuple [.int a, .int b, .int (1 + (m : Int))]] = (L ++ [(a, b, m + 1)]).map triD := by rw [List.map_append, e]; rfl
    rw [el]
    exact ⟨L ++ [(a, b, m + 1)], _, _, _, _, rfl, lr_succ lr ⟨ba.mono (by decide), bb, by show 0 < m + 1; omega, by show m + 1 < 2 ^ 31; omega⟩⟩
  · obtain ⟨L, s5, s6, s7, s8, rfl, lr⟩ := hp
    have lr : LR L (1 + (many : Int)).toNat := lr
    have l1 := lr.1
    walk_at "go"
    exact ⟨hk L (by omega) (by omega) lr.2, rfl⟩
end

theorem okT_of {t : Tri} (h : OkR t) : OkT t := ⟨h.1.mono (by decide), h.2.1.mono (by decide), h.2.2.1, h.2.2.2⟩
def mv (y : Int) (t : Tri) : Tri := (t.1, t.2.1 + t.1 * y, t.2.2)
theorem mv_sol {y : Int} {L : List Tri} (w : Int) : Sol (L.map (mv y)) w ↔ Sol L (w - y) := by
  unfold Sol
  constructor
  · intro h t ht
    exact (moved_iff (a := t.1) (b := t.2.1) (m := t.2.2) w).mp (h (mv y t) (List.mem_map.mpr ⟨t, ht, rfl⟩))
  · intro h t ht
    obtain ⟨u, hu, rfl⟩ := List.mem_map.mp ht
    exact (moved_iff (a := u.1) (b := u.2.1) (m := u.2.2) w).mpr (h u hu)
theorem turn_sol {L : List Tri} (w : Int) : Sol (L.reverse ++ L.take 1) w ↔ Sol L w := by
  unfold Sol
  constructor
  · exact fun h t ht => h t (List.mem_append_left _ (List.mem_reverse.mpr ht))
  · intro h t ht
    rcases List.mem_append.mp ht with z | z
    · exact h t (List.mem_reverse.mp z)
    · exact h t (List.mem_of_mem_take z)
theorem paper_head {L : List Tri} {v : PyData} (P : Paper L v) : ∃ (s : Str) (r : List PyData), v = .tuple (.str s :: r) ∧ PyData.canLay0 (.str s) = true ∧ (s = "meets" ↔ ∃ w, Sol L w) := by
  rcases P with ⟨y, N, rfl, N0, y0, y1, k⟩ | ⟨i, rfl, hi, no⟩ | ⟨i, j, rfl, hij, hj, _, _, no⟩
  · exact ⟨_, _, rfl, cl1, fun _ => ⟨y, (k y).mpr (by rw [Int.sub_self]; exact Int.dvd_zero _)⟩, fun _ => rfl⟩
  · exact ⟨_, _, rfl, cl2, fun h => absurd h ne12, fun ⟨w, h⟩ => absurd (h _ (tri_mem hi)) (no w)⟩
  · exact ⟨_, _, rfl, cl3, fun h => absurd h ne13, fun ⟨w, h⟩ => absurd ⟨h _ (tri_mem (by omega)), h _ (tri_mem hj)⟩ (no w)⟩
theorem paper_ex {L : List Tri} {v : PyData} (P : Paper L v) (h : ∃ w, Sol L w) : ∃ (x : Int) (M : Nat), v = .tuple [.str "meets", .int x, .int M] ∧ 0 < M ∧ 0 ≤ x ∧ x < M ∧ ∀ w, Sol L w ↔ (M : Int) ∣ w - x := by
  obtain ⟨w, hw⟩ := h
  rcases P with h | ⟨i, rfl, hi, no⟩ | ⟨i, j, rfl, hij, hj, _, _, no⟩
  · exact h
  · exact absurd (hw _ (tri_mem hi)) (no w)
  · exact absurd ⟨hw _ (tri_mem (by omega)), hw _ (tri_mem hj)⟩ (no w)
theorem pl_meets4 (x M : Int) : Pl 4 (.tuple [.str "meets", .int x, .int M]) := by
  intro d hd
  simp only [List.mem_cons, List.not_mem_nil, or_false] at hd
  rcases hd with rfl | rfl | rfl
  · exact cl1
  · trivial
  · trivial
theorem pl_meets (x M : Int) : Pl 2 (.tuple [.str "meets", .int x, .int M]) := by
  intro d hd
  simp only [List.mem_cons, List.not_mem_nil, or_false] at hd
  rcases hd with rfl | rfl | rfl
  · exact cl1
  · trivial
  · trivial
theorem shaped_meets (x M : Int) : SeqAt.shaped (.tuple [.str "meets", .int x, .int M]) = true := shaped_pl (n := 4) (pl_meets4 x M)

theorem eqw {a b c : Str} (h : a = c ↔ b = c) : PyData.eqv (.bool (PyData.eqv (.str a) (.str c))) (.bool (PyData.eqv (.str b) (.str c))) = true := by
  have e : PyData.eqv (.str a) (.str c) = PyData.eqv (.str b) (.str c) := by
    rw [Bool.eq_iff_iff, eqv_str, eqv_str, decide_eq_true_iff, decide_eq_true_iff]; exact h
  rw [e]; simp [PyData.eqv]
theorem shaped_s {s : Str} (h : PyData.canLay0 (.str s) = true) : SeqAt.shaped (.str s) = true := shaped_pl (n := 1) h
local macro_rules | `(tactic| walk_at "sd") => `(tactic| exact shaped_meets _ _)
local macro_rules | `(tactic| walk_at "st") => `(tactic| with_reducible refine ⟨_, at0 _ _, ?_⟩)
def PLn (L Q : List Tri) (j : Nat) : Prop := Q.length = j ∧ (∀ t ∈ Q, OkT t) ∧ ∀ w, Sol Q w ↔ Sol (L.take j) w
theorem pln_succ {L Q : List Tri} {j : Nat} {t : Tri} (h : PLn L Q j) (hj : j < L.length) (k : OkT t) (e : ∀ w, sol t w ↔ sol (L.getD j t0) w) : PLn L (Q ++ [t]) (j + 1) := by
  refine ⟨by rw [List.length_append, h.1]; rfl, fun u hu => ?_, fun w => ?_⟩
  · rcases List.mem_append.mp hu with z | z
    · exact h.2.1 u z
    · rw [List.mem_singleton] at z; subst z; exact k
  · have ap : ∀ A B : List Tri, Sol (A ++ B) w ↔ Sol A w ∧ Sol B w := fun A B => by
      unfold Sol
      exact ⟨fun h => ⟨fun t ht => h t (List.mem_append_left _ ht), fun t ht => h t (List.mem_append_right _ ht)⟩, fun h t ht => (List.mem_append.mp ht).elim (h.1 t) (h.2 t)⟩
    have one : ∀ u, Sol [u] w ↔ sol u w := fun u => ⟨fun h => h u List.mem_cons_self, fun h t ht => by rw [List.mem_singleton] at ht; subst ht; exact h⟩
    have gd : L[j] = L.getD j t0 := by rw [List.getD_eq_getElem?_getD, List.getElem?_eq_getElem hj]; rfl
    rw [List.take_add_one, List.getElem?_eq_getElem hj, ap, h.2.2 w, one, e w]
    show _ ↔ Sol (L.take j ++ [L[j]]) w
    rw [ap, one, gd]
theorem moved_class {x y : Int} {N : Nat} (N0 : 0 < N) (w : Int) : (N : Int) ∣ w - y - x ↔ (N : Int) ∣ w - (x + y) % (N : Nat) := by
  have d := M72.emod_dvd (x + y) N
  rw [show w - y - x = (w - (x + y) % (N : Nat)) + ((x + y) % (N : Nat) - (x + y)) by omega]
  exact Int.dvd_add_left d
section
variable {P : Program} {w : World} {K : PySem.W.Frag} {mg : Str → Option Value} {base : Heap} {T : Addr → Prop}
theorem ok_law {f : Addr} {fd : FuncData} (F : Fun K "law" "law" s_law f fd) (C_multiple : Cal P w K mg base "multiple" 1 ["row"] (spP K T φ_multiple)) (C_rest_paper : Cal P w K mg base "rest_paper" 3 ["rests"] (spP K T φ_rest_paper)) (C_law_draw : Cal P w K mg base "_law_draw" 2 ["pool", "many"] (spPP K T φ_law_draw)) (C_law_int : Cal P w K mg base "_law_int" 3 ["pool", "most"] (spPP K T φ_law_int)) (C_common : Cal P w K mg base "common" 1 ["row"] (spP K T φ_common)) (C_inverse : Cal P w K mg base "inverse" 2 ["a", "m"] (spP K T φ_inverse)) (C_check_rests : Cal P w K mg base "check_rests" 4 ["rests", "value"] (spP K T φ_check_rests)) (C_law_rests : Cal P w K mg base "_law_rests" 4 ["pool"] (spPP K T φ_law_rests)) (C_law_pool : Cal P w K mg base "_law_pool" 1 ["script"] (spPool K T)) (z_tuple : mg "tuple" = none) : FnOk P w K mg base CX0 5 f fd ["script"] (spP K T φ_law) := by
  refine mkFn (k := 4) F sc_law φ_law_len (fun cdv A outer s H E hr => ?_)
  refine ⟨_, (pss_cons (ps_set (i := 1) sc_law.nd rfl (.inl rfl) (pe_cl C_law_pool hr (by decide) (by rfl) (pa_cons (pv 0) pa_nil)))
      (pss_cons (ps_asg (pe_tup (pa_cons (pe_cl C_law_rests hr (by decide) (by rfl) (pa_cons (pv 1) pa_nil)) (pa_cons (pe_cl C_law_int hr (by decide) (by rfl) (pa_cons (pv 1) (pa_cons pe_int pa_nil))) pa_nil))) (pg_tup rfl (pgs_cons (pg_name (i := 2) sc_law.nd rfl (.inl rfl)) (pgs_cons (pg_name (i := 3) sc_law.nd rfl (.inr rfl)) pgs_nil))))
      (pss_cons (ps_set (i := 4) sc_law.nd rfl (.inl rfl) (pe_cl C_rest_paper hr (by decide) (by rfl) (pa_cons (pv 2) pa_nil)))
      (pss_cons (ps_set (i := 8) sc_law.nd rfl (.inl rfl) (pe_callTy cr_tup (by rfl) z_tuple (by decide +kernel) (pa_cons (pe_lc (own := [("a", 5), ("b", 6), ("m", 7)]) rfl sc_law.nd (pi_tup (pv 2)) (blkOk_by (N := ["script", "pool", "rests", "by", "paper", "a", "b", "m", "moved", "other", "turned", "plain", "x", "n", "one", "two"]) (sc := defScope s_law) (by decide +kernel)) (fun _ _ _ _ _ => (k_pg (n := 3) (K := K) rfl rfl (pgs_cons (pg_name (i := 5) sc_law.nd rfl (.inl rfl)) (pgs_cons (pg_name (i := 6) sc_law.nd rfl (.inl rfl)) (pgs_cons (pg_name (i := 7) sc_law.nd rfl (.inl rfl)) pgs_nil))))) (fun _ _ _ _ _ => pts_nil) (fun _ _ _ _ _ => (pe_tup (pa_cons (pv 5) (pa_cons (pe_op op_add (pv 6) (pe_op op_mulW (pv 5) (pv 3))) (pa_cons (pv 7) pa_nil)))))) pa_nil)))
      (pss_cons (ps_set (i := 9) sc_law.nd rfl (.inl rfl) (pe_cl C_rest_paper hr (by decide) (by rfl) (pa_cons (pv 8) pa_nil)))
      (pss_cons (ps_set (i := 10) sc_law.nd rfl (.inl rfl) (pe_cl C_rest_paper hr (by decide) (by rfl) (pa_cons (pe_op op_catA (Ab.pe_revT (pv 2)) (pe_slice sl_tupA (pv 2) po_none (po_some pe_int))) pa_nil)))
      (pss_cons (ps_if (PW.pt (pw_and (pt_cmpR (op_eqD hr.units) (pe_ix ix_sq (pv 4) pe_int (fun _ _ => rfl)) pe_str (nomark _)) (pw_and1 (PW.pt (pw_or (pt_cmpR (op_neD hr.units) (pv 9) (pe_tup (pa_cons pe_str (pa_cons (pe_op op_mod (pe_op op_add (pe_ix ix_sq (pv 4) pe_int (fun _ _ => rfl)) (pv 3)) (pe_ix ix_sq (pv 4) pe_int (fun _ _ => rfl))) (pa_cons (pe_ix ix_sq (pv 4) pe_int (fun _ _ => rfl)) pa_nil)))) (nomark _)) (pw_or1 (pt_cmpR (op_neD hr.units) (pv 10) (pv 4) (nomark _)))))))) (pss_one (ps_ret pe_bl)) pss_nil)
      (pss_cons (ps_if (PW.pt (pw_or (pt_cmpR (op_neD hr.units) (pe_cmpR (op_eqD hr.units) (pe_ix ix_sq (pv 9) pe_int (fun _ _ => rfl)) pe_str (nomark _)) (pe_cmpR (op_eqD hr.units) (pe_ix ix_sq (pv 4) pe_int (fun _ _ => rfl)) pe_str (nomark _)) (nomark _)) (pw_or (pt_cmpR (op_neD hr.units) (pe_cmpR (op_eqD hr.units) (pe_ix ix_sq (pv 10) pe_int (fun _ _ => rfl)) pe_str (nomark _)) (pe_cmpR (op_eqD hr.units) (pe_ix ix_sq (pv 4) pe_int (fun _ _ => rfl)) pe_str (nomark _)) (nomark _)) (pw_or1 (pt_not (pt_val (pe_cl C_check_rests hr (by decide) (by rfl) (pa_cons (pv 8) (pa_cons (pv 9) pa_nil))))))))) (pss_one (ps_ret pe_bl)) pss_nil)
      (pss_cons (ps_set (i := 11) sc_law.nd rfl (.inl rfl) (pe_tup pa_nil))
      (pss_cons (ps_for PassesOwn.never rfl (pi_tup (pv 2)) (pg_tup (n := 3) rfl (pgs_cons (pg_name (i := 5) sc_law.nd rfl (.inl rfl)) (pgs_cons (pg_name (i := 6) sc_law.nd rfl (.inl rfl)) (pgs_cons (pg_name (i := 7) sc_law.nd rfl (.inl rfl)) pgs_nil)))) (pss_one (ps_set (i := 11) sc_law.nd rfl (.inl rfl) (pe_op op_catA (pv 11) (pe_tup (pa_cons (pe_ifExp (pt_cmpR (op_eqD hr.units) (pe_cl C_common hr (by decide) (by rfl) (pa_cons (pe_tup (pa_cons (pv 5) (pa_cons (pv 7) pa_nil))) pa_nil)) pe_int (nomark _)) (pe_tup (pa_cons pe_int (pa_cons (pe_op op_mulW (pv 6) (pe_cl C_inverse hr (by decide) (by rfl) (pa_cons (pv 5) (pa_cons (pv 7) pa_nil)))) (pa_cons (pv 7) pa_nil)))) (pe_tup (pa_cons (pv 5) (pa_cons (pv 6) (pa_cons (pv 7) pa_nil))))) pa_nil))))))
      (pss_cons (ps_if (PW.pt (pw_or (pt_cmpR (op_neD hr.units) (pe_cmpR (op_eqD hr.units) (pe_ix ix_sq (pe_cl C_rest_paper hr (by decide) (by rfl) (pa_cons (pv 11) pa_nil)) pe_int (fun _ _ => rfl)) pe_str (nomark _)) (pe_cmpR (op_eqD hr.units) (pe_ix ix_sq (pv 4) pe_int (fun _ _ => rfl)) pe_str (nomark _)) (nomark _)) (pw_or1 (PW.pt (pw_and (pt_cmpR (op_eqD hr.units) (pe_ix ix_sq (pv 4) pe_int (fun _ _ => rfl)) pe_str (nomark _)) (pw_and1 (pt_cmpR (op_neD hr.units) (pe_cl C_rest_paper hr (by decide) (by rfl) (pa_cons (pv 11) pa_nil)) (pv 4) (nomark _)))))))) (pss_one (ps_ret pe_bl)) pss_nil)
      (pss_cons (ps_par3 (i := 12) (j := 7) (l := 13) rfl sc_law.nd rfl rfl rfl (by decide) (by decide) (by decide) rfl rfl rfl (pa_cons (pe_cl C_law_int hr (by decide) (by rfl) (pa_cons (pv 1) (pa_cons pe_int pa_nil))) (pa_cons (pe_op op_add pe_int (pe_cl C_law_draw hr (by decide) (by rfl) (pa_cons (pv 1) (pa_cons pe_int pa_nil)))) (pa_cons (pe_op op_add pe_int (pe_cl C_law_draw hr (by decide) (by rfl) (pa_cons (pv 1) (pa_cons pe_int pa_nil)))) pa_nil))) rfl)
      (pss_cons (ps_par (i := 14) (j := 15) rfl sc_law.nd rfl rfl (by decide) rfl rfl (pa_cons (pe_cl C_rest_paper hr (by decide) (by rfl) (pa_cons (pe_tup (pa_cons (pe_tup (pa_cons pe_int (pa_cons (pv 12) (pa_cons (pv 7) pa_nil)))) (pa_cons (pe_tup (pa_cons pe_int (pa_cons (pv 12) (pa_cons (pv 13) pa_nil)))) pa_nil))) pa_nil)) (pa_cons (pe_cl C_rest_paper hr (by decide) (by rfl) (pa_cons (pe_tup (pa_cons (pe_tup (pa_cons pe_int (pa_cons (pv 12) (pa_cons (pe_cl C_multiple hr (by decide) (by rfl) (pa_cons (pe_tup (pa_cons (pv 7) (pa_cons (pv 13) pa_nil))) pa_nil)) pa_nil)))) pa_nil)) pa_nil)) pa_nil)) rfl)
      (pss_one (ps_ret (pe_and (pe_cmpR (op_eqD hr.units) (pv 14) (pv 15) (nomark _)) (pe_one (pe_cmpR (op_eqD hr.units) (pv 14) (pe_tup (pa_cons pe_str (pa_cons (pe_op op_mod (pv 12) (pe_cl C_multiple hr (by decide) (by rfl) (pa_cons (pe_tup (pa_cons (pv 7) (pa_cons (pv 13) pa_nil))) pa_nil))) (pa_cons (pe_cl C_multiple hr (by decide) (by rfl) (pa_cons (pe_tup (pa_cons (pv 7) (pa_cons (pv 13) pa_nil))) pa_nil)) pa_nil)))) (nomark _))))))))))))))))))), fun ds kk h => ?_⟩
  obtain ⟨ns, rfl, hn, hk⟩ := h
  show Ds K ⟨none, T⟩ _ [Sl.dat _, Sl.no, Sl.no, Sl.no, Sl.no, Sl.no, Sl.no, Sl.no, Sl.no, Sl.no, Sl.no, Sl.no, Sl.no, Sl.no, Sl.no, Sl.no] _
  try dsimp only [L2.cxOf, L2.Cx.nox, L2.Cx.wish]
  refine ds_pool rfl hn (fun p => ?_) (fun i s hi => by rcases i with _|_|_|_|_|_|_|_|_|_|_|_|_|_|_|_|i <;> simp at hi <;> subst hi <;> rfl)
  walk_at "go"
  refine ⟨rfl, fun L l1 l4 okR => ?_⟩
  walk_at "go"
  refine ⟨_, rfl, ⟨by decide, by decide⟩, fun y yl yh => ?_⟩
  have by' : Bd 7 y := by unfold Bd; omega
  have okL : ∀ t ∈ L, OkT t := fun t ht => okT_of (okR t ht)
  have okM : ∀ t ∈ L.map (mv y), OkT t := fun t ht => by
    obtain ⟨u, hu, rfl⟩ := List.mem_map.mp ht
    have := okR u hu
    exact ⟨this.1.mono (by decide), (this.2.1.add (this.1.mul by')).mono (by decide), this.2.2.1, this.2.2.2⟩
  have okN : ∀ t ∈ L.reverse ++ L.take 1, OkT t := fun t ht => by
    rcases List.mem_append.mp ht with z | z
    · exact okL t (List.mem_reverse.mp z)
    · exact okL t (List.mem_of_mem_take z)
  have lN : (L.reverse ++ L.take 1).length ≤ 5 := by rw [List.length_append, List.length_reverse, List.length_take]; omega
  have ll : (L.map triD).length = L.length := List.length_map ..
  have lM : (L.map (mv y)).length = L.length := List.length_map ..
  walk_at "go"
  refine ⟨L, rfl, ⟨by omega, okL⟩, rp_of fun p hp => ?_⟩
  walk_at "go"
  refine de_ofN (dn_lcT (fun xs i ds => ds = ((L.map (mv y)).map triD).take i) ?_)
  walk_at "go"
  refine ⟨fun i ds hi ha => ?_, fun ds hds => ?_⟩
  · have hi : i < L.length := by omega
    show ∃ δ2, TgtOk K _ [5, 6, 7] ((L.map triD).getD i .none) _ δ2 ∧ _
    rw [tri_getD hi]
    have tr := okR _ (tri_mem hi)
    have nx : ((L.map (mv y)).map triD).take (i + 1) = ((L.map (mv y)).map triD).take i ++ [triD (mv y (L.getD i t0))] := by
      rw [List.take_add_one, List.getElem?_map, List.getElem?_map, List.getElem?_eq_getElem hi, List.getD_eq_getElem?_getD, List.getElem?_eq_getElem hi]; rfl
    generalize L.getD i t0 = t at *
    have bt := tr.1
    refine ⟨_, tgt_triple (x := .int t.1) (y := .int t.2.1) (z := .int t.2.2) (by decide) (by decide) (by decide), ?_⟩
    refine fun B F H σ S Q q => q true F H _ ⟨rfl, ?_⟩ S Kp.rfl'
    refine iteT ?_
    walk_at "go"
    show ds ++ [triD (mv y t)] = _
    rw [nx, ← ha]
  have hds : ds = ((L.map (mv y)).map triD).take (L.map triD).length := hds
  rw [ll, ← lM, ← List.length_map (f := triD) (as := L.map (mv y)), List.take_length] at hds
  subst hds
  walk_at "go"
  refine ⟨L.map (mv y), rfl, ⟨by omega, okM⟩, rp_of fun o ho => ?_⟩
  walk_at "go"
  have eT : (L.map triD).reverse ++ Ab.cutD (L.map triD) none (some 1) = (L.reverse ++ L.take 1).map triD := by
    rw [show (some (1 : Int)) = some ((1 : Nat) : Int) from rfl, cut_to _ (by omega), List.map_append, List.map_reverse, List.map_take]
  refine ⟨_, _, rfl, rfl, ?_, ?_⟩
  · have := congrArg List.length eT
    rw [List.length_append, List.length_map] at this
    omega
  rw [eT]
  walk_at "go"
  refine ⟨L.reverse ++ L.take 1, rfl, ⟨lN, okN⟩, rp_of fun t ht => ?_⟩
  repeat walk_at "st"
  show Ds K _ (tSeq _ _) _ _
  refine ds_cut (fun δ' => δ' = [.dat (.list (ns.map PyData.int)), .pool, .dat (.tuple (L.map triD)), .dat (.int y), .dat p, .no, .no, .no, .dat (.tuple ((L.map (mv y)).map triD)), .dat o, .dat t, .no, .no, .no, .no, .no]) ?_ (fun δ' hd => ?_)
  rotate_left
  · subst hd
    show Ds K _ (tSeq _ _) _ _
    refine ds_cut (fun δ' => δ' = [.dat (.list (ns.map PyData.int)), .pool, .dat (.tuple (L.map triD)), .dat (.int y), .dat p, .no, .no, .no, .dat (.tuple ((L.map (mv y)).map triD)), .dat o, .dat t, .no, .no, .no, .no, .no]) ?_ (fun δ' hd => ?_)
    · obtain ⟨sp, rp, rfl, cp, ip⟩ := paper_head hp
      obtain ⟨so, ro, rfl, co, io⟩ := paper_head ho
      obtain ⟨st, rt, rfl, ct, it⟩ := paper_head ht
      replace cp := shaped_s cp
      replace co := shaped_s co
      replace ct := shaped_s ct
      have e1 : so = "meets" ↔ sp = "meets" := io.trans (Iff.trans ⟨fun ⟨w, h⟩ => ⟨w - y, (mv_sol w).mp h⟩, fun ⟨w, h⟩ => ⟨w + y, (mv_sol _).mpr (by rw [Int.add_sub_cancel]; exact h)⟩⟩ ip.symm)
      have e2 : st = "meets" ↔ sp = "meets" := it.trans (Iff.trans ⟨fun ⟨w, h⟩ => ⟨w, (turn_sol w).mp h⟩, fun ⟨w, h⟩ => ⟨w, (turn_sol w).mpr h⟩⟩ ip.symm)
      walk_at "go"
      refine iteL (by rw [eqw e1]; rfl) ?_
      walk_at "go"
      refine iteL (by rw [eqw e2]; rfl) ?_
      walk_at "go"
      refine ⟨L.map (mv y), _, rfl, ⟨by omega, okM, ho⟩, ?_⟩
      walk_at "go"
      rfl
    subst hd
    show Ds K _ (tSeq _ _) _ _
    walk_at "go"
    refine ds_forT (fun xs i δ => ∃ (Q : List Tri) (s5 s6 s7 : Sl), PLn L Q i ∧ δ = [.dat (.list (ns.map PyData.int)), .pool, .dat (.tuple (L.map triD)), .dat (.int y), .dat p, s5, s6, s7, .dat (.tuple ((L.map (mv y)).map triD)), .dat o, .dat t, .dat (.tuple (Q.map triD)), .no, .no, .no, .no]) ?_
    walk_at "go"
    refine ⟨⟨[], _, _, _, ⟨rfl, nofun, fun w => Iff.rfl⟩, rfl⟩, fun i δ hi hh => ?_, fun δ hh => ?_⟩
    · obtain ⟨Q, s5, s6, s7, hQ, rfl⟩ := hh
      have hi : i < L.length := by omega
      show Dg K _ _ ((L.map triD).getD i .none) _ _
      rw [tri_getD hi]
      have tr := okR _ (tri_mem hi)
      have sc := fun t k e => pln_succ (t := t) hQ hi k e
      have ql : (Q.map triD).length ≤ 4 := by rw [List.length_map, hQ.1]; omega
      generalize L.getD i t0 = u at *
      obtain ⟨a, b, m⟩ := u
      have ab : Bd 40 a := tr.1
      have bb : Bd 100 b := tr.2.1
      have m0 : 0 < m := tr.2.2.1
      have m1 : m < 2 ^ 31 := tr.2.2.2
      show Dg K _ _ (.tuple [.int a, .int b, .int m]) _ _
      repeat walk_at "st"
      refine de_ifM (fun d => ∃ t, d = .d (triD t) ∧ OkT t ∧ ∀ w, sol t w ↔ sol (a, b, m) w) ?_ fun d hd => ?_
      · walk_at "go"
        refine ⟨[a, (m : Int)], rfl, ?_⟩
        rw [gcdL2]
        walk_at "go"
        by_cases g : Int.gcd a m = 1
        · refine iteR (by rw [eqv_int, g]; exact decide_eq_true rfl) ?_
          walk_at "go"
          refine ⟨a, m, rfl, ⟨m0, by omega, g⟩, fun c hc => ?_⟩
          have cl := Int.emod_nonneg c (by omega : (m : Int) ≠ 0)
          have cr := Int.emod_lt_of_pos c (by omega : (0 : Int) < m)
          have bc : Bd 32 (c % m) := by
            have : (m : Int) < 2 ^ 31 := by exact_mod_cast m1
            unfold Bd; omega
          walk_at "go"
          exact ⟨(1, b * (c % m), m), rfl, ⟨(by unfold Bd; decide : Bd 120 1), (bb.mul bc).mono (by decide), m0, m1⟩, fun w => plain_iff hc w⟩
        · refine iteL (by rw [eqv_int]; exact decide_eq_false (by omega)) ?_
          walk_at "go"
          exact ⟨(a, b, m), rfl, okT_of ⟨ab, bb, m0, m1⟩, fun w => Iff.rfl⟩
      obtain ⟨t', rfl, k1, k2⟩ := hd
      repeat walk_at "st"
      refine ⟨_, _, rfl, rfl, by rw [List.length_singleton]; omega, ?_⟩
      repeat walk_at "st"
      exact ⟨Q ++ [t'], _, _, _, sc t' k1 k2, by rw [List.map_append]; rfl⟩
    obtain ⟨Q, s5, s6, s7, hQ, rfl⟩ := hh
    have hs : ∀ w, Sol Q w ↔ Sol L w := fun w => by
      have := hQ.2.2 w
      rw [ll, List.take_length] at this
      exact this
    have ql : Q.length ≤ 5 := by rw [hQ.1]; omega
    show Ds K _ (tSeq _ _) _ _
    refine ds_cut (fun δ' => δ' = [.dat (.list (ns.map PyData.int)), .pool, .dat (.tuple (L.map triD)), .dat (.int y), .dat p, s5, s6, s7, .dat (.tuple ((L.map (mv y)).map triD)), .dat o, .dat t, .dat (.tuple (Q.map triD)), .no, .no, .no, .no]) ?_ (fun δ' hd => ?_)
    · by_cases ex : ∃ w, Sol L w
      · obtain ⟨x, N, rfl, N0, x0, x1, hx⟩ := paper_ex hp ex
        walk_at "go"
        refine ⟨Q, rfl, ⟨ql, hQ.2.1⟩, rp_of fun q hq => ?_⟩
        have eq := paper_meets hq N0 x0 x1 (fun w => (hs w).trans (hx w))
        subst eq
        walk_at "go"
        refine iteL (by rw [eqw Iff.rfl]; rfl) ?_
        walk_at "go"
        refine iteR (by rw [eqv_str]; exact decide_eq_true rfl) ?_
        walk_at "go"
        refine ⟨Q, rfl, ⟨ql, hQ.2.1⟩, rp_of fun q hq => ?_⟩
        have eq := paper_meets hq N0 x0 x1 (fun w => (hs w).trans (hx w))
        subst eq
        walk_at "go"
        refine iteL (by rw [Bool.not_eq_false']; exact eqv_refl 2 _ (pl_meets _ _)) ?_
        walk_at "go"
        rfl
      · obtain ⟨sp, rp, rfl, cp, ip⟩ := paper_head hp
        have np : ¬ sp = "meets" := fun h => ex (ip.mp h)
        replace cp := shaped_s cp
        walk_at "go"
        refine ⟨Q, rfl, ⟨ql, hQ.2.1⟩, rp_of fun q hq => ?_⟩
        obtain ⟨sq, rq, rfl, cq, iq⟩ := paper_head hq
        replace cq := shaped_s cq
        walk_at "go"
        refine iteL (by rw [eqw (iq.trans (Iff.trans ⟨fun ⟨w, h⟩ => ⟨w, (hs w).mp h⟩, fun ⟨w, h⟩ => ⟨w, (hs w).mpr h⟩⟩ ip.symm))]; rfl) ?_
        walk_at "go"
        refine iteL (by rw [eqv_str]; exact decide_eq_false np) ?_
        walk_at "go"
        rfl
    subst hd
    clear hp ho ht hQ hs
    show Ds K _ (tSeq _ _) _ _
    walk_at "go"
    refine ⟨_, rfl, ⟨by decide, by decide⟩, fun x xl xh => ?_⟩
    have bx : Bd 10 x := by unfold Bd; omega
    walk_at "go"
    refine ⟨_, rfl, by decide, by decide, fun m m0 m1 => ?_⟩
    obtain ⟨m, rfl⟩ := Int.eq_ofNat_of_zero_le m0
    walk_at "go"
    refine ⟨_, rfl, by decide, by decide, fun n n0 n1 => ?_⟩
    obtain ⟨n, rfl⟩ := Int.eq_ofNat_of_zero_le n0
    repeat walk_at "st"
    refine ⟨_, _, _, rfl, ?_⟩
    rw [show (1 : Int) + (m : Int) = ((m + 1 : Nat) : Int) by omega, show (1 : Int) + (n : Int) = ((n + 1 : Nat) : Int) by omega]
    have m0 : 0 < m + 1 := by omega
    have m9 : m + 1 ≤ 60 := by omega
    have n0 : 0 < n + 1 := by omega
    have n9 : n + 1 ≤ 60 := by omega
    clear m1 n1
    generalize m + 1 = m at *
    generalize n + 1 = n at *
    have l0 : 0 < Nat.lcm m n := Nat.lcm_pos m0 n0
    have l9 : Nat.lcm m n ≤ 3600 := Nat.le_trans (Nat.le_of_dvd (Nat.mul_pos m0 n0) (Nat.lcm_dvd_mul m n)) (Nat.mul_le_mul m9 n9)
    have o1 : ∀ k : Nat, 0 < k → k ≤ 3600 → OkT (1, x, k) := fun k k0 k9 => ⟨(by unfold Bd; decide : Bd 120 1), bx.mono (by decide), k0, (by omega : k < 2 ^ 31)⟩
    have one : ∀ (k : Nat) (w : Int), sol (1, x, k) w ↔ (k : Int) ∣ w - x := fun k w => by
      show (k : Int) ∣ 1 * w - x ↔ _
      rw [Int.one_mul]
    have cls : ∀ w : Int, ((Nat.lcm m n : Nat) : Int) ∣ w - x ↔ ((Nat.lcm m n : Nat) : Int) ∣ w - x % (Nat.lcm m n : Nat) := fun w => by
      have := moved_class (x := x) (y := 0) l0 w
      rw [Int.sub_zero, Int.add_zero] at this
      exact this
    show Ds K _ (tSeq _ _) _ _
    walk_at "go"
    refine ⟨[(1, x, m), (1, x, n)], rfl, ⟨by simp, fun t ht => ?_⟩, rp_of fun p1 hp1 => ?_⟩
    · simp only [List.mem_cons, List.not_mem_nil, or_false] at ht
      rcases ht with rfl | rfl
      · exact o1 _ m0 (by omega)
      · exact o1 _ n0 (by omega)
    walk_at "go"
    refine ⟨m, n, rfl, ⟨m0, n0, by omega, by omega⟩, ?_⟩
    walk_at "go"
    refine ⟨[(1, x, Nat.lcm m n)], rfl, ⟨by simp, fun t ht => ?_⟩, rp_of fun p2 hp2 => ?_⟩
    · simp only [List.mem_cons, List.not_mem_nil, or_false] at ht
      rcases ht with rfl
      exact o1 _ l0 l9
    have xl := Int.emod_nonneg x (by omega : ((Nat.lcm m n : Nat) : Int) ≠ 0)
    have xh := Int.emod_lt_of_pos x (by omega : (0 : Int) < ((Nat.lcm m n : Nat) : Int))
    have z1 := paper_meets hp1 l0 xl xh (fun w => by
      rw [← cls]
      unfold Sol
      refine ⟨fun h => ?_, fun h t ht => ?_⟩
      · have a := (one m w).mp (h _ List.mem_cons_self)
        have b := (one n w).mp (h _ (List.mem_cons_of_mem _ List.mem_cons_self))
        exact (join_iff (by rw [Int.sub_self]; exact Int.dvd_zero _) (by rw [Int.sub_self]; exact Int.dvd_zero _) w).mpr ⟨a, b⟩
      · simp only [List.mem_cons, List.not_mem_nil, or_false] at ht
        rcases ht with rfl | rfl
        · exact (one m w).mpr (Int.dvd_trans (Int.natCast_dvd_natCast.mpr (Nat.dvd_lcm_left m n)) h)
        · exact (one n w).mpr (Int.dvd_trans (Int.natCast_dvd_natCast.mpr (Nat.dvd_lcm_right m n)) h))
    have z2 := paper_meets hp2 l0 xl xh (fun w => by
      rw [← cls, ← one]
      exact ⟨fun h => h _ List.mem_cons_self, fun h t ht => by rw [List.mem_singleton] at ht; subst ht; exact h⟩)
    subst z1 z2
    walk_at "go"
    refine iteR (eqv_refl 2 _ (pl_meets _ _)) ?_
    walk_at "go"
    refine ⟨m, n, rfl, ⟨m0, n0, by omega, by omega⟩, ?_⟩
    walk_at "go"
    refine ⟨m, n, rfl, ⟨m0, n0, by omega, by omega⟩, ?_⟩
    walk_at "go"
    rw [eqv_refl 2 _ (pl_meets _ _)]
    exact hk
  by_cases ex : ∃ w, Sol L w
  · obtain ⟨x, N, rfl, N0, x0, x1, hx⟩ := paper_ex hp ex
    have eo := paper_meets ho N0 (Int.emod_nonneg (x + y) (by omega)) (Int.emod_lt_of_pos (x + y) (by omega)) (fun w => (mv_sol w).trans ((hx (w - y)).trans (moved_class N0 w)))
    have et := paper_meets ht N0 x0 x1 (fun w => (turn_sol w).trans (hx w))
    subst eo et
    walk_at "go"
    refine iteR (by rw [eqv_str]; exact decide_eq_true rfl) ?_
    walk_at "go"
    refine iteL (by rw [Bool.not_eq_false']; exact eqv_refl 2 _ (pl_meets _ _)) ?_
    walk_at "go"
    refine iteL (by rw [Bool.not_eq_false']; exact eqv_refl 2 _ (pl_meets _ _)) ?_
    walk_at "go"
    rfl
  · obtain ⟨sp, rp, rfl, cp, ip⟩ := paper_head hp
    have np : ¬ sp = "meets" := fun h => ex (ip.mp h)
    replace cp := shaped_s cp
    walk_at "go"
    refine iteL (by rw [eqv_str]; exact decide_eq_false np) ?_
    walk_at "go"
    rfl
end
theorem all_mk {l : PySem.W.OpenLaw} {w : World} {K : PySem.W.Frag} {h : Heap} {mg : Str → Option Value} {fa f0 f1 f2 f3 f4 f5 f6 f7 f8 f9 f10 f11 f12 f13 f14 f15 f16 f17 f18 cc1 tp1 cc4 tp4 : Addr} (X : K.In h) (G : h.Ns mainGlobals mg) (hfa : mg "law" = some (.ref fa)) (TF : ∀ x ∈ (["is_row", "two_factors"] : List Str), ∀ f, mg x = some (.ref f) → TabFacts K h f)
    {od0 an0 od1 an1 od2 an2 od3 an3 od4 an4 od5 an5 od6 an6 od7 an7 od8 an8 od9 an9 od10 an10 od11 an11 od12 an12 od13 an13 od14 an14 od15 an15 od16 an16 od17 an17 od18 an18 td1 td4 : Option Addr} {sl0 sl1 sl2 sl3 sl4 sl5 sl6 sl7 sl8 sl9 sl10 sl11 sl12 sl13 sl14 sl15 sl16 sl17 sl18 ts1 ts4 : Array (Option Value)} {oc0 kV0 dc0 pm0 ct0 cd0 oc1 kV1 dc1 pm1 ct1 oc2 kV2 dc2 pm2 ct2 cd2 oc3 kV3 dc3 pm3 ct3 cd3 oc4 kV4 dc4 pm4 ct4 oc5 kV5 dc5 pm5 ct5 cd5 oc6 kV6 dc6 pm6 ct6 cd6 oc7 kV7 dc7 pm7 ct7 cd7 oc8 kV8 dc8 pm8 ct8 cd8 oc9 kV9 dc9 pm9 ct9 cd9 oc10 kV10 dc10 pm10 ct10 cd10 oc11 kV11 dc11 pm11 ct11 cd11 oc12 kV12 dc12 pm12 ct12 cd12 oc13 kV13 dc13 pm13 ct13 cd13 oc14 kV14 dc14 pm14 ct14 cd14 oc15 kV15 dc15 pm15 ct15 cd15 oc16 kV16 dc16 pm16 ct16 cd16 oc17 kV17 dc17 pm17 ct17 cd17 oc18 kV18 dc18 pm18 ct18 cd18 te1 te4 : Value} {tv1 tv4 : Array Value}
    (a0 : PySem.W.nsIn K mainGlobals "is_integer" = some (some (.ref f0))) (l0 : K.lookup f0 = some ⟨oc0, od0, .func (PySem.W.fnOf "is_integer" "is_integer" (defArgs s_is_integer) (defBody s_is_integer) (defScope s_is_integer) .none kV0 dc0 pm0 an0 cd0 ct0), sl0⟩) (c0 : PySem.W.codeIn K cd0 "is_integer" = true) (k0 : PySem.W.keepIn K (.ref f0) = true)
    (a1 : PySem.W.nsIn K mainGlobals "is_row" = some (some (.ref f1))) (l1 : K.lookup f1 = some ⟨oc1, od1, .func (PySem.W.fnOf "is_row" "is_row" (defArgs s_is_row) (defBody s_is_row) (defScope s_is_row) .none kV1 dc1 pm1 an1 (.ref cc1) ct1), sl1⟩) (c1 : PySem.W.codeIn K (.ref cc1) "is_row" = true) (k1 : PySem.W.keepIn K (.ref f1) = true)
    (t1 : K.lookup cc1 = some ⟨te1, td1, .fields tv1, ts1⟩) (p1 : tv1[11]? = some (.ref tp1)) (n1 : K.lookup tp1 = none)
    (a2 : PySem.W.nsIn K mainGlobals "is_within" = some (some (.ref f2))) (l2 : K.lookup f2 = some ⟨oc2, od2, .func (PySem.W.fnOf "is_within" "is_within" (defArgs s_is_within) (defBody s_is_within) (defScope s_is_within) .none kV2 dc2 pm2 an2 cd2 ct2), sl2⟩) (c2 : PySem.W.codeIn K cd2 "is_within" = true) (k2 : PySem.W.keepIn K (.ref f2) = true)
    (a3 : PySem.W.nsIn K mainGlobals "is_worded" = some (some (.ref f3))) (l3 : K.lookup f3 = some ⟨oc3, od3, .func (PySem.W.fnOf "is_worded" "is_worded" (defArgs s_is_worded) (defBody s_is_worded) (defScope s_is_worded) .none kV3 dc3 pm3 an3 cd3 ct3), sl3⟩) (c3 : PySem.W.codeIn K cd3 "is_worded" = true) (k3 : PySem.W.keepIn K (.ref f3) = true)
    (a4 : PySem.W.nsIn K mainGlobals "two_factors" = some (some (.ref f4))) (l4 : K.lookup f4 = some ⟨oc4, od4, .func (PySem.W.fnOf "two_factors" "two_factors" (defArgs s_two_factors) (defBody s_two_factors) (defScope s_two_factors) .none kV4 dc4 pm4 an4 (.ref cc4) ct4), sl4⟩) (c4 : PySem.W.codeIn K (.ref cc4) "two_factors" = true) (k4 : PySem.W.keepIn K (.ref f4) = true)
    (t4 : K.lookup cc4 = some ⟨te4, td4, .fields tv4, ts4⟩) (p4 : tv4[11]? = some (.ref tp4)) (n4 : K.lookup tp4 = none)
    (a5 : PySem.W.nsIn K mainGlobals "common" = some (some (.ref f5))) (l5 : K.lookup f5 = some ⟨oc5, od5, .func (PySem.W.fnOf "common" "common" (defArgs s_common) (defBody s_common) (defScope s_common) .none kV5 dc5 pm5 an5 cd5 ct5), sl5⟩) (c5 : PySem.W.codeIn K cd5 "common" = true) (k5 : PySem.W.keepIn K (.ref f5) = true)
    (a6 : PySem.W.nsIn K mainGlobals "multiple" = some (some (.ref f6))) (l6 : K.lookup f6 = some ⟨oc6, od6, .func (PySem.W.fnOf "multiple" "multiple" (defArgs s_multiple) (defBody s_multiple) (defScope s_multiple) .none kV6 dc6 pm6 an6 cd6 ct6), sl6⟩) (c6 : PySem.W.codeIn K cd6 "multiple" = true) (k6 : PySem.W.keepIn K (.ref f6) = true)
    (a7 : PySem.W.nsIn K mainGlobals "inverse" = some (some (.ref f7))) (l7 : K.lookup f7 = some ⟨oc7, od7, .func (PySem.W.fnOf "inverse" "inverse" (defArgs s_inverse) (defBody s_inverse) (defScope s_inverse) .none kV7 dc7 pm7 an7 cd7 ct7), sl7⟩) (c7 : PySem.W.codeIn K cd7 "inverse" = true) (k7 : PySem.W.keepIn K (.ref f7) = true)
    (a8 : PySem.W.nsIn K mainGlobals "alone" = some (some (.ref f8))) (l8 : K.lookup f8 = some ⟨oc8, od8, .func (PySem.W.fnOf "alone" "alone" (defArgs s_alone) (defBody s_alone) (defScope s_alone) .none kV8 dc8 pm8 an8 cd8 ct8), sl8⟩) (c8 : PySem.W.codeIn K cd8 "alone" = true) (k8 : PySem.W.keepIn K (.ref f8) = true)
    (a9 : PySem.W.nsIn K mainGlobals "joined" = some (some (.ref f9))) (l9 : K.lookup f9 = some ⟨oc9, od9, .func (PySem.W.fnOf "joined" "joined" (defArgs s_joined) (defBody s_joined) (defScope s_joined) .none kV9 dc9 pm9 an9 cd9 ct9), sl9⟩) (c9 : PySem.W.codeIn K cd9 "joined" = true) (k9 : PySem.W.keepIn K (.ref f9) = true)
    (a10 : PySem.W.nsIn K mainGlobals "parting" = some (some (.ref f10))) (l10 : K.lookup f10 = some ⟨oc10, od10, .func (PySem.W.fnOf "parting" "parting" (defArgs s_parting) (defBody s_parting) (defScope s_parting) .none kV10 dc10 pm10 an10 cd10 ct10), sl10⟩) (c10 : PySem.W.codeIn K cd10 "parting" = true) (k10 : PySem.W.keepIn K (.ref f10) = true)
    (a11 : PySem.W.nsIn K mainGlobals "rest_paper" = some (some (.ref f11))) (l11 : K.lookup f11 = some ⟨oc11, od11, .func (PySem.W.fnOf "rest_paper" "rest_paper" (defArgs s_rest_paper) (defBody s_rest_paper) (defScope s_rest_paper) .none kV11 dc11 pm11 an11 cd11 ct11), sl11⟩) (c11 : PySem.W.codeIn K cd11 "rest_paper" = true) (k11 : PySem.W.keepIn K (.ref f11) = true)
    (a12 : PySem.W.nsIn K mainGlobals "check_rests" = some (some (.ref f12))) (l12 : K.lookup f12 = some ⟨oc12, od12, .func (PySem.W.fnOf "check_rests" "check_rests" (defArgs s_check_rests) (defBody s_check_rests) (defScope s_check_rests) .none kV12 dc12 pm12 an12 cd12 ct12), sl12⟩) (c12 : PySem.W.codeIn K cd12 "check_rests" = true) (k12 : PySem.W.keepIn K (.ref f12) = true)
    (a13 : PySem.W.nsIn K mainGlobals "_law_pool" = some (some (.ref f13))) (l13 : K.lookup f13 = some ⟨oc13, od13, .func (PySem.W.fnOf "_law_pool" "_law_pool" (defArgs s_law_pool) (defBody s_law_pool) (defScope s_law_pool) .none kV13 dc13 pm13 an13 cd13 ct13), sl13⟩) (c13 : PySem.W.codeIn K cd13 "_law_pool" = true) (k13 : PySem.W.keepIn K (.ref f13) = true)
    (a14 : PySem.W.nsIn K mainGlobals "_law_spread" = some (some (.ref f14))) (l14 : K.lookup f14 = some ⟨oc14, od14, .func (PySem.W.fnOf "_law_spread" "_law_spread" (defArgs s_law_spread) (defBody s_law_spread) (defScope s_law_spread) .none kV14 dc14 pm14 an14 cd14 ct14), sl14⟩) (c14 : PySem.W.codeIn K cd14 "_law_spread" = true) (k14 : PySem.W.keepIn K (.ref f14) = true)
    (a15 : PySem.W.nsIn K mainGlobals "_law_draw" = some (some (.ref f15))) (l15 : K.lookup f15 = some ⟨oc15, od15, .func (PySem.W.fnOf "_law_draw" "_law_draw" (defArgs s_law_draw) (defBody s_law_draw) (defScope s_law_draw) .none kV15 dc15 pm15 an15 cd15 ct15), sl15⟩) (c15 : PySem.W.codeIn K cd15 "_law_draw" = true) (k15 : PySem.W.keepIn K (.ref f15) = true)
    (a16 : PySem.W.nsIn K mainGlobals "_law_int" = some (some (.ref f16))) (l16 : K.lookup f16 = some ⟨oc16, od16, .func (PySem.W.fnOf "_law_int" "_law_int" (defArgs s_law_int) (defBody s_law_int) (defScope s_law_int) .none kV16 dc16 pm16 an16 cd16 ct16), sl16⟩) (c16 : PySem.W.codeIn K cd16 "_law_int" = true) (k16 : PySem.W.keepIn K (.ref f16) = true)
    (a17 : PySem.W.nsIn K mainGlobals "_law_rests" = some (some (.ref f17))) (l17 : K.lookup f17 = some ⟨oc17, od17, .func (PySem.W.fnOf "_law_rests" "_law_rests" (defArgs s_law_rests) (defBody s_law_rests) (defScope s_law_rests) .none kV17 dc17 pm17 an17 cd17 ct17), sl17⟩) (c17 : PySem.W.codeIn K cd17 "_law_rests" = true) (k17 : PySem.W.keepIn K (.ref f17) = true)
    (a18 : PySem.W.nsIn K mainGlobals "law" = some (some (.ref f18))) (l18 : K.lookup f18 = some ⟨oc18, od18, .func (PySem.W.fnOf "law" "law" (defArgs s_law) (defBody s_law) (defScope s_law) .none kV18 dc18 pm18 an18 cd18 ct18), sl18⟩) (c18 : PySem.W.codeIn K cd18 "law" = true) (k18 : PySem.W.keepIn K (.ref f18) = true)
    (z_isinstance : PySem.W.nsIn K mainGlobals "isinstance" = some none)
    (z_bool : PySem.W.nsIn K mainGlobals "bool" = some none)
    (z_int : PySem.W.nsIn K mainGlobals "int" = some none)
    (z_all : PySem.W.nsIn K mainGlobals "all" = some none)
    (z_len : PySem.W.nsIn K mainGlobals "len" = some none)
    (z_tuple : PySem.W.nsIn K mainGlobals "tuple" = some none)
    (z_str : PySem.W.nsIn K mainGlobals "str" = some none)
    (z_zip : PySem.W.nsIn K mainGlobals "zip" = some none)
    (z_abs : PySem.W.nsIn K mainGlobals "abs" = some none)
    (z_enumerate : PySem.W.nsIn K mainGlobals "enumerate" = some none)
    (z_list : PySem.W.nsIn K mainGlobals "list" = some none)
    (z_range : PySem.W.nsIn K mainGlobals "range" = some none)
    (m_gcd : PySem.W.nsIn K mainGlobals "gcd" = some (some (.builtin "math.gcd")))
    : LamX.LawAtS l w K CX0 5 63 "script" mg fa h := by
  have e := hfa.symm.trans (PySem.W.mg_of X G a18)
  cases e
  have F0 := fun_mk (st := s_is_integer) l0 c0 k0
  have b0 := F0.binds (ps := ["value"]) fun _ _ _ _ _ _ us hl => match us, hl with | [_], _ => rfl
  have F1 := func_mk (st := s_is_row) l1 c1 k1
  have b1 := F1.toFun.binds (ps := ["value", "length"]) fun _ _ _ _ _ _ us hl => match us, hl with | [_, _], _ => rfl
  have F2 := fun_mk (st := s_is_within) l2 c2 k2
  have b2 := F2.binds (ps := ["value", "low", "high"]) fun _ _ _ _ _ _ us hl => match us, hl with | [_, _, _], _ => rfl
  have F3 := fun_mk (st := s_is_worded) l3 c3 k3
  have b3 := F3.binds (ps := ["value", "word", "length"]) fun _ _ _ _ _ _ us hl => match us, hl with | [_, _, _], _ => rfl
  have F4 := func_mk (st := s_two_factors) l4 c4 k4
  have b4 := F4.toFun.binds (ps := ["a", "b"]) fun _ _ _ _ _ _ us hl => match us, hl with | [_, _], _ => rfl
  have F5 := fun_mk (st := s_common) l5 c5 k5
  have b5 := F5.binds (ps := ["row"]) fun _ _ _ _ _ _ us hl => match us, hl with | [_], _ => rfl
  have F6 := fun_mk (st := s_multiple) l6 c6 k6
  have b6 := F6.binds (ps := ["row"]) fun _ _ _ _ _ _ us hl => match us, hl with | [_], _ => rfl
  have F7 := fun_mk (st := s_inverse) l7 c7 k7
  have b7 := F7.binds (ps := ["a", "m"]) fun _ _ _ _ _ _ us hl => match us, hl with | [_, _], _ => rfl
  have F8 := fun_mk (st := s_alone) l8 c8 k8
  have b8 := F8.binds (ps := ["triple"]) fun _ _ _ _ _ _ us hl => match us, hl with | [_], _ => rfl
  have F9 := fun_mk (st := s_joined) l9 c9 k9
  have b9 := F9.binds (ps := ["one", "two"]) fun _ _ _ _ _ _ us hl => match us, hl with | [_, _], _ => rfl
  have F10 := fun_mk (st := s_parting) l10 c10 k10
  have b10 := F10.binds (ps := ["one", "two"]) fun _ _ _ _ _ _ us hl => match us, hl with | [_, _], _ => rfl
  have F11 := fun_mk (st := s_rest_paper) l11 c11 k11
  have b11 := F11.binds (ps := ["rests"]) fun _ _ _ _ _ _ us hl => match us, hl with | [_], _ => rfl
  have F12 := fun_mk (st := s_check_rests) l12 c12 k12
  have b12 := F12.binds (ps := ["rests", "value"]) fun _ _ _ _ _ _ us hl => match us, hl with | [_, _], _ => rfl
  have F13 := fun_mk (st := s_law_pool) l13 c13 k13
  have b13 := F13.binds (ps := ["script"]) fun _ _ _ _ _ _ us hl => match us, hl with | [_], _ => rfl
  have F14 := fun_mk (st := s_law_spread) l14 c14 k14
  have b14 := F14.binds (ps := ["cell"]) fun _ _ _ _ _ _ us hl => match us, hl with | [_], _ => rfl
  have F15 := fun_mk (st := s_law_draw) l15 c15 k15
  have b15 := F15.binds (ps := ["pool", "many"]) fun _ _ _ _ _ _ us hl => match us, hl with | [_, _], _ => rfl
  have F16 := fun_mk (st := s_law_int) l16 c16 k16
  have b16 := F16.binds (ps := ["pool", "most"]) fun _ _ _ _ _ _ us hl => match us, hl with | [_, _], _ => rfl
  have F17 := fun_mk (st := s_law_rests) l17 c17 k17
  have b17 := F17.binds (ps := ["pool"]) fun _ _ _ _ _ _ us hl => match us, hl with | [_], _ => rfl
  have F18 := fun_mk (st := s_law) l18 c18 k18
  have w_isinstance := PySem.W.mg_none_of X G z_isinstance
  have w_bool := PySem.W.mg_none_of X G z_bool
  have w_int := PySem.W.mg_none_of X G z_int
  have w_all := PySem.W.mg_none_of X G z_all
  have w_len := PySem.W.mg_none_of X G z_len
  have w_tuple := PySem.W.mg_none_of X G z_tuple
  have w_str := PySem.W.mg_none_of X G z_str
  have w_zip := PySem.W.mg_none_of X G z_zip
  have w_abs := PySem.W.mg_none_of X G z_abs
  have w_enumerate := PySem.W.mg_none_of X G z_enumerate
  have w_list := PySem.W.mg_none_of X G z_list
  have w_range := PySem.W.mg_none_of X G z_range
  have v_gcd := PySem.W.mg_of X G m_gcd
  refine law_tabs [(cc1, tp1), (cc4, tp4)] (PySem.W.fnOf "law" "law" (defArgs s_law) (defBody s_law) (defScope s_law) .none kV18 dc18 pm18 an18 cd18 ct18)
    (List.forall_mem_cons.mpr ⟨TF _ List.mem_cons_self _ (PySem.W.mg_of X G a1) _ _ _ _ _ _ _ _ _ _ l1 rfl t1 p1, List.forall_mem_cons.mpr ⟨TF _ (List.mem_cons_of_mem _ List.mem_cons_self) _ (PySem.W.mg_of X G a4) _ _ _ _ _ _ _ _ _ _ l4 rfl t4 p4, fun _ h => nomatch h⟩⟩)
    (List.forall_mem_cons.mpr ⟨n1, List.forall_mem_cons.mpr ⟨n4, fun _ h => nomatch h⟩⟩)
    (fun s v => .of_eq rfl) (φ := φ_law) (fun ns hl => ⟨ns, rfl, hl, rfl⟩) fun base _ _ TB => ?_
  have C_is_integer : Cal l.prog w K mg base "is_integer" 1 ["value"] (spP K (TS [(cc1, tp1), (cc4, tp4)]) φ_is_integer) := ⟨_, _, ok_is_integer F0 w_isinstance w_bool w_int, PySem.W.mg_of X G a0, k0, b0⟩
  have C_is_row : Cal l.prog w K mg base "is_row" 3 ["value", "length"] (spP K (TS [(cc1, tp1), (cc4, tp4)]) φ_is_row) := ⟨_, _, ok_is_row F1 (TB _ List.mem_cons_self) (List.mem_map.mpr ⟨_, List.mem_cons_self, rfl⟩) F0 (PySem.W.mg_of X G a0) w_isinstance w_bool w_int w_all w_len w_tuple, PySem.W.mg_of X G a1, k1, b1⟩
  have C_is_within : Cal l.prog w K mg base "is_within" 2 ["value", "low", "high"] (spP K (TS [(cc1, tp1), (cc4, tp4)]) φ_is_within) := ⟨_, _, ok_is_within F2 C_is_integer, PySem.W.mg_of X G a2, k2, b2⟩
  have C_is_worded : Cal l.prog w K mg base "is_worded" 1 ["value", "word", "length"] (spP K (TS [(cc1, tp1), (cc4, tp4)]) φ_is_worded) := ⟨_, _, ok_is_worded F3 w_isinstance w_str w_len w_tuple, PySem.W.mg_of X G a3, k3, b3⟩
  have C_two_factors : Cal l.prog w K mg base "two_factors" 1 ["a", "b"] (spP K (TS [(cc1, tp1), (cc4, tp4)]) φ_two_factors) := ⟨_, _, ok_two_factors F4 (TB _ (List.mem_cons_of_mem _ List.mem_cons_self)) (List.mem_map.mpr ⟨_, (List.mem_cons_of_mem _ List.mem_cons_self), rfl⟩) w_tuple w_zip, PySem.W.mg_of X G a4, k4, b4⟩
  have C_common : Cal l.prog w K mg base "common" 1 ["row"] (spP K (TS [(cc1, tp1), (cc4, tp4)]) φ_common) := ⟨_, _, ok_common F5 v_gcd, PySem.W.mg_of X G a5, k5, b5⟩
  have C_multiple : Cal l.prog w K mg base "multiple" 1 ["row"] (spP K (TS [(cc1, tp1), (cc4, tp4)]) φ_multiple) := ⟨_, _, ok_multiple F6 v_gcd w_abs, PySem.W.mg_of X G a6, k6, b6⟩
  have C_inverse : Cal l.prog w K mg base "inverse" 2 ["a", "m"] (spP K (TS [(cc1, tp1), (cc4, tp4)]) φ_inverse) := ⟨_, _, ok_inverse F7 C_two_factors, PySem.W.mg_of X G a7, k7, b7⟩
  have C_alone : Cal l.prog w K mg base "alone" 2 ["triple"] (spP K (TS [(cc1, tp1), (cc4, tp4)]) φ_alone) := ⟨_, _, ok_alone F8 C_two_factors, PySem.W.mg_of X G a8, k8, b8⟩
  have C_joined : Cal l.prog w K mg base "joined" 2 ["one", "two"] (spP K (TS [(cc1, tp1), (cc4, tp4)]) φ_joined) := ⟨_, _, ok_joined F9 C_two_factors, PySem.W.mg_of X G a9, k9, b9⟩
  have C_parting : Cal l.prog w K mg base "parting" 1 ["one", "two"] (spP K (TS [(cc1, tp1), (cc4, tp4)]) φ_parting) := ⟨_, _, ok_parting F10 v_gcd, PySem.W.mg_of X G a10, k10, b10⟩
  have C_rest_paper : Cal l.prog w K mg base "rest_paper" 3 ["rests"] (spP K (TS [(cc1, tp1), (cc4, tp4)]) φ_rest_paper) := ⟨_, _, ok_rest_paper F11 C_joined C_parting C_alone w_enumerate, PySem.W.mg_of X G a11, k11, b11⟩
  have C_check_rests : Cal l.prog w K mg base "check_rests" 4 ["rests", "value"] (spP K (TS [(cc1, tp1), (cc4, tp4)]) φ_check_rests) := ⟨_, _, ok_check_rests F12 C_parting C_alone C_is_within C_is_worded C_rest_paper C_is_row w_len, PySem.W.mg_of X G a12, k12, b12⟩
  have C_law_pool : Cal l.prog w K mg base "_law_pool" 1 ["script"] (spPool K (TS [(cc1, tp1), (cc4, tp4)])) := ⟨_, _, ok_law_pool F13 w_list w_int, PySem.W.mg_of X G a13, k13, b13⟩
  have C_law_spread : Cal l.prog w K mg base "_law_spread" 1 ["cell"] (spP K (TS [(cc1, tp1), (cc4, tp4)]) φ_law_spread) := ⟨_, _, ok_law_spread F14 w_range w_int, PySem.W.mg_of X G a14, k14, b14⟩
  have C_law_draw : Cal l.prog w K mg base "_law_draw" 2 ["pool", "many"] (spPP K (TS [(cc1, tp1), (cc4, tp4)]) φ_law_draw) := ⟨_, _, ok_law_draw F15 C_law_spread w_int w_len, PySem.W.mg_of X G a15, k15, b15⟩
  have C_law_int : Cal l.prog w K mg base "_law_int" 3 ["pool", "most"] (spPP K (TS [(cc1, tp1), (cc4, tp4)]) φ_law_int) := ⟨_, _, ok_law_int F16 C_law_draw, PySem.W.mg_of X G a16, k16, b16⟩
  have C_law_rests : Cal l.prog w K mg base "_law_rests" 4 ["pool"] (spPP K (TS [(cc1, tp1), (cc4, tp4)]) φ_law_rests) := ⟨_, _, ok_law_rests F17 C_law_draw C_law_int w_tuple w_range, PySem.W.mg_of X G a17, k17, b17⟩
  exact ok_law F18 C_multiple C_rest_paper C_law_draw C_law_int C_common C_inverse C_check_rests C_law_rests C_law_pool w_tuple
end My
open PySem PySem.W PyProof.Rows
set_option maxHeartbeats 0 in
theorem PySem.Challenge.cw_numberwright_k84_whole_rests_moved_holds : PySem.Challenge.rw_numberwright_k84_whole_rests_moved.Holds := by
  w_on; o_law; k_head; (case hw => w_witness2)
  k_fill
  refine Ab.walk_ofG (l := PySem.Challenge.rw_numberwright_k84_whole_rests_moved) (n := 63) (k := 5) (x := "script") (CX := fun _ => L2.CX0) ["is_row", "two_factors"] rfl (by decide) rfl ⟨rfl, by decide, by decide⟩ (by decide +kernel) (fun w h Y => PySem.W.kIn_of Y) ?F (fun _ _ _ _ _ h => h)
  case F =>
    intro w mg fa h KX G hmg TF
    refine' My.all_mk KX G hmg TF ?a0 ?l0 ?c0 ?k0 ?a1 ?l1 ?c1 ?k1 ?t1 ?p1 ?n1 ?a2 ?l2 ?c2 ?k2 ?a3 ?l3 ?c3 ?k3 ?a4 ?l4 ?c4 ?k4 ?t4 ?p4 ?n4 ?a5 ?l5 ?c5 ?k5 ?a6 ?l6 ?c6 ?k6 ?a7 ?l7 ?c7 ?k7 ?a8 ?l8 ?c8 ?k8 ?a9 ?l9 ?c9 ?k9 ?a10 ?l10 ?c10 ?k10 ?a11 ?l11 ?c11 ?k11 ?a12 ?l12 ?c12 ?k12 ?a13 ?l13 ?c13 ?k13 ?a14 ?l14 ?c14 ?k14 ?a15 ?l15 ?c15 ?k15 ?a16 ?l16 ?c16 ?k16 ?a17 ?l17 ?c17 ?k17 ?a18 ?l18 ?c18 ?k18 ?z_isinstance ?z_bool ?z_int ?z_all ?z_len ?z_tuple ?z_str ?z_zip ?z_abs ?z_enumerate ?z_list ?z_range ?m_gcd
    (case a0 => k_is); (case l0 => k_is); (case c0 => k_is); (case k0 => k_is); (case a1 => k_is); (case l1 => k_is); (case c1 => k_is); (case k1 => k_is); (case t1 => k_is); (case p1 => rfl); (case n1 => kernel_rfl); (case a2 => k_is); (case l2 => k_is); (case c2 => k_is); (case k2 => k_is); (case a3 => k_is); (case l3 => k_is); (case c3 => k_is); (case k3 => k_is); (case a4 => k_is); (case l4 => k_is); (case c4 => k_is); (case k4 => k_is); (case t4 => k_is); (case p4 => rfl); (case n4 => kernel_rfl); (case a5 => k_is); (case l5 => k_is); (case c5 => k_is); (case k5 => k_is); (case a6 => k_is); (case l6 => k_is); (case c6 => k_is); (case k6 => k_is); (case a7 => k_is); (case l7 => k_is); (case c7 => k_is); (case k7 => k_is); (case a8 => k_is); (case l8 => k_is); (case c8 => k_is); (case k8 => k_is); (case a9 => k_is); (case l9 => k_is); (case c9 => k_is); (case k9 => k_is); (case a10 => k_is); (case l10 => k_is); (case c10 => k_is); (case k10 => k_is); (case a11 => k_is); (case l11 => k_is); (case c11 => k_is); (case k11 => k_is); (case a12 => k_is); (case l12 => k_is); (case c12 => k_is); (case k12 => k_is); (case a13 => k_is); (case l13 => k_is); (case c13 => k_is); (case k13 => k_is); (case a14 => k_is); (case l14 => k_is); (case c14 => k_is); (case k14 => k_is); (case a15 => k_is); (case l15 => k_is); (case c15 => k_is); (case k15 => k_is); (case a16 => k_is); (case l16 => k_is); (case c16 => k_is); (case k16 => k_is); (case a17 => k_is); (case l17 => k_is); (case c17 => k_is); (case k17 => k_is); (case a18 => k_is); (case l18 => k_is); (case c18 => k_is); (case k18 => k_is); (case z_isinstance => k_is); (case z_bool => k_is); (case z_int => k_is); (case z_all => k_is); (case z_len => k_is); (case z_tuple => k_is); (case z_str => k_is); (case z_zip => k_is); (case z_abs => k_is); (case z_enumerate => k_is); (case z_list => k_is); (case z_range => k_is); (case m_gcd => k_is)

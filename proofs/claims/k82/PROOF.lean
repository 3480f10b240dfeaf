import PyProof.Rows.All
import Wide.All
import OpenK.AllK
import Wide.FinOn
import HandS.Base
import HandS.Call
import HandS.List
import HandS.Comp
import HandS.Ends
import HandS.Words
import HandS.WordsList
import HandS.Wide
import HandS.WideMore
import HandS.Gcd
import HandS.Style
import PySem.Challenge.RW_numberwright_k82_whole_rows_of_choices
set_option Elab.async false
set_option linter.all false
set_option maxRecDepth 100000
set_option maxHeartbeats 2000000
/-! the abstract machine: slots hold data, or lists of one's own -/
namespace Ab
open PySem PySem.Spec PyProof.Rows L2

abbrev Fg := PySem.W.Frag
def Ex (H H' : Hp) : Prop := ∀ a o, H a = some o → H' a = some o
theorem Ex.refl (H : Hp) : Ex H H := fun _ _ h => h
theorem Ex.trans {H H1 H2 : Hp} (a : Ex H H1) (b : Ex H1 H2) : Ex H H2 := fun x o h => b x o (a x o h)
theorem Ex.new {H : Hp} {p : Addr} {o : HO} (h : H p = none) : Ex H (upd H p o) := fun a u e => by
  rw [upd_ne (ne_of_none e h)]; exact e
theorem Ex.back {H H' : Hp} {p : Addr} (e : Ex H H') (h : H' p = none) : H p = none := by
  cases h1 : H p with
  | none => rfl
  | some o => rw [e p o h1] at h; cases h
theorem Ex.upd2 {H H' : Hp} {p : Addr} {o : HO} (e : Ex H H') : Ex (upd H p o) (upd H' p o) := fun a u h => by
  by_cases c : a = p
  · subst c; rw [upd_same] at h ⊢; exact h
  · rw [upd_ne c] at h ⊢; exact e a u h
theorem Ex.updR {H H' : Hp} {p : Addr} {o : HO} (e : Ex H H') (h : H p = none) : Ex H (upd H' p o) := fun a u ha => by
  rw [upd_ne (ne_of_none ha h)]; exact e a u ha
theorem Ex.rd {H H' : Hp} {a : Addr} {u : HO} (e : Ex H H') (h : Rd H a u) : Rd H' a u := by
  rcases h with h | ⟨o, h⟩
  · exact Or.inl (e a _ h)
  · exact Or.inr ⟨o, e a _ h⟩
theorem Ex.l {K : Fg} {H H' : Hp} {a : Addr} {xs : List V} (e : Ex H H') (h : SqL K H a xs) : SqL K H' a xs := by
  rcases h with h | h
  · exact Or.inl (e.rd h)
  · exact Or.inr h
theorem Ex.t {K : Fg} {H H' : Hp} {a : Addr} {xs : List V} (e : Ex H H') (h : SqT K H a xs) : SqT K H' a xs := by
  rcases h with h | h
  · exact Or.inl (e.rd h)
  · exact Or.inr h
mutual
theorem Dp.mono {K : Fg} {H H' : Hp} (e : Ex H H') : ∀ {v : V} {d : PyData}, Dp K H v d → Dp K H' v d
  | _, _, .non => .non
  | _, _, .bl b => .bl b
  | _, _, .int i => .int i
  | _, _, .str x => .str x
  | _, _, .lst h a => .lst (e.l h) (DpAll.mono e a)
  | _, _, .tup h a => .tup (e.t h) (DpAll.mono e a)
theorem DpAll.mono {K : Fg} {H H' : Hp} (e : Ex H H') : ∀ {v : List V} {d : List PyData}, DpAll K H v d → DpAll K H' v d
  | _, _, .nil => .nil
  | _, _, .cons a b => .cons (Dp.mono e a) (DpAll.mono e b)
end
theorem DpAll.length {K : Fg} {H : Hp} : ∀ {v : List V} {d : List PyData}, DpAll K H v d → v.length = d.length
  | _, _, .nil => rfl
  | _, _, .cons _ b => congrArg (· + 1) (DpAll.length b)
theorem DpAll.get {K : Fg} {H : Hp} : ∀ {vs : List V} {ds : List PyData} {i : Nat} {d : PyData}, DpAll K H vs ds → ds[i]? = some d → ∃ v, vs[i]? = some v ∧ Dp K H v d
  | _, _, 0, _, .cons a _, e => by simp at e; subst e; exact ⟨_, rfl, a⟩
  | _, _, i + 1, d, .cons _ b, e => by
    obtain ⟨v, h1, h2⟩ := DpAll.get (i := i) b (by simpa using e)
    exact ⟨v, by simpa using h1, h2⟩
  | _, _, _, _, .nil, e => by simp at e
theorem DpAll.get' {K : Fg} {H : Hp} : ∀ {vs : List V} {ds : List PyData} {i : Nat} {v : V}, DpAll K H vs ds → vs[i]? = some v → ∃ d, ds[i]? = some d ∧ Dp K H v d
  | _, _, 0, _, .cons a _, e => by simp at e; subst e; exact ⟨_, rfl, a⟩
  | _, _, i + 1, d, .cons _ b, e => by
    obtain ⟨v, h1, h2⟩ := DpAll.get' (i := i) b (by simpa using e)
    exact ⟨v, by simpa using h1, h2⟩
  | _, _, _, _, .nil, e => by simp at e
theorem DpAll.append {K : Fg} {H : Hp} : ∀ {v v' : List V} {d d' : List PyData}, DpAll K H v d → DpAll K H v' d' → DpAll K H (v ++ v') (d ++ d')
  | _, _, _, _, .nil, s => s
  | _, _, _, _, .cons a b, s => .cons a (DpAll.append b s)
theorem DpAll.set {K : Fg} {H : Hp} {x : V} {y : PyData} (r : Dp K H x y) : ∀ {v : List V} {d : List PyData} (i : Nat), DpAll K H v d → DpAll K H (v.set i x) (d.set i y)
  | _, _, _, .nil => .nil
  | _, _, 0, .cons _ b => .cons r b
  | _, _, i + 1, .cons a b => .cons a (DpAll.set r i b)
theorem DpAll.take {K : Fg} {H : Hp} : ∀ {v : List V} {d : List PyData} (n : Nat), DpAll K H v d → DpAll K H (v.take n) (d.take n)
  | _, _, 0, _ => .nil
  | _, _, _ + 1, .nil => .nil
  | _, _, n + 1, .cons a b => .cons a (DpAll.take n b)
theorem DpAll.drop {K : Fg} {H : Hp} : ∀ {v : List V} {d : List PyData} (n : Nat), DpAll K H v d → DpAll K H (v.drop n) (d.drop n)
  | _, _, 0, h => h
  | _, _, _ + 1, .nil => .nil
  | _, _, n + 1, .cons _ b => DpAll.drop n b
theorem DpAll.reverse {K : Fg} {H : Hp} : ∀ {v : List V} {d : List PyData}, DpAll K H v d → DpAll K H v.reverse d.reverse
  | _, _, .nil => .nil
  | _, _, .cons (v := v) (vs := vs) (d := d) (ds := ds) a b => by
    rw [List.reverse_cons, List.reverse_cons]
    exact DpAll.append (DpAll.reverse b) (.cons a .nil)
theorem DpAll.dropLast {K : Fg} {H : Hp} {v : List V} {d : List PyData} (h : DpAll K H v d) : DpAll K H v.dropLast d.dropLast := by
  rw [List.dropLast_eq_take, List.dropLast_eq_take, DpAll.length h]
  exact DpAll.take _ h
def dI (n : Int) : PyData := .int n
theorem DpAll.ints {K : Fg} {H : Hp} : ∀ (ns : List Int), DpAll K H (ns.map V.int) (ns.map PyData.int)
  | [] => .nil
  | n :: ns => .cons (.int n) (DpAll.ints ns)
theorem DpAll.ints_eq {K : Fg} {H : Hp} : ∀ {vs : List V} {ns : List Int}, DpAll K H vs (ns.map PyData.int) → vs = ns.map V.int
  | _, [], .nil => rfl
  | _, n :: ns, .cons a b => by
    cases a
    rw [DpAll.ints_eq b]; rfl

/-! ### slots -/
inductive Sl where
  | no
  | dat (d : PyData)
  | own (ds : List PyData)
  | dic (kvs : List (Int × PyData))
  | dit (kvs : List (List Int × PyData))
  | pown (ds : List PyData)
  | pool
def Sl.mut : Sl → Bool
  | .own _ => true
  | .dic _ => true
  | .dit _ => true
  | .pown _ => true
  | .pool => true
  | _ => false
abbrev LS := List Sl

def slot (σ : L2.St) (i : Nat) : Option V := (σ[i]?).join
theorem slot_some {σ : L2.St} {i : Nat} {v : V} (h : slot σ i = some v) : σ[i]? = some (some v) := by
  unfold slot at h
  cases e : σ[i]? with
  | none => rw [e] at h; cases h
  | some o => rw [e] at h; cases o with
    | none => cases h
    | some u => cases h; rfl
theorem slot_of {σ : L2.St} {i : Nat} {v : V} (h : σ[i]? = some (some v)) : slot σ i = some v := by
  unfold slot; rw [h]; rfl
theorem slot_set {σ : L2.St} {i : Nat} {o : Option V} (h : i < σ.length) : slot (σ.set i o) i = o := by
  unfold slot; rw [List.getElem?_set_self h]; rfl
theorem slot_set_ne {σ : L2.St} {i j : Nat} {o : Option V} (h : i ≠ j) : slot (σ.set i o) j = slot σ j := by
  unfold slot; rw [List.getElem?_set_ne h]

def KvAll (K : Fg) (F : Hp) : List (Key × V) → List (Int × PyData) → Prop := Paired fun p q => p.1 = Sum.inl q.1 ∧ Dp K F p.2 q.2
def KtAll (K : Fg) (F : Hp) : List (List Key × V) → List (List Int × PyData) → Prop := Paired fun p q => p.1 = q.1.map Sum.inl ∧ Dp K F p.2 q.2
theorem KvAll.mono {K : Fg} {F F' : Hp} (e : Ex F F') {a : List (Key × V)} {b : List (Int × PyData)} (h : KvAll K F a b) : KvAll K F' a b := Paired.mapP h fun _ _ q => ⟨q.1, Dp.mono e q.2⟩
theorem KtAll.mono {K : Fg} {F F' : Hp} (e : Ex F F') {a : List (List Key × V)} {b : List (List Int × PyData)} (h : KtAll K F a b) : KtAll K F' a b := Paired.mapP h fun _ _ q => ⟨q.1, Dp.mono e q.2⟩

/-- the pool of the law: [script, place, number, many, salt] -/
def PoolAt (K : Fg) (F H : Hp) (p : Addr) : Prop := F p = none ∧ ∃ (s : Addr) (ns : List Int) (i : Nat) (c k salt : Int), H p = some (.lst [.ref s, .int i, .int c, .int k, .int salt]) ∧ SqL K F s (ns.map V.int)

def SlOk (K : Fg) (b : Option Addr) (H0 F H : Hp) (o : Option V) : Sl → Prop
  | .no => True
  | .dat d => ∃ v, o = some v ∧ Dp K F v d
  | .own ds => ∃ p xs, o = some (.ref p) ∧ H p = some (.lst xs) ∧ F p = none ∧ H0 p = none ∧ DpAll K F xs ds
  | .dic kvs => ∃ p xs, o = some (.ref p) ∧ H p = some (.dK xs) ∧ F p = none ∧ H0 p = none ∧ KvAll K F xs kvs
  | .dit kvs => ∃ p xs, o = some (.ref p) ∧ H p = some (.dT xs) ∧ F p = none ∧ H0 p = none ∧ KtAll K F xs kvs
  | .pown ds => ∃ p xs, o = some (.ref p) ∧ H p = some (.lst xs) ∧ F p = none ∧ b = some p ∧ DpAll K F xs ds
  | .pool => ∃ p, o = some (.ref p) ∧ b = some p ∧ PoolAt K F H p

/-- from the entry: what the caller sees is kept; b may change -/
structure Gr (b : Option Addr) (F H F' H' : Hp) : Prop where
  ex : Ex F F'
  sub : Ex F' H'
  keep : ∀ p o, F p = none → H p = some o → F' p = none ∧ (b ≠ some p → H' p = some o) ∧ ∃ o', H' p = some o'
theorem Gr.refl {b : Option Addr} {F H : Hp} (e : Ex F H) : Gr b F H F H := ⟨Ex.refl F, e, fun _ o h1 h2 => ⟨h1, fun _ => h2, o, h2⟩⟩
theorem Gr.trans {b : Option Addr} {F H F1 H1 F2 H2 : Hp} (x : Gr b F H F1 H1) (y : Gr b F1 H1 F2 H2) : Gr b F H F2 H2 := by
  refine ⟨x.ex.trans y.ex, y.sub, fun p o h1 h2 => ?_⟩
  obtain ⟨a1, a2, o', a3⟩ := x.keep p o h1 h2
  obtain ⟨b1, b2, b3⟩ := y.keep p o' a1 a3
  exact ⟨b1, fun hb => (y.keep p o a1 (a2 hb)).2.1 hb, b3⟩
theorem Gr.weak {b : Option Addr} {F H F1 H1 : Hp} (x : Gr none F H F1 H1) : Gr b F H F1 H1 :=
  ⟨x.ex, x.sub, fun p o h1 h2 => by
    obtain ⟨a1, a2, a3⟩ := x.keep p o h1 h2
    exact ⟨a1, fun _ => a2 (fun z => nomatch z), a3⟩⟩
theorem Gr.exH {F H F1 H1 : Hp} (x : Gr none F H F1 H1) (e : Ex F H) : Ex H H1 := fun a o h => by
  cases q : F a with
  | none => exact (x.keep a o q h).2.1 (fun z => nomatch z)
  | some u =>
    have := e a u q
    rw [h] at this; cases this
    exact x.sub a _ (x.ex a _ q)
/-- a new object, seen -/
theorem Gr.new {b : Option Addr} {F H : Hp} {p : Addr} {o : HO} (e : Ex F H) (h : H p = none) : Gr b F H (upd F p o) (upd H p o) := by
  have hf : F p = none := e.back h
  refine ⟨Ex.new hf, e.upd2, fun q u h1 h2 => ?_⟩
  have ne : q ≠ p := ne_of_none h2 h
  rw [upd_ne ne, upd_ne ne]
  exact ⟨h1, fun _ => h2, u, h2⟩
/-- a new object, not seen -/
theorem Gr.newH {b : Option Addr} {F H : Hp} {p : Addr} {o : HO} (e : Ex F H) (h : H p = none) : Gr b F H F (upd H p o) := by
  have hf : F p = none := e.back h
  refine ⟨Ex.refl F, e.updR hf, fun q u h1 h2 => ?_⟩
  have ne : q ≠ p := ne_of_none h2 h
  rw [upd_ne ne]
  exact ⟨h1, fun _ => h2, u, h2⟩

structure Base where
  F : Hp
  H : Hp
structure Stt (K : Fg) (b : Option Addr) (B : Base) (F H : Hp) (σ : L2.St) (δ : LS) : Prop where
  sub : Ex F H
  gr : Gr b B.F B.H F H
  len : σ.length = δ.length
  ok : ∀ i s, δ[i]? = some s → SlOk K b B.H F H (slot σ i) s
  ap : ∀ i j si sj p, i ≠ j → δ[i]? = some si → δ[j]? = some sj → si.mut = true → sj.mut = true → slot σ i = some (.ref p) → slot σ j ≠ some (.ref p)

section
variable {K : Fg} {b : Option Addr} {B : Base} {F H F' H' : Hp} {σ : L2.St} {δ : LS}
theorem SlOk.mono {o : Option V} {s : Sl} (h : SlOk K b B.H F H o s) (e : Ex F F') (kp : ∀ p u, s.mut = true → o = some (.ref p) → F p = none → H p = some u → F' p = none ∧ H' p = some u) : SlOk K b B.H F' H' o s := by
  cases s with
  | no => trivial
  | dat d => obtain ⟨v, h1, h2⟩ := h; exact ⟨v, h1, Dp.mono e h2⟩
  | own ds =>
    obtain ⟨p, xs, h1, h2, h3, h4, h5⟩ := h
    obtain ⟨k1, k2⟩ := kp p _ rfl h1 h3 h2
    exact ⟨p, xs, h1, k2, k1, h4, DpAll.mono e h5⟩
  | dic kvs =>
    obtain ⟨p, xs, h1, h2, h3, h4, h5⟩ := h
    obtain ⟨k1, k2⟩ := kp p _ rfl h1 h3 h2
    exact ⟨p, xs, h1, k2, k1, h4, KvAll.mono e h5⟩
  | dit kvs =>
    obtain ⟨p, xs, h1, h2, h3, h4, h5⟩ := h
    obtain ⟨k1, k2⟩ := kp p _ rfl h1 h3 h2
    exact ⟨p, xs, h1, k2, k1, h4, KtAll.mono e h5⟩
  | pool =>
    obtain ⟨p, h1, h2, h3, s, ns, i, c, k, salt, h4, h5⟩ := h
    obtain ⟨k1, k2⟩ := kp p _ rfl h1 h3 h4
    exact ⟨p, h1, h2, k1, s, ns, i, c, k, salt, k2, e.l h5⟩
  | pown ds =>
    obtain ⟨p, xs, h1, h2, h3, h4, h5⟩ := h
    obtain ⟨k1, k2⟩ := kp p _ rfl h1 h3 h2
    exact ⟨p, xs, h1, k2, k1, h4, DpAll.mono e h5⟩
/-- the heaps go on, the slots stand -/
theorem Stt.step (S : Stt K b B F H σ δ) (g : Gr none F H F' H') : Stt K b B F' H' σ δ :=
  ⟨g.sub, S.gr.trans g.weak, S.len, fun i s h => (S.ok i s h).mono g.ex fun p u _ _ h1 h2 => by
    obtain ⟨a, c, _⟩ := g.keep p u h1 h2
    exact ⟨a, c (fun z => nomatch z)⟩, S.ap⟩
theorem Stt.dat (S : Stt K b B F H σ δ) {i : Nat} {d : PyData} (h : δ[i]? = some (.dat d)) : ∃ v, σ[i]? = some (some v) ∧ Dp K F v d := by
  obtain ⟨v, h1, h2⟩ := S.ok i _ h
  exact ⟨v, slot_some h1, h2⟩
theorem Stt.own (S : Stt K b B F H σ δ) {i : Nat} {ds : List PyData} (h : δ[i]? = some (.own ds)) : ∃ p xs, σ[i]? = some (some (.ref p)) ∧ H p = some (.lst xs) ∧ F p = none ∧ B.H p = none ∧ DpAll K F xs ds := by
  obtain ⟨p, xs, h1, h2⟩ := S.ok i _ h
  exact ⟨p, xs, slot_some h1, h2⟩
theorem lt_of_get {α : Type} {l : List α} {i : Nat} {x : α} (h : l[i]? = some x) : i < l.length := (List.getElem?_eq_some_iff.mp h).1
theorem Stt.pown (S : Stt K b B F H σ δ) {i : Nat} {ds : List PyData} (h : δ[i]? = some (.pown ds)) : ∃ p xs, σ[i]? = some (some (.ref p)) ∧ H p = some (.lst xs) ∧ F p = none ∧ b = some p ∧ DpAll K F xs ds := by
  obtain ⟨p, xs, h1, h2⟩ := S.ok i _ h
  exact ⟨p, xs, slot_some h1, h2⟩
/-- a slot is set to data | to nothing -/
theorem Stt.set (S : Stt K b B F H σ δ) {i : Nat} {o : Option V} {s : Sl} (ok : i < σ.length → SlOk K b B.H F H o s) (ap : s.mut = false ∨ ∀ j sj p, i ≠ j → δ[j]? = some sj → sj.mut = true → o = some (.ref p) → slot σ j ≠ some (.ref p)) : Stt K b B F H (σ.set i o) (δ.set i s) := by
  refine ⟨S.sub, S.gr, by rw [List.length_set, List.length_set]; exact S.len, fun j t h => ?_, fun j k sj sk p hjk h1 h2 m1 m2 h3 => ?_⟩
  · by_cases e : i = j
    · subst e
      have hi : i < δ.length := by
        have := lt_of_get h
        rwa [List.length_set] at this
      rw [List.getElem?_set_self hi] at h
      cases h
      have hs : i < σ.length := by rw [S.len]; exact hi
      rw [slot_set hs]
      exact ok hs
    · rw [List.getElem?_set_ne e] at h
      rw [slot_set_ne e]
      exact S.ok j t h
  · by_cases e : i = j
    · subst e
      have hi : i < δ.length := by
        have := lt_of_get h1
        rwa [List.length_set] at this
      rw [List.getElem?_set_self hi] at h1
      cases h1
      rw [slot_set (by rw [S.len]; exact hi)] at h3
      rw [List.getElem?_set_ne hjk] at h2
      rw [slot_set_ne hjk]
      rcases ap with ap | ap
      · rw [ap] at m1; cases m1
      · exact ap k sk p hjk h2 m2 h3
    · rw [List.getElem?_set_ne e] at h1
      rw [slot_set_ne e] at h3
      by_cases e' : i = k
      · subst e'
        have hi : i < δ.length := by
          have := lt_of_get h2
          rwa [List.length_set] at this
        rw [List.getElem?_set_self hi] at h2
        cases h2
        rw [slot_set (by rw [S.len]; exact hi)]
        rcases ap with ap | ap
        · rw [ap] at m2; cases m2
        · exact fun z => ap j sj p e h1 m1 z h3
      · rw [List.getElem?_set_ne e'] at h2
        rw [slot_set_ne e']
        exact S.ap j k sj sk p hjk h1 h2 m1 m2 h3
theorem Stt.setD (S : Stt K b B F H σ δ) {i : Nat} {v : V} {d : PyData} (h : Dp K F v d) : Stt K b B F H (σ.set i (some v)) (δ.set i (.dat d)) :=
  S.set (fun _ => ⟨v, rfl, h⟩) (.inl rfl)
/-- a slot's object is written: it is that slot's alone -/
theorem Stt.wr (S : Stt K b B F H σ δ) {i : Nat} {s s' : Sl} {p : Addr} {o : HO} (h : δ[i]? = some s) (m : s.mut = true) (hp : slot σ i = some (.ref p)) (hF : F p = none) (hB : B.H p = none ∨ b = some p) (hH : ∃ u, H p = some u)
    (m' : s'.mut = true) (ok : SlOk K b B.H F (upd H p o) (some (.ref p)) s') : Stt K b B F (upd H p o) σ (δ.set i s') := by
  have hi : i < δ.length := lt_of_get h
  refine ⟨S.sub.updR hF, ⟨S.gr.ex, S.sub.updR hF, fun q u h1 h2 => ?_⟩, by rw [List.length_set]; exact S.len, fun j t hj => ?_, fun j k sj sk q hjk h1 h2 m1 m2 h3 => ?_⟩
  · obtain ⟨a1, a2, a3⟩ := S.gr.keep q u h1 h2
    refine ⟨a1, fun hb => ?_, ?_⟩
    · have ne : q ≠ p := by
        rintro rfl
        rcases hB with z | z
        · rw [h2] at z; cases z
        · exact hb z
      rw [upd_ne ne]; exact a2 hb
    · by_cases c : q = p
      · subst c; exact ⟨o, upd_same⟩
      · rw [upd_ne c]; exact a3
  · by_cases e : i = j
    · subst e
      rw [List.getElem?_set_self hi] at hj
      cases hj
      rw [hp]; exact ok
    · rw [List.getElem?_set_ne e] at hj
      refine (S.ok j t hj).mono (Ex.refl F) fun q u mt hq h1 h2 => ⟨h1, ?_⟩
      have ne : q ≠ p := by
        rintro rfl
        exact S.ap i j s t _ e h hj m mt hp hq
      rw [upd_ne ne]; exact h2
  · have get : ∀ (k : Nat) (sk : Sl), (δ.set i s')[k]? = some sk → sk.mut = true → ∃ sk' : Sl, δ[k]? = some sk' ∧ sk'.mut = true := fun k sk hk mk => by
      by_cases e : i = k
      · subst e; exact ⟨s, h, m⟩
      · rw [List.getElem?_set_ne e] at hk
        exact ⟨sk, hk, mk⟩
    obtain ⟨sj', g1, g2⟩ := get j sj h1 m1
    obtain ⟨sk', g3, g4⟩ := get k sk h2 m2
    exact S.ap j k sj' sk' q hjk g1 g3 g2 g4 h3
/-- a list of one's own becomes data -/
theorem Stt.frz (S : Stt K b B F H σ δ) {i : Nat} {ds : List PyData} (h : δ[i]? = some (.own ds)) : ∃ p F', σ[i]? = some (some (.ref p)) ∧ Ex F F' ∧ Dp K F' (.ref p) (.list ds) ∧ Stt K b B F' H σ (δ.set i (.dat (.list ds))) := by
  obtain ⟨p, xs, h1, h2, h3, h4, h5⟩ := S.own h
  have e : Ex F (upd F p (.lst xs)) := Ex.new h3
  have hd : Dp K (upd F p (.lst xs)) (.ref p) (.list ds) := .lst (.inl (.inl upd_same)) (DpAll.mono e h5)
  have hi : i < δ.length := lt_of_get h
  refine ⟨p, _, h1, e, hd, ⟨fun a u q => ?_, ⟨S.gr.ex.trans e, fun a u q => ?_, fun q u g1 g2 => ?_⟩, by rw [List.length_set]; exact S.len, fun j t hj => ?_, fun j k sj sk q hjk g1 g2 m1 m2 g3 => ?_⟩⟩
  · by_cases c : a = p
    · subst c; rw [upd_same] at q; cases q; exact h2
    · rw [upd_ne c] at q; exact S.sub a u q
  · by_cases c : a = p
    · subst c; rw [upd_same] at q; cases q; exact h2
    · rw [upd_ne c] at q; exact S.sub a u q
  · obtain ⟨a1, a2⟩ := S.gr.keep q u g1 g2
    have ne : q ≠ p := by rintro rfl; rw [h4] at g2; cases g2
    rw [upd_ne ne]; exact ⟨a1, a2⟩
  · by_cases c : i = j
    · subst c
      rw [List.getElem?_set_self hi] at hj
      cases hj
      exact ⟨.ref p, slot_of h1, hd⟩
    · rw [List.getElem?_set_ne c] at hj
      refine (S.ok j t hj).mono e fun q u mt hq g1 g2 => ⟨?_, g2⟩
      have ne : q ≠ p := by
        rintro rfl
        exact S.ap i j _ t _ c h hj rfl mt (slot_of h1) hq
      rw [upd_ne ne]; exact g1
  · have ne : ∀ (k : Nat) (sk : Sl), (δ.set i (.dat (.list ds)))[k]? = some sk → sk.mut = true → k ≠ i ∧ δ[k]? = some sk := fun k sk hk mk => by
      by_cases e : i = k
      · subst e
        rw [List.getElem?_set_self hi] at hk
        cases hk; cases mk
      · rw [List.getElem?_set_ne e] at hk
        exact ⟨Ne.symm e, hk⟩
    exact S.ap j k sj sk q hjk (ne j sj g1 m1).2 (ne k sk g2 m2).2 m1 m2 g3
end
end Ab

set_option Elab.async false
set_option linter.all false
set_option maxRecDepth 100000
set_option maxHeartbeats 2000000
namespace Ab
open PySem PySem.Spec PyProof.Rows L2

inductive AV where
  | d (x : PyData)
  | o (i : Nat)
def VR (K : Fg) (F : Hp) (σ : L2.St) (v : V) : AV → Prop
  | .d x => Dp K F v x
  | .o i => σ[i]? = some (some v)
theorem VR.mono {K : Fg} {F F' : Hp} {σ : L2.St} {v : V} (e : Ex F F') : ∀ {a : AV}, VR K F σ v a → VR K F' σ v a
  | .d _, h => Dp.mono e h
  | .o _, h => h

/-! ### judgements -/
def De (K : Fg) (b : Option Addr) (te : TE) (δ : LS) (R : AV → LS → Prop) : Prop :=
  ∀ B F H σ, Stt K b B F H σ δ → ∀ Q : VK, (∀ v F2 H2 a δ2, R a δ2 → Stt K b B F2 H2 σ δ2 → Ex F F2 → VR K F2 σ v a → Q v H2) → te σ H Q
/-- data alone -/
def Dd (K : Fg) (b : Option Addr) (te : TE) (δ : LS) (R : PyData → LS → Prop) : Prop :=
  ∀ B F H σ, Stt K b B F H σ δ → ∀ Q : VK, (∀ v F2 H2 x δ2, R x δ2 → Stt K b B F2 H2 σ δ2 → Ex F F2 → Dp K F2 v x → Q v H2) → te σ H Q
def Dt (K : Fg) (b : Option Addr) (tt : TT) (δ : LS) (R : Bool → LS → Prop) : Prop :=
  ∀ B F H σ, Stt K b B F H σ δ → ∀ Q : Bool → Hp → Prop, (∀ c F2 H2 δ2, R c δ2 → Stt K b B F2 H2 σ δ2 → Ex F F2 → Q c H2) → tt σ H Q
def Da (K : Fg) (b : Option Addr) (ta : TA) (δ : LS) (R : List PyData → LS → Prop) : Prop :=
  ∀ B F H σ, Stt K b B F H σ δ → ∀ Q : List V → Hp → Prop, (∀ vs F2 H2 ds δ2, R ds δ2 → Stt K b B F2 H2 σ δ2 → Ex F F2 → DpAll K F2 vs ds → Q vs H2) → ta σ H Q
/-- a new list, nobody's yet -/
structure New (K : Fg) (B : Base) (F H : Hp) (σ : L2.St) (δ : LS) (p : Addr) (xs : List V) (ds : List PyData) : Prop where
  h : H p = some (.lst xs)
  f : F p = none
  b : B.H p = none
  ap : ∀ i s, δ[i]? = some s → s.mut = true → slot σ i ≠ some (.ref p)
  all : DpAll K F xs ds
def Dn (K : Fg) (b : Option Addr) (te : TE) (δ : LS) (R : List PyData → LS → Prop) : Prop :=
  ∀ B F H σ, Stt K b B F H σ δ → ∀ Q : VK, (∀ p xs F2 H2 ds δ2, R ds δ2 → Stt K b B F2 H2 σ δ2 → Ex F F2 → New K B F2 H2 σ δ2 p xs ds → Q (.ref p) H2) → te σ H Q
structure Po where
  nx : LS → Prop
  rt : PyData → Prop
  bk : LS → Prop := fun _ => False
  ct : LS → Prop := fun _ => False
  rn : List PyData → Prop := fun _ => False
  rs : PyData → LS → Prop := fun _ _ => False
structure EndsOk (K : Fg) (b : Option Addr) (B : Base) (F0 : Hp) (P : Po) (D : Ends) : Prop where
  nx : ∀ F H σ δ, P.nx δ → Stt K b B F H σ δ → Ex F0 F → D.nx σ H
  rt : ∀ v F H d, P.rt d → Gr b B.F B.H F H → Dp K F v d → D.rt v H
  bk : ∀ F H σ δ, P.bk δ → Stt K b B F H σ δ → Ex F0 F → D.bk σ H
  ct : ∀ F H σ δ, P.ct δ → Stt K b B F H σ δ → Ex F0 F → D.ct σ H
  rn : ∀ p xs F H σ δ ds, P.rn ds → Stt K b B F H σ δ → New K B F H σ δ p xs ds → D.rt (.ref p) H
  rs : ∀ v F H d σ δ, P.rs d δ → Stt K b B F H σ δ → Dp K F v d → D.rt v H
theorem EndsOk.mono {K : Fg} {b : Option Addr} {B : Base} {F0 F1 : Hp} {P : Po} {D : Ends} (E : EndsOk K b B F0 P D) (e : Ex F0 F1) : EndsOk K b B F1 P D :=
  ⟨fun F H σ δ h S e1 => E.nx F H σ δ h S (e.trans e1), E.rt, fun F H σ δ h S e1 => E.bk F H σ δ h S (e.trans e1), fun F H σ δ h S e1 => E.ct F H σ δ h S (e.trans e1), E.rn, E.rs⟩
def Ds (K : Fg) (b : Option Addr) (ts : TS) (δ : LS) (P : Po) : Prop :=
  ∀ B F H σ (D : Ends), Stt K b B F H σ δ → EndsOk K b B F P D → ts D σ H
def Dg (K : Fg) (b : Option Addr) (g : TG) (x : PyData) (δ : LS) (R : LS → Prop) : Prop :=
  ∀ B F H σ v, Stt K b B F H σ δ → Dp K F v x → ∀ Q : L2.St → Hp → Prop, (∀ F2 H2 σ2 δ2, R δ2 → Stt K b B F2 H2 σ2 δ2 → Ex F F2 → Q σ2 H2) → g v σ H Q
def Dgs (K : Fg) (b : Option Addr) (g : TGs) (xs : List PyData) (δ : LS) (R : LS → Prop) : Prop :=
  ∀ B F H σ vs, Stt K b B F H σ δ → DpAll K F vs xs → ∀ Q : L2.St → Hp → Prop, (∀ F2 H2 σ2 δ2, R δ2 → Stt K b B F2 H2 σ2 δ2 → Ex F F2 → Q σ2 H2) → g vs σ H Q

section
variable {K : Fg} {b : Option Addr} {δ : LS} {te ta tb : TE} {t u : TT} {R : AV → LS → Prop}

/-! ### values -/
theorem de_var {i : Nat} {d : PyData} (h : δ[i]? = some (.dat d)) (k : R (.d d) δ) : De K b (tVar i) δ R := fun B F H σ S Q q => by
  obtain ⟨v, h1, h2⟩ := S.dat h
  exact ⟨v, h1, q v F H _ δ k S (Ex.refl F) h2⟩
theorem de_own {i : Nat} {s : Sl} (h : δ[i]? = some s) (m : s.mut = true) (k : R (.o i) δ) : De K b (tVar i) δ R := fun B F H σ S Q q => by
  have : ∃ p, slot σ i = some (.ref p) := by
    have x := S.ok i s h
    cases s with
    | no => cases m
    | dat d => cases m
    | own ds => obtain ⟨p, _, h1, _⟩ := x; exact ⟨p, h1⟩
    | dic ds => obtain ⟨p, _, h1, _⟩ := x; exact ⟨p, h1⟩
    | dit ds => obtain ⟨p, _, h1, _⟩ := x; exact ⟨p, h1⟩
    | pown ds => obtain ⟨p, _, h1, _⟩ := x; exact ⟨p, h1⟩
    | pool => obtain ⟨p, h1, _⟩ := x; exact ⟨p, h1⟩
  obtain ⟨p, hp⟩ := this
  exact ⟨.ref p, slot_some hp, q _ F H _ δ k S (Ex.refl F) (slot_some hp)⟩
theorem de_ci {n : Int} (k : R (.d (.int n)) δ) : De K b (tC (.int n)) δ R := fun B F H σ S Q q => q _ F H _ δ k S (Ex.refl F) (.int n)
theorem de_cn (k : R (.d .none) δ) : De K b (tC .non) δ R := fun B F H σ S Q q => q _ F H _ δ k S (Ex.refl F) .non
theorem de_cb {c : Bool} (k : R (.d (.bool c)) δ) : De K b (tC (.bl c)) δ R := fun B F H σ S Q q => q _ F H _ δ k S (Ex.refl F) (.bl c)
theorem de_cs {x : Str} (k : R (.d (.str x)) δ) : De K b (tC (.str x)) δ R := fun B F H σ S Q q => q _ F H _ δ k S (Ex.refl F) (.str x)
theorem de_c {v : V} {d : PyData} (h : ∀ F, Dp K F v d) (k : R (.d d) δ) : De K b (tC v) δ R := fun B F H σ S Q q => q _ F H _ δ k S (Ex.refl F) (h F)

/-- to data: a list of one's own is given away -/
def toD (R : PyData → LS → Prop) : AV → LS → Prop
  | .d x, δ => R x δ
  | .o i, δ => ∃ ds, δ[i]? = some (.own ds) ∧ R (.list ds) (δ.set i (.dat (.list ds)))
theorem dd_of {R : PyData → LS → Prop} (h : De K b te δ (toD R)) : Dd K b te δ R := fun B F H σ S Q q => h B F H σ S Q fun v F2 H2 a δ2 r S2 e vr => by
  cases a with
  | d x => exact q v F2 H2 x δ2 r S2 e vr
  | o i =>
    obtain ⟨ds, h1, h2⟩ := r
    obtain ⟨p, F3, g1, g2, g3, g4⟩ := S2.frz h1
    have : some (some v) = some (some (V.ref p)) := (show σ[i]? = some (some v) from vr).symm.trans g1
    cases this
    exact q _ F3 H2 _ _ h2 g4 (e.trans g2) g3
theorem de_ofD (h : Dd K b te δ fun x δ' => R (.d x) δ') : De K b te δ R := fun B F H σ S Q q => h B F H σ S Q fun v F2 H2 x δ2 r S2 e vr => q v F2 H2 _ δ2 r S2 e vr
theorem de_ofN (h : Dn K b te δ fun ds δ' => R (.d (.list ds)) δ') : De K b te δ R := fun B F H σ S Q q => h B F H σ S Q fun p xs F2 H2 ds δ2 r S2 e N => by
  have e2 : Ex F2 (upd F2 p (.lst xs)) := Ex.new N.f
  refine q _ (upd F2 p (.lst xs)) H2 _ δ2 r ⟨fun a u z => ?_, ⟨S2.gr.ex.trans e2, fun a u z => ?_, fun c u g1 g2 => ?_⟩, S2.len, fun i s hs => ?_, S2.ap⟩ (e.trans e2) (.lst (.inl (.inl upd_same)) (DpAll.mono e2 N.all))
  · by_cases c : a = p
    · subst c; rw [upd_same] at z; cases z; exact N.h
    · rw [upd_ne c] at z; exact S2.sub a u z
  · by_cases c : a = p
    · subst c; rw [upd_same] at z; cases z; exact N.h
    · rw [upd_ne c] at z; exact S2.sub a u z
  · obtain ⟨a1, a2⟩ := S2.gr.keep c u g1 g2
    have ne : c ≠ p := by rintro rfl; rw [N.b] at g2; cases g2
    rw [upd_ne ne]; exact ⟨a1, a2⟩
  · refine (S2.ok i s hs).mono e2 fun c u mt hc g1 g2 => ⟨?_, g2⟩
    have ne : c ≠ p := by rintro rfl; exact N.ap i s hs mt hc
    rw [upd_ne ne]; exact g1
/-- reading a list or tuple -/
def seqIn (a : AV) (δ : LS) (xs : List PyData) : Prop := a = .d (.list xs) ∨ a = .d (.tuple xs) ∨ ∃ i, a = .o i ∧ (δ[i]? = some (.own xs) ∨ δ[i]? = some (.pown xs))
def lstIn (a : AV) (δ : LS) (xs : List PyData) : Prop := a = .d (.list xs) ∨ ∃ i, a = .o i ∧ (δ[i]? = some (.own xs) ∨ δ[i]? = some (.pown xs))
theorem seqIn.mkL {xs : List PyData} : seqIn (.d (.list xs)) δ xs := .inl rfl
theorem seqIn.mkT {xs : List PyData} : seqIn (.d (.tuple xs)) δ xs := .inr (.inl rfl)
theorem seqIn.mkO {xs : List PyData} {i : Nat} (h : δ[i]? = some (.own xs)) : seqIn (.o i) δ xs := .inr (.inr ⟨i, rfl, .inl h⟩)
theorem seqIn.mkP {xs : List PyData} {i : Nat} (h : δ[i]? = some (.pown xs)) : seqIn (.o i) δ xs := .inr (.inr ⟨i, rfl, .inr h⟩)
theorem lstIn.mkL {xs : List PyData} : lstIn (.d (.list xs)) δ xs := .inl rfl
theorem lstIn.mkO {xs : List PyData} {i : Nat} (h : δ[i]? = some (.own xs)) : lstIn (.o i) δ xs := .inr ⟨i, rfl, .inl h⟩
theorem Stt.any {B : Base} {F H : Hp} {σ : L2.St} (S : Stt K b B F H σ δ) {i : Nat} {ds : List PyData} (h : δ[i]? = some (.own ds) ∨ δ[i]? = some (.pown ds)) : ∃ p xs, σ[i]? = some (some (.ref p)) ∧ H p = some (.lst xs) ∧ DpAll K F xs ds := by
  rcases h with h | h
  · obtain ⟨p, xs, h1, h2, _, _, h5⟩ := S.own h; exact ⟨p, xs, h1, h2, h5⟩
  · obtain ⟨p, xs, h1, h2, _, _, h5⟩ := S.pown h; exact ⟨p, xs, h1, h2, h5⟩
theorem lstIn.get {B : Base} {F H : Hp} {σ : L2.St} {a : AV} {ds : List PyData} {v : V} (S : Stt K b B F H σ δ) (h : lstIn a δ ds) (r : VR K F σ v a) : ∃ p xs, v = .ref p ∧ SqL K H p xs ∧ DpAll K F xs ds := by
  rcases h with rfl | ⟨i, rfl, h⟩
  · cases r with
    | lst h1 h2 => exact ⟨_, _, rfl, S.sub.l h1, h2⟩
  · obtain ⟨p, xs, h1, h2, h5⟩ := S.any h
    have : some (some v) = some (some (V.ref p)) := (show σ[i]? = some (some v) from r).symm.trans h1
    cases this
    exact ⟨p, xs, rfl, .inl (.inl h2), h5⟩
theorem seqIn.get {B : Base} {F H : Hp} {σ : L2.St} {a : AV} {ds : List PyData} {v : V} (S : Stt K b B F H σ δ) (h : seqIn a δ ds) (r : VR K F σ v a) : ∃ p xs, v = .ref p ∧ (SqL K H p xs ∨ SqT K H p xs) ∧ DpAll K F xs ds := by
  rcases h with rfl | rfl | ⟨i, rfl, h⟩
  · cases r with
    | lst h1 h2 => exact ⟨_, _, rfl, .inl (S.sub.l h1), h2⟩
  · cases r with
    | tup h1 h2 => exact ⟨_, _, rfl, .inr (S.sub.t h1), h2⟩
  · obtain ⟨p, xs, h1, h2, h5⟩ := S.any h
    have : some (some v) = some (some (V.ref p)) := (show σ[i]? = some (some v) from r).symm.trans h1
    cases this
    exact ⟨p, xs, rfl, .inl (.inl (.inl h2)), h5⟩

/-! ### operators -/
/-- two operands, both data -/
theorem de_bin {r : R2} (h : De K b ta δ fun x δ1 => De K b tb δ1 fun y δ2 => ∃ d e z, x = .d d ∧ y = .d e ∧ R (.d z) δ2 ∧ ∀ (F H : Hp) (v w : V) (Q : VK), Ex F H → Dp K F v d → Dp K F w e → (∀ w', Dp K F w' z → Q w' H) → r v w H Q) : De K b (tOp r ta tb) δ R :=
  fun B F H σ S Q q => h B F H σ S _ fun v F1 H1 x δ1 r1 S1 e1 v1 => r1 B F1 H1 σ S1 _ fun w F2 H2 y δ2 r2 S2 e2 v2 => by
    obtain ⟨d, e, z, rfl, rfl, k, f⟩ := r2
    exact f F2 H2 v w Q S2.sub (VR.mono e2 v1) v2 fun w' hw => q w' F2 H2 _ δ2 k S2 (e1.trans e2) hw
theorem de_I0 {f : Int → Int → Int} (h : De K b ta δ fun x δ1 => De K b tb δ1 fun y δ2 => ∃ i, x = .d (.int i) ∧ ∃ j, y = .d (.int j) ∧ R (.d (.int (f i j))) δ2) : De K b (tOp (rI0 fun i j => .int (f i j)) ta tb) δ R :=
  fun B F H σ S Q q => h B F H σ S _ fun v F1 H1 x δ1 r1 S1 e1 v1 => r1 B F1 H1 σ S1 _ fun w F2 H2 y δ2 r2 S2 e2 v2 => by
    obtain ⟨i, rfl, j, rfl, k⟩ := r2
    cases v1; cases v2
    exact ⟨i, j, rfl, rfl, q _ F2 H2 _ δ2 k S2 (e1.trans e2) (.int _)⟩
theorem de_IC {C : Int → Int → Prop} {f : Int → Int → Int} (h : De K b ta δ fun x δ1 => De K b tb δ1 fun y δ2 => ∃ i, x = .d (.int i) ∧ ∃ j, y = .d (.int j) ∧ C i j ∧ R (.d (.int (f i j))) δ2) : De K b (tOp (rI C fun i j => .int (f i j)) ta tb) δ R :=
  fun B F H σ S Q q => h B F H σ S _ fun v F1 H1 x δ1 r1 S1 e1 v1 => r1 B F1 H1 σ S1 _ fun w F2 H2 y δ2 r2 S2 e2 v2 => by
    obtain ⟨i, rfl, j, rfl, c, k⟩ := r2
    cases v1; cases v2
    exact ⟨i, j, rfl, rfl, c, q _ F2 H2 _ δ2 k S2 (e1.trans e2) (.int _)⟩
theorem de_B0 {f : Int → Int → Bool} (h : De K b ta δ fun x δ1 => De K b tb δ1 fun y δ2 => ∃ i, x = .d (.int i) ∧ ∃ j, y = .d (.int j) ∧ R (.d (.bool (f i j))) δ2) : De K b (tOp (rI0 fun i j => .bl (f i j)) ta tb) δ R :=
  fun B F H σ S Q q => h B F H σ S _ fun v F1 H1 x δ1 r1 S1 e1 v1 => r1 B F1 H1 σ S1 _ fun w F2 H2 y δ2 r2 S2 e2 v2 => by
    obtain ⟨i, rfl, j, rfl, k⟩ := r2
    cases v1; cases v2
    exact ⟨i, j, rfl, rfl, q _ F2 H2 _ δ2 k S2 (e1.trans e2) (.bl _)⟩
/-- == and != of data -/
theorem de_eq (h : Dd K b ta δ fun x δ1 => Dd K b tb δ1 fun y δ2 => SeqAt.shaped x = true ∧ SeqAt.shaped y = true ∧ R (.d (.bool (PyData.eqv x y))) δ2) : De K b (tOp (rEqD K) ta tb) δ R :=
  fun B F H σ S Q q => h B F H σ S _ fun v F1 H1 x δ1 r1 S1 e1 v1 => r1 B F1 H1 σ S1 _ fun w F2 H2 y δ2 r2 S2 e2 v2 => by
    obtain ⟨s1, s2, k⟩ := r2
    exact ⟨x, y, Dp.mono (e2.trans S2.sub) v1, Dp.mono S2.sub v2, s1, s2, q _ F2 H2 _ δ2 k S2 (e1.trans e2) (.bl _)⟩
theorem de_ne (h : Dd K b ta δ fun x δ1 => Dd K b tb δ1 fun y δ2 => SeqAt.shaped x = true ∧ SeqAt.shaped y = true ∧ R (.d (.bool (!PyData.eqv x y))) δ2) : De K b (tOp (rNeD K) ta tb) δ R :=
  fun B F H σ S Q q => h B F H σ S _ fun v F1 H1 x δ1 r1 S1 e1 v1 => r1 B F1 H1 σ S1 _ fun w F2 H2 y δ2 r2 S2 e2 v2 => by
    obtain ⟨s1, s2, k⟩ := r2
    exact ⟨x, y, Dp.mono (e2.trans S2.sub) v1, Dp.mono S2.sub v2, s1, s2, q _ F2 H2 _ δ2 k S2 (e1.trans e2) (.bl _)⟩
/-- is None, is not None -/
def rIsN : R2 := fun x y H Q => y = .non ∧ Q (.bl (decide (x = .non))) H
def rNotN : R2 := fun x y H Q => y = .non ∧ Q (.bl (!decide (x = .non))) H
def isN : PyData → Bool
  | .none => true
  | _ => false
theorem isN_dp {F : Hp} {v : V} {d : PyData} (h : Dp K F v d) : decide (v = .non) = isN d := by
  cases h <;> first | rfl | exact decide_eq_false (fun z => by cases z)
theorem de_isN (h : Dd K b ta δ fun x δ1 => R (.d (.bool (isN x))) δ1) : De K b (tOp rIsN ta (tC .non)) δ R :=
  fun B F H σ S Q q => h B F H σ S _ fun v F1 H1 x δ1 r1 S1 e1 v1 => ⟨rfl, q _ F1 H1 _ δ1 r1 S1 e1 (by rw [isN_dp v1]; exact .bl _)⟩
theorem de_notN (h : Dd K b ta δ fun x δ1 => R (.d (.bool (!isN x))) δ1) : De K b (tOp rNotN ta (tC .non)) δ R :=
  fun B F H σ S Q q => h B F H σ S _ fun v F1 H1 x δ1 r1 S1 e1 v1 => ⟨rfl, q _ F1 H1 _ δ1 r1 S1 e1 (by rw [isN_dp v1]; exact .bl _)⟩
theorem de_U {f : Int → Int} (h : De K b ta δ fun x δ1 => ∃ i, x = .d (.int i) ∧ R (.d (.int (f i))) δ1) : De K b (tUn (rU fun i => .int (f i)) ta) δ R :=
  fun B F H σ S Q q => h B F H σ S _ fun v F1 H1 x δ1 r1 S1 e1 v1 => by
    obtain ⟨i, rfl, k⟩ := r1
    cases v1
    exact ⟨i, rfl, q _ F1 H1 _ δ1 k S1 e1 (.int _)⟩
/-- xs[i] of a list or a tuple -/
def rIxS (K : Fg) : R2 := fun x y H Q => rIxL K x y H Q ∨ rIxT K x y H Q
theorem ix_sq {X : Cx} : IxR X (rIxS X.K) := ix_list.or ix_tup
theorem atI_all {F : Hp} {xs : List V} {ds : List PyData} {n : Int} {d : PyData} (h : DpAll K F xs ds) (e : atI ds n = some d) : ∃ v, atI xs n = some v ∧ Dp K F v d := by
  unfold atI at e ⊢
  rw [DpAll.length h]
  cases q : ixN ds.length n with
  | none => rw [q] at e; cases e
  | some j =>
    rw [q] at e
    obtain ⟨v, h1, h2⟩ := DpAll.get h (show ds[j]? = some d from e)
    exact ⟨v, h1, h2⟩
theorem de_ix (h : De K b ta δ fun x δ1 => De K b tb δ1 fun y δ2 => ∃ xs, seqIn x δ2 xs ∧ ∃ n, y = .d (.int n) ∧ ∃ d, atI xs n = some d ∧ R (.d d) δ2) : De K b (tOp (rIxS K) ta tb) δ R :=
  fun B F H σ S Q q => h B F H σ S _ fun v F1 H1 x δ1 r1 S1 e1 v1 => r1 B F1 H1 σ S1 _ fun w F2 H2 y δ2 r2 S2 e2 v2 => by
    obtain ⟨ds, h1, n, rfl, d, h2, k⟩ := r2
    cases v2
    obtain ⟨p, xs, rfl, h3, h4⟩ := h1.get S2 (VR.mono e2 v1)
    obtain ⟨v', g1, g2⟩ := atI_all h4 h2
    have fin : Q v' H2 := q _ F2 H2 _ δ2 k S2 (e1.trans e2) g2
    rcases h3 with h3 | h3
    · exact .inl ⟨p, xs, n, v', rfl, rfl, h3, g1, fin⟩
    · exact .inr ⟨p, xs, n, v', rfl, rfl, h3, g1, fin⟩
/-- x in (a, b, ..): flat items -/
def flatD : PyData → Bool
  | .none => true
  | .bool _ => true
  | .int _ => true
  | .str _ => true
  | _ => false
def eqD : PyData → PyData → Bool
  | .int a, .int b => a == b
  | .str a, .str b => a == b
  | .bool a, .bool b => a == b
  | .none, .none => true
  | _, _ => false
end
end Ab

set_option Elab.async false
set_option linter.all false
set_option maxRecDepth 100000
set_option maxHeartbeats 2000000
namespace Ab
open PySem PySem.Spec PyProof.Rows L2
section
variable {K : Fg} {b : Option Addr} {δ : LS} {te ta tb tc : TE} {t u : TT} {R : AV → LS → Prop}

theorem any_ints (n : Int) : ∀ ns : List Int, ((ns.map V.int).any fun y => eqV y (V.int n)) = ns.any (fun m => m == n)
  | [] => rfl
  | m :: ns => by
    rw [List.map_cons, List.any_cons, List.any_cons, any_ints n ns]
    rfl
theorem flat_ints : ∀ ns : List Int, (ns.map V.int).all flatV = true
  | [] => rfl
  | m :: ns => by rw [List.map_cons, List.all_cons, flat_ints ns]; rfl
theorem de_inI {neg : Bool} (h : De K b ta δ fun x δ1 => De K b tb δ1 fun y δ2 => ∃ n, x = .d (.int n) ∧ ∃ ns : List Int, seqIn y δ2 (ns.map PyData.int) ∧ R (.d (.bool (if neg then !ns.any (fun m => m == n) else ns.any (fun m => m == n)))) δ2) : De K b (tOp (rIn K neg) ta tb) δ R :=
  fun B F H σ S Q q => h B F H σ S _ fun v F1 H1 x δ1 r1 S1 e1 v1 => r1 B F1 H1 σ S1 _ fun w F2 H2 y δ2 r2 S2 e2 v2 => by
    obtain ⟨n, rfl, ns, h1, k⟩ := r2
    cases v1
    obtain ⟨p, xs, rfl, h3, h4⟩ := h1.get S2 v2
    have e := DpAll.ints_eq h4
    subst e
    refine ⟨p, _, rfl, h3, rfl, flat_ints ns, ?_⟩
    have e2 : inV (V.int n) (ns.map V.int) = ns.any (fun m => m == n) := any_ints n ns
    rw [e2]
    exact q _ F2 H2 _ δ2 k S2 (e1.trans ‹_›) (.bl _)

/-! ### tests -/
theorem dt_test {R : Bool → LS → Prop} (h : De K b te δ fun x δ1 => ∃ c, x = .d (.bool c) ∧ R c δ1) : Dt K b (tTest te) δ R :=
  fun B F H σ S Q q => h B F H σ S _ fun v F1 H1 x δ1 r1 S1 e1 v1 => by
    obtain ⟨c, rfl, k⟩ := r1
    cases v1
    exact ⟨c, rfl, q c F1 H1 δ1 k S1 e1⟩
theorem dt_B {R : Bool → LS → Prop} (h : De K b te δ fun x δ1 => ∃ c, x = .d (.bool c) ∧ R c δ1) : Dt K b (tB te) δ R :=
  fun B F H σ S Q q => h B F H σ S _ fun v F1 H1 x δ1 r1 S1 e1 v1 => by
    obtain ⟨c, rfl, k⟩ := r1
    cases v1
    exact ⟨c, rfl, q c F1 H1 δ1 k S1 e1⟩
theorem dt_and {R : Bool → LS → Prop} (h : Dt K b t δ fun c δ1 => if c = true then Dt K b u δ1 R else R false δ1) : Dt K b (tAnd t u) δ R :=
  fun B F H σ S Q q => h B F H σ S _ fun c F1 H1 δ1 r1 S1 e1 => by
    cases c with
    | true =>
      show u σ H1 Q
      exact r1 B F1 H1 σ S1 Q fun c F2 H2 δ2 r2 S2 e2 => q c F2 H2 δ2 r2 S2 (e1.trans e2)
    | false =>
      show Q false H1
      exact q false F1 H1 δ1 r1 S1 e1
theorem dt_or {R : Bool → LS → Prop} (h : Dt K b t δ fun c δ1 => if c = true then R true δ1 else Dt K b u δ1 R) : Dt K b (tOr t u) δ R :=
  fun B F H σ S Q q => h B F H σ S _ fun c F1 H1 δ1 r1 S1 e1 => by
    cases c with
    | true =>
      show Q true H1
      exact q true F1 H1 δ1 r1 S1 e1
    | false =>
      show u σ H1 Q
      exact r1 B F1 H1 σ S1 Q fun c F2 H2 δ2 r2 S2 e2 => q c F2 H2 δ2 r2 S2 (e1.trans e2)
theorem dt_not {R : Bool → LS → Prop} (h : Dt K b t δ fun c δ1 => R (!c) δ1) : Dt K b (tNot t) δ R :=
  fun B F H σ S Q q => h B F H σ S _ fun c F1 H1 δ1 r1 S1 e1 => q _ F1 H1 δ1 r1 S1 e1
theorem dt_yes {R : Bool → LS → Prop} (h : R true δ) : Dt K b tYes δ R := fun B F H σ S Q q => q true F H δ h S (Ex.refl F)
theorem de_if (h : Dt K b t δ fun c δ1 => if c = true then De K b ta δ1 R else De K b tb δ1 R) : De K b (tIf t ta tb) δ R :=
  fun B F H σ S Q q => h B F H σ S _ fun c F1 H1 δ1 r1 S1 e1 => by
    cases c with
    | true =>
      show ta σ H1 Q
      exact r1 B F1 H1 σ S1 Q fun v F2 H2 a δ2 r2 S2 e2 => q v F2 H2 a δ2 r2 S2 (e1.trans e2)
    | false =>
      show tb σ H1 Q
      exact r1 B F1 H1 σ S1 Q fun v F2 H2 a δ2 r2 S2 e2 => q v F2 H2 a δ2 r2 S2 (e1.trans e2)
theorem de_andV (h : De K b ta δ fun x δ1 => ∃ c, x = .d (.bool c) ∧ if c = true then De K b tb δ1 R else R (.d (.bool false)) δ1) : De K b (tAndV ta tb) δ R :=
  fun B F H σ S Q q => h B F H σ S _ fun v F1 H1 x δ1 r1 S1 e1 v1 => by
    obtain ⟨c, rfl, k⟩ := r1
    cases v1
    refine ⟨c, rfl, ?_⟩
    cases c with
    | true =>
      show tb σ H1 Q
      exact k B F1 H1 σ S1 Q fun v F2 H2 a δ2 r2 S2 e2 => q v F2 H2 a δ2 r2 S2 (e1.trans e2)
    | false =>
      show Q (.bl false) H1
      exact q _ F1 H1 _ δ1 k S1 e1 (.bl _)
theorem de_orV (h : De K b ta δ fun x δ1 => ∃ c, x = .d (.bool c) ∧ if c = true then R (.d (.bool true)) δ1 else De K b tb δ1 R) : De K b (tOrV ta tb) δ R :=
  fun B F H σ S Q q => h B F H σ S _ fun v F1 H1 x δ1 r1 S1 e1 v1 => by
    obtain ⟨c, rfl, k⟩ := r1
    cases v1
    refine ⟨c, rfl, ?_⟩
    cases c with
    | true =>
      show Q (.bl true) H1
      exact q _ F1 H1 _ δ1 k S1 e1 (.bl _)
    | false =>
      show tb σ H1 Q
      exact k B F1 H1 σ S1 Q fun v F2 H2 a δ2 r2 S2 e2 => q v F2 H2 a δ2 r2 S2 (e1.trans e2)
theorem de_notV (h : De K b ta δ fun x δ1 => ∃ c, x = .d (.bool c) ∧ R (.d (.bool (!c))) δ1) : De K b (tNotV ta) δ R :=
  fun B F H σ S Q q => h B F H σ S _ fun v F1 H1 x δ1 r1 S1 e1 v1 => by
    obtain ⟨c, rfl, k⟩ := r1
    cases v1
    exact ⟨c, rfl, q _ F1 H1 _ δ1 k S1 e1 (.bl _)⟩

/-! ### arguments, displays -/
theorem da_nil {R : List PyData → LS → Prop} (k : R [] δ) : Da K b tNil δ R := fun B F H σ S Q q => q [] F H [] δ k S (Ex.refl F) .nil
theorem da_cons {tr : TA} {R : List PyData → LS → Prop} (h : De K b te δ (toD fun x δ1 => Da K b tr δ1 fun xs δ2 => R (x :: xs) δ2)) : Da K b (tCons te tr) δ R :=
  fun B F H σ S Q q => (dd_of h) B F H σ S _ fun v F1 H1 x δ1 r1 S1 e1 v1 => r1 B F1 H1 σ S1 _ fun vs F2 H2 ds δ2 r2 S2 e2 v2 => q _ F2 H2 _ δ2 r2 S2 (e1.trans e2) (.cons (Dp.mono e2 v1) v2)
theorem sz_of {n : Nat} (h : n ≤ 100000) : n ≤ sizeLine := Nat.le_trans h (by decide)
theorem sz_lt {n : Nat} (h : n < 100000) : n < sizeLine := Nat.lt_of_lt_of_le h (by decide)
/-- the two lines of a new tuple -/
theorem Stt.newT {B : Base} {F H : Hp} {σ : L2.St} (S : Stt K b B F H σ δ) {p : Addr} {xs : List V} {ds : List PyData} (hp : H p = none) (h : DpAll K F xs ds) :
    Stt K b B (upd F p (.tup xs)) (upd H p (.tup xs)) σ δ ∧ Ex F (upd F p (.tup xs)) ∧ Dp K (upd F p (.tup xs)) (.ref p) (.tuple ds) := by
  have g : Gr none F H (upd F p (.tup xs)) (upd H p (.tup xs)) := Gr.new S.sub hp
  exact ⟨S.step g, g.ex, .tup (.inl (.inl upd_same)) (DpAll.mono g.ex h)⟩
theorem de_tup {tr : TA} (h : Da K b tr δ fun ds δ1 => ds.length ≤ 100000 ∧ R (.d (.tuple ds)) δ1) : De K b (tTup tr) δ R :=
  fun B F H σ S Q q => h B F H σ S _ fun vs F1 H1 ds δ1 r1 S1 e1 v1 => by
    obtain ⟨hl, k⟩ := r1
    refine ⟨sz_of (by rw [DpAll.length v1]; exact hl), fun p hp => ?_⟩
    obtain ⟨S2, e2, d2⟩ := S1.newT hp v1
    exact q _ _ _ _ δ1 k S2 (e1.trans e2) d2
/-- a new list's lines -/
theorem Stt.newL {B : Base} {F H : Hp} {σ : L2.St} (S : Stt K b B F H σ δ) {p : Addr} {xs : List V} {ds : List PyData} (hp : H p = none) (h : DpAll K F xs ds) :
    Stt K b B F (upd H p (.lst xs)) σ δ ∧ New K B F (upd H p (.lst xs)) σ δ p xs ds := by
  have hf : F p = none := S.sub.back hp
  have g : Gr none F H F (upd H p (.lst xs)) := Gr.newH S.sub hp
  refine ⟨S.step g, upd_same, hf, ?_, fun i s hs mt hq => ?_, h⟩
  · cases q : B.H p with
    | none => rfl
    | some o =>
      cases r : B.F p with
      | none => 
        obtain ⟨_, _, o', z⟩ := S.gr.keep p o r q
        rw [hp] at z; cases z
      | some u =>
        have := S.gr.sub p u (S.gr.ex p u r)
        rw [hp] at this; cases this
  · have x := S.ok i s hs
    cases s with
    | no => cases mt
    | dat d => cases mt
    | own ds => obtain ⟨a, _, h1, h2, _⟩ := x; rw [hq] at h1; cases h1; rw [hp] at h2; cases h2
    | dic ds => obtain ⟨a, _, h1, h2, _⟩ := x; rw [hq] at h1; cases h1; rw [hp] at h2; cases h2
    | dit ds => obtain ⟨a, _, h1, h2, _⟩ := x; rw [hq] at h1; cases h1; rw [hp] at h2; cases h2
    | pown ds => obtain ⟨a, _, h1, h2, _⟩ := x; rw [hq] at h1; cases h1; rw [hp] at h2; cases h2
    | pool => obtain ⟨a, h1, _, _, _, _, _, _, _, _, h2, _⟩ := x; rw [hq] at h1; cases h1; rw [hp] at h2; cases h2
theorem dn_lst {tr : TA} {R : List PyData → LS → Prop} (h : Da K b tr δ fun ds δ1 => ds.length ≤ 100000 ∧ R ds δ1) : Dn K b (tLst tr) δ R :=
  fun B F H σ S Q q => h B F H σ S _ fun vs F1 H1 ds δ1 r1 S1 e1 v1 => by
    obtain ⟨hl, k⟩ := r1
    refine ⟨sz_of (by rw [DpAll.length v1]; exact hl), fun p hp => ?_⟩
    obtain ⟨S2, N⟩ := S1.newL hp v1
    exact q p vs F1 _ ds δ1 k S2 e1 N

/-! ### calls of defs -/
/-- a def upon data: φ ds k, what is asked of the arguments so that each answer keeps k -/
def spP (K : Fg) (φ : List PyData → (PyData → Prop) → Prop) : Sp := fun vs H Q _ => ∃ (F : Hp) (ds : List PyData) (k : PyData → Prop), Ex F H ∧ DpAll K F vs ds ∧ φ ds k ∧ ∀ v F2 H2 d, k d → Gr none F H F2 H2 → Dp K F2 v d → Q v H2
theorem de_call {φ : List PyData → (PyData → Prop) → Prop} {E : XK} {tr : TA} (h : Da K b tr δ fun ds δ1 => φ ds fun d => R (.d d) δ1) : De K b (tCall (spP K φ) [] E tr) δ R :=
  fun B F H σ S Q q => h B F H σ S _ fun vs F1 H1 ds δ1 r1 S1 e1 v1 => by
    refine ⟨F1, ds, _, S1.sub, (by rw [List.append_nil]; exact v1), r1, fun v F2 H2 d hd g dp => ?_⟩
    exact q v F2 H2 _ δ1 hd (S1.step g) (e1.trans g.ex) dp
/-- a def whose first argument is the law's pool -/
def spPP (K : Fg) (φ : List PyData → (PyData → Prop) → Prop) : Sp := fun vs H Q _ => ∃ (F : Hp) (p : Addr) (vs' : List V) (ds : List PyData) (k : PyData → Prop), Ex F H ∧ vs = .ref p :: vs' ∧ PoolAt K F H p ∧ DpAll K F vs' ds ∧ φ ds k ∧
  ∀ v F2 H2 d, k d → Gr (some p) F H F2 H2 → (∀ q o, H q = some o → q ≠ p → H2 q = some o) → PoolAt K F2 H2 p → Dp K F2 v d → Q v H2
theorem de_callP {φ : List PyData → (PyData → Prop) → Prop} {E : XK} {tr : TA} {i : Nat} (hi : δ[i]? = some .pool) (h : Da K b tr δ fun ds δ1 => δ1[i]? = some .pool ∧ φ ds fun d => R (.d d) δ1) :
    De K b (tCall (spPP K φ) [] E (tCons (tVar i) tr)) δ R := fun B F H σ S Q q => by
  obtain ⟨p, h1, h2, h3⟩ := S.ok i _ hi
  refine ⟨.ref p, slot_some h1, h B F H σ S _ fun vs F1 H1 ds δ1 r1 S1 e1 v1 => ?_⟩
  obtain ⟨hp, k⟩ := r1
  obtain ⟨p', g1, g2, g3⟩ := S1.ok i _ hp
  have : some (V.ref p') = some (V.ref p) := g1.symm.trans h1
  cases this
  refine ⟨F1, p, vs, ds, _, S1.sub, (by rw [List.append_nil]), g3, v1, k, fun v F2 H2 d hd g ot pa dp => ?_⟩
  refine q v F2 H2 _ δ1 hd ⟨g.sub, ?_, S1.len, fun j s hs => ?_, S1.ap⟩ (e1.trans g.ex) dp
  · rw [h2] at *
    exact S1.gr.trans g
  · by_cases c : s.mut = true ∧ slot σ j = some (.ref p)
    · by_cases e : j = i
      · subst e
        rw [hp] at hs
        cases hs
        exact ⟨p, g1, h2, pa⟩
      · exact absurd g1 (S1.ap j i s _ p e hs hp c.1 rfl c.2)
    · refine (S1.ok j s hs).mono g.ex fun q' u mt hq z1 z2 => ?_
      have ne : q' ≠ p := by
        rintro rfl
        exact c ⟨mt, hq⟩
      exact ⟨(g.keep q' u z1 z2).1, ot q' u z2 ne⟩
def φ_law_draw (ds : List PyData) (k : PyData → Prop) : Prop := ∃ m : Int, ds = [.int m] ∧ 0 < m ∧ m.natAbs < 2 ^ 200 ∧ ∀ r : Int, 0 ≤ r → r < m → k (.int r)

/-! ### built-ins -/
def rLenS (K : Fg) : List V → Hp → VK → Prop := fun xs H Q => ∃ p ys, xs = [.ref p] ∧ (SqL K H p ys ∨ SqT K H p ys) ∧ Q (.int ys.length) H
theorem cr_len {X : Cx} : CallR X (.builtin "len") (rLenS X.K) := call_len_seq
theorem de_len (h : De K b te δ fun a δ1 => ∃ xs, seqIn a δ1 xs ∧ R (.d (.int (xs.length : Int))) δ1) : De K b (tCB (rLenS K) (tCons te tNil)) δ R :=
  fun B F H σ S Q q => h B F H σ S _ fun v F1 H1 x δ1 r1 S1 e1 v1 => by
    obtain ⟨ds, h1, k⟩ := r1
    obtain ⟨p, xs, rfl, h3, h4⟩ := h1.get S1 v1
    refine ⟨p, xs, rfl, h3, ?_⟩
    rw [DpAll.length h4]
    exact q _ F1 H1 _ δ1 k S1 e1 (.int _)
def rInt1 : List V → Hp → VK → Prop := fun xs H Q => (∃ i, xs = [.int i] ∧ Q (.int i) H) ∨ ∃ k, xs = [.bl k] ∧ Q (.int (if k then 1 else 0)) H
theorem cr_int {X : Cx} : CallR X (.type "int") rInt1 := call_int1
theorem de_int (h : De K b te δ fun a δ1 => ∃ n, a = .d (.int n) ∧ R (.d (.int n)) δ1) : De K b (tCB rInt1 (tCons te tNil)) δ R :=
  fun B F H σ S Q q => h B F H σ S _ fun v F1 H1 x δ1 r1 S1 e1 v1 => by
    obtain ⟨n, rfl, k⟩ := r1
    cases v1
    exact .inl ⟨n, rfl, q _ F1 H1 _ δ1 k S1 e1 (.int _)⟩
def rAbs : List V → Hp → VK → Prop := fun xs H Q => ∃ i, xs = [.int i] ∧ Q (.int (if i < 0 then -i else i)) H
theorem cr_abs {X : Cx} : CallR X (.builtin "abs") rAbs := call_abs
theorem de_abs (h : De K b te δ fun a δ1 => ∃ n, a = .d (.int n) ∧ R (.d (.int (n.natAbs : Int))) δ1) : De K b (tCB rAbs (tCons te tNil)) δ R :=
  fun B F H σ S Q q => h B F H σ S _ fun v F1 H1 x δ1 r1 S1 e1 v1 => by
    obtain ⟨n, rfl, k⟩ := r1
    cases v1
    refine ⟨n, rfl, ?_⟩
    have e : (if n < 0 then -n else n) = (n.natAbs : Int) := by split <;> omega
    rw [e]
    exact q _ F1 H1 _ δ1 k S1 e1 (.int _)
def gcdI (a b : Int) : Int := ((Nat.gcd a.natAbs b.natAbs : Nat) : Int)
theorem de_gcd (h : De K b ta δ fun x δ1 => De K b tb δ1 fun y δ2 => ∃ n, x = .d (.int n) ∧ ∃ m, y = .d (.int m) ∧ R (.d (.int (gcdI n m))) δ2) : De K b (tCB rGcd (tCons ta (tCons tb tNil))) δ R :=
  fun B F H σ S Q q => h B F H σ S _ fun v F1 H1 x δ1 r1 S1 e1 v1 => r1 B F1 H1 σ S1 _ fun w F2 H2 y δ2 r2 S2 e2 v2 => by
    obtain ⟨n, rfl, m, rfl, k⟩ := r2
    cases v1; cases v2
    exact ⟨n, m, rfl, q _ F2 H2 _ δ2 k S2 (e1.trans e2) (.int _)⟩
def rMin2 : List V → Hp → VK → Prop := fun xs H Q => ∃ i j, xs = [.int i, .int j] ∧ Q (.int (if j < i then j else i)) H
def rMax2 : List V → Hp → VK → Prop := fun xs H Q => ∃ i j, xs = [.int i, .int j] ∧ Q (.int (if j > i then j else i)) H
theorem cr_min2 {X : Cx} (hc : X.calm = true) : CallR X (.builtin "min") rMin2 := call_min2 hc
theorem cr_max2 {X : Cx} (hc : X.calm = true) : CallR X (.builtin "max") rMax2 := call_max2 hc
theorem de_min2 (h : De K b ta δ fun x δ1 => De K b tb δ1 fun y δ2 => ∃ n, x = .d (.int n) ∧ ∃ m, y = .d (.int m) ∧ R (.d (.int (min n m))) δ2) : De K b (tCB rMin2 (tCons ta (tCons tb tNil))) δ R :=
  fun B F H σ S Q q => h B F H σ S _ fun v F1 H1 x δ1 r1 S1 e1 v1 => r1 B F1 H1 σ S1 _ fun w F2 H2 y δ2 r2 S2 e2 v2 => by
    obtain ⟨n, rfl, m, rfl, k⟩ := r2
    cases v1; cases v2
    refine ⟨n, m, rfl, ?_⟩
    have e : (if m < n then m else n) = min n m := by split <;> omega
    rw [e]
    exact q _ F2 H2 _ δ2 k S2 (e1.trans e2) (.int _)
theorem de_max2 (h : De K b ta δ fun x δ1 => De K b tb δ1 fun y δ2 => ∃ n, x = .d (.int n) ∧ ∃ m, y = .d (.int m) ∧ R (.d (.int (max n m))) δ2) : De K b (tCB rMax2 (tCons ta (tCons tb tNil))) δ R :=
  fun B F H σ S Q q => h B F H σ S _ fun v F1 H1 x δ1 r1 S1 e1 v1 => r1 B F1 H1 σ S1 _ fun w F2 H2 y δ2 r2 S2 e2 v2 => by
    obtain ⟨n, rfl, m, rfl, k⟩ := r2
    cases v1; cases v2
    refine ⟨n, m, rfl, ?_⟩
    have e : (if m > n then m else n) = max n m := by split <;> omega
    rw [e]
    exact q _ F2 H2 _ δ2 k S2 (e1.trans e2) (.int _)
theorem de_sum (h : De K b te δ fun a δ1 => ∃ ns : List Int, lstIn a δ1 (ns.map PyData.int) ∧ R (.d (.int ns.sum)) δ1) : De K b (tCB (rSum K) (tCons te tNil)) δ R :=
  fun B F H σ S Q q => h B F H σ S _ fun v F1 H1 x δ1 r1 S1 e1 v1 => by
    obtain ⟨ns, h1, k⟩ := r1
    obtain ⟨p, xs, rfl, h3, h4⟩ := h1.get S1 v1
    have e := DpAll.ints_eq h4
    subst e
    exact ⟨p, ns, rfl, h3, q _ F1 H1 _ δ1 k S1 e1 (.int _)⟩
/-- list(xs): a new list -/
def rListS (K : Fg) : List V → Hp → VK → Prop := fun xs H Q => ∃ p ys, xs = [.ref p] ∧ (SqL K H p ys ∨ SqT K H p ys) ∧ ∀ l, H l = none → Q (.ref l) (upd H l (.lst ys))
theorem cr_list {X : Cx} : CallR X (.type "list") (rListS X.K) := call_list_of
theorem dn_list {R : List PyData → LS → Prop} (h : De K b te δ fun a δ1 => ∃ xs, seqIn a δ1 xs ∧ R xs δ1) : Dn K b (tCB (rListS K) (tCons te tNil)) δ R :=
  fun B F H σ S Q q => h B F H σ S _ fun v F1 H1 x δ1 r1 S1 e1 v1 => by
    obtain ⟨ds, h1, k⟩ := r1
    obtain ⟨p, xs, rfl, h3, h4⟩ := h1.get S1 v1
    refine ⟨p, xs, rfl, h3, fun l hl => ?_⟩
    obtain ⟨S2, N⟩ := S1.newL hl h4
    exact q l xs F1 _ ds δ1 k S2 e1 N
/-- tuple(xs) -/
def rTupS (K : Fg) : List V → Hp → VK → Prop := fun xs H Q => ∃ p ys, xs = [.ref p] ∧ ((SqL K H p ys ∧ ∀ l, H l = none → Q (.ref l) (upd H l (.tup ys))) ∨ (SqT K H p ys ∧ Q (.ref p) H))
theorem cr_tup {X : Cx} : CallR X (.type "tuple") (rTupS X.K) := call_tuple_of
theorem de_tupOf (h : De K b te δ fun a δ1 => ∃ xs, lstIn a δ1 xs ∧ R (.d (.tuple xs)) δ1) : De K b (tCB (rTupS K) (tCons te tNil)) δ R :=
  fun B F H σ S Q q => h B F H σ S _ fun v F1 H1 x δ1 r1 S1 e1 v1 => by
    obtain ⟨ds, h1, k⟩ := r1
    obtain ⟨p, xs, rfl, h3, h4⟩ := h1.get S1 v1
    refine ⟨p, xs, rfl, .inl ⟨h3, fun l hl => ?_⟩⟩
    obtain ⟨S2, e2, d2⟩ := S1.newT hl h4
    exact q _ _ _ _ δ1 k S2 (e1.trans e2) d2
end
end Ab

set_option Elab.async false
set_option linter.all false
set_option maxRecDepth 100000
set_option maxHeartbeats 2000000
namespace Ab
open PySem PySem.Spec PyProof.Rows L2
section
variable {K : Fg} {b : Option Addr} {δ : LS} {te ta tb tc : TE} {t u : TT} {P : Po} {ts tu tw tz : TS} {g : TG}

/-! ### statements -/
theorem ds_seq (h : Ds K b ts δ { P with nx := fun δ' => Ds K b tu δ' P }) : Ds K b (tSeq ts tu) δ P := fun B F H σ D S E =>
  h B F H σ { D with nx := tu D } S ⟨fun F2 H2 σ2 δ2 h2 S2 e => h2 B F2 H2 σ2 D S2 (E.mono e), E.rt, E.bk, E.ct, E.rn, E.rs⟩
theorem ds_next (h : P.nx δ) : Ds K b tNext δ P := fun B F H σ D S E => E.nx F H σ δ h S (Ex.refl F)
theorem ds_brk (h : P.bk δ) : Ds K b tBreak δ P := fun B F H σ D S E => E.bk F H σ δ h S (Ex.refl F)
theorem ds_cont (h : P.ct δ) : Ds K b tCont δ P := fun B F H σ D S E => E.ct F H σ δ h S (Ex.refl F)
theorem ds_ret (h : De K b te δ (toD fun d _ => P.rt d)) : Ds K b (tRet te) δ P := fun B F H σ D S E =>
  (dd_of h) B F H σ S _ fun v F2 H2 d δ2 r S2 e dp => E.rt v F2 H2 d r S2.gr dp
theorem ds_retF (h : Dn K b te δ fun ds _ => P.rn ds) : Ds K b (tRet te) δ P := fun B F H σ D S E =>
  h B F H σ S _ fun p xs F2 H2 ds δ2 r S2 e N => E.rn p xs F2 H2 σ δ2 ds r S2 N
theorem ds_retS (h : De K b te δ (toD fun d δ1 => P.rs d δ1)) : Ds K b (tRet te) δ P := fun B F H σ D S E =>
  (dd_of h) B F H σ S _ fun v F2 H2 d δ2 r S2 e dp => E.rs v F2 H2 d σ δ2 r S2 dp
theorem ds_retN (h : P.rt .none) : Ds K b tRetN δ P := fun B F H σ D S E => E.rt .non F H .none h S.gr .non
theorem ds_if (h : Dt K b t δ fun c δ1 => if c = true then Ds K b tu δ1 P else Ds K b tw δ1 P) : Ds K b (tIfS t tu tw) δ P := fun B F H σ D S E =>
  h B F H σ S _ fun c F1 H1 δ1 r1 S1 e1 => by
    cases c with
    | true =>
      show tu D σ H1
      exact r1 B F1 H1 σ D S1 (E.mono e1)
    | false =>
      show tw D σ H1
      exact r1 B F1 H1 σ D S1 (E.mono e1)
theorem ds_drop (h : De K b te δ fun _ δ1 => P.nx δ1) : Ds K b (tDrop te) δ P := fun B F H σ D S E =>
  h B F H σ S _ fun v F1 H1 x δ1 r1 S1 e1 v1 => E.nx F1 H1 σ δ1 r1 S1 e1
/-! ### targets -/
theorem dg_name {i : Nat} {x : PyData} {R : LS → Prop} (h : R (δ.set i (.dat x))) : Dg K b (gName i) x δ R := fun B F H σ v S dp Q q =>
  q F H _ _ h (S.setD dp) (Ex.refl F)
theorem dgs_nil {R : LS → Prop} (h : R δ) : Dgs K b gNil [] δ R := fun B F H σ vs S dp Q q => by
  cases dp
  exact ⟨rfl, q F H σ δ h S (Ex.refl F)⟩
theorem dgs_cons {gs : TGs} {x : PyData} {xs : List PyData} {R : LS → Prop} (h : Dg K b g x δ fun δ1 => Dgs K b gs xs δ1 R) : Dgs K b (gCons g gs) (x :: xs) δ R := fun B F H σ vs S dp Q q => by
  cases dp with
  | cons d1 d2 => exact ⟨_, _, rfl, h B F H σ _ S d1 _ fun F2 H2 σ2 δ2 r S2 e => r B F2 H2 σ2 _ S2 (DpAll.mono e d2) Q fun F3 H3 σ3 δ3 r3 S3 e3 => q F3 H3 σ3 δ3 r3 S3 (e.trans e3)⟩
theorem dg_tup {gs : TGs} {n : Nat} {xs : List PyData} {R : LS → Prop} (hn : xs.length = n) (h : Dgs K b gs xs δ R) : Dg K b (gTup K n gs) (.tuple xs) δ R := fun B F H σ v S dp Q q => by
  cases dp with
  | tup h1 h2 => exact ⟨_, _, rfl, S.sub.t h1, (DpAll.length h2).trans hn, h B F H σ _ S h2 Q q⟩
theorem ds_asg (h : De K b te δ (toD fun x δ1 => Dg K b g x δ1 P.nx)) : Ds K b (tAsg te g) δ P := fun B F H σ D S E =>
  (dd_of h) B F H σ S _ fun v F1 H1 x δ1 r1 S1 e1 v1 => r1 B F1 H1 σ v S1 v1 _ fun F2 H2 σ2 δ2 r2 S2 e2 => E.nx F2 H2 σ2 δ2 r2 S2 (e1.trans e2)
/-- a new list, kept as one's own -/
theorem Stt.setN {B : Base} {F H : Hp} {σ : L2.St} {p : Addr} {xs : List V} {ds : List PyData} (S : Stt K b B F H σ δ) (N : New K B F H σ δ p xs ds) (i : Nat) : Stt K b B F H (σ.set i (some (.ref p))) (δ.set i (.own ds)) :=
  S.set (fun _ => ⟨p, xs, rfl, N.h, N.f, N.b, N.all⟩) (.inr fun j sj q _ hj mj hq => by
    cases hq
    exact N.ap j sj hj mj)
theorem ds_own {i : Nat} (h : Dn K b te δ fun ds δ1 => P.nx (δ1.set i (.own ds))) : Ds K b (tAsg te (gName i)) δ P := fun B F H σ D S E =>
  h B F H σ S _ fun p xs F1 H1 ds δ1 r1 S1 e1 N => E.nx F1 H1 _ _ r1 (S1.setN N i) e1
/-- x = y, a list of one's own: it moves -/
theorem ds_move {i j : Nat} {ds : List PyData} (hij : i ≠ j) (hj : δ[j]? = some (.own ds)) (h : P.nx ((δ.set j .no).set i (.own ds))) : Ds K b (tAsg (tVar j) (gName i)) δ P := fun B F H σ D S E => by
  obtain ⟨p, xs, h1, h2, h3, h4, h5⟩ := S.own hj
  refine ⟨.ref p, h1, E.nx F H _ _ h ?_ (Ex.refl F)⟩
  have S1 : Stt K b B F H (σ.set j (some (.ref p))) (δ.set j .no) := S.set (fun _ => trivial) (.inl rfl)
  have e : σ.set j (some (.ref p)) = σ := by
    apply List.ext_getElem?
    intro k
    by_cases c : j = k
    · subst c
      rw [List.getElem?_set_self (lt_of_get h1), h1]
    · rw [List.getElem?_set_ne c]
  rw [e] at S1
  refine S1.set (fun _ => ⟨p, xs, rfl, h2, h3, h4, h5⟩) (.inr fun k sk q hk hs mk hq => ?_)
  cases hq
  by_cases c : j = k
  · subst c
    rw [List.getElem?_set_self (lt_of_get hj)] at hs
    cases hs; cases mk
  · rw [List.getElem?_set_ne c] at hs
    exact S.ap j k _ sk p c hj hs rfl mk (slot_of h1)
/-- a, b = x, y -/
theorem ds_par {i j : Nat} {tr : TA} (h : Da K b tr δ fun ds δ1 => ∃ x y, ds = [x, y] ∧ P.nx ((δ1.set i (.dat x)).set j (.dat y))) : Ds K b (tPar i j tr) δ P := fun B F H σ D S E =>
  h B F H σ S _ fun vs F1 H1 ds δ1 r1 S1 e1 v1 => by
    obtain ⟨x, y, rfl, k⟩ := r1
    cases v1 with
    | cons d1 d2 => cases d2 with
      | cons d2 d3 =>
        cases d3
        exact ⟨_, _, rfl, E.nx F1 H1 _ _ k ((S1.setD d1).setD d2) e1⟩
/-- x op= e of ints -/
theorem ds_aug {i : Nat} {f : Int → Int → Int} {n : Int} (hx : δ[i]? = some (.dat (.int n))) (h : De K b te δ fun y δ1 => ∃ m, y = .d (.int m) ∧ P.nx (δ1.set i (.dat (.int (f n m))))) : Ds K b (tAug i te (ipI f)) δ P := fun B F H σ D S E => by
  obtain ⟨v, h1, h2⟩ := S.dat hx
  cases h2
  refine ⟨_, h1, h B F H σ S _ fun w F1 H1 y δ1 r1 S1 e1 v1 => ?_⟩
  obtain ⟨m, rfl, k⟩ := r1
  cases v1
  exact ⟨n, m, rfl, rfl, E.nx F1 H1 _ _ k (S1.setD (.int _)) e1⟩
def ipC (C : Int → Int → Prop) (f : Int → Int → Int) : TIp := fun x y H Q => ∃ i j, x = .int i ∧ y = .int j ∧ C i j ∧ Q (.int (f i j)) H
theorem ip_mul {X : Cx} : PIp X .Mult (ipC CMulW fun i j => i * j) := by
  intro pins s σ H x y v u Q I r1 r2 h
  obtain ⟨i, j, e1, e2, hc, q⟩ := h
  subst e1; subst e2
  obtain ⟨t, rfl⟩ := r1
  obtain ⟨t', rfl⟩ := r2
  exact imul_int ⟨.int _, H, I.tok _, ⟨_, rfl⟩, q⟩ hc.ok
theorem ip_fdiv {X : Cx} : PIp X .FloorDiv (ipC CDivW fun i j => i / j) := by
  intro pins s σ H x y v u Q I r1 r2 h
  obtain ⟨i, j, e1, e2, hc, q⟩ := h
  subst e1; subst e2
  obtain ⟨t, rfl⟩ := r1
  obtain ⟨t', rfl⟩ := r2
  have h1 : (0 : Int) < j := hc.1
  have q' : EP X pins σ Q (.int (i.fdiv j) s.toks) { s with toks := s.toks + 1 } := by
    rw [Int.fdiv_eq_ediv_of_nonneg i (by omega)]
    exact ⟨.int _, H, I.tok _, ⟨_, rfl⟩, q⟩
  exact ifloordiv_int (by omega) q' (.inl (PyProof.noPylong_of_log2 hc.2))
theorem ip_mod {X : Cx} : PIp X .Mod (ipC (fun _ j => 0 < j) fun i j => i % j) := by
  intro pins s σ H x y v u Q I r1 r2 h
  obtain ⟨i, j, e1, e2, hc, q⟩ := h
  subst e1; subst e2
  obtain ⟨t, rfl⟩ := r1
  obtain ⟨t', rfl⟩ := r2
  have h1 : (0 : Int) < j := hc
  exact imod_int (by omega) (by rw [Int.fmod_eq_emod_of_nonneg i (by omega)]; exact ⟨.int _, H, I.tok _, ⟨_, rfl⟩, q⟩)
theorem ds_augC {i : Nat} {C : Int → Int → Prop} {f : Int → Int → Int} {n : Int} (hx : δ[i]? = some (.dat (.int n))) (h : De K b te δ fun y δ1 => ∃ m, y = .d (.int m) ∧ C n m ∧ P.nx (δ1.set i (.dat (.int (f n m))))) : Ds K b (tAug i te (ipC C f)) δ P := fun B F H σ D S E => by
  obtain ⟨v, h1, h2⟩ := S.dat hx
  cases h2
  refine ⟨_, h1, h B F H σ S _ fun w F1 H1 y δ1 r1 S1 e1 v1 => ?_⟩
  obtain ⟨m, rfl, c, k⟩ := r1
  cases v1
  exact ⟨n, m, rfl, rfl, c, E.nx F1 H1 _ _ k (S1.setD (.int _)) e1⟩
/-- xs.append(e), xs one's own -/
theorem Stt.wrL {B : Base} {F H : Hp} {σ : L2.St} (S : Stt K b B F H σ δ) {i : Nat} {ds es : List PyData} {ys : List V} (h : δ[i]? = some (.own ds)) (a : DpAll K F ys es) :
    ∃ p xs, σ[i]? = some (some (.ref p)) ∧ H p = some (.lst xs) ∧ DpAll K F xs ds ∧ Stt K b B F (upd H p (.lst ys)) σ (δ.set i (.own es)) := by
  obtain ⟨p, xs, h1, h2, h3, h4, h5⟩ := S.own h
  exact ⟨p, xs, h1, h2, h5, S.wr h rfl (slot_of h1) h3 (.inl h4) ⟨_, h2⟩ rfl ⟨p, ys, rfl, upd_same, h3, h4, a⟩⟩
theorem ds_app {i : Nat} (h : De K b te δ (toD fun d δ1 => ∃ ds, δ1[i]? = some (.own ds) ∧ ds.length < 100000 ∧ P.nx (δ1.set i (.own (ds ++ [d]))))) (ho : ∃ ds, δ[i]? = some (.own ds)) : Ds K b (tDrop (tBM K "list" rAppend (tVar i) (tCons te tNil))) δ P := fun B F H σ D S E => by
  obtain ⟨ds0, h0⟩ := ho
  obtain ⟨p, xs, h1, h2, _⟩ := S.own h0
  refine ⟨.ref p, h1, .inl ⟨rfl, xs, .inl (.inl h2)⟩, (dd_of h) B F H σ S _ fun v F1 H1 x δ1 r1 S1 e1 v1 => ?_⟩
  obtain ⟨ds, g1, g2, k⟩ := r1
  obtain ⟨p', xs', k1, k2, k3, k4, k5⟩ := S1.own g1
  have : some (some (V.ref p')) = some (some (V.ref p)) := k1.symm.trans h1
  cases this
  obtain ⟨_, _, q1, q2, _, S2⟩ := S1.wrL g1 (ys := xs' ++ [v]) (DpAll.append k5 (.cons v1 .nil))
  have : some (some (V.ref _)) = some (some (V.ref p)) := q1.symm.trans h1
  cases this
  exact ⟨p, xs', v, rfl, rfl, k2, sz_lt (by rw [DpAll.length k5]; exact g2), E.nx F1 _ σ _ k S2 e1⟩
/-- xs[i] = e -/
theorem ixN_nat {n j : Nat} (hj : j < n) : ixN n (j : Int) = some j := by
  unfold ixN
  rw [if_pos (by omega), if_pos (by omega)]
  simp

theorem ds_setO {i j : Nat} {ti : TE} (ho : ∃ ds, δ[i]? = some (.own ds)) (h : De K b te δ (toD fun d δ1 => De K b ti δ1 fun y δ2 => ∃ ds, δ2[i]? = some (.own ds) ∧ ∃ j : Nat, y = .d (.int (j : Int)) ∧ j < ds.length ∧ P.nx (δ2.set i (.own (ds.set j d))))) : Ds K b (tAsg te (gSub (tVar i) ti rSetL)) δ P := fun B F H σ D S E =>
  (dd_of h) B F H σ S _ fun v F1 H1 x δ1 r1 S1 e1 v1 => by
    obtain ⟨ds0, h0⟩ := ho
    obtain ⟨p, _, h1, _⟩ := S.own h0
    refine ⟨.ref p, h1, r1 B F1 H1 σ S1 _ fun w F2 H2 y δ2 r2 S2 e2 v2 => ?_⟩
    obtain ⟨ds, g1, j, rfl, g2, k⟩ := r2
    cases v2
    obtain ⟨p', xs, q1, q2, q3, q4, q5⟩ := S2.own g1
    have : some (some (V.ref p')) = some (some (V.ref p)) := q1.symm.trans h1
    cases this
    refine ⟨p, xs, j, j, rfl, rfl, q2, ixN_nat (by rw [DpAll.length q5]; exact g2), ?_⟩
    refine E.nx F2 _ σ _ k ?_ (e1.trans e2)
    exact S2.wr g1 rfl (slot_of q1) q3 (.inl q4) ⟨_, q2⟩ rfl ⟨p, _, rfl, upd_same, q3, q4, DpAll.set (Dp.mono e2 v1) j q5⟩
theorem ds_setP {i : Nat} {ti : TE} (ho : ∃ ds, δ[i]? = some (.pown ds)) (h : De K b te δ (toD fun d δ1 => De K b ti δ1 fun y δ2 => ∃ ds, δ2[i]? = some (.pown ds) ∧ ∃ j : Nat, y = .d (.int (j : Int)) ∧ j < ds.length ∧ P.nx (δ2.set i (.pown (ds.set j d))))) : Ds K b (tAsg te (gSub (tVar i) ti rSetL)) δ P := fun B F H σ D S E =>
  (dd_of h) B F H σ S _ fun v F1 H1 x δ1 r1 S1 e1 v1 => by
    obtain ⟨ds0, h0⟩ := ho
    obtain ⟨p, _, h1, _⟩ := S.pown h0
    refine ⟨.ref p, h1, r1 B F1 H1 σ S1 _ fun w F2 H2 y δ2 r2 S2 e2 v2 => ?_⟩
    obtain ⟨ds, g1, j, rfl, g2, k⟩ := r2
    cases v2
    obtain ⟨p', xs, q1, q2, q3, q4, q5⟩ := S2.pown g1
    have : some (some (V.ref p')) = some (some (V.ref p)) := q1.symm.trans h1
    cases this
    refine ⟨p, xs, j, j, rfl, rfl, q2, ixN_nat (by rw [DpAll.length q5]; exact g2), ?_⟩
    refine E.nx F2 _ σ _ k ?_ (e1.trans e2)
    exact S2.wr g1 rfl (slot_of q1) q3 (.inr q4) ⟨_, q2⟩ rfl ⟨p, _, rfl, upd_same, q3, q4, DpAll.set (Dp.mono e2 v1) j q5⟩
/-! ### slices -/
def Do (K : Fg) (b : Option Addr) (to : TO) (δ : LS) (R : Option Int → LS → Prop) : Prop :=
  ∀ B F H σ, Stt K b B F H σ δ → ∀ Q : Option Int → Hp → Prop, (∀ o F2 H2 δ2, R o δ2 → Stt K b B F2 H2 σ δ2 → Ex F F2 → Q o H2) → to σ H Q
theorem do_none {R : Option Int → LS → Prop} (k : R none δ) : Do K b tNoPart δ R := fun B F H σ S Q q => q none F H δ k S (Ex.refl F)
theorem do_some {R : Option Int → LS → Prop} (h : De K b te δ fun a δ1 => ∃ n, a = .d (.int n) ∧ R (some n) δ1) : Do K b (tPart te) δ R := fun B F H σ S Q q =>
  h B F H σ S _ fun v F1 H1 x δ1 r1 S1 e1 v1 => by
    obtain ⟨n, rfl, k⟩ := r1
    cases v1
    exact ⟨n, rfl, q _ F1 H1 δ1 k S1 e1⟩
def cutD (xs : List PyData) (lo hi : Option Int) : List PyData := (xs.drop (HT.sIx xs.length 0 lo)).take (HT.sIx xs.length xs.length hi - HT.sIx xs.length 0 lo)
theorem cut_all {F : Hp} {xs : List V} {ds : List PyData} (h : DpAll K F xs ds) (lo hi : Option Int) : DpAll K F (cutV xs lo hi) (cutD ds lo hi) := by
  unfold cutV cutD
  rw [DpAll.length h]
  exact DpAll.take _ (DpAll.drop _ h)
theorem dn_sl {tl th : TO} {R : List PyData → LS → Prop} (h : De K b te δ fun a δ1 => Do K b tl δ1 fun lo δ2 => Do K b th δ2 fun hi δ3 => ∃ xs, lstIn a δ3 xs ∧ R (cutD xs lo hi) δ3) : Dn K b (tSl (rSlL K) te tl th) δ R := fun B F H σ S Q q =>
  h B F H σ S _ fun v F1 H1 x δ1 r1 S1 e1 v1 => r1 B F1 H1 σ S1 _ fun lo F2 H2 δ2 r2 S2 e2 => r2 B F2 H2 σ S2 _ fun hi F3 H3 δ3 r3 S3 e3 => by
    obtain ⟨ds, h1, k⟩ := r3
    obtain ⟨p, xs, rfl, h3, h4⟩ := h1.get S3 (VR.mono (e2.trans e3) v1)
    refine ⟨p, xs, rfl, h3, fun l hl => ?_⟩
    obtain ⟨S4, N⟩ := S3.newL hl (cut_all h4 lo hi)
    exact q l _ F3 _ _ δ3 k S4 ((e1.trans e2).trans e3) N
theorem de_slT {tl th : TO} {R : AV → LS → Prop} (h : De K b te δ (toD fun a δ1 => Do K b tl δ1 fun lo δ2 => Do K b th δ2 fun hi δ3 => ∃ xs, a = .tuple xs ∧ ¬ (HT.sIx xs.length 0 lo = 0 ∧ HT.sIx xs.length xs.length hi = xs.length) ∧ R (.d (.tuple (cutD xs lo hi))) δ3)) : De K b (tSl (rSlT K) te tl th) δ R := fun B F H σ S Q q =>
  (dd_of h) B F H σ S _ fun v F1 H1 x δ1 r1 S1 e1 v1 => r1 B F1 H1 σ S1 _ fun lo F2 H2 δ2 r2 S2 e2 => r2 B F2 H2 σ S2 _ fun hi F3 H3 δ3 r3 S3 e3 => by
    obtain ⟨ds, rfl, nw, k⟩ := r3
    cases v1 with
    | tup g1 g2 =>
      rename_i a xs
      refine ⟨a, xs, rfl, ((e2.trans e3).trans S3.sub).t g1, by rw [DpAll.length g2]; exact nw, fun p hp => ?_⟩
      obtain ⟨S4, e4, d4⟩ := S3.newT hp (cut_all (DpAll.mono (e2.trans e3) g2) lo hi)
      exact q _ _ _ _ δ3 k S4 (((e1.trans e2).trans e3).trans e4) d4
/-! ### loops -/
theorem ds_while (W : Nat → LS → Prop) (h0 : ∃ m, W m δ) (hs : ∀ m δ', W m δ' → Dt K b t δ' fun c δ1 => if c = true then Ds K b ts δ1 { P with nx := fun δ2 => ∃ m', m' < m ∧ W m' δ2, ct := fun δ2 => ∃ m', m' < m ∧ W m' δ2, bk := P.nx } else P.nx δ1) : Ds K b (tWhile t ts) δ P := fun B F H σ D S E => by
  obtain ⟨m0, w0⟩ := h0
  refine ⟨fun m σ' H' => ∃ F' δ', Stt K b B F' H' σ' δ' ∧ Ex F F' ∧ W m δ', ⟨m0, F, δ, S, Ex.refl F, w0⟩, ?_⟩
  rintro m σ' H' ⟨F', δ', S', e', w'⟩
  refine hs m δ' w' B F' H' σ' S' _ fun c F1 H1 δ1 r1 S1 e1 => ?_
  cases c with
  | false => exact E.nx F1 H1 σ' δ1 r1 S1 (e'.trans e1)
  | true =>
    refine ⟨_, fun _ _ z => z, ?_⟩
    have nx : ∀ F2 H2 σ2 δ2, (∃ m', m' < m ∧ W m' δ2) → Stt K b B F2 H2 σ2 δ2 → Ex F1 F2 → ∃ m', m' < m ∧ ∃ F' δ', Stt K b B F' H2 σ2 δ' ∧ Ex F F' ∧ W m' δ' := fun F2 H2 σ2 δ2 ⟨m', a1, a2⟩ S2 e2 => ⟨m', a1, F2, δ2, S2, (e'.trans e1).trans e2, a2⟩
    exact r1 B F1 H1 σ' _ S1 ⟨nx, E.rt, fun F2 H2 σ2 δ2 h2 S2 e2 => E.nx F2 H2 σ2 δ2 h2 S2 ((e'.trans e1).trans e2), nx, E.rn, E.rs⟩
/-- the turn of a for -/
def Turn1 (K : Fg) (b : Option Addr) (g : TG) (ts : TS) (P : Po) (n : Nat) (at_ : Nat → PyData) (δ : LS) (Pv : Nat → LS → Prop) : Prop :=
  Pv 0 δ ∧ (∀ i δ', i < n → Pv i δ' → Dg K b g (at_ i) δ' fun δ2 => Ds K b ts δ2 { P with nx := Pv (i + 1), ct := Pv (i + 1), bk := P.nx }) ∧ ∀ δ', Pv n δ' → P.nx δ'
theorem turn_run {n : Nat} {at_ : Nat → PyData} {Pv : Nat → LS → Prop} {B : Base} {F : Hp} {D : Ends} (T : ∀ i δ', i < n → Pv i δ' → Dg K b g (at_ i) δ' fun δ2 => Ds K b ts δ2 { P with nx := Pv (i + 1), ct := Pv (i + 1), bk := P.nx }) (E : EndsOk K b B F P D)
    {i : Nat} {x : V} {σ : L2.St} {H F' : Hp} {δ' : LS} (hi : i < n) (S : Stt K b B F' H σ δ') (e : Ex F F') (pv : Pv i δ') (dp : Dp K F' x (at_ i)) :
    g x σ H fun σ2 H2 => ts { D with nx := fun σ' H' => ∃ F' δ', Stt K b B F' H' σ' δ' ∧ Ex F F' ∧ Pv (i + 1) δ', ct := fun σ' H' => ∃ F' δ', Stt K b B F' H' σ' δ' ∧ Ex F F' ∧ Pv (i + 1) δ', bk := D.nx } σ2 H2 :=
  T i δ' hi pv B F' H σ x S dp _ fun F2 H2 σ2 δ2 r2 S2 e2 => r2 B F2 H2 σ2 _ S2
    ⟨fun F3 H3 σ3 δ3 a1 S3 e3 => ⟨F3, δ3, S3, (e.trans e2).trans e3, a1⟩, E.rt, fun F3 H3 σ3 δ3 a1 S3 e3 => E.nx F3 H3 σ3 δ3 a1 S3 ((e.trans e2).trans e3), fun F3 H3 σ3 δ3 a1 S3 e3 => ⟨F3, δ3, S3, (e.trans e2).trans e3, a1⟩, E.rn, E.rs⟩
/-- over data, a list -/
theorem ds_forL (Pv : List PyData → Nat → LS → Prop) (h : De K b te δ (toD fun x δ1 => ∃ xs, x = .list xs ∧ Turn1 K b g ts P xs.length (fun i => xs.getD i .none) δ1 (Pv xs))) : Ds K b (tFor (iList K te) g ts) δ P :=
  fun B F H σ D S E => (dd_of h) B F H σ S _ fun v F1 H1 x δ1 r1 S1 e1 v1 => by
    obtain ⟨ds, rfl, h0, hs, hd⟩ := r1
    cases v1 with
    | lst q1 q2 =>
      rename_i a xs
      refine ⟨a, rfl, ⟨xs, S1.sub.l q1⟩, for_list (xs := xs) (fun i σ' H' => ∃ F' δ', Stt K b B F' H' σ' δ' ∧ Ex F1 F' ∧ Pv ds i δ') ⟨F1, δ1, S1, Ex.refl F1, h0⟩ (fun i σ' H' _ ⟨F', δ', S', e', _⟩ => (e'.trans S'.sub).l q1) (fun i x σ' H' hx ⟨F', δ', S', e', pv⟩ => ?_) fun σ' H' ⟨F', δ', S', e', pv⟩ => ?_⟩
      · obtain ⟨d, hd1, hd2⟩ := DpAll.get' q2 hx
        refine turn_run hs (E.mono e1) (lt_of_get hd1) S' e' pv ?_
        rw [List.getD_eq_getElem?_getD, hd1]
        exact Dp.mono e' hd2
      · rw [show xs.length = ds.length from DpAll.length q2] at pv
        exact E.nx F' H' σ' δ' (hd δ' pv) S' (e1.trans e')
/-- over a tuple -/
theorem ds_forT (Pv : List PyData → Nat → LS → Prop) (h : De K b te δ (toD fun x δ1 => ∃ xs, x = .tuple xs ∧ Turn1 K b g ts P xs.length (fun i => xs.getD i .none) δ1 (Pv xs))) : Ds K b (tFor (iTup K te) g ts) δ P :=
  fun B F H σ D S E => (dd_of h) B F H σ S _ fun v F1 H1 x δ1 r1 S1 e1 v1 => by
    obtain ⟨ds, rfl, h0, hs, hd⟩ := r1
    cases v1 with
    | tup q1 q2 =>
      rename_i a xs
      refine ⟨a, rfl, ⟨xs, S1.sub.t q1⟩, for_tup (xs := xs) (fun i σ' H' => ∃ F' δ', Stt K b B F' H' σ' δ' ∧ Ex F1 F' ∧ Pv ds i δ') ⟨F1, δ1, S1, Ex.refl F1, h0⟩ (fun i σ' H' _ ⟨F', δ', S', e', _⟩ => (e'.trans S'.sub).t q1) (fun i x σ' H' hx ⟨F', δ', S', e', pv⟩ => ?_) fun σ' H' ⟨F', δ', S', e', pv⟩ => ?_⟩
      · obtain ⟨d, hd1, hd2⟩ := DpAll.get' q2 hx
        refine turn_run hs (E.mono e1) (lt_of_get hd1) S' e' pv ?_
        rw [List.getD_eq_getElem?_getD, hd1]
        exact Dp.mono e' hd2
      · rw [show xs.length = ds.length from DpAll.length q2] at pv
        exact E.nx F' H' σ' δ' (hd δ' pv) S' (e1.trans e')
/-- over range(n), range(a, n) -/
theorem ds_forR1 {tr : TA} (Pv : Int → Nat → LS → Prop) (h : Da K b tr δ fun ds δ1 => ∃ n, ds = [.int n] ∧ -(2 ^ 62) ≤ n ∧ n < 2 ^ 62 ∧ Turn1 K b g ts P n.toNat (fun i => .int (i : Int)) δ1 (Pv n)) : Ds K b (tFor (iRng1 tr) g ts) δ P :=
  fun B F H σ D S E => h B F H σ S _ fun vs F1 H1 ds δ1 r1 S1 e1 v1 => by
    obtain ⟨n, rfl, n1, n2, h0, hs, hd⟩ := r1
    cases v1 with
    | cons d1 d2 =>
      cases d2; cases d1
      refine ⟨n, rfl, n1, n2, for_range (lo := 0) (n := n.toNat) (fun i σ' H' => ∃ F' δ', Stt K b B F' H' σ' δ' ∧ Ex F1 F' ∧ Pv n i δ') ⟨F1, δ1, S1, Ex.refl F1, h0⟩ (fun i σ' H' hi ⟨F', δ', S', e', pv⟩ => ?_) fun σ' H' ⟨F', δ', S', e', pv⟩ => E.nx F' H' σ' δ' (hd δ' pv) S' (e1.trans e')⟩
      rw [Int.zero_add]
      exact turn_run hs (E.mono e1) hi S' e' pv (.int _)
theorem ds_forR2 {tr : TA} (Pv : Int → Int → Nat → LS → Prop) (h : Da K b tr δ fun ds δ1 => ∃ a n, ds = [.int a, .int n] ∧ (-(2 ^ 62) ≤ a ∧ a < 2 ^ 62 ∧ -(2 ^ 62) ≤ n ∧ n < 2 ^ 62) ∧ Turn1 K b g ts P (n - a).toNat (fun i => .int (a + (i : Int))) δ1 (Pv a n)) : Ds K b (tFor (iRng2 tr) g ts) δ P :=
  fun B F H σ D S E => h B F H σ S _ fun vs F1 H1 ds δ1 r1 S1 e1 v1 => by
    obtain ⟨a, n, rfl, n1, h0, hs, hd⟩ := r1
    cases v1 with
    | cons d1 d2 =>
      cases d2 with
      | cons d2 d3 =>
        cases d3; cases d1; cases d2
        refine ⟨a, n, rfl, n1, for_range (lo := a) (n := (n - a).toNat) (fun i σ' H' => ∃ F' δ', Stt K b B F' H' σ' δ' ∧ Ex F1 F' ∧ Pv a n i δ') ⟨F1, δ1, S1, Ex.refl F1, h0⟩ (fun i σ' H' hi ⟨F', δ', S', e', pv⟩ => ?_) fun σ' H' ⟨F', δ', S', e', pv⟩ => E.nx F' H' σ' δ' (hd δ' pv) S' (e1.trans e')⟩
        exact turn_run hs (E.mono e1) hi S' e' pv (.int _)
end
end Ab

set_option Elab.async false
set_option linter.all false
set_option maxRecDepth 100000
set_option maxHeartbeats 2000000
namespace Ab
open PySem PySem.Spec PyProof.Rows L2

theorem start_dat {K : Fg} {F : Hp} : ∀ {vs : List V} {ds : List PyData}, DpAll K F vs ds → ∀ (m : Nat) (b : Option Addr) (H0 H : Hp) (i : Nat) (s : Sl), (ds.map Sl.dat ++ List.replicate m Sl.no)[i]? = some s → SlOk K b H0 F H (slot (vs.map some ++ List.replicate m none) i) s ∧ s.mut = false
  | _, _, .nil, m, b, H0, H, i, s, h => by
    have e : s = Sl.no := by
      simp only [List.map_nil, List.nil_append] at h
      rw [List.getElem?_replicate] at h
      split at h
      · cases h; rfl
      · cases h
    subst e
    exact ⟨trivial, rfl⟩
  | _, _, .cons a r, m, b, H0, H, 0, s, h => by
    simp at h
    subst h
    exact ⟨⟨_, rfl, a⟩, rfl⟩
  | _, _, .cons a r, m, b, H0, H, i + 1, s, h => by
    have := start_dat r m b H0 H i s (by simpa using h)
    simpa [slot] using this
theorem stt_start {K : Fg} {F H : Hp} {vs : List V} {ds : List PyData} (e : Ex F H) (h : DpAll K F vs ds) (m : Nat) : Stt K none ⟨F, H⟩ F H (vs.map some ++ List.replicate m none) (ds.map Sl.dat ++ List.replicate m Sl.no) := by
  refine ⟨e, Gr.refl e, by simp [DpAll.length h], fun i s hs => (start_dat h m none H H i s hs).1, fun i j si sj p _ h1 _ m1 => ?_⟩
  rw [(start_dat h m none H H i si h1).2] at m1
  cases m1
section
variable {P : Program} {w : World} {K : Fg} {mg : Str → Option Value} {base : Heap}
/-- THE RULE for a def upon data -/
theorem mkFn {x qual : Str} {st : Stmt} {f : Addr} {fd : FuncData} {N ps : List Str} {k : Nat} {φ : List PyData → (PyData → Prop) → Prop} (F : Fun K x qual st f fd) (S : FnScope N ps (defScope st)) (len : ∀ ds kk, φ ds kk → ds.length = ps.length)
    (hb : ∀ (cdv : Value) (A : Around) (outer : List Env) (s : Shared) (H : Hp) (E : XK), Room k (A.deeper (envOfC qual (defScope st) s.heap.objs.size f cdv)) →
      ∃ t, PSs (cxOf CX0 P w K mg base N qual (defScope st) f cdv A outer s H E).nox (defBody st) t ∧ ∀ ds kk, φ ds kk → Ds K none t (ds.map Sl.dat ++ List.replicate (N.length - ds.length) Sl.no) { nx := fun _ => kk .none, rt := kk }) :
    FnOk P w K mg base CX0 (k + 1) f fd ps (spP K φ) := by
  refine F.ok S (fun vs H Q E h => ?_) (fun cdv A outer s H vs Q E hr h => ?_)
  · obtain ⟨F0, ds, kk, _, h1, h2, _⟩ := h
    rw [DpAll.length h1]
    exact len ds kk h2
  · obtain ⟨F0, ds, kk, ex, h1, h2, h3⟩ := h
    obtain ⟨t, ht, hd⟩ := hb cdv A outer s H E hr
    refine ⟨t, ht, ?_⟩
    have S0 := stt_start ex h1 (N.length - ds.length)
    have e : L2.start N vs = vs.map some ++ List.replicate (N.length - ds.length) none := by
      unfold L2.start
      rw [DpAll.length h1]
    rw [e]
    refine hd ds kk h2 ⟨F0, H⟩ F0 H _ _ S0 ⟨fun F H' σ δ hk S _ => ?_, fun v F H' d hk g dp => ?_, fun _ _ _ _ z => z.elim, fun _ _ _ _ z => z.elim, fun _ _ _ _ _ _ _ z => z.elim, fun _ _ _ _ _ _ z => z.elim⟩
    · exact h3 .non F H' .none hk S.gr .non
    · exact h3 v F H' d hk g dp

/-! ### the law's pool -/
def spPool (K : Fg) : Sp := fun vs H Q _ => ∃ (F : Hp) (a : Addr) (ns : List Int), Ex F H ∧ vs = [.ref a] ∧ SqL K F a (ns.map V.int) ∧ ns.length ≤ 63 ∧
  ∀ p F2 H2, F2 p = none → H p = none → Gr none F H F2 H2 → PoolAt K F2 H2 p → Q (.ref p) H2
/-- the law's first line: the pool is made -/
theorem ds_pool {E : XK} {δ : LS} {rest : TS} {P : Po} {ns : List Int} (h0 : δ[0]? = some (.dat (.list (ns.map PyData.int)))) (hn : ns.length ≤ 63) (h : ∀ p, Ds K (some p) rest (δ.set 1 .pool) { nx := fun _ => False, rt := P.rt })
    (hm : ∀ (i : Nat) (s : Sl), δ[i]? = some s → s.mut = false) : Ds K none (tSeq (tAsg (tCall (spPool K) [] E (tCons (tVar 0) tNil)) (gName 1)) rest) δ P := fun B F H σ D S EO => by
  obtain ⟨v, h1, h2⟩ := S.dat h0
  cases h2 with
  | lst q1 q2 =>
    rename_i a xs
    have e := DpAll.ints_eq q2
    subst e
    refine ⟨.ref a, h1, F, a, ns, S.sub, rfl, q1, hn, fun p F2 H2 f2 hp g pa => ?_⟩
    have S1 := S.step g
    have bp : B.H p = none := by
      cases q : B.H p with
      | none => rfl
      | some o =>
        cases r : B.F p with
        | none =>
          obtain ⟨_, _, o', z⟩ := S.gr.keep p o r q
          rw [hp] at z; cases z
        | some u =>
          have := S.gr.sub p u (S.gr.ex p u r)
          rw [hp] at this; cases this
    have S2 : Stt K (some p) B F2 H2 σ δ := ⟨S1.sub, S1.gr.weak, S1.len, (fun i s hs => by
      have x := S1.ok i s hs
      have m := hm i s hs
      cases s with
      | no => trivial
      | dat d => exact x
      | own _ => cases m
      | dic _ => cases m
      | dit _ => cases m
      | pown _ => cases m
      | pool => cases m), S1.ap⟩
    have S3 : Stt K (some p) B F2 H2 (σ.set 1 (some (.ref p))) (δ.set 1 .pool) := S2.set (fun _ => ⟨p, rfl, rfl, pa⟩) (.inr fun j sj q _ hj mj _ => by
      rw [hm j sj hj] at mj; cases mj)
    refine h p B F2 H2 _ D S3 ⟨fun _ _ _ _ z => z.elim, fun v F' H' d hd g' dp => ?_, fun _ _ _ _ z => z.elim, fun _ _ _ _ z => z.elim, fun _ _ _ _ _ _ _ z => z.elim, fun _ _ _ _ _ _ z => z.elim⟩
    refine EO.rt v F' H' d hd ⟨g'.ex, g'.sub, fun q o z1 z2 => ?_⟩ dp
    obtain ⟨a1, a2, a3⟩ := g'.keep q o z1 z2
    refine ⟨a1, fun _ => a2 ?_, a3⟩
    rintro e
    cases e
    rw [bp] at z2; cases z2
theorem mkPool {x qual : Str} {st : Stmt} {f : Addr} {fd : FuncData} {N ps : List Str} {k : Nat} (F : Fun K x qual st f fd) (S : FnScope N ps (defScope st)) (hps : ps.length = 1)
    (hb : ∀ (cdv : Value) (A : Around) (outer : List Env) (s : Shared) (H : Hp) (E : XK), Room k (A.deeper (envOfC qual (defScope st) s.heap.objs.size f cdv)) →
      ∃ t, PSs (cxOf CX0 P w K mg base N qual (defScope st) f cdv A outer s H E).nox (defBody st) t ∧ ∀ ns : List Int, ns.length ≤ 63 → Ds K none t (Sl.dat (.list (ns.map PyData.int)) :: List.replicate (N.length - 1) Sl.no)
        { nx := fun _ => False, rt := fun _ => False, rn := fun ds => ∃ salt, ds = [.list (ns.map PyData.int), .int 0, .int 0, .int 0, .int salt] }) :
    FnOk P w K mg base CX0 (k + 1) f fd ps (spPool K) := by
  refine F.ok S (fun vs H Q E h => ?_) (fun cdv A outer s H vs Q E hr h => ?_)
  · obtain ⟨_, _, _, _, rfl, _⟩ := h
    exact hps.symm
  · obtain ⟨F0, a, ns, ex, rfl, h1, h2, h3⟩ := h
    obtain ⟨t, ht, hd⟩ := hb cdv A outer s H E hr
    refine ⟨t, ht, ?_⟩
    have S0 : Stt K none ⟨F0, H⟩ F0 H _ _ := stt_start (vs := [.ref a]) (ds := [.list (ns.map PyData.int)]) ex (.cons (.lst h1 (DpAll.ints ns)) .nil) (N.length - 1)
    have e : L2.start N [.ref a] = [V.ref a].map some ++ List.replicate (N.length - 1) none := rfl
    rw [e]
    refine hd ns h2 ⟨F0, H⟩ F0 H _ _ S0 ⟨fun _ _ _ _ z => z.elim, fun _ _ _ _ z => z.elim, fun _ _ _ _ z => z.elim, fun _ _ _ _ z => z.elim, fun p xs F H' σ δ ds hk S N => ?_, fun _ _ _ _ _ _ z => z.elim⟩
    obtain ⟨salt, rfl⟩ := hk
    have all := N.all
    cases all with
    | cons d0 all => cases all with
      | cons d1 all => cases all with
        | cons d2 all => cases all with
          | cons d3 all => cases all with
            | cons d4 all =>
              cases all
              cases d1; cases d2; cases d3; cases d4
              cases d0 with
              | lst q1 q2 =>
                have e := DpAll.ints_eq q2
                subst e
                exact h3 p F H' N.f N.b S.gr ⟨N.f, _, ns, 0, 0, 0, salt, N.h, q1⟩
/-- a def with the pool as its first argument; slot 0 stands for it -/
theorem mkFnP {x qual : Str} {st : Stmt} {f : Addr} {fd : FuncData} {N ps : List Str} {k : Nat} {φ : List PyData → (PyData → Prop) → Prop} (F : Fun K x qual st f fd) (S : FnScope N ps (defScope st)) (len : ∀ ds kk, φ ds kk → ds.length + 1 = ps.length)
    (hb : ∀ (cdv : Value) (A : Around) (outer : List Env) (s : Shared) (H : Hp) (E : XK), Room k (A.deeper (envOfC qual (defScope st) s.heap.objs.size f cdv)) →
      ∃ t, PSs (cxOf CX0 P w K mg base N qual (defScope st) f cdv A outer s H E).nox (defBody st) t ∧ ∀ (p : Addr) ds kk, φ ds kk → Ds K (some p) t (Sl.pool :: (ds.map Sl.dat ++ List.replicate (N.length - (ds.length + 1)) Sl.no))
        { nx := fun _ => False, rt := fun _ => False, rs := fun d δ => kk d ∧ δ[0]? = some .pool }) :
    FnOk P w K mg base CX0 (k + 1) f fd ps (spPP K φ) := by
  refine F.ok S (fun vs H Q E h => ?_) (fun cdv A outer s H vs Q E hr h => ?_)
  · obtain ⟨F0, p, vs', ds, kk, _, rfl, _, h1, h2, _⟩ := h
    rw [List.length_cons, DpAll.length h1]
    exact len ds kk h2
  · obtain ⟨F0, p, vs', ds, kk, ex, rfl, pa, h1, h2, h3⟩ := h
    obtain ⟨t, ht, hd⟩ := hb cdv A outer s H E hr
    refine ⟨t, ht, ?_⟩
    have S0 := stt_start (K := K) ex h1 (N.length - (ds.length + 1))
    have e : L2.start N (.ref p :: vs') = some (.ref p) :: (vs'.map some ++ List.replicate (N.length - (ds.length + 1)) none) := by
      unfold L2.start
      rw [List.length_cons, DpAll.length h1]
      rfl
    rw [e]
    have S1 : Stt K (some p) ⟨F0, H⟩ F0 H (some (.ref p) :: (vs'.map some ++ List.replicate (N.length - (ds.length + 1)) none)) (Sl.pool :: (ds.map Sl.dat ++ List.replicate (N.length - (ds.length + 1)) Sl.no)) := by
      refine ⟨ex, Gr.refl ex, by simpa using S0.len, fun i s hs => ?_, fun i j si sj q hij h1' h2' m1 m2 => ?_⟩
      · cases i with
        | zero => simp at hs; subst hs; exact ⟨p, rfl, rfl, pa⟩
        | succ i =>
          have := (start_dat h1 (N.length - (ds.length + 1)) (some p) H H i s (by simpa using hs)).1
          simpa [slot] using this
      · cases i with
        | zero =>
          cases j with
          | zero => exact absurd rfl hij
          | succ j =>
            rw [(start_dat h1 (N.length - (ds.length + 1)) none H H j sj (by simpa using h2')).2] at m2
            cases m2
        | succ i =>
          rw [(start_dat h1 (N.length - (ds.length + 1)) none H H i si (by simpa using h1')).2] at m1
          cases m1
    refine hd p ds kk h2 ⟨F0, H⟩ F0 H _ _ S1 ⟨fun _ _ _ _ z => z.elim, fun _ _ _ _ z => z.elim, fun _ _ _ _ z => z.elim, fun _ _ _ _ z => z.elim, fun _ _ _ _ _ _ _ z => z.elim, fun v F' H' d σ δ hk S dp => ?_⟩
    obtain ⟨hk, hp⟩ := hk
    obtain ⟨p', g1, g2, g3⟩ := S.ok 0 _ hp
    cases g2
    refine h3 v F' H' d hk S.gr (fun q o z1 z2 => ?_) g3 dp
    cases y : F0 q with
    | none => exact (S.gr.keep q o y z1).2.1 (fun z => z2 (Option.some.inj z).symm)
    | some u =>
      have := ex q u y
      rw [z1] at this; cases this
      exact S.gr.sub q _ (S.gr.ex q _ y)
theorem mkDraw {x qual : Str} {st : Stmt} {f : Addr} {fd : FuncData} {N ps : List Str} {k : Nat} (F : Fun K x qual st f fd) (S : FnScope N ps (defScope st)) (hps : ps.length = 2)
    (hb : ∀ (cdv : Value) (A : Around) (outer : List Env) (s : Shared) (H : Hp) (E : XK), Room k (A.deeper (envOfC qual (defScope st) s.heap.objs.size f cdv)) →
      ∃ t, PSs (cxOf CX0 P w K mg base N qual (defScope st) f cdv A outer s H E).nox (defBody st) t ∧ ∀ (p : Addr) (ns : List Int) (i : Nat) (c kn salt m : Int), 0 < m → m.natAbs < 2 ^ 200 →
        Ds K (some p) t (Sl.pown [.list (ns.map PyData.int), .int i, .int c, .int kn, .int salt] :: Sl.dat (.int m) :: List.replicate (N.length - 2) Sl.no)
        { nx := fun _ => False, rt := fun _ => False, rs := fun d δ => (∃ r : Int, d = .int r ∧ 0 ≤ r ∧ r < m) ∧ ∃ (i : Nat) (c kn salt : Int), δ[0]? = some (.pown [.list (ns.map PyData.int), .int i, .int c, .int kn, .int salt]) }) :
    FnOk P w K mg base CX0 (k + 1) f fd ps (spPP K φ_law_draw) := by
  refine F.ok S (fun vs H Q E h => ?_) (fun cdv A outer s H vs Q E hr h => ?_)
  · obtain ⟨F0, p, vs', ds, kk, _, rfl, _, h1, ⟨m, rfl, _⟩, _⟩ := h
    rw [List.length_cons, DpAll.length h1]
    exact hps.symm
  · obtain ⟨F0, p, vs', ds, kk, ex, rfl, pa, h1, ⟨m, rfl, m0, m9, hk⟩, h3⟩ := h
    obtain ⟨t, ht, hd⟩ := hb cdv A outer s H E hr
    refine ⟨t, ht, ?_⟩
    cases h1 with
    | cons a b =>
      cases b
      cases a
      obtain ⟨f0, sa, ns, i, c, kn, salt, hp, hs⟩ := pa
      have S0 := stt_start (K := K) ex (vs := [.int m]) (ds := [.int m]) (.cons (.int m) .nil) (N.length - 2)
      have e : L2.start N [.ref p, .int m] = some (.ref p) :: some (.int m) :: List.replicate (N.length - 2) none := rfl
      rw [e]
      have S1 : Stt K (some p) ⟨F0, H⟩ F0 H (some (.ref p) :: some (.int m) :: List.replicate (N.length - 2) none) (Sl.pown [.list (ns.map PyData.int), .int i, .int c, .int kn, .int salt] :: Sl.dat (.int m) :: List.replicate (N.length - 2) Sl.no) := by
        refine ⟨ex, Gr.refl ex, by simpa using S0.len, fun i' s hs' => ?_, fun i' j si sj q hij h1' h2' m1 m2 => ?_⟩
        · cases i' with
          | zero =>
            simp at hs'; subst hs'
            exact ⟨p, _, rfl, hp, f0, rfl, .cons (.lst hs (DpAll.ints ns)) (.cons (.int _) (.cons (.int _) (.cons (.int _) (.cons (.int _) .nil))))⟩
          | succ i' =>
            have := (start_dat (K := K) (F := F0) (vs := [.int m]) (ds := [.int m]) (.cons (.int m) .nil) (N.length - 2) (some p) H H i' s (by simpa using hs')).1
            simpa [slot] using this
        · cases i' with
          | zero =>
            cases j with
            | zero => exact absurd rfl hij
            | succ j =>
              rw [(start_dat (K := K) (F := F0) (vs := [.int m]) (ds := [.int m]) (.cons (.int m) .nil) (N.length - 2) none H H j sj (by simpa using h2')).2] at m2
              cases m2
          | succ i' =>
            rw [(start_dat (K := K) (F := F0) (vs := [.int m]) (ds := [.int m]) (.cons (.int m) .nil) (N.length - 2) none H H i' si (by simpa using h1')).2] at m1
            cases m1
      refine hd p ns i c kn salt m m0 m9 ⟨F0, H⟩ F0 H _ _ S1 ⟨fun _ _ _ _ z => z.elim, fun _ _ _ _ z => z.elim, fun _ _ _ _ z => z.elim, fun _ _ _ _ z => z.elim, fun _ _ _ _ _ _ _ z => z.elim, fun v F' H' d σ δ hk' S dp => ?_⟩
      obtain ⟨⟨r, rfl, r0, r1⟩, i', c', kn', salt', hδ⟩ := hk'
      obtain ⟨p', xs, g1, g2, g3, g4, g5⟩ := S.pown hδ
      cases g4
      refine h3 v F' H' _ (hk r r0 r1) S.gr (fun q o z1 z2 => ?_) ?_ dp
      · cases y : F0 q with
        | none => exact (S.gr.keep q o y z1).2.1 (fun z => z2 (Option.some.inj z).symm)
        | some u =>
          have := ex q u y
          rw [z1] at this; cases this
          exact S.gr.sub q _ (S.gr.ex q _ y)
      · cases g5 with
        | cons d0 all => cases all with
          | cons d1 all => cases all with
            | cons d2 all => cases all with
              | cons d3 all => cases all with
                | cons d4 all =>
                  cases all
                  cases d1; cases d2; cases d3; cases d4
                  cases d0 with
                  | lst q1 q2 =>
                    have e := DpAll.ints_eq q2
                    subst e
                    exact ⟨g3, _, ns, i', c', kn', salt', g2, q1⟩
end
end Ab

set_option Elab.async false
set_option linter.all false
set_option maxRecDepth 100000
set_option maxHeartbeats 2000000
namespace Ab
open PySem PySem.Spec PyProof.Rows L2

/-- a def that may be called by its name -/
structure Cal (P : Program) (w : World) (K : Fg) (mg : Str → Option Value) (base : Heap) (x : Str) (k : Nat) (ps : List Str) (sp : Sp) : Prop where
  ex : ∃ f fd, FnOk P w K mg base CX0 k f fd ps sp ∧ mg x = some (.ref f) ∧ PySem.W.keepIn K (.ref f) = true ∧ Binds K fd ps []
section
variable {X : Cx} {e : Expr} {es : List Expr} {t : TA} {p pos : Pos} {x : Str} {k n : Nat} {ps : List Str} {sp : Sp}
theorem pe_cl (C : Cal X.prog X.w X.K X.mg X.base x k ps sp) (hr : Room n X.A) (hk : k ≤ n) (hg : Gl X x) (ha : PA X (e :: es) t) (hdb : (x == ("__debug__" : Str)) = false := by decide)
    (he : starEach (e :: es) X.env = (false, eval e X.env) :: starEach es X.env := by rfl) (hpl : (backTo pos (starEach es X.env)).any (·.1) = false := by rfl) : PE X (.Call (.Name x p) (e :: es) [] pos) (tCall sp [] E0 t) := by
  obtain ⟨f, fd, F, hm, hkp, hb⟩ := C.ex
  exact pe_call F (hr.mono hk) hg hm hkp hb .nil pass0 ha hdb he hpl
end

/-! ### small rules for the walk -/
section
variable {K : Fg} {b : Option Addr} {δ : LS} {A B : Prop}
theorem toD_d {R : PyData → LS → Prop} {x : PyData} (h : R x δ) : toD R (.d x) δ := h
theorem toD_o {R : PyData → LS → Prop} {i : Nat} {ds : List PyData} (h : δ[i]? = some (.own ds)) (k : R (.list ds) (δ.set i (.dat (.list ds)))) : toD R (.o i) δ := ⟨ds, h, k⟩
theorem ite_dec {p : Prop} [Decidable p] (h1 : p → A) (h2 : ¬p → B) : if decide p = true then A else B := by
  by_cases h : p
  · rw [decide_eq_true h]; exact iteT (h1 h)
  · rw [decide_eq_false h]; exact iteF (h2 h)
theorem ite_decN {p : Prop} [Decidable p] (h1 : ¬p → A) (h2 : p → B) : if (!decide p) = true then A else B := by
  by_cases h : p
  · rw [decide_eq_true h]; exact iteF (h2 h)
  · rw [decide_eq_false h]; exact iteT (h1 h)
theorem eqv_int (a b : Int) : PyData.eqv (.int a) (.int b) = decide (a = b) := by
  show (a == b) = decide (a = b)
  by_cases h : a = b
  · subst h; simp
  · rw [decide_eq_false h]; exact beq_eq_false_iff_ne.mpr h
theorem ite_eqI {x y : Int} (h1 : x = y → A) (h2 : x ≠ y → B) : if PyData.eqv (.int x) (.int y) = true then A else B := by
  rw [eqv_int]; exact ite_dec h1 h2
theorem ite_neI {x y : Int} (h1 : x ≠ y → A) (h2 : x = y → B) : if (!PyData.eqv (.int x) (.int y)) = true then A else B := by
  rw [eqv_int]; exact ite_decN h1 h2
theorem ite_bool {c : Bool} (h1 : c = true → A) (h2 : c = false → B) : if c = true then A else B := by
  cases c with
  | true => exact iteT (h1 rfl)
  | false => exact iteF (h2 rfl)
theorem shaped_int (n : Int) : SeqAt.shaped (.int n) = true := rfl
end
end Ab

set_option Elab.async false
set_option linter.all false
set_option maxRecDepth 100000
set_option maxHeartbeats 2000000
namespace Ab
open PySem PySem.Spec PyProof.Rows L2
/-! sizes: x has at most n bits -/
def Bd (n : Nat) (x : Int) : Prop := x.natAbs < 2 ^ n
instance {n : Nat} {x : Int} : Decidable (Bd n x) := inferInstanceAs (Decidable (x.natAbs < 2 ^ n))
theorem Bd.le {n : Nat} {x y : Int} (h : Bd n x) (l : y.natAbs ≤ x.natAbs) : Bd n y := Nat.lt_of_le_of_lt l h
theorem Bd.mono {n m : Nat} {x : Int} (h : Bd n x) (l : n ≤ m) : Bd m x := Nat.lt_of_lt_of_le h (Nat.pow_le_pow_right (by decide) l)
theorem Bd.mul {n m : Nat} {x y : Int} (h : Bd n x) (k : Bd m y) : Bd (n + m) (x * y) := wide_lt h k
theorem Bd.add {n m : Nat} {x y : Int} (h : Bd n x) (k : Bd m y) : Bd (n + m + 1) (x + y) := by
  unfold Bd at *
  have a := Int.natAbs_add_le x y
  have p1 : 2 ^ n ≤ 2 ^ (n + m) := Nat.pow_le_pow_right (by decide) (by omega)
  have p2 : 2 ^ m ≤ 2 ^ (n + m) := Nat.pow_le_pow_right (by decide) (by omega)
  rw [Nat.pow_succ]
  omega
theorem Bd.neg {n : Nat} {x : Int} (h : Bd n x) : Bd n (-x) := by unfold Bd at *; rwa [Int.natAbs_neg]
theorem Bd.sub {n m : Nat} {x y : Int} (h : Bd n x) (k : Bd m y) : Bd (n + m + 1) (x - y) := by
  rw [Int.sub_eq_add_neg]; exact h.add k.neg
theorem Bd.lit {x : Int} (h : x.natAbs < 18446744073709551616) : Bd 64 x := h
theorem Bd.of {n : Nat} {x : Int} (h : x.natAbs < 2 ^ n) : Bd n x := h
theorem Bd.nat {n : Nat} {x : Nat} (h : x < 2 ^ n) : Bd n (x : Int) := by unfold Bd; rwa [Int.natAbs_natCast]
theorem Bd.ediv {n : Nat} {x : Int} (y : Int) (h : Bd n x) : Bd (n + 1) (x / y) := by
  unfold Bd at *
  have : (x / y).natAbs ≤ x.natAbs := Int.natAbs_ediv_le_natAbs x y
  rw [Nat.pow_succ]; omega
theorem cmulW {n m : Nat} {x y : Int} (h : Bd n x) (k : Bd m y) (l : n + m + 2 ≤ 1000000) : CMulW x y :=
  wide_mul (h.mono (Nat.le_succ n)) (k.mono (Nat.le_succ m)) (by omega) (by omega) (by omega)
theorem cdivW {n : Nat} {x y : Int} (h0 : 0 < y) (h : Bd n y) (l : n + 1 ≤ 9000) : CDivW x y := wide_div h0 (h.mono (Nat.le_succ n)) (by omega) l
theorem cmulR {x y : Int} (h : -(2 ^ 64) < y ∧ y < 2 ^ 64) : CMul x y := .inr h
theorem cmulL {x y : Int} (h : -(2 ^ 64) < x ∧ x < 2 ^ 64) : CMul x y := .inl h
theorem gcdI_pos {a b : Int} (h : a ≠ 0 ∨ b ≠ 0) : 0 < gcdI a b := by
  unfold gcdI
  have : 0 < Nat.gcd a.natAbs b.natAbs := by
    rcases h with h | h
    · exact Nat.gcd_pos_of_pos_left _ (by omega)
    · exact Nat.gcd_pos_of_pos_right _ (by omega)
  omega
theorem gcdI_le_right {a b : Int} (h : b ≠ 0) : gcdI a b ≤ b.natAbs := by
  unfold gcdI
  have := Nat.gcd_le_right (m := a.natAbs) (n := b.natAbs) (by omega)
  omega
theorem ite_nt {A B : Prop} (h : B) : if (!true) = true then A else B := iteF h
theorem ite_nf {A B : Prop} (h : A) : if (!false) = true then A else B := iteT h
theorem len_ok {α : Type} {xs : List α} (h : Nat.ble xs.length 100000 = true) : xs.length ≤ 100000 := Nat.le_of_ble_eq_true h
theorem ds_cut {K : Fg} {b : Option Addr} {δ : LS} {ts tu : TS} {P : Po} (M : LS → Prop) (h1 : Ds K b ts δ { P with nx := M }) (h2 : ∀ δ', M δ' → Ds K b tu δ' P) : Ds K b (tSeq ts tu) δ P := fun B F H σ D S E =>
  h1 B F H σ { D with nx := tu D } S ⟨fun F2 H2 σ2 δ2 hm S2 e => h2 δ2 hm B F2 H2 σ2 D S2 (E.mono e), E.rt, E.bk, E.ct, E.rn, E.rs⟩
theorem cut_ints (ns : List Int) (lo hi : Option Int) : ∃ ms : List Int, cutD (ns.map PyData.int) lo hi = ms.map PyData.int ∧ ms.length ≤ ns.length := by
  refine ⟨(ns.drop (HT.sIx (ns.map PyData.int).length 0 lo)).take (HT.sIx (ns.map PyData.int).length (ns.map PyData.int).length hi - HT.sIx (ns.map PyData.int).length 0 lo), ?_, ?_⟩
  · unfold cutD
    rw [List.map_take, List.map_drop]
  · rw [List.length_take, List.length_drop]; omega
theorem getD_ints {ns : List Int} {j : Nat} (h : j < (ns.map PyData.int).length) : (ns.map PyData.int).getD j .none = .int (ns.getD j 0) := by
  have h' : j < ns.length := by simpa using h
  rw [List.getD_eq_getElem?_getD, List.getD_eq_getElem?_getD, List.getElem?_map, List.getElem?_eq_getElem h']
  rfl
theorem at_ints {ns : List Int} {i : Nat} (h : i < ns.length) : atI (ns.map PyData.int) (i : Int) = some (.int (ns.getD i 0)) := by
  apply atI_nat
  rw [List.getElem?_map, List.getElem?_eq_getElem h, List.getD_eq_getElem?_getD, List.getElem?_eq_getElem h]
  rfl
theorem len_lt {α : Type} {a : Nat} {xs : List α} (h : Nat.ble (a + 1) xs.length = true) : a < xs.length := Nat.le_of_ble_eq_true h
theorem dt_orV {K : Fg} {b : Option Addr} {δ : LS} {t u : TT} {R : Bool → LS → Prop} (c2 : Bool) (h1 : Dt K b t δ fun c δ1 => δ1 = δ ∧ R (c || c2) δ) (h2 : Dt K b u δ fun c δ1 => c = c2 ∧ δ1 = δ) : Dt K b (tOr t u) δ R :=
  fun B F H σ S Q q => h1 B F H σ S _ fun c F1 H1 δ1 r1 S1 e1 => by
    obtain ⟨rfl, r1⟩ := r1
    cases c with
    | true =>
      show Q true H1
      exact q true F1 H1 _ r1 S1 e1
    | false =>
      show u σ H1 Q
      refine h2 B F1 H1 σ S1 Q fun c F2 H2 δ2 r2 S2 e2 => ?_
      obtain ⟨rfl, rfl⟩ := r2
      exact q c F2 H2 _ r1 S2 (e1.trans e2)
theorem dt_andV {K : Fg} {b : Option Addr} {δ : LS} {t u : TT} {R : Bool → LS → Prop} (c2 : Bool) (h1 : Dt K b t δ fun c δ1 => δ1 = δ ∧ R (c && c2) δ) (h2 : Dt K b u δ fun c δ1 => c = c2 ∧ δ1 = δ) : Dt K b (tAnd t u) δ R :=
  fun B F H σ S Q q => h1 B F H σ S _ fun c F1 H1 δ1 r1 S1 e1 => by
    obtain ⟨rfl, r1⟩ := r1
    cases c with
    | false =>
      show Q false H1
      exact q false F1 H1 _ r1 S1 e1
    | true =>
      show u σ H1 Q
      refine h2 B F1 H1 σ S1 Q fun c F2 H2 δ2 r2 S2 e2 => ?_
      obtain ⟨rfl, rfl⟩ := r2
      exact q c F2 H2 _ r1 S2 (e1.trans e2)
/-- x if t else y, both ways told by one word -/
theorem de_ifM {K : Fg} {b : Option Addr} {δ : LS} {t : TT} {ta tb : TE} {R : AV → LS → Prop} (M : AV → Prop) (h : Dt K b t δ fun c δ1 => if c = true then De K b ta δ1 (fun a δ2 => δ2 = δ ∧ M a) else De K b tb δ1 (fun a δ2 => δ2 = δ ∧ M a)) (k : ∀ a, M a → R a δ) : De K b (tIf t ta tb) δ R :=
  de_if (fun B F H σ S Q q => h B F H σ S Q fun c F2 H2 δ2 r S2 e => q c F2 H2 δ2 (by
    cases c with
    | true =>
      have r' : De K b ta δ2 (fun a δ3 => δ3 = δ ∧ M a) := r
      exact iteT (fun B F H σ S Q q => r' B F H σ S Q fun v F3 H3 a δ3 r3 S3 e3 w3 => q v F3 H3 a δ3 (by obtain ⟨rfl, hm⟩ := r3; exact k a hm) S3 e3 w3)
    | false =>
      have r' : De K b tb δ2 (fun a δ3 => δ3 = δ ∧ M a) := r
      exact iteF (fun B F H σ S Q q => r' B F H σ S Q fun v F3 H3 a δ3 r3 S3 e3 w3 => q v F3 H3 a δ3 (by obtain ⟨rfl, hm⟩ := r3; exact k a hm) S3 e3 w3)) S2 e)
/-- the loop over data that stays data -/
theorem ds_forL' {K : Fg} {b : Option Addr} {δ : LS} {te : TE} {ts : TS} {g : TG} {P : Po} (Pv : List PyData → Nat → LS → Prop) (h : De K b te δ (toD fun x δ1 => ∃ xs, x = .list xs ∧ Turn1 K b g ts P xs.length (fun i => xs.getD i .none) δ1 (Pv xs))) : Ds K b (tFor (iList K te) g ts) δ P := ds_forL Pv h
end Ab

set_option linter.all false
namespace M82
def ch : Nat → Nat → Nat
  | _, 0 => 1
  | 0, _ + 1 => 0
  | n + 1, k + 1 => ch n k + ch n (k + 1)
def chN (n : Nat) : Nat → Nat
  | 0 => 1
  | j + 1 => chN n j * (n - j) / (j + 1)
def Ps : List Nat := [2, 3, 5, 7, 11, 13]
theorem ps2 {p : Nat} (h : p ∈ Ps) : 2 ≤ p ∧ p ≤ 13 := by
  simp [Ps] at h; omega
theorem chN_ch : ∀ n, n < 13 → ∀ j, j ≤ n → chN n j = ch n j ∧ chN n j < 2 ^ 20 := by decide +kernel
theorem F0 : ∀ n, n < 13 → ∀ k, k < 13 → n < k → ch n k = 0 := by decide +kernel
theorem F1 : ∀ p ∈ Ps, ∀ b, b < p → 0 < b → ch p b % p = 0 := by decide +kernel
theorem F2 : ∀ p ∈ Ps, ∀ a, a < p → ∀ b, b < p → b ≤ a → ch a b % p ≠ 0 := by decide +kernel
theorem F3 : ∀ p ∈ Ps, ∀ b, b < p → ch (p - 1) b % p = (if b % 2 = 0 then 1 else p - 1) % p := by decide +kernel
theorem F4 : ∀ p ∈ Ps, ∀ x, x < p → ∀ y, y < p → x ≠ 0 → y ≠ 0 → x * y % p ≠ 0 := by decide +kernel
theorem F5 : ∀ n, n < 13 → ∀ k, k ≤ n → ch n k = ch n (n - k) := by decide +kernel
theorem F6 : ∀ n, n < 13 → ch n 0 = 1 ∧ ch n n = 1 := by decide +kernel
theorem F7 : ∀ p ∈ Ps, p = 2 ∨ p % 2 = 1 := by decide +kernel
/-- the digits' product -/
def Lc (p n k : Nat) : Nat := if h : p < 2 ∨ (n = 0 ∧ k = 0) then 1 else ch (n % p) (k % p) * Lc p (n / p) (k / p) % p
termination_by n + k
decreasing_by
  have hp : 2 ≤ p := by omega
  have a := Nat.div_le_self n p
  have b := Nat.div_le_self k p
  rcases Nat.eq_zero_or_pos n with z | z
  · have := Nat.div_lt_self (show 0 < k by omega) (show 1 < p by omega); omega
  · have := Nat.div_lt_self z (show 1 < p by omega); omega
theorem Lc0 (p : Nat) : Lc p 0 0 = 1 := by rw [Lc]; simp
theorem LcS {p n k : Nat} (hp : 2 ≤ p) (h : 0 < n + k) : Lc p n k = ch (n % p) (k % p) * Lc p (n / p) (k / p) % p := by
  rw [Lc, dif_neg (by omega)]
theorem Lc_lt {p : Nat} (hp : 2 ≤ p) (n k : Nat) : Lc p n k < p := by
  rw [Lc]
  split
  · omega
  · exact Nat.mod_lt _ (by omega)
/-- always, by one digit -/
theorem Lc1 {p : Nat} (hp : p ∈ Ps) (n k : Nat) : Lc p n k = ch (n % p) (k % p) * Lc p (n / p) (k / p) % p := by
  have h2 := ps2 hp
  by_cases h : n = 0 ∧ k = 0
  · obtain ⟨rfl, rfl⟩ := h
    simp [Lc0, ch, Nat.mod_eq_of_lt (show 1 < p by omega)]
  · exact LcS h2.1 (by omega)
theorem digits {p a b : Nat} (h : b < p) : (p * a + b) % p = b ∧ (p * a + b) / p = a := by
  constructor
  · rw [Nat.mul_add_mod, Nat.mod_eq_of_lt h]
  · rw [Nat.mul_add_div (by omega), Nat.div_eq_of_lt h, Nat.add_zero]
theorem Lcd {p : Nat} (hp : p ∈ Ps) {n1 a k1 b : Nat} (ha : a < p) (hb : b < p) : Lc p (p * n1 + a) (p * k1 + b) = ch a b * Lc p n1 k1 % p := by
  rw [Lc1 hp, (digits ha).1, (digits ha).2, (digits hb).1, (digits hb).2]
theorem ch0 (n : Nat) : ch n 0 = 1 := by cases n <;> rfl
theorem chS (n k : Nat) : ch (n + 1) (k + 1) = ch n k + ch n (k + 1) := rfl
theorem zmod {a b p : Nat} (h : a % p = 0) : a * b % p = 0 := by rw [Nat.mul_mod, h, Nat.zero_mul, Nat.zero_mod]
/-- the rule of Pascal -/
theorem pascal {p : Nat} (hp : p ∈ Ps) : ∀ n k : Nat, 0 < k → 0 < n → Lc p n k = (Lc p (n - 1) (k - 1) + Lc p (n - 1) k) % p := by
  have h2 := ps2 hp
  intro n
  induction n using Nat.strongRecOn with
  | ind n ih =>
    intro k k0 n0
    obtain ⟨n1, a, ha, rfl⟩ : ∃ n1 a, a < p ∧ n = p * n1 + a := ⟨n / p, n % p, Nat.mod_lt _ (by omega), (Nat.div_add_mod n p).symm⟩
    obtain ⟨k1, b, hb, rfl⟩ : ∃ k1 b, b < p ∧ k = p * k1 + b := ⟨k / p, k % p, Nat.mod_lt _ (by omega), (Nat.div_add_mod k p).symm⟩
    rw [Lcd hp ha hb]
    cases a with
    | succ a =>
      have e1 : p * n1 + (a + 1) - 1 = p * n1 + a := by omega
      rw [e1]
      cases b with
      | succ b =>
        have e2 : p * k1 + (b + 1) - 1 = p * k1 + b := by omega
        rw [e2, Lcd hp (show a < p by omega) (show b < p by omega), Lcd hp (show a < p by omega) hb, chS, Nat.add_mul, Nat.add_mod]
      | zero =>
        obtain ⟨k2, rfl⟩ : ∃ k2, k1 = k2 + 1 := ⟨k1 - 1, by
          rcases Nat.eq_zero_or_pos k1 with z | z
          · subst z; omega
          · omega⟩
        have e2 : p * (k2 + 1) + 0 - 1 = p * k2 + (p - 1) := by rw [Nat.mul_add]; omega
        rw [e2, Lcd hp (show a < p by omega) (show p - 1 < p by omega), Lcd hp (show a < p by omega) hb, ch0, ch0, F0 a (by omega) (p - 1) (by omega) (by omega)]
        simp
    | zero =>
      obtain ⟨n2, rfl⟩ : ∃ n2, n1 = n2 + 1 := ⟨n1 - 1, by
        rcases Nat.eq_zero_or_pos n1 with z | z
        · subst z; omega
        · omega⟩
      have e1 : p * (n2 + 1) + 0 - 1 = p * n2 + (p - 1) := by rw [Nat.mul_add]; omega
      rw [e1]
      cases b with
      | succ b =>
        have e2 : p * k1 + (b + 1) - 1 = p * k1 + b := by omega
        rw [e2, Lcd hp (show p - 1 < p by omega) (show b < p by omega), Lcd hp (show p - 1 < p by omega) hb, ← Nat.add_mod, ← Nat.add_mul]
        have c := chS (p - 1) b
        rw [show p - 1 + 1 = p by omega] at c
        rw [← c, F0 0 (by omega) (b + 1) (by omega) (by omega)]
        rw [zmod (F1 p hp (b + 1) hb (by omega))]
        simp
      | zero =>
        obtain ⟨k2, rfl⟩ : ∃ k2, k1 = k2 + 1 := ⟨k1 - 1, by
          rcases Nat.eq_zero_or_pos k1 with z | z
          · subst z; omega
          · omega⟩
        have e2 : p * (k2 + 1) + 0 - 1 = p * k2 + (p - 1) := by rw [Nat.mul_add]; omega
        rw [e2, Lcd hp (show p - 1 < p by omega) (show p - 1 < p by omega), Lcd hp (show p - 1 < p by omega) hb, ch0, ch0, (F6 (p - 1) (by omega)).2, ← Nat.add_mod]
        have := ih (n2 + 1) (by
          have := Nat.mul_le_mul_right (n2 + 1) h2.1
          omega) (k2 + 1) (by omega) (by omega)
        simp only [Nat.add_sub_cancel] at this
        rw [Nat.one_mul, Nat.one_mul, Nat.one_mul, this, Nat.mod_mod]
theorem Lc_nn {p : Nat} (hp : p ∈ Ps) : ∀ n : Nat, Lc p n n = 1 := by
  have h2 := ps2 hp
  intro n
  induction n using Nat.strongRecOn with
  | ind n ih =>
    rcases Nat.eq_zero_or_pos n with z | z
    · subst z; exact Lc0 p
    · rw [LcS h2.1 (by omega), (F6 (n % p) (by have := Nat.mod_lt n (show 0 < p by omega); omega)).2, ih (n / p) (Nat.div_lt_self z (by omega))]
      exact Nat.mod_eq_of_lt (by omega)
theorem symm {p : Nat} (hp : p ∈ Ps) : ∀ n k : Nat, k ≤ n → Lc p n k = Lc p n (n - k) := by
  have h2 := ps2 hp
  intro n
  induction n using Nat.strongRecOn with
  | ind n ih =>
    intro k hk
    rcases Nat.eq_zero_or_pos n with z | z
    · subst z
      have : k = 0 := by omega
      subst this; rfl
    obtain ⟨n1, a, ha, rfl⟩ : ∃ n1 a, a < p ∧ n = p * n1 + a := ⟨n / p, n % p, Nat.mod_lt _ (by omega), (Nat.div_add_mod n p).symm⟩
    obtain ⟨k1, b, hb, rfl⟩ : ∃ k1 b, b < p ∧ k = p * k1 + b := ⟨k / p, k % p, Nat.mod_lt _ (by omega), (Nat.div_add_mod k p).symm⟩
    rw [Lcd hp ha hb]
    by_cases c : b ≤ a
    · have l : k1 ≤ n1 := by
        rcases Nat.lt_or_ge n1 k1 with q | q
        · have : p * (n1 + 1) ≤ p * k1 := Nat.mul_le_mul_left p q
          rw [Nat.mul_add] at this
          omega
        · exact q
      have e : p * n1 + a - (p * k1 + b) = p * (n1 - k1) + (a - b) := by
        rw [Nat.mul_sub]
        have := Nat.mul_le_mul_left p l
        omega
      rw [e, Lcd hp ha (show a - b < p by omega), ← F5 a (by omega) b c]
      rcases Nat.eq_zero_or_pos n1 with y | y
      · subst y
        have : k1 = 0 := by omega
        subst this
        rfl
      · rw [ih n1 (by have := Nat.mul_le_mul_right n1 h2.1; omega) k1 l]
    · have l : k1 < n1 := by
        rcases Nat.lt_or_ge k1 n1 with q | q
        · exact q
        · have := Nat.mul_le_mul_left p q
          omega
      have e : p * n1 + a - (p * k1 + b) = p * (n1 - k1 - 1) + (a + p - b) := by
        have h1 : p * n1 = p * k1 + p * (n1 - k1 - 1) + p := by
          rw [← Nat.mul_add, ← Nat.mul_succ]; congr 1; omega
        omega
      rw [e, Lcd hp ha (show a + p - b < p by omega), F0 a (by omega) b (by omega) (by omega), F0 a (by omega) (a + p - b) (by omega) (by omega)]
      simp
/-- the carries -/
def car (p a b c place : Nat) : List Nat := if h : p < 2 ∨ 2 ≤ c ∨ (a = 0 ∧ b = 0 ∧ c = 0) then [] else
  if p ≤ a % p + b % p + c then place :: car p (a / p) (b / p) 1 (place + 1) else car p (a / p) (b / p) 0 (place + 1)
termination_by a + b + c
decreasing_by
  · rename_i q
    have h1 := Nat.div_add_mod a p
    have h2 := Nat.div_add_mod b p
    have l1 := Nat.mul_le_mul_right (a / p) (show 2 ≤ p by omega)
    have l2 := Nat.mul_le_mul_right (b / p) (show 2 ≤ p by omega)
    omega
  · rename_i q
    have h1 := Nat.div_add_mod a p
    have h2 := Nat.div_add_mod b p
    have l1 := Nat.mul_le_mul_right (a / p) (show 2 ≤ p by omega)
    have l2 := Nat.mul_le_mul_right (b / p) (show 2 ≤ p by omega)
    omega
theorem car0 (p place : Nat) : car p 0 0 0 place = [] := by rw [car]; simp
theorem carS {p a b c : Nat} (hp : 2 ≤ p) (hc : c < 2) (h : 0 < a + b + c) (place : Nat) : car p a b c place = if p ≤ a % p + b % p + c then place :: car p (a / p) (b / p) 1 (place + 1) else car p (a / p) (b / p) 0 (place + 1) := by
  rw [car, dif_neg (by omega)]
theorem car_sum {p a b c : Nat} (hp : 2 ≤ p) (hc : c < 2) : a / p + b / p + (if p ≤ a % p + b % p + c then 1 else 0) = (a + b + c) / p := by
  have h1 := Nat.div_add_mod a p
  have h2 := Nat.div_add_mod b p
  have l1 := Nat.mod_lt a (show 0 < p by omega)
  have l2 := Nat.mod_lt b (show 0 < p by omega)
  have e : a + b + c = p * (a / p + b / p) + (a % p + b % p + c) := by rw [Nat.mul_add]; omega
  rw [e, Nat.mul_add_div (by omega)]
  split
  · rename_i q
    have : (a % p + b % p + c) / p = 1 := by
      apply Nat.div_eq_of_lt_le <;> omega
    omega
  · rename_i q
    rw [Nat.div_eq_of_lt (show a % p + b % p + c < p by omega)]
theorem car_comm {p : Nat} (hp : 2 ≤ p) : ∀ (m a b c place : Nat), a + b + c ≤ m → c < 2 → car p a b c place = car p b a c place := by
  intro m
  induction m with
  | zero =>
    intro a b c place h _
    have h1 : a = 0 := by omega
    have h2 : b = 0 := by omega
    have h3 : c = 0 := by omega
    subst h1; subst h2; subst h3; rfl
  | succ m ih =>
    intro a b c place h hc
    by_cases z : a + b + c = 0
    · have h1 : a = 0 := by omega
      have h2 : b = 0 := by omega
      subst h1; subst h2; rfl
    have s := car_sum (a := a) (b := b) hp hc
    have l : (a + b + c) / p < a + b + c := Nat.div_lt_self (by omega) (by omega)
    rw [carS hp hc (by omega), carS hp hc (by omega)]
    rw [Nat.add_comm (b % p) (a % p)]
    split
    · rename_i q
      rw [if_pos q] at s
      rw [ih _ _ _ _ (by omega) (by omega)]
    · rename_i q
      rw [if_neg q] at s
      rw [ih _ _ _ _ (by omega) (by omega)]
/-- none is carried just where the prime does not divide -/
theorem car_nil {p : Nat} (hp : p ∈ Ps) : ∀ (m a b place : Nat), a + b ≤ m → (car p a b 0 place = [] ↔ Lc p (a + b) a ≠ 0) := by
  have h2 := ps2 hp
  intro m
  induction m with
  | zero =>
    intro a b place h
    have h1 : a = 0 := by omega
    have h2 : b = 0 := by omega
    subst h1; subst h2
    simp [car0, Lc0]
  | succ m ih =>
    intro a b place h
    by_cases z : a + b = 0
    · have h1 : a = 0 := by omega
      have h2 : b = 0 := by omega
      subst h1; subst h2
      simp [car0, Lc0]
    rw [carS h2.1 (by omega) (by omega)]
    obtain ⟨a1, x, hx, ea⟩ : ∃ n1 a', a' < p ∧ a = p * n1 + a' := ⟨a / p, a % p, Nat.mod_lt _ (by omega), (Nat.div_add_mod a p).symm⟩
    obtain ⟨b1, y, hy, eb⟩ : ∃ n1 a', a' < p ∧ b = p * n1 + a' := ⟨b / p, b % p, Nat.mod_lt _ (by omega), (Nat.div_add_mod b p).symm⟩
    rw [ea, eb, (digits hx).1, (digits hx).2, (digits hy).1, (digits hy).2, Nat.add_zero]
    by_cases q : p ≤ x + y
    · rw [if_pos q]
      have e : p * a1 + x + (p * b1 + y) = p * (a1 + b1 + 1) + (x + y - p) := by rw [Nat.mul_add, Nat.mul_add]; omega
      rw [e, Lcd hp (show x + y - p < p by omega) hx, F0 (x + y - p) (by omega) x (by omega) (by omega)]
      simp
    · rw [if_neg q]
      have e : p * a1 + x + (p * b1 + y) = p * (a1 + b1) + (x + y) := by rw [Nat.mul_add]; omega
      rw [e, Lcd hp (show x + y < p by omega) hx]
      have l : a1 + b1 ≤ m := by
        have := Nat.mul_le_mul_right (a1 + b1) h2.1
        rw [Nat.mul_add] at this
        have e3 : p * (a1 + b1) = p * a1 + p * b1 := Nat.mul_add _ _ _
        omega
      rw [ih a1 b1 (place + 1) l]
      have c1 := F2 p hp (x + y) (by omega) x hx (by omega)
      constructor
      · intro hn
        have := F4 p hp _ (Nat.mod_lt (ch (x + y) x) (show 0 < p by omega)) _ (Lc_lt h2.1 (a1 + b1) a1) c1 hn
        rwa [Nat.mod_mul_mod] at this
      · intro hn h0
        rw [h0] at hn
        simp at hn
theorem Lc_pow {p : Nat} (hp : p ∈ Ps) : ∀ e j : Nat, j ≤ p ^ e → Lc p (p ^ e) j = if j = 0 ∨ j = p ^ e then 1 else 0 := by
  have h2 := ps2 hp
  intro e
  induction e with
  | zero =>
    intro j hj
    have : j = 0 ∨ j = 1 := by rw [Nat.pow_zero] at hj; omega
    rcases this with rfl | rfl
    · rw [if_pos (.inl rfl), Nat.pow_zero, LcS h2.1 (by omega), Nat.zero_mod, ch0, Nat.div_eq_of_lt (show 1 < p by omega), Nat.zero_div, Lc0]
      exact Nat.mod_eq_of_lt (by omega)
    · rw [if_pos (.inr rfl)]
      exact Lc_nn hp 1
  | succ e ih =>
    intro j hj
    obtain ⟨j1, b, hb, rfl⟩ : ∃ j1 b, b < p ∧ j = p * j1 + b := ⟨j / p, j % p, Nat.mod_lt _ (by omega), (Nat.div_add_mod j p).symm⟩
    have pe : p ^ (e + 1) = p * p ^ e + 0 := by rw [Nat.pow_succ, Nat.mul_comm, Nat.add_zero]
    rw [pe] at hj ⊢
    rw [Lcd hp (show 0 < p by omega) hb]
    cases b with
    | zero =>
      have l : j1 ≤ p ^ e := Nat.le_of_mul_le_mul_left (show p * j1 ≤ p * p ^ e by omega) (by omega)
      rw [ch0, Nat.one_mul, ih j1 l]
      have c : (p * j1 + 0 = 0 ∨ p * j1 + 0 = p * p ^ e + 0) ↔ (j1 = 0 ∨ j1 = p ^ e) := by
        rw [Nat.add_zero, Nat.add_zero]
        constructor
        · rintro (h | h)
          · rcases Nat.mul_eq_zero.mp h with z | z
            · omega
            · exact .inl z
          · exact .inr (Nat.eq_of_mul_eq_mul_left (by omega) h)
        · rintro (h | h)
          · subst h; exact .inl (Nat.mul_zero _)
          · subst h; exact .inr rfl
      by_cases q : j1 = 0 ∨ j1 = p ^ e
      · rw [if_pos q, if_pos (c.mpr q)]; exact Nat.mod_eq_of_lt (by omega)
      · rw [if_neg q, if_neg (fun z => q (c.mp z))]; exact Nat.zero_mod _
    | succ b =>
      rw [F0 0 (by omega) (b + 1) (by omega) (by omega), Nat.zero_mul, Nat.zero_mod, if_neg]
      rintro (h | h)
      · omega
      · have h1 := congrArg (· % p) h
        simp only [(digits hb).1, (digits (show 0 < p by omega)).1] at h1
        omega
def sg (p j : Nat) : Nat := (if j % 2 = 0 then 1 else p - 1) % p
theorem Lc_pow1 {p : Nat} (hp : p ∈ Ps) : ∀ e j : Nat, j < p ^ e → Lc p (p ^ e - 1) j = sg p j := by
  have h2 := ps2 hp
  intro e
  induction e with
  | zero =>
    intro j hj
    have : j = 0 := by rw [Nat.pow_zero] at hj; omega
    subst this
    simp [Lc0, sg, Nat.mod_eq_of_lt (show 1 < p by omega)]
  | succ e ih =>
    intro j hj
    obtain ⟨j1, b, hb, rfl⟩ : ∃ j1 b, b < p ∧ j = p * j1 + b := ⟨j / p, j % p, Nat.mod_lt _ (by omega), (Nat.div_add_mod j p).symm⟩
    have pp : 0 < p ^ e := Nat.pow_pos (by omega)
    have pe : p ^ (e + 1) - 1 = p * (p ^ e - 1) + (p - 1) := by
      rw [Nat.pow_succ, Nat.mul_comm, Nat.mul_sub]
      have := Nat.mul_le_mul_left p pp
      omega
    have l : j1 < p ^ e := by
      rcases Nat.lt_or_ge j1 (p ^ e) with q | q
      · exact q
      · have := Nat.mul_le_mul_left p q
        have e2 : p ^ (e + 1) = p * p ^ e := by rw [Nat.pow_succ, Nat.mul_comm]
        omega
    rw [pe, Lcd hp (show p - 1 < p by omega) hb, ih j1 l, Nat.mul_mod, F3 p hp b hb]
    unfold sg
    rcases F7 p hp with r | r
    · subst r
      rcases Nat.mod_two_eq_zero_or_one b with z | z <;> rcases Nat.mod_two_eq_zero_or_one j1 with y | y <;> rcases Nat.mod_two_eq_zero_or_one (2 * j1 + b) with x | x <;> rw [z, y, x] <;> decide
    · have pj : (p * j1 + b) % 2 = (j1 % 2 + b % 2) % 2 := by
        rw [Nat.add_mod, Nat.mul_mod, r, Nat.one_mul, Nat.mod_mod, Nat.add_mod, Nat.mod_mod]
      have m1 : (p - 1) * (p - 1) % p = 1 := by
        obtain ⟨q, rfl⟩ : ∃ q, p = q + 2 := ⟨p - 2, by omega⟩
        have : (q + 2 - 1) * (q + 2 - 1) = (q + 2) * q + 1 := by
          rw [show q + 2 - 1 = q + 1 by omega, Nat.add_mul, Nat.mul_add, Nat.add_mul]; omega
        rw [this, (digits (show 1 < q + 2 by omega)).1]
      rcases Nat.mod_two_eq_zero_or_one b with z | z <;> rcases Nat.mod_two_eq_zero_or_one j1 with y | y
      all_goals
        rw [z, y] at pj
        simp only [pj, z, y]
        simp [Nat.mod_eq_of_lt (show 1 < p by omega), Nat.mod_eq_of_lt (show p - 1 < p by omega), m1]
/-- how often in a product -/
def oip (p n : Nat) : Nat := if h : p < 2 ∨ n = 0 then 0 else n / p + oip p (n / p)
termination_by n
decreasing_by exact Nat.div_lt_self (by omega) (by omega)
theorem oip0 (p : Nat) : oip p 0 = 0 := by rw [oip]; simp
theorem oipS {p n : Nat} (hp : 2 ≤ p) (h : 0 < n) : oip p n = n / p + oip p (n / p) := by rw [oip, dif_neg (by omega)]
theorem oip_mul {p n : Nat} (hp : 2 ≤ p) (h : 0 < n) : oip p (p * n) = n + oip p n := by
  rw [oipS hp (Nat.mul_pos (by omega) h), Nat.mul_div_cancel_left n (by omega)]
end M82

set_option Elab.async false
set_option linter.all false
set_option maxRecDepth 100000
set_option maxHeartbeats 4000000
namespace My
open PySem PySem.Spec PyProof.Rows L2 Ab
def topS (i : Nat) : Stmt := PySem.Challenge.pw_numberwright_k82_whole_rows_of_choices.main.body.getD i (.Pass ⟨0, 0, 0, 0⟩)
local macro_rules | `(tactic| walk_at "rfl1") => `(tactic| first | rfl | exact rfl)
local macro_rules | `(tactic| walk_at "ab") => `(tactic| first
  | with_reducible refine toD_d ?_
  | ((with_reducible refine' de_var ?hv ?_); (case' hv => exact rfl))
  | with_reducible refine de_ci ?_
  | with_reducible refine de_I0 ?_
  | with_reducible refine de_IC ?_
  | with_reducible refine de_B0 ?_
  | with_reducible refine da_cons ?_
  | with_reducible refine da_nil ?_
  | with_reducible refine dt_test ?_
  | with_reducible refine de_call ?_
  | with_reducible refine de_ix ?_
  | with_reducible refine de_tup ?_
  | with_reducible refine de_eq (dd_of ?_)
  | with_reducible refine de_ne (dd_of ?_)
  | with_reducible refine (dd_of ?_)
  | with_reducible refine de_U ?_
  | with_reducible refine de_gcd ?_
  | with_reducible refine de_int ?_
  | with_reducible refine de_abs ?_
  | with_reducible refine de_len ?_
  | with_reducible refine de_min2 ?_
  | with_reducible refine de_max2 ?_
  | with_reducible refine de_sum ?_
  | with_reducible refine de_cb ?_
  | with_reducible refine de_cn ?_
  | with_reducible refine de_cs ?_
  | with_reducible refine de_isN (dd_of ?_)
  | with_reducible refine de_notN (dd_of ?_)
  | with_reducible refine de_inI ?_
  | with_reducible refine de_notV ?_
  | with_reducible refine de_tupOf ?_
  | with_reducible refine dt_B ?_
  | with_reducible refine dt_not ?_
  | with_reducible refine dt_yes ?_
  | with_reducible refine dn_list ?_
  | with_reducible refine dn_lst ?_
  | with_reducible refine ds_ret ?_
  | with_reducible refine ds_retN ?_
  | with_reducible refine ds_if ?_
  | with_reducible refine ds_next ?_
  | with_reducible refine ds_par ?_
  | ((with_reducible refine' ds_aug ?hv ?_); (case' hv => exact rfl))
  | ((with_reducible refine' ds_augC ?hv ?_); (case' hv => exact rfl))
  | with_reducible refine dg_name ?_
  | ((with_reducible refine' dg_tup ?hv ?_); (case' hv => exact rfl))
  | with_reducible refine dgs_cons ?_
  | with_reducible refine dgs_nil ?_
  | ((with_reducible refine' ds_setP ?hv ?_); (case' hv => exact ⟨_, rfl⟩))
  | ((with_reducible refine' ds_setO ?hv ?_); (case' hv => exact ⟨_, rfl⟩))
  | ((with_reducible refine' ds_app ?_ ?hv); (case' hv => exact ⟨_, rfl⟩))
  | with_reducible refine ds_own (dn_lst ?_)
  | with_reducible refine ds_own (dn_list ?_)
  | with_reducible refine ds_own (dn_sl ?_)
  | with_reducible refine ds_asg ?_
  | with_reducible refine ds_drop ?_
  | ((with_reducible refine' de_callP ?hv ?_); (case' hv => exact rfl))
  | with_reducible refine dn_sl ?_
  | with_reducible refine de_slT ?_
  | with_reducible refine do_none ?_
  | with_reducible refine do_some ?_
  | with_reducible refine de_ofN (dn_sl ?_)
  | with_reducible refine de_ofN (dn_list ?_)
  | with_reducible refine de_ofN (dn_lst ?_)
  | with_reducible refine iteF ?_
  | with_reducible refine iteT ?_
  | with_reducible refine ite_nt ?_
  | with_reducible refine ite_nf ?_
  | with_reducible refine Exists.intro _ (And.intro rfl ?_)
  | with_reducible refine Exists.intro _ (Exists.intro _ (And.intro rfl ?_))
  | with_reducible refine Exists.intro _ (And.intro seqIn.mkT ?_)
  | with_reducible refine Exists.intro _ (And.intro seqIn.mkL ?_)
  | with_reducible refine Exists.intro _ (And.intro lstIn.mkL ?_)
  | ((with_reducible refine' Exists.intro _ (And.intro (seqIn.mkP ?hv) ?_)); (case' hv => exact rfl))
  | ((with_reducible refine' Exists.intro _ (And.intro (seqIn.mkO ?hv) ?_)); (case' hv => exact rfl))
  | ((with_reducible refine' Exists.intro _ (And.intro (lstIn.mkO ?hv) ?_)); (case' hv => exact rfl))
  | ((with_reducible refine' de_own ?hv ?hm ?_); (case' hv => exact rfl); (case' hm => exact rfl))
  | ((with_reducible refine' toD_o ?hv ?_); (case' hv => exact rfl)))
local macro_rules | `(tactic| walk_at "bd") => `(tactic| repeat' first
  | assumption
  | exact Bd.lit (by decide)
  | apply Bd.mul
  | apply Bd.add
  | apply Bd.sub
  | apply Bd.neg)
local macro_rules | `(tactic| walk_at "sd") => `(tactic| first
  | assumption
  | exact cmulR ⟨by decide, by decide⟩
  | exact cmulL ⟨by decide, by decide⟩
  | exact len_ok rfl
  | exact len_lt rfl
  | exact shaped_int _
  | omega
  | exact cdivW (by first | decide | omega) (Bd.lit (by decide)) (by decide)
  | ((refine' cmulW ?ha ?hb ?hc); (case' ha => walk_at "bd"); (case' hb => walk_at "bd"); (case' hc => first | decide | omega))
  | (show (0 : Int) < _; first | decide | omega | assumption)
  | rfl)
local macro_rules | `(tactic| walk_at "st") => `(tactic| first
  | walk_at "ab"
  | ((with_reducible refine' And.intro ?hs ?_); (case hs => walk_at "sd"))
  | exact len_ok rfl)
local macro_rules | `(tactic| walk_at "br") => `(tactic| first
  | with_reducible refine de_if ?_
  | with_reducible refine dt_and ?_
  | with_reducible refine dt_or ?_
  | with_reducible refine de_andV ?_
  | with_reducible refine de_orV ?_)
local macro_rules | `(tactic| walk_at "go") => `(tactic| repeat first | walk_at "st" | with_reducible refine ds_seq ?_ | walk_at "br")
local macro_rules | `(tactic| walk_at "gp") => `(tactic| repeat first | walk_at "st" | with_reducible refine ds_seq ?_)
local macro_rules | `(tactic| walk_at "ge") => `(tactic| repeat first | walk_at "st" | walk_at "br")
abbrev s_law_pool : Stmt := topS 7
theorem sc_law_pool : FnScope ["script", "salt", "cell"] ["script"] (defScope s_law_pool) := ⟨rfl, rfl, rfl, by decide +kernel, rfl, by decide +kernel, by decide +kernel⟩
abbrev s_law_spread : Stmt := topS 8
theorem sc_law_spread : FnScope ["cell", "blended", "whole_sum", "k"] ["cell"] (defScope s_law_spread) := ⟨rfl, rfl, rfl, by decide +kernel, rfl, by decide +kernel, by decide +kernel⟩
abbrev s_law_draw : Stmt := topS 9
theorem sc_law_draw : FnScope ["pool", "many", "cell", "blended", "value"] ["pool", "many"] (defScope s_law_draw) := ⟨rfl, rfl, rfl, by decide +kernel, rfl, by decide +kernel, by decide +kernel⟩

def φ_law_spread (ds : List PyData) (k : PyData → Prop) : Prop := ∃ c : Int, ds = [.int c] ∧ ∀ r : Int, k (.int r)
theorem φ_law_spread_len (ds k) (h : φ_law_spread ds k) : ds.length = 1 := by obtain ⟨c, rfl, _⟩ := h; rfl
section
local macro_rules | `(tactic| walk_at "ab") => `(tactic| with_reducible refine ds_retF ?_)
variable {P : Program} {w : World} {K : PySem.W.Frag} {mg : Str → Option Value} {base : Heap}
theorem ok_law_pool {f : Addr} {fd : FuncData} (F : Fun K "_law_pool" "_law_pool" s_law_pool f fd) (z_list : mg "list" = none) (z_int : mg "int" = none) : FnOk P w K mg base CX0 1 f fd ["script"] (spPool K) := by
  refine mkPool (k := 0) F sc_law_pool rfl (fun cdv A outer s H E hr => ?_)
  refine ⟨_, (pss_cons (ps_set (i := 1) sc_law_pool.nd rfl (.inl rfl) pe_int)
      (pss_cons (ps_for PassesOwn.never rfl (pi_list (pe_slice sl_list (pv 0) po_none (po_some pe_int))) (pg_name (i := 2) sc_law_pool.nd rfl (.inl rfl)) (pss_one (ps_set (i := 1) sc_law_pool.nd rfl (.inl rfl) (pe_op op_mod (pe_callTy cr_int (by rfl) z_int (by decide +kernel) (pa_cons (pe_op op_add (pe_op op_mul (pv 1) pe_int) (pv 2)) pa_nil)) pe_int))))
      (pss_one (ps_ret (pe_lst (pa_cons (pe_callTy cr_list (by rfl) z_list (by decide +kernel) (pa_cons (pv 0) pa_nil)) (pa_cons pe_int (pa_cons pe_int (pa_cons pe_int (pa_cons (pv 1) pa_nil)))))))))), fun ns hns => ?_⟩
  show Ds K none _ [Sl.dat _, Sl.no, Sl.no] _
  try dsimp only [L2.cxOf, L2.Cx.nox, L2.Cx.wish]
  walk_at "go"
  refine ds_forL (fun xs j δ' => ∃ (a : Int) (s2 : Sl), δ' = [.dat (.list (ns.map PyData.int)), .dat (.int a), s2]) ?_
  walk_at "go"
  obtain ⟨ms, e, _⟩ := cut_ints ns none (some 63)
  rw [e]
  refine ⟨⟨7, _, rfl⟩, fun j δ' hj hp => ?_, fun δ' hp => ?_⟩
  · show Dg K none (gName 2) ((ms.map PyData.int).getD j .none) _ _
    rw [getD_ints hj]
    obtain ⟨a, s2, rfl⟩ := hp
    walk_at "go"
    exact ⟨_, _, rfl⟩
  · obtain ⟨a, s2, rfl⟩ := hp
    walk_at "go"
    exact ⟨_, rfl⟩
end
section
variable {P : Program} {w : World} {K : PySem.W.Frag} {mg : Str → Option Value} {base : Heap}
theorem ok_law_spread {f : Addr} {fd : FuncData} (F : Fun K "_law_spread" "_law_spread" s_law_spread f fd) (z_range : mg "range" = none) (z_int : mg "int" = none) : FnOk P w K mg base CX0 1 f fd ["cell"] (spP K φ_law_spread) := by
  refine mkFn (k := 0) F sc_law_spread φ_law_spread_len (fun cdv A outer s H E hr => ?_)
  refine ⟨_, (pss_cons (ps_set (i := 1) sc_law_spread.nd rfl (.inl rfl) (pe_op op_mod (pe_callTy cr_int (by rfl) z_int (by decide +kernel) (pa_cons (pv 0) pa_nil)) pe_int))
      (pss_cons (ps_set (i := 2) sc_law_spread.nd rfl (.inl rfl) pe_int)
      (pss_cons (ps_for PassesOwn.never rfl (pi_range1 (by rfl) z_range (pa_cons pe_int pa_nil)) (pg_name (i := 3) sc_law_spread.nd rfl (.inl rfl)) (pss_cons (ps_set (i := 1) sc_law_spread.nd rfl (.inl rfl) (pe_op op_mod (pe_callTy cr_int (by rfl) z_int (by decide +kernel) (pa_cons (pe_op op_add (pe_op op_add (pe_op op_mul (pv 1) pe_int) pe_int) (pv 3)) pa_nil)) pe_int))
      (pss_one (ps_set (i := 2) sc_law_spread.nd rfl (.inl rfl) (pe_op op_add (pe_op op_mul (pv 2) pe_int) (pv 1))))))
      (pss_one (ps_ret (pv 2)))))), fun ds kk h => ?_⟩
  obtain ⟨c, rfl, hk⟩ := h
  show Ds K none _ [Sl.dat _, Sl.no, Sl.no, Sl.no] _
  try dsimp only [L2.cxOf, L2.Cx.nox, L2.Cx.wish]
  walk_at "go"
  refine ds_forR1 (fun n j δ' => ∃ (a b c : Int) (s3 : Sl), δ' = [.dat (.int a), .dat (.int b), .dat (.int c), s3]) ?_
  walk_at "go"
  refine ⟨⟨_, _, _, _, rfl⟩, fun j δ' hj hp => ?_, fun δ' hp => ?_⟩
  · obtain ⟨a, b, c, s3, rfl⟩ := hp
    walk_at "go"
    exact ⟨_, _, _, _, rfl⟩
  · obtain ⟨a, b, c, s3, rfl⟩ := hp
    walk_at "go"
    exact hk _
end
section
local macro_rules | `(tactic| walk_at "ab") => `(tactic| with_reducible refine ds_retS ?_)
variable {P : Program} {w : World} {K : PySem.W.Frag} {mg : Str → Option Value} {base : Heap}
theorem ok_law_draw {f : Addr} {fd : FuncData} (F : Fun K "_law_draw" "_law_draw" s_law_draw f fd) (C_law_spread : Cal P w K mg base "_law_spread" 1 ["cell"] (spP K φ_law_spread)) (z_int : mg "int" = none) (z_len : mg "len" = none) : FnOk P w K mg base CX0 2 f fd ["pool", "many"] (spPP K φ_law_draw) := by
  refine mkDraw (k := 1) F sc_law_draw rfl (fun cdv A outer s H E hr => ?_)
  refine ⟨_, (pss_cons (ps_if (PW.pt (pw_and (pt_cmpR op_le (pe_ix ix_sq (pv 0) pe_int (fun _ _ => rfl)) pe_int (nomark _)) (pw_and1 (pt_cmpR op_lt (pe_ix ix_sq (pv 0) pe_int (fun _ _ => rfl)) (pe_callB cr_len (by rfl) z_len PySem.boot_len (pa_cons (pe_ix ix_sq (pv 0) pe_int (fun _ _ => rfl)) pa_nil)) (nomark _))))) (pss_cons (ps_set (i := 2) sc_law_draw.nd rfl (.inl rfl) (pe_ix ix_sq (pe_ix ix_sq (pv 0) pe_int (fun _ _ => rfl)) (pe_ix ix_sq (pv 0) pe_int (fun _ _ => rfl)) (fun _ _ => rfl)))
      (pss_cons (ps_asg (pe_op op_add (pe_ix ix_sq (pv 0) pe_int (fun _ _ => rfl)) pe_int) (pg_sub (pv 0) pe_int set_list))
      (pss_cons (ps_asg (pv 2) (pg_sub (pv 0) pe_int set_list))
      (pss_one (ps_if (pt_cmpR op_lt (pv 2) pe_int (nomark _)) (pss_one (ps_asg (pe_cl C_law_spread hr (by decide) (by rfl) (pa_cons (pv 2) pa_nil)) (pg_sub (pv 0) pe_int set_list))) pss_nil))))) pss_nil)
      (pss_cons (ps_asg (pe_op op_add (pe_ix ix_sq (pv 0) pe_int (fun _ _ => rfl)) pe_int) (pg_sub (pv 0) pe_int set_list))
      (pss_cons (ps_if (pt_cmpR op_le (pe_ix ix_sq (pv 0) pe_int (fun _ _ => rfl)) pe_int (nomark _)) (pss_cons (ps_set (i := 3) sc_law_draw.nd rfl (.inl rfl) (pe_op op_mod (pe_callTy cr_int (by rfl) z_int (by decide +kernel) (pa_cons (pe_op op_add (pe_op op_add (pe_op op_mul (pe_ix ix_sq (pv 0) pe_int (fun _ _ => rfl)) pe_int) (pe_op op_mul (pe_ix ix_sq (pv 0) pe_int (fun _ _ => rfl)) pe_int)) pe_int) pa_nil)) pe_int))
      (pss_cons (ps_set (i := 3) sc_law_draw.nd rfl (.inl rfl) (pe_op op_mod (pe_callTy cr_int (by rfl) z_int (by decide +kernel) (pa_cons (pe_op op_add (pe_op op_mul (pv 3) pe_int) (pe_ix ix_sq (pv 0) pe_int (fun _ _ => rfl))) pa_nil)) pe_int))
      (pss_one (ps_ret (pe_op op_mod (pe_op op_fdivW (pv 3) pe_int) (pv 1)))))) pss_nil)
      (pss_cons (ps_set (i := 4) sc_law_draw.nd rfl (.inl rfl) (pe_op op_mod (pe_callTy cr_int (by rfl) z_int (by decide +kernel) (pa_cons (pe_ix ix_sq (pv 0) pe_int (fun _ _ => rfl)) pa_nil)) (pv 1)))
      (pss_cons (ps_asg (pe_op op_fdivW (pe_ix ix_sq (pv 0) pe_int (fun _ _ => rfl)) (pv 1)) (pg_sub (pv 0) pe_int set_list))
      (pss_one (ps_ret (pv 4)))))))), fun p ns i c kn salt m m0 m9 => ?_⟩
  show Ds K (some p) _ [Sl.pown _, Sl.dat _, Sl.no, Sl.no, Sl.no] _
  try dsimp only [L2.cxOf, L2.Cx.nox, L2.Cx.wish]
  refine ds_cut (fun δ' => ∃ (i : Nat) (c kn salt : Int) (s2 : Sl), δ' = [.pown [.list (ns.map PyData.int), .int i, .int c, .int kn, .int salt], .dat (.int m), s2, .no, .no]) ?_ ?_
  · walk_at "go"
    refine ite_dec (fun h1 => ?_) (fun h1 => ?_)
    · walk_at "go"
      rw [List.length_map]
      refine ite_dec (fun h2 => ?_) (fun h2 => ?_)
      · walk_at "go"
        refine ⟨_, at_ints (by omega), ?_⟩
        walk_at "go"
        refine ite_dec (fun h3 => ?_) (fun h3 => ?_)
        · walk_at "go"
          refine ⟨_, rfl, fun r => ?_⟩
          walk_at "go"
          exact ⟨i + 1, r, kn, salt, _, rfl⟩
        · walk_at "go"
          exact ⟨i + 1, _, kn, salt, _, rfl⟩
      · walk_at "go"
        exact ⟨i, c, kn, salt, _, rfl⟩
    · walk_at "go"
      exact ⟨i, c, kn, salt, _, rfl⟩
  · rintro δ' ⟨i, c, kn, salt, s2, rfl⟩
    walk_at "go"
    refine ite_dec (fun h1 => ?_) (fun h1 => ?_)
    · walk_at "go"
      exact ⟨⟨_, rfl, Int.emod_nonneg _ (by omega), Int.emod_lt_of_pos _ m0⟩, i, c, _, salt, rfl⟩
    · walk_at "go"
      refine ⟨wide_div m0 m9 (by decide) (by decide), ?_⟩
      walk_at "go"
      exact ⟨⟨_, rfl, Int.emod_nonneg _ (by omega), Int.emod_lt_of_pos _ m0⟩, i, _, _, salt, rfl⟩
end

theorem foldl_take {α : Type} (f : Int → α → Int) (z : Int) (ns : List α) (d : α) {j : Nat} (h : j < ns.length) : (ns.take (j + 1)).foldl f z = f ((ns.take j).foldl f z) (ns.getD j d) := by
  rw [List.take_add_one, List.getElem?_eq_getElem h, List.foldl_append, List.getD_eq_getElem?_getD, List.getElem?_eq_getElem h]
  rfl

def φ_law (ds : List PyData) (k : PyData → Prop) : Prop := ∃ ns : List Int, ds = [.list (ns.map PyData.int)] ∧ ns.length ≤ 63 ∧ k (.bool true)
theorem φ_law_len (ds k) (h : φ_law ds k) : ds.length = 1 := by obtain ⟨a, rfl, _⟩ := h; rfl
abbrev s_often_in_product : Stmt := topS 1
theorem sc_often_in_product : FnScope ["n", "p", "found"] ["n", "p"] (defScope s_often_in_product) := ⟨rfl, rfl, rfl, by decide +kernel, rfl, by decide +kernel, by decide +kernel⟩
abbrev s_carries : Stmt := topS 2
theorem sc_carries : FnScope ["a", "b", "p", "found", "place", "carry"] ["a", "b", "p"] (defScope s_carries) := ⟨rfl, rfl, rfl, by decide +kernel, rfl, by decide +kernel, by decide +kernel⟩
abbrev s_often_in_choices : Stmt := topS 3
theorem sc_often_in_choices : FnScope ["n", "k", "p"] ["n", "k", "p"] (defScope s_often_in_choices) := ⟨rfl, rfl, rfl, by decide +kernel, rfl, by decide +kernel, by decide +kernel⟩
abbrev s_choices_of : Stmt := topS 4
theorem sc_choices_of : FnScope ["n", "k", "found", "j"] ["n", "k"] (defScope s_choices_of) := ⟨rfl, rfl, rfl, by decide +kernel, rfl, by decide +kernel, by decide +kernel⟩
abbrev s_choices_rest : Stmt := topS 5
theorem sc_choices_rest : FnScope ["n", "k", "p", "found"] ["n", "k", "p"] (defScope s_choices_rest) := ⟨rfl, rfl, rfl, by decide +kernel, rfl, by decide +kernel, by decide +kernel⟩
abbrev s_law_power : Stmt := topS 10
theorem sc_law_power : FnScope ["base", "many", "value", "k"] ["base", "many"] (defScope s_law_power) := ⟨rfl, rfl, rfl, by decide +kernel, rfl, by decide +kernel, by decide +kernel⟩
abbrev s_law : Stmt := topS 11
theorem sc_law : FnScope ["script", "pool", "p", "n", "k", "above", "power", "j"] ["script"] (defScope s_law) := ⟨rfl, rfl, rfl, by decide +kernel, rfl, by decide +kernel, by decide +kernel⟩

def φ_law_power (ds : List PyData) (k : PyData → Prop) : Prop := ∃ b m : Nat, ds = [.int b, .int m] ∧ (b < 2 ^ 10 ∧ m ≤ 20) ∧ k (.int ((b ^ m : Nat) : Int))
theorem φ_law_power_len (ds k) (h : φ_law_power ds k) : ds.length = 2 := by obtain ⟨a, b, rfl, _⟩ := h; rfl
theorem pow_bd {b m j : Nat} (hb : b < 2 ^ 10) (hm : m ≤ 20) (hj : j ≤ m) : Bd 300 ((b ^ j : Nat) : Int) := by
  have h0 : Bd (1 + 10 * j) ((b ^ j : Nat) : Int) := by
    induction j with
    | zero => rw [Nat.pow_zero]; unfold Bd; decide
    | succ j ih =>
      rw [Nat.pow_succ, Int.natCast_mul]
      exact ((ih (by omega)).mul (Bd.nat hb)).mono (by omega)
  exact h0.mono (by omega)
section
variable {P : Program} {w : World} {K : PySem.W.Frag} {mg : Str → Option Value} {base : Heap}
theorem ok_law_power {f : Addr} {fd : FuncData} (F : Fun K "_law_power" "_law_power" s_law_power f fd) (z_range : mg "range" = none) : FnOk P w K mg base CX0 1 f fd ["base", "many"] (spP K φ_law_power) := by
  refine mkFn (k := 0) F sc_law_power φ_law_power_len (fun cdv A outer s H E hr => ?_)
  refine ⟨_, (pss_cons (ps_set (i := 2) sc_law_power.nd rfl (.inl rfl) pe_int)
      (pss_cons (ps_for PassesOwn.never rfl (pi_range1 (by rfl) z_range (pa_cons (pv 1) pa_nil)) (pg_name (i := 3) sc_law_power.nd rfl (.inl rfl)) (pss_one (ps_set (i := 2) sc_law_power.nd rfl (.inl rfl) (pe_op op_mulW (pv 2) (pv 0)))))
      (pss_one (ps_ret (pv 2))))), fun ds kk h => ?_⟩
  obtain ⟨b, m, rfl, ⟨hb, hm⟩, hk⟩ := h
  show Ds K none _ [Sl.dat _, Sl.dat _, Sl.no, Sl.no] _
  try dsimp only [L2.cxOf, L2.Cx.nox, L2.Cx.wish]
  walk_at "go"
  refine ds_forR1 (fun n j δ' => ∃ s3 : Sl, δ' = [.dat (.int b), .dat (.int m), .dat (.int ((b ^ j : Nat) : Int)), s3]) ?_
  walk_at "go"
  refine ⟨⟨_, rfl⟩, fun j δ' hj hp => ?_, fun δ' hp => ?_⟩
  · obtain ⟨s3, rfl⟩ := hp
    have b1 := pow_bd (j := j) hb hm (by omega)
    have b2 : Bd 10 (b : Int) := Bd.nat hb
    walk_at "go"
    refine ⟨.dat (.int j), ?_⟩
    rw [Nat.pow_succ, Int.natCast_mul]; rfl
  · obtain ⟨s3, rfl⟩ := hp
    walk_at "go"
    rw [Int.toNat_natCast]
    exact hk
end

open M82
theorem CDiv_nat {p : Nat} (hp : p ∈ Ps) (x : Int) : CDivW x (p : Int) := by
  have h := ps2 hp
  exact cdivW (n := 10) (by omega) (Bd.nat (by omega)) (by decide)
def φ_often_in_product (ds : List PyData) (k : PyData → Prop) : Prop := ∃ n q : Nat, ds = [.int n, .int q] ∧ q ∈ Ps ∧ k (.int (oip q n : Nat))
theorem φ_often_in_product_len (ds k) (h : φ_often_in_product ds k) : ds.length = 2 := by obtain ⟨a, b, rfl, _⟩ := h; rfl
def natL (l : List Nat) : List PyData := l.map fun (n : Nat) => PyData.int (n : Int)
def φ_carries (ds : List PyData) (k : PyData → Prop) : Prop := ∃ a b q : Nat, ds = [.int a, .int b, .int q] ∧ (q ∈ Ps ∧ a + b < 2 ^ 50) ∧ k (.list (natL (car q a b 0 0)))
theorem φ_carries_len (ds k) (h : φ_carries ds k) : ds.length = 3 := by obtain ⟨a, b, c, rfl, _⟩ := h; rfl
def φ_often_in_choices (ds : List PyData) (k : PyData → Prop) : Prop := ∃ n j q : Nat, ds = [.int n, .int j, .int q] ∧ (q ∈ Ps ∧ j ≤ n ∧ n < 2 ^ 50) ∧ k (.int ((car q j (n - j) 0 0).length : Nat))
theorem φ_often_in_choices_len (ds k) (h : φ_often_in_choices ds k) : ds.length = 3 := by obtain ⟨a, b, c, rfl, _⟩ := h; rfl
def φ_choices_of (ds : List PyData) (k : PyData → Prop) : Prop := ∃ n j : Nat, ds = [.int n, .int j] ∧ (n < 13 ∧ j ≤ n) ∧ k (.int (ch n j : Nat))
theorem φ_choices_of_len (ds k) (h : φ_choices_of ds k) : ds.length = 2 := by obtain ⟨a, b, rfl, _⟩ := h; rfl
def φ_choices_rest (ds : List PyData) (k : PyData → Prop) : Prop := ∃ n j q : Nat, ds = [.int n, .int j, .int q] ∧ q ∈ Ps ∧ k (.int (Lc q n j : Nat))
theorem φ_choices_rest_len (ds k) (h : φ_choices_rest ds k) : ds.length = 3 := by obtain ⟨a, b, c, rfl, _⟩ := h; rfl
theorem nc_mod (a q : Nat) : (a : Int) % (q : Int) = ((a % q : Nat) : Int) := (Int.natCast_emod a q).symm
theorem nc_div (a q : Nat) : (a : Int) / (q : Int) = ((a / q : Nat) : Int) := (Int.natCast_ediv a q).symm
section
variable {P : Program} {w : World} {K : PySem.W.Frag} {mg : Str → Option Value} {base : Heap}
theorem ok_often_in_product {f : Addr} {fd : FuncData} (F : Fun K "often_in_product" "often_in_product" s_often_in_product f fd) : FnOk P w K mg base CX0 1 f fd ["n", "p"] (spP K φ_often_in_product) := by
  refine mkFn (k := 0) F sc_often_in_product φ_often_in_product_len (fun cdv A outer s H E hr => ?_)
  refine ⟨_, (pss_cons (ps_set (i := 2) sc_often_in_product.nd rfl (.inl rfl) pe_int)
      (pss_cons (ps_while PassesOwn.never (pt_cmpR op_gt (pv 0) pe_int (nomark _)) (pss_cons (ps_aug (i := 0) sc_often_in_product.nd rfl (.inl rfl) (pv 1) Ab.ip_fdiv)
      (pss_one (ps_aug (i := 2) sc_often_in_product.nd rfl (.inl rfl) (pv 0) ip_add))))
      (pss_one (ps_ret (pv 2))))), fun ds kk h => ?_⟩
  obtain ⟨n, q, rfl, hq, hk⟩ := h
  have h2 := ps2 hq
  show Ds K none _ [Sl.dat _, Sl.dat _, Sl.no] _
  try dsimp only [L2.cxOf, L2.Cx.nox, L2.Cx.wish]
  walk_at "go"
  refine ds_while (fun m δ' => ∃ found : Nat, δ' = [.dat (.int (m : Nat)), .dat (.int q), .dat (.int found)] ∧ found + oip q m = oip q n) ⟨n, 0, rfl, by omega⟩ (fun m δ' hw => ?_)
  obtain ⟨found, rfl, inv⟩ := hw
  have dv := CDiv_nat hq
  walk_at "go"
  refine ite_dec (fun c => ?_) (fun c => ?_)
  · walk_at "go"
    refine ⟨dv _, ?_⟩
    walk_at "go"
    have m0 : 0 < m := by omega
    refine ⟨m / q, Nat.div_lt_self m0 (by omega), found + m / q, ?_, ?_⟩
    · rw [nc_div, ← Int.natCast_add]; rfl
    · rw [← inv, oipS (n := m) h2.1 m0]; omega
  · walk_at "go"
    have : m = 0 := by omega
    subst this
    rw [oip0] at inv
    rw [show found = oip q n by omega]
    exact hk
end
section
variable {P : Program} {w : World} {K : PySem.W.Frag} {mg : Str → Option Value} {base : Heap}
theorem ok_carries {f : Addr} {fd : FuncData} (F : Fun K "carries" "carries" s_carries f fd) : FnOk P w K mg base CX0 1 f fd ["a", "b", "p"] (spP K φ_carries) := by
  refine mkFn (k := 0) F sc_carries φ_carries_len (fun cdv A outer s H E hr => ?_)
  refine ⟨_, (pss_cons (ps_set (i := 3) sc_carries.nd rfl (.inl rfl) (pe_lst pa_nil))
      (pss_cons (ps_asg (pe_tup (pa_cons pe_int (pa_cons pe_int pa_nil))) (pg_tup rfl (pgs_cons (pg_name (i := 4) sc_carries.nd rfl (.inl rfl)) (pgs_cons (pg_name (i := 5) sc_carries.nd rfl (.inl rfl)) pgs_nil))))
      (pss_cons (ps_while PassesOwn.never (PW.pt (pw_or (pt_cmpR op_gt (pv 0) pe_int (nomark _)) (pw_or (pt_cmpR op_gt (pv 1) pe_int (nomark _)) (pw_or1 (pt_cmpR op_gt (pv 5) pe_int (nomark _)))))) (pss_cons (ps_set (i := 5) sc_carries.nd rfl (.inl rfl) (pe_ifExp (pt_cmpR op_ge (pe_op op_add (pe_op op_add (pe_op op_mod (pv 0) (pv 2)) (pe_op op_mod (pv 1) (pv 2))) (pv 5)) (pv 2) (nomark _)) pe_int pe_int))
      (pss_cons (ps_if (pt_cmpR (op_eqD hr.units) (pv 5) pe_int (nomark _)) (pss_one (ps_expr (pe_bm PySem.F.plainAttrs_list PySem.F.slot_list_append PySem.F.type_list_append mt_append (pv 3) (pa_cons (pv 4) pa_nil)))) pss_nil)
      (pss_cons (ps_par (i := 0) (j := 1) rfl sc_carries.nd rfl rfl (by decide) rfl rfl (pa_cons (pe_op op_fdivW (pv 0) (pv 2)) (pa_cons (pe_op op_fdivW (pv 1) (pv 2)) pa_nil)) rfl)
      (pss_one (ps_aug (i := 4) sc_carries.nd rfl (.inl rfl) pe_int ip_add))))))
      (pss_one (ps_ret (pv 3)))))), fun ds kk h => ?_⟩
  obtain ⟨a0, b0, q, rfl, ⟨hq, hs⟩, hk⟩ := h
  have h2 := ps2 hq
  show Ds K none _ [Sl.dat _, Sl.dat _, Sl.dat _, Sl.no, Sl.no, Sl.no] _
  try dsimp only [L2.cxOf, L2.Cx.nox, L2.Cx.wish]
  walk_at "go"
  refine ds_while (fun m δ' => ∃ (a b c pl : Nat) (fd : List Nat), δ' = [.dat (.int a), .dat (.int b), .dat (.int q), .own (natL fd), .dat (.int pl), .dat (.int c)] ∧ c < 2 ∧ a + b + c < 2 ^ m ∧ m ≤ 50 ∧ fd.length + m ≤ 50 ∧ fd ++ car q a b c pl = car q a0 b0 0 0) ⟨50, a0, b0, 0, 0, [], rfl, by omega, by omega, by omega, by simp, by simp⟩ (fun m δ' hw => ?_)
  obtain ⟨a, b, c, pl, fd, rfl, hc, hm, m50, hf, inv⟩ := hw
  have dv := CDiv_nat hq
  have nxt : ∀ (x : Nat), x < 2 → x = (if q ≤ a % q + b % q + c then 1 else 0) → 0 < a + b + c → a / q + b / q + x < 2 ^ (m - 1) ∧ 0 < m := by
    intro x hx ex h0
    have s := car_sum (a := a) (b := b) h2.1 hc
    rw [← ex] at s
    have m1 : 0 < m := by
      rcases Nat.eq_zero_or_pos m with z | z
      · subst z; omega
      · exact z
    refine ⟨?_, m1⟩
    rw [s]
    have e : 2 ^ m = 2 * 2 ^ (m - 1) := by rw [← Nat.pow_succ']; congr 1; omega
    apply Nat.div_lt_of_lt_mul
    have := Nat.mul_le_mul_right (2 ^ (m - 1)) h2.1
    omega
  refine dt_orV (decide (0 < (b : Int) ∨ 0 < (c : Int))) ?_ ?_
  · walk_at "go"
    by_cases h0 : 0 < a + b + c
    · have e0 : (decide (0 < (a : Int)) || decide (0 < (b : Int) ∨ 0 < (c : Int))) = true := by
        rw [Bool.or_eq_true, decide_eq_true_iff, decide_eq_true_iff]; omega
      rw [e0]
      have fl : (natL fd).length < 100000 := by unfold natL; rw [List.length_map]; omega
      walk_at "go"
      have step : ∀ x : Nat, x < 2 → x = (if q ≤ a % q + b % q + c then 1 else 0) → ∀ fd' : List Nat, fd'.length + (m - 1) ≤ 50 → fd' ++ car q (a / q) (b / q) x (pl + 1) = car q a0 b0 0 0 →
          ∃ m', m' < m ∧ ∃ (a' b' c' pl' : Nat) (fd'' : List Nat), [Sl.dat (.int ((a : Int) / q)), .dat (.int ((b : Int) / q)), .dat (.int q), .own (natL fd'), .dat (.int ((pl : Int) + 1)), .dat (.int x)] = [Sl.dat (.int a'), .dat (.int b'), .dat (.int q), .own (natL fd''), .dat (.int pl'), .dat (.int c')] ∧ c' < 2 ∧ a' + b' + c' < 2 ^ m' ∧ m' ≤ 50 ∧ fd''.length + m' ≤ 50 ∧ fd'' ++ car q a' b' c' pl' = car q a0 b0 0 0 := by
        intro x hx ex fd' h1 h3
        obtain ⟨z1, z2⟩ := nxt x hx ex h0
        refine ⟨m - 1, by omega, a / q, b / q, x, pl + 1, fd', ?_, hx, z1, by omega, h1, h3⟩
        rw [nc_div, nc_div]; rfl
      have cs := carS h2.1 hc h0 pl
      rw [cs] at inv
      refine ite_dec (fun z => ?_) (fun z => ?_)
      · have zz : q ≤ a % q + b % q + c := by rw [nc_mod, nc_mod] at z; omega
        rw [if_pos zz] at inv
        walk_at "go"
        refine ite_eqI (fun _ => ?_) (fun w => absurd rfl w)
        walk_at "go"
        refine ⟨dv _, ?_⟩
        walk_at "go"
        refine ⟨dv _, ?_⟩
        walk_at "go"
        have := step 1 (by omega) (by rw [if_pos zz]) (fd ++ [pl]) (by rw [List.length_append]; have := (nxt 1 (by omega) (by rw [if_pos zz]) h0).2; simp; omega) (by rw [← inv]; simp)
        unfold natL at this ⊢
        rw [List.map_append] at this
        exact this
      · have zz : ¬ q ≤ a % q + b % q + c := by rw [nc_mod, nc_mod] at z; omega
        rw [if_neg zz] at inv
        walk_at "go"
        refine ite_eqI (fun w => absurd w (by decide)) (fun _ => ?_)
        walk_at "go"
        refine ⟨dv _, ?_⟩
        walk_at "go"
        refine ⟨dv _, ?_⟩
        walk_at "go"
        exact step 0 (by omega) (by rw [if_neg zz]) fd (by omega) inv
    · have e0 : (decide (0 < (a : Int)) || decide (0 < (b : Int) ∨ 0 < (c : Int))) = false := by
        rw [Bool.or_eq_false_iff, decide_eq_false_iff_not, decide_eq_false_iff_not]; omega
      rw [e0]
      walk_at "go"
      have : a = 0 ∧ b = 0 ∧ c = 0 := by omega
      obtain ⟨rfl, rfl, rfl⟩ := this
      rw [car0, List.append_nil] at inv
      rw [inv]
      exact hk
  · walk_at "go"
    refine ite_dec (fun z => ?_) (fun z => ?_)
    · exact ⟨(decide_eq_true (.inl z)).symm, rfl⟩
    · walk_at "go"
      refine ⟨?_, rfl⟩
      rw [Bool.eq_iff_iff, decide_eq_true_iff, decide_eq_true_iff]; omega
end

theorem natL_shaped : ∀ l : List Nat, PyData.canLayAll0 (natL l) = true ∧ PyData.depthAll (natL l) = 0
  | [] => by constructor <;> simp [natL, PyData.canLayAll0, PyData.depthAll]
  | x :: l => by
    obtain ⟨h1, h2⟩ := natL_shaped l
    unfold natL at h1 h2 ⊢
    rw [List.map_cons]
    constructor
    · simp [PyData.canLayAll0, PyData.canLay0, h1]
    · simp [PyData.depthAll, PyData.depth, h2]
theorem shaped_natL (l : List Nat) : SeqAt.shaped (.list (natL l)) = true := by
  obtain ⟨h1, h2⟩ := natL_shaped l
  show ((PyData.list (natL l)).canLay0 && decide ((PyData.list (natL l)).depth ≤ 64)) = true
  rw [Bool.and_eq_true]
  refine ⟨by simpa [PyData.canLay0] using h1, decide_eq_true ?_⟩
  simp only [PyData.depth, h2]; omega
theorem eqvAll_natL : ∀ l : List Nat, PyData.eqvAll (natL l) (natL l) = true
  | [] => by simp [natL, PyData.eqvAll]
  | x :: l => by
    have h := eqvAll_natL l
    unfold natL at h ⊢
    rw [List.map_cons]
    simp [PyData.eqvAll, PyData.eqv, h]
theorem eqv_natL (l : List Nat) : PyData.eqv (.list (natL l)) (.list (natL l)) = true := by
  simp [PyData.eqv, eqvAll_natL]
theorem eqv_bool (a b : Bool) : PyData.eqv (.bool a) (.bool b) = (a == b) := by simp [PyData.eqv]
section
variable {P : Program} {w : World} {K : PySem.W.Frag} {mg : Str → Option Value} {base : Heap}
theorem ok_often_in_choices {f : Addr} {fd : FuncData} (F : Fun K "often_in_choices" "often_in_choices" s_often_in_choices f fd) (C_carries : Cal P w K mg base "carries" 1 ["a", "b", "p"] (spP K φ_carries)) (z_len : mg "len" = none) : FnOk P w K mg base CX0 2 f fd ["n", "k", "p"] (spP K φ_often_in_choices) := by
  refine mkFn (k := 1) F sc_often_in_choices φ_often_in_choices_len (fun cdv A outer s H E hr => ?_)
  refine ⟨_, (pss_one (ps_ret (pe_callB cr_len (by rfl) z_len PySem.boot_len (pa_cons (pe_cl C_carries hr (by decide) (by rfl) (pa_cons (pv 1) (pa_cons (pe_op op_sub (pv 0) (pv 1)) (pa_cons (pv 2) pa_nil)))) pa_nil)))), fun ds kk h => ?_⟩
  obtain ⟨n, j, q, rfl, ⟨hq, hj, hn⟩, hk⟩ := h
  show Ds K none _ [Sl.dat _, Sl.dat _, Sl.dat _] _
  try dsimp only [L2.cxOf, L2.Cx.nox, L2.Cx.wish]
  walk_at "go"
  refine ⟨j, n - j, q, ?_, ⟨hq, by omega⟩, ?_⟩
  · rw [Int.ofNat_sub hj]
  walk_at "go"
  unfold natL
  rw [List.length_map]
  exact hk
end
section
variable {P : Program} {w : World} {K : PySem.W.Frag} {mg : Str → Option Value} {base : Heap}
theorem ok_choices_of {f : Addr} {fd : FuncData} (F : Fun K "choices_of" "choices_of" s_choices_of f fd) (z_range : mg "range" = none) : FnOk P w K mg base CX0 1 f fd ["n", "k"] (spP K φ_choices_of) := by
  refine mkFn (k := 0) F sc_choices_of φ_choices_of_len (fun cdv A outer s H E hr => ?_)
  refine ⟨_, (pss_cons (ps_set (i := 2) sc_choices_of.nd rfl (.inl rfl) pe_int)
      (pss_cons (ps_for PassesOwn.never rfl (pi_range1 (by rfl) z_range (pa_cons (pv 1) pa_nil)) (pg_name (i := 3) sc_choices_of.nd rfl (.inl rfl)) (pss_one (ps_set (i := 2) sc_choices_of.nd rfl (.inl rfl) (pe_op op_fdivW (pe_op op_mulW (pv 2) (pe_op op_sub (pv 0) (pv 3))) (pe_op op_add (pv 3) pe_int)))))
      (pss_one (ps_ret (pv 2))))), fun ds kk h => ?_⟩
  obtain ⟨n, j, rfl, ⟨hn, hj⟩, hk⟩ := h
  show Ds K none _ [Sl.dat _, Sl.dat _, Sl.no, Sl.no] _
  try dsimp only [L2.cxOf, L2.Cx.nox, L2.Cx.wish]
  walk_at "go"
  refine ds_forR1 (fun m i δ' => ∃ s3 : Sl, δ' = [.dat (.int n), .dat (.int j), .dat (.int (chN n i : Nat)), s3]) ?_
  walk_at "go"
  refine ⟨⟨_, rfl⟩, fun i δ' hi hp => ?_, fun δ' hp => ?_⟩
  · obtain ⟨s3, rfl⟩ := hp
    have b1 : Bd 20 (chN n i : Nat) := Bd.nat (chN_ch n hn i (by omega)).2
    have b2 : Bd 20 ((n : Int) - i) := by unfold Bd; omega
    have dv : CDivW ((chN n i : Nat) * ((n : Int) - i)) ((i : Int) + 1) := cdivW (n := 20) (by omega) (by unfold Bd; omega) (by decide)
    walk_at "go"
    refine ⟨.dat (.int i), ?_⟩
    have e : ((chN n (i + 1) : Nat) : Int) = (chN n i : Nat) * ((n : Int) - i) / ((i : Int) + 1) := by
      show ((chN n i * (n - i) / (i + 1) : Nat) : Int) = _
      rw [Int.natCast_ediv, Int.natCast_mul, Int.ofNat_sub (by omega)]; rfl
    rw [e]; rfl
  · obtain ⟨s3, rfl⟩ := hp
    walk_at "go"
    rw [Int.toNat_natCast, (chN_ch n hn j hj).1]
    exact hk
end
section
variable {P : Program} {w : World} {K : PySem.W.Frag} {mg : Str → Option Value} {base : Heap}
theorem ok_choices_rest {f : Addr} {fd : FuncData} (F : Fun K "choices_rest" "choices_rest" s_choices_rest f fd) (C_choices_of : Cal P w K mg base "choices_of" 1 ["n", "k"] (spP K φ_choices_of)) : FnOk P w K mg base CX0 2 f fd ["n", "k", "p"] (spP K φ_choices_rest) := by
  refine mkFn (k := 1) F sc_choices_rest φ_choices_rest_len (fun cdv A outer s H E hr => ?_)
  refine ⟨_, (pss_cons (ps_set (i := 3) sc_choices_rest.nd rfl (.inl rfl) pe_int)
      (pss_cons (ps_while PassesOwn.never (PW.pt (pw_or (pt_cmpR op_gt (pv 0) pe_int (nomark _)) (pw_or1 (pt_cmpR op_gt (pv 1) pe_int (nomark _))))) (pss_cons (ps_if (pt_cmpR op_gt (pe_op op_mod (pv 1) (pv 2)) (pe_op op_mod (pv 0) (pv 2)) (nomark _)) (pss_one (ps_ret pe_int)) pss_nil)
      (pss_cons (ps_set (i := 3) sc_choices_rest.nd rfl (.inl rfl) (pe_op op_mod (pe_op op_mulW (pv 3) (pe_cl C_choices_of hr (by decide) (by rfl) (pa_cons (pe_op op_mod (pv 0) (pv 2)) (pa_cons (pe_op op_mod (pv 1) (pv 2)) pa_nil)))) (pv 2)))
      (pss_one (ps_par (i := 0) (j := 1) rfl sc_choices_rest.nd rfl rfl (by decide) rfl rfl (pa_cons (pe_op op_fdivW (pv 0) (pv 2)) (pa_cons (pe_op op_fdivW (pv 1) (pv 2)) pa_nil)) rfl)))))
      (pss_one (ps_ret (pe_op op_mod (pv 3) (pv 2)))))), fun ds kk h => ?_⟩
  obtain ⟨n0, j0, q, rfl, hq, hk⟩ := h
  have h2 := ps2 hq
  have dv := CDiv_nat hq
  show Ds K none _ [Sl.dat _, Sl.dat _, Sl.dat _, Sl.no] _
  try dsimp only [L2.cxOf, L2.Cx.nox, L2.Cx.wish]
  walk_at "go"
  refine ds_while (fun m δ' => ∃ n j found : Nat, δ' = [.dat (.int n), .dat (.int j), .dat (.int q), .dat (.int found)] ∧ m = n + j ∧ found < q ∧ found * Lc q n j % q = Lc q n0 j0) ⟨n0 + j0, n0, j0, 1, rfl, rfl, by omega, by rw [Nat.one_mul]; exact Nat.mod_eq_of_lt (Lc_lt h2.1 _ _)⟩ (fun m δ' hw => ?_)
  obtain ⟨n, j, found, rfl, rfl, hf, inv⟩ := hw
  have b1 : Bd 10 (found : Int) := Bd.nat (by omega)
  refine dt_orV (decide (0 < (j : Int))) ?_ ?_
  · walk_at "go"
    by_cases h0 : 0 < n + j
    · have e0 : (decide (0 < (n : Int)) || decide (0 < (j : Int))) = true := by
        rw [Bool.or_eq_true, decide_eq_true_iff, decide_eq_true_iff]; omega
      rw [e0]
      walk_at "go"
      have l1 := Nat.mod_lt n (show 0 < q by omega)
      have l2 := Nat.mod_lt j (show 0 < q by omega)
      have rcc := LcS h2.1 h0
      refine ite_dec (fun z => ?_) (fun z => ?_)
      · walk_at "go"
        have zz : n % q < j % q := by rw [nc_mod, nc_mod] at z; omega
        rw [rcc, F0 (n % q) (by omega) (j % q) (by omega) zz, Nat.zero_mul, Nat.zero_mod, Nat.mul_zero, Nat.zero_mod] at inv
        rw [← inv] at hk
        exact hk
      · walk_at "go"
        have zz : j % q ≤ n % q := by rw [nc_mod, nc_mod] at z; omega
        refine ⟨n % q, j % q, by rw [nc_mod, nc_mod], ⟨by omega, zz⟩, ?_⟩
        have b2 : Bd 20 (ch (n % q) (j % q) : Nat) := by
          have := chN_ch (n % q) (by omega) (j % q) zz
          rw [← this.1]
          exact Bd.nat this.2
        walk_at "go"
        refine ⟨dv _, ?_⟩
        walk_at "go"
        refine ⟨dv _, ?_⟩
        walk_at "go"
        refine ⟨n / q + j / q, ?_, n / q, j / q, found * ch (n % q) (j % q) % q, ?_, rfl, Nat.mod_lt _ (by omega), ?_⟩
        · have a := Nat.div_le_self n q
          have b := Nat.div_le_self j q
          rcases Nat.eq_zero_or_pos n with y | y
          · have := Nat.div_lt_self (show 0 < j by omega) (show 1 < q by omega); omega
          · have := Nat.div_lt_self y (show 1 < q by omega); omega
        · rw [nc_div, nc_div, ← Int.natCast_mul, nc_mod]; rfl
        · rw [← inv, rcc, Nat.mod_mul_mod, Nat.mul_assoc, Nat.mul_mod_mod]
    · have e0 : (decide (0 < (n : Int)) || decide (0 < (j : Int))) = false := by
        rw [Bool.or_eq_false_iff, decide_eq_false_iff_not, decide_eq_false_iff_not]; omega
      rw [e0]
      walk_at "go"
      have : n = 0 ∧ j = 0 := by omega
      obtain ⟨rfl, rfl⟩ := this
      rw [Lc0, Nat.mul_one] at inv
      rw [nc_mod, inv]
      exact hk
  · walk_at "go"
    rfl
end

theorem pick6 {r : Int} (r0 : 0 ≤ r) (r3 : r < 6) : ∃ q : Nat, atI [PyData.int 2, .int 3, .int 5, .int 7, .int 11, .int 13] r = some (.int q) ∧ q ∈ Ps := by
  have : r = 0 ∨ r = 1 ∨ r = 2 ∨ r = 3 ∨ r = 4 ∨ r = 5 := by omega
  rcases this with rfl | rfl | rfl | rfl | rfl | rfl
  · exact ⟨2, rfl, by decide⟩
  · exact ⟨3, rfl, by decide⟩
  · exact ⟨5, rfl, by decide⟩
  · exact ⟨7, rfl, by decide⟩
  · exact ⟨11, rfl, by decide⟩
  · exact ⟨13, rfl, by decide⟩
theorem pick3 {a b c r : Int} (r0 : 0 ≤ r) (r3 : r < 3) : ∃ s : Int, atI [PyData.int a, .int b, .int c] r = some (.int s) ∧ (s = a ∨ s = b ∨ s = c) := by
  have : r = 0 ∨ r = 1 ∨ r = 2 := by omega
  rcases this with rfl | rfl | rfl
  · exact ⟨a, rfl, .inl rfl⟩
  · exact ⟨b, rfl, .inr (.inl rfl)⟩
  · exact ⟨c, rfl, .inr (.inr rfl)⟩
theorem Lc_above {p : Nat} (hp : p ∈ Ps) {n : Nat} (n0 : 0 < n) : Lc p (n - 1) n = 0 := by
  have h2 := ps2 hp
  have e := pascal hp n n n0 n0
  rw [Lc_nn hp, Lc_nn hp] at e
  have l := Lc_lt h2.1 (n - 1) n
  rcases Nat.lt_or_ge (1 + Lc p (n - 1) n) p with q | q
  · rw [Nat.mod_eq_of_lt q] at e; omega
  · have : 1 + Lc p (n - 1) n = p := by omega
    rw [this, Nat.mod_self] at e
    omega
theorem beq_dec {a b : Bool} (h : a = b) : (a == b) = true := by rw [h]; cases b <;> rfl
theorem ite_beq {c A B : Prop} [Decidable c] {x : Bool} (e : x = decide c) (h1 : c → A) (h2 : ¬c → B) : if x = true then A else B := by
  rw [e]; exact ite_dec h1 h2
section
variable {P : Program} {w : World} {K : PySem.W.Frag} {mg : Str → Option Value} {base : Heap}
theorem ok_law {f : Addr} {fd : FuncData} (F : Fun K "law" "law" s_law f fd) (C_often_in_product : Cal P w K mg base "often_in_product" 1 ["n", "p"] (spP K φ_often_in_product)) (C_choices_rest : Cal P w K mg base "choices_rest" 2 ["n", "k", "p"] (spP K φ_choices_rest)) (C_law_draw : Cal P w K mg base "_law_draw" 2 ["pool", "many"] (spPP K φ_law_draw)) (C_law_power : Cal P w K mg base "_law_power" 1 ["base", "many"] (spP K φ_law_power)) (C_carries : Cal P w K mg base "carries" 1 ["a", "b", "p"] (spP K φ_carries)) (C_often_in_choices : Cal P w K mg base "often_in_choices" 2 ["n", "k", "p"] (spP K φ_often_in_choices)) (C_law_pool : Cal P w K mg base "_law_pool" 1 ["script"] (spPool K)) (z_len : mg "len" = none) : FnOk P w K mg base CX0 3 f fd ["script"] (spP K φ_law) := by
  refine mkFn (k := 2) F sc_law φ_law_len (fun cdv A outer s H E hr => ?_)
  refine ⟨_, (pss_cons (ps_set (i := 1) sc_law.nd rfl (.inl rfl) (pe_cl C_law_pool hr (by decide) (by rfl) (pa_cons (pv 0) pa_nil)))
      (pss_cons (ps_set (i := 2) sc_law.nd rfl (.inl rfl) (pe_ix ix_sq (pe_tup (pa_cons pe_int (pa_cons pe_int (pa_cons pe_int (pa_cons pe_int (pa_cons pe_int (pa_cons pe_int pa_nil))))))) (pe_cl C_law_draw hr (by decide) (by rfl) (pa_cons (pv 1) (pa_cons pe_int pa_nil))) (fun _ _ => rfl)))
      (pss_cons (ps_set (i := 3) sc_law.nd rfl (.inl rfl) (pe_op op_add pe_int (pe_cl C_law_draw hr (by decide) (by rfl) (pa_cons (pv 1) (pa_cons (pe_ix ix_sq (pe_tup (pa_cons pe_int (pa_cons pe_int (pa_cons (pe_op op_pow pe_int pe_int) pa_nil)))) (pe_cl C_law_draw hr (by decide) (by rfl) (pa_cons (pv 1) (pa_cons pe_int pa_nil))) (fun _ _ => rfl)) pa_nil)))))
      (pss_cons (ps_set (i := 4) sc_law.nd rfl (.inl rfl) (pe_op op_add pe_int (pe_cl C_law_draw hr (by decide) (by rfl) (pa_cons (pv 1) (pa_cons (pv 3) pa_nil)))))
      (pss_cons (ps_set (i := 5) sc_law.nd rfl (.inl rfl) (pe_op op_add (pe_cl C_choices_rest hr (by decide) (by rfl) (pa_cons (pe_op op_sub (pv 3) pe_int) (pa_cons (pe_op op_sub (pv 4) pe_int) (pa_cons (pv 2) pa_nil)))) (pe_ifExp (pt_cmpR op_lt (pv 4) (pv 3) (nomark _)) (pe_cl C_choices_rest hr (by decide) (by rfl) (pa_cons (pe_op op_sub (pv 3) pe_int) (pa_cons (pv 4) (pa_cons (pv 2) pa_nil)))) pe_int)))
      (pss_cons (ps_if (PW.pt (pw_or (pt_cmpR (op_neD hr.units) (pe_cl C_choices_rest hr (by decide) (by rfl) (pa_cons (pv 3) (pa_cons (pv 4) (pa_cons (pv 2) pa_nil)))) (pe_op op_mod (pv 5) (pv 2)) (nomark _)) (pw_or1 (pt_cmpR (op_neD hr.units) (pe_cl C_choices_rest hr (by decide) (by rfl) (pa_cons (pv 3) (pa_cons (pv 4) (pa_cons (pv 2) pa_nil)))) (pe_cl C_choices_rest hr (by decide) (by rfl) (pa_cons (pv 3) (pa_cons (pe_op op_sub (pv 3) (pv 4)) (pa_cons (pv 2) pa_nil)))) (nomark _))))) (pss_one (ps_ret pe_bl)) pss_nil)
      (pss_cons (ps_if (PW.pt (pw_or (pt_cmpR (op_neD hr.units) (pe_cl C_often_in_choices hr (by decide) (by rfl) (pa_cons (pv 3) (pa_cons (pv 4) (pa_cons (pv 2) pa_nil)))) (pe_cl C_often_in_choices hr (by decide) (by rfl) (pa_cons (pv 3) (pa_cons (pe_op op_sub (pv 3) (pv 4)) (pa_cons (pv 2) pa_nil)))) (nomark _)) (pw_or1 (pt_cmpR (op_neD hr.units) (pe_cmpR (op_eqD hr.units) (pe_cl C_often_in_choices hr (by decide) (by rfl) (pa_cons (pv 3) (pa_cons (pv 4) (pa_cons (pv 2) pa_nil)))) pe_int (nomark _)) (pe_cmpR (op_neD hr.units) (pe_cl C_choices_rest hr (by decide) (by rfl) (pa_cons (pv 3) (pa_cons (pv 4) (pa_cons (pv 2) pa_nil)))) pe_int (nomark _)) (nomark _))))) (pss_one (ps_ret pe_bl)) pss_nil)
      (pss_cons (ps_if (PW.pt (pw_or (pt_cmpR (op_neD hr.units) (pe_cl C_carries hr (by decide) (by rfl) (pa_cons (pv 4) (pa_cons (pe_op op_sub (pv 3) (pv 4)) (pa_cons (pv 2) pa_nil)))) (pe_cl C_carries hr (by decide) (by rfl) (pa_cons (pe_op op_sub (pv 3) (pv 4)) (pa_cons (pv 4) (pa_cons (pv 2) pa_nil)))) (nomark _)) (pw_or1 (pt_cmpR (op_neD hr.units) (pe_callB cr_len (by rfl) z_len PySem.boot_len (pa_cons (pe_cl C_carries hr (by decide) (by rfl) (pa_cons (pv 4) (pa_cons (pe_op op_sub (pv 3) (pv 4)) (pa_cons (pv 2) pa_nil)))) pa_nil)) (pe_cl C_often_in_choices hr (by decide) (by rfl) (pa_cons (pv 3) (pa_cons (pv 4) (pa_cons (pv 2) pa_nil)))) (nomark _))))) (pss_one (ps_ret pe_bl)) pss_nil)
      (pss_cons (ps_set (i := 6) sc_law.nd rfl (.inl rfl) (pe_cl C_law_power hr (by decide) (by rfl) (pa_cons (pv 2) (pa_cons (pe_op op_add pe_int (pe_cl C_law_draw hr (by decide) (by rfl) (pa_cons (pv 1) (pa_cons pe_int pa_nil)))) pa_nil))))
      (pss_cons (ps_set (i := 7) sc_law.nd rfl (.inl rfl) (pe_cl C_law_draw hr (by decide) (by rfl) (pa_cons (pv 1) (pa_cons (pe_op op_add (pv 6) pe_int) pa_nil))))
      (pss_cons (ps_if (pt_cmpR (op_neD hr.units) (pe_cl C_choices_rest hr (by decide) (by rfl) (pa_cons (pv 6) (pa_cons (pv 7) (pa_cons (pv 2) pa_nil)))) (pe_ifExp (pt_cmpR op_in_seq (pv 7) (pe_tup (pa_cons pe_int (pa_cons (pv 6) pa_nil))) (by with_unfolding_all rfl)) pe_int pe_int) (nomark _)) (pss_one (ps_ret pe_bl)) pss_nil)
      (pss_cons (ps_if (PW.pt (pw_and (pt_cmpR op_lt (pv 7) (pv 6) (nomark _)) (pw_and1 (pt_cmpR (op_neD hr.units) (pe_cl C_choices_rest hr (by decide) (by rfl) (pa_cons (pe_op op_sub (pv 6) pe_int) (pa_cons (pv 7) (pa_cons (pv 2) pa_nil)))) (pe_op op_mod (pe_ifExp (pt_cmpR (op_eqD hr.units) (pe_op op_mod (pv 7) pe_int) pe_int (nomark _)) pe_int (pe_op op_sub (pv 2) pe_int)) (pv 2)) (nomark _))))) (pss_one (ps_ret pe_bl)) pss_nil)
      (pss_one (ps_ret (pe_cmpR (op_eqD hr.units) (pe_cl C_often_in_product hr (by decide) (by rfl) (pa_cons (pe_op op_mulW (pv 2) (pv 3)) (pa_cons (pv 2) pa_nil))) (pe_op op_add (pv 3) (pe_cl C_often_in_product hr (by decide) (by rfl) (pa_cons (pv 3) (pa_cons (pv 2) pa_nil)))) (nomark _)))))))))))))))), fun ds kk h => ?_⟩
  obtain ⟨ns, rfl, hn, hk⟩ := h
  show Ds K none _ [Sl.dat _, Sl.no, Sl.no, Sl.no, Sl.no, Sl.no, Sl.no, Sl.no] _
  try dsimp only [L2.cxOf, L2.Cx.nox, L2.Cx.wish]
  refine ds_pool rfl hn (fun p => ?_) (fun i s hi => by rcases i with _|_|_|_|_|_|_|_|i <;> simp at hi <;> subst hi <;> rfl)
  walk_at "go"
  refine ⟨_, rfl, by decide, by decide, fun r r0 r3 => ?_⟩
  obtain ⟨q, eq, hq⟩ := pick6 r0 r3
  have h2 := ps2 hq
  walk_at "go"
  refine ⟨_, eq, ?_⟩
  walk_at "go"
  refine ⟨⟨by decide, by decide, by decide⟩, ?_⟩
  walk_at "go"
  refine ⟨_, rfl, by decide, by decide, fun r r0 r3 => ?_⟩
  obtain ⟨s, es, hs⟩ := pick3 (a := 40) (b := 3000) (c := 10 ^ Int.toNat 12) r0 r3
  have s9 : 0 < s ∧ s ≤ 1000000000000 := by
    have : (10 : Int) ^ Int.toNat 12 = 1000000000000 := by decide
    omega
  walk_at "go"
  refine ⟨_, es, ?_⟩
  walk_at "go"
  refine ⟨_, rfl, s9.1, by have := s9.2; omega, fun r1 r10 r11 => ?_⟩
  obtain ⟨n, en⟩ : ∃ n : Nat, 1 + r1 = n := ⟨(1 + r1).toNat, by omega⟩
  have n50 : n < 2 ^ 50 := by omega
  have n0 : 0 < n := by omega
  walk_at "go"
  rw [en]
  refine ⟨_, rfl, by omega, by omega, fun r2 r20 r21 => ?_⟩
  obtain ⟨j, ej⟩ : ∃ n : Nat, 1 + r2 = n := ⟨(1 + r2).toNat, by omega⟩
  have j0 : 0 < j := by omega
  have jn : j ≤ n := by omega
  have pas := pascal hq n j j0 n0
  have sy := symm hq n j jn
  have bq : Bd 10 (q : Int) := Bd.nat (by omega)
  have bn : Bd 50 (n : Int) := Bd.nat n50
  walk_at "go"
  rw [ej]
  refine ⟨n - 1, j - 1, q, by rw [Int.ofNat_sub (by omega), Int.ofNat_sub (by omega)]; rfl, hq, ?_⟩
  walk_at "gp"
  refine de_ifM (fun a => ∃ z : Int, a = .d (.int z) ∧ z = (Lc q (n - 1) j : Nat)) ?_ ?_
  · walk_at "go"
    refine ite_dec (fun c => ?_) (fun c => ?_)
    · walk_at "go"
      refine ⟨n - 1, j, q, by rw [Int.ofNat_sub (by omega)]; rfl, hq, ?_⟩
      walk_at "go"
      rfl
    · walk_at "go"
      have : j = n := by omega
      rw [this, Lc_above hq n0]
      rfl
  rintro a ⟨z, rfl, rfl⟩
  walk_at "go"
  refine ⟨n, j, q, rfl, hq, ?_⟩
  walk_at "go"
  refine ite_neI (fun c => absurd ?_ c) (fun _ => ?_)
  · rw [← Int.natCast_add, nc_mod, ← pas]
  walk_at "go"
  refine ⟨n, j, q, rfl, hq, ?_⟩
  walk_at "go"
  refine ⟨n, n - j, q, by rw [Int.ofNat_sub jn], hq, ?_⟩
  walk_at "go"
  refine ite_neI (fun c => absurd ?_ c) (fun _ => ?_)
  · rw [sy]
  walk_at "go"
  have cc := car_comm h2.1 (j + (n - j) + 0) j (n - j) 0 0 (Nat.le_refl _) (by omega)
  refine ⟨n, j, q, rfl, ⟨hq, jn, n50⟩, ?_⟩
  walk_at "go"
  refine ⟨n, n - j, q, by rw [Int.ofNat_sub jn], ⟨hq, by omega, n50⟩, ?_⟩
  rw [show n - (n - j) = j by omega, ← cc]
  walk_at "go"
  refine ite_neI (fun c => absurd rfl c) (fun _ => ?_)
  walk_at "go"
  refine ⟨n, j, q, rfl, ⟨hq, jn, n50⟩, ?_⟩
  walk_at "go"
  refine ⟨n, j, q, rfl, hq, ?_⟩
  walk_at "go"
  have cn := car_nil hq n j (n - j) 0 (by omega)
  rw [show j + (n - j) = n by omega] at cn
  rw [eqv_bool, eqv_int, eqv_int, beq_dec]
  rotate_left
  · by_cases z : Lc q n j = 0
    · have z1 : (car q j (n - j) 0 0).length ≠ 0 := fun e => (cn.mp (List.length_eq_zero_iff.mp e)) z
      rw [decide_eq_false (by omega), decide_eq_true (by omega)]; rfl
    · rw [cn.mpr z, decide_eq_true (by simp), decide_eq_false (by omega)]; rfl
  walk_at "go"
  refine ⟨j, n - j, q, by rw [Int.ofNat_sub jn], ⟨hq, by omega⟩, ?_⟩
  walk_at "go"
  refine ⟨n - j, j, q, by rw [Int.ofNat_sub jn], ⟨hq, by omega⟩, ?_⟩
  rw [← cc]
  walk_at "go"
  refine ⟨shaped_natL _, shaped_natL _, ?_⟩
  rw [eqv_natL]
  walk_at "go"
  refine ⟨j, n - j, q, by rw [Int.ofNat_sub jn], ⟨hq, by omega⟩, ?_⟩
  walk_at "go"
  refine ⟨n, j, q, rfl, ⟨hq, jn, n50⟩, ?_⟩
  walk_at "go"
  refine ite_neI (fun c => absurd ?_ c) (fun _ => ?_)
  · unfold natL; rw [List.length_map]
  walk_at "go"
  refine ⟨_, rfl, by decide, by decide, fun r3 r30 r31 => ?_⟩
  obtain ⟨e, ee⟩ : ∃ n : Nat, 1 + r3 = n := ⟨(1 + r3).toNat, by omega⟩
  walk_at "go"
  rw [ee]
  refine ⟨q, e, rfl, ⟨by omega, by omega⟩, ?_⟩
  have pw : q ^ e < 2 ^ 60 := by
    have a : q ^ e ≤ 13 ^ e := Nat.pow_le_pow_left h2.2 e
    have b : 13 ^ e ≤ 13 ^ 6 := Nat.pow_le_pow_right (by decide) (by omega)
    have c : (13 : Nat) ^ 6 < 2 ^ 60 := by decide
    omega
  walk_at "go"
  refine ⟨_, rfl, by omega, by omega, fun r4 r40 r41 => ?_⟩
  obtain ⟨x, rfl⟩ : ∃ n : Nat, r4 = n := ⟨r4.toNat, by omega⟩
  have xl : x ≤ q ^ e := by omega
  walk_at "go"
  refine ⟨q ^ e, x, q, rfl, hq, ?_⟩
  walk_at "gp"
  have lp := Lc_pow hq e x xl
  refine de_ifM (fun a => a = .d (.int (Lc q (q ^ e) x : Nat))) ?_ ?_
  · walk_at "go"
    refine ⟨[0, ((q ^ e : Nat) : Int)], .inr (.inl rfl), ?_⟩
    walk_at "go"
    refine ite_bool (fun c => ?_) (fun c => ?_)
    · have c' : x = 0 ∨ x = q ^ e := by
        simp only [Bool.false_eq_true, if_false, List.any_cons, List.any_nil, Bool.or_false, Bool.or_eq_true, beq_iff_eq] at c
        omega
      walk_at "go"
      rw [lp, if_pos c']; rfl
    · have c' : ¬ (x = 0 ∨ x = q ^ e) := by
        simp only [Bool.false_eq_true, if_false, List.any_cons, List.any_nil, Bool.or_false, Bool.or_eq_false_iff, beq_eq_false_iff_ne] at c
        omega
      walk_at "go"
      rw [lp, if_neg c']; rfl
  rintro a rfl
  walk_at "go"
  refine ite_neI (fun c => absurd rfl c) (fun _ => ?_)
  walk_at "go"
  refine ite_dec (fun c => ?_) (fun c => ?_)
  · have lp1 := Lc_pow1 hq e x (by omega)
    walk_at "go"
    refine ⟨q ^ e - 1, x, q, by rw [Int.ofNat_sub (Nat.pow_pos (by omega))]; rfl, hq, ?_⟩
    walk_at "gp"
    refine de_ifM (fun a => a = .d (.int (if x % 2 = 0 then 1 else q - 1 : Nat))) ?_ ?_
    · walk_at "go"
      refine ite_eqI (fun c => ?_) (fun c => ?_)
      · walk_at "go"
        rw [if_pos (by omega)]; rfl
      · walk_at "go"
        rw [if_neg (by omega), Int.ofNat_sub (by omega)]; rfl
    rintro a rfl
    walk_at "go"
    refine ite_neI (fun c => absurd ?_ c) (fun _ => ?_)
    · rw [lp1, nc_mod]; rfl
    walk_at "go"
    refine ⟨q * n, q, by rw [Int.natCast_mul], hq, ?_⟩
    walk_at "go"
    refine ⟨n, q, rfl, hq, ?_⟩
    walk_at "go"
    rw [oip_mul h2.1 n0, eqv_int, Int.natCast_add, decide_eq_true rfl]
    exact hk
  · walk_at "go"
    refine ⟨q * n, q, by rw [Int.natCast_mul], hq, ?_⟩
    walk_at "go"
    refine ⟨n, q, rfl, hq, ?_⟩
    walk_at "go"
    rw [oip_mul h2.1 n0, eqv_int, Int.natCast_add, decide_eq_true rfl]
    exact hk
end
theorem all_mk {l : PySem.W.OpenLaw} {w : World} {K : PySem.W.Frag} {h : Heap} {mg : Str → Option Value} {fa f0 f1 f2 f3 f4 f5 f6 f7 f8 f9 : Addr} (X : K.In h) (G : h.Ns mainGlobals mg) (hfa : mg "law" = some (.ref fa))
    {od0 an0 od1 an1 od2 an2 od3 an3 od4 an4 od5 an5 od6 an6 od7 an7 od8 an8 od9 an9 : Option Addr} {sl0 sl1 sl2 sl3 sl4 sl5 sl6 sl7 sl8 sl9 : Array (Option Value)} {oc0 kV0 dc0 pm0 cd0 ct0 oc1 kV1 dc1 pm1 cd1 ct1 oc2 kV2 dc2 pm2 cd2 ct2 oc3 kV3 dc3 pm3 cd3 ct3 oc4 kV4 dc4 pm4 cd4 ct4 oc5 kV5 dc5 pm5 cd5 ct5 oc6 kV6 dc6 pm6 cd6 ct6 oc7 kV7 dc7 pm7 cd7 ct7 oc8 kV8 dc8 pm8 cd8 ct8 oc9 kV9 dc9 pm9 cd9 ct9 : Value}
    (a0 : PySem.W.nsIn K mainGlobals "often_in_product" = some (some (.ref f0))) (l0 : K.lookup f0 = some ⟨oc0, od0, .func (PySem.W.fnOf "often_in_product" "often_in_product" (defArgs s_often_in_product) (defBody s_often_in_product) (defScope s_often_in_product) .none kV0 dc0 pm0 an0 cd0 ct0), sl0⟩) (c0 : PySem.W.codeIn K cd0 "often_in_product" = true) (k0 : PySem.W.keepIn K (.ref f0) = true)
    (a1 : PySem.W.nsIn K mainGlobals "carries" = some (some (.ref f1))) (l1 : K.lookup f1 = some ⟨oc1, od1, .func (PySem.W.fnOf "carries" "carries" (defArgs s_carries) (defBody s_carries) (defScope s_carries) .none kV1 dc1 pm1 an1 cd1 ct1), sl1⟩) (c1 : PySem.W.codeIn K cd1 "carries" = true) (k1 : PySem.W.keepIn K (.ref f1) = true)
    (a2 : PySem.W.nsIn K mainGlobals "often_in_choices" = some (some (.ref f2))) (l2 : K.lookup f2 = some ⟨oc2, od2, .func (PySem.W.fnOf "often_in_choices" "often_in_choices" (defArgs s_often_in_choices) (defBody s_often_in_choices) (defScope s_often_in_choices) .none kV2 dc2 pm2 an2 cd2 ct2), sl2⟩) (c2 : PySem.W.codeIn K cd2 "often_in_choices" = true) (k2 : PySem.W.keepIn K (.ref f2) = true)
    (a3 : PySem.W.nsIn K mainGlobals "choices_of" = some (some (.ref f3))) (l3 : K.lookup f3 = some ⟨oc3, od3, .func (PySem.W.fnOf "choices_of" "choices_of" (defArgs s_choices_of) (defBody s_choices_of) (defScope s_choices_of) .none kV3 dc3 pm3 an3 cd3 ct3), sl3⟩) (c3 : PySem.W.codeIn K cd3 "choices_of" = true) (k3 : PySem.W.keepIn K (.ref f3) = true)
    (a4 : PySem.W.nsIn K mainGlobals "choices_rest" = some (some (.ref f4))) (l4 : K.lookup f4 = some ⟨oc4, od4, .func (PySem.W.fnOf "choices_rest" "choices_rest" (defArgs s_choices_rest) (defBody s_choices_rest) (defScope s_choices_rest) .none kV4 dc4 pm4 an4 cd4 ct4), sl4⟩) (c4 : PySem.W.codeIn K cd4 "choices_rest" = true) (k4 : PySem.W.keepIn K (.ref f4) = true)
    (a5 : PySem.W.nsIn K mainGlobals "_law_power" = some (some (.ref f5))) (l5 : K.lookup f5 = some ⟨oc5, od5, .func (PySem.W.fnOf "_law_power" "_law_power" (defArgs s_law_power) (defBody s_law_power) (defScope s_law_power) .none kV5 dc5 pm5 an5 cd5 ct5), sl5⟩) (c5 : PySem.W.codeIn K cd5 "_law_power" = true) (k5 : PySem.W.keepIn K (.ref f5) = true)
    (a6 : PySem.W.nsIn K mainGlobals "_law_pool" = some (some (.ref f6))) (l6 : K.lookup f6 = some ⟨oc6, od6, .func (PySem.W.fnOf "_law_pool" "_law_pool" (defArgs s_law_pool) (defBody s_law_pool) (defScope s_law_pool) .none kV6 dc6 pm6 an6 cd6 ct6), sl6⟩) (c6 : PySem.W.codeIn K cd6 "_law_pool" = true) (k6 : PySem.W.keepIn K (.ref f6) = true)
    (a7 : PySem.W.nsIn K mainGlobals "_law_spread" = some (some (.ref f7))) (l7 : K.lookup f7 = some ⟨oc7, od7, .func (PySem.W.fnOf "_law_spread" "_law_spread" (defArgs s_law_spread) (defBody s_law_spread) (defScope s_law_spread) .none kV7 dc7 pm7 an7 cd7 ct7), sl7⟩) (c7 : PySem.W.codeIn K cd7 "_law_spread" = true) (k7 : PySem.W.keepIn K (.ref f7) = true)
    (a8 : PySem.W.nsIn K mainGlobals "_law_draw" = some (some (.ref f8))) (l8 : K.lookup f8 = some ⟨oc8, od8, .func (PySem.W.fnOf "_law_draw" "_law_draw" (defArgs s_law_draw) (defBody s_law_draw) (defScope s_law_draw) .none kV8 dc8 pm8 an8 cd8 ct8), sl8⟩) (c8 : PySem.W.codeIn K cd8 "_law_draw" = true) (k8 : PySem.W.keepIn K (.ref f8) = true)
    (a9 : PySem.W.nsIn K mainGlobals "law" = some (some (.ref f9))) (l9 : K.lookup f9 = some ⟨oc9, od9, .func (PySem.W.fnOf "law" "law" (defArgs s_law) (defBody s_law) (defScope s_law) .none kV9 dc9 pm9 an9 cd9 ct9), sl9⟩) (c9 : PySem.W.codeIn K cd9 "law" = true) (k9 : PySem.W.keepIn K (.ref f9) = true)
    (z_len : PySem.W.nsIn K mainGlobals "len" = some none)
    (z_range : PySem.W.nsIn K mainGlobals "range" = some none)
    (z_list : PySem.W.nsIn K mainGlobals "list" = some none)
    (z_int : PySem.W.nsIn K mainGlobals "int" = some none)
    : ∃ fd : FuncData, (∀ (s : Shared) (v : Value), BindsTo s fd ⟨[v], []⟩ [("script", v)]) ∧ ∀ base : Heap, K.In base → base.Ns mainGlobals mg → FnOk l.prog w K mg base CX0 3 fa fd ["script"] (spP K φ_law) := by
  have e := hfa.symm.trans (PySem.W.mg_of X G a9)
  cases e
  have F0 := fun_mk (st := s_often_in_product) l0 c0 k0
  have b0 := F0.binds (ps := ["n", "p"]) fun _ _ _ _ _ _ us hl => match us, hl with | [_, _], _ => rfl
  have F1 := fun_mk (st := s_carries) l1 c1 k1
  have b1 := F1.binds (ps := ["a", "b", "p"]) fun _ _ _ _ _ _ us hl => match us, hl with | [_, _, _], _ => rfl
  have F2 := fun_mk (st := s_often_in_choices) l2 c2 k2
  have b2 := F2.binds (ps := ["n", "k", "p"]) fun _ _ _ _ _ _ us hl => match us, hl with | [_, _, _], _ => rfl
  have F3 := fun_mk (st := s_choices_of) l3 c3 k3
  have b3 := F3.binds (ps := ["n", "k"]) fun _ _ _ _ _ _ us hl => match us, hl with | [_, _], _ => rfl
  have F4 := fun_mk (st := s_choices_rest) l4 c4 k4
  have b4 := F4.binds (ps := ["n", "k", "p"]) fun _ _ _ _ _ _ us hl => match us, hl with | [_, _, _], _ => rfl
  have F5 := fun_mk (st := s_law_power) l5 c5 k5
  have b5 := F5.binds (ps := ["base", "many"]) fun _ _ _ _ _ _ us hl => match us, hl with | [_, _], _ => rfl
  have F6 := fun_mk (st := s_law_pool) l6 c6 k6
  have b6 := F6.binds (ps := ["script"]) fun _ _ _ _ _ _ us hl => match us, hl with | [_], _ => rfl
  have F7 := fun_mk (st := s_law_spread) l7 c7 k7
  have b7 := F7.binds (ps := ["cell"]) fun _ _ _ _ _ _ us hl => match us, hl with | [_], _ => rfl
  have F8 := fun_mk (st := s_law_draw) l8 c8 k8
  have b8 := F8.binds (ps := ["pool", "many"]) fun _ _ _ _ _ _ us hl => match us, hl with | [_, _], _ => rfl
  have F9 := fun_mk (st := s_law) l9 c9 k9
  have w_len := PySem.W.mg_none_of X G z_len
  have w_range := PySem.W.mg_none_of X G z_range
  have w_list := PySem.W.mg_none_of X G z_list
  have w_int := PySem.W.mg_none_of X G z_int
  refine ⟨PySem.W.fnOf "law" "law" (defArgs s_law) (defBody s_law) (defScope s_law) .none kV9 dc9 pm9 an9 cd9 ct9, fun s v => .of_eq rfl, fun base _ _ => ?_⟩
  have C_often_in_product : Cal l.prog w K mg base "often_in_product" 1 ["n", "p"] (spP K φ_often_in_product) := ⟨_, _, ok_often_in_product F0, PySem.W.mg_of X G a0, k0, b0⟩
  have C_carries : Cal l.prog w K mg base "carries" 1 ["a", "b", "p"] (spP K φ_carries) := ⟨_, _, ok_carries F1, PySem.W.mg_of X G a1, k1, b1⟩
  have C_often_in_choices : Cal l.prog w K mg base "often_in_choices" 2 ["n", "k", "p"] (spP K φ_often_in_choices) := ⟨_, _, ok_often_in_choices F2 C_carries w_len, PySem.W.mg_of X G a2, k2, b2⟩
  have C_choices_of : Cal l.prog w K mg base "choices_of" 1 ["n", "k"] (spP K φ_choices_of) := ⟨_, _, ok_choices_of F3 w_range, PySem.W.mg_of X G a3, k3, b3⟩
  have C_choices_rest : Cal l.prog w K mg base "choices_rest" 2 ["n", "k", "p"] (spP K φ_choices_rest) := ⟨_, _, ok_choices_rest F4 C_choices_of, PySem.W.mg_of X G a4, k4, b4⟩
  have C_law_power : Cal l.prog w K mg base "_law_power" 1 ["base", "many"] (spP K φ_law_power) := ⟨_, _, ok_law_power F5 w_range, PySem.W.mg_of X G a5, k5, b5⟩
  have C_law_pool : Cal l.prog w K mg base "_law_pool" 1 ["script"] (spPool K) := ⟨_, _, ok_law_pool F6 w_list w_int, PySem.W.mg_of X G a6, k6, b6⟩
  have C_law_spread : Cal l.prog w K mg base "_law_spread" 1 ["cell"] (spP K φ_law_spread) := ⟨_, _, ok_law_spread F7 w_range w_int, PySem.W.mg_of X G a7, k7, b7⟩
  have C_law_draw : Cal l.prog w K mg base "_law_draw" 2 ["pool", "many"] (spPP K φ_law_draw) := ⟨_, _, ok_law_draw F8 C_law_spread w_int w_len, PySem.W.mg_of X G a8, k8, b8⟩
  exact ok_law F9 C_often_in_product C_choices_rest C_law_draw C_law_power C_carries C_often_in_choices C_law_pool w_len
end My
open PySem PySem.W PyProof.Rows
set_option maxHeartbeats 0 in
theorem PySem.Challenge.cw_numberwright_k82_whole_rows_of_choices_holds : PySem.Challenge.rw_numberwright_k82_whole_rows_of_choices.Holds := by
  w_on; o_law; k_head; (case hw => w_witness2)
  k_fill
  refine L2.walk_of (l := PySem.Challenge.rw_numberwright_k82_whole_rows_of_choices) (n := 63) (k := 3) (x := "script") (CX := fun _ => L2.CX0) (sp := fun w => Ab.spP _ My.φ_law) rfl (by decide) rfl ⟨rfl, by decide, by decide⟩ (fun w h Y => PySem.W.kIn_of Y) ?F
    (fun _ H a ns hl _ hS => ⟨H, [.list (ns.map PyData.int)], fun d => d = .bool true, Ab.Ex.refl _, .cons (.lst hS (Ab.DpAll.ints ns)) .nil, ⟨ns, rfl, hl, rfl⟩, fun v F2 H2 d hd _ dp => by subst hd; cases dp; rfl⟩) (fun _ _ _ _ _ h => h)
  case F =>
    intro w mg fa h KX G hmg
    refine' My.all_mk KX G hmg ?a0 ?l0 ?c0 ?k0 ?a1 ?l1 ?c1 ?k1 ?a2 ?l2 ?c2 ?k2 ?a3 ?l3 ?c3 ?k3 ?a4 ?l4 ?c4 ?k4 ?a5 ?l5 ?c5 ?k5 ?a6 ?l6 ?c6 ?k6 ?a7 ?l7 ?c7 ?k7 ?a8 ?l8 ?c8 ?k8 ?a9 ?l9 ?c9 ?k9 ?z_len ?z_range ?z_list ?z_int
    (case a0 => k_is); (case l0 => k_is); (case c0 => k_is); (case k0 => k_is); (case a1 => k_is); (case l1 => k_is); (case c1 => k_is); (case k1 => k_is); (case a2 => k_is); (case l2 => k_is); (case c2 => k_is); (case k2 => k_is); (case a3 => k_is); (case l3 => k_is); (case c3 => k_is); (case k3 => k_is); (case a4 => k_is); (case l4 => k_is); (case c4 => k_is); (case k4 => k_is); (case a5 => k_is); (case l5 => k_is); (case c5 => k_is); (case k5 => k_is); (case a6 => k_is); (case l6 => k_is); (case c6 => k_is); (case k6 => k_is); (case a7 => k_is); (case l7 => k_is); (case c7 => k_is); (case k7 => k_is); (case a8 => k_is); (case l8 => k_is); (case c8 => k_is); (case k8 => k_is); (case a9 => k_is); (case l9 => k_is); (case c9 => k_is); (case k9 => k_is); (case z_len => k_is); (case z_range => k_is); (case z_list => k_is); (case z_int => k_is)

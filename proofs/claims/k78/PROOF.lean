import PyProof.Rows.All
import Wide.All
import OpenK.AllK
import Wide.FinOn
import HandS.Base
import HandS.Call
import HandS.List
import HandS.Comp
import HandS.Ends
import HandS.Words
import HandS.WordsList
import HandS.Wide
import HandS.WideMore
import HandS.Gcd
import HandS.Style
import PySem.Challenge.RW_numberwright_k78_whole_ranks_put_togethe
set_option Elab.async false
set_option linter.all false
set_option maxRecDepth 100000
set_option maxHeartbeats 2000000
/-! the abstract machine: slots hold data, or lists of one's own -/
namespace Ab
open PySem PySem.Spec PyProof.Rows L2

abbrev Fg := PySem.W.Frag
def Ex (H H' : Hp) : Prop := ∀ a o, H a = some o → H' a = some o
theorem Ex.refl (H : Hp) : Ex H H := fun _ _ h => h
theorem Ex.trans {H H1 H2 : Hp} (a : Ex H H1) (b : Ex H1 H2) : Ex H H2 := fun x o h => b x o (a x o h)
theorem Ex.new {H : Hp} {p : Addr} {o : HO} (h : H p = none) : Ex H (upd H p o) := fun a u e => by
  rw [upd_ne (ne_of_none e h)]; exact e
theorem Ex.back {H H' : Hp} {p : Addr} (e : Ex H H') (h : H' p = none) : H p = none := by
  cases h1 : H p with
  | none => rfl
  | some o => rw [e p o h1] at h; cases h
theorem Ex.upd2 {H H' : Hp} {p : Addr} {o : HO} (e : Ex H H') : Ex (upd H p o) (upd H' p o) := fun a u h => by
  by_cases c : a = p
  · subst c; rw [upd_same] at h ⊢; exact h
  · rw [upd_ne c] at h ⊢; exact e a u h
theorem Ex.updR {H H' : Hp} {p : Addr} {o : HO} (e : Ex H H') (h : H p = none) : Ex H (upd H' p o) := fun a u ha => by
  rw [upd_ne (ne_of_none ha h)]; exact e a u ha
theorem Ex.rd {H H' : Hp} {a : Addr} {u : HO} (e : Ex H H') (h : Rd H a u) : Rd H' a u := by
  rcases h with h | ⟨o, h⟩
  · exact Or.inl (e a _ h)
  · exact Or.inr ⟨o, e a _ h⟩
theorem Ex.l {K : Fg} {H H' : Hp} {a : Addr} {xs : List V} (e : Ex H H') (h : SqL K H a xs) : SqL K H' a xs := by
  rcases h with h | h
  · exact Or.inl (e.rd h)
  · exact Or.inr h
theorem Ex.t {K : Fg} {H H' : Hp} {a : Addr} {xs : List V} (e : Ex H H') (h : SqT K H a xs) : SqT K H' a xs := by
  rcases h with h | h
  · exact Or.inl (e.rd h)
  · exact Or.inr h
mutual
theorem Dp.mono {K : Fg} {H H' : Hp} (e : Ex H H') : ∀ {v : V} {d : PyData}, Dp K H v d → Dp K H' v d
  | _, _, .non => .non
  | _, _, .bl b => .bl b
  | _, _, .int i => .int i
  | _, _, .str x => .str x
  | _, _, .lst h a => .lst (e.l h) (DpAll.mono e a)
  | _, _, .tup h a => .tup (e.t h) (DpAll.mono e a)
theorem DpAll.mono {K : Fg} {H H' : Hp} (e : Ex H H') : ∀ {v : List V} {d : List PyData}, DpAll K H v d → DpAll K H' v d
  | _, _, .nil => .nil
  | _, _, .cons a b => .cons (Dp.mono e a) (DpAll.mono e b)
end
theorem DpAll.length {K : Fg} {H : Hp} : ∀ {v : List V} {d : List PyData}, DpAll K H v d → v.length = d.length
  | _, _, .nil => rfl
  | _, _, .cons _ b => congrArg (· + 1) (DpAll.length b)
theorem DpAll.get {K : Fg} {H : Hp} : ∀ {vs : List V} {ds : List PyData} {i : Nat} {d : PyData}, DpAll K H vs ds → ds[i]? = some d → ∃ v, vs[i]? = some v ∧ Dp K H v d
  | _, _, 0, _, .cons a _, e => by simp at e; subst e; exact ⟨_, rfl, a⟩
  | _, _, i + 1, d, .cons _ b, e => by
    obtain ⟨v, h1, h2⟩ := DpAll.get (i := i) b (by simpa using e)
    exact ⟨v, by simpa using h1, h2⟩
  | _, _, _, _, .nil, e => by simp at e
theorem DpAll.get' {K : Fg} {H : Hp} : ∀ {vs : List V} {ds : List PyData} {i : Nat} {v : V}, DpAll K H vs ds → vs[i]? = some v → ∃ d, ds[i]? = some d ∧ Dp K H v d
  | _, _, 0, _, .cons a _, e => by simp at e; subst e; exact ⟨_, rfl, a⟩
  | _, _, i + 1, d, .cons _ b, e => by
    obtain ⟨v, h1, h2⟩ := DpAll.get' (i := i) b (by simpa using e)
    exact ⟨v, by simpa using h1, h2⟩
  | _, _, _, _, .nil, e => by simp at e
theorem DpAll.append {K : Fg} {H : Hp} : ∀ {v v' : List V} {d d' : List PyData}, DpAll K H v d → DpAll K H v' d' → DpAll K H (v ++ v') (d ++ d')
  | _, _, _, _, .nil, s => s
  | _, _, _, _, .cons a b, s => .cons a (DpAll.append b s)
theorem DpAll.set {K : Fg} {H : Hp} {x : V} {y : PyData} (r : Dp K H x y) : ∀ {v : List V} {d : List PyData} (i : Nat), DpAll K H v d → DpAll K H (v.set i x) (d.set i y)
  | _, _, _, .nil => .nil
  | _, _, 0, .cons _ b => .cons r b
  | _, _, i + 1, .cons a b => .cons a (DpAll.set r i b)
theorem DpAll.take {K : Fg} {H : Hp} : ∀ {v : List V} {d : List PyData} (n : Nat), DpAll K H v d → DpAll K H (v.take n) (d.take n)
  | _, _, 0, _ => .nil
  | _, _, _ + 1, .nil => .nil
  | _, _, n + 1, .cons a b => .cons a (DpAll.take n b)
theorem DpAll.drop {K : Fg} {H : Hp} : ∀ {v : List V} {d : List PyData} (n : Nat), DpAll K H v d → DpAll K H (v.drop n) (d.drop n)
  | _, _, 0, h => h
  | _, _, _ + 1, .nil => .nil
  | _, _, n + 1, .cons _ b => DpAll.drop n b
theorem DpAll.reverse {K : Fg} {H : Hp} : ∀ {v : List V} {d : List PyData}, DpAll K H v d → DpAll K H v.reverse d.reverse
  | _, _, .nil => .nil
  | _, _, .cons (v := v) (vs := vs) (d := d) (ds := ds) a b => by
    rw [List.reverse_cons, List.reverse_cons]
    exact DpAll.append (DpAll.reverse b) (.cons a .nil)
theorem DpAll.dropLast {K : Fg} {H : Hp} {v : List V} {d : List PyData} (h : DpAll K H v d) : DpAll K H v.dropLast d.dropLast := by
  rw [List.dropLast_eq_take, List.dropLast_eq_take, DpAll.length h]
  exact DpAll.take _ h
def dI (n : Int) : PyData := .int n
theorem DpAll.ints {K : Fg} {H : Hp} : ∀ (ns : List Int), DpAll K H (ns.map V.int) (ns.map PyData.int)
  | [] => .nil
  | n :: ns => .cons (.int n) (DpAll.ints ns)
theorem DpAll.ints_eq {K : Fg} {H : Hp} : ∀ {vs : List V} {ns : List Int}, DpAll K H vs (ns.map PyData.int) → vs = ns.map V.int
  | _, [], .nil => rfl
  | _, n :: ns, .cons a b => by
    cases a
    rw [DpAll.ints_eq b]; rfl

/-! ### slots -/
inductive Sl where
  | no
  | dat (d : PyData)
  | own (ds : List PyData)
  | dic (kvs : List (Int × PyData))
  | dit (kvs : List (List Int × PyData))
  | pown (ds : List PyData)
  | pool
def Sl.mut : Sl → Bool
  | .own _ => true
  | .dic _ => true
  | .dit _ => true
  | .pown _ => true
  | .pool => true
  | _ => false
abbrev LS := List Sl

def slot (σ : L2.St) (i : Nat) : Option V := (σ[i]?).join
theorem slot_some {σ : L2.St} {i : Nat} {v : V} (h : slot σ i = some v) : σ[i]? = some (some v) := by
  unfold slot at h
  cases e : σ[i]? with
  | none => rw [e] at h; cases h
  | some o => rw [e] at h; cases o with
    | none => cases h
    | some u => cases h; rfl
theorem slot_of {σ : L2.St} {i : Nat} {v : V} (h : σ[i]? = some (some v)) : slot σ i = some v := by
  unfold slot; rw [h]; rfl
theorem slot_set {σ : L2.St} {i : Nat} {o : Option V} (h : i < σ.length) : slot (σ.set i o) i = o := by
  unfold slot; rw [List.getElem?_set_self h]; rfl
theorem slot_set_ne {σ : L2.St} {i j : Nat} {o : Option V} (h : i ≠ j) : slot (σ.set i o) j = slot σ j := by
  unfold slot; rw [List.getElem?_set_ne h]

def KvAll (K : Fg) (F : Hp) : List (Key × V) → List (Int × PyData) → Prop := Paired fun p q => p.1 = Sum.inl q.1 ∧ Dp K F p.2 q.2
def KtAll (K : Fg) (F : Hp) : List (List Key × V) → List (List Int × PyData) → Prop := Paired fun p q => p.1 = q.1.map Sum.inl ∧ Dp K F p.2 q.2
theorem KvAll.mono {K : Fg} {F F' : Hp} (e : Ex F F') {a : List (Key × V)} {b : List (Int × PyData)} (h : KvAll K F a b) : KvAll K F' a b := Paired.mapP h fun _ _ q => ⟨q.1, Dp.mono e q.2⟩
theorem KtAll.mono {K : Fg} {F F' : Hp} (e : Ex F F') {a : List (List Key × V)} {b : List (List Int × PyData)} (h : KtAll K F a b) : KtAll K F' a b := Paired.mapP h fun _ _ q => ⟨q.1, Dp.mono e q.2⟩

/-- the pool of the law: [script, place, number, many, salt] -/
def PoolAt (K : Fg) (F H : Hp) (p : Addr) : Prop := F p = none ∧ ∃ (s : Addr) (ns : List Int) (i : Nat) (c k salt : Int), H p = some (.lst [.ref s, .int i, .int c, .int k, .int salt]) ∧ SqL K F s (ns.map V.int)

def SlOk (K : Fg) (b : Option Addr) (H0 F H : Hp) (o : Option V) : Sl → Prop
  | .no => True
  | .dat d => ∃ v, o = some v ∧ Dp K F v d
  | .own ds => ∃ p xs, o = some (.ref p) ∧ H p = some (.lst xs) ∧ F p = none ∧ H0 p = none ∧ DpAll K F xs ds
  | .dic kvs => ∃ p xs, o = some (.ref p) ∧ H p = some (.dK xs) ∧ F p = none ∧ H0 p = none ∧ KvAll K F xs kvs
  | .dit kvs => ∃ p xs, o = some (.ref p) ∧ H p = some (.dT xs) ∧ F p = none ∧ H0 p = none ∧ KtAll K F xs kvs
  | .pown ds => ∃ p xs, o = some (.ref p) ∧ H p = some (.lst xs) ∧ F p = none ∧ b = some p ∧ DpAll K F xs ds
  | .pool => ∃ p, o = some (.ref p) ∧ b = some p ∧ PoolAt K F H p

/-- from the entry: what the caller sees is kept; b may change -/
structure Gr (b : Option Addr) (F H F' H' : Hp) : Prop where
  ex : Ex F F'
  sub : Ex F' H'
  keep : ∀ p o, F p = none → H p = some o → F' p = none ∧ (b ≠ some p → H' p = some o) ∧ ∃ o', H' p = some o'
theorem Gr.refl {b : Option Addr} {F H : Hp} (e : Ex F H) : Gr b F H F H := ⟨Ex.refl F, e, fun _ o h1 h2 => ⟨h1, fun _ => h2, o, h2⟩⟩
theorem Gr.trans {b : Option Addr} {F H F1 H1 F2 H2 : Hp} (x : Gr b F H F1 H1) (y : Gr b F1 H1 F2 H2) : Gr b F H F2 H2 := by
  refine ⟨x.ex.trans y.ex, y.sub, fun p o h1 h2 => ?_⟩
  obtain ⟨a1, a2, o', a3⟩ := x.keep p o h1 h2
  obtain ⟨b1, b2, b3⟩ := y.keep p o' a1 a3
  exact ⟨b1, fun hb => (y.keep p o a1 (a2 hb)).2.1 hb, b3⟩
theorem Gr.weak {b : Option Addr} {F H F1 H1 : Hp} (x : Gr none F H F1 H1) : Gr b F H F1 H1 :=
  ⟨x.ex, x.sub, fun p o h1 h2 => by
    obtain ⟨a1, a2, a3⟩ := x.keep p o h1 h2
    exact ⟨a1, fun _ => a2 (fun z => nomatch z), a3⟩⟩
theorem Gr.exH {F H F1 H1 : Hp} (x : Gr none F H F1 H1) (e : Ex F H) : Ex H H1 := fun a o h => by
  cases q : F a with
  | none => exact (x.keep a o q h).2.1 (fun z => nomatch z)
  | some u =>
    have := e a u q
    rw [h] at this; cases this
    exact x.sub a _ (x.ex a _ q)
/-- a new object, seen -/
theorem Gr.new {b : Option Addr} {F H : Hp} {p : Addr} {o : HO} (e : Ex F H) (h : H p = none) : Gr b F H (upd F p o) (upd H p o) := by
  have hf : F p = none := e.back h
  refine ⟨Ex.new hf, e.upd2, fun q u h1 h2 => ?_⟩
  have ne : q ≠ p := ne_of_none h2 h
  rw [upd_ne ne, upd_ne ne]
  exact ⟨h1, fun _ => h2, u, h2⟩
/-- a new object, not seen -/
theorem Gr.newH {b : Option Addr} {F H : Hp} {p : Addr} {o : HO} (e : Ex F H) (h : H p = none) : Gr b F H F (upd H p o) := by
  have hf : F p = none := e.back h
  refine ⟨Ex.refl F, e.updR hf, fun q u h1 h2 => ?_⟩
  have ne : q ≠ p := ne_of_none h2 h
  rw [upd_ne ne]
  exact ⟨h1, fun _ => h2, u, h2⟩

structure Base where
  F : Hp
  H : Hp
structure Stt (K : Fg) (b : Option Addr) (B : Base) (F H : Hp) (σ : L2.St) (δ : LS) : Prop where
  sub : Ex F H
  gr : Gr b B.F B.H F H
  len : σ.length = δ.length
  ok : ∀ i s, δ[i]? = some s → SlOk K b B.H F H (slot σ i) s
  ap : ∀ i j si sj p, i ≠ j → δ[i]? = some si → δ[j]? = some sj → si.mut = true → sj.mut = true → slot σ i = some (.ref p) → slot σ j ≠ some (.ref p)

section
variable {K : Fg} {b : Option Addr} {B : Base} {F H F' H' : Hp} {σ : L2.St} {δ : LS}
theorem SlOk.mono {o : Option V} {s : Sl} (h : SlOk K b B.H F H o s) (e : Ex F F') (kp : ∀ p u, s.mut = true → o = some (.ref p) → F p = none → H p = some u → F' p = none ∧ H' p = some u) : SlOk K b B.H F' H' o s := by
  cases s with
  | no => trivial
  | dat d => obtain ⟨v, h1, h2⟩ := h; exact ⟨v, h1, Dp.mono e h2⟩
  | own ds =>
    obtain ⟨p, xs, h1, h2, h3, h4, h5⟩ := h
    obtain ⟨k1, k2⟩ := kp p _ rfl h1 h3 h2
    exact ⟨p, xs, h1, k2, k1, h4, DpAll.mono e h5⟩
  | dic kvs =>
    obtain ⟨p, xs, h1, h2, h3, h4, h5⟩ := h
    obtain ⟨k1, k2⟩ := kp p _ rfl h1 h3 h2
    exact ⟨p, xs, h1, k2, k1, h4, KvAll.mono e h5⟩
  | dit kvs =>
    obtain ⟨p, xs, h1, h2, h3, h4, h5⟩ := h
    obtain ⟨k1, k2⟩ := kp p _ rfl h1 h3 h2
    exact ⟨p, xs, h1, k2, k1, h4, KtAll.mono e h5⟩
  | pool =>
    obtain ⟨p, h1, h2, h3, s, ns, i, c, k, salt, h4, h5⟩ := h
    obtain ⟨k1, k2⟩ := kp p _ rfl h1 h3 h4
    exact ⟨p, h1, h2, k1, s, ns, i, c, k, salt, k2, e.l h5⟩
  | pown ds =>
    obtain ⟨p, xs, h1, h2, h3, h4, h5⟩ := h
    obtain ⟨k1, k2⟩ := kp p _ rfl h1 h3 h2
    exact ⟨p, xs, h1, k2, k1, h4, DpAll.mono e h5⟩
/-- the heaps go on, the slots stand -/
theorem Stt.step (S : Stt K b B F H σ δ) (g : Gr none F H F' H') : Stt K b B F' H' σ δ :=
  ⟨g.sub, S.gr.trans g.weak, S.len, fun i s h => (S.ok i s h).mono g.ex fun p u _ _ h1 h2 => by
    obtain ⟨a, c, _⟩ := g.keep p u h1 h2
    exact ⟨a, c (fun z => nomatch z)⟩, S.ap⟩
theorem Stt.dat (S : Stt K b B F H σ δ) {i : Nat} {d : PyData} (h : δ[i]? = some (.dat d)) : ∃ v, σ[i]? = some (some v) ∧ Dp K F v d := by
  obtain ⟨v, h1, h2⟩ := S.ok i _ h
  exact ⟨v, slot_some h1, h2⟩
theorem Stt.own (S : Stt K b B F H σ δ) {i : Nat} {ds : List PyData} (h : δ[i]? = some (.own ds)) : ∃ p xs, σ[i]? = some (some (.ref p)) ∧ H p = some (.lst xs) ∧ F p = none ∧ B.H p = none ∧ DpAll K F xs ds := by
  obtain ⟨p, xs, h1, h2⟩ := S.ok i _ h
  exact ⟨p, xs, slot_some h1, h2⟩
theorem lt_of_get {α : Type} {l : List α} {i : Nat} {x : α} (h : l[i]? = some x) : i < l.length := (List.getElem?_eq_some_iff.mp h).1
theorem Stt.pown (S : Stt K b B F H σ δ) {i : Nat} {ds : List PyData} (h : δ[i]? = some (.pown ds)) : ∃ p xs, σ[i]? = some (some (.ref p)) ∧ H p = some (.lst xs) ∧ F p = none ∧ b = some p ∧ DpAll K F xs ds := by
  obtain ⟨p, xs, h1, h2⟩ := S.ok i _ h
  exact ⟨p, xs, slot_some h1, h2⟩
/-- a slot is set to data | to nothing -/
theorem Stt.set (S : Stt K b B F H σ δ) {i : Nat} {o : Option V} {s : Sl} (ok : i < σ.length → SlOk K b B.H F H o s) (ap : s.mut = false ∨ ∀ j sj p, i ≠ j → δ[j]? = some sj → sj.mut = true → o = some (.ref p) → slot σ j ≠ some (.ref p)) : Stt K b B F H (σ.set i o) (δ.set i s) := by
  refine ⟨S.sub, S.gr, by rw [List.length_set, List.length_set]; exact S.len, fun j t h => ?_, fun j k sj sk p hjk h1 h2 m1 m2 h3 => ?_⟩
  · by_cases e : i = j
    · subst e
      have hi : i < δ.length := by
        have := lt_of_get h
        rwa [List.length_set] at this
      rw [List.getElem?_set_self hi] at h
      cases h
      have hs : i < σ.length := by rw [S.len]; exact hi
      rw [slot_set hs]
      exact ok hs
    · rw [List.getElem?_set_ne e] at h
      rw [slot_set_ne e]
      exact S.ok j t h
  · by_cases e : i = j
    · subst e
      have hi : i < δ.length := by
        have := lt_of_get h1
        rwa [List.length_set] at this
      rw [List.getElem?_set_self hi] at h1
      cases h1
      rw [slot_set (by rw [S.len]; exact hi)] at h3
      rw [List.getElem?_set_ne hjk] at h2
      rw [slot_set_ne hjk]
      rcases ap with ap | ap
      · rw [ap] at m1; cases m1
      · exact ap k sk p hjk h2 m2 h3
    · rw [List.getElem?_set_ne e] at h1
      rw [slot_set_ne e] at h3
      by_cases e' : i = k
      · subst e'
        have hi : i < δ.length := by
          have := lt_of_get h2
          rwa [List.length_set] at this
        rw [List.getElem?_set_self hi] at h2
        cases h2
        rw [slot_set (by rw [S.len]; exact hi)]
        rcases ap with ap | ap
        · rw [ap] at m2; cases m2
        · exact fun z => ap j sj p e h1 m1 z h3
      · rw [List.getElem?_set_ne e'] at h2
        rw [slot_set_ne e']
        exact S.ap j k sj sk p hjk h1 h2 m1 m2 h3
theorem Stt.setD (S : Stt K b B F H σ δ) {i : Nat} {v : V} {d : PyData} (h : Dp K F v d) : Stt K b B F H (σ.set i (some v)) (δ.set i (.dat d)) :=
  S.set (fun _ => ⟨v, rfl, h⟩) (.inl rfl)
/-- a slot's object is written: it is that slot's alone -/
theorem Stt.wr (S : Stt K b B F H σ δ) {i : Nat} {s s' : Sl} {p : Addr} {o : HO} (h : δ[i]? = some s) (m : s.mut = true) (hp : slot σ i = some (.ref p)) (hF : F p = none) (hB : B.H p = none ∨ b = some p) (hH : ∃ u, H p = some u)
    (m' : s'.mut = true) (ok : SlOk K b B.H F (upd H p o) (some (.ref p)) s') : Stt K b B F (upd H p o) σ (δ.set i s') := by
  have hi : i < δ.length := lt_of_get h
  refine ⟨S.sub.updR hF, ⟨S.gr.ex, S.sub.updR hF, fun q u h1 h2 => ?_⟩, by rw [List.length_set]; exact S.len, fun j t hj => ?_, fun j k sj sk q hjk h1 h2 m1 m2 h3 => ?_⟩
  · obtain ⟨a1, a2, a3⟩ := S.gr.keep q u h1 h2
    refine ⟨a1, fun hb => ?_, ?_⟩
    · have ne : q ≠ p := by
        rintro rfl
        rcases hB with z | z
        · rw [h2] at z; cases z
        · exact hb z
      rw [upd_ne ne]; exact a2 hb
    · by_cases c : q = p
      · subst c; exact ⟨o, upd_same⟩
      · rw [upd_ne c]; exact a3
  · by_cases e : i = j
    · subst e
      rw [List.getElem?_set_self hi] at hj
      cases hj
      rw [hp]; exact ok
    · rw [List.getElem?_set_ne e] at hj
      refine (S.ok j t hj).mono (Ex.refl F) fun q u mt hq h1 h2 => ⟨h1, ?_⟩
      have ne : q ≠ p := by
        rintro rfl
        exact S.ap i j s t _ e h hj m mt hp hq
      rw [upd_ne ne]; exact h2
  · have get : ∀ (k : Nat) (sk : Sl), (δ.set i s')[k]? = some sk → sk.mut = true → ∃ sk' : Sl, δ[k]? = some sk' ∧ sk'.mut = true := fun k sk hk mk => by
      by_cases e : i = k
      · subst e; exact ⟨s, h, m⟩
      · rw [List.getElem?_set_ne e] at hk
        exact ⟨sk, hk, mk⟩
    obtain ⟨sj', g1, g2⟩ := get j sj h1 m1
    obtain ⟨sk', g3, g4⟩ := get k sk h2 m2
    exact S.ap j k sj' sk' q hjk g1 g3 g2 g4 h3
/-- a list of one's own becomes data -/
theorem Stt.frz (S : Stt K b B F H σ δ) {i : Nat} {ds : List PyData} (h : δ[i]? = some (.own ds)) : ∃ p F', σ[i]? = some (some (.ref p)) ∧ Ex F F' ∧ Dp K F' (.ref p) (.list ds) ∧ Stt K b B F' H σ (δ.set i (.dat (.list ds))) := by
  obtain ⟨p, xs, h1, h2, h3, h4, h5⟩ := S.own h
  have e : Ex F (upd F p (.lst xs)) := Ex.new h3
  have hd : Dp K (upd F p (.lst xs)) (.ref p) (.list ds) := .lst (.inl (.inl upd_same)) (DpAll.mono e h5)
  have hi : i < δ.length := lt_of_get h
  refine ⟨p, _, h1, e, hd, ⟨fun a u q => ?_, ⟨S.gr.ex.trans e, fun a u q => ?_, fun q u g1 g2 => ?_⟩, by rw [List.length_set]; exact S.len, fun j t hj => ?_, fun j k sj sk q hjk g1 g2 m1 m2 g3 => ?_⟩⟩
  · by_cases c : a = p
    · subst c; rw [upd_same] at q; cases q; exact h2
    · rw [upd_ne c] at q; exact S.sub a u q
  · by_cases c : a = p
    · subst c; rw [upd_same] at q; cases q; exact h2
    · rw [upd_ne c] at q; exact S.sub a u q
  · obtain ⟨a1, a2⟩ := S.gr.keep q u g1 g2
    have ne : q ≠ p := by rintro rfl; rw [h4] at g2; cases g2
    rw [upd_ne ne]; exact ⟨a1, a2⟩
  · by_cases c : i = j
    · subst c
      rw [List.getElem?_set_self hi] at hj
      cases hj
      exact ⟨.ref p, slot_of h1, hd⟩
    · rw [List.getElem?_set_ne c] at hj
      refine (S.ok j t hj).mono e fun q u mt hq g1 g2 => ⟨?_, g2⟩
      have ne : q ≠ p := by
        rintro rfl
        exact S.ap i j _ t _ c h hj rfl mt (slot_of h1) hq
      rw [upd_ne ne]; exact g1
  · have ne : ∀ (k : Nat) (sk : Sl), (δ.set i (.dat (.list ds)))[k]? = some sk → sk.mut = true → k ≠ i ∧ δ[k]? = some sk := fun k sk hk mk => by
      by_cases e : i = k
      · subst e
        rw [List.getElem?_set_self hi] at hk
        cases hk; cases mk
      · rw [List.getElem?_set_ne e] at hk
        exact ⟨Ne.symm e, hk⟩
    exact S.ap j k sj sk q hjk (ne j sj g1 m1).2 (ne k sk g2 m2).2 m1 m2 g3
end
end Ab

set_option Elab.async false
set_option linter.all false
set_option maxRecDepth 100000
set_option maxHeartbeats 2000000
namespace Ab
open PySem PySem.Spec PyProof.Rows L2

inductive AV where
  | d (x : PyData)
  | o (i : Nat)
def VR (K : Fg) (F : Hp) (σ : L2.St) (v : V) : AV → Prop
  | .d x => Dp K F v x
  | .o i => σ[i]? = some (some v)
theorem VR.mono {K : Fg} {F F' : Hp} {σ : L2.St} {v : V} (e : Ex F F') : ∀ {a : AV}, VR K F σ v a → VR K F' σ v a
  | .d _, h => Dp.mono e h
  | .o _, h => h

/-! ### judgements -/
def De (K : Fg) (b : Option Addr) (te : TE) (δ : LS) (R : AV → LS → Prop) : Prop :=
  ∀ B F H σ, Stt K b B F H σ δ → ∀ Q : VK, (∀ v F2 H2 a δ2, R a δ2 → Stt K b B F2 H2 σ δ2 → Ex F F2 → VR K F2 σ v a → Q v H2) → te σ H Q
/-- data alone -/
def Dd (K : Fg) (b : Option Addr) (te : TE) (δ : LS) (R : PyData → LS → Prop) : Prop :=
  ∀ B F H σ, Stt K b B F H σ δ → ∀ Q : VK, (∀ v F2 H2 x δ2, R x δ2 → Stt K b B F2 H2 σ δ2 → Ex F F2 → Dp K F2 v x → Q v H2) → te σ H Q
def Dt (K : Fg) (b : Option Addr) (tt : TT) (δ : LS) (R : Bool → LS → Prop) : Prop :=
  ∀ B F H σ, Stt K b B F H σ δ → ∀ Q : Bool → Hp → Prop, (∀ c F2 H2 δ2, R c δ2 → Stt K b B F2 H2 σ δ2 → Ex F F2 → Q c H2) → tt σ H Q
def Da (K : Fg) (b : Option Addr) (ta : TA) (δ : LS) (R : List PyData → LS → Prop) : Prop :=
  ∀ B F H σ, Stt K b B F H σ δ → ∀ Q : List V → Hp → Prop, (∀ vs F2 H2 ds δ2, R ds δ2 → Stt K b B F2 H2 σ δ2 → Ex F F2 → DpAll K F2 vs ds → Q vs H2) → ta σ H Q
/-- a new list, nobody's yet -/
structure New (K : Fg) (B : Base) (F H : Hp) (σ : L2.St) (δ : LS) (p : Addr) (xs : List V) (ds : List PyData) : Prop where
  h : H p = some (.lst xs)
  f : F p = none
  b : B.H p = none
  ap : ∀ i s, δ[i]? = some s → s.mut = true → slot σ i ≠ some (.ref p)
  all : DpAll K F xs ds
def Dn (K : Fg) (b : Option Addr) (te : TE) (δ : LS) (R : List PyData → LS → Prop) : Prop :=
  ∀ B F H σ, Stt K b B F H σ δ → ∀ Q : VK, (∀ p xs F2 H2 ds δ2, R ds δ2 → Stt K b B F2 H2 σ δ2 → Ex F F2 → New K B F2 H2 σ δ2 p xs ds → Q (.ref p) H2) → te σ H Q
structure Po where
  nx : LS → Prop
  rt : PyData → Prop
  bk : LS → Prop := fun _ => False
  ct : LS → Prop := fun _ => False
  rn : List PyData → Prop := fun _ => False
  rs : PyData → LS → Prop := fun _ _ => False
structure EndsOk (K : Fg) (b : Option Addr) (B : Base) (F0 : Hp) (P : Po) (D : Ends) : Prop where
  nx : ∀ F H σ δ, P.nx δ → Stt K b B F H σ δ → Ex F0 F → D.nx σ H
  rt : ∀ v F H d, P.rt d → Gr b B.F B.H F H → Dp K F v d → D.rt v H
  bk : ∀ F H σ δ, P.bk δ → Stt K b B F H σ δ → Ex F0 F → D.bk σ H
  ct : ∀ F H σ δ, P.ct δ → Stt K b B F H σ δ → Ex F0 F → D.ct σ H
  rn : ∀ p xs F H σ δ ds, P.rn ds → Stt K b B F H σ δ → New K B F H σ δ p xs ds → D.rt (.ref p) H
  rs : ∀ v F H d σ δ, P.rs d δ → Stt K b B F H σ δ → Dp K F v d → D.rt v H
theorem EndsOk.mono {K : Fg} {b : Option Addr} {B : Base} {F0 F1 : Hp} {P : Po} {D : Ends} (E : EndsOk K b B F0 P D) (e : Ex F0 F1) : EndsOk K b B F1 P D :=
  ⟨fun F H σ δ h S e1 => E.nx F H σ δ h S (e.trans e1), E.rt, fun F H σ δ h S e1 => E.bk F H σ δ h S (e.trans e1), fun F H σ δ h S e1 => E.ct F H σ δ h S (e.trans e1), E.rn, E.rs⟩
def Ds (K : Fg) (b : Option Addr) (ts : TS) (δ : LS) (P : Po) : Prop :=
  ∀ B F H σ (D : Ends), Stt K b B F H σ δ → EndsOk K b B F P D → ts D σ H
def Dg (K : Fg) (b : Option Addr) (g : TG) (x : PyData) (δ : LS) (R : LS → Prop) : Prop :=
  ∀ B F H σ v, Stt K b B F H σ δ → Dp K F v x → ∀ Q : L2.St → Hp → Prop, (∀ F2 H2 σ2 δ2, R δ2 → Stt K b B F2 H2 σ2 δ2 → Ex F F2 → Q σ2 H2) → g v σ H Q
def Dgs (K : Fg) (b : Option Addr) (g : TGs) (xs : List PyData) (δ : LS) (R : LS → Prop) : Prop :=
  ∀ B F H σ vs, Stt K b B F H σ δ → DpAll K F vs xs → ∀ Q : L2.St → Hp → Prop, (∀ F2 H2 σ2 δ2, R δ2 → Stt K b B F2 H2 σ2 δ2 → Ex F F2 → Q σ2 H2) → g vs σ H Q

section
variable {K : Fg} {b : Option Addr} {δ : LS} {te ta tb : TE} {t u : TT} {R : AV → LS → Prop}

/-! ### values -/
theorem de_var {i : Nat} {d : PyData} (h : δ[i]? = some (.dat d)) (k : R (.d d) δ) : De K b (tVar i) δ R := fun B F H σ S Q q => by
  obtain ⟨v, h1, h2⟩ := S.dat h
  exact ⟨v, h1, q v F H _ δ k S (Ex.refl F) h2⟩
theorem de_own {i : Nat} {s : Sl} (h : δ[i]? = some s) (m : s.mut = true) (k : R (.o i) δ) : De K b (tVar i) δ R := fun B F H σ S Q q => by
  have : ∃ p, slot σ i = some (.ref p) := by
    have x := S.ok i s h
    cases s with
    | no => cases m
    | dat d => cases m
    | own ds => obtain ⟨p, _, h1, _⟩ := x; exact ⟨p, h1⟩
    | dic ds => obtain ⟨p, _, h1, _⟩ := x; exact ⟨p, h1⟩
    | dit ds => obtain ⟨p, _, h1, _⟩ := x; exact ⟨p, h1⟩
    | pown ds => obtain ⟨p, _, h1, _⟩ := x; exact ⟨p, h1⟩
    | pool => obtain ⟨p, h1, _⟩ := x; exact ⟨p, h1⟩
  obtain ⟨p, hp⟩ := this
  exact ⟨.ref p, slot_some hp, q _ F H _ δ k S (Ex.refl F) (slot_some hp)⟩
theorem de_ci {n : Int} (k : R (.d (.int n)) δ) : De K b (tC (.int n)) δ R := fun B F H σ S Q q => q _ F H _ δ k S (Ex.refl F) (.int n)
theorem de_cn (k : R (.d .none) δ) : De K b (tC .non) δ R := fun B F H σ S Q q => q _ F H _ δ k S (Ex.refl F) .non
theorem de_cb {c : Bool} (k : R (.d (.bool c)) δ) : De K b (tC (.bl c)) δ R := fun B F H σ S Q q => q _ F H _ δ k S (Ex.refl F) (.bl c)
theorem de_cs {x : Str} (k : R (.d (.str x)) δ) : De K b (tC (.str x)) δ R := fun B F H σ S Q q => q _ F H _ δ k S (Ex.refl F) (.str x)
theorem de_c {v : V} {d : PyData} (h : ∀ F, Dp K F v d) (k : R (.d d) δ) : De K b (tC v) δ R := fun B F H σ S Q q => q _ F H _ δ k S (Ex.refl F) (h F)

/-- to data: a list of one's own is given away -/
def toD (R : PyData → LS → Prop) : AV → LS → Prop
  | .d x, δ => R x δ
  | .o i, δ => ∃ ds, δ[i]? = some (.own ds) ∧ R (.list ds) (δ.set i (.dat (.list ds)))
theorem dd_of {R : PyData → LS → Prop} (h : De K b te δ (toD R)) : Dd K b te δ R := fun B F H σ S Q q => h B F H σ S Q fun v F2 H2 a δ2 r S2 e vr => by
  cases a with
  | d x => exact q v F2 H2 x δ2 r S2 e vr
  | o i =>
    obtain ⟨ds, h1, h2⟩ := r
    obtain ⟨p, F3, g1, g2, g3, g4⟩ := S2.frz h1
    have : some (some v) = some (some (V.ref p)) := (show σ[i]? = some (some v) from vr).symm.trans g1
    cases this
    exact q _ F3 H2 _ _ h2 g4 (e.trans g2) g3
theorem de_ofD (h : Dd K b te δ fun x δ' => R (.d x) δ') : De K b te δ R := fun B F H σ S Q q => h B F H σ S Q fun v F2 H2 x δ2 r S2 e vr => q v F2 H2 _ δ2 r S2 e vr
theorem de_ofN (h : Dn K b te δ fun ds δ' => R (.d (.list ds)) δ') : De K b te δ R := fun B F H σ S Q q => h B F H σ S Q fun p xs F2 H2 ds δ2 r S2 e N => by
  have e2 : Ex F2 (upd F2 p (.lst xs)) := Ex.new N.f
  refine q _ (upd F2 p (.lst xs)) H2 _ δ2 r ⟨fun a u z => ?_, ⟨S2.gr.ex.trans e2, fun a u z => ?_, fun c u g1 g2 => ?_⟩, S2.len, fun i s hs => ?_, S2.ap⟩ (e.trans e2) (.lst (.inl (.inl upd_same)) (DpAll.mono e2 N.all))
  · by_cases c : a = p
    · subst c; rw [upd_same] at z; cases z; exact N.h
    · rw [upd_ne c] at z; exact S2.sub a u z
  · by_cases c : a = p
    · subst c; rw [upd_same] at z; cases z; exact N.h
    · rw [upd_ne c] at z; exact S2.sub a u z
  · obtain ⟨a1, a2⟩ := S2.gr.keep c u g1 g2
    have ne : c ≠ p := by rintro rfl; rw [N.b] at g2; cases g2
    rw [upd_ne ne]; exact ⟨a1, a2⟩
  · refine (S2.ok i s hs).mono e2 fun c u mt hc g1 g2 => ⟨?_, g2⟩
    have ne : c ≠ p := by rintro rfl; exact N.ap i s hs mt hc
    rw [upd_ne ne]; exact g1
/-- reading a list or tuple -/
def seqIn (a : AV) (δ : LS) (xs : List PyData) : Prop := a = .d (.list xs) ∨ a = .d (.tuple xs) ∨ ∃ i, a = .o i ∧ (δ[i]? = some (.own xs) ∨ δ[i]? = some (.pown xs))
def lstIn (a : AV) (δ : LS) (xs : List PyData) : Prop := a = .d (.list xs) ∨ ∃ i, a = .o i ∧ (δ[i]? = some (.own xs) ∨ δ[i]? = some (.pown xs))
theorem seqIn.mkL {xs : List PyData} : seqIn (.d (.list xs)) δ xs := .inl rfl
theorem seqIn.mkT {xs : List PyData} : seqIn (.d (.tuple xs)) δ xs := .inr (.inl rfl)
theorem seqIn.mkO {xs : List PyData} {i : Nat} (h : δ[i]? = some (.own xs)) : seqIn (.o i) δ xs := .inr (.inr ⟨i, rfl, .inl h⟩)
theorem seqIn.mkP {xs : List PyData} {i : Nat} (h : δ[i]? = some (.pown xs)) : seqIn (.o i) δ xs := .inr (.inr ⟨i, rfl, .inr h⟩)
theorem lstIn.mkL {xs : List PyData} : lstIn (.d (.list xs)) δ xs := .inl rfl
theorem lstIn.mkO {xs : List PyData} {i : Nat} (h : δ[i]? = some (.own xs)) : lstIn (.o i) δ xs := .inr ⟨i, rfl, .inl h⟩
theorem Stt.any {B : Base} {F H : Hp} {σ : L2.St} (S : Stt K b B F H σ δ) {i : Nat} {ds : List PyData} (h : δ[i]? = some (.own ds) ∨ δ[i]? = some (.pown ds)) : ∃ p xs, σ[i]? = some (some (.ref p)) ∧ H p = some (.lst xs) ∧ DpAll K F xs ds := by
  rcases h with h | h
  · obtain ⟨p, xs, h1, h2, _, _, h5⟩ := S.own h; exact ⟨p, xs, h1, h2, h5⟩
  · obtain ⟨p, xs, h1, h2, _, _, h5⟩ := S.pown h; exact ⟨p, xs, h1, h2, h5⟩
theorem lstIn.get {B : Base} {F H : Hp} {σ : L2.St} {a : AV} {ds : List PyData} {v : V} (S : Stt K b B F H σ δ) (h : lstIn a δ ds) (r : VR K F σ v a) : ∃ p xs, v = .ref p ∧ SqL K H p xs ∧ DpAll K F xs ds := by
  rcases h with rfl | ⟨i, rfl, h⟩
  · cases r with
    | lst h1 h2 => exact ⟨_, _, rfl, S.sub.l h1, h2⟩
  · obtain ⟨p, xs, h1, h2, h5⟩ := S.any h
    have : some (some v) = some (some (V.ref p)) := (show σ[i]? = some (some v) from r).symm.trans h1
    cases this
    exact ⟨p, xs, rfl, .inl (.inl h2), h5⟩
theorem seqIn.get {B : Base} {F H : Hp} {σ : L2.St} {a : AV} {ds : List PyData} {v : V} (S : Stt K b B F H σ δ) (h : seqIn a δ ds) (r : VR K F σ v a) : ∃ p xs, v = .ref p ∧ (SqL K H p xs ∨ SqT K H p xs) ∧ DpAll K F xs ds := by
  rcases h with rfl | rfl | ⟨i, rfl, h⟩
  · cases r with
    | lst h1 h2 => exact ⟨_, _, rfl, .inl (S.sub.l h1), h2⟩
  · cases r with
    | tup h1 h2 => exact ⟨_, _, rfl, .inr (S.sub.t h1), h2⟩
  · obtain ⟨p, xs, h1, h2, h5⟩ := S.any h
    have : some (some v) = some (some (V.ref p)) := (show σ[i]? = some (some v) from r).symm.trans h1
    cases this
    exact ⟨p, xs, rfl, .inl (.inl (.inl h2)), h5⟩

/-! ### operators -/
/-- two operands, both data -/
theorem de_bin {r : R2} (h : De K b ta δ fun x δ1 => De K b tb δ1 fun y δ2 => ∃ d e z, x = .d d ∧ y = .d e ∧ R (.d z) δ2 ∧ ∀ (F H : Hp) (v w : V) (Q : VK), Ex F H → Dp K F v d → Dp K F w e → (∀ w', Dp K F w' z → Q w' H) → r v w H Q) : De K b (tOp r ta tb) δ R :=
  fun B F H σ S Q q => h B F H σ S _ fun v F1 H1 x δ1 r1 S1 e1 v1 => r1 B F1 H1 σ S1 _ fun w F2 H2 y δ2 r2 S2 e2 v2 => by
    obtain ⟨d, e, z, rfl, rfl, k, f⟩ := r2
    exact f F2 H2 v w Q S2.sub (VR.mono e2 v1) v2 fun w' hw => q w' F2 H2 _ δ2 k S2 (e1.trans e2) hw
theorem de_I0 {f : Int → Int → Int} (h : De K b ta δ fun x δ1 => De K b tb δ1 fun y δ2 => ∃ i, x = .d (.int i) ∧ ∃ j, y = .d (.int j) ∧ R (.d (.int (f i j))) δ2) : De K b (tOp (rI0 fun i j => .int (f i j)) ta tb) δ R :=
  fun B F H σ S Q q => h B F H σ S _ fun v F1 H1 x δ1 r1 S1 e1 v1 => r1 B F1 H1 σ S1 _ fun w F2 H2 y δ2 r2 S2 e2 v2 => by
    obtain ⟨i, rfl, j, rfl, k⟩ := r2
    cases v1; cases v2
    exact ⟨i, j, rfl, rfl, q _ F2 H2 _ δ2 k S2 (e1.trans e2) (.int _)⟩
theorem de_IC {C : Int → Int → Prop} {f : Int → Int → Int} (h : De K b ta δ fun x δ1 => De K b tb δ1 fun y δ2 => ∃ i, x = .d (.int i) ∧ ∃ j, y = .d (.int j) ∧ C i j ∧ R (.d (.int (f i j))) δ2) : De K b (tOp (rI C fun i j => .int (f i j)) ta tb) δ R :=
  fun B F H σ S Q q => h B F H σ S _ fun v F1 H1 x δ1 r1 S1 e1 v1 => r1 B F1 H1 σ S1 _ fun w F2 H2 y δ2 r2 S2 e2 v2 => by
    obtain ⟨i, rfl, j, rfl, c, k⟩ := r2
    cases v1; cases v2
    exact ⟨i, j, rfl, rfl, c, q _ F2 H2 _ δ2 k S2 (e1.trans e2) (.int _)⟩
theorem de_B0 {f : Int → Int → Bool} (h : De K b ta δ fun x δ1 => De K b tb δ1 fun y δ2 => ∃ i, x = .d (.int i) ∧ ∃ j, y = .d (.int j) ∧ R (.d (.bool (f i j))) δ2) : De K b (tOp (rI0 fun i j => .bl (f i j)) ta tb) δ R :=
  fun B F H σ S Q q => h B F H σ S _ fun v F1 H1 x δ1 r1 S1 e1 v1 => r1 B F1 H1 σ S1 _ fun w F2 H2 y δ2 r2 S2 e2 v2 => by
    obtain ⟨i, rfl, j, rfl, k⟩ := r2
    cases v1; cases v2
    exact ⟨i, j, rfl, rfl, q _ F2 H2 _ δ2 k S2 (e1.trans e2) (.bl _)⟩
/-- == and != of data -/
theorem de_eq (h : Dd K b ta δ fun x δ1 => Dd K b tb δ1 fun y δ2 => SeqAt.shaped x = true ∧ SeqAt.shaped y = true ∧ R (.d (.bool (PyData.eqv x y))) δ2) : De K b (tOp (rEqD K) ta tb) δ R :=
  fun B F H σ S Q q => h B F H σ S _ fun v F1 H1 x δ1 r1 S1 e1 v1 => r1 B F1 H1 σ S1 _ fun w F2 H2 y δ2 r2 S2 e2 v2 => by
    obtain ⟨s1, s2, k⟩ := r2
    exact ⟨x, y, Dp.mono (e2.trans S2.sub) v1, Dp.mono S2.sub v2, s1, s2, q _ F2 H2 _ δ2 k S2 (e1.trans e2) (.bl _)⟩
theorem de_ne (h : Dd K b ta δ fun x δ1 => Dd K b tb δ1 fun y δ2 => SeqAt.shaped x = true ∧ SeqAt.shaped y = true ∧ R (.d (.bool (!PyData.eqv x y))) δ2) : De K b (tOp (rNeD K) ta tb) δ R :=
  fun B F H σ S Q q => h B F H σ S _ fun v F1 H1 x δ1 r1 S1 e1 v1 => r1 B F1 H1 σ S1 _ fun w F2 H2 y δ2 r2 S2 e2 v2 => by
    obtain ⟨s1, s2, k⟩ := r2
    exact ⟨x, y, Dp.mono (e2.trans S2.sub) v1, Dp.mono S2.sub v2, s1, s2, q _ F2 H2 _ δ2 k S2 (e1.trans e2) (.bl _)⟩
/-- is None, is not None -/
def rIsN : R2 := fun x y H Q => y = .non ∧ Q (.bl (decide (x = .non))) H
def rNotN : R2 := fun x y H Q => y = .non ∧ Q (.bl (!decide (x = .non))) H
def isN : PyData → Bool
  | .none => true
  | _ => false
theorem isN_dp {F : Hp} {v : V} {d : PyData} (h : Dp K F v d) : decide (v = .non) = isN d := by
  cases h <;> first | rfl | exact decide_eq_false (fun z => by cases z)
theorem de_isN (h : Dd K b ta δ fun x δ1 => R (.d (.bool (isN x))) δ1) : De K b (tOp rIsN ta (tC .non)) δ R :=
  fun B F H σ S Q q => h B F H σ S _ fun v F1 H1 x δ1 r1 S1 e1 v1 => ⟨rfl, q _ F1 H1 _ δ1 r1 S1 e1 (by rw [isN_dp v1]; exact .bl _)⟩
theorem de_notN (h : Dd K b ta δ fun x δ1 => R (.d (.bool (!isN x))) δ1) : De K b (tOp rNotN ta (tC .non)) δ R :=
  fun B F H σ S Q q => h B F H σ S _ fun v F1 H1 x δ1 r1 S1 e1 v1 => ⟨rfl, q _ F1 H1 _ δ1 r1 S1 e1 (by rw [isN_dp v1]; exact .bl _)⟩
theorem de_U {f : Int → Int} (h : De K b ta δ fun x δ1 => ∃ i, x = .d (.int i) ∧ R (.d (.int (f i))) δ1) : De K b (tUn (rU fun i => .int (f i)) ta) δ R :=
  fun B F H σ S Q q => h B F H σ S _ fun v F1 H1 x δ1 r1 S1 e1 v1 => by
    obtain ⟨i, rfl, k⟩ := r1
    cases v1
    exact ⟨i, rfl, q _ F1 H1 _ δ1 k S1 e1 (.int _)⟩
/-- xs[i] of a list or a tuple -/
def rIxS (K : Fg) : R2 := fun x y H Q => rIxL K x y H Q ∨ rIxT K x y H Q
theorem ix_sq {X : Cx} : IxR X (rIxS X.K) := ix_list.or ix_tup
theorem atI_all {F : Hp} {xs : List V} {ds : List PyData} {n : Int} {d : PyData} (h : DpAll K F xs ds) (e : atI ds n = some d) : ∃ v, atI xs n = some v ∧ Dp K F v d := by
  unfold atI at e ⊢
  rw [DpAll.length h]
  cases q : ixN ds.length n with
  | none => rw [q] at e; cases e
  | some j =>
    rw [q] at e
    obtain ⟨v, h1, h2⟩ := DpAll.get h (show ds[j]? = some d from e)
    exact ⟨v, h1, h2⟩
theorem de_ix (h : De K b ta δ fun x δ1 => De K b tb δ1 fun y δ2 => ∃ xs, seqIn x δ2 xs ∧ ∃ n, y = .d (.int n) ∧ ∃ d, atI xs n = some d ∧ R (.d d) δ2) : De K b (tOp (rIxS K) ta tb) δ R :=
  fun B F H σ S Q q => h B F H σ S _ fun v F1 H1 x δ1 r1 S1 e1 v1 => r1 B F1 H1 σ S1 _ fun w F2 H2 y δ2 r2 S2 e2 v2 => by
    obtain ⟨ds, h1, n, rfl, d, h2, k⟩ := r2
    cases v2
    obtain ⟨p, xs, rfl, h3, h4⟩ := h1.get S2 (VR.mono e2 v1)
    obtain ⟨v', g1, g2⟩ := atI_all h4 h2
    have fin : Q v' H2 := q _ F2 H2 _ δ2 k S2 (e1.trans e2) g2
    rcases h3 with h3 | h3
    · exact .inl ⟨p, xs, n, v', rfl, rfl, h3, g1, fin⟩
    · exact .inr ⟨p, xs, n, v', rfl, rfl, h3, g1, fin⟩
/-- x in (a, b, ..): flat items -/
def flatD : PyData → Bool
  | .none => true
  | .bool _ => true
  | .int _ => true
  | .str _ => true
  | _ => false
def eqD : PyData → PyData → Bool
  | .int a, .int b => a == b
  | .str a, .str b => a == b
  | .bool a, .bool b => a == b
  | .none, .none => true
  | _, _ => false
end
end Ab

set_option Elab.async false
set_option linter.all false
set_option maxRecDepth 100000
set_option maxHeartbeats 2000000
namespace Ab
open PySem PySem.Spec PyProof.Rows L2
section
variable {K : Fg} {b : Option Addr} {δ : LS} {te ta tb tc : TE} {t u : TT} {R : AV → LS → Prop}

theorem any_ints (n : Int) : ∀ ns : List Int, ((ns.map V.int).any fun y => eqV y (V.int n)) = ns.any (fun m => m == n)
  | [] => rfl
  | m :: ns => by
    rw [List.map_cons, List.any_cons, List.any_cons, any_ints n ns]
    rfl
theorem flat_ints : ∀ ns : List Int, (ns.map V.int).all flatV = true
  | [] => rfl
  | m :: ns => by rw [List.map_cons, List.all_cons, flat_ints ns]; rfl
theorem de_inI {neg : Bool} (h : De K b ta δ fun x δ1 => De K b tb δ1 fun y δ2 => ∃ n, x = .d (.int n) ∧ ∃ ns : List Int, seqIn y δ2 (ns.map PyData.int) ∧ R (.d (.bool (if neg then !ns.any (fun m => m == n) else ns.any (fun m => m == n)))) δ2) : De K b (tOp (rIn K neg) ta tb) δ R :=
  fun B F H σ S Q q => h B F H σ S _ fun v F1 H1 x δ1 r1 S1 e1 v1 => r1 B F1 H1 σ S1 _ fun w F2 H2 y δ2 r2 S2 e2 v2 => by
    obtain ⟨n, rfl, ns, h1, k⟩ := r2
    cases v1
    obtain ⟨p, xs, rfl, h3, h4⟩ := h1.get S2 v2
    have e := DpAll.ints_eq h4
    subst e
    refine ⟨p, _, rfl, h3, rfl, flat_ints ns, ?_⟩
    have e2 : inV (V.int n) (ns.map V.int) = ns.any (fun m => m == n) := any_ints n ns
    rw [e2]
    exact q _ F2 H2 _ δ2 k S2 (e1.trans ‹_›) (.bl _)

/-! ### tests -/
theorem dt_test {R : Bool → LS → Prop} (h : De K b te δ fun x δ1 => ∃ c, x = .d (.bool c) ∧ R c δ1) : Dt K b (tTest te) δ R :=
  fun B F H σ S Q q => h B F H σ S _ fun v F1 H1 x δ1 r1 S1 e1 v1 => by
    obtain ⟨c, rfl, k⟩ := r1
    cases v1
    exact ⟨c, rfl, q c F1 H1 δ1 k S1 e1⟩
theorem dt_B {R : Bool → LS → Prop} (h : De K b te δ fun x δ1 => ∃ c, x = .d (.bool c) ∧ R c δ1) : Dt K b (tB te) δ R :=
  fun B F H σ S Q q => h B F H σ S _ fun v F1 H1 x δ1 r1 S1 e1 v1 => by
    obtain ⟨c, rfl, k⟩ := r1
    cases v1
    exact ⟨c, rfl, q c F1 H1 δ1 k S1 e1⟩
theorem dt_and {R : Bool → LS → Prop} (h : Dt K b t δ fun c δ1 => if c = true then Dt K b u δ1 R else R false δ1) : Dt K b (tAnd t u) δ R :=
  fun B F H σ S Q q => h B F H σ S _ fun c F1 H1 δ1 r1 S1 e1 => by
    cases c with
    | true =>
      show u σ H1 Q
      exact r1 B F1 H1 σ S1 Q fun c F2 H2 δ2 r2 S2 e2 => q c F2 H2 δ2 r2 S2 (e1.trans e2)
    | false =>
      show Q false H1
      exact q false F1 H1 δ1 r1 S1 e1
theorem dt_or {R : Bool → LS → Prop} (h : Dt K b t δ fun c δ1 => if c = true then R true δ1 else Dt K b u δ1 R) : Dt K b (tOr t u) δ R :=
  fun B F H σ S Q q => h B F H σ S _ fun c F1 H1 δ1 r1 S1 e1 => by
    cases c with
    | true =>
      show Q true H1
      exact q true F1 H1 δ1 r1 S1 e1
    | false =>
      show u σ H1 Q
      exact r1 B F1 H1 σ S1 Q fun c F2 H2 δ2 r2 S2 e2 => q c F2 H2 δ2 r2 S2 (e1.trans e2)
theorem dt_not {R : Bool → LS → Prop} (h : Dt K b t δ fun c δ1 => R (!c) δ1) : Dt K b (tNot t) δ R :=
  fun B F H σ S Q q => h B F H σ S _ fun c F1 H1 δ1 r1 S1 e1 => q _ F1 H1 δ1 r1 S1 e1
theorem dt_yes {R : Bool → LS → Prop} (h : R true δ) : Dt K b tYes δ R := fun B F H σ S Q q => q true F H δ h S (Ex.refl F)
theorem de_if (h : Dt K b t δ fun c δ1 => if c = true then De K b ta δ1 R else De K b tb δ1 R) : De K b (tIf t ta tb) δ R :=
  fun B F H σ S Q q => h B F H σ S _ fun c F1 H1 δ1 r1 S1 e1 => by
    cases c with
    | true =>
      show ta σ H1 Q
      exact r1 B F1 H1 σ S1 Q fun v F2 H2 a δ2 r2 S2 e2 => q v F2 H2 a δ2 r2 S2 (e1.trans e2)
    | false =>
      show tb σ H1 Q
      exact r1 B F1 H1 σ S1 Q fun v F2 H2 a δ2 r2 S2 e2 => q v F2 H2 a δ2 r2 S2 (e1.trans e2)
theorem de_andV (h : De K b ta δ fun x δ1 => ∃ c, x = .d (.bool c) ∧ if c = true then De K b tb δ1 R else R (.d (.bool false)) δ1) : De K b (tAndV ta tb) δ R :=
  fun B F H σ S Q q => h B F H σ S _ fun v F1 H1 x δ1 r1 S1 e1 v1 => by
    obtain ⟨c, rfl, k⟩ := r1
    cases v1
    refine ⟨c, rfl, ?_⟩
    cases c with
    | true =>
      show tb σ H1 Q
      exact k B F1 H1 σ S1 Q fun v F2 H2 a δ2 r2 S2 e2 => q v F2 H2 a δ2 r2 S2 (e1.trans e2)
    | false =>
      show Q (.bl false) H1
      exact q _ F1 H1 _ δ1 k S1 e1 (.bl _)
theorem de_orV (h : De K b ta δ fun x δ1 => ∃ c, x = .d (.bool c) ∧ if c = true then R (.d (.bool true)) δ1 else De K b tb δ1 R) : De K b (tOrV ta tb) δ R :=
  fun B F H σ S Q q => h B F H σ S _ fun v F1 H1 x δ1 r1 S1 e1 v1 => by
    obtain ⟨c, rfl, k⟩ := r1
    cases v1
    refine ⟨c, rfl, ?_⟩
    cases c with
    | true =>
      show Q (.bl true) H1
      exact q _ F1 H1 _ δ1 k S1 e1 (.bl _)
    | false =>
      show tb σ H1 Q
      exact k B F1 H1 σ S1 Q fun v F2 H2 a δ2 r2 S2 e2 => q v F2 H2 a δ2 r2 S2 (e1.trans e2)
theorem de_notV (h : De K b ta δ fun x δ1 => ∃ c, x = .d (.bool c) ∧ R (.d (.bool (!c))) δ1) : De K b (tNotV ta) δ R :=
  fun B F H σ S Q q => h B F H σ S _ fun v F1 H1 x δ1 r1 S1 e1 v1 => by
    obtain ⟨c, rfl, k⟩ := r1
    cases v1
    exact ⟨c, rfl, q _ F1 H1 _ δ1 k S1 e1 (.bl _)⟩

/-! ### arguments, displays -/
theorem da_nil {R : List PyData → LS → Prop} (k : R [] δ) : Da K b tNil δ R := fun B F H σ S Q q => q [] F H [] δ k S (Ex.refl F) .nil
theorem da_cons {tr : TA} {R : List PyData → LS → Prop} (h : De K b te δ (toD fun x δ1 => Da K b tr δ1 fun xs δ2 => R (x :: xs) δ2)) : Da K b (tCons te tr) δ R :=
  fun B F H σ S Q q => (dd_of h) B F H σ S _ fun v F1 H1 x δ1 r1 S1 e1 v1 => r1 B F1 H1 σ S1 _ fun vs F2 H2 ds δ2 r2 S2 e2 v2 => q _ F2 H2 _ δ2 r2 S2 (e1.trans e2) (.cons (Dp.mono e2 v1) v2)
theorem sz_of {n : Nat} (h : n ≤ 100000) : n ≤ sizeLine := Nat.le_trans h (by decide)
theorem sz_lt {n : Nat} (h : n < 100000) : n < sizeLine := Nat.lt_of_lt_of_le h (by decide)
/-- the two lines of a new tuple -/
theorem Stt.newT {B : Base} {F H : Hp} {σ : L2.St} (S : Stt K b B F H σ δ) {p : Addr} {xs : List V} {ds : List PyData} (hp : H p = none) (h : DpAll K F xs ds) :
    Stt K b B (upd F p (.tup xs)) (upd H p (.tup xs)) σ δ ∧ Ex F (upd F p (.tup xs)) ∧ Dp K (upd F p (.tup xs)) (.ref p) (.tuple ds) := by
  have g : Gr none F H (upd F p (.tup xs)) (upd H p (.tup xs)) := Gr.new S.sub hp
  exact ⟨S.step g, g.ex, .tup (.inl (.inl upd_same)) (DpAll.mono g.ex h)⟩
theorem de_tup {tr : TA} (h : Da K b tr δ fun ds δ1 => ds.length ≤ 100000 ∧ R (.d (.tuple ds)) δ1) : De K b (tTup tr) δ R :=
  fun B F H σ S Q q => h B F H σ S _ fun vs F1 H1 ds δ1 r1 S1 e1 v1 => by
    obtain ⟨hl, k⟩ := r1
    refine ⟨sz_of (by rw [DpAll.length v1]; exact hl), fun p hp => ?_⟩
    obtain ⟨S2, e2, d2⟩ := S1.newT hp v1
    exact q _ _ _ _ δ1 k S2 (e1.trans e2) d2
/-- a new list's lines -/
theorem Stt.newL {B : Base} {F H : Hp} {σ : L2.St} (S : Stt K b B F H σ δ) {p : Addr} {xs : List V} {ds : List PyData} (hp : H p = none) (h : DpAll K F xs ds) :
    Stt K b B F (upd H p (.lst xs)) σ δ ∧ New K B F (upd H p (.lst xs)) σ δ p xs ds := by
  have hf : F p = none := S.sub.back hp
  have g : Gr none F H F (upd H p (.lst xs)) := Gr.newH S.sub hp
  refine ⟨S.step g, upd_same, hf, ?_, fun i s hs mt hq => ?_, h⟩
  · cases q : B.H p with
    | none => rfl
    | some o =>
      cases r : B.F p with
      | none => 
        obtain ⟨_, _, o', z⟩ := S.gr.keep p o r q
        rw [hp] at z; cases z
      | some u =>
        have := S.gr.sub p u (S.gr.ex p u r)
        rw [hp] at this; cases this
  · have x := S.ok i s hs
    cases s with
    | no => cases mt
    | dat d => cases mt
    | own ds => obtain ⟨a, _, h1, h2, _⟩ := x; rw [hq] at h1; cases h1; rw [hp] at h2; cases h2
    | dic ds => obtain ⟨a, _, h1, h2, _⟩ := x; rw [hq] at h1; cases h1; rw [hp] at h2; cases h2
    | dit ds => obtain ⟨a, _, h1, h2, _⟩ := x; rw [hq] at h1; cases h1; rw [hp] at h2; cases h2
    | pown ds => obtain ⟨a, _, h1, h2, _⟩ := x; rw [hq] at h1; cases h1; rw [hp] at h2; cases h2
    | pool => obtain ⟨a, h1, _, _, _, _, _, _, _, _, h2, _⟩ := x; rw [hq] at h1; cases h1; rw [hp] at h2; cases h2
theorem dn_lst {tr : TA} {R : List PyData → LS → Prop} (h : Da K b tr δ fun ds δ1 => ds.length ≤ 100000 ∧ R ds δ1) : Dn K b (tLst tr) δ R :=
  fun B F H σ S Q q => h B F H σ S _ fun vs F1 H1 ds δ1 r1 S1 e1 v1 => by
    obtain ⟨hl, k⟩ := r1
    refine ⟨sz_of (by rw [DpAll.length v1]; exact hl), fun p hp => ?_⟩
    obtain ⟨S2, N⟩ := S1.newL hp v1
    exact q p vs F1 _ ds δ1 k S2 e1 N

/-! ### calls of defs -/
/-- a def upon data: φ ds k, what is asked of the arguments so that each answer keeps k -/
def spP (K : Fg) (φ : List PyData → (PyData → Prop) → Prop) : Sp := fun vs H Q _ => ∃ (F : Hp) (ds : List PyData) (k : PyData → Prop), Ex F H ∧ DpAll K F vs ds ∧ φ ds k ∧ ∀ v F2 H2 d, k d → Gr none F H F2 H2 → Dp K F2 v d → Q v H2
theorem de_call {φ : List PyData → (PyData → Prop) → Prop} {E : XK} {tr : TA} (h : Da K b tr δ fun ds δ1 => φ ds fun d => R (.d d) δ1) : De K b (tCall (spP K φ) [] E tr) δ R :=
  fun B F H σ S Q q => h B F H σ S _ fun vs F1 H1 ds δ1 r1 S1 e1 v1 => by
    refine ⟨F1, ds, _, S1.sub, (by rw [List.append_nil]; exact v1), r1, fun v F2 H2 d hd g dp => ?_⟩
    exact q v F2 H2 _ δ1 hd (S1.step g) (e1.trans g.ex) dp
/-- a def whose first argument is the law's pool -/
def spPP (K : Fg) (φ : List PyData → (PyData → Prop) → Prop) : Sp := fun vs H Q _ => ∃ (F : Hp) (p : Addr) (vs' : List V) (ds : List PyData) (k : PyData → Prop), Ex F H ∧ vs = .ref p :: vs' ∧ PoolAt K F H p ∧ DpAll K F vs' ds ∧ φ ds k ∧
  ∀ v F2 H2 d, k d → Gr (some p) F H F2 H2 → (∀ q o, H q = some o → q ≠ p → H2 q = some o) → PoolAt K F2 H2 p → Dp K F2 v d → Q v H2
theorem de_callP {φ : List PyData → (PyData → Prop) → Prop} {E : XK} {tr : TA} {i : Nat} (hi : δ[i]? = some .pool) (h : Da K b tr δ fun ds δ1 => δ1[i]? = some .pool ∧ φ ds fun d => R (.d d) δ1) :
    De K b (tCall (spPP K φ) [] E (tCons (tVar i) tr)) δ R := fun B F H σ S Q q => by
  obtain ⟨p, h1, h2, h3⟩ := S.ok i _ hi
  refine ⟨.ref p, slot_some h1, h B F H σ S _ fun vs F1 H1 ds δ1 r1 S1 e1 v1 => ?_⟩
  obtain ⟨hp, k⟩ := r1
  obtain ⟨p', g1, g2, g3⟩ := S1.ok i _ hp
  have : some (V.ref p') = some (V.ref p) := g1.symm.trans h1
  cases this
  refine ⟨F1, p, vs, ds, _, S1.sub, (by rw [List.append_nil]), g3, v1, k, fun v F2 H2 d hd g ot pa dp => ?_⟩
  refine q v F2 H2 _ δ1 hd ⟨g.sub, ?_, S1.len, fun j s hs => ?_, S1.ap⟩ (e1.trans g.ex) dp
  · rw [h2] at *
    exact S1.gr.trans g
  · by_cases c : s.mut = true ∧ slot σ j = some (.ref p)
    · by_cases e : j = i
      · subst e
        rw [hp] at hs
        cases hs
        exact ⟨p, g1, h2, pa⟩
      · exact absurd g1 (S1.ap j i s _ p e hs hp c.1 rfl c.2)
    · refine (S1.ok j s hs).mono g.ex fun q' u mt hq z1 z2 => ?_
      have ne : q' ≠ p := by
        rintro rfl
        exact c ⟨mt, hq⟩
      exact ⟨(g.keep q' u z1 z2).1, ot q' u z2 ne⟩
def φ_law_draw (ds : List PyData) (k : PyData → Prop) : Prop := ∃ m : Int, ds = [.int m] ∧ 0 < m ∧ m.natAbs < 2 ^ 200 ∧ ∀ r : Int, 0 ≤ r → r < m → k (.int r)

/-! ### built-ins -/
def rLenS (K : Fg) : List V → Hp → VK → Prop := fun xs H Q => ∃ p ys, xs = [.ref p] ∧ (SqL K H p ys ∨ SqT K H p ys) ∧ Q (.int ys.length) H
theorem cr_len {X : Cx} : CallR X (.builtin "len") (rLenS X.K) := call_len_seq
theorem de_len (h : De K b te δ fun a δ1 => ∃ xs, seqIn a δ1 xs ∧ R (.d (.int (xs.length : Int))) δ1) : De K b (tCB (rLenS K) (tCons te tNil)) δ R :=
  fun B F H σ S Q q => h B F H σ S _ fun v F1 H1 x δ1 r1 S1 e1 v1 => by
    obtain ⟨ds, h1, k⟩ := r1
    obtain ⟨p, xs, rfl, h3, h4⟩ := h1.get S1 v1
    refine ⟨p, xs, rfl, h3, ?_⟩
    rw [DpAll.length h4]
    exact q _ F1 H1 _ δ1 k S1 e1 (.int _)
def rInt1 : List V → Hp → VK → Prop := fun xs H Q => (∃ i, xs = [.int i] ∧ Q (.int i) H) ∨ ∃ k, xs = [.bl k] ∧ Q (.int (if k then 1 else 0)) H
theorem cr_int {X : Cx} : CallR X (.type "int") rInt1 := call_int1
theorem de_int (h : De K b te δ fun a δ1 => ∃ n, a = .d (.int n) ∧ R (.d (.int n)) δ1) : De K b (tCB rInt1 (tCons te tNil)) δ R :=
  fun B F H σ S Q q => h B F H σ S _ fun v F1 H1 x δ1 r1 S1 e1 v1 => by
    obtain ⟨n, rfl, k⟩ := r1
    cases v1
    exact .inl ⟨n, rfl, q _ F1 H1 _ δ1 k S1 e1 (.int _)⟩
def rAbs : List V → Hp → VK → Prop := fun xs H Q => ∃ i, xs = [.int i] ∧ Q (.int (if i < 0 then -i else i)) H
theorem cr_abs {X : Cx} : CallR X (.builtin "abs") rAbs := call_abs
theorem de_abs (h : De K b te δ fun a δ1 => ∃ n, a = .d (.int n) ∧ R (.d (.int (n.natAbs : Int))) δ1) : De K b (tCB rAbs (tCons te tNil)) δ R :=
  fun B F H σ S Q q => h B F H σ S _ fun v F1 H1 x δ1 r1 S1 e1 v1 => by
    obtain ⟨n, rfl, k⟩ := r1
    cases v1
    refine ⟨n, rfl, ?_⟩
    have e : (if n < 0 then -n else n) = (n.natAbs : Int) := by split <;> omega
    rw [e]
    exact q _ F1 H1 _ δ1 k S1 e1 (.int _)
def gcdI (a b : Int) : Int := ((Nat.gcd a.natAbs b.natAbs : Nat) : Int)
theorem de_gcd (h : De K b ta δ fun x δ1 => De K b tb δ1 fun y δ2 => ∃ n, x = .d (.int n) ∧ ∃ m, y = .d (.int m) ∧ R (.d (.int (gcdI n m))) δ2) : De K b (tCB rGcd (tCons ta (tCons tb tNil))) δ R :=
  fun B F H σ S Q q => h B F H σ S _ fun v F1 H1 x δ1 r1 S1 e1 v1 => r1 B F1 H1 σ S1 _ fun w F2 H2 y δ2 r2 S2 e2 v2 => by
    obtain ⟨n, rfl, m, rfl, k⟩ := r2
    cases v1; cases v2
    exact ⟨n, m, rfl, q _ F2 H2 _ δ2 k S2 (e1.trans e2) (.int _)⟩
def rMin2 : List V → Hp → VK → Prop := fun xs H Q => ∃ i j, xs = [.int i, .int j] ∧ Q (.int (if j < i then j else i)) H
def rMax2 : List V → Hp → VK → Prop := fun xs H Q => ∃ i j, xs = [.int i, .int j] ∧ Q (.int (if j > i then j else i)) H
theorem cr_min2 {X : Cx} (hc : X.calm = true) : CallR X (.builtin "min") rMin2 := call_min2 hc
theorem cr_max2 {X : Cx} (hc : X.calm = true) : CallR X (.builtin "max") rMax2 := call_max2 hc
theorem de_min2 (h : De K b ta δ fun x δ1 => De K b tb δ1 fun y δ2 => ∃ n, x = .d (.int n) ∧ ∃ m, y = .d (.int m) ∧ R (.d (.int (min n m))) δ2) : De K b (tCB rMin2 (tCons ta (tCons tb tNil))) δ R :=
  fun B F H σ S Q q => h B F H σ S _ fun v F1 H1 x δ1 r1 S1 e1 v1 => r1 B F1 H1 σ S1 _ fun w F2 H2 y δ2 r2 S2 e2 v2 => by
    obtain ⟨n, rfl, m, rfl, k⟩ := r2
    cases v1; cases v2
    refine ⟨n, m, rfl, ?_⟩
    have e : (if m < n then m else n) = min n m := by split <;> omega
    rw [e]
    exact q _ F2 H2 _ δ2 k S2 (e1.trans e2) (.int _)
theorem de_max2 (h : De K b ta δ fun x δ1 => De K b tb δ1 fun y δ2 => ∃ n, x = .d (.int n) ∧ ∃ m, y = .d (.int m) ∧ R (.d (.int (max n m))) δ2) : De K b (tCB rMax2 (tCons ta (tCons tb tNil))) δ R :=
  fun B F H σ S Q q => h B F H σ S _ fun v F1 H1 x δ1 r1 S1 e1 v1 => r1 B F1 H1 σ S1 _ fun w F2 H2 y δ2 r2 S2 e2 v2 => by
    obtain ⟨n, rfl, m, rfl, k⟩ := r2
    cases v1; cases v2
    refine ⟨n, m, rfl, ?_⟩
    have e : (if m > n then m else n) = max n m := by split <;> omega
    rw [e]
    exact q _ F2 H2 _ δ2 k S2 (e1.trans e2) (.int _)
theorem de_sum (h : De K b te δ fun a δ1 => ∃ ns : List Int, lstIn a δ1 (ns.map PyData.int) ∧ R (.d (.int ns.sum)) δ1) : De K b (tCB (rSum K) (tCons te tNil)) δ R :=
  fun B F H σ S Q q => h B F H σ S _ fun v F1 H1 x δ1 r1 S1 e1 v1 => by
    obtain ⟨ns, h1, k⟩ := r1
    obtain ⟨p, xs, rfl, h3, h4⟩ := h1.get S1 v1
    have e := DpAll.ints_eq h4
    subst e
    exact ⟨p, ns, rfl, h3, q _ F1 H1 _ δ1 k S1 e1 (.int _)⟩
/-- list(xs): a new list -/
def rListS (K : Fg) : List V → Hp → VK → Prop := fun xs H Q => ∃ p ys, xs = [.ref p] ∧ (SqL K H p ys ∨ SqT K H p ys) ∧ ∀ l, H l = none → Q (.ref l) (upd H l (.lst ys))
theorem cr_list {X : Cx} : CallR X (.type "list") (rListS X.K) := call_list_of
theorem dn_list {R : List PyData → LS → Prop} (h : De K b te δ fun a δ1 => ∃ xs, seqIn a δ1 xs ∧ R xs δ1) : Dn K b (tCB (rListS K) (tCons te tNil)) δ R :=
  fun B F H σ S Q q => h B F H σ S _ fun v F1 H1 x δ1 r1 S1 e1 v1 => by
    obtain ⟨ds, h1, k⟩ := r1
    obtain ⟨p, xs, rfl, h3, h4⟩ := h1.get S1 v1
    refine ⟨p, xs, rfl, h3, fun l hl => ?_⟩
    obtain ⟨S2, N⟩ := S1.newL hl h4
    exact q l xs F1 _ ds δ1 k S2 e1 N
/-- tuple(xs) -/
def rTupS (K : Fg) : List V → Hp → VK → Prop := fun xs H Q => ∃ p ys, xs = [.ref p] ∧ ((SqL K H p ys ∧ ∀ l, H l = none → Q (.ref l) (upd H l (.tup ys))) ∨ (SqT K H p ys ∧ Q (.ref p) H))
theorem cr_tup {X : Cx} : CallR X (.type "tuple") (rTupS X.K) := call_tuple_of
theorem de_tupOf (h : De K b te δ fun a δ1 => ∃ xs, lstIn a δ1 xs ∧ R (.d (.tuple xs)) δ1) : De K b (tCB (rTupS K) (tCons te tNil)) δ R :=
  fun B F H σ S Q q => h B F H σ S _ fun v F1 H1 x δ1 r1 S1 e1 v1 => by
    obtain ⟨ds, h1, k⟩ := r1
    obtain ⟨p, xs, rfl, h3, h4⟩ := h1.get S1 v1
    refine ⟨p, xs, rfl, .inl ⟨h3, fun l hl => ?_⟩⟩
    obtain ⟨S2, e2, d2⟩ := S1.newT hl h4
    exact q _ _ _ _ δ1 k S2 (e1.trans e2) d2
end
end Ab

set_option Elab.async false
set_option linter.all false
set_option maxRecDepth 100000
set_option maxHeartbeats 2000000
namespace Ab
open PySem PySem.Spec PyProof.Rows L2
section
variable {K : Fg} {b : Option Addr} {δ : LS} {te ta tb tc : TE} {t u : TT} {P : Po} {ts tu tw tz : TS} {g : TG}

/-! ### statements -/
theorem ds_seq (h : Ds K b ts δ { P with nx := fun δ' => Ds K b tu δ' P }) : Ds K b (tSeq ts tu) δ P := fun B F H σ D S E =>
  h B F H σ { D with nx := tu D } S ⟨fun F2 H2 σ2 δ2 h2 S2 e => h2 B F2 H2 σ2 D S2 (E.mono e), E.rt, E.bk, E.ct, E.rn, E.rs⟩
theorem ds_next (h : P.nx δ) : Ds K b tNext δ P := fun B F H σ D S E => E.nx F H σ δ h S (Ex.refl F)
theorem ds_brk (h : P.bk δ) : Ds K b tBreak δ P := fun B F H σ D S E => E.bk F H σ δ h S (Ex.refl F)
theorem ds_cont (h : P.ct δ) : Ds K b tCont δ P := fun B F H σ D S E => E.ct F H σ δ h S (Ex.refl F)
theorem ds_ret (h : De K b te δ (toD fun d _ => P.rt d)) : Ds K b (tRet te) δ P := fun B F H σ D S E =>
  (dd_of h) B F H σ S _ fun v F2 H2 d δ2 r S2 e dp => E.rt v F2 H2 d r S2.gr dp
theorem ds_retF (h : Dn K b te δ fun ds _ => P.rn ds) : Ds K b (tRet te) δ P := fun B F H σ D S E =>
  h B F H σ S _ fun p xs F2 H2 ds δ2 r S2 e N => E.rn p xs F2 H2 σ δ2 ds r S2 N
theorem ds_retS (h : De K b te δ (toD fun d δ1 => P.rs d δ1)) : Ds K b (tRet te) δ P := fun B F H σ D S E =>
  (dd_of h) B F H σ S _ fun v F2 H2 d δ2 r S2 e dp => E.rs v F2 H2 d σ δ2 r S2 dp
theorem ds_retN (h : P.rt .none) : Ds K b tRetN δ P := fun B F H σ D S E => E.rt .non F H .none h S.gr .non
theorem ds_if (h : Dt K b t δ fun c δ1 => if c = true then Ds K b tu δ1 P else Ds K b tw δ1 P) : Ds K b (tIfS t tu tw) δ P := fun B F H σ D S E =>
  h B F H σ S _ fun c F1 H1 δ1 r1 S1 e1 => by
    cases c with
    | true =>
      show tu D σ H1
      exact r1 B F1 H1 σ D S1 (E.mono e1)
    | false =>
      show tw D σ H1
      exact r1 B F1 H1 σ D S1 (E.mono e1)
theorem ds_drop (h : De K b te δ fun _ δ1 => P.nx δ1) : Ds K b (tDrop te) δ P := fun B F H σ D S E =>
  h B F H σ S _ fun v F1 H1 x δ1 r1 S1 e1 v1 => E.nx F1 H1 σ δ1 r1 S1 e1
/-! ### targets -/
theorem dg_name {i : Nat} {x : PyData} {R : LS → Prop} (h : R (δ.set i (.dat x))) : Dg K b (gName i) x δ R := fun B F H σ v S dp Q q =>
  q F H _ _ h (S.setD dp) (Ex.refl F)
theorem dgs_nil {R : LS → Prop} (h : R δ) : Dgs K b gNil [] δ R := fun B F H σ vs S dp Q q => by
  cases dp
  exact ⟨rfl, q F H σ δ h S (Ex.refl F)⟩
theorem dgs_cons {gs : TGs} {x : PyData} {xs : List PyData} {R : LS → Prop} (h : Dg K b g x δ fun δ1 => Dgs K b gs xs δ1 R) : Dgs K b (gCons g gs) (x :: xs) δ R := fun B F H σ vs S dp Q q => by
  cases dp with
  | cons d1 d2 => exact ⟨_, _, rfl, h B F H σ _ S d1 _ fun F2 H2 σ2 δ2 r S2 e => r B F2 H2 σ2 _ S2 (DpAll.mono e d2) Q fun F3 H3 σ3 δ3 r3 S3 e3 => q F3 H3 σ3 δ3 r3 S3 (e.trans e3)⟩
theorem dg_tup {gs : TGs} {n : Nat} {xs : List PyData} {R : LS → Prop} (hn : xs.length = n) (h : Dgs K b gs xs δ R) : Dg K b (gTup K n gs) (.tuple xs) δ R := fun B F H σ v S dp Q q => by
  cases dp with
  | tup h1 h2 => exact ⟨_, _, rfl, S.sub.t h1, (DpAll.length h2).trans hn, h B F H σ _ S h2 Q q⟩
theorem ds_asg (h : De K b te δ (toD fun x δ1 => Dg K b g x δ1 P.nx)) : Ds K b (tAsg te g) δ P := fun B F H σ D S E =>
  (dd_of h) B F H σ S _ fun v F1 H1 x δ1 r1 S1 e1 v1 => r1 B F1 H1 σ v S1 v1 _ fun F2 H2 σ2 δ2 r2 S2 e2 => E.nx F2 H2 σ2 δ2 r2 S2 (e1.trans e2)
/-- a new list, kept as one's own -/
theorem Stt.setN {B : Base} {F H : Hp} {σ : L2.St} {p : Addr} {xs : List V} {ds : List PyData} (S : Stt K b B F H σ δ) (N : New K B F H σ δ p xs ds) (i : Nat) : Stt K b B F H (σ.set i (some (.ref p))) (δ.set i (.own ds)) :=
  S.set (fun _ => ⟨p, xs, rfl, N.h, N.f, N.b, N.all⟩) (.inr fun j sj q _ hj mj hq => by
    cases hq
    exact N.ap j sj hj mj)
theorem ds_own {i : Nat} (h : Dn K b te δ fun ds δ1 => P.nx (δ1.set i (.own ds))) : Ds K b (tAsg te (gName i)) δ P := fun B F H σ D S E =>
  h B F H σ S _ fun p xs F1 H1 ds δ1 r1 S1 e1 N => E.nx F1 H1 _ _ r1 (S1.setN N i) e1
/-- x = y, a list of one's own: it moves -/
theorem ds_move {i j : Nat} {ds : List PyData} (hij : i ≠ j) (hj : δ[j]? = some (.own ds)) (h : P.nx ((δ.set j .no).set i (.own ds))) : Ds K b (tAsg (tVar j) (gName i)) δ P := fun B F H σ D S E => by
  obtain ⟨p, xs, h1, h2, h3, h4, h5⟩ := S.own hj
  refine ⟨.ref p, h1, E.nx F H _ _ h ?_ (Ex.refl F)⟩
  have S1 : Stt K b B F H (σ.set j (some (.ref p))) (δ.set j .no) := S.set (fun _ => trivial) (.inl rfl)
  have e : σ.set j (some (.ref p)) = σ := by
    apply List.ext_getElem?
    intro k
    by_cases c : j = k
    · subst c
      rw [List.getElem?_set_self (lt_of_get h1), h1]
    · rw [List.getElem?_set_ne c]
  rw [e] at S1
  refine S1.set (fun _ => ⟨p, xs, rfl, h2, h3, h4, h5⟩) (.inr fun k sk q hk hs mk hq => ?_)
  cases hq
  by_cases c : j = k
  · subst c
    rw [List.getElem?_set_self (lt_of_get hj)] at hs
    cases hs; cases mk
  · rw [List.getElem?_set_ne c] at hs
    exact S.ap j k _ sk p c hj hs rfl mk (slot_of h1)
/-- a, b = x, y -/
theorem ds_par {i j : Nat} {tr : TA} (h : Da K b tr δ fun ds δ1 => ∃ x y, ds = [x, y] ∧ P.nx ((δ1.set i (.dat x)).set j (.dat y))) : Ds K b (tPar i j tr) δ P := fun B F H σ D S E =>
  h B F H σ S _ fun vs F1 H1 ds δ1 r1 S1 e1 v1 => by
    obtain ⟨x, y, rfl, k⟩ := r1
    cases v1 with
    | cons d1 d2 => cases d2 with
      | cons d2 d3 =>
        cases d3
        exact ⟨_, _, rfl, E.nx F1 H1 _ _ k ((S1.setD d1).setD d2) e1⟩
/-- x op= e of ints -/
theorem ds_aug {i : Nat} {f : Int → Int → Int} {n : Int} (hx : δ[i]? = some (.dat (.int n))) (h : De K b te δ fun y δ1 => ∃ m, y = .d (.int m) ∧ P.nx (δ1.set i (.dat (.int (f n m))))) : Ds K b (tAug i te (ipI f)) δ P := fun B F H σ D S E => by
  obtain ⟨v, h1, h2⟩ := S.dat hx
  cases h2
  refine ⟨_, h1, h B F H σ S _ fun w F1 H1 y δ1 r1 S1 e1 v1 => ?_⟩
  obtain ⟨m, rfl, k⟩ := r1
  cases v1
  exact ⟨n, m, rfl, rfl, E.nx F1 H1 _ _ k (S1.setD (.int _)) e1⟩
def ipC (C : Int → Int → Prop) (f : Int → Int → Int) : TIp := fun x y H Q => ∃ i j, x = .int i ∧ y = .int j ∧ C i j ∧ Q (.int (f i j)) H
theorem ip_mul {X : Cx} : PIp X .Mult (ipC CMulW fun i j => i * j) := by
  intro pins s σ H x y v u Q I r1 r2 h
  obtain ⟨i, j, e1, e2, hc, q⟩ := h
  subst e1; subst e2
  obtain ⟨t, rfl⟩ := r1
  obtain ⟨t', rfl⟩ := r2
  exact imul_int ⟨.int _, H, I.tok _, ⟨_, rfl⟩, q⟩ hc.ok
theorem ip_fdiv {X : Cx} : PIp X .FloorDiv (ipC CDivW fun i j => i / j) := by
  intro pins s σ H x y v u Q I r1 r2 h
  obtain ⟨i, j, e1, e2, hc, q⟩ := h
  subst e1; subst e2
  obtain ⟨t, rfl⟩ := r1
  obtain ⟨t', rfl⟩ := r2
  have h1 : (0 : Int) < j := hc.1
  have q' : EP X pins σ Q (.int (i.fdiv j) s.toks) { s with toks := s.toks + 1 } := by
    rw [Int.fdiv_eq_ediv_of_nonneg i (by omega)]
    exact ⟨.int _, H, I.tok _, ⟨_, rfl⟩, q⟩
  exact ifloordiv_int (by omega) q' (.inl (PyProof.noPylong_of_log2 hc.2))
theorem ip_mod {X : Cx} : PIp X .Mod (ipC (fun _ j => 0 < j) fun i j => i % j) := by
  intro pins s σ H x y v u Q I r1 r2 h
  obtain ⟨i, j, e1, e2, hc, q⟩ := h
  subst e1; subst e2
  obtain ⟨t, rfl⟩ := r1
  obtain ⟨t', rfl⟩ := r2
  have h1 : (0 : Int) < j := hc
  exact imod_int (by omega) (by rw [Int.fmod_eq_emod_of_nonneg i (by omega)]; exact ⟨.int _, H, I.tok _, ⟨_, rfl⟩, q⟩)
theorem ds_augC {i : Nat} {C : Int → Int → Prop} {f : Int → Int → Int} {n : Int} (hx : δ[i]? = some (.dat (.int n))) (h : De K b te δ fun y δ1 => ∃ m, y = .d (.int m) ∧ C n m ∧ P.nx (δ1.set i (.dat (.int (f n m))))) : Ds K b (tAug i te (ipC C f)) δ P := fun B F H σ D S E => by
  obtain ⟨v, h1, h2⟩ := S.dat hx
  cases h2
  refine ⟨_, h1, h B F H σ S _ fun w F1 H1 y δ1 r1 S1 e1 v1 => ?_⟩
  obtain ⟨m, rfl, c, k⟩ := r1
  cases v1
  exact ⟨n, m, rfl, rfl, c, E.nx F1 H1 _ _ k (S1.setD (.int _)) e1⟩
/-- xs.append(e), xs one's own -/
theorem Stt.wrL {B : Base} {F H : Hp} {σ : L2.St} (S : Stt K b B F H σ δ) {i : Nat} {ds es : List PyData} {ys : List V} (h : δ[i]? = some (.own ds)) (a : DpAll K F ys es) :
    ∃ p xs, σ[i]? = some (some (.ref p)) ∧ H p = some (.lst xs) ∧ DpAll K F xs ds ∧ Stt K b B F (upd H p (.lst ys)) σ (δ.set i (.own es)) := by
  obtain ⟨p, xs, h1, h2, h3, h4, h5⟩ := S.own h
  exact ⟨p, xs, h1, h2, h5, S.wr h rfl (slot_of h1) h3 (.inl h4) ⟨_, h2⟩ rfl ⟨p, ys, rfl, upd_same, h3, h4, a⟩⟩
theorem ds_app {i : Nat} (h : De K b te δ (toD fun d δ1 => ∃ ds, δ1[i]? = some (.own ds) ∧ ds.length < 100000 ∧ P.nx (δ1.set i (.own (ds ++ [d]))))) (ho : ∃ ds, δ[i]? = some (.own ds)) : Ds K b (tDrop (tBM K "list" rAppend (tVar i) (tCons te tNil))) δ P := fun B F H σ D S E => by
  obtain ⟨ds0, h0⟩ := ho
  obtain ⟨p, xs, h1, h2, _⟩ := S.own h0
  refine ⟨.ref p, h1, .inl ⟨rfl, xs, .inl (.inl h2)⟩, (dd_of h) B F H σ S _ fun v F1 H1 x δ1 r1 S1 e1 v1 => ?_⟩
  obtain ⟨ds, g1, g2, k⟩ := r1
  obtain ⟨p', xs', k1, k2, k3, k4, k5⟩ := S1.own g1
  have : some (some (V.ref p')) = some (some (V.ref p)) := k1.symm.trans h1
  cases this
  obtain ⟨_, _, q1, q2, _, S2⟩ := S1.wrL g1 (ys := xs' ++ [v]) (DpAll.append k5 (.cons v1 .nil))
  have : some (some (V.ref _)) = some (some (V.ref p)) := q1.symm.trans h1
  cases this
  exact ⟨p, xs', v, rfl, rfl, k2, sz_lt (by rw [DpAll.length k5]; exact g2), E.nx F1 _ σ _ k S2 e1⟩
/-- xs[i] = e -/
theorem ixN_nat {n j : Nat} (hj : j < n) : ixN n (j : Int) = some j := by
  unfold ixN
  rw [if_pos (by omega), if_pos (by omega)]
  simp

theorem ds_setO {i j : Nat} {ti : TE} (ho : ∃ ds, δ[i]? = some (.own ds)) (h : De K b te δ (toD fun d δ1 => De K b ti δ1 fun y δ2 => ∃ ds, δ2[i]? = some (.own ds) ∧ ∃ j : Nat, y = .d (.int (j : Int)) ∧ j < ds.length ∧ P.nx (δ2.set i (.own (ds.set j d))))) : Ds K b (tAsg te (gSub (tVar i) ti rSetL)) δ P := fun B F H σ D S E =>
  (dd_of h) B F H σ S _ fun v F1 H1 x δ1 r1 S1 e1 v1 => by
    obtain ⟨ds0, h0⟩ := ho
    obtain ⟨p, _, h1, _⟩ := S.own h0
    refine ⟨.ref p, h1, r1 B F1 H1 σ S1 _ fun w F2 H2 y δ2 r2 S2 e2 v2 => ?_⟩
    obtain ⟨ds, g1, j, rfl, g2, k⟩ := r2
    cases v2
    obtain ⟨p', xs, q1, q2, q3, q4, q5⟩ := S2.own g1
    have : some (some (V.ref p')) = some (some (V.ref p)) := q1.symm.trans h1
    cases this
    refine ⟨p, xs, j, j, rfl, rfl, q2, ixN_nat (by rw [DpAll.length q5]; exact g2), ?_⟩
    refine E.nx F2 _ σ _ k ?_ (e1.trans e2)
    exact S2.wr g1 rfl (slot_of q1) q3 (.inl q4) ⟨_, q2⟩ rfl ⟨p, _, rfl, upd_same, q3, q4, DpAll.set (Dp.mono e2 v1) j q5⟩
theorem ds_setP {i : Nat} {ti : TE} (ho : ∃ ds, δ[i]? = some (.pown ds)) (h : De K b te δ (toD fun d δ1 => De K b ti δ1 fun y δ2 => ∃ ds, δ2[i]? = some (.pown ds) ∧ ∃ j : Nat, y = .d (.int (j : Int)) ∧ j < ds.length ∧ P.nx (δ2.set i (.pown (ds.set j d))))) : Ds K b (tAsg te (gSub (tVar i) ti rSetL)) δ P := fun B F H σ D S E =>
  (dd_of h) B F H σ S _ fun v F1 H1 x δ1 r1 S1 e1 v1 => by
    obtain ⟨ds0, h0⟩ := ho
    obtain ⟨p, _, h1, _⟩ := S.pown h0
    refine ⟨.ref p, h1, r1 B F1 H1 σ S1 _ fun w F2 H2 y δ2 r2 S2 e2 v2 => ?_⟩
    obtain ⟨ds, g1, j, rfl, g2, k⟩ := r2
    cases v2
    obtain ⟨p', xs, q1, q2, q3, q4, q5⟩ := S2.pown g1
    have : some (some (V.ref p')) = some (some (V.ref p)) := q1.symm.trans h1
    cases this
    refine ⟨p, xs, j, j, rfl, rfl, q2, ixN_nat (by rw [DpAll.length q5]; exact g2), ?_⟩
    refine E.nx F2 _ σ _ k ?_ (e1.trans e2)
    exact S2.wr g1 rfl (slot_of q1) q3 (.inr q4) ⟨_, q2⟩ rfl ⟨p, _, rfl, upd_same, q3, q4, DpAll.set (Dp.mono e2 v1) j q5⟩
/-! ### slices -/
def Do (K : Fg) (b : Option Addr) (to : TO) (δ : LS) (R : Option Int → LS → Prop) : Prop :=
  ∀ B F H σ, Stt K b B F H σ δ → ∀ Q : Option Int → Hp → Prop, (∀ o F2 H2 δ2, R o δ2 → Stt K b B F2 H2 σ δ2 → Ex F F2 → Q o H2) → to σ H Q
theorem do_none {R : Option Int → LS → Prop} (k : R none δ) : Do K b tNoPart δ R := fun B F H σ S Q q => q none F H δ k S (Ex.refl F)
theorem do_some {R : Option Int → LS → Prop} (h : De K b te δ fun a δ1 => ∃ n, a = .d (.int n) ∧ R (some n) δ1) : Do K b (tPart te) δ R := fun B F H σ S Q q =>
  h B F H σ S _ fun v F1 H1 x δ1 r1 S1 e1 v1 => by
    obtain ⟨n, rfl, k⟩ := r1
    cases v1
    exact ⟨n, rfl, q _ F1 H1 δ1 k S1 e1⟩
def cutD (xs : List PyData) (lo hi : Option Int) : List PyData := (xs.drop (HT.sIx xs.length 0 lo)).take (HT.sIx xs.length xs.length hi - HT.sIx xs.length 0 lo)
theorem cut_all {F : Hp} {xs : List V} {ds : List PyData} (h : DpAll K F xs ds) (lo hi : Option Int) : DpAll K F (cutV xs lo hi) (cutD ds lo hi) := by
  unfold cutV cutD
  rw [DpAll.length h]
  exact DpAll.take _ (DpAll.drop _ h)
theorem dn_sl {tl th : TO} {R : List PyData → LS → Prop} (h : De K b te δ fun a δ1 => Do K b tl δ1 fun lo δ2 => Do K b th δ2 fun hi δ3 => ∃ xs, lstIn a δ3 xs ∧ R (cutD xs lo hi) δ3) : Dn K b (tSl (rSlL K) te tl th) δ R := fun B F H σ S Q q =>
  h B F H σ S _ fun v F1 H1 x δ1 r1 S1 e1 v1 => r1 B F1 H1 σ S1 _ fun lo F2 H2 δ2 r2 S2 e2 => r2 B F2 H2 σ S2 _ fun hi F3 H3 δ3 r3 S3 e3 => by
    obtain ⟨ds, h1, k⟩ := r3
    obtain ⟨p, xs, rfl, h3, h4⟩ := h1.get S3 (VR.mono (e2.trans e3) v1)
    refine ⟨p, xs, rfl, h3, fun l hl => ?_⟩
    obtain ⟨S4, N⟩ := S3.newL hl (cut_all h4 lo hi)
    exact q l _ F3 _ _ δ3 k S4 ((e1.trans e2).trans e3) N
theorem de_slT {tl th : TO} {R : AV → LS → Prop} (h : De K b te δ (toD fun a δ1 => Do K b tl δ1 fun lo δ2 => Do K b th δ2 fun hi δ3 => ∃ xs, a = .tuple xs ∧ ¬ (HT.sIx xs.length 0 lo = 0 ∧ HT.sIx xs.length xs.length hi = xs.length) ∧ R (.d (.tuple (cutD xs lo hi))) δ3)) : De K b (tSl (rSlT K) te tl th) δ R := fun B F H σ S Q q =>
  (dd_of h) B F H σ S _ fun v F1 H1 x δ1 r1 S1 e1 v1 => r1 B F1 H1 σ S1 _ fun lo F2 H2 δ2 r2 S2 e2 => r2 B F2 H2 σ S2 _ fun hi F3 H3 δ3 r3 S3 e3 => by
    obtain ⟨ds, rfl, nw, k⟩ := r3
    cases v1 with
    | tup g1 g2 =>
      rename_i a xs
      refine ⟨a, xs, rfl, ((e2.trans e3).trans S3.sub).t g1, by rw [DpAll.length g2]; exact nw, fun p hp => ?_⟩
      obtain ⟨S4, e4, d4⟩ := S3.newT hp (cut_all (DpAll.mono (e2.trans e3) g2) lo hi)
      exact q _ _ _ _ δ3 k S4 (((e1.trans e2).trans e3).trans e4) d4
/-! ### loops -/
theorem ds_while (W : Nat → LS → Prop) (h0 : ∃ m, W m δ) (hs : ∀ m δ', W m δ' → Dt K b t δ' fun c δ1 => if c = true then Ds K b ts δ1 { P with nx := fun δ2 => ∃ m', m' < m ∧ W m' δ2, ct := fun δ2 => ∃ m', m' < m ∧ W m' δ2, bk := P.nx } else P.nx δ1) : Ds K b (tWhile t ts) δ P := fun B F H σ D S E => by
  obtain ⟨m0, w0⟩ := h0
  refine ⟨fun m σ' H' => ∃ F' δ', Stt K b B F' H' σ' δ' ∧ Ex F F' ∧ W m δ', ⟨m0, F, δ, S, Ex.refl F, w0⟩, ?_⟩
  rintro m σ' H' ⟨F', δ', S', e', w'⟩
  refine hs m δ' w' B F' H' σ' S' _ fun c F1 H1 δ1 r1 S1 e1 => ?_
  cases c with
  | false => exact E.nx F1 H1 σ' δ1 r1 S1 (e'.trans e1)
  | true =>
    refine ⟨_, fun _ _ z => z, ?_⟩
    have nx : ∀ F2 H2 σ2 δ2, (∃ m', m' < m ∧ W m' δ2) → Stt K b B F2 H2 σ2 δ2 → Ex F1 F2 → ∃ m', m' < m ∧ ∃ F' δ', Stt K b B F' H2 σ2 δ' ∧ Ex F F' ∧ W m' δ' := fun F2 H2 σ2 δ2 ⟨m', a1, a2⟩ S2 e2 => ⟨m', a1, F2, δ2, S2, (e'.trans e1).trans e2, a2⟩
    exact r1 B F1 H1 σ' _ S1 ⟨nx, E.rt, fun F2 H2 σ2 δ2 h2 S2 e2 => E.nx F2 H2 σ2 δ2 h2 S2 ((e'.trans e1).trans e2), nx, E.rn, E.rs⟩
/-- the turn of a for -/
def Turn1 (K : Fg) (b : Option Addr) (g : TG) (ts : TS) (P : Po) (n : Nat) (at_ : Nat → PyData) (δ : LS) (Pv : Nat → LS → Prop) : Prop :=
  Pv 0 δ ∧ (∀ i δ', i < n → Pv i δ' → Dg K b g (at_ i) δ' fun δ2 => Ds K b ts δ2 { P with nx := Pv (i + 1), ct := Pv (i + 1), bk := P.nx }) ∧ ∀ δ', Pv n δ' → P.nx δ'
theorem turn_run {n : Nat} {at_ : Nat → PyData} {Pv : Nat → LS → Prop} {B : Base} {F : Hp} {D : Ends} (T : ∀ i δ', i < n → Pv i δ' → Dg K b g (at_ i) δ' fun δ2 => Ds K b ts δ2 { P with nx := Pv (i + 1), ct := Pv (i + 1), bk := P.nx }) (E : EndsOk K b B F P D)
    {i : Nat} {x : V} {σ : L2.St} {H F' : Hp} {δ' : LS} (hi : i < n) (S : Stt K b B F' H σ δ') (e : Ex F F') (pv : Pv i δ') (dp : Dp K F' x (at_ i)) :
    g x σ H fun σ2 H2 => ts { D with nx := fun σ' H' => ∃ F' δ', Stt K b B F' H' σ' δ' ∧ Ex F F' ∧ Pv (i + 1) δ', ct := fun σ' H' => ∃ F' δ', Stt K b B F' H' σ' δ' ∧ Ex F F' ∧ Pv (i + 1) δ', bk := D.nx } σ2 H2 :=
  T i δ' hi pv B F' H σ x S dp _ fun F2 H2 σ2 δ2 r2 S2 e2 => r2 B F2 H2 σ2 _ S2
    ⟨fun F3 H3 σ3 δ3 a1 S3 e3 => ⟨F3, δ3, S3, (e.trans e2).trans e3, a1⟩, E.rt, fun F3 H3 σ3 δ3 a1 S3 e3 => E.nx F3 H3 σ3 δ3 a1 S3 ((e.trans e2).trans e3), fun F3 H3 σ3 δ3 a1 S3 e3 => ⟨F3, δ3, S3, (e.trans e2).trans e3, a1⟩, E.rn, E.rs⟩
/-- over data, a list -/
theorem ds_forL (Pv : List PyData → Nat → LS → Prop) (h : De K b te δ (toD fun x δ1 => ∃ xs, x = .list xs ∧ Turn1 K b g ts P xs.length (fun i => xs.getD i .none) δ1 (Pv xs))) : Ds K b (tFor (iList K te) g ts) δ P :=
  fun B F H σ D S E => (dd_of h) B F H σ S _ fun v F1 H1 x δ1 r1 S1 e1 v1 => by
    obtain ⟨ds, rfl, h0, hs, hd⟩ := r1
    cases v1 with
    | lst q1 q2 =>
      rename_i a xs
      refine ⟨a, rfl, ⟨xs, S1.sub.l q1⟩, for_list (xs := xs) (fun i σ' H' => ∃ F' δ', Stt K b B F' H' σ' δ' ∧ Ex F1 F' ∧ Pv ds i δ') ⟨F1, δ1, S1, Ex.refl F1, h0⟩ (fun i σ' H' _ ⟨F', δ', S', e', _⟩ => (e'.trans S'.sub).l q1) (fun i x σ' H' hx ⟨F', δ', S', e', pv⟩ => ?_) fun σ' H' ⟨F', δ', S', e', pv⟩ => ?_⟩
      · obtain ⟨d, hd1, hd2⟩ := DpAll.get' q2 hx
        refine turn_run hs (E.mono e1) (lt_of_get hd1) S' e' pv ?_
        rw [List.getD_eq_getElem?_getD, hd1]
        exact Dp.mono e' hd2
      · rw [show xs.length = ds.length from DpAll.length q2] at pv
        exact E.nx F' H' σ' δ' (hd δ' pv) S' (e1.trans e')
/-- over a tuple -/
theorem ds_forT (Pv : List PyData → Nat → LS → Prop) (h : De K b te δ (toD fun x δ1 => ∃ xs, x = .tuple xs ∧ Turn1 K b g ts P xs.length (fun i => xs.getD i .none) δ1 (Pv xs))) : Ds K b (tFor (iTup K te) g ts) δ P :=
  fun B F H σ D S E => (dd_of h) B F H σ S _ fun v F1 H1 x δ1 r1 S1 e1 v1 => by
    obtain ⟨ds, rfl, h0, hs, hd⟩ := r1
    cases v1 with
    | tup q1 q2 =>
      rename_i a xs
      refine ⟨a, rfl, ⟨xs, S1.sub.t q1⟩, for_tup (xs := xs) (fun i σ' H' => ∃ F' δ', Stt K b B F' H' σ' δ' ∧ Ex F1 F' ∧ Pv ds i δ') ⟨F1, δ1, S1, Ex.refl F1, h0⟩ (fun i σ' H' _ ⟨F', δ', S', e', _⟩ => (e'.trans S'.sub).t q1) (fun i x σ' H' hx ⟨F', δ', S', e', pv⟩ => ?_) fun σ' H' ⟨F', δ', S', e', pv⟩ => ?_⟩
      · obtain ⟨d, hd1, hd2⟩ := DpAll.get' q2 hx
        refine turn_run hs (E.mono e1) (lt_of_get hd1) S' e' pv ?_
        rw [List.getD_eq_getElem?_getD, hd1]
        exact Dp.mono e' hd2
      · rw [show xs.length = ds.length from DpAll.length q2] at pv
        exact E.nx F' H' σ' δ' (hd δ' pv) S' (e1.trans e')
/-- over range(n), range(a, n) -/
theorem ds_forR1 {tr : TA} (Pv : Int → Nat → LS → Prop) (h : Da K b tr δ fun ds δ1 => ∃ n, ds = [.int n] ∧ -(2 ^ 62) ≤ n ∧ n < 2 ^ 62 ∧ Turn1 K b g ts P n.toNat (fun i => .int (i : Int)) δ1 (Pv n)) : Ds K b (tFor (iRng1 tr) g ts) δ P :=
  fun B F H σ D S E => h B F H σ S _ fun vs F1 H1 ds δ1 r1 S1 e1 v1 => by
    obtain ⟨n, rfl, n1, n2, h0, hs, hd⟩ := r1
    cases v1 with
    | cons d1 d2 =>
      cases d2; cases d1
      refine ⟨n, rfl, n1, n2, for_range (lo := 0) (n := n.toNat) (fun i σ' H' => ∃ F' δ', Stt K b B F' H' σ' δ' ∧ Ex F1 F' ∧ Pv n i δ') ⟨F1, δ1, S1, Ex.refl F1, h0⟩ (fun i σ' H' hi ⟨F', δ', S', e', pv⟩ => ?_) fun σ' H' ⟨F', δ', S', e', pv⟩ => E.nx F' H' σ' δ' (hd δ' pv) S' (e1.trans e')⟩
      rw [Int.zero_add]
      exact turn_run hs (E.mono e1) hi S' e' pv (.int _)
theorem ds_forR2 {tr : TA} (Pv : Int → Int → Nat → LS → Prop) (h : Da K b tr δ fun ds δ1 => ∃ a n, ds = [.int a, .int n] ∧ (-(2 ^ 62) ≤ a ∧ a < 2 ^ 62 ∧ -(2 ^ 62) ≤ n ∧ n < 2 ^ 62) ∧ Turn1 K b g ts P (n - a).toNat (fun i => .int (a + (i : Int))) δ1 (Pv a n)) : Ds K b (tFor (iRng2 tr) g ts) δ P :=
  fun B F H σ D S E => h B F H σ S _ fun vs F1 H1 ds δ1 r1 S1 e1 v1 => by
    obtain ⟨a, n, rfl, n1, h0, hs, hd⟩ := r1
    cases v1 with
    | cons d1 d2 =>
      cases d2 with
      | cons d2 d3 =>
        cases d3; cases d1; cases d2
        refine ⟨a, n, rfl, n1, for_range (lo := a) (n := (n - a).toNat) (fun i σ' H' => ∃ F' δ', Stt K b B F' H' σ' δ' ∧ Ex F1 F' ∧ Pv a n i δ') ⟨F1, δ1, S1, Ex.refl F1, h0⟩ (fun i σ' H' hi ⟨F', δ', S', e', pv⟩ => ?_) fun σ' H' ⟨F', δ', S', e', pv⟩ => E.nx F' H' σ' δ' (hd δ' pv) S' (e1.trans e')⟩
        exact turn_run hs (E.mono e1) hi S' e' pv (.int _)
end
end Ab

set_option Elab.async false
set_option linter.all false
set_option maxRecDepth 100000
set_option maxHeartbeats 2000000
namespace Ab
open PySem PySem.Spec PyProof.Rows L2

theorem start_dat {K : Fg} {F : Hp} : ∀ {vs : List V} {ds : List PyData}, DpAll K F vs ds → ∀ (m : Nat) (b : Option Addr) (H0 H : Hp) (i : Nat) (s : Sl), (ds.map Sl.dat ++ List.replicate m Sl.no)[i]? = some s → SlOk K b H0 F H (slot (vs.map some ++ List.replicate m none) i) s ∧ s.mut = false
  | _, _, .nil, m, b, H0, H, i, s, h => by
    have e : s = Sl.no := by
      simp only [List.map_nil, List.nil_append] at h
      rw [List.getElem?_replicate] at h
      split at h
      · cases h; rfl
      · cases h
    subst e
    exact ⟨trivial, rfl⟩
  | _, _, .cons a r, m, b, H0, H, 0, s, h => by
    simp at h
    subst h
    exact ⟨⟨_, rfl, a⟩, rfl⟩
  | _, _, .cons a r, m, b, H0, H, i + 1, s, h => by
    have := start_dat r m b H0 H i s (by simpa using h)
    simpa [slot] using this
theorem stt_start {K : Fg} {F H : Hp} {vs : List V} {ds : List PyData} (e : Ex F H) (h : DpAll K F vs ds) (m : Nat) : Stt K none ⟨F, H⟩ F H (vs.map some ++ List.replicate m none) (ds.map Sl.dat ++ List.replicate m Sl.no) := by
  refine ⟨e, Gr.refl e, by simp [DpAll.length h], fun i s hs => (start_dat h m none H H i s hs).1, fun i j si sj p _ h1 _ m1 => ?_⟩
  rw [(start_dat h m none H H i si h1).2] at m1
  cases m1
section
variable {P : Program} {w : World} {K : Fg} {mg : Str → Option Value} {base : Heap}
/-- THE RULE for a def upon data -/
theorem mkFn {x qual : Str} {st : Stmt} {f : Addr} {fd : FuncData} {N ps : List Str} {k : Nat} {φ : List PyData → (PyData → Prop) → Prop} (F : Fun K x qual st f fd) (S : FnScope N ps (defScope st)) (len : ∀ ds kk, φ ds kk → ds.length = ps.length)
    (hb : ∀ (cdv : Value) (A : Around) (outer : List Env) (s : Shared) (H : Hp) (E : XK), Room k (A.deeper (envOfC qual (defScope st) s.heap.objs.size f cdv)) →
      ∃ t, PSs (cxOf CX0 P w K mg base N qual (defScope st) f cdv A outer s H E).nox (defBody st) t ∧ ∀ ds kk, φ ds kk → Ds K none t (ds.map Sl.dat ++ List.replicate (N.length - ds.length) Sl.no) { nx := fun _ => kk .none, rt := kk }) :
    FnOk P w K mg base CX0 (k + 1) f fd ps (spP K φ) := by
  refine F.ok S (fun vs H Q E h => ?_) (fun cdv A outer s H vs Q E hr h => ?_)
  · obtain ⟨F0, ds, kk, _, h1, h2, _⟩ := h
    rw [DpAll.length h1]
    exact len ds kk h2
  · obtain ⟨F0, ds, kk, ex, h1, h2, h3⟩ := h
    obtain ⟨t, ht, hd⟩ := hb cdv A outer s H E hr
    refine ⟨t, ht, ?_⟩
    have S0 := stt_start ex h1 (N.length - ds.length)
    have e : L2.start N vs = vs.map some ++ List.replicate (N.length - ds.length) none := by
      unfold L2.start
      rw [DpAll.length h1]
    rw [e]
    refine hd ds kk h2 ⟨F0, H⟩ F0 H _ _ S0 ⟨fun F H' σ δ hk S _ => ?_, fun v F H' d hk g dp => ?_, fun _ _ _ _ z => z.elim, fun _ _ _ _ z => z.elim, fun _ _ _ _ _ _ _ z => z.elim, fun _ _ _ _ _ _ z => z.elim⟩
    · exact h3 .non F H' .none hk S.gr .non
    · exact h3 v F H' d hk g dp

/-! ### the law's pool -/
def spPool (K : Fg) : Sp := fun vs H Q _ => ∃ (F : Hp) (a : Addr) (ns : List Int), Ex F H ∧ vs = [.ref a] ∧ SqL K F a (ns.map V.int) ∧ ns.length ≤ 63 ∧
  ∀ p F2 H2, F2 p = none → H p = none → Gr none F H F2 H2 → PoolAt K F2 H2 p → Q (.ref p) H2
/-- the law's first line: the pool is made -/
theorem ds_pool {E : XK} {δ : LS} {rest : TS} {P : Po} {ns : List Int} (h0 : δ[0]? = some (.dat (.list (ns.map PyData.int)))) (hn : ns.length ≤ 63) (h : ∀ p, Ds K (some p) rest (δ.set 1 .pool) { nx := fun _ => False, rt := P.rt })
    (hm : ∀ (i : Nat) (s : Sl), δ[i]? = some s → s.mut = false) : Ds K none (tSeq (tAsg (tCall (spPool K) [] E (tCons (tVar 0) tNil)) (gName 1)) rest) δ P := fun B F H σ D S EO => by
  obtain ⟨v, h1, h2⟩ := S.dat h0
  cases h2 with
  | lst q1 q2 =>
    rename_i a xs
    have e := DpAll.ints_eq q2
    subst e
    refine ⟨.ref a, h1, F, a, ns, S.sub, rfl, q1, hn, fun p F2 H2 f2 hp g pa => ?_⟩
    have S1 := S.step g
    have bp : B.H p = none := by
      cases q : B.H p with
      | none => rfl
      | some o =>
        cases r : B.F p with
        | none =>
          obtain ⟨_, _, o', z⟩ := S.gr.keep p o r q
          rw [hp] at z; cases z
        | some u =>
          have := S.gr.sub p u (S.gr.ex p u r)
          rw [hp] at this; cases this
    have S2 : Stt K (some p) B F2 H2 σ δ := ⟨S1.sub, S1.gr.weak, S1.len, (fun i s hs => by
      have x := S1.ok i s hs
      have m := hm i s hs
      cases s with
      | no => trivial
      | dat d => exact x
      | own _ => cases m
      | dic _ => cases m
      | dit _ => cases m
      | pown _ => cases m
      | pool => cases m), S1.ap⟩
    have S3 : Stt K (some p) B F2 H2 (σ.set 1 (some (.ref p))) (δ.set 1 .pool) := S2.set (fun _ => ⟨p, rfl, rfl, pa⟩) (.inr fun j sj q _ hj mj _ => by
      rw [hm j sj hj] at mj; cases mj)
    refine h p B F2 H2 _ D S3 ⟨fun _ _ _ _ z => z.elim, fun v F' H' d hd g' dp => ?_, fun _ _ _ _ z => z.elim, fun _ _ _ _ z => z.elim, fun _ _ _ _ _ _ _ z => z.elim, fun _ _ _ _ _ _ z => z.elim⟩
    refine EO.rt v F' H' d hd ⟨g'.ex, g'.sub, fun q o z1 z2 => ?_⟩ dp
    obtain ⟨a1, a2, a3⟩ := g'.keep q o z1 z2
    refine ⟨a1, fun _ => a2 ?_, a3⟩
    rintro e
    cases e
    rw [bp] at z2; cases z2
theorem mkPool {x qual : Str} {st : Stmt} {f : Addr} {fd : FuncData} {N ps : List Str} {k : Nat} (F : Fun K x qual st f fd) (S : FnScope N ps (defScope st)) (hps : ps.length = 1)
    (hb : ∀ (cdv : Value) (A : Around) (outer : List Env) (s : Shared) (H : Hp) (E : XK), Room k (A.deeper (envOfC qual (defScope st) s.heap.objs.size f cdv)) →
      ∃ t, PSs (cxOf CX0 P w K mg base N qual (defScope st) f cdv A outer s H E).nox (defBody st) t ∧ ∀ ns : List Int, ns.length ≤ 63 → Ds K none t (Sl.dat (.list (ns.map PyData.int)) :: List.replicate (N.length - 1) Sl.no)
        { nx := fun _ => False, rt := fun _ => False, rn := fun ds => ∃ salt, ds = [.list (ns.map PyData.int), .int 0, .int 0, .int 0, .int salt] }) :
    FnOk P w K mg base CX0 (k + 1) f fd ps (spPool K) := by
  refine F.ok S (fun vs H Q E h => ?_) (fun cdv A outer s H vs Q E hr h => ?_)
  · obtain ⟨_, _, _, _, rfl, _⟩ := h
    exact hps.symm
  · obtain ⟨F0, a, ns, ex, rfl, h1, h2, h3⟩ := h
    obtain ⟨t, ht, hd⟩ := hb cdv A outer s H E hr
    refine ⟨t, ht, ?_⟩
    have S0 : Stt K none ⟨F0, H⟩ F0 H _ _ := stt_start (vs := [.ref a]) (ds := [.list (ns.map PyData.int)]) ex (.cons (.lst h1 (DpAll.ints ns)) .nil) (N.length - 1)
    have e : L2.start N [.ref a] = [V.ref a].map some ++ List.replicate (N.length - 1) none := rfl
    rw [e]
    refine hd ns h2 ⟨F0, H⟩ F0 H _ _ S0 ⟨fun _ _ _ _ z => z.elim, fun _ _ _ _ z => z.elim, fun _ _ _ _ z => z.elim, fun _ _ _ _ z => z.elim, fun p xs F H' σ δ ds hk S N => ?_, fun _ _ _ _ _ _ z => z.elim⟩
    obtain ⟨salt, rfl⟩ := hk
    have all := N.all
    cases all with
    | cons d0 all => cases all with
      | cons d1 all => cases all with
        | cons d2 all => cases all with
          | cons d3 all => cases all with
            | cons d4 all =>
              cases all
              cases d1; cases d2; cases d3; cases d4
              cases d0 with
              | lst q1 q2 =>
                have e := DpAll.ints_eq q2
                subst e
                exact h3 p F H' N.f N.b S.gr ⟨N.f, _, ns, 0, 0, 0, salt, N.h, q1⟩
/-- a def with the pool as its first argument; slot 0 stands for it -/
theorem mkFnP {x qual : Str} {st : Stmt} {f : Addr} {fd : FuncData} {N ps : List Str} {k : Nat} {φ : List PyData → (PyData → Prop) → Prop} (F : Fun K x qual st f fd) (S : FnScope N ps (defScope st)) (len : ∀ ds kk, φ ds kk → ds.length + 1 = ps.length)
    (hb : ∀ (cdv : Value) (A : Around) (outer : List Env) (s : Shared) (H : Hp) (E : XK), Room k (A.deeper (envOfC qual (defScope st) s.heap.objs.size f cdv)) →
      ∃ t, PSs (cxOf CX0 P w K mg base N qual (defScope st) f cdv A outer s H E).nox (defBody st) t ∧ ∀ (p : Addr) ds kk, φ ds kk → Ds K (some p) t (Sl.pool :: (ds.map Sl.dat ++ List.replicate (N.length - (ds.length + 1)) Sl.no))
        { nx := fun _ => False, rt := fun _ => False, rs := fun d δ => kk d ∧ δ[0]? = some .pool }) :
    FnOk P w K mg base CX0 (k + 1) f fd ps (spPP K φ) := by
  refine F.ok S (fun vs H Q E h => ?_) (fun cdv A outer s H vs Q E hr h => ?_)
  · obtain ⟨F0, p, vs', ds, kk, _, rfl, _, h1, h2, _⟩ := h
    rw [List.length_cons, DpAll.length h1]
    exact len ds kk h2
  · obtain ⟨F0, p, vs', ds, kk, ex, rfl, pa, h1, h2, h3⟩ := h
    obtain ⟨t, ht, hd⟩ := hb cdv A outer s H E hr
    refine ⟨t, ht, ?_⟩
    have S0 := stt_start (K := K) ex h1 (N.length - (ds.length + 1))
    have e : L2.start N (.ref p :: vs') = some (.ref p) :: (vs'.map some ++ List.replicate (N.length - (ds.length + 1)) none) := by
      unfold L2.start
      rw [List.length_cons, DpAll.length h1]
      rfl
    rw [e]
    have S1 : Stt K (some p) ⟨F0, H⟩ F0 H (some (.ref p) :: (vs'.map some ++ List.replicate (N.length - (ds.length + 1)) none)) (Sl.pool :: (ds.map Sl.dat ++ List.replicate (N.length - (ds.length + 1)) Sl.no)) := by
      refine ⟨ex, Gr.refl ex, by simpa using S0.len, fun i s hs => ?_, fun i j si sj q hij h1' h2' m1 m2 => ?_⟩
      · cases i with
        | zero => simp at hs; subst hs; exact ⟨p, rfl, rfl, pa⟩
        | succ i =>
          have := (start_dat h1 (N.length - (ds.length + 1)) (some p) H H i s (by simpa using hs)).1
          simpa [slot] using this
      · cases i with
        | zero =>
          cases j with
          | zero => exact absurd rfl hij
          | succ j =>
            rw [(start_dat h1 (N.length - (ds.length + 1)) none H H j sj (by simpa using h2')).2] at m2
            cases m2
        | succ i =>
          rw [(start_dat h1 (N.length - (ds.length + 1)) none H H i si (by simpa using h1')).2] at m1
          cases m1
    refine hd p ds kk h2 ⟨F0, H⟩ F0 H _ _ S1 ⟨fun _ _ _ _ z => z.elim, fun _ _ _ _ z => z.elim, fun _ _ _ _ z => z.elim, fun _ _ _ _ z => z.elim, fun _ _ _ _ _ _ _ z => z.elim, fun v F' H' d σ δ hk S dp => ?_⟩
    obtain ⟨hk, hp⟩ := hk
    obtain ⟨p', g1, g2, g3⟩ := S.ok 0 _ hp
    cases g2
    refine h3 v F' H' d hk S.gr (fun q o z1 z2 => ?_) g3 dp
    cases y : F0 q with
    | none => exact (S.gr.keep q o y z1).2.1 (fun z => z2 (Option.some.inj z).symm)
    | some u =>
      have := ex q u y
      rw [z1] at this; cases this
      exact S.gr.sub q _ (S.gr.ex q _ y)
theorem mkDraw {x qual : Str} {st : Stmt} {f : Addr} {fd : FuncData} {N ps : List Str} {k : Nat} (F : Fun K x qual st f fd) (S : FnScope N ps (defScope st)) (hps : ps.length = 2)
    (hb : ∀ (cdv : Value) (A : Around) (outer : List Env) (s : Shared) (H : Hp) (E : XK), Room k (A.deeper (envOfC qual (defScope st) s.heap.objs.size f cdv)) →
      ∃ t, PSs (cxOf CX0 P w K mg base N qual (defScope st) f cdv A outer s H E).nox (defBody st) t ∧ ∀ (p : Addr) (ns : List Int) (i : Nat) (c kn salt m : Int), 0 < m → m.natAbs < 2 ^ 200 →
        Ds K (some p) t (Sl.pown [.list (ns.map PyData.int), .int i, .int c, .int kn, .int salt] :: Sl.dat (.int m) :: List.replicate (N.length - 2) Sl.no)
        { nx := fun _ => False, rt := fun _ => False, rs := fun d δ => (∃ r : Int, d = .int r ∧ 0 ≤ r ∧ r < m) ∧ ∃ (i : Nat) (c kn salt : Int), δ[0]? = some (.pown [.list (ns.map PyData.int), .int i, .int c, .int kn, .int salt]) }) :
    FnOk P w K mg base CX0 (k + 1) f fd ps (spPP K φ_law_draw) := by
  refine F.ok S (fun vs H Q E h => ?_) (fun cdv A outer s H vs Q E hr h => ?_)
  · obtain ⟨F0, p, vs', ds, kk, _, rfl, _, h1, ⟨m, rfl, _⟩, _⟩ := h
    rw [List.length_cons, DpAll.length h1]
    exact hps.symm
  · obtain ⟨F0, p, vs', ds, kk, ex, rfl, pa, h1, ⟨m, rfl, m0, m9, hk⟩, h3⟩ := h
    obtain ⟨t, ht, hd⟩ := hb cdv A outer s H E hr
    refine ⟨t, ht, ?_⟩
    cases h1 with
    | cons a b =>
      cases b
      cases a
      obtain ⟨f0, sa, ns, i, c, kn, salt, hp, hs⟩ := pa
      have S0 := stt_start (K := K) ex (vs := [.int m]) (ds := [.int m]) (.cons (.int m) .nil) (N.length - 2)
      have e : L2.start N [.ref p, .int m] = some (.ref p) :: some (.int m) :: List.replicate (N.length - 2) none := rfl
      rw [e]
      have S1 : Stt K (some p) ⟨F0, H⟩ F0 H (some (.ref p) :: some (.int m) :: List.replicate (N.length - 2) none) (Sl.pown [.list (ns.map PyData.int), .int i, .int c, .int kn, .int salt] :: Sl.dat (.int m) :: List.replicate (N.length - 2) Sl.no) := by
        refine ⟨ex, Gr.refl ex, by simpa using S0.len, fun i' s hs' => ?_, fun i' j si sj q hij h1' h2' m1 m2 => ?_⟩
        · cases i' with
          | zero =>
            simp at hs'; subst hs'
            exact ⟨p, _, rfl, hp, f0, rfl, .cons (.lst hs (DpAll.ints ns)) (.cons (.int _) (.cons (.int _) (.cons (.int _) (.cons (.int _) .nil))))⟩
          | succ i' =>
            have := (start_dat (K := K) (F := F0) (vs := [.int m]) (ds := [.int m]) (.cons (.int m) .nil) (N.length - 2) (some p) H H i' s (by simpa using hs')).1
            simpa [slot] using this
        · cases i' with
          | zero =>
            cases j with
            | zero => exact absurd rfl hij
            | succ j =>
              rw [(start_dat (K := K) (F := F0) (vs := [.int m]) (ds := [.int m]) (.cons (.int m) .nil) (N.length - 2) none H H j sj (by simpa using h2')).2] at m2
              cases m2
          | succ i' =>
            rw [(start_dat (K := K) (F := F0) (vs := [.int m]) (ds := [.int m]) (.cons (.int m) .nil) (N.length - 2) none H H i' si (by simpa using h1')).2] at m1
            cases m1
      refine hd p ns i c kn salt m m0 m9 ⟨F0, H⟩ F0 H _ _ S1 ⟨fun _ _ _ _ z => z.elim, fun _ _ _ _ z => z.elim, fun _ _ _ _ z => z.elim, fun _ _ _ _ z => z.elim, fun _ _ _ _ _ _ _ z => z.elim, fun v F' H' d σ δ hk' S dp => ?_⟩
      obtain ⟨⟨r, rfl, r0, r1⟩, i', c', kn', salt', hδ⟩ := hk'
      obtain ⟨p', xs, g1, g2, g3, g4, g5⟩ := S.pown hδ
      cases g4
      refine h3 v F' H' _ (hk r r0 r1) S.gr (fun q o z1 z2 => ?_) ?_ dp
      · cases y : F0 q with
        | none => exact (S.gr.keep q o y z1).2.1 (fun z => z2 (Option.some.inj z).symm)
        | some u =>
          have := ex q u y
          rw [z1] at this; cases this
          exact S.gr.sub q _ (S.gr.ex q _ y)
      · cases g5 with
        | cons d0 all => cases all with
          | cons d1 all => cases all with
            | cons d2 all => cases all with
              | cons d3 all => cases all with
                | cons d4 all =>
                  cases all
                  cases d1; cases d2; cases d3; cases d4
                  cases d0 with
                  | lst q1 q2 =>
                    have e := DpAll.ints_eq q2
                    subst e
                    exact ⟨g3, _, ns, i', c', kn', salt', g2, q1⟩
end
end Ab

set_option Elab.async false
set_option linter.all false
set_option maxRecDepth 100000
set_option maxHeartbeats 2000000
namespace Ab
open PySem PySem.Spec PyProof.Rows L2

/-- a def that may be called by its name -/
structure Cal (P : Program) (w : World) (K : Fg) (mg : Str → Option Value) (base : Heap) (x : Str) (k : Nat) (ps : List Str) (sp : Sp) : Prop where
  ex : ∃ f fd, FnOk P w K mg base CX0 k f fd ps sp ∧ mg x = some (.ref f) ∧ PySem.W.keepIn K (.ref f) = true ∧ Binds K fd ps []
section
variable {X : Cx} {e : Expr} {es : List Expr} {t : TA} {p pos : Pos} {x : Str} {k n : Nat} {ps : List Str} {sp : Sp}
theorem pe_cl (C : Cal X.prog X.w X.K X.mg X.base x k ps sp) (hr : Room n X.A) (hk : k ≤ n) (hg : Gl X x) (ha : PA X (e :: es) t) (hdb : (x == ("__debug__" : Str)) = false := by decide)
    (he : starEach (e :: es) X.env = (false, eval e X.env) :: starEach es X.env := by rfl) (hpl : (backTo pos (starEach es X.env)).any (·.1) = false := by rfl) : PE X (.Call (.Name x p) (e :: es) [] pos) (tCall sp [] E0 t) := by
  obtain ⟨f, fd, F, hm, hkp, hb⟩ := C.ex
  exact pe_call F (hr.mono hk) hg hm hkp hb .nil pass0 ha hdb he hpl
end

/-! ### small rules for the walk -/
section
variable {K : Fg} {b : Option Addr} {δ : LS} {A B : Prop}
theorem toD_d {R : PyData → LS → Prop} {x : PyData} (h : R x δ) : toD R (.d x) δ := h
theorem toD_o {R : PyData → LS → Prop} {i : Nat} {ds : List PyData} (h : δ[i]? = some (.own ds)) (k : R (.list ds) (δ.set i (.dat (.list ds)))) : toD R (.o i) δ := ⟨ds, h, k⟩
theorem ite_dec {p : Prop} [Decidable p] (h1 : p → A) (h2 : ¬p → B) : if decide p = true then A else B := by
  by_cases h : p
  · rw [decide_eq_true h]; exact iteT (h1 h)
  · rw [decide_eq_false h]; exact iteF (h2 h)
theorem ite_decN {p : Prop} [Decidable p] (h1 : ¬p → A) (h2 : p → B) : if (!decide p) = true then A else B := by
  by_cases h : p
  · rw [decide_eq_true h]; exact iteF (h2 h)
  · rw [decide_eq_false h]; exact iteT (h1 h)
theorem eqv_int (a b : Int) : PyData.eqv (.int a) (.int b) = decide (a = b) := by
  show (a == b) = decide (a = b)
  by_cases h : a = b
  · subst h; simp
  · rw [decide_eq_false h]; exact beq_eq_false_iff_ne.mpr h
theorem ite_eqI {x y : Int} (h1 : x = y → A) (h2 : x ≠ y → B) : if PyData.eqv (.int x) (.int y) = true then A else B := by
  rw [eqv_int]; exact ite_dec h1 h2
theorem ite_neI {x y : Int} (h1 : x ≠ y → A) (h2 : x = y → B) : if (!PyData.eqv (.int x) (.int y)) = true then A else B := by
  rw [eqv_int]; exact ite_decN h1 h2
theorem ite_bool {c : Bool} (h1 : c = true → A) (h2 : c = false → B) : if c = true then A else B := by
  cases c with
  | true => exact iteT (h1 rfl)
  | false => exact iteF (h2 rfl)
theorem shaped_int (n : Int) : SeqAt.shaped (.int n) = true := rfl
end
end Ab

set_option Elab.async false
set_option linter.all false
set_option maxRecDepth 100000
set_option maxHeartbeats 2000000
namespace Ab
open PySem PySem.Spec PyProof.Rows L2
/-! sizes: x has at most n bits -/
def Bd (n : Nat) (x : Int) : Prop := x.natAbs < 2 ^ n
instance {n : Nat} {x : Int} : Decidable (Bd n x) := inferInstanceAs (Decidable (x.natAbs < 2 ^ n))
theorem Bd.le {n : Nat} {x y : Int} (h : Bd n x) (l : y.natAbs ≤ x.natAbs) : Bd n y := Nat.lt_of_le_of_lt l h
theorem Bd.mono {n m : Nat} {x : Int} (h : Bd n x) (l : n ≤ m) : Bd m x := Nat.lt_of_lt_of_le h (Nat.pow_le_pow_right (by decide) l)
theorem Bd.mul {n m : Nat} {x y : Int} (h : Bd n x) (k : Bd m y) : Bd (n + m) (x * y) := wide_lt h k
theorem Bd.add {n m : Nat} {x y : Int} (h : Bd n x) (k : Bd m y) : Bd (n + m + 1) (x + y) := by
  unfold Bd at *
  have a := Int.natAbs_add_le x y
  have p1 : 2 ^ n ≤ 2 ^ (n + m) := Nat.pow_le_pow_right (by decide) (by omega)
  have p2 : 2 ^ m ≤ 2 ^ (n + m) := Nat.pow_le_pow_right (by decide) (by omega)
  rw [Nat.pow_succ]
  omega
theorem Bd.neg {n : Nat} {x : Int} (h : Bd n x) : Bd n (-x) := by unfold Bd at *; rwa [Int.natAbs_neg]
theorem Bd.sub {n m : Nat} {x y : Int} (h : Bd n x) (k : Bd m y) : Bd (n + m + 1) (x - y) := by
  rw [Int.sub_eq_add_neg]; exact h.add k.neg
theorem Bd.sub' {n : Nat} {x y : Int} (h : Bd n x) (k : Bd n y) : Bd (n + 1) (x - y) := by
  unfold Bd at *
  rw [Nat.pow_succ]; omega
theorem Bd.add' {n : Nat} {x y : Int} (h : Bd n x) (k : Bd n y) : Bd (n + 1) (x + y) := by
  unfold Bd at *
  rw [Nat.pow_succ]; omega
theorem Bd.emod {n : Nat} {x m : Int} (h : Bd n m) (h0 : 0 < m) : Bd n (x % m) := by
  unfold Bd at *
  have a := Int.emod_nonneg x (show m ≠ 0 by omega)
  have b := Int.emod_lt_of_pos x h0
  omega
theorem Bd.lit {x : Int} (h : x.natAbs < 18446744073709551616) : Bd 64 x := h
theorem Bd.of {n : Nat} {x : Int} (h : x.natAbs < 2 ^ n) : Bd n x := h
theorem Bd.nat {n : Nat} {x : Nat} (h : x < 2 ^ n) : Bd n (x : Int) := by unfold Bd; rwa [Int.natAbs_natCast]
theorem Bd.ediv {n : Nat} {x : Int} (y : Int) (h : Bd n x) : Bd (n + 1) (x / y) := by
  unfold Bd at *
  have : (x / y).natAbs ≤ x.natAbs := Int.natAbs_ediv_le_natAbs x y
  rw [Nat.pow_succ]; omega
theorem cmulW {n m : Nat} {x y : Int} (h : Bd n x) (k : Bd m y) (l : n + m + 2 ≤ 1000000) : CMulW x y :=
  wide_mul (h.mono (Nat.le_succ n)) (k.mono (Nat.le_succ m)) (by omega) (by omega) (by omega)
theorem cdivW {n : Nat} {x y : Int} (h0 : 0 < y) (h : Bd n y) (l : n + 1 ≤ 9000) : CDivW x y := wide_div h0 (h.mono (Nat.le_succ n)) (by omega) l
theorem cmulR {x y : Int} (h : -(2 ^ 64) < y ∧ y < 2 ^ 64) : CMul x y := .inr h
theorem cmulL {x y : Int} (h : -(2 ^ 64) < x ∧ x < 2 ^ 64) : CMul x y := .inl h
theorem gcdI_pos {a b : Int} (h : a ≠ 0 ∨ b ≠ 0) : 0 < gcdI a b := by
  unfold gcdI
  have : 0 < Nat.gcd a.natAbs b.natAbs := by
    rcases h with h | h
    · exact Nat.gcd_pos_of_pos_left _ (by omega)
    · exact Nat.gcd_pos_of_pos_right _ (by omega)
  omega
theorem gcdI_le_right {a b : Int} (h : b ≠ 0) : gcdI a b ≤ b.natAbs := by
  unfold gcdI
  have := Nat.gcd_le_right (m := a.natAbs) (n := b.natAbs) (by omega)
  omega
theorem ite_nt {A B : Prop} (h : B) : if (!true) = true then A else B := iteF h
theorem ite_nf {A B : Prop} (h : A) : if (!false) = true then A else B := iteT h
theorem len_ok {α : Type} {xs : List α} (h : Nat.ble xs.length 100000 = true) : xs.length ≤ 100000 := Nat.le_of_ble_eq_true h
theorem ds_cut {K : Fg} {b : Option Addr} {δ : LS} {ts tu : TS} {P : Po} (M : LS → Prop) (h1 : Ds K b ts δ { P with nx := M }) (h2 : ∀ δ', M δ' → Ds K b tu δ' P) : Ds K b (tSeq ts tu) δ P := fun B F H σ D S E =>
  h1 B F H σ { D with nx := tu D } S ⟨fun F2 H2 σ2 δ2 hm S2 e => h2 δ2 hm B F2 H2 σ2 D S2 (E.mono e), E.rt, E.bk, E.ct, E.rn, E.rs⟩
theorem cut_ints (ns : List Int) (lo hi : Option Int) : ∃ ms : List Int, cutD (ns.map PyData.int) lo hi = ms.map PyData.int ∧ ms.length ≤ ns.length := by
  refine ⟨(ns.drop (HT.sIx (ns.map PyData.int).length 0 lo)).take (HT.sIx (ns.map PyData.int).length (ns.map PyData.int).length hi - HT.sIx (ns.map PyData.int).length 0 lo), ?_, ?_⟩
  · unfold cutD
    rw [List.map_take, List.map_drop]
  · rw [List.length_take, List.length_drop]; omega
theorem getD_ints {ns : List Int} {j : Nat} (h : j < (ns.map PyData.int).length) : (ns.map PyData.int).getD j .none = .int (ns.getD j 0) := by
  have h' : j < ns.length := by simpa using h
  rw [List.getD_eq_getElem?_getD, List.getD_eq_getElem?_getD, List.getElem?_map, List.getElem?_eq_getElem h']
  rfl
theorem at_ints {ns : List Int} {i : Nat} (h : i < ns.length) : atI (ns.map PyData.int) (i : Int) = some (.int (ns.getD i 0)) := by
  apply atI_nat
  rw [List.getElem?_map, List.getElem?_eq_getElem h, List.getD_eq_getElem?_getD, List.getElem?_eq_getElem h]
  rfl
theorem len_lt {α : Type} {a : Nat} {xs : List α} (h : Nat.ble (a + 1) xs.length = true) : a < xs.length := Nat.le_of_ble_eq_true h
theorem dt_orV {K : Fg} {b : Option Addr} {δ : LS} {t u : TT} {R : Bool → LS → Prop} (c2 : Bool) (h1 : Dt K b t δ fun c δ1 => δ1 = δ ∧ R (c || c2) δ) (h2 : Dt K b u δ fun c δ1 => c = c2 ∧ δ1 = δ) : Dt K b (tOr t u) δ R :=
  fun B F H σ S Q q => h1 B F H σ S _ fun c F1 H1 δ1 r1 S1 e1 => by
    obtain ⟨rfl, r1⟩ := r1
    cases c with
    | true =>
      show Q true H1
      exact q true F1 H1 _ r1 S1 e1
    | false =>
      show u σ H1 Q
      refine h2 B F1 H1 σ S1 Q fun c F2 H2 δ2 r2 S2 e2 => ?_
      obtain ⟨rfl, rfl⟩ := r2
      exact q c F2 H2 _ r1 S2 (e1.trans e2)
theorem dt_andV {K : Fg} {b : Option Addr} {δ : LS} {t u : TT} {R : Bool → LS → Prop} (c2 : Bool) (h1 : Dt K b t δ fun c δ1 => δ1 = δ ∧ R (c && c2) δ) (h2 : Dt K b u δ fun c δ1 => c = c2 ∧ δ1 = δ) : Dt K b (tAnd t u) δ R :=
  fun B F H σ S Q q => h1 B F H σ S _ fun c F1 H1 δ1 r1 S1 e1 => by
    obtain ⟨rfl, r1⟩ := r1
    cases c with
    | false =>
      show Q false H1
      exact q false F1 H1 _ r1 S1 e1
    | true =>
      show u σ H1 Q
      refine h2 B F1 H1 σ S1 Q fun c F2 H2 δ2 r2 S2 e2 => ?_
      obtain ⟨rfl, rfl⟩ := r2
      exact q c F2 H2 _ r1 S2 (e1.trans e2)
/-- x if t else y, both ways told by one word -/
theorem de_ifM {K : Fg} {b : Option Addr} {δ : LS} {t : TT} {ta tb : TE} {R : AV → LS → Prop} (M : AV → Prop) (h : Dt K b t δ fun c δ1 => if c = true then De K b ta δ1 (fun a δ2 => δ2 = δ ∧ M a) else De K b tb δ1 (fun a δ2 => δ2 = δ ∧ M a)) (k : ∀ a, M a → R a δ) : De K b (tIf t ta tb) δ R :=
  de_if (fun B F H σ S Q q => h B F H σ S Q fun c F2 H2 δ2 r S2 e => q c F2 H2 δ2 (by
    cases c with
    | true =>
      have r' : De K b ta δ2 (fun a δ3 => δ3 = δ ∧ M a) := r
      exact iteT (fun B F H σ S Q q => r' B F H σ S Q fun v F3 H3 a δ3 r3 S3 e3 w3 => q v F3 H3 a δ3 (by obtain ⟨rfl, hm⟩ := r3; exact k a hm) S3 e3 w3)
    | false =>
      have r' : De K b tb δ2 (fun a δ3 => δ3 = δ ∧ M a) := r
      exact iteF (fun B F H σ S Q q => r' B F H σ S Q fun v F3 H3 a δ3 r3 S3 e3 w3 => q v F3 H3 a δ3 (by obtain ⟨rfl, hm⟩ := r3; exact k a hm) S3 e3 w3)) S2 e)
/-- the loop over data that stays data -/
theorem ds_forL' {K : Fg} {b : Option Addr} {δ : LS} {te : TE} {ts : TS} {g : TG} {P : Po} (Pv : List PyData → Nat → LS → Prop) (h : De K b te δ (toD fun x δ1 => ∃ xs, x = .list xs ∧ Turn1 K b g ts P xs.length (fun i => xs.getD i .none) δ1 (Pv xs))) : Ds K b (tFor (iList K te) g ts) δ P := ds_forL Pv h
end Ab

set_option linter.all false
namespace M78
section
variable (p q : Int)
/-- the two rows -/
def u : Nat → Int
  | 0 => 0
  | 1 => 1
  | n + 2 => p * u (n + 1) - q * u n
def v : Nat → Int
  | 0 => 2
  | 1 => p
  | n + 2 => p * v (n + 1) - q * v n
def w : Nat → Int
  | 0 => 1
  | n + 1 => -q * u p q n
theorem uS (n : Nat) : u p q (n + 2) = p * u p q (n + 1) - q * u p q n := rfl
theorem uw : ∀ n : Nat, u p q (n + 1) = p * u p q n + w p q n
  | 0 => by show (1 : Int) = p * 0 + 1; grind
  | n + 1 => by
    show p * u p q (n + 1) - q * u p q n = p * u p q (n + 1) + -q * u p q n
    grind
/-- the sum of places -/
theorem u_add (a : Nat) : ∀ b : Nat, u p q (a + 1 + b) = u p q (a + 1) * u p q (b + 1) - q * u p q a * u p q b ∧ u p q (a + 1 + (b + 1)) = u p q (a + 1) * u p q (b + 2) - q * u p q a * u p q (b + 1)
  | 0 => by
    constructor
    · show u p q (a + 1) = u p q (a + 1) * 1 - q * u p q a * 0; grind
    · show p * u p q (a + 1) - q * u p q a = u p q (a + 1) * (p * 1 - q * 0) - q * u p q a * 1; grind
  | b + 1 => by
    obtain ⟨h1, h2⟩ := u_add a b
    refine ⟨h2, ?_⟩
    have e : u p q (a + 1 + (b + 1 + 1)) = p * u p q (a + 1 + (b + 1)) - q * u p q (a + 1 + b) := uS p q (a + 1 + b)
    rw [e, h1, h2, uS p q (b + 1), uS p q b]
    grind
theorem u_add' (a b : Nat) : u p q (a + 1 + b) = u p q (a + 1) * u p q (b + 1) - q * u p q a * u p q b := (u_add p q a b).1
/-- b + r: by u_b u_(r+1) -/
theorem u_sub (b r : Nat) : u p q (b + 1 + r) = u p q (b + 1) * u p q (r + 1) - q * u p q b * u p q r := u_add' p q b r
theorem u_norm : ∀ n : Nat, u p q (n + 1) * u p q (n + 1) - p * u p q n * u p q (n + 1) + q * (u p q n * u p q n) = q ^ n
  | 0 => by show (1 : Int) * 1 - p * 0 * 1 + q * (0 * 0) = q ^ 0; grind
  | n + 1 => by
    have h := u_norm n
    rw [uS, Int.pow_succ, ← h]
    grind
end
section
variable {p q : Int}
theorem dvd_pow_one {m q : Int} (h : Int.gcd q m = 1) : ∀ n : Nat, Int.gcd (q ^ n) m = 1
  | 0 => by rw [Int.pow_zero]; exact Int.one_gcd
  | n + 1 => by
    rw [Int.pow_succ]
    have a := dvd_pow_one h n
    have : (q ^ n * q).natAbs.gcd m.natAbs = 1 := by
      rw [Int.natAbs_mul]
      exact Nat.Coprime.mul_left a h
    exact this
/-- m divides u_b just if it divides u_(b+r) -/
theorem rank_step {m : Int} (g : Int.gcd q m = 1) {r : Nat} (h : m ∣ u p q r) (b : Nat) : m ∣ u p q (b + r) ↔ m ∣ u p q b := by
  cases b with
  | zero =>
    rw [Nat.zero_add]
    exact ⟨fun _ => Int.dvd_zero m, fun _ => h⟩
  | succ b =>
    rw [u_add']
    have e : m ∣ q * u p q b * u p q r := Int.dvd_mul_of_dvd_right h
    have unit : Int.gcd (u p q (r + 1)) m = 1 := by
      have n := u_norm p q r
      have c := dvd_pow_one g r
      have d1 : ((Int.gcd (u p q (r + 1)) m : Nat) : Int) ∣ u p q (r + 1) := Int.gcd_dvd_left _ _
      have d2 : ((Int.gcd (u p q (r + 1)) m : Nat) : Int) ∣ m := Int.gcd_dvd_right _ _
      have d3 := Int.dvd_trans d2 h
      have d4 : ((Int.gcd (u p q (r + 1)) m : Nat) : Int) ∣ q ^ r := by
        rw [← n]
        exact Int.dvd_add (Int.dvd_sub (Int.dvd_mul_of_dvd_left d1) (Int.dvd_mul_of_dvd_right d1)) (Int.dvd_mul_of_dvd_right (Int.dvd_mul_of_dvd_left d3))
      have d5 := Int.dvd_coe_gcd d4 d2
      rw [c] at d5
      exact Nat.eq_one_of_dvd_one (Int.natCast_dvd_natCast.mp d5)
    constructor
    · intro k
      have k1 : m ∣ u p q (r + 1) * u p q (b + 1) := by
        have := Int.dvd_add k e
        rw [show u p q (b + 1) * u p q (r + 1) - q * u p q b * u p q r + q * u p q b * u p q r = u p q (r + 1) * u p q (b + 1) by grind] at this
        exact this
      have k2 := Int.dvd_gcd_mul_iff_dvd_mul.mpr k1
      rw [Int.gcd_comm, unit] at k2
      simpa using k2
    · intro k
      exact Int.dvd_sub (Int.dvd_mul_of_dvd_left k) e
/-- the rank: the least place above 0 at which m divides -/
structure IsRank (p q m : Int) (r : Nat) : Prop where
  pos : 0 < r
  dvd : m ∣ u p q r
  least : ∀ s, 0 < s → s < r → ¬ m ∣ u p q s
theorem IsRank.iff {m : Int} {r : Nat} (R : IsRank p q m r) (g : Int.gcd q m = 1) (k : Nat) : m ∣ u p q k ↔ r ∣ k := by
  have go : ∀ (t b : Nat), m ∣ u p q (b + r * t) ↔ m ∣ u p q b := by
    intro t
    induction t with
    | zero => intro b; rw [Nat.mul_zero, Nat.add_zero]
    | succ t ih =>
      intro b
      rw [Nat.mul_succ, ← Nat.add_assoc, rank_step g R.dvd, ih]
  have e : k = k % r + r * (k / r) := by have := Nat.mod_add_div k r; omega
  have l := Nat.mod_lt k R.pos
  rw [e, go, ← e]
  constructor
  · intro h
    rcases Nat.eq_zero_or_pos (k % r) with z | z
    · exact Nat.dvd_of_mod_eq_zero z
    · exact absurd h (R.least _ z l)
  · intro h
    rw [Nat.mod_eq_zero_of_dvd h]
    exact Int.dvd_zero m
theorem rank_lcm {m n : Nat} {a b c : Nat} (A : IsRank p q m a) (B : IsRank p q n b) (C : IsRank p q (Nat.lcm m n : Nat) c) (g1 : Int.gcd q m = 1) (g2 : Int.gcd q n = 1) (g3 : Int.gcd q (Nat.lcm m n : Nat) = 1) : c = Nat.lcm a b := by
  apply Nat.dvd_antisymm
  · rw [← C.iff g3, Int.ofNat_dvd_left, Nat.lcm_dvd_iff, ← Int.ofNat_dvd_left, ← Int.ofNat_dvd_left, A.iff g1, B.iff g2]
    exact ⟨Nat.dvd_lcm_left a b, Nat.dvd_lcm_right a b⟩
  · have h := (C.iff g3 c).mpr (Nat.dvd_refl c)
    rw [Int.ofNat_dvd_left, Nat.lcm_dvd_iff, ← Int.ofNat_dvd_left, ← Int.ofNat_dvd_left, A.iff g1, B.iff g2] at h
    exact Nat.lcm_dvd h.1 h.2
theorem lcm_cop {m n : Nat} (g1 : Int.gcd q m = 1) (g2 : Int.gcd q n = 1) : Int.gcd q (Nat.lcm m n : Nat) = 1 := by
  have a : Nat.gcd q.natAbs m = 1 := g1
  have b : Nat.gcd q.natAbs n = 1 := g2
  show Nat.gcd q.natAbs (Nat.lcm m n) = 1
  have c : Nat.Coprime q.natAbs (m * n) := Nat.Coprime.mul_right a b
  exact Nat.Coprime.coprime_dvd_right (Nat.lcm_dvd (Nat.dvd_mul_right m n) (Nat.dvd_mul_left n m)) c
theorem lcm_bd {m n : Nat} (hm : m < 2 ^ 10) (hn : n < 2 ^ 10) (m2 : 2 ≤ m) (n2 : 2 ≤ n) : 2 ≤ Nat.lcm m n ∧ Nat.lcm m n < 2 ^ 20 := by
  have p0 : 0 < Nat.lcm m n := Nat.lcm_pos (by omega) (by omega)
  have a := Nat.le_of_dvd p0 (Nat.dvd_lcm_left m n)
  have b := Nat.le_of_dvd (Nat.mul_pos (show 0 < m by omega) (show 0 < n by omega)) (Nat.lcm_dvd (Nat.dvd_mul_right m n) (Nat.dvd_mul_left n m))
  have c := Nat.mul_lt_mul'' hm hn
  have e : (2 ^ 10 * 2 ^ 10 : Nat) = 2 ^ 20 := by decide
  omega
/-- more pigeons than holes -/
theorem pigeon : ∀ (N : Nat) (f : Nat → Nat), (∀ i, i ≤ N → f i < N) → ∃ i j, i < j ∧ j ≤ N ∧ f i = f j := by
  intro N
  induction N with
  | zero => intro f h; exact absurd (h 0 (Nat.le_refl _)) (Nat.not_lt_zero _)
  | succ N ih =>
    intro f h
    by_cases c : ∃ i, i ≤ N ∧ f i = f (N + 1)
    · obtain ⟨i, hi, e⟩ := c
      exact ⟨i, N + 1, by omega, Nat.le_refl _, e⟩
    · have c' : ∀ i, i ≤ N → f i ≠ f (N + 1) := fun i hi e => c ⟨i, hi, e⟩
      have hN := h (N + 1) (Nat.le_refl _)
      obtain ⟨i, j, h1, h2, h3⟩ := ih (fun i => if f i = N then f (N + 1) else f i) (fun i hi => by
        have a := h i (by omega)
        have b := c' i hi
        show (if f i = N then f (N + 1) else f i) < N
        split
        · omega
        · omega)
      refine ⟨i, j, h1, by omega, ?_⟩
      have a1 := c' i (by omega)
      have a2 := c' j (by omega)
      replace h3 : (if f i = N then f (N + 1) else f i) = (if f j = N then f (N + 1) else f j) := h3
      split at h3 <;> split at h3 <;> omega
theorem least_of (P : Nat → Prop) : ∀ n, P n → ∃ r, P r ∧ r ≤ n ∧ ∀ s, s < r → ¬ P s := by
  intro n
  induction n using Nat.strongRecOn with
  | ind n ih =>
    intro h
    by_cases c : ∃ s, s < n ∧ P s
    · obtain ⟨s, h1, h2⟩ := c
      obtain ⟨r, a, b, d⟩ := ih s h1 h2
      exact ⟨r, a, by omega, d⟩
    · exact ⟨n, h, Nat.le_refl _, fun s hs hp => c ⟨s, hs, hp⟩⟩
/-- there is a rank -/
theorem rank_ex {m : Nat} (m0 : 0 < m) (g : Int.gcd q m = 1) : ∃ r, IsRank p q m r ∧ r ≤ m * m := by
  have key : ∀ i d : Nat, (m : Int) ∣ u p q (i + d) - u p q i → (m : Int) ∣ u p q (i + 1 + d) - u p q (i + 1) → (m : Int) ∣ u p q d := by
    intro i
    induction i with
    | zero =>
      intro d h _
      rw [Nat.zero_add] at h
      have e : u p q 0 = 0 := rfl
      rw [e, Int.sub_zero] at h
      exact h
    | succ i ih =>
      intro d h1 h2
      refine ih d ?_ h1
      have e1 : u p q (i + 1 + 1 + d) = p * u p q (i + 1 + d) - q * u p q (i + d) := by
        rw [show i + 1 + 1 + d = (i + d) + 2 by omega, uS, show i + d + 1 = i + 1 + d by omega]
      rw [e1, uS p q i] at h2
      have h3 := Int.dvd_sub (Int.dvd_mul_of_dvd_right (b := p) h1) h2
      rw [show p * (u p q (i + 1 + d) - u p q (i + 1)) - (p * u p q (i + 1 + d) - q * u p q (i + d) - (p * u p q (i + 1) - q * u p q i)) = q * (u p q (i + d) - u p q i) by grind] at h3
      have k2 := Int.dvd_gcd_mul_iff_dvd_mul.mpr h3
      rw [Int.gcd_comm, g] at k2
      simpa using k2
  obtain ⟨i, j, hij, hj, e⟩ := pigeon (m * m) (fun i => (u p q i % m).toNat * m + (u p q (i + 1) % m).toNat) (fun i _ => by
    have a := Int.emod_lt_of_pos (u p q i) (show (0 : Int) < m by omega)
    have b := Int.emod_lt_of_pos (u p q (i + 1)) (show (0 : Int) < m by omega)
    have a0 := Int.emod_nonneg (u p q i) (show (m : Int) ≠ 0 by omega)
    have l : (u p q i % m).toNat + 1 ≤ m := by omega
    have := Nat.mul_le_mul_right m l
    rw [Nat.add_mul] at this
    show (u p q i % m).toNat * m + (u p q (i + 1) % m).toNat < m * m
    omega)
  replace e : (u p q i % m).toNat * m + (u p q (i + 1) % m).toNat = (u p q j % m).toNat * m + (u p q (j + 1) % m).toNat := e
  have a0 := Int.emod_nonneg (u p q i) (show (m : Int) ≠ 0 by omega)
  have b0 := Int.emod_nonneg (u p q j) (show (m : Int) ≠ 0 by omega)
  have a1 := Int.emod_nonneg (u p q (i + 1)) (show (m : Int) ≠ 0 by omega)
  have b1 := Int.emod_nonneg (u p q (j + 1)) (show (m : Int) ≠ 0 by omega)
  have a2 := Int.emod_lt_of_pos (u p q (i + 1)) (show (0 : Int) < m by omega)
  have b2 := Int.emod_lt_of_pos (u p q (j + 1)) (show (0 : Int) < m by omega)
  have d1 : (u p q (i + 1) % m).toNat = (u p q (j + 1) % m).toNat := by
    have := congrArg (· % m) e
    simp only [Nat.mul_add_mod_self_right, Nat.mul_comm _ m, Nat.mul_add_mod] at this
    rwa [Nat.mod_eq_of_lt (by omega), Nat.mod_eq_of_lt (by omega)] at this
  have d2 : (u p q i % m).toNat = (u p q j % m).toNat := by
    rw [d1] at e
    exact Nat.eq_of_mul_eq_mul_right m0 (by omega)
  have f1 : (m : Int) ∣ u p q (i + (j - i)) - u p q i := by
    rw [show i + (j - i) = j by omega]
    exact Int.dvd_of_emod_eq_zero (Int.emod_eq_emod_iff_emod_sub_eq_zero.mp (by omega))
  have f2 : (m : Int) ∣ u p q (i + 1 + (j - i)) - u p q (i + 1) := by
    rw [show i + 1 + (j - i) = j + 1 by omega]
    exact Int.dvd_of_emod_eq_zero (Int.emod_eq_emod_iff_emod_sub_eq_zero.mp (by omega))
  obtain ⟨r, hr, hl, hs⟩ := least_of (fun r => 0 < r ∧ (m : Int) ∣ u p q r) (j - i) ⟨by omega, key i (j - i) f1 f2⟩
  exact ⟨r, ⟨hr.1, hr.2, fun s s0 sr hd => hs s sr ⟨s0, hd⟩⟩, by omega⟩
/-- the common divisors of two members -/
theorem gcd_q (g : Int.gcd p q = 1) : ∀ n, Int.gcd (u p q (n + 1)) q = 1
  | 0 => by show Int.gcd 1 q = 1; exact Int.one_gcd
  | n + 1 => by
    rw [uS, Int.gcd_sub_mul_left_left]
    show Nat.gcd (p * u p q (n + 1)).natAbs q.natAbs = 1
    rw [Int.natAbs_mul]
    exact Nat.Coprime.mul_left g (gcd_q g n)
theorem gcd_next (g : Int.gcd p q = 1) : ∀ n, Int.gcd (u p q (n + 1)) (u p q n) = 1
  | 0 => by show Int.gcd 1 0 = 1; decide
  | n + 1 => by
    have h := gcd_next g n
    have h2 := gcd_q g n
    rw [uS]
    have e : Int.gcd (p * u p q (n + 1) - q * u p q n) (u p q (n + 1)) = Int.gcd (q * u p q n) (u p q (n + 1)) := by
      rw [show p * u p q (n + 1) - q * u p q n = -(q * u p q n) + u p q (n + 1) * p by grind, Int.gcd_add_mul_left_left, Int.neg_gcd]
    rw [e]
    show Nat.gcd (q * u p q n).natAbs _ = 1
    rw [Int.natAbs_mul]
    exact Nat.Coprime.mul_left (by rw [Int.gcd_comm] at h2; exact h2) (by rw [Int.gcd_comm] at h; exact h)
theorem gcd_step (g : Int.gcd p q = 1) (b k : Nat) : Int.gcd (u p q (b + k)) (u p q k) = Int.gcd (u p q b) (u p q k) := by
  cases b with
  | zero =>
    rw [Nat.zero_add]
    show _ = Int.gcd 0 _
    simp
  | succ b =>
    rw [u_add', show u p q (b + 1) * u p q (k + 1) - q * u p q b * u p q k = u p q (b + 1) * u p q (k + 1) - u p q k * (q * u p q b) by grind, Int.gcd_sub_mul_left_left]
    show Nat.gcd (u p q (b + 1) * u p q (k + 1)).natAbs (u p q k).natAbs = Nat.gcd _ _
    rw [Int.natAbs_mul]
    exact Nat.Coprime.gcd_mul_right_cancel _ (gcd_next g k)
theorem gcd_u (g : Int.gcd p q = 1) (j k : Nat) : Int.gcd (u p q j) (u p q k) = (u p q (Nat.gcd j k)).natAbs := by
  have go : ∀ (k t b : Nat), Int.gcd (u p q (b + k * t)) (u p q k) = Int.gcd (u p q b) (u p q k) := by
    intro k t
    induction t with
    | zero => intro b; rw [Nat.mul_zero, Nat.add_zero]
    | succ t ih =>
      intro b
      rw [Nat.mul_succ, ← Nat.add_assoc, gcd_step g, ih]
  induction j, k using Nat.gcd.induction with
  | H0 k =>
    rw [Nat.gcd_zero_left]
    show Int.gcd 0 _ = _
    simp
  | H1 j k h ih =>
    rw [Nat.gcd_rec, ← ih, Int.gcd_comm]
    have e : k = k % j + j * (k / j) := by have := Nat.mod_add_div k j; omega
    have := go j (k / j) (k % j)
    rw [← e] at this
    exact this
/-- the table's powers -/
theorem mat_add (a : Nat) : ∀ b : Nat,
    u p q (a + 1) * u p q (b + 1) + w p q (a + 1) * u p q b = u p q (a + b + 1) ∧ u p q (a + 1) * w p q (b + 1) + w p q (a + 1) * w p q b = w p q (a + b + 1) ∧
    u p q a * u p q (b + 1) + w p q a * u p q b = u p q (a + b) ∧ u p q a * w p q (b + 1) + w p q a * w p q b = w p q (a + b)
  | 0 => by
    refine ⟨?_, ?_, ?_, ?_⟩
    · show u p q (a + 1) * 1 + w p q (a + 1) * 0 = u p q (a + 1); grind
    · show u p q (a + 1) * (-q * 0) + w p q (a + 1) * 1 = w p q (a + 1); grind
    · show u p q a * 1 + w p q a * 0 = u p q a; grind
    · show u p q a * (-q * 0) + w p q a * 1 = w p q a; grind
  | b + 1 => by
    obtain ⟨h1, h2, h3, h4⟩ := mat_add a b
    have e5 := uw p q (a + b + 1)
    have e6 := uw p q (a + b)
    have e7 := uw p q (b + 1)
    have e8 := uw p q b
    have f1 : w p q (b + 1 + 1) = -q * u p q (b + 1) := rfl
    have f2 : w p q (b + 1) = -q * u p q b := rfl
    have f3 : w p q (a + (b + 1) + 1) = -q * u p q (a + b + 1) := rfl
    have f4 : w p q (a + (b + 1)) = -q * u p q (a + b) := rfl
    have g1 : u p q (a + (b + 1) + 1) = u p q (a + b + 1 + 1) := rfl
    have g2 : u p q (a + (b + 1)) = u p q (a + b + 1) := rfl
    have key : ∀ A B x y z W pp : Int, x = pp * y + z → A * (pp * x + W) + B * x = pp * (A * x + B * y) + (A * W + B * z) := by
      intro A B x y z W pp h
      subst h
      grind
    have key2 : ∀ A B x y qq : Int, A * (-qq * x) + B * (-qq * y) = -qq * (A * x + B * y) := by
      intro A B x y qq
      grind
    refine ⟨?_, ?_, ?_, ?_⟩
    · rw [g1, e5, e7, ← h1, ← h2]; exact key _ _ _ _ _ _ _ e8
    · rw [f3, f1, f2, ← h1]; exact key2 _ _ _ _ _
    · rw [g2, e6, e7, ← h3, ← h4]; exact key _ _ _ _ _ _ _ e8
    · rw [f4, f1, f2, ← h3]; exact key2 _ _ _ _ _
end
end M78

set_option Elab.async false
set_option linter.all false
set_option maxRecDepth 100000
set_option maxHeartbeats 4000000
namespace My
open PySem PySem.Spec PyProof.Rows L2 Ab
def topS (i : Nat) : Stmt := PySem.Challenge.pw_numberwright_k78_whole_ranks_put_togethe.main.body.getD i (.Pass ⟨0, 0, 0, 0⟩)
local macro_rules | `(tactic| walk_at "rfl1") => `(tactic| first | rfl | exact rfl)
local macro_rules | `(tactic| walk_at "ab") => `(tactic| first
  | with_reducible refine toD_d ?_
  | ((with_reducible refine' de_var ?hv ?_); (case' hv => exact rfl))
  | with_reducible refine de_ci ?_
  | with_reducible refine de_I0 ?_
  | with_reducible refine de_IC ?_
  | with_reducible refine de_B0 ?_
  | with_reducible refine da_cons ?_
  | with_reducible refine da_nil ?_
  | with_reducible refine dt_test ?_
  | with_reducible refine de_call ?_
  | with_reducible refine de_ix ?_
  | with_reducible refine de_tup ?_
  | with_reducible refine de_eq (dd_of ?_)
  | with_reducible refine de_ne (dd_of ?_)
  | with_reducible refine (dd_of ?_)
  | with_reducible refine de_U ?_
  | with_reducible refine de_gcd ?_
  | with_reducible refine de_int ?_
  | with_reducible refine de_abs ?_
  | with_reducible refine de_len ?_
  | with_reducible refine de_min2 ?_
  | with_reducible refine de_max2 ?_
  | with_reducible refine de_sum ?_
  | with_reducible refine de_cb ?_
  | with_reducible refine de_cn ?_
  | with_reducible refine de_cs ?_
  | with_reducible refine de_isN (dd_of ?_)
  | with_reducible refine de_notN (dd_of ?_)
  | with_reducible refine de_inI ?_
  | with_reducible refine de_notV ?_
  | with_reducible refine de_tupOf ?_
  | with_reducible refine dt_B ?_
  | with_reducible refine dt_not ?_
  | with_reducible refine dt_yes ?_
  | with_reducible refine dn_list ?_
  | with_reducible refine dn_lst ?_
  | with_reducible refine ds_ret ?_
  | with_reducible refine ds_retN ?_
  | with_reducible refine ds_if ?_
  | with_reducible refine ds_next ?_
  | with_reducible refine ds_par ?_
  | ((with_reducible refine' ds_aug ?hv ?_); (case' hv => exact rfl))
  | ((with_reducible refine' ds_augC ?hv ?_); (case' hv => exact rfl))
  | with_reducible refine dg_name ?_
  | ((with_reducible refine' dg_tup ?hv ?_); (case' hv => exact rfl))
  | with_reducible refine dgs_cons ?_
  | with_reducible refine dgs_nil ?_
  | ((with_reducible refine' ds_setP ?hv ?_); (case' hv => exact ⟨_, rfl⟩))
  | ((with_reducible refine' ds_setO ?hv ?_); (case' hv => exact ⟨_, rfl⟩))
  | ((with_reducible refine' ds_app ?_ ?hv); (case' hv => exact ⟨_, rfl⟩))
  | with_reducible refine ds_own (dn_lst ?_)
  | with_reducible refine ds_own (dn_list ?_)
  | with_reducible refine ds_own (dn_sl ?_)
  | with_reducible refine ds_asg ?_
  | with_reducible refine ds_drop ?_
  | ((with_reducible refine' de_callP ?hv ?_); (case' hv => exact rfl))
  | with_reducible refine dn_sl ?_
  | with_reducible refine de_slT ?_
  | with_reducible refine do_none ?_
  | with_reducible refine do_some ?_
  | with_reducible refine de_ofN (dn_sl ?_)
  | with_reducible refine de_ofN (dn_list ?_)
  | with_reducible refine de_ofN (dn_lst ?_)
  | with_reducible refine iteF ?_
  | with_reducible refine iteT ?_
  | with_reducible refine ite_nt ?_
  | with_reducible refine ite_nf ?_
  | with_reducible refine Exists.intro _ (And.intro rfl ?_)
  | with_reducible refine Exists.intro _ (Exists.intro _ (And.intro rfl ?_))
  | with_reducible refine Exists.intro _ (And.intro seqIn.mkT ?_)
  | with_reducible refine Exists.intro _ (And.intro seqIn.mkL ?_)
  | with_reducible refine Exists.intro _ (And.intro lstIn.mkL ?_)
  | ((with_reducible refine' Exists.intro _ (And.intro (seqIn.mkP ?hv) ?_)); (case' hv => exact rfl))
  | ((with_reducible refine' Exists.intro _ (And.intro (seqIn.mkO ?hv) ?_)); (case' hv => exact rfl))
  | ((with_reducible refine' Exists.intro _ (And.intro (lstIn.mkO ?hv) ?_)); (case' hv => exact rfl))
  | ((with_reducible refine' de_own ?hv ?hm ?_); (case' hv => exact rfl); (case' hm => exact rfl))
  | ((with_reducible refine' toD_o ?hv ?_); (case' hv => exact rfl)))
local macro_rules | `(tactic| walk_at "bd") => `(tactic| repeat' first
  | assumption
  | exact Bd.lit (by decide)
  | apply Bd.mul
  | apply Bd.add
  | apply Bd.sub
  | apply Bd.neg)
local macro_rules | `(tactic| walk_at "sd") => `(tactic| first
  | assumption
  | exact cmulR ⟨by decide, by decide⟩
  | exact cmulL ⟨by decide, by decide⟩
  | exact len_ok rfl
  | exact len_lt rfl
  | exact shaped_int _
  | omega
  | exact cdivW (by first | decide | omega) (Bd.lit (by decide)) (by decide)
  | ((refine' cmulW ?ha ?hb ?hc); (case' ha => walk_at "bd"); (case' hb => walk_at "bd"); (case' hc => first | decide | omega))
  | (show (0 : Int) < _; first | decide | omega | assumption)
  | rfl)
local macro_rules | `(tactic| walk_at "st") => `(tactic| first
  | walk_at "ab"
  | ((with_reducible refine' And.intro ?hs ?_); (case hs => walk_at "sd"))
  | exact len_ok rfl)
local macro_rules | `(tactic| walk_at "br") => `(tactic| first
  | with_reducible refine de_if ?_
  | with_reducible refine dt_and ?_
  | with_reducible refine dt_or ?_
  | with_reducible refine de_andV ?_
  | with_reducible refine de_orV ?_)
local macro_rules | `(tactic| walk_at "go") => `(tactic| repeat first | walk_at "st" | with_reducible refine ds_seq ?_ | walk_at "br")
local macro_rules | `(tactic| walk_at "gp") => `(tactic| repeat first | walk_at "st" | with_reducible refine ds_seq ?_)
local macro_rules | `(tactic| walk_at "ge") => `(tactic| repeat first | walk_at "st" | walk_at "br")
abbrev s_law_pool : Stmt := topS 10
theorem sc_law_pool : FnScope ["script", "salt", "cell"] ["script"] (defScope s_law_pool) := ⟨rfl, rfl, rfl, by decide +kernel, rfl, by decide +kernel, by decide +kernel⟩
abbrev s_law_spread : Stmt := topS 11
theorem sc_law_spread : FnScope ["cell", "blended", "whole_sum", "k"] ["cell"] (defScope s_law_spread) := ⟨rfl, rfl, rfl, by decide +kernel, rfl, by decide +kernel, by decide +kernel⟩
abbrev s_law_draw : Stmt := topS 12
theorem sc_law_draw : FnScope ["pool", "many", "cell", "blended", "value"] ["pool", "many"] (defScope s_law_draw) := ⟨rfl, rfl, rfl, by decide +kernel, rfl, by decide +kernel, by decide +kernel⟩

def φ_law_spread (ds : List PyData) (k : PyData → Prop) : Prop := ∃ c : Int, ds = [.int c] ∧ ∀ r : Int, k (.int r)
theorem φ_law_spread_len (ds k) (h : φ_law_spread ds k) : ds.length = 1 := by obtain ⟨c, rfl, _⟩ := h; rfl
section
local macro_rules | `(tactic| walk_at "ab") => `(tactic| with_reducible refine ds_retF ?_)
variable {P : Program} {w : World} {K : PySem.W.Frag} {mg : Str → Option Value} {base : Heap}
theorem ok_law_pool {f : Addr} {fd : FuncData} (F : Fun K "_law_pool" "_law_pool" s_law_pool f fd) (z_list : mg "list" = none) (z_int : mg "int" = none) : FnOk P w K mg base CX0 1 f fd ["script"] (spPool K) := by
  refine mkPool (k := 0) F sc_law_pool rfl (fun cdv A outer s H E hr => ?_)
  refine ⟨_, (pss_cons (ps_set (i := 1) sc_law_pool.nd rfl (.inl rfl) pe_int)
      (pss_cons (ps_for PassesOwn.never rfl (pi_list (pe_slice sl_list (pv 0) po_none (po_some pe_int))) (pg_name (i := 2) sc_law_pool.nd rfl (.inl rfl)) (pss_one (ps_set (i := 1) sc_law_pool.nd rfl (.inl rfl) (pe_op op_mod (pe_callTy cr_int (by rfl) z_int (by decide +kernel) (pa_cons (pe_op op_add (pe_op op_mul (pv 1) pe_int) (pv 2)) pa_nil)) pe_int))))
      (pss_one (ps_ret (pe_lst (pa_cons (pe_callTy cr_list (by rfl) z_list (by decide +kernel) (pa_cons (pv 0) pa_nil)) (pa_cons pe_int (pa_cons pe_int (pa_cons pe_int (pa_cons (pv 1) pa_nil)))))))))), fun ns hns => ?_⟩
  show Ds K none _ [Sl.dat _, Sl.no, Sl.no] _
  try dsimp only [L2.cxOf, L2.Cx.nox, L2.Cx.wish]
  walk_at "go"
  refine ds_forL (fun xs j δ' => ∃ (a : Int) (s2 : Sl), δ' = [.dat (.list (ns.map PyData.int)), .dat (.int a), s2]) ?_
  walk_at "go"
  obtain ⟨ms, e, _⟩ := cut_ints ns none (some 63)
  rw [e]
  refine ⟨⟨7, _, rfl⟩, fun j δ' hj hp => ?_, fun δ' hp => ?_⟩
  · show Dg K none (gName 2) ((ms.map PyData.int).getD j .none) _ _
    rw [getD_ints hj]
    obtain ⟨a, s2, rfl⟩ := hp
    walk_at "go"
    exact ⟨_, _, rfl⟩
  · obtain ⟨a, s2, rfl⟩ := hp
    walk_at "go"
    exact ⟨_, rfl⟩
end
section
variable {P : Program} {w : World} {K : PySem.W.Frag} {mg : Str → Option Value} {base : Heap}
theorem ok_law_spread {f : Addr} {fd : FuncData} (F : Fun K "_law_spread" "_law_spread" s_law_spread f fd) (z_range : mg "range" = none) (z_int : mg "int" = none) : FnOk P w K mg base CX0 1 f fd ["cell"] (spP K φ_law_spread) := by
  refine mkFn (k := 0) F sc_law_spread φ_law_spread_len (fun cdv A outer s H E hr => ?_)
  refine ⟨_, (pss_cons (ps_set (i := 1) sc_law_spread.nd rfl (.inl rfl) (pe_op op_mod (pe_callTy cr_int (by rfl) z_int (by decide +kernel) (pa_cons (pv 0) pa_nil)) pe_int))
      (pss_cons (ps_set (i := 2) sc_law_spread.nd rfl (.inl rfl) pe_int)
      (pss_cons (ps_for PassesOwn.never rfl (pi_range1 (by rfl) z_range (pa_cons pe_int pa_nil)) (pg_name (i := 3) sc_law_spread.nd rfl (.inl rfl)) (pss_cons (ps_set (i := 1) sc_law_spread.nd rfl (.inl rfl) (pe_op op_mod (pe_callTy cr_int (by rfl) z_int (by decide +kernel) (pa_cons (pe_op op_add (pe_op op_add (pe_op op_mul (pv 1) pe_int) pe_int) (pv 3)) pa_nil)) pe_int))
      (pss_one (ps_set (i := 2) sc_law_spread.nd rfl (.inl rfl) (pe_op op_add (pe_op op_mul (pv 2) pe_int) (pv 1))))))
      (pss_one (ps_ret (pv 2)))))), fun ds kk h => ?_⟩
  obtain ⟨c, rfl, hk⟩ := h
  show Ds K none _ [Sl.dat _, Sl.no, Sl.no, Sl.no] _
  try dsimp only [L2.cxOf, L2.Cx.nox, L2.Cx.wish]
  walk_at "go"
  refine ds_forR1 (fun n j δ' => ∃ (a b c : Int) (s3 : Sl), δ' = [.dat (.int a), .dat (.int b), .dat (.int c), s3]) ?_
  walk_at "go"
  refine ⟨⟨_, _, _, _, rfl⟩, fun j δ' hj hp => ?_, fun δ' hp => ?_⟩
  · obtain ⟨a, b, c, s3, rfl⟩ := hp
    walk_at "go"
    exact ⟨_, _, _, _, rfl⟩
  · obtain ⟨a, b, c, s3, rfl⟩ := hp
    walk_at "go"
    exact hk _
end
section
local macro_rules | `(tactic| walk_at "ab") => `(tactic| with_reducible refine ds_retS ?_)
variable {P : Program} {w : World} {K : PySem.W.Frag} {mg : Str → Option Value} {base : Heap}
theorem ok_law_draw {f : Addr} {fd : FuncData} (F : Fun K "_law_draw" "_law_draw" s_law_draw f fd) (C_law_spread : Cal P w K mg base "_law_spread" 1 ["cell"] (spP K φ_law_spread)) (z_int : mg "int" = none) (z_len : mg "len" = none) : FnOk P w K mg base CX0 2 f fd ["pool", "many"] (spPP K φ_law_draw) := by
  refine mkDraw (k := 1) F sc_law_draw rfl (fun cdv A outer s H E hr => ?_)
  refine ⟨_, (pss_cons (ps_if (PW.pt (pw_and (pt_cmpR op_le (pe_ix ix_sq (pv 0) pe_int (fun _ _ => rfl)) pe_int (nomark _)) (pw_and1 (pt_cmpR op_lt (pe_ix ix_sq (pv 0) pe_int (fun _ _ => rfl)) (pe_callB cr_len (by rfl) z_len PySem.boot_len (pa_cons (pe_ix ix_sq (pv 0) pe_int (fun _ _ => rfl)) pa_nil)) (nomark _))))) (pss_cons (ps_set (i := 2) sc_law_draw.nd rfl (.inl rfl) (pe_ix ix_sq (pe_ix ix_sq (pv 0) pe_int (fun _ _ => rfl)) (pe_ix ix_sq (pv 0) pe_int (fun _ _ => rfl)) (fun _ _ => rfl)))
      (pss_cons (ps_asg (pe_op op_add (pe_ix ix_sq (pv 0) pe_int (fun _ _ => rfl)) pe_int) (pg_sub (pv 0) pe_int set_list))
      (pss_cons (ps_asg (pv 2) (pg_sub (pv 0) pe_int set_list))
      (pss_one (ps_if (pt_cmpR op_lt (pv 2) pe_int (nomark _)) (pss_one (ps_asg (pe_cl C_law_spread hr (by decide) (by rfl) (pa_cons (pv 2) pa_nil)) (pg_sub (pv 0) pe_int set_list))) pss_nil))))) pss_nil)
      (pss_cons (ps_asg (pe_op op_add (pe_ix ix_sq (pv 0) pe_int (fun _ _ => rfl)) pe_int) (pg_sub (pv 0) pe_int set_list))
      (pss_cons (ps_if (pt_cmpR op_le (pe_ix ix_sq (pv 0) pe_int (fun _ _ => rfl)) pe_int (nomark _)) (pss_cons (ps_set (i := 3) sc_law_draw.nd rfl (.inl rfl) (pe_op op_mod (pe_callTy cr_int (by rfl) z_int (by decide +kernel) (pa_cons (pe_op op_add (pe_op op_add (pe_op op_mul (pe_ix ix_sq (pv 0) pe_int (fun _ _ => rfl)) pe_int) (pe_op op_mul (pe_ix ix_sq (pv 0) pe_int (fun _ _ => rfl)) pe_int)) pe_int) pa_nil)) pe_int))
      (pss_cons (ps_set (i := 3) sc_law_draw.nd rfl (.inl rfl) (pe_op op_mod (pe_callTy cr_int (by rfl) z_int (by decide +kernel) (pa_cons (pe_op op_add (pe_op op_mul (pv 3) pe_int) (pe_ix ix_sq (pv 0) pe_int (fun _ _ => rfl))) pa_nil)) pe_int))
      (pss_one (ps_ret (pe_op op_mod (pe_op op_fdivW (pv 3) pe_int) (pv 1)))))) pss_nil)
      (pss_cons (ps_set (i := 4) sc_law_draw.nd rfl (.inl rfl) (pe_op op_mod (pe_callTy cr_int (by rfl) z_int (by decide +kernel) (pa_cons (pe_ix ix_sq (pv 0) pe_int (fun _ _ => rfl)) pa_nil)) (pv 1)))
      (pss_cons (ps_asg (pe_op op_fdivW (pe_ix ix_sq (pv 0) pe_int (fun _ _ => rfl)) (pv 1)) (pg_sub (pv 0) pe_int set_list))
      (pss_one (ps_ret (pv 4)))))))), fun p ns i c kn salt m m0 m9 => ?_⟩
  show Ds K (some p) _ [Sl.pown _, Sl.dat _, Sl.no, Sl.no, Sl.no] _
  try dsimp only [L2.cxOf, L2.Cx.nox, L2.Cx.wish]
  refine ds_cut (fun δ' => ∃ (i : Nat) (c kn salt : Int) (s2 : Sl), δ' = [.pown [.list (ns.map PyData.int), .int i, .int c, .int kn, .int salt], .dat (.int m), s2, .no, .no]) ?_ ?_
  · walk_at "go"
    refine ite_dec (fun h1 => ?_) (fun h1 => ?_)
    · walk_at "go"
      rw [List.length_map]
      refine ite_dec (fun h2 => ?_) (fun h2 => ?_)
      · walk_at "go"
        refine ⟨_, at_ints (by omega), ?_⟩
        walk_at "go"
        refine ite_dec (fun h3 => ?_) (fun h3 => ?_)
        · walk_at "go"
          refine ⟨_, rfl, fun r => ?_⟩
          walk_at "go"
          exact ⟨i + 1, r, kn, salt, _, rfl⟩
        · walk_at "go"
          exact ⟨i + 1, _, kn, salt, _, rfl⟩
      · walk_at "go"
        exact ⟨i, c, kn, salt, _, rfl⟩
    · walk_at "go"
      exact ⟨i, c, kn, salt, _, rfl⟩
  · rintro δ' ⟨i, c, kn, salt, s2, rfl⟩
    walk_at "go"
    refine ite_dec (fun h1 => ?_) (fun h1 => ?_)
    · walk_at "go"
      exact ⟨⟨_, rfl, Int.emod_nonneg _ (by omega), Int.emod_lt_of_pos _ m0⟩, i, c, _, salt, rfl⟩
    · walk_at "go"
      refine ⟨wide_div m0 m9 (by decide) (by decide), ?_⟩
      walk_at "go"
      exact ⟨⟨_, rfl, Int.emod_nonneg _ (by omega), Int.emod_lt_of_pos _ m0⟩, i, _, _, salt, rfl⟩
end

theorem foldl_take {α : Type} (f : Int → α → Int) (z : Int) (ns : List α) (d : α) {j : Nat} (h : j < ns.length) : (ns.take (j + 1)).foldl f z = f ((ns.take j).foldl f z) (ns.getD j d) := by
  rw [List.take_add_one, List.getElem?_eq_getElem h, List.foldl_append, List.getD_eq_getElem?_getD, List.getElem?_eq_getElem h]
  rfl

def φ_law (ds : List PyData) (k : PyData → Prop) : Prop := ∃ ns : List Int, ds = [.list (ns.map PyData.int)] ∧ ns.length ≤ 63 ∧ k (.bool true)
theorem φ_law_len (ds k) (h : φ_law ds k) : ds.length = 1 := by obtain ⟨a, rfl, _⟩ := h; rfl
abbrev s_members_at : Stmt := topS 2
theorem sc_members_at : FnScope ["p", "q", "n", "u", "after", "v", "behind", "k"] ["p", "q", "n"] (defScope s_members_at) := ⟨rfl, rfl, rfl, by decide +kernel, rfl, by decide +kernel, by decide +kernel⟩
abbrev s_times : Stmt := topS 3
theorem sc_times : FnScope ["one", "two", "m", "a", "b", "c", "d", "e", "f", "g", "h"] ["one", "two", "m"] (defScope s_times) := ⟨rfl, rfl, rfl, by decide +kernel, rfl, by decide +kernel, by decide +kernel⟩
abbrev s_rests_at : Stmt := topS 4
theorem sc_rests_at : FnScope ["p", "q", "n", "m", "found", "table", "a", "b", "c", "d"] ["p", "q", "n", "m"] (defScope s_rests_at) := ⟨rfl, rfl, rfl, by decide +kernel, rfl, by decide +kernel, by decide +kernel⟩
abbrev s_rank : Stmt := topS 5
theorem sc_rank : FnScope ["p", "q", "m", "u", "after", "n"] ["p", "q", "m"] (defScope s_rank) := ⟨rfl, rfl, rfl, by decide +kernel, rfl, by decide +kernel, by decide +kernel⟩
abbrev s_common : Stmt := topS 7
theorem sc_common : FnScope ["row", "found", "one"] ["row"] (defScope s_common) := ⟨rfl, rfl, rfl, by decide +kernel, rfl, by decide +kernel, by decide +kernel⟩
abbrev s_multiple : Stmt := topS 8
theorem sc_multiple : FnScope ["row", "found", "one"] ["row"] (defScope s_multiple) := ⟨rfl, rfl, rfl, by decide +kernel, rfl, by decide +kernel, by decide +kernel⟩
abbrev s_law_int : Stmt := topS 13
theorem sc_law_int : FnScope ["pool", "most"] ["pool", "most"] (defScope s_law_int) := ⟨rfl, rfl, rfl, by decide +kernel, rfl, by decide +kernel, by decide +kernel⟩
abbrev s_law_abs : Stmt := topS 14
theorem sc_law_abs : FnScope ["a"] ["a"] (defScope s_law_abs) := ⟨rfl, rfl, rfl, by decide +kernel, rfl, by decide +kernel, by decide +kernel⟩
abbrev s_law : Stmt := topS 15
theorem sc_law : FnScope ["script", "pool", "p", "q", "m", "n", "one", "two", "k", "j", "left", "right"] ["script"] (defScope s_law) := ⟨rfl, rfl, rfl, by decide +kernel, rfl, by decide +kernel, by decide +kernel⟩

def gcdL (ns : List Int) : Int := ns.foldl gcdI 0
def φ_common (ds : List PyData) (k : PyData → Prop) : Prop := ∃ ns : List Int, ds = [.tuple (ns.map PyData.int)] ∧ k (.int (gcdL ns))
theorem φ_common_len (ds k) (h : φ_common ds k) : ds.length = 1 := by obtain ⟨a, rfl, _⟩ := h; rfl
section
variable {P : Program} {w : World} {K : PySem.W.Frag} {mg : Str → Option Value} {base : Heap}
theorem ok_common {f : Addr} {fd : FuncData} (F : Fun K "common" "common" s_common f fd) (m_gcd : mg "gcd" = some (.builtin "math.gcd")) : FnOk P w K mg base CX0 1 f fd ["row"] (spP K φ_common) := by
  refine mkFn (k := 0) F sc_common φ_common_len (fun cdv A outer s H E hr => ?_)
  refine ⟨_, (pss_cons (ps_set (i := 1) sc_common.nd rfl (.inl rfl) pe_int)
      (pss_cons (ps_for PassesOwn.never rfl (pi_tup (pv 0)) (pg_name (i := 2) sc_common.nd rfl (.inl rfl)) (pss_one (ps_set (i := 1) sc_common.nd rfl (.inl rfl) (pe_callBfun cr_gcd (by rfl) m_gcd (pa_cons (pv 1) (pa_cons (pv 2) pa_nil))))))
      (pss_one (ps_ret (pv 1))))), fun ds kk h => ?_⟩
  obtain ⟨ns, rfl, hk⟩ := h
  show Ds K none _ [Sl.dat _, Sl.no, Sl.no] _
  try dsimp only [L2.cxOf, L2.Cx.nox, L2.Cx.wish]
  walk_at "go"
  refine ds_forT (fun xs j δ' => ∃ (s2 : Sl), δ' = [.dat (.tuple (ns.map PyData.int)), .dat (.int ((ns.take j).foldl gcdI 0)), s2]) ?_
  walk_at "go"
  refine ⟨⟨_, rfl⟩, fun j δ' hj hp => ?_, fun δ' hp => ?_⟩
  · show Dg K none (gName 2) ((ns.map PyData.int).getD j .none) _ _
    rw [getD_ints hj]
    obtain ⟨s2, rfl⟩ := hp
    walk_at "go"
    refine ⟨.dat (.int (ns.getD j 0)), ?_⟩
    rw [foldl_take _ _ _ 0 (by simpa using hj)]
    rfl
  · obtain ⟨s2, rfl⟩ := hp
    walk_at "go"
    rw [List.length_map, List.take_length]
    exact hk
end

theorem gcdL2 (a b : Int) : gcdL [a, b] = (Int.gcd a b : Nat) := by
  unfold gcdL gcdI
  simp [Int.gcd]

def φ_law_int (ds : List PyData) (k : PyData → Prop) : Prop := ∃ m : Int, ds = [.int m] ∧ (0 < m ∧ m.natAbs < 2 ^ 199) ∧ ∀ r : Int, -m < r → r < m → k (.int r)
theorem φ_law_int_len (ds k) (h : φ_law_int ds k) : ds.length + 1 = 2 := by obtain ⟨a, rfl, _⟩ := h; rfl
section
local macro_rules | `(tactic| walk_at "ab") => `(tactic| with_reducible refine ds_retS ?_)
variable {P : Program} {w : World} {K : PySem.W.Frag} {mg : Str → Option Value} {base : Heap}
theorem ok_law_int {f : Addr} {fd : FuncData} (F : Fun K "_law_int" "_law_int" s_law_int f fd) (C_law_draw : Cal P w K mg base "_law_draw" 2 ["pool", "many"] (spPP K φ_law_draw)) : FnOk P w K mg base CX0 3 f fd ["pool", "most"] (spPP K φ_law_int) := by
  refine mkFnP (k := 2) F sc_law_int φ_law_int_len (fun cdv A outer s H E hr => ?_)
  refine ⟨_, (pss_one (ps_ret (pe_op op_mulW (pe_cl C_law_draw hr (by decide) (by rfl) (pa_cons (pv 0) (pa_cons (pv 1) pa_nil))) (pe_ifExp (pt_cmpR (op_eqD hr.units) (pe_cl C_law_draw hr (by decide) (by rfl) (pa_cons (pv 0) (pa_cons pe_int pa_nil))) pe_int (nomark _)) pe_int (pe_un un_neg pe_int))))), fun p ds kk h => ?_⟩
  obtain ⟨m, rfl, ⟨m0, m9⟩, hk⟩ := h
  show Ds K (some p) _ [Sl.pool, Sl.dat _] _
  try dsimp only [L2.cxOf, L2.Cx.nox, L2.Cx.wish]
  walk_at "go"
  refine ⟨_, rfl, m0, by omega, fun r r0 r1 => ?_⟩
  have br : Bd 200 r := by unfold Bd; omega
  walk_at "go"
  refine ⟨_, rfl, by decide, by decide, fun s s0 s1 => ?_⟩
  walk_at "go"
  refine ite_eqI (fun c => ?_) (fun c => ?_)
  · walk_at "go"
    exact ⟨hk _ (by omega) (by omega), rfl⟩
  · walk_at "go"
    exact ⟨hk _ (by omega) (by omega), rfl⟩
end

def φ_law_abs (ds : List PyData) (k : PyData → Prop) : Prop := ∃ a : Int, ds = [.int a] ∧ k (.int (a.natAbs : Nat))
theorem φ_law_abs_len (ds k) (h : φ_law_abs ds k) : ds.length = 1 := by obtain ⟨a, rfl, _⟩ := h; rfl
section
variable {P : Program} {w : World} {K : PySem.W.Frag} {mg : Str → Option Value} {base : Heap}
theorem ok_law_abs {f : Addr} {fd : FuncData} (F : Fun K "_law_abs" "_law_abs" s_law_abs f fd) : FnOk P w K mg base CX0 1 f fd ["a"] (spP K φ_law_abs) := by
  refine mkFn (k := 0) F sc_law_abs φ_law_abs_len (fun cdv A outer s H E hr => ?_)
  refine ⟨_, (pss_one (ps_ret (pe_ifExp (pt_cmpR op_ge (pv 0) pe_int (nomark _)) (pv 0) (pe_op op_sub pe_int (pv 0))))), fun ds kk h => ?_⟩
  obtain ⟨a, rfl, hk⟩ := h
  show Ds K none _ [Sl.dat _] _
  try dsimp only [L2.cxOf, L2.Cx.nox, L2.Cx.wish]
  walk_at "go"
  refine ite_dec (fun c => ?_) (fun c => ?_)
  · walk_at "go"
    rw [show ((a.natAbs : Nat) : Int) = a by omega] at hk
    exact hk
  · walk_at "go"
    rw [show ((a.natAbs : Nat) : Int) = 0 - a by omega] at hk
    exact hk
end

def φ_multiple (ds : List PyData) (k : PyData → Prop) : Prop := ∃ a b : Nat, ds = [.tuple [.int a, .int b]] ∧ (0 < a ∧ 0 < b ∧ a < 2 ^ 100 ∧ b < 2 ^ 100) ∧ k (.int (Nat.lcm a b : Nat))
theorem φ_multiple_len (ds k) (h : φ_multiple ds k) : ds.length = 1 := by obtain ⟨a, b, rfl, _⟩ := h; rfl
def mulV (a b : Nat) : Nat → Nat
  | 0 => 1
  | 1 => a
  | _ => Nat.lcm a b
section
variable {P : Program} {w : World} {K : PySem.W.Frag} {mg : Str → Option Value} {base : Heap}
theorem ok_multiple {f : Addr} {fd : FuncData} (F : Fun K "multiple" "multiple" s_multiple f fd) (m_gcd : mg "gcd" = some (.builtin "math.gcd")) (z_abs : mg "abs" = none) : FnOk P w K mg base CX0 1 f fd ["row"] (spP K φ_multiple) := by
  refine mkFn (k := 0) F sc_multiple φ_multiple_len (fun cdv A outer s H E hr => ?_)
  refine ⟨_, (pss_cons (ps_set (i := 1) sc_multiple.nd rfl (.inl rfl) pe_int)
      (pss_cons (ps_for PassesOwn.never rfl (pi_tup (pv 0)) (pg_name (i := 2) sc_multiple.nd rfl (.inl rfl)) (pss_cons (ps_if (pt_cmpR (op_eqD hr.units) (pv 2) pe_int (nomark _)) (pss_one (ps_ret pe_int)) pss_nil)
      (pss_one (ps_set (i := 1) sc_multiple.nd rfl (.inl rfl) (pe_op op_mulW (pe_op op_fdivW (pv 1) (pe_callBfun cr_gcd (by rfl) m_gcd (pa_cons (pv 1) (pa_cons (pv 2) pa_nil)))) (pe_callB cr_abs (by rfl) z_abs (by decide +kernel) (pa_cons (pv 2) pa_nil)))))))
      (pss_one (ps_ret (pv 1))))), fun ds kk h => ?_⟩
  obtain ⟨a, b, rfl, ⟨a0, b0, a9, b9⟩, hk⟩ := h
  show Ds K none _ [Sl.dat _, Sl.no, Sl.no] _
  try dsimp only [L2.cxOf, L2.Cx.nox, L2.Cx.wish]
  walk_at "go"
  refine ds_forT (fun xs j δ' => ∃ (s2 : Sl), δ' = [.dat (.tuple [.int a, .int b]), .dat (.int (mulV a b j : Nat)), s2]) ?_
  walk_at "go"
  have step : ∀ (j : Nat) (f c : Nat), 0 < f → 0 < c → c < 2 ^ 100 → f < 2 ^ 100 → mulV a b j = f → mulV a b (j + 1) = f / Nat.gcd f c * c → ∀ P : Po, (∀ s2 : Sl, P.nx [.dat (.tuple [.int a, .int b]), .dat (.int (mulV a b (j + 1) : Nat)), s2]) → Ds K none (tSeq (tIfS (tTest (tOp (rEqD K) (tVar 2) (tC (V.int 0)))) (tRet (tC (V.int 0))) tNext) (tAsg (tOp (rI CMulW fun i j => V.int (i * j)) (tOp (rI CDivW fun i j => V.int (i / j)) (tVar 1) (tCB rGcd (tCons (tVar 1) (tCons (tVar 2) tNil)))) (tCB rAbs (tCons (tVar 2) tNil))) (gName 1)))
      [.dat (.tuple [.int a, .int b]), .dat (.int f), .dat (.int c)] P := by
    intro j f c f0 c0 c9 f9 e1 e2 P hP
    have g0 : 0 < gcdI f c := gcdI_pos (.inl (by omega))
    have g9 : gcdI (f : Int) c ≤ (c : Int).natAbs := gcdI_le_right (by omega)
    have dv : CDivW (f : Int) (gcdI f c) := cdivW (n := 100) g0 (by unfold Bd; omega) (by decide)
    have b1 : Bd 101 ((f : Int) / gcdI f c) := (Bd.nat f9).ediv _
    have b2 : Bd 100 (((c : Int).natAbs : Nat) : Int) := Bd.nat (by omega)
    walk_at "go"
    refine ite_eqI (fun w => absurd w (by omega)) (fun _ => ?_)
    walk_at "go"
    have h := hP (.dat (.int c))
    rw [e2, Int.natCast_mul, Int.natCast_ediv] at h
    have e3 : (((c : Int).natAbs : Nat) : Int) = c := by omega
    rw [e3]
    exact h
  refine ⟨⟨_, rfl⟩, fun j δ' hj hp => ?_, fun δ' hp => ?_⟩
  · obtain ⟨s2, rfl⟩ := hp
    have hj2 : j < 2 := hj
    have : j = 0 ∨ j = 1 := by omega
    rcases this with rfl | rfl
    · refine dg_name ?_
      exact step 0 1 a (by decide) a0 a9 (by decide) rfl (by show a = _; simp) _ fun s2 => ⟨s2, rfl⟩
    · refine dg_name ?_
      refine step 1 a b a0 b0 b9 a9 rfl ?_ _ fun s2 => ⟨s2, rfl⟩
      exact (Nat.div_mul_right_comm (Nat.gcd_dvd_left a b) b).symm
  · obtain ⟨s2, rfl⟩ := hp
    walk_at "go"
    exact hk
end

open M78
theorem u_bd {p q : Int} (hp : Bd 10 p) (hq : Bd 10 q) : ∀ n : Nat, Bd (12 * n + 2) (u p q n) ∧ Bd (12 * (n + 1) + 2) (u p q (n + 1))
  | 0 => ⟨by show Bd _ 0; decide, by show Bd _ 1; decide⟩
  | n + 1 => by
    obtain ⟨h1, h2⟩ := u_bd hp hq n
    refine ⟨h2, ?_⟩
    rw [uS]
    have a := (hp.mul h2).mono (show 10 + (12 * (n + 1) + 2) ≤ 12 * n + 24 by omega)
    have b := (hq.mul h1).mono (show 10 + (12 * n + 2) ≤ 12 * n + 24 by omega)
    exact (a.sub' b).mono (by omega)
theorem v_bd {p q : Int} (hp : Bd 10 p) (hq : Bd 10 q) : ∀ n : Nat, Bd (12 * n + 2) (v p q n) ∧ Bd (12 * (n + 1) + 2) (v p q (n + 1))
  | 0 => ⟨by show Bd _ 2; decide, by show Bd _ p; exact hp.mono (by decide)⟩
  | n + 1 => by
    obtain ⟨h1, h2⟩ := v_bd hp hq n
    refine ⟨h2, ?_⟩
    show Bd _ (p * v p q (n + 1) - q * v p q n)
    have a := (hp.mul h2).mono (show 10 + (12 * (n + 1) + 2) ≤ 12 * n + 24 by omega)
    have b := (hq.mul h1).mono (show 10 + (12 * n + 2) ≤ 12 * n + 24 by omega)
    exact (a.sub' b).mono (by omega)
def φ_members_at (ds : List PyData) (k : PyData → Prop) : Prop := ∃ (p q : Int) (n : Nat), ds = [.int p, .int q, .int n] ∧ (Bd 10 p ∧ Bd 10 q ∧ n ≤ 1000) ∧ k (.tuple [.int (u p q n), .int (v p q n)])
theorem φ_members_at_len (ds k) (h : φ_members_at ds k) : ds.length = 3 := by obtain ⟨a, b, c, rfl, _⟩ := h; rfl
def tab (l : List Int) : PyData := .tuple (l.map PyData.int)
def φ_times (ds : List PyData) (k : PyData → Prop) : Prop := ∃ (a b c d e f g h m : Int), ds = [.tuple [.int a, .int b, .int c, .int d], .tuple [.int e, .int f, .int g, .int h], .int m] ∧ (0 < m ∧ (Bd 40 a ∧ Bd 40 b ∧ Bd 40 c ∧ Bd 40 d) ∧ Bd 40 e ∧ Bd 40 f ∧ Bd 40 g ∧ Bd 40 h) ∧
  k (.tuple [.int ((a * e + b * g) % m), .int ((a * f + b * h) % m), .int ((c * e + d * g) % m), .int ((c * f + d * h) % m)])
theorem φ_times_len (ds k) (h : φ_times ds k) : ds.length = 3 := by obtain ⟨a, b, c, d, e, f, g, h, i, rfl, _⟩ := h; rfl
def φ_rests_at (ds : List PyData) (k : PyData → Prop) : Prop := ∃ (p q : Int) (n m : Nat), ds = [.int p, .int q, .int n, .int m] ∧ (Bd 10 p ∧ Bd 10 q ∧ 2 ≤ m ∧ m < 2 ^ 20) ∧ ∀ z : Int, k (.tuple [.int (u p q n % m), .int z])
theorem φ_rests_at_len (ds k) (h : φ_rests_at ds k) : ds.length = 4 := by obtain ⟨a, b, c, d, rfl, _⟩ := h; rfl
def φ_rank (ds : List PyData) (k : PyData → Prop) : Prop := ∃ (p q : Int) (m : Nat), ds = [.int p, .int q, .int m] ∧ (Bd 10 p ∧ Bd 10 q ∧ 2 ≤ m ∧ m < 2 ^ 20 ∧ Int.gcd q m = 1) ∧ ∀ r : Nat, IsRank p q m r → r < 2 ^ 40 → k (.int r)
theorem φ_rank_len (ds k) (h : φ_rank ds k) : ds.length = 3 := by obtain ⟨a, b, c, rfl, _⟩ := h; rfl
def Tb (p q : Int) (m : Nat) (i : Nat) : PyData := .tuple [.int (u p q (i + 1) % m), .int (w p q (i + 1) % m), .int (u p q i % m), .int (w p q i % m)]
theorem lin_emod (p q x y m : Int) : (p * (x % m) - q * (y % m)) % m = (p * x - q * y) % m := by
  rw [Int.emod_def x m, Int.emod_def y m]
  have : p * (x - m * (x / m)) - q * (y - m * (y / m)) = (p * x - q * y) - m * (p * (x / m) - q * (y / m)) := by grind
  rw [this, Int.sub_mul_emod_self_left]
theorem tb_mul (x y z t m : Int) : ((x % m) * (y % m) + (z % m) * (t % m)) % m = (x * y + z * t) % m := by
  rw [Int.add_emod, ← Int.mul_emod, ← Int.mul_emod, ← Int.add_emod]
theorem times_ok {p q : Int} {m : Nat} (m2 : 2 ≤ m) (m9 : m < 2 ^ 20) (i j : Nat) (k : PyData → Prop) (hk : k (Tb p q m (i + j))) : φ_times [Tb p q m i, Tb p q m j, .int m] k := by
  have m0 : (0 : Int) < m := by omega
  have bm : Bd 20 (m : Int) := Bd.nat m9
  have be : ∀ x : Int, Bd 40 (x % m) := fun x => (bm.emod m0).mono (by decide)
  refine ⟨_, _, _, _, _, _, _, _, _, rfl, ⟨m0, ⟨be _, be _, be _, be _⟩, be _, be _, be _, be _⟩, ?_⟩
  obtain ⟨h1, h2, h3, h4⟩ := mat_add (p := p) (q := q) i j
  rw [tb_mul, tb_mul, tb_mul, tb_mul, h1, h2, h3, h4]
  exact hk
section
variable {P : Program} {w : World} {K : PySem.W.Frag} {mg : Str → Option Value} {base : Heap}
theorem ok_members_at {f : Addr} {fd : FuncData} (F : Fun K "members_at" "members_at" s_members_at f fd) (z_range : mg "range" = none) : FnOk P w K mg base CX0 1 f fd ["p", "q", "n"] (spP K φ_members_at) := by
  refine mkFn (k := 0) F sc_members_at φ_members_at_len (fun cdv A outer s H E hr => ?_)
  refine ⟨_, (pss_cons (ps_asg (pe_tup (pa_cons pe_int (pa_cons pe_int (pa_cons pe_int (pa_cons (pv 0) pa_nil))))) (pg_tup rfl (pgs_cons (pg_name (i := 3) sc_members_at.nd rfl (.inl rfl)) (pgs_cons (pg_name (i := 4) sc_members_at.nd rfl (.inl rfl)) (pgs_cons (pg_name (i := 5) sc_members_at.nd rfl (.inl rfl)) (pgs_cons (pg_name (i := 6) sc_members_at.nd rfl (.inl rfl)) pgs_nil))))))
      (pss_cons (ps_for PassesOwn.never rfl (pi_range1 (by rfl) z_range (pa_cons (pv 2) pa_nil)) (pg_name (i := 7) sc_members_at.nd rfl (.inl rfl)) (pss_cons (ps_par (i := 3) (j := 4) rfl sc_members_at.nd rfl rfl (by decide) rfl rfl (pa_cons (pv 4) (pa_cons (pe_op op_sub (pe_op op_mulW (pv 0) (pv 4)) (pe_op op_mulW (pv 1) (pv 3))) pa_nil)) rfl)
      (pss_one (ps_par (i := 5) (j := 6) rfl sc_members_at.nd rfl rfl (by decide) rfl rfl (pa_cons (pv 6) (pa_cons (pe_op op_sub (pe_op op_mulW (pv 0) (pv 6)) (pe_op op_mulW (pv 1) (pv 5))) pa_nil)) rfl))))
      (pss_one (ps_ret (pe_tup (pa_cons (pv 3) (pa_cons (pv 5) pa_nil))))))), fun ds kk h => ?_⟩
  obtain ⟨p, q, n, rfl, ⟨hp, hq, hn⟩, hk⟩ := h
  show Ds K none _ [Sl.dat _, Sl.dat _, Sl.dat _, Sl.no, Sl.no, Sl.no, Sl.no, Sl.no] _
  try dsimp only [L2.cxOf, L2.Cx.nox, L2.Cx.wish]
  walk_at "go"
  refine ds_forR1 (fun m i δ' => ∃ s3 : Sl, δ' = [.dat (.int p), .dat (.int q), .dat (.int n), .dat (.int (u p q i)), .dat (.int (u p q (i + 1))), .dat (.int (v p q i)), .dat (.int (v p q (i + 1))), s3]) ?_
  walk_at "go"
  refine ⟨⟨_, rfl⟩, fun i δ' hi hp' => ?_, fun δ' hp' => ?_⟩
  · obtain ⟨s3, rfl⟩ := hp'
    have b1 := (u_bd hp hq i).1.mono (show 12 * i + 2 ≤ 20000 by omega)
    have b2 := (u_bd hp hq i).2.mono (show 12 * (i + 1) + 2 ≤ 20000 by omega)
    have b3 := (v_bd hp hq i).1.mono (show 12 * i + 2 ≤ 20000 by omega)
    have b4 := (v_bd hp hq i).2.mono (show 12 * (i + 1) + 2 ≤ 20000 by omega)
    walk_at "go"
    exact ⟨.dat (.int i), rfl⟩
  · obtain ⟨s3, rfl⟩ := hp'
    walk_at "go"
    rw [Int.toNat_natCast]
    exact hk
end
section
variable {P : Program} {w : World} {K : PySem.W.Frag} {mg : Str → Option Value} {base : Heap}
theorem ok_times {f : Addr} {fd : FuncData} (F : Fun K "times" "times" s_times f fd) : FnOk P w K mg base CX0 1 f fd ["one", "two", "m"] (spP K φ_times) := by
  refine mkFn (k := 0) F sc_times φ_times_len (fun cdv A outer s H E hr => ?_)
  refine ⟨_, (pss_cons (ps_asg (pv 0) (pg_tup rfl (pgs_cons (pg_name (i := 3) sc_times.nd rfl (.inl rfl)) (pgs_cons (pg_name (i := 4) sc_times.nd rfl (.inl rfl)) (pgs_cons (pg_name (i := 5) sc_times.nd rfl (.inl rfl)) (pgs_cons (pg_name (i := 6) sc_times.nd rfl (.inl rfl)) pgs_nil))))))
      (pss_cons (ps_asg (pv 1) (pg_tup rfl (pgs_cons (pg_name (i := 7) sc_times.nd rfl (.inl rfl)) (pgs_cons (pg_name (i := 8) sc_times.nd rfl (.inl rfl)) (pgs_cons (pg_name (i := 9) sc_times.nd rfl (.inl rfl)) (pgs_cons (pg_name (i := 10) sc_times.nd rfl (.inl rfl)) pgs_nil))))))
      (pss_one (ps_ret (pe_tup (pa_cons (pe_op op_mod (pe_op op_add (pe_op op_mulW (pv 3) (pv 7)) (pe_op op_mulW (pv 4) (pv 9))) (pv 2)) (pa_cons (pe_op op_mod (pe_op op_add (pe_op op_mulW (pv 3) (pv 8)) (pe_op op_mulW (pv 4) (pv 10))) (pv 2)) (pa_cons (pe_op op_mod (pe_op op_add (pe_op op_mulW (pv 5) (pv 7)) (pe_op op_mulW (pv 6) (pv 9))) (pv 2)) (pa_cons (pe_op op_mod (pe_op op_add (pe_op op_mulW (pv 5) (pv 8)) (pe_op op_mulW (pv 6) (pv 10))) (pv 2)) pa_nil))))))))), fun ds kk h => ?_⟩
  obtain ⟨a, b, c, d, e, f, g, h, m, rfl, ⟨m0, ⟨h1, h2, h3, h4⟩, h5, h6, h7, h8⟩, hk⟩ := h
  show Ds K none _ [Sl.dat _, Sl.dat _, Sl.dat _, Sl.no, Sl.no, Sl.no, Sl.no, Sl.no, Sl.no, Sl.no, Sl.no] _
  try dsimp only [L2.cxOf, L2.Cx.nox, L2.Cx.wish]
  walk_at "go"
  exact hk
end
section
variable {P : Program} {w : World} {K : PySem.W.Frag} {mg : Str → Option Value} {base : Heap}
theorem ok_rank {f : Addr} {fd : FuncData} (F : Fun K "rank" "rank" s_rank f fd) : FnOk P w K mg base CX0 1 f fd ["p", "q", "m"] (spP K φ_rank) := by
  refine mkFn (k := 0) F sc_rank φ_rank_len (fun cdv A outer s H E hr => ?_)
  refine ⟨_, (pss_cons (ps_par (i := 3) (j := 4) rfl sc_rank.nd rfl rfl (by decide) rfl rfl (pa_cons (pe_op op_mod pe_int (pv 2)) (pa_cons (pe_op op_mod (pv 0) (pv 2)) pa_nil)) rfl)
      (pss_cons (ps_set (i := 5) sc_rank.nd rfl (.inl rfl) pe_int)
      (pss_cons (ps_while PassesOwn.never (pt_cmpR (op_neD hr.units) (pv 3) pe_int (nomark _)) (pss_cons (ps_par (i := 3) (j := 4) rfl sc_rank.nd rfl rfl (by decide) rfl rfl (pa_cons (pv 4) (pa_cons (pe_op op_mod (pe_op op_sub (pe_op op_mulW (pv 0) (pv 4)) (pe_op op_mulW (pv 1) (pv 3))) (pv 2)) pa_nil)) rfl)
      (pss_one (ps_aug (i := 5) sc_rank.nd rfl (.inl rfl) pe_int ip_add))))
      (pss_one (ps_ret (pv 5)))))), fun ds kk h => ?_⟩
  obtain ⟨p, q, m, rfl, ⟨hp, hq, m2, m9, g⟩, hk⟩ := h
  show Ds K none _ [Sl.dat _, Sl.dat _, Sl.dat _, Sl.no, Sl.no, Sl.no] _
  try dsimp only [L2.cxOf, L2.Cx.nox, L2.Cx.wish]
  have m0 : (0 : Int) < m := by omega
  have bm : Bd 20 (m : Int) := Bd.nat m9
  obtain ⟨r, R, hr⟩ := rank_ex (p := p) (show 0 < m by omega) g
  walk_at "go"
  refine ds_while (fun t δ' => ∃ i : Nat, δ' = [.dat (.int p), .dat (.int q), .dat (.int m), .dat (.int (u p q i % m)), .dat (.int (u p q (i + 1) % m)), .dat (.int i)] ∧ 0 < i ∧ i + t = r ∧ ∀ s, 0 < s → s < i → ¬ (m : Int) ∣ u p q s) ⟨r - 1, 1, ?_, by omega, by have := R.pos; omega, fun s _ _ => by omega⟩ (fun t δ' hw => ?_)
  · have e : u p q 2 = p := by show p * 1 - q * 0 = p; omega
    rw [e]; rfl
  obtain ⟨i, rfl, i0, it, hl⟩ := hw
  have b1 : Bd 20 (u p q i % m) := bm.emod m0
  have b2 : Bd 20 (u p q (i + 1) % m) := bm.emod m0
  walk_at "go"
  refine ite_neI (fun c => ?_) (fun c => ?_)
  · walk_at "go"
    have nd : ¬ (m : Int) ∣ u p q i := fun z => c (Int.emod_eq_zero_of_dvd z)
    have t0 : 0 < t := by
      rcases Nat.eq_zero_or_pos t with z | z
      · have : i = r := by omega
        exact absurd (this ▸ R.dvd) nd
      · exact z
    refine ⟨t - 1, by omega, i + 1, ?_, by omega, by omega, fun s s0 s1 => ?_⟩
    · have e : (p * (u p q (i + 1) % m) - q * (u p q i % m)) % m = u p q (i + 2) % m := by
        exact lin_emod p q _ _ _
      rw [e]; rfl
    · rcases Nat.lt_or_ge s i with z | z
      · exact hl s s0 z
      · have : s = i := by omega
        rw [this]; exact nd
  · walk_at "go"
    have d : (m : Int) ∣ u p q i := Int.dvd_of_emod_eq_zero c
    have : i ≤ r := by omega
    have hm : m * m < 2 ^ 40 := by
      have := Nat.mul_lt_mul'' m9 m9
      have e : (2 ^ 20 * 2 ^ 20 : Nat) = 2 ^ 40 := by decide
      omega
    exact hk i ⟨i0, d, hl⟩ (by omega)
end
section
variable {P : Program} {w : World} {K : PySem.W.Frag} {mg : Str → Option Value} {base : Heap}
theorem ok_rests_at {f : Addr} {fd : FuncData} (F : Fun K "rests_at" "rests_at" s_rests_at f fd) (C_times : Cal P w K mg base "times" 1 ["one", "two", "m"] (spP K φ_times)) : FnOk P w K mg base CX0 2 f fd ["p", "q", "n", "m"] (spP K φ_rests_at) := by
  refine mkFn (k := 1) F sc_rests_at φ_rests_at_len (fun cdv A outer s H E hr => ?_)
  refine ⟨_, (pss_cons (ps_set (i := 4) sc_rests_at.nd rfl (.inl rfl) (pe_tup (pa_cons pe_int (pa_cons pe_int (pa_cons pe_int (pa_cons pe_int pa_nil))))))
      (pss_cons (ps_set (i := 5) sc_rests_at.nd rfl (.inl rfl) (pe_tup (pa_cons (pe_op op_mod (pv 0) (pv 3)) (pa_cons (pe_op op_mod (pe_un un_neg (pv 1)) (pv 3)) (pa_cons pe_int (pa_cons pe_int pa_nil))))))
      (pss_cons (ps_while PassesOwn.never (pt_cmpR op_gt (pv 2) pe_int (nomark _)) (pss_cons (ps_if (pt_cmpR (op_eqD hr.units) (pe_op op_mod (pv 2) pe_int) pe_int (nomark _)) (pss_one (ps_set (i := 4) sc_rests_at.nd rfl (.inl rfl) (pe_cl C_times hr (by decide) (by rfl) (pa_cons (pv 4) (pa_cons (pv 5) (pa_cons (pv 3) pa_nil)))))) pss_nil)
      (pss_cons (ps_set (i := 5) sc_rests_at.nd rfl (.inl rfl) (pe_cl C_times hr (by decide) (by rfl) (pa_cons (pv 5) (pa_cons (pv 5) (pa_cons (pv 3) pa_nil)))))
      (pss_one (ps_aug (i := 2) sc_rests_at.nd rfl (.inl rfl) pe_int Ab.ip_fdiv)))))
      (pss_cons (ps_asg (pv 4) (pg_tup rfl (pgs_cons (pg_name (i := 6) sc_rests_at.nd rfl (.inl rfl)) (pgs_cons (pg_name (i := 7) sc_rests_at.nd rfl (.inl rfl)) (pgs_cons (pg_name (i := 8) sc_rests_at.nd rfl (.inl rfl)) (pgs_cons (pg_name (i := 9) sc_rests_at.nd rfl (.inl rfl)) pgs_nil))))))
      (pss_one (ps_ret (pe_tup (pa_cons (pe_op op_mod (pv 8) (pv 3)) (pa_cons (pe_op op_mod (pe_op op_add (pe_op op_mulW (pv 8) (pv 0)) (pe_op op_mul pe_int (pv 9))) (pv 3)) pa_nil))))))))), fun ds kk h => ?_⟩
  obtain ⟨p, q, N, m, rfl, ⟨hp, hq, m2, m9⟩, hk⟩ := h
  show Ds K none _ [Sl.dat _, Sl.dat _, Sl.dat _, Sl.dat _, Sl.no, Sl.no, Sl.no, Sl.no, Sl.no, Sl.no] _
  try dsimp only [L2.cxOf, L2.Cx.nox, L2.Cx.wish]
  have m0 : (0 : Int) < m := by omega
  have bm : Bd 20 (m : Int) := Bd.nat m9
  have be : ∀ x : Int, Bd 40 (x % m) := fun x => (bm.emod m0).mono (by decide)
  have e1 : (1 : Int) % m = 1 := Int.emod_eq_of_lt (by decide) (by omega)
  have e0 : (0 : Int) % m = 0 := Int.zero_emod _
  walk_at "go"
  refine ds_while (fun t δ' => ∃ i j : Nat, δ' = [.dat (.int p), .dat (.int q), .dat (.int t), .dat (.int m), .dat (Tb p q m i), .dat (Tb p q m j), .no, .no, .no, .no] ∧ i + j * t = N) ⟨N, 0, 1, ?_, by omega⟩ (fun t δ' hw => ?_)
  · have t0 : Tb p q m 0 = .tuple [.int 1, .int 0, .int 0, .int 1] := by
      show PyData.tuple [.int ((1 : Int) % m), .int ((-q * 0) % m), .int ((0 : Int) % m), .int ((1 : Int) % m)] = _
      rw [Int.mul_zero, e1, e0]
    have t1 : Tb p q m 1 = .tuple [.int (p % m), .int (-q % m), .int 1, .int 0] := by
      show PyData.tuple [.int ((p * 1 - q * 0) % m), .int ((-q * 1) % m), .int ((1 : Int) % m), .int ((-q * 0) % m)] = _
      rw [Int.mul_zero, Int.mul_zero, Int.mul_one, Int.mul_one, Int.sub_zero, e1, e0]
    rw [t0, t1]; rfl
  obtain ⟨i, j, rfl, inv⟩ := hw
  walk_at "go"
  refine ite_dec (fun c => ?_) (fun c => ?_)
  · refine ds_cut (fun δ' => ∃ i' : Nat, δ' = [.dat (.int p), .dat (.int q), .dat (.int t), .dat (.int m), .dat (Tb p q m i'), .dat (Tb p q m j), .no, .no, .no, .no] ∧ i' + j * (2 * (t / 2)) = N) ?_ ?_
    · walk_at "go"
      refine ite_eqI (fun c2 => ?_) (fun c2 => ?_)
      · walk_at "go"
        refine times_ok m2 m9 i j _ ?_
        walk_at "go"
        have : t = 2 * (t / 2) + 1 := by omega
        rw [this, Nat.mul_add] at inv
        omega
      · walk_at "go"
        have : t = 2 * (t / 2) := by omega
        rw [← this]; exact inv
    rintro δ' ⟨i', rfl, inv'⟩
    walk_at "go"
    refine times_ok m2 m9 j j _ ?_
    walk_at "go"
    refine ⟨t / 2, by omega, i', j + j, ?_, ?_⟩
    · rw [Int.natCast_ediv]; rfl
    · rw [← inv', ← Nat.two_mul, Nat.mul_comm 2 j, Nat.mul_assoc]
  · walk_at "go"
    have : t = 0 := by omega
    rw [this, Nat.mul_zero, Nat.add_zero] at inv
    rw [inv]
    have b3 := be (u p q N)
    have b4 := be (M78.w p q N)
    have e : Tb p q m N = .tuple [.int (u p q (N + 1) % m), .int (M78.w p q (N + 1) % m), .int (u p q N % m), .int (M78.w p q N % m)] := rfl
    rw [e]
    walk_at "go"
    rw [Int.emod_emod]
    exact hk _
end

theorem rank_eq {p q : Int} {m n a b c : Nat} (m2 : 2 ≤ m) (n2 : 2 ≤ n) (A : IsRank p q m a) (B : IsRank p q n b) (C : IsRank p q (Nat.lcm m n : Nat) c) (g1 : Int.gcd q m = 1) (g2 : Int.gcd q n = 1) : c = Nat.lcm a b := by
  refine rank_lcm A B C g1 g2 ?_
  exact lcm_cop g1 g2
theorem bool_same {P Q : Prop} [Decidable P] [Decidable Q] (h : P ↔ Q) : PyData.eqv (.bool (decide P)) (.bool (decide Q)) = true := by
  have : decide P = decide Q := by rw [decide_eq_decide]; exact h
  rw [this]
  show (decide Q == decide Q) = true
  cases decide Q <;> rfl
section
variable {P : Program} {w : World} {K : PySem.W.Frag} {mg : Str → Option Value} {base : Heap}
theorem ok_law {f : Addr} {fd : FuncData} (F : Fun K "law" "law" s_law f fd) (C_common : Cal P w K mg base "common" 1 ["row"] (spP K φ_common)) (C_law_abs : Cal P w K mg base "_law_abs" 1 ["a"] (spP K φ_law_abs)) (C_members_at : Cal P w K mg base "members_at" 1 ["p", "q", "n"] (spP K φ_members_at)) (C_law_draw : Cal P w K mg base "_law_draw" 2 ["pool", "many"] (spPP K φ_law_draw)) (C_rests_at : Cal P w K mg base "rests_at" 2 ["p", "q", "n", "m"] (spP K φ_rests_at)) (C_rank : Cal P w K mg base "rank" 1 ["p", "q", "m"] (spP K φ_rank)) (C_multiple : Cal P w K mg base "multiple" 1 ["row"] (spP K φ_multiple)) (C_law_int : Cal P w K mg base "_law_int" 3 ["pool", "most"] (spPP K φ_law_int)) (C_law_pool : Cal P w K mg base "_law_pool" 1 ["script"] (spPool K)) : FnOk P w K mg base CX0 4 f fd ["script"] (spP K φ_law) := by
  refine mkFn (k := 3) F sc_law φ_law_len (fun cdv A outer s H E hr => ?_)
  refine ⟨_, (pss_cons (ps_set (i := 1) sc_law.nd rfl (.inl rfl) (pe_cl C_law_pool hr (by decide) (by rfl) (pa_cons (pv 0) pa_nil)))
      (pss_cons (ps_par (i := 2) (j := 3) rfl sc_law.nd rfl rfl (by decide) rfl rfl (pa_cons (pe_cl C_law_int hr (by decide) (by rfl) (pa_cons (pv 1) (pa_cons pe_int pa_nil))) (pa_cons (pe_cl C_law_int hr (by decide) (by rfl) (pa_cons (pv 1) (pa_cons pe_int pa_nil))) pa_nil)) rfl)
      (pss_cons (ps_par (i := 4) (j := 5) rfl sc_law.nd rfl rfl (by decide) rfl rfl (pa_cons (pe_op op_add pe_int (pe_cl C_law_draw hr (by decide) (by rfl) (pa_cons (pv 1) (pa_cons pe_int pa_nil)))) (pa_cons (pe_op op_add pe_int (pe_cl C_law_draw hr (by decide) (by rfl) (pa_cons (pv 1) (pa_cons pe_int pa_nil)))) pa_nil)) rfl)
      (pss_cons (ps_if (PW.pt (pw_and (pt_cmpR (op_eqD hr.units) (pe_cl C_common hr (by decide) (by rfl) (pa_cons (pe_tup (pa_cons (pv 3) (pa_cons (pv 4) pa_nil))) pa_nil)) pe_int (nomark _)) (pw_and1 (pt_cmpR (op_eqD hr.units) (pe_cl C_common hr (by decide) (by rfl) (pa_cons (pe_tup (pa_cons (pv 3) (pa_cons (pv 5) pa_nil))) pa_nil)) pe_int (nomark _))))) (pss_cons (ps_par (i := 6) (j := 7) rfl sc_law.nd rfl rfl (by decide) rfl rfl (pa_cons (pe_cl C_rank hr (by decide) (by rfl) (pa_cons (pv 2) (pa_cons (pv 3) (pa_cons (pv 4) pa_nil)))) (pa_cons (pe_cl C_rank hr (by decide) (by rfl) (pa_cons (pv 2) (pa_cons (pv 3) (pa_cons (pv 5) pa_nil)))) pa_nil)) rfl)
      (pss_cons (ps_if (pt_cmpR (op_neD hr.units) (pe_cl C_rank hr (by decide) (by rfl) (pa_cons (pv 2) (pa_cons (pv 3) (pa_cons (pe_cl C_multiple hr (by decide) (by rfl) (pa_cons (pe_tup (pa_cons (pv 4) (pa_cons (pv 5) pa_nil))) pa_nil)) pa_nil)))) (pe_cl C_multiple hr (by decide) (by rfl) (pa_cons (pe_tup (pa_cons (pv 6) (pa_cons (pv 7) pa_nil))) pa_nil)) (nomark _)) (pss_one (ps_ret pe_bl)) pss_nil)
      (pss_one (ps_for PassesOwn.never rfl (pi_tup (pe_tup (pa_cons (pe_cl C_law_draw hr (by decide) (by rfl) (pa_cons (pv 1) (pa_cons pe_int pa_nil))) (pa_cons (pe_op op_mulW (pv 6) (pe_cl C_law_draw hr (by decide) (by rfl) (pa_cons (pv 1) (pa_cons (pe_op op_pow pe_int pe_int) pa_nil)))) (pa_cons (pe_op op_add (pe_op op_mulW (pv 6) (pe_cl C_law_draw hr (by decide) (by rfl) (pa_cons (pv 1) (pa_cons pe_int pa_nil)))) pe_int) pa_nil))))) (pg_name (i := 8) sc_law.nd rfl (.inl rfl)) (pss_one (ps_if (pt_cmpR (op_neD hr.units) (pe_cmpR (op_eqD hr.units) (pe_ix ix_sq (pe_cl C_rests_at hr (by decide) (by rfl) (pa_cons (pv 2) (pa_cons (pv 3) (pa_cons (pv 8) (pa_cons (pv 4) pa_nil))))) pe_int (fun _ _ => rfl)) pe_int (nomark _)) (pe_cmpR (op_eqD hr.units) (pe_op op_mod (pv 8) (pv 6)) pe_int (nomark _)) (nomark _)) (pss_one (ps_ret pe_bl)) pss_nil)))))) pss_nil)
      (pss_cons (ps_if (pt_cmpR (op_eqD hr.units) (pe_cl C_common hr (by decide) (by rfl) (pa_cons (pe_tup (pa_cons (pv 2) (pa_cons (pv 3) pa_nil))) pa_nil)) pe_int (nomark _)) (pss_cons (ps_par (i := 9) (j := 8) rfl sc_law.nd rfl rfl (by decide) rfl rfl (pa_cons (pe_cl C_law_draw hr (by decide) (by rfl) (pa_cons (pv 1) (pa_cons pe_int pa_nil))) (pa_cons (pe_cl C_law_draw hr (by decide) (by rfl) (pa_cons (pv 1) (pa_cons pe_int pa_nil))) pa_nil)) rfl)
      (pss_cons (ps_par (i := 10) (j := 11) rfl sc_law.nd rfl rfl (by decide) rfl rfl (pa_cons (pe_ix ix_sq (pe_cl C_members_at hr (by decide) (by rfl) (pa_cons (pv 2) (pa_cons (pv 3) (pa_cons (pv 9) pa_nil)))) pe_int (fun _ _ => rfl)) (pa_cons (pe_ix ix_sq (pe_cl C_members_at hr (by decide) (by rfl) (pa_cons (pv 2) (pa_cons (pv 3) (pa_cons (pv 8) pa_nil)))) pe_int (fun _ _ => rfl)) pa_nil)) rfl)
      (pss_one (ps_if (pt_cmpR (op_neD hr.units) (pe_cl C_common hr (by decide) (by rfl) (pa_cons (pe_tup (pa_cons (pv 10) (pa_cons (pv 11) pa_nil))) pa_nil)) (pe_cl C_law_abs hr (by decide) (by rfl) (pa_cons (pe_ix ix_sq (pe_cl C_members_at hr (by decide) (by rfl) (pa_cons (pv 2) (pa_cons (pv 3) (pa_cons (pe_cl C_common hr (by decide) (by rfl) (pa_cons (pe_tup (pa_cons (pv 9) (pa_cons (pv 8) pa_nil))) pa_nil)) pa_nil)))) pe_int (fun _ _ => rfl)) pa_nil)) (nomark _)) (pss_one (ps_ret pe_bl)) pss_nil)))) pss_nil)
      (pss_one (ps_ret pe_bl))))))), fun ds kk h => ?_⟩
  obtain ⟨ns, rfl, hn, hk⟩ := h
  show Ds K none _ [Sl.dat _, Sl.no, Sl.no, Sl.no, Sl.no, Sl.no, Sl.no, Sl.no, Sl.no, Sl.no, Sl.no, Sl.no] _
  try dsimp only [L2.cxOf, L2.Cx.nox, L2.Cx.wish]
  refine ds_pool rfl hn (fun p => ?_) (fun i s hi => by rcases i with _|_|_|_|_|_|_|_|_|_|_|_|i <;> simp at hi <;> subst hi <;> rfl)
  walk_at "go"
  refine ⟨_, rfl, ⟨by decide, by decide⟩, fun p0 p1 p2 => ?_⟩
  walk_at "go"
  refine ⟨_, rfl, ⟨by decide, by decide⟩, fun q0 q1 q2 => ?_⟩
  have bp : Bd 10 p0 := by unfold Bd; omega
  have bq : Bd 10 q0 := by unfold Bd; omega
  walk_at "go"
  refine ⟨_, rfl, by decide, by decide, fun r1 r10 r11 => ?_⟩
  obtain ⟨m, em⟩ : ∃ m : Nat, 2 + r1 = m := ⟨(2 + r1).toNat, by omega⟩
  walk_at "go"
  refine ⟨_, rfl, by decide, by decide, fun r2 r20 r21 => ?_⟩
  obtain ⟨n, en⟩ : ∃ m : Nat, 2 + r2 = m := ⟨(2 + r2).toNat, by omega⟩
  have m2 : 2 ≤ m := by omega
  have n2 : 2 ≤ n := by omega
  walk_at "ge"
  rw [em, en]
  refine ds_cut (fun δ' => ∃ s6 s7 s8 s9 s10 s11 : Sl, δ' = [.dat (.list (ns.map PyData.int)), .pool, .dat (.int p0), .dat (.int q0), .dat (.int m), .dat (.int n), s6, s7, s8, s9, s10, s11]) ?_ ?_
  · walk_at "go"
    refine ⟨[q0, (m : Int)], rfl, ?_⟩
    rw [gcdL2]
    walk_at "go"
    refine ite_eqI (fun g1 => ?_) (fun _ => ?_)
    rotate_left
    · walk_at "go"
      exact ⟨_, _, _, _, _, _, rfl⟩
    walk_at "go"
    refine ⟨[q0, (n : Int)], rfl, ?_⟩
    rw [gcdL2]
    walk_at "go"
    refine ite_eqI (fun g2 => ?_) (fun _ => ?_)
    rotate_left
    · walk_at "go"
      exact ⟨_, _, _, _, _, _, rfl⟩
    have g1' : Int.gcd q0 m = 1 := by omega
    have g2' : Int.gcd q0 n = 1 := by omega
    walk_at "go"
    refine ⟨_, _, _, rfl, ⟨bp, bq, m2, by omega, g1'⟩, fun one O hO => ?_⟩
    walk_at "go"
    refine ⟨_, _, _, rfl, ⟨bp, bq, n2, by omega, g2'⟩, fun two T hT => ?_⟩
    walk_at "go"
    refine ⟨m, n, rfl, ⟨by omega, by omega, by omega, by omega⟩, ?_⟩
    walk_at "go"
    have ll := lcm_bd (m := m) (n := n) (by omega) (by omega) m2 n2
    refine ⟨_, _, _, rfl, ⟨bp, bq, ll.1, ll.2, lcm_cop g1' g2'⟩, fun R hR hR' => ?_⟩
    walk_at "go"
    refine ⟨one, two, rfl, ⟨O.pos, T.pos, by omega, by omega⟩, ?_⟩
    walk_at "go"
    refine ite_neI (fun c => absurd ?_ c) (fun _ => ?_)
    · rw [rank_eq m2 n2 O T hR g1' g2']
    have bo : Bd 40 (one : Int) := Bd.nat hO
    have o0 : (0 : Int) < one := by have := O.pos; omega
    walk_at "go"
    refine ds_forT (K := K) (fun xs i δ' => ∃ s8 : Sl, δ' = [.dat (.list (ns.map PyData.int)), .pool, .dat (.int p0), .dat (.int q0), .dat (.int m), .dat (.int n), .dat (.int one), .dat (.int two), s8, .no, .no, .no]) ?_
    walk_at "go"
    refine ⟨_, rfl, by decide, by decide, fun k1 k10 k11 => ?_⟩
    walk_at "go"
    refine ⟨⟨by decide, by decide, by decide⟩, ?_⟩
    walk_at "go"
    refine ⟨_, rfl, by decide, by decide, fun k2 k20 k21 => ?_⟩
    have b12 : (10 : Int) ^ Int.toNat 12 = 1000000000000 := by decide
    have bk2 : Bd 64 k2 := by unfold Bd; omega
    walk_at "go"
    refine ⟨_, rfl, by decide, by decide, fun k3 k30 k31 => ?_⟩
    have bk3 : Bd 64 k3 := by unfold Bd; omega
    walk_at "go"
    refine ⟨⟨_, rfl⟩, fun i δ' hi hp => ?_, fun δ' hp => ?_⟩
    · obtain ⟨s8, rfl⟩ := hp
      have hi3 : i < 3 := hi
      obtain ⟨x, ex⟩ : ∃ x : Nat, ([PyData.int k1, .int ((one : Int) * k2), .int ((one : Int) * k3 + 1)]).getD i .none = .int x := by
        have n1 : 0 ≤ (one : Int) * k2 := Int.mul_nonneg (by omega) k20
        have n2 : 0 ≤ (one : Int) * k3 := Int.mul_nonneg (by omega) k30
        have : i = 0 ∨ i = 1 ∨ i = 2 := by omega
        rcases this with rfl | rfl | rfl
        · exact ⟨k1.toNat, congrArg PyData.int (by omega)⟩
        · exact ⟨((one : Int) * k2).toNat, congrArg PyData.int (by omega)⟩
        · exact ⟨((one : Int) * k3 + 1).toNat, congrArg PyData.int (by omega)⟩
      show Dg K _ (gName 8) (([PyData.int k1, .int ((one : Int) * k2), .int ((one : Int) * k3 + 1)]).getD i .none) _ _
      rw [ex]
      walk_at "go"
      refine ⟨_, _, _, _, rfl, ⟨bp, bq, m2, by omega⟩, fun z => ?_⟩
      walk_at "go"
      rw [eqv_int, eqv_int, bool_same]
      rotate_left
      · rw [← Int.natCast_emod]
        have := O.iff g1' x
        constructor
        · intro h
          have := Nat.mod_eq_zero_of_dvd (this.mp (Int.dvd_of_emod_eq_zero h))
          omega
        · intro h
          exact Int.emod_eq_zero_of_dvd (this.mpr (Nat.dvd_of_mod_eq_zero (by omega)))
      walk_at "go"
      exact ⟨_, rfl⟩
    · obtain ⟨s8, rfl⟩ := hp
      exact ⟨_, _, _, _, _, _, rfl⟩
  rintro δ' ⟨s6, s7, s8, s9, s10, s11, rfl⟩
  walk_at "go"
  refine ⟨[p0, q0], rfl, ?_⟩
  rw [gcdL2]
  walk_at "go"
  refine ite_eqI (fun g => ?_) (fun _ => ?_)
  rotate_left
  · walk_at "go"
    exact hk
  have g' : Int.gcd p0 q0 = 1 := by omega
  walk_at "go"
  refine ⟨_, rfl, by decide, by decide, fun r3 r30 r31 => ?_⟩
  obtain ⟨j, rfl⟩ : ∃ m : Nat, r3 = m := ⟨r3.toNat, by omega⟩
  walk_at "go"
  refine ⟨_, rfl, by decide, by decide, fun r4 r40 r41 => ?_⟩
  obtain ⟨k, rfl⟩ : ∃ m : Nat, r4 = m := ⟨r4.toNat, by omega⟩
  walk_at "go"
  refine ⟨_, _, _, rfl, ⟨bp, bq, by omega⟩, ?_⟩
  walk_at "go"
  refine ⟨_, _, _, rfl, ⟨bp, bq, by omega⟩, ?_⟩
  walk_at "go"
  refine ⟨[u p0 q0 j, u p0 q0 k], rfl, ?_⟩
  rw [gcdL2]
  walk_at "go"
  refine ⟨[(j : Int), (k : Int)], rfl, ?_⟩
  rw [gcdL2]
  walk_at "go"
  have gl : Nat.gcd j k ≤ 1000 := by
    rcases Nat.eq_zero_or_pos j with z | z
    · rw [z, Nat.gcd_zero_left]; omega
    · have := Nat.gcd_le_left k z; omega
  refine ⟨p0, q0, Nat.gcd j k, rfl, ⟨bp, bq, gl⟩, ?_⟩
  walk_at "go"
  refine ⟨_, rfl, ?_⟩
  walk_at "go"
  refine ite_neI (fun c => absurd ?_ c) (fun _ => ?_)
  · rw [gcd_u g']
  walk_at "go"
  exact hk
end
theorem all_mk {l : PySem.W.OpenLaw} {w : World} {K : PySem.W.Frag} {h : Heap} {mg : Str → Option Value} {fa f0 f1 f2 f3 f4 f5 f6 f7 f8 f9 f10 f11 : Addr} (X : K.In h) (G : h.Ns mainGlobals mg) (hfa : mg "law" = some (.ref fa))
    {od0 an0 od1 an1 od2 an2 od3 an3 od4 an4 od5 an5 od6 an6 od7 an7 od8 an8 od9 an9 od10 an10 od11 an11 : Option Addr} {sl0 sl1 sl2 sl3 sl4 sl5 sl6 sl7 sl8 sl9 sl10 sl11 : Array (Option Value)} {oc0 kV0 dc0 pm0 cd0 ct0 oc1 kV1 dc1 pm1 cd1 ct1 oc2 kV2 dc2 pm2 cd2 ct2 oc3 kV3 dc3 pm3 cd3 ct3 oc4 kV4 dc4 pm4 cd4 ct4 oc5 kV5 dc5 pm5 cd5 ct5 oc6 kV6 dc6 pm6 cd6 ct6 oc7 kV7 dc7 pm7 cd7 ct7 oc8 kV8 dc8 pm8 cd8 ct8 oc9 kV9 dc9 pm9 cd9 ct9 oc10 kV10 dc10 pm10 cd10 ct10 oc11 kV11 dc11 pm11 cd11 ct11 : Value}
    (a0 : PySem.W.nsIn K mainGlobals "members_at" = some (some (.ref f0))) (l0 : K.lookup f0 = some ⟨oc0, od0, .func (PySem.W.fnOf "members_at" "members_at" (defArgs s_members_at) (defBody s_members_at) (defScope s_members_at) .none kV0 dc0 pm0 an0 cd0 ct0), sl0⟩) (c0 : PySem.W.codeIn K cd0 "members_at" = true) (k0 : PySem.W.keepIn K (.ref f0) = true)
    (a1 : PySem.W.nsIn K mainGlobals "times" = some (some (.ref f1))) (l1 : K.lookup f1 = some ⟨oc1, od1, .func (PySem.W.fnOf "times" "times" (defArgs s_times) (defBody s_times) (defScope s_times) .none kV1 dc1 pm1 an1 cd1 ct1), sl1⟩) (c1 : PySem.W.codeIn K cd1 "times" = true) (k1 : PySem.W.keepIn K (.ref f1) = true)
    (a2 : PySem.W.nsIn K mainGlobals "rests_at" = some (some (.ref f2))) (l2 : K.lookup f2 = some ⟨oc2, od2, .func (PySem.W.fnOf "rests_at" "rests_at" (defArgs s_rests_at) (defBody s_rests_at) (defScope s_rests_at) .none kV2 dc2 pm2 an2 cd2 ct2), sl2⟩) (c2 : PySem.W.codeIn K cd2 "rests_at" = true) (k2 : PySem.W.keepIn K (.ref f2) = true)
    (a3 : PySem.W.nsIn K mainGlobals "rank" = some (some (.ref f3))) (l3 : K.lookup f3 = some ⟨oc3, od3, .func (PySem.W.fnOf "rank" "rank" (defArgs s_rank) (defBody s_rank) (defScope s_rank) .none kV3 dc3 pm3 an3 cd3 ct3), sl3⟩) (c3 : PySem.W.codeIn K cd3 "rank" = true) (k3 : PySem.W.keepIn K (.ref f3) = true)
    (a4 : PySem.W.nsIn K mainGlobals "common" = some (some (.ref f4))) (l4 : K.lookup f4 = some ⟨oc4, od4, .func (PySem.W.fnOf "common" "common" (defArgs s_common) (defBody s_common) (defScope s_common) .none kV4 dc4 pm4 an4 cd4 ct4), sl4⟩) (c4 : PySem.W.codeIn K cd4 "common" = true) (k4 : PySem.W.keepIn K (.ref f4) = true)
    (a5 : PySem.W.nsIn K mainGlobals "multiple" = some (some (.ref f5))) (l5 : K.lookup f5 = some ⟨oc5, od5, .func (PySem.W.fnOf "multiple" "multiple" (defArgs s_multiple) (defBody s_multiple) (defScope s_multiple) .none kV5 dc5 pm5 an5 cd5 ct5), sl5⟩) (c5 : PySem.W.codeIn K cd5 "multiple" = true) (k5 : PySem.W.keepIn K (.ref f5) = true)
    (a6 : PySem.W.nsIn K mainGlobals "_law_pool" = some (some (.ref f6))) (l6 : K.lookup f6 = some ⟨oc6, od6, .func (PySem.W.fnOf "_law_pool" "_law_pool" (defArgs s_law_pool) (defBody s_law_pool) (defScope s_law_pool) .none kV6 dc6 pm6 an6 cd6 ct6), sl6⟩) (c6 : PySem.W.codeIn K cd6 "_law_pool" = true) (k6 : PySem.W.keepIn K (.ref f6) = true)
    (a7 : PySem.W.nsIn K mainGlobals "_law_spread" = some (some (.ref f7))) (l7 : K.lookup f7 = some ⟨oc7, od7, .func (PySem.W.fnOf "_law_spread" "_law_spread" (defArgs s_law_spread) (defBody s_law_spread) (defScope s_law_spread) .none kV7 dc7 pm7 an7 cd7 ct7), sl7⟩) (c7 : PySem.W.codeIn K cd7 "_law_spread" = true) (k7 : PySem.W.keepIn K (.ref f7) = true)
    (a8 : PySem.W.nsIn K mainGlobals "_law_draw" = some (some (.ref f8))) (l8 : K.lookup f8 = some ⟨oc8, od8, .func (PySem.W.fnOf "_law_draw" "_law_draw" (defArgs s_law_draw) (defBody s_law_draw) (defScope s_law_draw) .none kV8 dc8 pm8 an8 cd8 ct8), sl8⟩) (c8 : PySem.W.codeIn K cd8 "_law_draw" = true) (k8 : PySem.W.keepIn K (.ref f8) = true)
    (a9 : PySem.W.nsIn K mainGlobals "_law_int" = some (some (.ref f9))) (l9 : K.lookup f9 = some ⟨oc9, od9, .func (PySem.W.fnOf "_law_int" "_law_int" (defArgs s_law_int) (defBody s_law_int) (defScope s_law_int) .none kV9 dc9 pm9 an9 cd9 ct9), sl9⟩) (c9 : PySem.W.codeIn K cd9 "_law_int" = true) (k9 : PySem.W.keepIn K (.ref f9) = true)
    (a10 : PySem.W.nsIn K mainGlobals "_law_abs" = some (some (.ref f10))) (l10 : K.lookup f10 = some ⟨oc10, od10, .func (PySem.W.fnOf "_law_abs" "_law_abs" (defArgs s_law_abs) (defBody s_law_abs) (defScope s_law_abs) .none kV10 dc10 pm10 an10 cd10 ct10), sl10⟩) (c10 : PySem.W.codeIn K cd10 "_law_abs" = true) (k10 : PySem.W.keepIn K (.ref f10) = true)
    (a11 : PySem.W.nsIn K mainGlobals "law" = some (some (.ref f11))) (l11 : K.lookup f11 = some ⟨oc11, od11, .func (PySem.W.fnOf "law" "law" (defArgs s_law) (defBody s_law) (defScope s_law) .none kV11 dc11 pm11 an11 cd11 ct11), sl11⟩) (c11 : PySem.W.codeIn K cd11 "law" = true) (k11 : PySem.W.keepIn K (.ref f11) = true)
    (z_range : PySem.W.nsIn K mainGlobals "range" = some none)
    (z_abs : PySem.W.nsIn K mainGlobals "abs" = some none)
    (z_list : PySem.W.nsIn K mainGlobals "list" = some none)
    (z_int : PySem.W.nsIn K mainGlobals "int" = some none)
    (z_len : PySem.W.nsIn K mainGlobals "len" = some none)
    (m_gcd : PySem.W.nsIn K mainGlobals "gcd" = some (some (.builtin "math.gcd")))
    : ∃ fd : FuncData, (∀ (s : Shared) (v : Value), BindsTo s fd ⟨[v], []⟩ [("script", v)]) ∧ ∀ base : Heap, K.In base → base.Ns mainGlobals mg → FnOk l.prog w K mg base CX0 4 fa fd ["script"] (spP K φ_law) := by
  have e := hfa.symm.trans (PySem.W.mg_of X G a11)
  cases e
  have F0 := fun_mk (st := s_members_at) l0 c0 k0
  have b0 := F0.binds (ps := ["p", "q", "n"]) fun _ _ _ _ _ _ us hl => match us, hl with | [_, _, _], _ => rfl
  have F1 := fun_mk (st := s_times) l1 c1 k1
  have b1 := F1.binds (ps := ["one", "two", "m"]) fun _ _ _ _ _ _ us hl => match us, hl with | [_, _, _], _ => rfl
  have F2 := fun_mk (st := s_rests_at) l2 c2 k2
  have b2 := F2.binds (ps := ["p", "q", "n", "m"]) fun _ _ _ _ _ _ us hl => match us, hl with | [_, _, _, _], _ => rfl
  have F3 := fun_mk (st := s_rank) l3 c3 k3
  have b3 := F3.binds (ps := ["p", "q", "m"]) fun _ _ _ _ _ _ us hl => match us, hl with | [_, _, _], _ => rfl
  have F4 := fun_mk (st := s_common) l4 c4 k4
  have b4 := F4.binds (ps := ["row"]) fun _ _ _ _ _ _ us hl => match us, hl with | [_], _ => rfl
  have F5 := fun_mk (st := s_multiple) l5 c5 k5
  have b5 := F5.binds (ps := ["row"]) fun _ _ _ _ _ _ us hl => match us, hl with | [_], _ => rfl
  have F6 := fun_mk (st := s_law_pool) l6 c6 k6
  have b6 := F6.binds (ps := ["script"]) fun _ _ _ _ _ _ us hl => match us, hl with | [_], _ => rfl
  have F7 := fun_mk (st := s_law_spread) l7 c7 k7
  have b7 := F7.binds (ps := ["cell"]) fun _ _ _ _ _ _ us hl => match us, hl with | [_], _ => rfl
  have F8 := fun_mk (st := s_law_draw) l8 c8 k8
  have b8 := F8.binds (ps := ["pool", "many"]) fun _ _ _ _ _ _ us hl => match us, hl with | [_, _], _ => rfl
  have F9 := fun_mk (st := s_law_int) l9 c9 k9
  have b9 := F9.binds (ps := ["pool", "most"]) fun _ _ _ _ _ _ us hl => match us, hl with | [_, _], _ => rfl
  have F10 := fun_mk (st := s_law_abs) l10 c10 k10
  have b10 := F10.binds (ps := ["a"]) fun _ _ _ _ _ _ us hl => match us, hl with | [_], _ => rfl
  have F11 := fun_mk (st := s_law) l11 c11 k11
  have w_range := PySem.W.mg_none_of X G z_range
  have w_abs := PySem.W.mg_none_of X G z_abs
  have w_list := PySem.W.mg_none_of X G z_list
  have w_int := PySem.W.mg_none_of X G z_int
  have w_len := PySem.W.mg_none_of X G z_len
  have v_gcd := PySem.W.mg_of X G m_gcd
  refine ⟨PySem.W.fnOf "law" "law" (defArgs s_law) (defBody s_law) (defScope s_law) .none kV11 dc11 pm11 an11 cd11 ct11, fun s v => .of_eq rfl, fun base _ _ => ?_⟩
  have C_members_at : Cal l.prog w K mg base "members_at" 1 ["p", "q", "n"] (spP K φ_members_at) := ⟨_, _, ok_members_at F0 w_range, PySem.W.mg_of X G a0, k0, b0⟩
  have C_times : Cal l.prog w K mg base "times" 1 ["one", "two", "m"] (spP K φ_times) := ⟨_, _, ok_times F1, PySem.W.mg_of X G a1, k1, b1⟩
  have C_rests_at : Cal l.prog w K mg base "rests_at" 2 ["p", "q", "n", "m"] (spP K φ_rests_at) := ⟨_, _, ok_rests_at F2 C_times, PySem.W.mg_of X G a2, k2, b2⟩
  have C_rank : Cal l.prog w K mg base "rank" 1 ["p", "q", "m"] (spP K φ_rank) := ⟨_, _, ok_rank F3, PySem.W.mg_of X G a3, k3, b3⟩
  have C_common : Cal l.prog w K mg base "common" 1 ["row"] (spP K φ_common) := ⟨_, _, ok_common F4 v_gcd, PySem.W.mg_of X G a4, k4, b4⟩
  have C_multiple : Cal l.prog w K mg base "multiple" 1 ["row"] (spP K φ_multiple) := ⟨_, _, ok_multiple F5 v_gcd w_abs, PySem.W.mg_of X G a5, k5, b5⟩
  have C_law_pool : Cal l.prog w K mg base "_law_pool" 1 ["script"] (spPool K) := ⟨_, _, ok_law_pool F6 w_list w_int, PySem.W.mg_of X G a6, k6, b6⟩
  have C_law_spread : Cal l.prog w K mg base "_law_spread" 1 ["cell"] (spP K φ_law_spread) := ⟨_, _, ok_law_spread F7 w_range w_int, PySem.W.mg_of X G a7, k7, b7⟩
  have C_law_draw : Cal l.prog w K mg base "_law_draw" 2 ["pool", "many"] (spPP K φ_law_draw) := ⟨_, _, ok_law_draw F8 C_law_spread w_int w_len, PySem.W.mg_of X G a8, k8, b8⟩
  have C_law_int : Cal l.prog w K mg base "_law_int" 3 ["pool", "most"] (spPP K φ_law_int) := ⟨_, _, ok_law_int F9 C_law_draw, PySem.W.mg_of X G a9, k9, b9⟩
  have C_law_abs : Cal l.prog w K mg base "_law_abs" 1 ["a"] (spP K φ_law_abs) := ⟨_, _, ok_law_abs F10, PySem.W.mg_of X G a10, k10, b10⟩
  exact ok_law F11 C_common C_law_abs C_members_at C_law_draw C_rests_at C_rank C_multiple C_law_int C_law_pool
end My
open PySem PySem.W PyProof.Rows
set_option maxHeartbeats 0 in
theorem PySem.Challenge.cw_numberwright_k78_whole_ranks_put_togethe_holds : PySem.Challenge.rw_numberwright_k78_whole_ranks_put_togethe.Holds := by
  w_on; o_law; k_head; (case hw => w_witness2)
  k_fill
  refine L2.walk_of (l := PySem.Challenge.rw_numberwright_k78_whole_ranks_put_togethe) (n := 63) (k := 4) (x := "script") (CX := fun _ => L2.CX0) (sp := fun w => Ab.spP _ My.φ_law) rfl (by decide) rfl ⟨rfl, by decide, by decide⟩ (fun w h Y => PySem.W.kIn_of Y) ?F
    (fun _ H a ns hl _ hS => ⟨H, [.list (ns.map PyData.int)], fun d => d = .bool true, Ab.Ex.refl _, .cons (.lst hS (Ab.DpAll.ints ns)) .nil, ⟨ns, rfl, hl, rfl⟩, fun v F2 H2 d hd _ dp => by subst hd; cases dp; rfl⟩) (fun _ _ _ _ _ h => h)
  case F =>
    intro w mg fa h KX G hmg
    refine' My.all_mk KX G hmg ?a0 ?l0 ?c0 ?k0 ?a1 ?l1 ?c1 ?k1 ?a2 ?l2 ?c2 ?k2 ?a3 ?l3 ?c3 ?k3 ?a4 ?l4 ?c4 ?k4 ?a5 ?l5 ?c5 ?k5 ?a6 ?l6 ?c6 ?k6 ?a7 ?l7 ?c7 ?k7 ?a8 ?l8 ?c8 ?k8 ?a9 ?l9 ?c9 ?k9 ?a10 ?l10 ?c10 ?k10 ?a11 ?l11 ?c11 ?k11 ?z_range ?z_abs ?z_list ?z_int ?z_len ?m_gcd
    (case a0 => k_is); (case l0 => k_is); (case c0 => k_is); (case k0 => k_is); (case a1 => k_is); (case l1 => k_is); (case c1 => k_is); (case k1 => k_is); (case a2 => k_is); (case l2 => k_is); (case c2 => k_is); (case k2 => k_is); (case a3 => k_is); (case l3 => k_is); (case c3 => k_is); (case k3 => k_is); (case a4 => k_is); (case l4 => k_is); (case c4 => k_is); (case k4 => k_is); (case a5 => k_is); (case l5 => k_is); (case c5 => k_is); (case k5 => k_is); (case a6 => k_is); (case l6 => k_is); (case c6 => k_is); (case k6 => k_is); (case a7 => k_is); (case l7 => k_is); (case c7 => k_is); (case k7 => k_is); (case a8 => k_is); (case l8 => k_is); (case c8 => k_is); (case k8 => k_is); (case a9 => k_is); (case l9 => k_is); (case c9 => k_is); (case k9 => k_is); (case a10 => k_is); (case l10 => k_is); (case c10 => k_is); (case k10 => k_is); (case a11 => k_is); (case l11 => k_is); (case c11 => k_is); (case k11 => k_is); (case z_range => k_is); (case z_abs => k_is); (case z_list => k_is); (case z_int => k_is); (case z_len => k_is); (case m_gcd => k_is)

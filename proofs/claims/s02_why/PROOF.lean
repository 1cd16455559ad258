import PyProof.Rows.All
import Wide.All
import OpenK.AllK
import Wide.FinOn
import Open.SpecLaws
import KE.OsGo
import HandS.ForSpec
import HandS.Comp
import HandS.Iter
import HandS.Evl
import HandS.Wide
import HandS.More
import HandS.Deep
import HandS.Style
import HandS.TryOnly
import PyProof.P3In
import PySem.Challenge.RW_recutfigures_s02_why
set_option Elab.async false
set_option linter.all false
set_option maxRecDepth 100000
set_option maxHeartbeats 4000000
namespace Rc
open PySem L2 Evl

/-! ### descriptions that stay -/
structure Rp where
  p : V → Hp → Prop
  mono : ∀ {v : V} {H H' : Hp}, Ex H H' → p v H → p v H'
def Al : List Rp → List V → Hp → Prop
  | [], [], _ => True
  | r :: rs, v :: vs, H => r.p v H ∧ Al rs vs H
  | [], _ :: _, _ => False
  | _ :: _, [], _ => False
theorem Al.mono {H H' : Hp} (e : Ex H H') : ∀ {rs : List Rp} {vs : List V}, Al rs vs H → Al rs vs H'
  | [], [], _ => trivial
  | r :: _, _ :: _, h => ⟨r.mono e h.1, Al.mono e h.2⟩
theorem Al.len {H : Hp} : ∀ {rs : List Rp} {vs : List V}, Al rs vs H → rs.length = vs.length
  | [], [], _ => rfl
  | _ :: _, _ :: _, h => congrArg (· + 1) (Al.len h.2)
theorem Al.get {H : Hp} : ∀ {rs : List Rp} {vs : List V} {i : Nat} {r : Rp}, Al rs vs H → rs[i]? = some r → ∃ v, vs[i]? = some v ∧ r.p v H
  | r :: rs, v :: vs, 0, x, h, e => by
    have e : r = x := Option.some.inj e
    subst e
    exact ⟨v, rfl, h.1⟩
  | r :: rs, v :: vs, i + 1, x, h, e => Al.get (rs := rs) (vs := vs) (i := i) h.2 e
  | [], [], i, x, h, e => by simp at e
theorem Al.app {H : Hp} : ∀ {rs : List Rp} {vs : List V} {rs' : List Rp} {vs' : List V}, Al rs vs H → Al rs' vs' H → Al (rs ++ rs') (vs ++ vs') H
  | [], [], _, _, _, h => h
  | _ :: _, _ :: _, _, _, h, h' => ⟨h.1, Al.app h.2 h'⟩
theorem Al.take {H : Hp} : ∀ {rs : List Rp} {vs : List V} (n : Nat), Al rs vs H → Al (rs.take n) (vs.take n) H
  | [], [], n, _ => by
    rw [List.take_nil, List.take_nil]
    trivial
  | _ :: _, _ :: _, 0, _ => trivial
  | _ :: _, _ :: _, n + 1, h => ⟨h.1, Al.take n h.2⟩
theorem Al.drop {H : Hp} : ∀ {rs : List Rp} {vs : List V} (n : Nat), Al rs vs H → Al (rs.drop n) (vs.drop n) H
  | [], [], n, _ => by
    rw [List.drop_nil, List.drop_nil]
    trivial
  | _ :: _, _ :: _, 0, h => h
  | _ :: _, _ :: _, n + 1, h => Al.drop n h.2
theorem Al.snoc {H : Hp} {rs : List Rp} {vs : List V} {r : Rp} {v : V} (h : Al rs vs H) (k : r.p v H) : Al (rs ++ [r]) (vs ++ [v]) H := h.app ⟨k, trivial⟩
theorem Al.at {H : Hp} {rs : List Rp} {vs : List V} {i : Int} {r : Rp} (h : Al rs vs H) (e : atI rs i = some r) : ∃ v, atI vs i = some v ∧ r.p v H := by
  unfold atI at e ⊢
  rw [← h.len]
  cases q : ixN rs.length i with
  | none => rw [q] at e; cases e
  | some j =>
    rw [q] at e
    exact h.get e
theorem al0 {H : Hp} {vs : List V} (h : Al [] vs H) : vs = [] := by
  cases vs with
  | nil => rfl
  | cons _ _ => exact h.elim
theorem alc {H : Hp} {r : Rp} {rs : List Rp} {vs : List V} (h : Al (r :: rs) vs H) : ∃ v ws, vs = v :: ws ∧ r.p v H ∧ Al rs ws H := by
  cases vs with
  | nil => exact h.elim
  | cons v ws => exact ⟨v, ws, rfl, h.1, h.2⟩
theorem al1 {H : Hp} {r : Rp} {vs : List V} (h : Al [r] vs H) : ∃ v, vs = [v] ∧ r.p v H := by
  obtain ⟨v, ws, e, p, q⟩ := alc h
  obtain rfl := al0 q
  exact ⟨v, e, p⟩
theorem al2 {H : Hp} {r s : Rp} {vs : List V} (h : Al [r, s] vs H) : ∃ v w, vs = [v, w] ∧ r.p v H ∧ s.p w H := by
  obtain ⟨v, ws, e, p, q⟩ := alc h
  obtain ⟨w, e2, p2⟩ := al1 q
  subst e2
  exact ⟨v, w, e, p, p2⟩
theorem al3 {H : Hp} {r s t : Rp} {vs : List V} (h : Al [r, s, t] vs H) : ∃ v w x, vs = [v, w, x] ∧ r.p v H ∧ s.p w H ∧ t.p x H := by
  obtain ⟨v, ws, e, p, q⟩ := alc h
  obtain ⟨w, x, e2, p2, p3⟩ := al2 q
  subst e2
  exact ⟨v, w, x, e, p, p2, p3⟩
def cutA {α : Type} (xs : List α) (lo hi : Option Int) : List α := (xs.drop (HT.sIx xs.length 0 lo)).take (HT.sIx xs.length xs.length hi - HT.sIx xs.length 0 lo)
theorem Al.cut {H : Hp} {rs : List Rp} {vs : List V} (h : Al rs vs H) (lo hi : Option Int) : Al (cutA rs lo hi) (cutV vs lo hi) H := by
  unfold cutA cutV
  rw [← h.len]
  exact (h.drop _).take _
theorem Al.map {α : Type} {H : Hp} {ra : α → Rp} {f : α → V} (h : ∀ a, (ra a).p (f a) H) : ∀ (xs : List α), Al (xs.map ra) (xs.map f) H
  | [] => trivial
  | a :: r => ⟨h a, Al.map h r⟩

/-! ### the kinds of values -/
def vR (x : V) : Rp := ⟨fun v _ => v = x, fun _ h => h⟩
abbrev iR (i : Int) : Rp := vR (.int i)
abbrev bR (b : Bool) : Rp := vR (.bl b)
abbrev nR : Rp := vR .non
section
variable (K : PySem.W.Frag)
def tR (rs : List Rp) : Rp := ⟨fun v H => ∃ p vs, v = .ref p ∧ SqT K H p vs ∧ Al rs vs H, fun e h => by
  obtain ⟨p, vs, e1, h1, h2⟩ := h
  exact ⟨p, vs, e1, ex_t e h1, h2.mono e⟩⟩
/-- a list that is read, of whatever origin -/
def sR (rs : List Rp) : Rp := ⟨fun v H => ∃ p vs, v = .ref p ∧ SqL K H p vs ∧ Al rs vs H, fun e h => by
  obtain ⟨p, vs, e1, h1, h2⟩ := h
  exact ⟨p, vs, e1, ex_l e h1, h2.mono e⟩⟩
end
/-- a list of our own -/
def lR (rs : List Rp) : Rp := ⟨fun v H => ∃ p vs, v = .ref p ∧ H p = some (.lst vs) ∧ Al rs vs H, fun e h => by
  obtain ⟨p, vs, e1, h1, h2⟩ := h
  exact ⟨p, vs, e1, e p _ h1, h2.mono e⟩⟩
def AlF (fs : List (Str × Rp)) (kvs : List (Str × V)) (H : Hp) : Prop := kvs.map (·.1) = fs.map (·.1) ∧ Al (fs.map (·.2)) (kvs.map (·.2)) H
theorem AlF.lookup {H : Hp} {f : Str} {r : Rp} : ∀ {fs : List (Str × Rp)} {kvs : List (Str × V)}, AlF fs kvs H → fs.lookup f = some r → ∃ v, kvs.lookup f = some v ∧ r.p v H
  | [], [], _, e => by simp [List.lookup] at e
  | [], _ :: _, h, _ => h.2.elim
  | _ :: _, [], h, _ => h.2.elim
  | (g, r') :: fs, (k, v) :: kvs, h, e => by
    obtain ⟨h1, h2, h3⟩ := h
    have hk : k = g := (List.cons.inj h1).1
    subst hk
    by_cases c : (f == k) = true
    · simp only [List.lookup, c] at e ⊢
      cases e
      exact ⟨v, rfl, h2⟩
    · have c : (f == k) = false := by simpa using c
      simp only [List.lookup, c] at e ⊢
      exact AlF.lookup ⟨(List.cons.inj h1).2, h3⟩ e
theorem AlF.lookup_none {H : Hp} {f : Str} : ∀ {fs : List (Str × Rp)} {kvs : List (Str × V)}, AlF fs kvs H → fs.lookup f = none → kvs.lookup f = none
  | [], [], _, e => rfl
  | [], _ :: _, h, _ => h.2.elim
  | _ :: _, [], h, _ => h.2.elim
  | (g, r') :: fs, (k, v) :: kvs, h, e => by
    obtain ⟨h1, h2, h3⟩ := h
    have hk : k = g := (List.cons.inj h1).1
    subst hk
    by_cases c : (f == k) = true
    · simp only [List.lookup, c] at e
      cases e
    · have c : (f == k) = false := by simpa using c
      simp only [List.lookup, c] at e ⊢
      exact AlF.lookup_none ⟨(List.cons.inj h1).2, h3⟩ e
/-- an instance that nobody changes any more -/
def oR (C : Addr) (fs : List (Str × Rp)) : Rp := ⟨fun v H => ∃ a dx kvs, v = .ref a ∧ H a = some (.ins C dx kvs) ∧ AlF fs kvs H, fun e h => by
  obtain ⟨a, dx, kvs, e1, h1, h2, h3⟩ := h
  exact ⟨a, dx, kvs, e1, e a _ h1, h2, h3.mono e⟩⟩
theorem lR_s {K : PySem.W.Frag} {rs : List Rp} {v : V} {H : Hp} (h : (lR rs).p v H) : (sR K rs).p v H := by
  obtain ⟨p, vs, e1, h1, h2⟩ := h
  exact ⟨p, vs, e1, SqL.of h1, h2⟩

/-! ### the state: slots, the part that stays, the heap -/
/-- what is our own, and may be changed: a list, an instance -/
inductive Ow where
  | l (rs : List Rp)
  | i (x C : Addr) (fs : List (Str × Rp))
def Ow.P : Ow → Addr → HO → Hp → Prop
  | .l rs, _, h, G => ∃ vs, h = .lst vs ∧ Al rs vs G
  | .i x C fs, p, h, G => p = x ∧ ∃ dx kvs, h = .ins C dx kvs ∧ AlF fs kvs G
theorem Ow.mono {H H' : Hp} (e : Ex H H') {o : Ow} {a : Addr} {h : HO} (p : o.P a h H) : o.P a h H' := by
  cases o with
  | l rs =>
    obtain ⟨vs, e1, a⟩ := p
    exact ⟨vs, e1, a.mono e⟩
  | i x C fs =>
    obtain ⟨ex, dx, kvs, e1, a, b⟩ := p
    exact ⟨ex, dx, kvs, e1, a, b.mono e⟩
/-- the same, told as what stays -/
def Ow.R : Ow → Rp
  | .l rs => lR rs
  | .i _ C fs => oR C fs
theorem Ow.P.R {o : Ow} {h : HO} {G : Hp} {p : Addr} (q : o.P p h G) (e : G p = some h) : o.R.p (.ref p) G := by
  cases o with
  | l rs =>
    obtain ⟨vs, e1, a⟩ := q
    exact ⟨p, vs, rfl, by rw [e, e1], a⟩
  | i x C fs =>
    obtain ⟨_, dx, kvs, e1, a⟩ := q
    exact ⟨p, dx, kvs, rfl, by rw [e, e1], a⟩
inductive Sl where
  | no
  | r (x : Rp)
  | w (o : Ow)
abbrev Sl.l (rs : List Rp) : Sl := .w (.l rs)
structure Step (G H G' H' : Hp) : Prop where
  g : Ex G G'
  h : Ex H H'
  i : Ex G' H'
  n : ∀ a, H a ≠ none → G a = none → G' a = none
theorem Step.refl {G H : Hp} (e : Ex G H) : Step G H G H := ⟨Ex.refl G, Ex.refl H, e, fun _ _ h => h⟩
theorem Ex.some {H H' : Hp} (e : Ex H H') {a : Addr} (h : H a ≠ none) : H' a ≠ none := by
  cases q : H a with
  | none => exact absurd q h
  | some o =>
    rw [e a o q]
    exact fun z => nomatch z
theorem Step.trans {G H G1 H1 G2 H2 : Hp} (a : Step G H G1 H1) (b : Step G1 H1 G2 H2) : Step G H G2 H2 :=
  ⟨a.g.trans b.g, a.h.trans b.h, b.i, fun x h1 h2 => b.n x (Ex.some a.h h1) (a.n x h1 h2)⟩
/-- a new thing, laid in both parts -/
theorem Step.new {G H : Hp} (e : Ex G H) {p : Addr} {o : HO} (hp : H p = none) : Step G H (upd G p o) (upd H p o) := by
  have hg : G p = none := fresh_back e hp
  refine ⟨Ex.new hg, Ex.new hp, fun a u h => ?_, fun a h1 h2 => ?_⟩
  · by_cases c : a = p
    · subst c
      rw [upd_same] at h ⊢
      exact h
    · rw [upd_ne c] at h ⊢
      exact e a u h
  · have c : a ≠ p := fun z => h1 (by rw [z]; exact hp)
    rw [upd_ne c]
    exact h2
structure En (H0 : Hp) (ρ : List Sl) (σ : L2.St) (G H : Hp) : Prop where
  len : σ.length = ρ.length
  rd : ∀ (i : Nat) (x : Rp), ρ[i]? = some (.r x) → ∃ v, σ[i]? = some (some v) ∧ x.p v G
  ow : ∀ (i : Nat) (o : Ow), ρ[i]? = some (.w o) → ∃ p h, σ[i]? = some (some (.ref p)) ∧ H p = some h ∧ o.P p h G ∧ G p = none ∧ H0 p = none
  ne : ∀ (i j : Nat) (rs rs' : Ow) (p : Addr), i ≠ j → ρ[i]? = some (.w rs) → ρ[j]? = some (.w rs') → σ[i]? = some (some (.ref p)) → σ[j]? ≠ some (some (.ref p))
section
variable {H0 G H G1 H1 G2 H2 : Hp} {ρ ρ' : List Sl} {σ σ' : L2.St}
theorem En.step (e : En H0 ρ σ G H) (s : Step G H G1 H1) : En H0 ρ σ G1 H1 where
  len := e.len
  rd := fun i x h => let ⟨v, a, b⟩ := e.rd i x h; ⟨v, a, x.mono s.g b⟩
  ow := fun i rs h => by
    obtain ⟨p, vs, a, b, c, d, f⟩ := e.ow i rs h
    exact ⟨p, vs, a, s.h p _ b, Ow.mono s.g c, s.n p (by rw [b]; exact fun z => nomatch z) d, f⟩
  ne := e.ne
theorem get_set {α : Type} {l : List α} {i j : Nat} {x y : α} (h : (l.set i x)[j]? = some y) : (j = i ∧ y = x) ∨ (j ≠ i ∧ l[j]? = some y) := by
  by_cases c : i = j
  · subst c
    by_cases hl : i < l.length
    · rw [List.getElem?_set_self hl] at h
      exact .inl ⟨rfl, (Option.some.inj h).symm⟩
    · rw [List.getElem?_eq_none (by simpa using hl)] at h
      cases h
  · rw [List.getElem?_set_ne c] at h
    exact .inr ⟨fun z => c z.symm, h⟩
theorem En.set (e : En H0 ρ σ G H) {x : Rp} {v : V} (h : x.p v G) (i : Nat) : En H0 (ρ.set i (.r x)) (σ.set i (some v)) G H where
  len := by rw [List.length_set, List.length_set]; exact e.len
  rd := fun j y hj => by
    rcases get_set hj with ⟨rfl, q⟩ | ⟨n, q⟩
    · cases q
      have hl : j < (ρ.set j (.r x)).length := (List.getElem?_eq_some_iff.mp hj).1
      rw [List.length_set, ← e.len] at hl
      exact ⟨v, List.getElem?_set_self hl, h⟩
    · rw [List.getElem?_set_ne (Ne.symm n)]
      exact e.rd j y q
  ow := fun j rs hj => by
    rcases get_set hj with ⟨rfl, q⟩ | ⟨n, q⟩
    · cases q
    · rw [List.getElem?_set_ne (Ne.symm n)]
      exact e.ow j rs q
  ne := fun j k rs rs' p hn hj hk hs => by
    rcases get_set hj with ⟨rfl, q⟩ | ⟨n, q⟩
    · cases q
    · rcases get_set hk with ⟨rfl, q2⟩ | ⟨n2, q2⟩
      · cases q2
      · rw [List.getElem?_set_ne (Ne.symm n)] at hs
        rw [List.getElem?_set_ne (Ne.symm n2)]
        exact e.ne j k rs rs' p hn q q2 hs
/-- a slot is forgotten -/
theorem En.forget (e : En H0 ρ σ G H) (i : Nat) : En H0 (ρ.set i .no) σ G H where
  len := by rw [List.length_set]; exact e.len
  rd := fun j y hj => by
    rcases get_set hj with ⟨rfl, q⟩ | ⟨n, q⟩
    · cases q
    · exact e.rd j y q
  ow := fun j rs hj => by
    rcases get_set hj with ⟨rfl, q⟩ | ⟨n, q⟩
    · cases q
    · exact e.ow j rs q
  ne := fun j k rs rs' p hn hj hk hs => by
    rcases get_set hj with ⟨rfl, q⟩ | ⟨n, q⟩
    · cases q
    · rcases get_set hk with ⟨rfl, q2⟩ | ⟨n2, q2⟩
      · cases q2
      · exact e.ne j k rs rs' p hn q q2 hs
theorem En.wipe1 (e : En H0 ρ σ G H) (i : Nat) : En H0 (ρ.set i .no) (σ.set i none) G H where
  len := by rw [List.length_set, List.length_set]; exact e.len
  rd := fun j y hj => by
    rcases get_set hj with ⟨rfl, q⟩ | ⟨n, q⟩
    · cases q
    · rw [List.getElem?_set_ne (Ne.symm n)]
      exact e.rd j y q
  ow := fun j rs hj => by
    rcases get_set hj with ⟨rfl, q⟩ | ⟨n, q⟩
    · cases q
    · rw [List.getElem?_set_ne (Ne.symm n)]
      exact e.ow j rs q
  ne := fun j k rs rs' p hn hj hk hs => by
    rcases get_set hj with ⟨rfl, q⟩ | ⟨n, q⟩
    · cases q
    · rcases get_set hk with ⟨rfl, q2⟩ | ⟨n2, q2⟩
      · cases q2
      · rw [List.getElem?_set_ne (Ne.symm n)] at hs
        rw [List.getElem?_set_ne (Ne.symm n2)]
        exact e.ne j k rs rs' p hn q q2 hs
def wipeS (ρ : List Sl) : List Nat → List Sl
  | [] => ρ
  | v :: vs => (wipeS ρ vs).set v .no
theorem En.wipe (e : En H0 ρ σ G H) : ∀ vs : List Nat, En H0 (wipeS ρ vs) (L2.wipe σ vs) G H
  | [] => e
  | v :: vs => (En.wipe e vs).wipe1 v
/-- a new own list at slot i -/
theorem En.own (e : En H0 ρ σ G H) (ex : Ex G H) (hh : Ex H0 H) {p : Addr} {vs : HO} {rs : Ow} (hp : H p = none) (ha : rs.P p vs G) (i : Nat) :
    En H0 (ρ.set i (.w rs)) (σ.set i (some (.ref p))) G (upd H p vs) where
  len := by rw [List.length_set, List.length_set]; exact e.len
  rd := fun j y hj => by
    rcases get_set hj with ⟨rfl, q⟩ | ⟨n, q⟩
    · cases q
    · rw [List.getElem?_set_ne (Ne.symm n)]
      exact e.rd j y q
  ow := fun j rs2 hj => by
    rcases get_set hj with ⟨rfl, q⟩ | ⟨n, q⟩
    · cases q
      have hl : j < (ρ.set j (.w rs)).length := (List.getElem?_eq_some_iff.mp hj).1
      rw [List.length_set, ← e.len] at hl
      exact ⟨p, vs, List.getElem?_set_self hl, upd_same, ha, fresh_back ex hp, fresh_back hh hp⟩
    · rw [List.getElem?_set_ne (Ne.symm n)]
      obtain ⟨p', vs', a, b, c⟩ := e.ow j rs2 q
      exact ⟨p', vs', a, by rw [upd_ne (ne_of_none b hp)]; exact b, c⟩
  ne := fun j k rs1 rs2 p' hn hj hk hs => by
    rcases get_set hj with ⟨rfl, q⟩ | ⟨n, q⟩
    · have hl : j < (ρ.set j (.w rs)).length := (List.getElem?_eq_some_iff.mp hj).1
      rw [List.length_set, ← e.len] at hl
      rw [List.getElem?_set_self hl] at hs
      cases hs
      rcases get_set hk with ⟨rfl, q2⟩ | ⟨n2, q2⟩
      · exact absurd rfl hn
      · rw [List.getElem?_set_ne (Ne.symm n2)]
        intro z
        obtain ⟨p', vs', a, b, c⟩ := e.ow k rs2 q2
        rw [a] at z
        cases z
        rw [hp] at b
        cases b
    · rw [List.getElem?_set_ne (Ne.symm n)] at hs
      rcases get_set hk with ⟨rfl, q2⟩ | ⟨n2, q2⟩
      · have hl : k < (ρ.set k (.w rs)).length := (List.getElem?_eq_some_iff.mp hk).1
        rw [List.length_set, ← e.len] at hl
        rw [List.getElem?_set_self hl]
        intro z
        cases z
        obtain ⟨p', vs', a, b, c⟩ := e.ow j rs1 q
        rw [a] at hs
        cases hs
        rw [hp] at b
        cases b
      · rw [List.getElem?_set_ne (Ne.symm n2)]
        exact e.ne j k rs1 rs2 p' hn q q2 hs
/-- the own list at slot i is written -/
theorem En.put (e : En H0 ρ σ G H) {p : Addr} {vs' : HO} {rs rs' : Ow} {i : Nat} (hi : ρ[i]? = some (.w rs)) (hs : σ[i]? = some (some (.ref p))) (ha : rs'.P p vs' G) :
    En H0 (ρ.set i (.w rs')) σ G (upd H p vs') where
  len := by rw [List.length_set]; exact e.len
  rd := fun j y hj => by
    rcases get_set hj with ⟨rfl, q⟩ | ⟨n, q⟩
    · cases q
    · exact e.rd j y q
  ow := fun j rs2 hj => by
    rcases get_set hj with ⟨rfl, q⟩ | ⟨n, q⟩
    · cases q
      obtain ⟨p', vs, a, b, c, d, f⟩ := e.ow j rs hi
      rw [hs] at a
      cases a
      exact ⟨p, vs', hs, upd_same, ha, d, f⟩
    · obtain ⟨p', vs, a, b, c⟩ := e.ow j rs2 q
      have hne : p' ≠ p := fun z => e.ne i j rs rs2 p (Ne.symm n) hi q hs (by rw [← z]; exact a)
      exact ⟨p', vs, a, by rw [upd_ne hne]; exact b, c⟩
  ne := fun j k rs1 rs2 p' hn hj hk hs => by
    have f : ∀ {j : Nat} {rs1 : Ow}, (ρ.set i (.w rs'))[j]? = some (.w rs1) → ∃ rs3, ρ[j]? = some (.w rs3) := fun {j rs1} hj => by
      rcases get_set hj with ⟨rfl, q⟩ | ⟨n, q⟩
      · exact ⟨_, hi⟩
      · exact ⟨_, q⟩
    obtain ⟨r3, q⟩ := f hj
    obtain ⟨r4, q2⟩ := f hk
    exact e.ne j k r3 r4 p' hn q q2 hs
/-- the own list at slot i is told among what stays -/
theorem En.freeze (e : En H0 ρ σ G H) {rs : Ow} {i : Nat} (hi : ρ[i]? = some (.w rs)) (ex : Ex G H) : ∃ p vs, σ[i]? = some (some (.ref p)) ∧ H0 p = none ∧ G p = none ∧ H p = some vs ∧ rs.P p vs G ∧ En H0 (ρ.set i (.r rs.R)) σ (upd G p vs) H := by
  obtain ⟨p, vs, a, b, c, d, f⟩ := e.ow i rs hi
  have eg : Ex G (upd G p vs) := Ex.new d
  refine ⟨p, vs, a, f, d, b, c, by rw [List.length_set]; exact e.len, fun j y hj => ?_, fun j rs2 hj => ?_, fun j k rs1 rs2 p' hn hj hk hs => ?_⟩
  · rcases get_set hj with ⟨rfl, q⟩ | ⟨n, q⟩
    · cases q
      exact ⟨_, a, Ow.P.R (Ow.mono eg c) upd_same⟩
    · obtain ⟨v, h1, h2⟩ := e.rd j y q
      exact ⟨v, h1, y.mono eg h2⟩
  · rcases get_set hj with ⟨rfl, q⟩ | ⟨n, q⟩
    · cases q
    · obtain ⟨p', vs', a', b', c', d', f'⟩ := e.ow j rs2 q
      have hne : p' ≠ p := fun z => e.ne i j rs rs2 p (Ne.symm n) hi q a (by rw [← z]; exact a')
      exact ⟨p', vs', a', b', Ow.mono eg c', by rw [upd_ne hne]; exact d', f'⟩
  · rcases get_set hj with ⟨rfl, q⟩ | ⟨n, q⟩
    · cases q
    · rcases get_set hk with ⟨rfl, q2⟩ | ⟨n2, q2⟩
      · cases q2
      · exact e.ne j k rs1 rs2 p' hn q q2 hs
end

/-! ### judgements -/
def ER (te : TE) (ρ : List Sl) (r : Rp) : Prop := ∀ (H0 : Hp) (σ : L2.St) (G H : Hp), Ex H0 H → Ex G H → En H0 ρ σ G H → ∀ Q : VK, (∀ v G2 H2, Step G H G2 H2 → r.p v G2 → Q v H2) → te σ H Q
def TR (tt : TT) (ρ : List Sl) (b : Bool) : Prop := ∀ (H0 : Hp) (σ : L2.St) (G H : Hp), Ex H0 H → Ex G H → En H0 ρ σ G H → ∀ Q : Bool → Hp → Prop, (∀ G2 H2, Step G H G2 H2 → Q b H2) → tt σ H Q
def AR (ta : TA) (ρ : List Sl) (rs : List Rp) : Prop := ∀ (H0 : Hp) (σ : L2.St) (G H : Hp), Ex H0 H → Ex G H → En H0 ρ σ G H → ∀ Q : List V → Hp → Prop, (∀ vs G2 H2, Step G H G2 H2 → Al rs vs G2 → Q vs H2) → ta σ H Q
def OR (to : TO) (ρ : List Sl) (o : Option Int) : Prop := ∀ (H0 : Hp) (σ : L2.St) (G H : Hp), Ex H0 H → Ex G H → En H0 ρ σ G H → ∀ Q : Option Int → Hp → Prop, (∀ G2 H2, Step G H G2 H2 → Q o H2) → to σ H Q
/-- a two-place operation on values; a call on values -/
def BR (f : R2) (ra rb rc : Rp) : Prop := ∀ (x y : V) (G H : Hp), Ex G H → ra.p x G → rb.p y G → ∀ Q : VK, (∀ v G2 H2, Step G H G2 H2 → rc.p v G2 → Q v H2) → f x y H Q
def UR (f : V → Hp → VK → Prop) (ra rc : Rp) : Prop := ∀ (x : V) (G H : Hp), Ex G H → ra.p x G → ∀ Q : VK, (∀ v G2 H2, Step G H G2 H2 → rc.p v G2 → Q v H2) → f x H Q
def CR (f : List V → Hp → VK → Prop) (rs : List Rp) (rc : Rp) : Prop := ∀ (vs : List V) (G H : Hp), Ex G H → Al rs vs G → ∀ Q : VK, (∀ v G2 H2, Step G H G2 H2 → rc.p v G2 → Q v H2) → f vs H Q

section
variable {K : PySem.W.Frag} {ρ ρ' : List Sl} {ta tb tc te : TE} {t u : TT} {ra rb rc r : Rp} {rs : List Rp} {f : R2} {i j : Int}
theorem er_eq (h : ER te ρ ra) (e : ra = rb) : ER te ρ rb := e ▸ h
theorem er_imp (h : ER te ρ ra) (k : ∀ v G, ra.p v G → rb.p v G) : ER te ρ rb := fun H0 σ G H z e n Q q => h H0 σ G H z e n Q fun v G2 H2 s p => q v G2 H2 s (k v G2 p)
theorem er_ls (h : ER te ρ (lR rs)) : ER te ρ (sR K rs) := er_imp h fun _ _ p => lR_s p
theorem er_var {n : Nat} (h : ρ[n]? = some (.r r)) : ER (tVar n) ρ r := fun H0 σ G H z e n Q q => by
  obtain ⟨v, a, b⟩ := n.rd _ _ h
  exact ⟨v, a, q v G H (Step.refl e) b⟩
theorem er_c {x : V} : ER (tC x) ρ (vR x) := fun H0 σ G H z e n Q q => q x G H (Step.refl e) rfl
theorem er_op (ha : ER ta ρ ra) (hb : ER tb ρ rb) (hf : BR f ra rb rc) : ER (tOp f ta tb) ρ rc := fun H0 σ G H z e n Q q =>
  ha H0 σ G H z e n _ fun x G1 H1 s1 px => hb H0 σ G1 H1 (z.trans s1.h) s1.i (n.step s1) _ fun y G2 H2 s2 py =>
    hf x y G2 H2 s2.i (ra.mono s2.g px) py Q fun v G3 H3 s3 pv => q v G3 H3 ((s1.trans s2).trans s3) pv
theorem er_un {f : V → Hp → VK → Prop} (ha : ER ta ρ ra) (hf : UR f ra rc) : ER (tUn f ta) ρ rc := fun H0 σ G H z e n Q q =>
  ha H0 σ G H z e n _ fun x G1 H1 s1 px => hf x G1 H1 s1.i px Q fun v G3 H3 s3 pv => q v G3 H3 (s1.trans s3) pv
theorem br_I0 {g : Int → Int → V} : BR (rI0 g) (iR i) (iR j) (vR (g i j)) := fun x y G H e hx hy Q q => ⟨i, j, hx, hy, q _ G H (Step.refl e) rfl⟩
theorem br_I {C : Int → Int → Prop} {g : Int → Int → V} (hc : C i j) : BR (rI C g) (iR i) (iR j) (vR (g i j)) := fun x y G H e hx hy Q q => ⟨i, j, hx, hy, hc, q _ G H (Step.refl e) rfl⟩
theorem ur_I {g : Int → V} : UR (rU g) (iR i) (vR (g i)) := fun x G H e hx Q q => ⟨i, hx, q _ G H (Step.refl e) rfl⟩
theorem br_ixT {x : Rp} (h : atI rs i = some x) : BR (rIxT K) (tR K rs) (iR i) x := fun a y G H e ha hy Q q => by
  obtain ⟨p, vs, e1, h1, h2⟩ := ha
  obtain ⟨v, e2, hv⟩ := h2.at h
  exact ⟨p, vs, i, v, e1, hy, ex_t e h1, e2, q v G H (Step.refl e) hv⟩
theorem br_ixL {x : Rp} (h : atI rs i = some x) : BR (rIxL K) (sR K rs) (iR i) x := fun a y G H e ha hy Q q => by
  obtain ⟨p, vs, e1, h1, h2⟩ := ha
  obtain ⟨v, e2, hv⟩ := h2.at h
  exact ⟨p, vs, i, v, e1, hy, ex_l e h1, e2, q v G H (Step.refl e) hv⟩
theorem br_isN {x : V} : BR (fun x y H Q => y = .non ∧ Q (.bl (decide (x = .non))) H) (vR x) nR (bR (decide (x = .non))) := fun a y G H e ha hy Q q => by
  cases ha
  exact ⟨hy, q _ G H (Step.refl e) rfl⟩
/-- what isn't None -/
def NN (r : Rp) : Prop := ∀ v H, r.p v H → v ≠ .non
theorem br_isNf (hr : NN ra) : BR (fun x y H Q => y = .non ∧ Q (.bl (decide (x = .non))) H) ra nR (bR false) := fun a y G H e ha hy Q q =>
  ⟨hy, q _ G H (Step.refl e) (congrArg V.bl (decide_eq_false (hr _ _ ha)))⟩
theorem br_notNt (hr : NN ra) : BR (fun x y H Q => y = .non ∧ Q (.bl (!decide (x = .non))) H) ra nR (bR true) := fun a y G H e ha hy Q q =>
  ⟨hy, q _ G H (Step.refl e) (by rw [decide_eq_false (hr _ _ ha)]; rfl)⟩
theorem nn_t : NN (tR K rs) := fun v H ⟨p, vs, e, _⟩ z => by rw [e] at z; cases z
theorem nn_s : NN (sR K rs) := fun v H ⟨p, vs, e, _⟩ z => by rw [e] at z; cases z
theorem nn_l : NN (lR rs) := fun v H ⟨p, vs, e, _⟩ z => by rw [e] at z; cases z
theorem nn_o {C : Addr} {fs : List (Str × Rp)} : NN (oR C fs) := fun v H ⟨p, dx, vs, e, _⟩ z => by rw [e] at z; cases z
/-- lists glued -/
theorem br_cat {rs' : List Rp} (hl : rs.length + rs'.length ≤ 100000) : BR rCat (lR rs) (lR rs') (lR (rs ++ rs')) := fun a y G H e ha hy Q q => by
  obtain ⟨p, vs, e1, h1, h2⟩ := ha
  obtain ⟨p', vs', e1', h1', h2'⟩ := hy
  refine ⟨p, p', vs, vs', e1, e1', e p _ h1, e p' _ h1', by rw [← h2.len, ← h2'.len]; exact sz_of hl, fun l hn => ?_⟩
  have s := Step.new (o := .lst (vs ++ vs')) e hn
  exact q _ _ _ s ⟨l, _, rfl, upd_same, (h2.app h2').mono s.g⟩
/-- none, or one of flat things -/
theorem br_niT {x : V} {xs : List V} (hx : flatV x = true) (ha : xs.all flatV = true) : BR (rIn K true) (vR x) (tR K (xs.map vR)) (bR (!inV x xs)) := fun a y G H e hy hz Q q => by
  cases hy
  obtain ⟨p, vs, e1, h1, h2⟩ := hz
  have ev : ∀ {xs vs : List V}, Al (xs.map vR) vs G → vs = xs := by
    intro xs
    induction xs with
    | nil =>
      intro vs h
      cases vs with
      | nil => rfl
      | cons _ _ => exact h.elim
    | cons a r ih =>
      intro vs h
      cases vs with
      | nil => exact h.elim
      | cons v vs =>
        obtain ⟨h1, h2⟩ := h
        have h1 : v = a := h1
        rw [h1, ih h2]
  rw [ev h2] at h1
  exact ⟨p, xs, e1, .inr (ex_t e h1), hx, ha, q _ G H (Step.refl e) rfl⟩
/-! arguments, displays, calls -/
theorem ar_nil : AR tNil ρ [] := fun H0 σ G H z e n Q q => q [] G H (Step.refl e) trivial
theorem ar_cons {tr : TA} (h : ER ta ρ ra) (hr : AR tr ρ rs) : AR (tCons ta tr) ρ (ra :: rs) := fun H0 σ G H z e n Q q =>
  h H0 σ G H z e n _ fun x G1 H1 s1 px => hr H0 σ G1 H1 (z.trans s1.h) s1.i (n.step s1) _ fun vs G2 H2 s2 pv => q _ G2 H2 (s1.trans s2) ⟨ra.mono s2.g px, pv⟩
theorem er_tup {ta : TA} (h : AR ta ρ rs) (hl : rs.length ≤ 100000 := by exact Nat.le_of_ble_eq_true rfl) : ER (tTup ta) ρ (tR K rs) := fun H0 σ G H z e n Q q =>
  h H0 σ G H z e n _ fun vs G1 H1 s1 pv => ⟨by rw [← pv.len]; exact sz_of hl, fun p hp => by
    have s := Step.new (o := .tup vs) s1.i hp
    exact q _ _ _ (s1.trans s) ⟨p, vs, rfl, st_of upd_same, pv.mono s.g⟩⟩
theorem er_lst {ta : TA} (h : AR ta ρ rs) (hl : rs.length ≤ 100000 := by exact Nat.le_of_ble_eq_true rfl) : ER (tLst ta) ρ (lR rs) := fun H0 σ G H z e n Q q =>
  h H0 σ G H z e n _ fun vs G1 H1 s1 pv => ⟨by rw [← pv.len]; exact sz_of hl, fun p hp => by
    have s := Step.new (o := .lst vs) s1.i hp
    exact q _ _ _ (s1.trans s) ⟨p, vs, rfl, upd_same, pv.mono s.g⟩⟩
theorem er_callB {f : List V → Hp → VK → Prop} {ta : TA} (h : AR ta ρ rs) (hf : CR f rs rc) : ER (tCB f ta) ρ rc := fun H0 σ G H z e n Q q =>
  h H0 σ G H z e n _ fun vs G1 H1 s1 pv => hf vs G1 H1 s1.i pv Q fun v G2 H2 s2 p => q v G2 H2 (s1.trans s2) p
theorem cr_len : CR (fun xs H Q => ∃ p ys, xs = [.ref p] ∧ (SqL K H p ys ∨ SqT K H p ys) ∧ Q (.int ys.length) H) [sR K rs] (iR rs.length) := fun vs G H e hv Q q => by
    obtain ⟨v, e0, p, xs, e1, h1, h2⟩ := al1 hv
    subst e0
    subst e1
    refine ⟨p, xs, rfl, .inl (ex_l e h1), ?_⟩
    rw [← h2.len]
    exact q _ G H (Step.refl e) rfl
theorem cr_abs : CR (fun xs H Q => ∃ i, xs = [.int i] ∧ Q (.int (if i < 0 then -i else i)) H) [iR i] (iR (if i < 0 then -i else i)) := fun vs G H e hv Q q => by
    obtain ⟨v, e0, h1⟩ := al1 hv
    have h1 : v = .int i := h1
    subst e0
    subst h1
    exact ⟨i, rfl, q _ G H (Step.refl e) rfl⟩
theorem al_vR {G : Hp} : ∀ {xs vs : List V}, Al (xs.map vR) vs G → vs = xs
  | [], [], _ => rfl
  | [], _ :: _, h => h.elim
  | _ :: _, [], h => h.elim
  | a :: r, v :: vs, h => by
    have h1 : v = a := h.1
    rw [h1, al_vR h.2]
theorem al_bl {G : Hp} {bs : List Bool} {vs : List V} (h : Al (bs.map bR) vs G) : vs = bs.map V.bl := by
  have h : Al ((bs.map V.bl).map vR) vs G := by rw [List.map_map]; exact h
  exact al_vR h
theorem al_int {G : Hp} {ns : List Int} {vs : List V} (h : Al (ns.map iR) vs G) : vs = ns.map V.int := by
  have h : Al ((ns.map V.int).map vR) vs G := by rw [List.map_map]; exact h
  exact al_vR h
theorem cr_all {bs : List Bool} : CR (rAll K) [sR K (bs.map bR)] (bR (bs.all id)) := fun vs G H e hv Q q => by
    obtain ⟨v, e0, p, xs, e1, h1, h2⟩ := al1 hv
    subst e0
    subst e1
    rw [al_bl h2] at h1
    exact ⟨p, bs, rfl, ex_l e h1, q _ G H (Step.refl e) rfl⟩
theorem cr_any {bs : List Bool} : CR (rAny K) [sR K (bs.map bR)] (bR (bs.any id)) := fun vs G H e hv Q q => by
    obtain ⟨v, e0, p, xs, e1, h1, h2⟩ := al1 hv
    subst e0
    subst e1
    rw [al_bl h2] at h1
    exact ⟨p, bs, rfl, ex_l e h1, q _ G H (Step.refl e) rfl⟩
theorem cr_sum {ns : List Int} : CR (rSum K) [sR K (ns.map iR)] (iR ns.sum) := fun vs G H e hv Q q => by
    obtain ⟨v, e0, p, xs, e1, h1, h2⟩ := al1 hv
    subst e0
    subst e1
    rw [al_int h2] at h1
    exact ⟨p, ns, rfl, ex_l e h1, q _ G H (Step.refl e) rfl⟩
/-- list(a list), list(a tuple) -/
theorem cr_listT : CR (fun xs H Q => ∃ p ys, xs = [.ref p] ∧ (SqL K H p ys ∨ SqT K H p ys) ∧ ∀ l, H l = none → Q (.ref l) (upd H l (.lst ys))) [tR K rs] (lR rs) := fun vs G H e hv Q q => by
    obtain ⟨v, e0, p, xs, e1, h1, h2⟩ := al1 hv
    subst e0
    subst e1
    refine ⟨p, xs, rfl, .inr (ex_t e h1), fun l hl => ?_⟩
    have s := Step.new (o := .lst xs) e hl
    exact q _ _ _ s ⟨l, xs, rfl, upd_same, h2.mono s.g⟩
theorem cr_listL : CR (fun xs H Q => ∃ p ys, xs = [.ref p] ∧ (SqL K H p ys ∨ SqT K H p ys) ∧ ∀ l, H l = none → Q (.ref l) (upd H l (.lst ys))) [sR K rs] (lR rs) := fun vs G H e hv Q q => by
    obtain ⟨v, e0, p, xs, e1, h1, h2⟩ := al1 hv
    subst e0
    subst e1
    refine ⟨p, xs, rfl, .inl (ex_l e h1), fun l hl => ?_⟩
    have s := Step.new (o := .lst xs) e hl
    exact q _ _ _ s ⟨l, xs, rfl, upd_same, h2.mono s.g⟩
/-! slices -/
theorem or_no : OR tNoPart ρ none := fun H0 σ G H z e n Q q => q G H (Step.refl e)
theorem or_some (h : ER te ρ (iR i)) : OR (tPart te) ρ (some i) := fun H0 σ G H z e n Q q => h H0 σ G H z e n _ fun v G1 H1 s1 pv => ⟨i, pv, q G1 H1 s1⟩
theorem er_slice {tl th : TO} {lo hi : Option Int} (h : ER te ρ (sR K rs)) (hl : OR tl ρ lo) (hh : OR th ρ hi) : ER (tSl (rSlL K) te tl th) ρ (lR (cutA rs lo hi)) := fun H0 σ G H z e n Q q =>
  h H0 σ G H z e n _ fun v G1 H1 s1 ⟨p, vs, e1, h1, h2⟩ => hl H0 σ G1 H1 (z.trans s1.h) s1.i (n.step s1) _ fun G2 H2 s2 => hh H0 σ G2 H2 ((z.trans s1.h).trans s2.h) s2.i ((n.step s1).step s2) _ fun G3 H3 s3 =>
    ⟨p, vs, e1, ex_l ((s2.g.trans s3.g).trans s3.i) h1, fun l hn => by
      have s := Step.new (o := .lst (cutV vs lo hi)) s3.i hn
      exact q _ _ _ (((s1.trans s2).trans s3).trans s) ⟨l, _, rfl, upd_same, (h2.cut lo hi).mono ((s2.g.trans s3.g).trans s.g)⟩⟩
/-! fields -/
theorem er_fld {C : Addr} {fs : List (Str × Rp)} {g : Str} (h : ER te ρ (oR C fs)) (hc : Cls K C) (hn : NoAttr K C g) (hl : fs.lookup g = some r) : ER (tFld K te g) ρ r := fun H0 σ G H z e n Q q =>
  h H0 σ G H z e n _ fun v G1 H1 s1 ⟨a, dx, kvs, e1, h1, h2⟩ => by
    obtain ⟨x, h3, h4⟩ := h2.lookup hl
    exact ⟨a, C, dx, kvs, x, e1, s1.i a _ h1, hc, hn, h3, q x G1 H1 s1 h4⟩
/-! truth -/
theorem er_b {b b' : Bool} (h : ER te ρ (bR b)) (e : b = b') : ER te ρ (bR b') := e ▸ h
theorem er_i {a b : Int} (h : ER te ρ (iR a)) (e : a = b) : ER te ρ (iR b) := e ▸ h
theorem tr_eq {b b' : Bool} (h : TR t ρ b) (e : b = b') : TR t ρ b' := e ▸ h
theorem tr_test {b : Bool} (h : ER te ρ (bR b)) : TR (tTest te) ρ b := fun H0 σ G H z e n Q q => h H0 σ G H z e n _ fun v G1 H1 s1 pv => ⟨b, pv, q G1 H1 s1⟩
theorem tr_B {b : Bool} (h : ER te ρ (bR b)) : TR (tB te) ρ b := fun H0 σ G H z e n Q q => h H0 σ G H z e n _ fun v G1 H1 s1 pv => ⟨b, pv, q G1 H1 s1⟩
theorem tr_and {a b : Bool} (h1 : TR t ρ a) (h2 : a = true → TR u ρ b) : TR (tAnd t u) ρ (a && b) := fun H0 σ G H z e n Q q => h1 H0 σ G H z e n _ fun G1 H1 s1 => by
  cases a with
  | true =>
    show u σ H1 Q
    exact h2 rfl H0 σ G1 H1 (z.trans s1.h) s1.i (n.step s1) Q fun G2 H2 s2 => q G2 H2 (s1.trans s2)
  | false =>
    show Q false H1
    exact q G1 H1 s1
theorem tr_or {a b : Bool} (h1 : TR t ρ a) (h2 : a = false → TR u ρ b) : TR (tOr t u) ρ (a || b) := fun H0 σ G H z e n Q q => h1 H0 σ G H z e n _ fun G1 H1 s1 => by
  cases a with
  | false =>
    show u σ H1 Q
    exact h2 rfl H0 σ G1 H1 (z.trans s1.h) s1.i (n.step s1) Q fun G2 H2 s2 => q G2 H2 (s1.trans s2)
  | true =>
    show Q true H1
    exact q G1 H1 s1
theorem tr_not {a : Bool} (h1 : TR t ρ a) : TR (tNot t) ρ (!a) := fun H0 σ G H z e n Q q => h1 H0 σ G H z e n _ fun G1 H1 s1 => q G1 H1 s1
theorem tr_yes : TR tYes ρ true := fun H0 σ G H z e n Q q => q G H (Step.refl e)
theorem er_and {a b : Bool} (h1 : ER ta ρ (bR a)) (h2 : a = true → ER tb ρ (bR b)) : ER (tAndV ta tb) ρ (bR (a && b)) := fun H0 σ G H z e n Q q => h1 H0 σ G H z e n _ fun v G1 H1 s1 pv => ⟨a, pv, by
  cases a with
  | true =>
    show tb σ H1 Q
    exact h2 rfl H0 σ G1 H1 (z.trans s1.h) s1.i (n.step s1) Q fun v G2 H2 s2 p => q v G2 H2 (s1.trans s2) p
  | false =>
    show Q (.bl false) H1
    exact q _ G1 H1 s1 rfl⟩
theorem er_or {a b : Bool} (h1 : ER ta ρ (bR a)) (h2 : a = false → ER tb ρ (bR b)) : ER (tOrV ta tb) ρ (bR (a || b)) := fun H0 σ G H z e n Q q => h1 H0 σ G H z e n _ fun v G1 H1 s1 pv => ⟨a, pv, by
  cases a with
  | false =>
    show tb σ H1 Q
    exact h2 rfl H0 σ G1 H1 (z.trans s1.h) s1.i (n.step s1) Q fun v G2 H2 s2 p => q v G2 H2 (s1.trans s2) p
  | true =>
    show Q (.bl true) H1
    exact q _ G1 H1 s1 rfl⟩
theorem er_not {a : Bool} (h1 : ER ta ρ (bR a)) : ER (tNotV ta) ρ (bR (!a)) := fun H0 σ G H z e n Q q => h1 H0 σ G H z e n _ fun v G1 H1 s1 pv => ⟨a, pv, q _ G1 H1 s1 rfl⟩
theorem er_chain {f g : R2} {a b : Bool} (ha : ER ta ρ ra) (hb : ER tb ρ rb) (h1 : BR f ra rb (bR a)) (hc : ER tc ρ rc) (h2 : BR g rb rc (bR b)) : ER (tChain f g ta tb tc) ρ (bR (a && b)) := fun H0 σ G H z e n Q q =>
  ha H0 σ G H z e n _ fun x G1 H1 s1 px => hb H0 σ G1 H1 (z.trans s1.h) s1.i (n.step s1) _ fun y G2 H2 s2 py =>
    h1 x y G2 H2 s2.i (ra.mono s2.g px) py _ fun v G3 H3 s3 pv => ⟨a, pv, by
      cases a with
      | true =>
        show tc σ H3 fun w H4 => g y w H4 Q
        exact hc H0 σ G3 H3 (((z.trans s1.h).trans s2.h).trans s3.h) s3.i (((n.step s1).step s2).step s3) _ fun w G4 H4 s4 pw =>
          h2 y w G4 H4 s4.i (rb.mono (s3.g.trans s4.g) py) pw Q fun v G5 H5 s5 p => q v G5 H5 ((((s1.trans s2).trans s3).trans s4).trans s5) p
      | false =>
        show Q (.bl false) H3
        exact q _ G3 H3 ((s1.trans s2).trans s3) rfl⟩
end
end Rc
namespace Rc
open PySem PySem.Spec PyProof.Rows L2 Evl

/-! ### statements -/
inductive Fl where
  | nx (ρ : List Sl)
  | rt (r : Rp)
def Wt (D : Ends) (G0 H0 G : Hp) : Fl → Prop
  | .nx ρ => ∀ (σ' : L2.St) (G' H' : Hp), Ex G G' → Step G0 H0 G' H' → En H0 ρ σ' G' H' → D.nx σ' H'
  | .rt r => ∀ (v : V) (G' H' : Hp), Step G0 H0 G' H' → r.p v G' → D.rt v H'
def S (t : TS) (ρ : List Sl) (fl : Fl) : Prop := ∀ (G0 H0 : Hp) (σ : L2.St) (G H : Hp), Step G0 H0 G H → En H0 ρ σ G H → ∀ D : Ends, Wt D G0 H0 G fl → t D σ H
def Le (ρ ρ' : List Sl) : Prop := ∀ (H0 : Hp) (σ : L2.St) (G H : Hp), En H0 ρ σ G H → En H0 ρ' σ G H
theorem Le.refl (ρ : List Sl) : Le ρ ρ := fun _ _ _ _ h => h
theorem Le.trans {ρ ρ1 ρ2 : List Sl} (a : Le ρ ρ1) (b : Le ρ1 ρ2) : Le ρ ρ2 := fun H0 σ G H h => b H0 σ G H (a H0 σ G H h)
theorem Le.no (ρ : List Sl) (i : Nat) : Le ρ (ρ.set i .no) := fun _ _ _ _ h => h.forget i
theorem Le.of {ρ ρ' : List Sl} (h : ρ = ρ') : Le ρ ρ' := h ▸ Le.refl ρ
theorem Wt.mono {D : Ends} {G0 H0 G G' : Hp} {fl : Fl} (e : Ex G G') (w : Wt D G0 H0 G fl) : Wt D G0 H0 G' fl := by
  cases fl with
  | nx ρ => exact fun σ2 G2 H2 e2 s n => w σ2 G2 H2 (e.trans e2) s n
  | rt r => exact w
section
variable {K : PySem.W.Frag} {ρ ρ1 ρ2 : List Sl} {fl : Fl} {t u : TS} {c : TT} {te : TE} {r : Rp}
theorem s_le (h : Le ρ ρ1) (k : S t ρ1 fl) : S t ρ fl := fun G0 H0 σ G H s n D w => k G0 H0 σ G H s (h _ _ _ _ n) D w
theorem s_le2 (k : S t ρ (.nx ρ1)) (h : Le ρ1 ρ2) : S t ρ (.nx ρ2) := fun G0 H0 σ G H s n D w => k G0 H0 σ G H s n D fun σ2 G2 H2 e s2 n2 => w σ2 G2 H2 e s2 (h _ _ _ _ n2)
theorem s_next : S tNext ρ (.nx ρ) := fun G0 H0 σ G H s n D w => w σ G H (Ex.refl G) s n
theorem s_ret (h : ER te ρ r) : S (tRet te) ρ (.rt r) := fun G0 H0 σ G H s n D w => h H0 σ G H s.h s.i n D.rt fun v G2 H2 s2 p => w v G2 H2 (s.trans s2) p
theorem s_retN : S tRetN ρ (.rt nR) := fun G0 H0 σ G H s n D w => w .non G H s rfl
theorem s_seq (h : S t ρ (.nx ρ1)) (k : S u ρ1 fl) : S (tSeq t u) ρ fl := fun G0 H0 σ G H s n D w =>
  h G0 H0 σ G H s n { D with nx := u D } fun σ2 G2 H2 e s2 n2 => k G0 H0 σ2 G2 H2 s2 n2 D (w.mono e)
theorem s_seqR (h : S t ρ (.rt r)) : S (tSeq t u) ρ (.rt r) := fun G0 H0 σ G H s n D w => h G0 H0 σ G H s n { D with nx := u D } w
theorem s_drop (h : ER te ρ r) : S (tDrop te) ρ (.nx ρ) := fun G0 H0 σ G H s n D w => h H0 σ G H s.h s.i n _ fun v G2 H2 s2 p => w σ G2 H2 s2.g (s.trans s2) (n.step s2)
theorem s_if {b : Bool} (h : TR c ρ b) (h1 : b = true → S t ρ fl) (h2 : b = false → S u ρ fl) : S (tIfS c t u) ρ fl := fun G0 H0 σ G H s n D w =>
  h H0 σ G H s.h s.i n _ fun G2 H2 s2 => by
    cases b with
    | true =>
      show t D σ H2
      exact h1 rfl G0 H0 σ G2 H2 (s.trans s2) (n.step s2) D (w.mono s2.g)
    | false =>
      show u D σ H2
      exact h2 rfl G0 H0 σ G2 H2 (s.trans s2) (n.step s2) D (w.mono s2.g)
theorem s_ifT (h : TR c ρ true) (h1 : S t ρ fl) : S (tIfS c t u) ρ fl := s_if h (fun _ => h1) fun z => nomatch z
theorem s_ifF (h : TR c ρ false) (h1 : S u ρ fl) : S (tIfS c t u) ρ fl := s_if h (fun z => nomatch z) fun _ => h1
/-! targets: is are the slots that are written -/
def GR (g : TG) (is : List Nat) (r : Rp) (ρ ρ' : List Sl) : Prop := ∀ (H0 : Hp) (σ : L2.St) (G H : Hp) (v : V), Ex G H → En H0 ρ σ G H → r.p v G →
  ∀ Q : L2.St → Hp → Prop, (∀ σ', En H0 ρ' σ' G H → (∀ vs : List Nat, (∀ i ∈ is, i ∈ vs) → wipe σ' vs = wipe σ vs) → Q σ' H) → g v σ H Q
def GsR (g : TGs) (is : List Nat) (rs : List Rp) (ρ ρ' : List Sl) : Prop := ∀ (H0 : Hp) (σ : L2.St) (G H : Hp) (vs : List V), Ex G H → En H0 ρ σ G H → Al rs vs G →
  ∀ Q : L2.St → Hp → Prop, (∀ σ', En H0 ρ' σ' G H → (∀ vs : List Nat, (∀ i ∈ is, i ∈ vs) → wipe σ' vs = wipe σ vs) → Q σ' H) → g vs σ H Q
theorem wipe_set {σ : L2.St} {i : Nat} {x : Option V} : ∀ {vs : List Nat}, i ∈ vs → wipe (σ.set i x) vs = wipe σ vs
  | v :: vs, h => by
    show (wipe (σ.set i x) vs).set v none = (wipe σ vs).set v none
    by_cases c : i ∈ vs
    · rw [wipe_set c]
    · have e : i = v := by
        rcases List.mem_cons.mp h with z | z
        · exact z
        · exact absurd z c
      subst e
      apply List.ext_getElem?
      intro j
      by_cases hj : i = j
      · subst hj
        rw [List.getElem?_set_self', List.getElem?_set_self']
        have f : ∀ (ws : List Nat), i ∉ ws → (wipe (σ.set i x) ws)[i]?.isSome = (wipe σ ws)[i]?.isSome := fun ws hw => by
          rw [wipe_out hw, wipe_out hw, List.getElem?_set_self']
          cases σ[i]? <;> rfl
        have f := f vs c
        cases h1 : (wipe (σ.set i x) vs)[i]? <;> cases h2 : (wipe σ vs)[i]? <;> simp [h1, h2] at f ⊢
      · rw [List.getElem?_set_ne hj, List.getElem?_set_ne hj]
        by_cases hv : j ∈ vs
        · have g : ∀ (τ : L2.St) (ws : List Nat), j ∈ ws → (wipe τ ws)[j]? = if j < τ.length then some none else none := by
            intro τ ws
            induction ws with
            | nil => intro z; cases z
            | cons w ws ih =>
              intro z
              show ((wipe τ ws).set w none)[j]? = _
              by_cases cw : w = j
              · subst cw
                rw [List.getElem?_set_self']
                by_cases hl : w < τ.length
                · rw [if_pos hl, List.getElem?_eq_getElem (by rw [wipe_length]; exact hl)]
                  rfl
                · rw [if_neg hl, List.getElem?_eq_none (by rw [wipe_length]; omega)]
                  rfl
              · rw [List.getElem?_set_ne cw]
                rcases List.mem_cons.mp z with q | q
                · exact absurd q.symm cw
                · exact ih q
          rw [g _ _ hv, g _ _ hv, List.length_set]
        · rw [wipe_out hv, wipe_out hv, List.getElem?_set_ne hj]
theorem wipe_wipe (σ : L2.St) (vs : List Nat) : wipe (wipe σ vs) vs = wipe σ vs := by
  have h : ∀ (ws : List Nat), (∀ i ∈ ws, i ∈ vs) → wipe (wipe σ ws) vs = wipe σ vs := by
    intro ws
    induction ws with
    | nil => intro _; rfl
    | cons w ws ih =>
      intro h
      show wipe ((wipe σ ws).set w none) vs = _
      rw [wipe_set (h w List.mem_cons_self)]
      exact ih fun i hi => h i (List.mem_cons_of_mem _ hi)
  exact h vs fun _ h => h
theorem g_name {i : Nat} : GR (gName i) [i] r ρ (ρ.set i (.r r)) := fun H0 σ G H v e n p Q q => q _ (n.set p i) fun vs h => wipe_set (h i List.mem_cons_self)
theorem gs_nil : GsR gNil [] [] ρ ρ := fun H0 σ G H vs e n p Q q => ⟨al0 p, q _ n fun _ _ => rfl⟩
theorem gs_cons {g : TG} {gs : TGs} {is js : List Nat} {rs : List Rp} (h : GR g is r ρ ρ1) (k : GsR gs js rs ρ1 ρ2) : GsR (gCons g gs) (is ++ js) (r :: rs) ρ ρ2 := fun H0 σ G H vs e n p Q q => by
  obtain ⟨v, ws, e1, p1, p2⟩ := alc p
  exact ⟨v, ws, e1, h H0 σ G H v e n p1 _ fun σ1 n1 w1 => k H0 σ1 G H ws e n1 p2 _ fun σ2 n2 w2 => q σ2 n2 fun vs hv => by
    rw [w2 vs fun i hi => hv i (List.mem_append_right _ hi), w1 vs fun i hi => hv i (List.mem_append_left _ hi)]⟩
theorem g_tup {gs : TGs} {is : List Nat} {rs : List Rp} {n : Nat} (h : GsR gs is rs ρ ρ1) (hl : rs.length = n := by rfl) : GR (gTup K n gs) is (tR K rs) ρ ρ1 := fun H0 σ G H v e en p Q q => by
  obtain ⟨a, vs, e1, h1, h2⟩ := p
  exact ⟨a, vs, e1, ex_t e h1, by rw [← h2.len]; exact hl, h H0 σ G H vs e en h2 Q q⟩
theorem g_two {i j : Nat} {r1 r2 : Rp} : GR (gTup K 2 (gCons (gName i) (gCons (gName j) gNil))) [i, j] (tR K [r1, r2]) ρ ((ρ.set i (.r r1)).set j (.r r2)) := g_tup (gs_cons g_name (gs_cons g_name gs_nil))
theorem g_three {i j k : Nat} {r1 r2 r3 : Rp} : GR (gTup K 3 (gCons (gName i) (gCons (gName j) (gCons (gName k) gNil)))) [i, j, k] (tR K [r1, r2, r3]) ρ (((ρ.set i (.r r1)).set j (.r r2)).set k (.r r3)) := g_tup (gs_cons g_name (gs_cons g_name (gs_cons g_name gs_nil)))
theorem s_asg {g : TG} {is : List Nat} (h : ER te ρ r) (k : GR g is r ρ ρ1) : S (tAsg te g) ρ (.nx ρ1) := fun G0 H0 σ G H s n D w =>
  h H0 σ G H s.h s.i n _ fun v G2 H2 s2 p => k H0 σ G2 H2 v s2.i (n.step s2) p _ fun σ' n' _ => w σ' G2 H2 s2.g (s.trans s2) n'
theorem s_set {i : Nat} (h : ER te ρ r) : S (tAsg te (gName i)) ρ (.nx (ρ.set i (.r r))) := s_asg h g_name
theorem s_par {i j : Nat} {ta : TA} {r1 r2 : Rp} (h : AR ta ρ [r1, r2]) : S (tPar i j ta) ρ (.nx ((ρ.set i (.r r1)).set j (.r r2))) := fun G0 H0 σ G H s n D w =>
  h H0 σ G H s.h s.i n _ fun vs G2 H2 s2 p => by
    obtain ⟨v, x, e, p1, p2⟩ := al2 p
    exact ⟨v, x, e, w _ G2 H2 s2.g (s.trans s2) (((n.step s2).set p1 i).set p2 j)⟩
/-! own lists -/
/-- a display [..] that will be changed -/
theorem s_own {i : Nat} {ta : TA} {rs : List Rp} (h : AR ta ρ rs) (hl : rs.length ≤ 100000 := by exact Nat.le_of_ble_eq_true rfl) : S (tAsg (tLst ta) (gName i)) ρ (.nx (ρ.set i (.l rs))) := fun G0 H0 σ G H s n D w =>
  h H0 σ G H s.h s.i n _ fun vs G2 H2 s2 p => ⟨by rw [← p.len]; exact sz_of hl, fun a ha => by
    have st : Step G0 H0 G2 H2 := s.trans s2
    have ex : Ex H2 (upd H2 a (.lst vs)) := Ex.new ha
    exact w _ G2 _ s2.g ⟨st.g, st.h.trans ex, st.i.trans ex, st.n⟩ ((n.step s2).own (rs := .l rs) (vs := .lst vs) s2.i st.h ha ⟨vs, rfl, p⟩ i)⟩
theorem Step.mut {G0 H0 G H : Hp} {p : Addr} {o : HO} (s : Step G0 H0 G H) (h0 : H0 p = none) (hg : G p = none) : Step G0 H0 G (upd H p o) :=
  ⟨s.g, Ex.mut s.h h0, Ex.mut s.i hg, s.n⟩
theorem s_app {i : Nat} {rs : List Rp} (hi : ρ[i]? = some (.l rs)) (h : ER te ρ r) (hz : rs.length < 100000) :
    S (tDrop (tBM K "list" rAppend (tVar i) (tCons te tNil))) ρ (.nx (ρ.set i (.l (rs ++ [r])))) := fun G0 H0 σ G H s n D w => by
  obtain ⟨p, _, e1, e2, ⟨vs, rfl, e3⟩, e4, e5⟩ := n.ow i (.l rs) hi
  refine ⟨.ref p, e1, Or.inl ⟨rfl, vs, SqL.of e2⟩, ?_⟩
  refine h H0 σ G H s.h s.i n _ fun v G2 H2 s2 pv => ?_
  have n2 := n.step s2
  obtain ⟨p', _, f1, f2, ⟨vs', rfl, f3⟩, f4, f5⟩ := n2.ow i (.l rs) hi
  rw [e1] at f1
  cases f1
  refine ⟨p, vs', v, rfl, rfl, f2, by rw [← f3.len]; exact sz_lt hz, ?_⟩
  exact w σ G2 _ s2.g ((s.trans s2).mut f5 f4) (n2.put hi e1 ⟨_, rfl, f3.snoc pv⟩)
theorem s_ext {i : Nat} {rs rs' : List Rp} (hi : ρ[i]? = some (.l rs)) (h : ER te ρ (lR rs')) (hz : rs.length + rs'.length ≤ 100000) :
    S (tDrop (tBM K "list" rExtend (tVar i) (tCons te tNil))) ρ (.nx (ρ.set i (.l (rs ++ rs')))) := fun G0 H0 σ G H s n D w => by
  obtain ⟨p, _, e1, e2, ⟨vs, rfl, e3⟩, e4, e5⟩ := n.ow i (.l rs) hi
  refine ⟨.ref p, e1, Or.inl ⟨rfl, vs, SqL.of e2⟩, ?_⟩
  refine h H0 σ G H s.h s.i n _ fun v G2 H2 s2 ⟨b, ws, eb, hb, ab⟩ => ?_
  have n2 := n.step s2
  obtain ⟨p', _, f1, f2, ⟨vs', rfl, f3⟩, f4, f5⟩ := n2.ow i (.l rs) hi
  rw [e1] at f1
  cases f1
  subst eb
  refine ⟨p, b, vs', ws, rfl, rfl, f2, s2.i b _ hb, by rw [← f3.len, ← ab.len]; exact sz_of hz, ?_⟩
  exact w σ G2 _ s2.g ((s.trans s2).mut f5 f4) (n2.put hi e1 ⟨_, rfl, f3.app ab⟩)
/-- an own list isn't changed any more -/
theorem s_freezeO {o : Ow} (i : Nat) (hi : ρ[i]? = some (.w o)) (k : S t (ρ.set i (.r o.R)) fl) : S t ρ fl := fun G0 H0 σ G H s n D w => by
  obtain ⟨p, vs, e1, h0, hg, hh, _, n2⟩ := n.freeze hi s.i
  have ex : Ex G (upd G p vs) := Ex.new hg
  refine k G0 H0 σ _ H ⟨s.g.trans ex, s.h, fun a o q => ?_, fun a q1 q2 => ?_⟩ n2 D (w.mono ex)
  · by_cases c : a = p
    · subst c
      rw [upd_same] at q
      cases q
      exact hh
    · rw [upd_ne c] at q
      exact s.i a o q
  · have c : a ≠ p := fun z => q1 (by rw [z]; exact h0)
    rw [upd_ne c]
    exact s.n a q1 q2
theorem s_freeze {rs : List Rp} (i : Nat) (hi : ρ[i]? = some (.l rs)) (k : S t (ρ.set i (.r (lR rs))) fl) : S t ρ fl := s_freezeO i hi k
/-- a field of an own instance is stored -/
theorem AlF.put {H : Hp} {f : Str} {r : Rp} {v : V} (hv : r.p v H) : ∀ {fs : List (Str × Rp)} {kvs : List (Str × V)}, AlF fs kvs H → fs.lookup f = none → AlF (fs ++ [(f, r)]) (putF f v kvs) H
  | [], [], _, _ => ⟨rfl, hv, trivial⟩
  | [], _ :: _, h, _ => h.2.elim
  | _ :: _, [], h, _ => h.2.elim
  | (g, r') :: fs, (k, x) :: kvs, h, e => by
    obtain ⟨h1, h2, h3⟩ := h
    have hk : k = g := (List.cons.inj h1).1
    subst hk
    have c : (f == k) = false := by
      cases c : f == k
      · rfl
      · simp only [List.lookup, c] at e
        cases e
    have ne : ¬ k = f := fun z => by
      rw [z, beq_self_eq_true] at c
      cases c
    simp only [List.lookup, c] at e
    obtain ⟨i1, i2⟩ := AlF.put hv (fs := fs) (kvs := kvs) ⟨(List.cons.inj h1).2, h3⟩ e
    have q : putF f v ((k, x) :: kvs) = (k, x) :: putF f v kvs := if_neg ne
    rw [q]
    exact ⟨congrArg (k :: ·) i1, h2, i2⟩
theorem AlF.len {H : Hp} {fs : List (Str × Rp)} {kvs : List (Str × V)} (h : AlF fs kvs H) : kvs.length = fs.length := by
  have := congrArg List.length h.1
  simpa using this
theorem s_fldO {i : Nat} {a C : Addr} {f : Str} {fs : List (Str × Rp)} (hi : ρ[i]? = some (.w (.i a C fs))) (hc : Cls K C) (hn : NoAttr K C f) (hf : fs.lookup f = none) (hl : fs.length < 900) (h : ER te ρ r) :
    S (sFld K (tVar i) te f) ρ (.nx (ρ.set i (.w (.i a C (fs ++ [(f, r)]))))) := fun G0 H0 σ G H s n D w =>
  h H0 σ G H s.h s.i n _ fun v G2 H2 s2 pv => by
  have n2 := n.step s2
  obtain ⟨p, _, f1, f2, ⟨rfl, dx, kvs, rfl, f3⟩, f4, f5⟩ := n2.ow i _ hi
  refine ⟨.ref p, f1, p, C, dx, kvs, rfl, f2, hc, hn, by rw [f3.len]; omega, ?_⟩
  exact w σ G2 _ s2.g ((s.trans s2).mut f5 f4) (n2.put hi f1 ⟨rfl, dx, _, rfl, f3.put pv hf⟩)
/-- len, item of an own list -/
theorem er_ownLen {i : Nat} {rs : List Rp} (hi : ρ[i]? = some (.l rs)) : ER (tCB (fun xs H Q => ∃ p ys, xs = [.ref p] ∧ (SqL K H p ys ∨ SqT K H p ys) ∧ Q (.int ys.length) H) (tCons (tVar i) tNil)) ρ (iR rs.length) := fun H0 σ G H z e n Q q => by
  obtain ⟨p, _, e1, e2, ⟨vs, rfl, e3⟩, e4, e5⟩ := n.ow i (.l rs) hi
  refine ⟨.ref p, e1, p, vs, rfl, .inl (SqL.of e2), ?_⟩
  rw [← e3.len]
  exact q _ G H (Step.refl e) rfl
theorem er_ownIx {i : Nat} {rs : List Rp} {j : Int} (hi : ρ[i]? = some (.l rs)) (h : ER te ρ (iR j)) (ha : atI rs j = some r) : ER (tOp (rIxL K) (tVar i) te) ρ r := fun H0 σ G H z e n Q q => by
  obtain ⟨p, _, e1, e2, ⟨vs, rfl, e3⟩, e4, e5⟩ := n.ow i (.l rs) hi
  refine ⟨.ref p, e1, h H0 σ G H z e n _ fun v G1 H1 s1 pv => ?_⟩
  obtain ⟨x, e6, hx⟩ := e3.at ha
  exact ⟨p, vs, j, x, rfl, pv, SqL.of (s1.h p _ e2), e6, q x G1 H1 s1 (r.mono s1.g hx)⟩
/-! ### while -/
theorem s_while {α : Type} (I : α → Prop) (env : α → List Sl) (m : α → Nat) (a0 : α) (ha : I a0) (h0 : Le ρ (env a0)) (hs : ∀ a, I a →
    (TR c (env a) true ∧ ((∃ a', I a' ∧ m a' < m a ∧ S t (env a) (.nx (env a'))) ∨ (∃ r, fl = .rt r ∧ S t (env a) (.rt r)))) ∨ (TR c (env a) false ∧ ∃ ρ', fl = .nx ρ' ∧ Le (env a) ρ')) : S (tWhile c t) ρ fl := fun G0 H0 σ G H s n D w => by
  refine ⟨fun k σ' H' => ∃ a G', I a ∧ m a = k ∧ Ex G G' ∧ Step G0 H0 G' H' ∧ En H0 (env a) σ' G' H', ⟨m a0, a0, G, ha, rfl, Ex.refl G, s, h0 _ _ _ _ n⟩, ?_⟩
  rintro k σ1 H1 ⟨a, G1, ia, rfl, eg, s1, n1⟩
  rcases hs a ia with ⟨hc, hb⟩ | ⟨hc, ρ', e, le⟩
  · refine hc H0 σ1 G1 H1 s1.h s1.i n1 _ fun G2 H2 s2 => ?_
    rw [if_pos rfl]
    rcases hb with ⟨a', ia', lt, k⟩ | ⟨r, e, k⟩
    · refine ⟨fun σ' H' => ∃ G', Ex G G' ∧ Step G0 H0 G' H' ∧ En H0 (env a') σ' G' H', fun σ' H' ⟨G', x1, x2, x3⟩ => ⟨m a', lt, a', G', ia', rfl, x1, x2, x3⟩, ?_⟩
      exact k G0 H0 σ1 G2 H2 (s1.trans s2) (n1.step s2) _ fun σ3 G3 H3 e3 s3 n3 => ⟨G3, (eg.trans s2.g).trans e3, s3, n3⟩
    · subst e
      refine ⟨fun _ _ => False, fun _ _ z => z.elim, ?_⟩
      exact k G0 H0 σ1 G2 H2 (s1.trans s2) (n1.step s2) _ w
  · subst e
    refine hc H0 σ1 G1 H1 s1.h s1.i n1 _ fun G2 H2 s2 => ?_
    rw [if_neg Bool.false_ne_true]
    exact w σ1 G2 H2 (eg.trans s2.g) (s1.trans s2) (le _ _ _ _ (n1.step s2))
/-! ### what is walked -/
structure Wk (J : It) (G1 : Hp) (rs : List Rp) : Prop where
  go : ∀ (i : Nat) (G H : Hp), Ex G1 G → Ex G H → i < rs.length → J.go i H
  yl : ∀ (i : Nat) (G H : Hp) (x : V) (H2 : Hp), Ex G1 G → Ex G H → J.yld i H x H2 → ∀ r, rs[i]? = some r → ∃ G2, Step G H G2 H2 ∧ r.p x G2
  st : ∀ (G H : Hp), Ex G1 G → Ex G H → J.stop rs.length H
def IR (wi : TI) (ρ : List Sl) (rs : List Rp) : Prop := ∀ (H0 : Hp) (σ : L2.St) (G H : Hp), Ex H0 H → Ex G H → En H0 ρ σ G H → ∀ R : It → Hp → Prop, (∀ J G1 H1, Step G H G1 H1 → Wk J G1 rs → R J H1) → wi σ H R
theorem ir_list {rs : List Rp} (h : ER te ρ (sR K rs)) : IR (iList K te) ρ rs := fun H0 σ G H z e n R q => h H0 σ G H z e n _ fun v G1 H1 s1 ⟨a, vs, e1, h1, h2⟩ => by
  refine ⟨a, e1, ⟨vs, ex_l s1.i h1⟩, q _ G1 H1 s1 ⟨fun i G' H' x1 x2 hi => ?_, fun i G' H' x H2 x1 x2 y r hr => ?_, fun G' H' x1 x2 => ?_⟩⟩
  · have hv : i < vs.length := by rw [← h2.len]; exact hi
    exact ⟨vs, vs[i], ex_l (x1.trans x2) h1, by simp [hv]⟩
  · obtain ⟨e2, y⟩ := y
    subst e2
    obtain ⟨v', e3, pv⟩ := h2.get hr
    have := y vs (ex_l (x1.trans x2) h1)
    rw [e3] at this
    cases this
    exact ⟨G', Step.refl x2, r.mono x1 pv⟩
  · exact ⟨vs, ex_l (x1.trans x2) h1, by rw [← h2.len]; exact Nat.le_refl _⟩
theorem ir_tup {rs : List Rp} (h : ER te ρ (tR K rs)) : IR (iTup K te) ρ rs := fun H0 σ G H z e n R q => h H0 σ G H z e n _ fun v G1 H1 s1 ⟨a, vs, e1, h1, h2⟩ => by
  refine ⟨a, e1, ⟨vs, ex_t s1.i h1⟩, q _ G1 H1 s1 ⟨fun i G' H' x1 x2 hi => ?_, fun i G' H' x H2 x1 x2 y r hr => ?_, fun G' H' x1 x2 => ?_⟩⟩
  · have hv : i < vs.length := by rw [← h2.len]; exact hi
    exact ⟨vs, vs[i], ex_t (x1.trans x2) h1, by simp [hv]⟩
  · obtain ⟨e2, y⟩ := y
    subst e2
    obtain ⟨v', e3, pv⟩ := h2.get hr
    have := y vs (ex_t (x1.trans x2) h1)
    rw [e3] at this
    cases this
    exact ⟨G', Step.refl x2, r.mono x1 pv⟩
  · exact ⟨vs, ex_t (x1.trans x2) h1, by rw [← h2.len]; exact Nat.le_refl _⟩
def rgR (lo : Int) (n : Nat) : List Rp := (List.range n).map fun i : Nat => iR (lo + (i : Int))
theorem rgR_len (lo : Int) (n : Nat) : (rgR lo n).length = n := by unfold rgR; simp
theorem rgR_get {lo : Int} {n i : Nat} {r : Rp} (h : (rgR lo n)[i]? = some r) : i < n ∧ r = iR (lo + (i : Int)) := by
  unfold rgR at h
  have hi : i < n := by
    have := (List.getElem?_eq_some_iff.mp h).1
    simpa using this
  rw [List.getElem?_map, List.getElem?_range hi] at h
  exact ⟨hi, (Option.some.inj h).symm⟩
theorem wk_rng {G1 : Hp} (lo : Int) (n : Nat) : Wk (Itr lo n) G1 (rgR lo n) := ⟨fun i G H x1 x2 hi => by rw [rgR_len] at hi; exact hi, fun i G H x H2 x1 x2 y r hr => by
  obtain ⟨e1, e2⟩ := y
  subst e1
  obtain ⟨hi, er⟩ := rgR_get hr
  subst er
  exact ⟨G, Step.refl x2, e2⟩, fun G H x1 x2 => by rw [rgR_len]; exact Nat.le_refl n⟩
theorem ir_rng1 {ta : TA} {n : Int} (h : AR ta ρ [iR n]) (hn : -1000000 ≤ n ∧ n ≤ 1000000) : IR (iRng1 ta) ρ (rgR 0 n.toNat) := fun H0 σ G H z e en R q => h H0 σ G H z e en _ fun vs G1 H1 s1 p => by
  obtain ⟨v, e1, p⟩ := al1 p
  have p : v = .int n := p
  subst p
  exact ⟨n, e1, by omega, by omega, q _ G1 H1 s1 (wk_rng 0 _)⟩
theorem ir_rng2 {ta : TA} {i n : Int} (h : AR ta ρ [iR i, iR n]) (hi : -1000000 ≤ i ∧ i ≤ 1000000) (hn : -1000000 ≤ n ∧ n ≤ 1000000) : IR (iRng2 ta) ρ (rgR i (n - i).toNat) := fun H0 σ G H z e en R q => h H0 σ G H z e en _ fun vs G1 H1 s1 p => by
  obtain ⟨v, v', e1, p, p'⟩ := al2 p
  have p : v = .int i := p
  have p' : v' = .int n := p'
  subst p
  subst p'
  exact ⟨i, n, e1, by omega, q _ G1 H1 s1 (wk_rng i _)⟩
section
variable (K : PySem.W.Frag)
def enR (rs : List Rp) : List Rp := (List.range rs.length).map fun i : Nat => tR K [iR (i : Int), rs.getD i nR]
end
theorem enR_len (rs : List Rp) : (enR K rs).length = rs.length := by unfold enR; simp
theorem enR_get {rs : List Rp} {i : Nat} {r : Rp} (h : (enR K rs)[i]? = some r) : ∃ x, rs[i]? = some x ∧ r = tR K [iR (i : Int), x] := by
  have hi : i < rs.length := by
    have := (List.getElem?_eq_some_iff.mp h).1
    rw [enR_len] at this
    exact this
  unfold enR at h
  rw [List.getElem?_map, List.getElem?_range hi] at h
  refine ⟨rs[i], by simp [hi], ?_⟩
  rw [← Option.some.inj h]
  simp [hi]
theorem ir_enum {ta : TA} {rs : List Rp} (h : AR ta ρ [sR K rs]) : IR (iEnum K ta) ρ (enR K rs) := fun H0 σ G H z e n R q => h H0 σ G H z e n _ fun vs0 G1 H1 s1 p => by
  obtain ⟨v, e0, a, vs, e1, h1, h2⟩ := al1 p
  subst e1
  refine ⟨a, vs, e0, ex_l s1.i h1, q _ G1 H1 s1 ⟨fun i G' H' x1 x2 hi => ?_, fun i G' H' x H2 x1 x2 y r hr => ?_, fun G' H' x1 x2 => ?_⟩⟩
  · have hv : i < vs.length := by rw [← h2.len, ← enR_len (K := K)]; exact hi
    exact ⟨vs, vs[i], ex_l (x1.trans x2) h1, by simp [hv]⟩
  · obtain ⟨T, x', e2, hT, e3, y⟩ := y
    subst e2 e3
    obtain ⟨rx, er, erp⟩ := enR_get hr
    subst erp
    obtain ⟨v', e4, pv⟩ := h2.get er
    have hx := y vs (ex_l (x1.trans x2) h1)
    rw [e4] at hx
    cases hx
    have s := Step.new (o := .tup [.int (i : Nat), x']) x2 hT
    exact ⟨_, s, T, _, rfl, st_of upd_same, rfl, rx.mono (x1.trans s.g) pv, trivial⟩
  · exact ⟨vs, ex_l (x1.trans x2) h1, by rw [← h2.len, enR_len]; exact Nat.le_refl _⟩
theorem s_for {wi : TI} {g : TG} {rs : List Rp} (hi : IR wi ρ rs) (n : Nat) (ρs : Nat → List Sl) (h0 : Le ρ (ρs 0)) (hn : n ≤ rs.length)
    (hs : ∀ (i : Nat) (r : Rp), i < n → rs[i]? = some r → ∃ is ρ', GR g is r (ρs i) ρ' ∧ S t ρ' (.nx (ρs (i + 1))))
    (hd : (n = rs.length ∧ ∃ ρ', fl = .nx ρ' ∧ Le (ρs n) ρ') ∨ ∃ rn r is ρ', rs[n]? = some rn ∧ fl = .rt r ∧ GR g is rn (ρs n) ρ' ∧ S t ρ' (.rt r)) : S (tFor wi g t) ρ fl := fun G0 H0 σ G H s en D w =>
  hi H0 σ G H s.h s.i en _ fun J G1 H1 s1 wk => by
  refine ⟨fun i m σ' H' => m = rs.length - i ∧ i ≤ n ∧ ∃ G', Ex G1 G' ∧ Step G0 H0 G' H' ∧ En H0 (ρs i) σ' G' H', ⟨rs.length - 0, rfl, Nat.zero_le _, G1, Ex.refl G1, s.trans s1, h0 _ _ _ _ (en.step s1)⟩, ?_⟩
  rintro i m σ1 H2 ⟨rfl, hin, G2, x2, s2, n2⟩
  by_cases hlt : i < n
  · have hil : i < rs.length := Nat.lt_of_lt_of_le hlt hn
    refine .inr ⟨wk.go i G2 H2 x2 s2.i hil, fun σ' H' => ∃ G', Ex G1 G' ∧ Step G0 H0 G' H' ∧ En H0 (ρs (i + 1)) σ' G' H', fun σ' H' q => ⟨rs.length - (i + 1), by omega, rfl, hlt, q⟩, fun x H3 y => ?_⟩
    obtain ⟨is, ρ', hg, hb⟩ := hs i rs[i] hlt (by simp [hil])
    obtain ⟨G3, s3, p3⟩ := wk.yl i G2 H2 x H3 x2 s2.i y rs[i] (by simp [hil])
    refine hg H0 σ1 G3 H3 x s3.i (n2.step s3) p3 _ fun σ4 n4 _ => ?_
    exact hb G0 H0 σ4 G3 H3 (s2.trans s3) n4 _ fun σ5 G5 H5 x5 s5 n5 => ⟨G5, (x2.trans s3.g).trans x5, s5, n5⟩
  · have e : i = n := by omega
    subst e
    rcases hd with ⟨e, ρ', e2, le⟩ | ⟨rn, r, is, ρ', hr, e2, hg, hb⟩
    · subst e2
      refine .inl ⟨by rw [e]; exact wk.st G2 H2 x2 s2.i, w σ1 G2 H2 (s1.g.trans x2) s2 (le _ _ _ _ n2)⟩
    · subst e2
      have hil : i < rs.length := (List.getElem?_eq_some_iff.mp hr).1
      refine .inr ⟨wk.go i G2 H2 x2 s2.i hil, fun _ _ => False, fun _ _ z => z.elim, fun x H3 y => ?_⟩
      obtain ⟨G3, s3, p3⟩ := wk.yl i G2 H2 x H3 x2 s2.i y rn hr
      refine hg H0 σ1 G3 H3 x s3.i (n2.step s3) p3 _ fun σ4 n4 _ => ?_
      exact hb G0 H0 σ4 G3 H3 (s2.trans s3) n4 _ w
/-! ### comprehensions -/
def gv (n : Nat) (b : Nat → Bool) (f : Nat → Rp) : List Rp := ((List.range n).filter b).map f
theorem gv_yes {n : Nat} {b : Nat → Bool} {f : Nat → Rp} (h : b n = true) : gv (n + 1) b f = gv n b f ++ [f n] := by
  unfold gv
  rw [List.range_succ, List.filter_append, List.map_append, List.filter_cons, if_pos h]
  rfl
theorem gv_no {n : Nat} {b : Nat → Bool} {f : Nat → Rp} (h : b n = false) : gv (n + 1) b f = gv n b f := by
  unfold gv
  rw [List.range_succ, List.filter_append, List.map_append, List.filter_cons, if_neg (by rw [h]; decide)]
  show _ ++ [] = _
  rw [List.append_nil]
theorem gv_len (n : Nat) (b : Nat → Bool) (f : Nat → Rp) : (gv n b f).length ≤ n := by
  unfold gv
  rw [List.length_map]
  have h := List.length_filter_le b (List.range n)
  rw [List.length_range] at h
  exact h
theorem er_lc {wi : TI} {g : TG} {tt : TT} {vs : List Nat} {rs : List Rp} (hi : IR wi ρ rs) (b : Nat → Bool) (f : Nat → Rp) (hz : rs.length ≤ 50000)
    (hs : ∀ (i : Nat) (r : Rp), rs[i]? = some r → ∃ is ρ', GR g is r (wipeS ρ vs) ρ' ∧ (∀ j ∈ is, j ∈ vs) ∧ TR tt ρ' (b i) ∧ (b i = true → ER te ρ' (f i))) :
    ER (tLc wi g tt te vs) ρ (lR (gv rs.length b f)) := fun H0 σ G H z e en Q q => hi H0 σ G H z e en _ fun J G1 H1 s1 wk D hD => by
  have hg1 : G1 D = none := fresh_back s1.i hD
  refine ⟨fun i m H' => m = rs.length - i ∧ i ≤ rs.length ∧ ∃ G' acc, Step G1 H1 G' H' ∧ G' D = none ∧ H' D = some (.lst acc) ∧ Al (gv i b f) acc G', ⟨rs.length - 0, rfl, Nat.zero_le _, G1, [], ?_, hg1, upd_same, trivial⟩, ?_⟩
  · exact ⟨Ex.refl _, Ex.new hD, s1.i.trans (Ex.new hD), fun _ _ h => h⟩
  rintro i m H2 ⟨rfl, hil, G2, acc, s2, hg2, hh2, al⟩
  by_cases hlt : i < rs.length
  · refine .inr ⟨wk.go i G2 H2 s2.g s2.i hlt, fun H' => ∃ G' acc, Step G1 H1 G' H' ∧ G' D = none ∧ H' D = some (.lst acc) ∧ Al (gv (i + 1) b f) acc G', fun H' p => ⟨rs.length - (i + 1), by omega, rfl, hlt, p⟩, fun x H3 y => ?_⟩
    have hri : rs[i]? = some rs[i] := by simp [hlt]
    obtain ⟨is, ρ', hg, his, ht, hb⟩ := hs i rs[i] hri
    obtain ⟨G3, s3, p3⟩ := wk.yl i G2 H2 x H3 s2.g s2.i y rs[i] hri
    have n3 : En H0 (wipeS ρ vs) (wipe σ vs) G3 H3 := (((en.step s1).step s2).step s3).wipe vs
    refine hg H0 (wipe σ vs) G3 H3 x s3.i n3 p3 _ fun σ4 n4 w4 => ⟨by rw [w4 vs his, wipe_wipe], ?_⟩
    have z3 : Ex H0 H3 := ((z.trans s1.h).trans s2.h).trans s3.h
    refine ht H0 σ4 G3 H3 z3 s3.i n4 _ fun G4 H4 s4 => ?_
    have hD3 : G3 D = none := s3.n D (by rw [hh2]; exact fun z => nomatch z) hg2
    have hh3 : H3 D = some (.lst acc) := s3.h D _ hh2
    have hD4 : G4 D = none := s4.n D (by rw [hh3]; exact fun z => nomatch z) hD3
    have hh4 : H4 D = some (.lst acc) := s4.h D _ hh3
    cases hbi : b i with
    | false =>
      rw [if_neg Bool.false_ne_true]
      exact ⟨G4, acc, (s2.trans s3).trans s4, hD4, hh4, by rw [gv_no hbi]; exact al.mono (s3.g.trans s4.g)⟩
    | true =>
      rw [if_pos rfl]
      refine hb hbi H0 σ4 G4 H4 (z3.trans s4.h) s4.i (n4.step s4) _ fun v G5 H5 s5 pv => ?_
      have hh5 : H5 D = some (.lst acc) := s5.h D _ hh4
      have hD5 : G5 D = none := s5.n D (by rw [hh4]; exact fun z => nomatch z) hD4
      have s15 : Step G1 H1 G5 H5 := ((s2.trans s3).trans s4).trans s5
      refine ⟨acc, hh5, by rw [← al.len]; exact sz_lt (by have := gv_len i b f; omega), G5, acc ++ [v], s15.mut hD hD5, hD5, upd_same, ?_⟩
      rw [gv_yes hbi]
      exact (al.mono ((s3.g.trans s4.g).trans s5.g)).snoc pv
  · have ei : i = rs.length := by omega
    subst ei
    refine .inl ⟨wk.st G2 H2 s2.g s2.i, ?_⟩
    have ex : Ex G2 (upd G2 D (.lst acc)) := Ex.new hg2
    have sf : Step G1 H1 (upd G2 D (.lst acc)) H2 := by
      refine ⟨s2.g.trans ex, s2.h, fun a o h => ?_, fun a h1 h2 => ?_⟩
      · by_cases c : a = D
        · subst c
          rw [upd_same] at h
          cases h
          exact hh2
        · rw [upd_ne c] at h
          exact s2.i a o h
      · have c : a ≠ D := fun q => h1 (by rw [q]; exact hD)
        rw [upd_ne c]
        exact s2.n a h1 h2
    exact q _ _ _ (s1.trans sf) ⟨D, acc, rfl, upd_same, al.mono ex⟩
/-- all are kept -/
theorem er_map {wi : TI} {g : TG} {vs : List Nat} {rs : List Rp} (hi : IR wi ρ rs) (f : Nat → Rp) (hz : rs.length ≤ 50000)
    (hs : ∀ (i : Nat) (r : Rp), rs[i]? = some r → ∃ is ρ', GR g is r (wipeS ρ vs) ρ' ∧ (∀ j ∈ is, j ∈ vs) ∧ ER te ρ' (f i)) :
    ER (tLc wi g tYes te vs) ρ (lR ((List.range rs.length).map f)) := by
  have h := er_lc (te := te) (tt := tYes) hi (fun _ => true) f hz fun i r hr => by
    obtain ⟨is, ρ', a, b, c⟩ := hs i r hr
    exact ⟨is, ρ', a, b, tr_yes, fun _ => c⟩
  refine er_eq h (congrArg lR ?_)
  unfold gv
  rw [List.filter_eq_self.mpr fun _ _ => rfl]
end

/-! ### promises -/
def Pm (pre : List Rp → Rp → Prop) : Sp := fun vs H Q _ => ∃ rs r G, pre rs r ∧ Ex G H ∧ Al rs vs G ∧ ∀ v G2 H2, Step G H G2 H2 → r.p v G2 → Q v H2
section
variable {K : PySem.W.Frag} {ρ : List Sl} {ta tb tc : TE} {r : Rp} {rs : List Rp} {pre : List Rp → Rp → Prop} {E : XK}
theorem er_call {t : TA} (h : AR t ρ rs) (hp : pre rs r) : ER (tCall (Pm pre) [] E t) ρ r := fun H0 σ G H z e n Q q => h H0 σ G H z e n _ fun vs G1 H1 s1 pv => by
  show Pm pre (vs ++ []) H1 Q E
  rw [List.append_nil]
  exact ⟨rs, r, G1, hp, s1.i, pv, fun v G2 H2 s2 p => q v G2 H2 (s1.trans s2) p⟩
def sls (N : List Str) (rs : List Rp) : List Sl := rs.map Sl.r ++ List.replicate (N.length - rs.length) .no
theorem al_len_le {N : Nat} {rs : List Rp} (h : rs.length = N) {M : Nat} (k : N ≤ M) : rs.length ≤ M := h ▸ k
theorem en_start {N : List Str} {rs : List Rp} {vs : List V} {G H : Hp} (hN : rs.length ≤ N.length) (h : Al rs vs G) : En H (sls N rs) (L2.start N vs) G H := by
  have hl := h.len
  have own : ∀ (i : Nat) (ws : Ow), (sls N rs)[i]? ≠ some (.w ws) := fun i ws q => by
    unfold sls at q
    by_cases hi : i < rs.length
    · rw [List.getElem?_append_left (by simpa using hi), List.getElem?_map] at q
      cases h1 : rs[i]? <;> rw [h1] at q <;> cases q
    · rw [List.getElem?_append_right (by simpa using hi), List.getElem?_replicate] at q
      split at q <;> cases q
  refine ⟨?_, fun i x hi => ?_, fun i ws q => absurd q (own i ws), fun i j ws _ _ _ q => absurd q (own i ws)⟩
  · unfold sls L2.start
    rw [List.length_append, List.length_map, List.length_replicate, List.length_append, List.length_map, List.length_replicate, hl]
  · unfold sls at hi
    by_cases hr : i < rs.length
    · rw [List.getElem?_append_left (by simpa using hr), List.getElem?_map] at hi
      cases h1 : rs[i]? with
      | none => rw [h1] at hi; cases hi
      | some y =>
        rw [h1] at hi
        cases hi
        obtain ⟨v, e, p⟩ := h.get h1
        refine ⟨v, ?_, p⟩
        unfold L2.start
        rw [List.getElem?_append_left (by rw [List.length_map, ← hl]; exact hr), List.getElem?_map, e]
        rfl
    · rw [List.getElem?_append_right (by simpa using hr), List.getElem?_replicate] at hi
      split at hi <;> cases hi
end
/-! ### instances are made -/
def less (H : Hp) (x : Addr) : Hp := fun b => if b = x then none else H b
theorem less_ex (H : Hp) (x : Addr) : Ex (less H x) H := fun a o h => by
  unfold less at h
  split at h
  · cases h
  · exact h
theorem less_ne {H : Hp} {x b : Addr} (h : b ≠ x) : less H x b = H b := if_neg h
theorem less_self {H : Hp} {x : Addr} : less H x x = none := if_pos rfl
def PmI (C : Addr) (pre : List Rp → List (Str × Rp) → Prop) : Sp := fun vs H Q _ => ∃ x dx ws rs fs G, vs = .ref x :: ws ∧ H x = some (.ins C dx []) ∧ G x = none ∧ Ex G H ∧ Al rs ws G ∧ pre rs fs ∧
  ∀ G' H' h, Step G (less H x) G' H' → H' x = some h → (Ow.i x C fs).P x h G' → G' x = none → Q .non H'
section
variable {K : PySem.W.Frag} {ρ : List Sl} {r : Rp} {rs : List Rp} {E : XK}
theorem er_make {C : Addr} {fs : List (Str × Rp)} {pre : List Rp → List (Str × Rp) → Prop} {t : TA} (h : AR t ρ rs) (hp : pre rs fs) : ER (tMake C (PmI C pre) [] E t) ρ (oR C fs) := fun H0 σ G H z e n Q q => h H0 σ G H z e n _ fun ws G1 H1 s1 pv x dx hx hdx hne => by
  have gx : G1 x = none := fresh_back s1.i hx
  have ex1 : Ex H1 (upd (upd H1 dx (.own x)) x (.ins C dx [])) := fun a o ha => by
    rw [upd_ne (ne_of_none ha hx), upd_ne (ne_of_none ha hdx)]
    exact ha
  refine ⟨x, dx, ws, rs, fs, G1, by rw [List.append_nil], upd_same, gx, s1.i.trans ex1, pv, hp, fun G' H' h' st hh ow gx' => ⟨rfl, ?_⟩⟩
  have ex : Ex G' (upd G' x h') := Ex.new gx'
  have eh : Ex H1 H' := fun a o ha => st.h a o (by
    have na : a ≠ x := ne_of_none ha hx
    rw [less_ne na]
    exact ex1 a o ha)
  have stf : Step G1 H1 (upd G' x h') H' := by
    refine ⟨st.g.trans ex, eh, fun a o ha => ?_, fun a h1 h2 => ?_⟩
    · by_cases c : a = x
      · subst c
        rw [upd_same] at ha
        cases ha
        exact hh
      · rw [upd_ne c] at ha
        exact st.i a o ha
    · have c : a ≠ x := fun q => h1 (by rw [q]; exact hx)
      rw [upd_ne c]
      refine st.n a ?_ h2
      rw [less_ne c]
      exact Ex.some ex1 h1
  exact q _ _ _ (s1.trans stf) (Ow.P.R (Ow.mono ex ow) upd_same)
theorem er_meth0 {C : Addr} {m : Str} {fs : List (Str × Rp)} {pre : List Rp → Rp → Prop} {te : TE} (h : ER te ρ (oR C fs)) (hl : fs.lookup m = none) (hp : pre [oR C fs] r) : ER (tMeth C m (Pm pre) [] E te tNil) ρ r := fun H0 σ G H z e n Q q =>
  h H0 σ G H z e n _ fun v G1 H1 s1 ⟨a, dx, kvs, e1, h1, h2⟩ => by
    refine ⟨a, dx, kvs, e1, s1.i a _ h1, h2.lookup_none hl, [oR C fs], r, G1, hp, s1.i, ⟨⟨a, dx, kvs, e1, h1, h2⟩, trivial⟩, fun v2 G2 H2 s2 p => q v2 G2 H2 (s1.trans s2) p⟩
end
section
variable {P : Program} {w : World} {K : PySem.W.Frag} {mg : Str → Option Value} {base : Heap}
/-- a def keeps its promise -/
theorem fn_ok {x qual : Str} {st : Stmt} {f : Addr} {fd : FuncData} {N ps : List Str} {k : Nat} {pre : List Rp → Rp → Prop} (F : Fun K x qual st f fd) (sc : FnScope N ps (defScope st)) (len : ∀ rs r, pre rs r → rs.length = ps.length)
    (hb : ∀ (cdv : Value) (A : Around) (outer : List Env) (s : Shared) (H : Hp) (E : XK), Room k (A.deeper (envOfC qual (defScope st) s.heap.objs.size f cdv)) →
      ∃ t, PSs (cxOf CX0 P w K mg base N qual (defScope st) f cdv A outer s H E).nox (defBody st) t ∧ ∀ rs r, pre rs r → S t (sls N rs) (.rt r)) : FnOk P w K mg base CX0 (k + 1) f fd ps (Pm pre) := by
  have hpl : ps.length ≤ N.length := by have := congrArg List.length sc.pre; rw [List.length_take] at this; omega
  refine F.ok sc (fun vs H Q E h => ?_) (fun cdv A outer s H vs Q E hr h => ?_)
  · obtain ⟨rs, r, G, hp, _, al, _⟩ := h
    rw [← al.len]
    exact len rs r hp
  · obtain ⟨rs, r, G, hp, ex, al, k⟩ := h
    obtain ⟨t, d, q⟩ := hb cdv A outer s H E hr
    exact ⟨t, d, q rs r hp G H _ G H (Step.refl ex) (en_start (by rw [len rs r hp]; exact hpl) al) _ fun v G2 H2 s2 p => k v G2 H2 s2 p⟩
/-- an __init__ -/
theorem fn_okI {C : Addr} {x qual : Str} {st : Stmt} {f : Addr} {fd : FuncData} {N ps : List Str} {k : Nat} {pre : List Rp → List (Str × Rp) → Prop} (F : Fun K x qual st f fd) (sc : FnScope N ps (defScope st)) (len : ∀ rs fs, pre rs fs → rs.length + 1 = ps.length)
    (hb : ∀ (cdv : Value) (A : Around) (outer : List Env) (s : Shared) (H : Hp) (E : XK), Room k (A.deeper (envOfC qual (defScope st) s.heap.objs.size f cdv)) →
      ∃ t, PSs (cxOf CX0 P w K mg base N qual (defScope st) f cdv A outer s H E).nox (defBody st) t ∧ ∀ a rs fs, pre rs fs → ∃ ρ', ρ'[0]? = some (.w (.i a C fs)) ∧ S t (.w (.i a C []) :: rs.map Sl.r ++ List.replicate (N.length - (rs.length + 1)) .no) (.nx ρ')) :
    FnOk P w K mg base CX0 (k + 1) f fd ps (PmI C pre) := by
  have hpl : ps.length ≤ N.length := by have := congrArg List.length sc.pre; rw [List.length_take] at this; omega
  refine F.ok sc (fun vs H Q E h => ?_) (fun cdv A outer s H vs Q E hr h => ?_)
  · obtain ⟨a, dx, ws, rs, fs, G, e1, _, _, _, al, hp, _⟩ := h
    rw [e1, List.length_cons, ← al.len]
    exact len rs fs hp
  · obtain ⟨a, dx, ws, rs, fs, G, e1, hx, gx, ex, al, hp, k⟩ := h
    obtain ⟨t, d, q⟩ := hb cdv A outer s H E hr
    obtain ⟨ρ', h0, q⟩ := q a rs fs hp
    subst e1
    refine ⟨t, d, q G (less H a) _ G H ⟨Ex.refl G, less_ex H a, ex, fun _ _ z => z⟩ ?_ _ fun σ' G' H' e2 s2 n2 => ?_⟩
    · have n0 : En H (sls N (nR :: rs)) (L2.start N (.non :: ws)) G H := en_start (by rw [List.length_cons, len rs fs hp]; exact hpl) ⟨rfl, al⟩
      have own : ∀ (i : Nat) (ws : Ow), (sls N (nR :: rs))[i]? ≠ some (.w ws) := fun i ws z => by
        unfold sls at z
        by_cases hi : i < (nR :: rs).length
        · rw [List.getElem?_append_left (by simpa using hi), List.getElem?_map] at z
          cases h1 : (nR :: rs)[i]? <;> rw [h1] at z <;> cases z
        · rw [List.getElem?_append_right (by simpa using hi), List.getElem?_replicate] at z
          split at z <;> cases z
      refine ⟨n0.len, fun i x hi => ?_, fun i o hi => ?_, fun i j o o' p hn hi hj => ?_⟩
      · match i with
        | 0 => cases hi
        | i + 1 => exact n0.rd (i + 1) x hi
      · match i with
        | 0 =>
          cases hi
          exact ⟨a, _, rfl, hx, ⟨rfl, dx, [], rfl, rfl, trivial⟩, gx, less_self⟩
        | i + 1 => exact absurd hi (own (i + 1) o)
      · match i, j with
        | 0, 0 => exact absurd rfl hn
        | 0, j + 1 => exact absurd hj (own (j + 1) o')
        | i + 1, _ => exact absurd hi (own (i + 1) o)
    · obtain ⟨p, h, _, hh, ow, gp, _⟩ := n2.ow 0 _ h0
      have e : p = a := ow.1
      subst e
      exact k G' H' h s2 hh ow gp
/-- a def that may be called by its name -/
structure Cb (P : Program) (w : World) (K : PySem.W.Frag) (mg : Str → Option Value) (base : Heap) (x : Str) (k : Nat) (ps : List Str) (pre : List Rp → Rp → Prop) : Prop where
  ex : ∃ f fd, FnOk P w K mg base CX0 k f fd ps (Pm pre) ∧ mg x = some (.ref f) ∧ PySem.W.keepIn K (.ref f) = true ∧ Binds K fd ps []
theorem pe_cb {X : Cx} {x : Str} {k : Nat} {ps : List Str} {pre : List Rp → Rp → Prop} {p pos : Pos} {e : Expr} {es : List Expr} {t : TA} (c : Cb X.prog X.w X.K X.mg X.base x k ps pre) (hr : Room k X.A) (hg : Gl X x) (ha : PA X (e :: es) t)
    (hdb : (x == ("__debug__" : Str)) = false := by decide) (he : starEach (e :: es) X.env = (false, eval e X.env) :: starEach es X.env := by rfl) (hpl : (backTo pos (starEach es X.env)).any (·.1) = false := by rfl) :
    PE X (.Call (.Name x p) (e :: es) [] pos) (tCall (Pm pre) [] E0 t) := by
  obtain ⟨f, fd, h1, h2, h3, h4⟩ := c.ex
  exact pe_call h1 hr hg h2 h3 h4 .nil pass0 ha hdb he hpl
end
end Rc
namespace Rc
open PySem PySem.Spec PyProof.Rows L2 Evl

/-! ### promises by plain functions -/
def p1 {α γ : Type} (C : α → Prop) (ra : α → Rp) (rc : γ → Rp) (f : α → γ) : List Rp → Rp → Prop := fun rs r => ∃ a, C a ∧ rs = [ra a] ∧ r = rc (f a)
def p2 {α β γ : Type} (C : α → β → Prop) (ra : α → Rp) (rb : β → Rp) (rc : γ → Rp) (f : α → β → γ) : List Rp → Rp → Prop := fun rs r => ∃ a b, C a b ∧ rs = [ra a, rb b] ∧ r = rc (f a b)
def p3 {α β γ δ : Type} (C : α → β → γ → Prop) (ra : α → Rp) (rb : β → Rp) (rc : γ → Rp) (rd : δ → Rp) (f : α → β → γ → δ) : List Rp → Rp → Prop := fun rs r => ∃ a b c, C a b c ∧ rs = [ra a, rb b, rc c] ∧ r = rd (f a b c)
section
variable {ρ : List Sl} {ta tb tc : TE} {E : XK}
theorem er_c1 {α γ : Type} {C : α → Prop} {ra : α → Rp} {rc : γ → Rp} {f : α → γ} {a : α} (h : ER ta ρ (ra a)) (hc : C a) : ER (tCall (Pm (p1 C ra rc f)) [] E (tCons ta tNil)) ρ (rc (f a)) := er_call (ar_cons h ar_nil) ⟨a, hc, rfl, rfl⟩
theorem er_c2 {α β γ : Type} {C : α → β → Prop} {ra : α → Rp} {rb : β → Rp} {rc : γ → Rp} {f : α → β → γ} {a : α} {b : β} (h : ER ta ρ (ra a)) (k : ER tb ρ (rb b)) (hc : C a b) :
    ER (tCall (Pm (p2 C ra rb rc f)) [] E (tCons ta (tCons tb tNil))) ρ (rc (f a b)) := er_call (ar_cons h (ar_cons k ar_nil)) ⟨a, b, hc, rfl, rfl⟩
theorem er_c3 {α β γ δ : Type} {C : α → β → γ → Prop} {ra : α → Rp} {rb : β → Rp} {rc : γ → Rp} {rd : δ → Rp} {f : α → β → γ → δ} {a : α} {b : β} {c : γ} (h : ER ta ρ (ra a)) (k : ER tb ρ (rb b)) (l : ER tc ρ (rc c)) (hc : C a b c) :
    ER (tCall (Pm (p3 C ra rb rc rd f)) [] E (tCons ta (tCons tb (tCons tc tNil)))) ρ (rd (f a b c)) := er_call (ar_cons h (ar_cons k (ar_cons l ar_nil))) ⟨a, b, c, hc, rfl, rfl⟩
end
theorem p1_len {α γ : Type} {C : α → Prop} {ra : α → Rp} {rc : γ → Rp} {f : α → γ} {rs : List Rp} {r : Rp} (h : p1 C ra rc f rs r) : rs.length = 1 := by
  obtain ⟨a, _, rfl, _⟩ := h
  rfl
theorem p2_len {α β γ : Type} {C : α → β → Prop} {ra : α → Rp} {rb : β → Rp} {rc : γ → Rp} {f : α → β → γ} {rs : List Rp} {r : Rp} (h : p2 C ra rb rc f rs r) : rs.length = 2 := by
  obtain ⟨a, b, _, rfl, _⟩ := h
  rfl
theorem p3_len {α β γ δ : Type} {C : α → β → γ → Prop} {ra : α → Rp} {rb : β → Rp} {rc : γ → Rp} {rd : δ → Rp} {f : α → β → γ → δ} {rs : List Rp} {r : Rp} (h : p3 C ra rb rc rd f rs r) : rs.length = 3 := by
  obtain ⟨a, b, c, _, rfl, _⟩ := h
  rfl

/-! ### small words -/
section
variable {K : PySem.W.Frag} {ρ : List Sl} {ta tb te : TE} {i j : Int} {r : Rp} {rs : List Rp}
theorem er_add (ha : ER ta ρ (iR i)) (hb : ER tb ρ (iR j)) : ER (tOp (rI0 fun i j => .int (i + j)) ta tb) ρ (iR (i + j)) := er_op ha hb br_I0
theorem er_sub (ha : ER ta ρ (iR i)) (hb : ER tb ρ (iR j)) : ER (tOp (rI0 fun i j => .int (i - j)) ta tb) ρ (iR (i - j)) := er_op ha hb br_I0
theorem er_mul (ha : ER ta ρ (iR i)) (hb : ER tb ρ (iR j)) (hc : IntMulOk i j) : ER (tOp (rI IntMulOk fun i j => .int (i * j)) ta tb) ρ (iR (i * j)) := er_op ha hb (br_I hc)
theorem er_mod (ha : ER ta ρ (iR i)) (hb : ER tb ρ (iR j)) (hc : 0 < j) : ER (tOp (rI (fun _ j => 0 < j) fun i j => .int (i % j)) ta tb) ρ (iR (i % j)) := er_op ha hb (br_I hc)
theorem er_fdiv (ha : ER ta ρ (iR i)) (hb : ER tb ρ (iR j)) (hc : 0 < j) : ER (tOp (rI (fun _ j => 0 < j) fun i j => .int (i / j)) ta tb) ρ (iR (i / j)) := er_op ha hb (br_I hc)
theorem er_half (ha : ER ta ρ (iR i)) : ER (tOp (rI CDiv fun i j => .int (i / j)) ta (tC (.int 2))) ρ (iR (i / 2)) := er_op ha er_c (br_I ⟨by decide, by decide⟩)
theorem er_neg (ha : ER ta ρ (iR i)) : ER (tUn (rU fun i => .int (-i)) ta) ρ (iR (-i)) := er_un ha ur_I
theorem er_lt (ha : ER ta ρ (iR i)) (hb : ER tb ρ (iR j)) : ER (tOp (rI0 fun i j => .bl (decide (i < j))) ta tb) ρ (bR (decide (i < j))) := er_op ha hb br_I0
theorem er_le (ha : ER ta ρ (iR i)) (hb : ER tb ρ (iR j)) : ER (tOp (rI0 fun i j => .bl (decide (i ≤ j))) ta tb) ρ (bR (decide (i ≤ j))) := er_op ha hb br_I0
theorem er_gt (ha : ER ta ρ (iR i)) (hb : ER tb ρ (iR j)) : ER (tOp (rI0 fun i j => .bl (decide (j < i))) ta tb) ρ (bR (decide (j < i))) := er_op ha hb br_I0
theorem er_ge (ha : ER ta ρ (iR i)) (hb : ER tb ρ (iR j)) : ER (tOp (rI0 fun i j => .bl (decide (j ≤ i))) ta tb) ρ (bR (decide (j ≤ i))) := er_op ha hb br_I0
theorem br_eqV {x y : V} (h : scal x y = true) : BR rEq (vR x) (vR y) (bR (decide (x = y))) := fun a b G H e ha hb Q q => by
  cases ha
  cases hb
  exact ⟨h, q _ G H (Step.refl e) rfl⟩
theorem br_neV {x y : V} (h : scal x y = true) : BR rNe (vR x) (vR y) (bR (!decide (x = y))) := fun a b G H e ha hb Q q => by
  cases ha
  cases hb
  exact ⟨h, q _ G H (Step.refl e) rfl⟩
theorem er_eqI (ha : ER ta ρ (iR i)) (hb : ER tb ρ (iR j)) : ER (tOp rEq ta tb) ρ (bR (decide (i = j))) := er_b (er_op ha hb (br_eqV rfl)) (by
  by_cases h : i = j
  · subst h; simp
  · rw [decide_eq_false h, decide_eq_false fun z => h (V.int.inj z)])
theorem er_neI (ha : ER ta ρ (iR i)) (hb : ER tb ρ (iR j)) : ER (tOp rNe ta tb) ρ (bR (!decide (i = j))) := er_b (er_op ha hb (br_neV rfl)) (by
  by_cases h : i = j
  · subst h; simp
  · rw [decide_eq_false h, decide_eq_false fun z => h (V.int.inj z)])
abbrev tLen (K : PySem.W.Frag) (te : TE) : TE := tCB (fun xs H Q => ∃ p ys, xs = [.ref p] ∧ (SqL K H p ys ∨ SqT K H p ys) ∧ Q (.int ys.length) H) (tCons te tNil)
theorem er_len (h : ER te ρ (sR K rs)) : ER (tLen K te) ρ (iR rs.length) := er_callB (ar_cons h ar_nil) cr_len
theorem er_ixl (h : ER ta ρ (sR K rs)) (hi : ER tb ρ (iR i)) (ha : atI rs i = some r) : ER (tOp (rIxL K) ta tb) ρ r := er_op h hi (br_ixL ha)
theorem er_ixt (h : ER ta ρ (tR K rs)) (hi : ER tb ρ (iR i)) (ha : atI rs i = some r := by rfl) : ER (tOp (rIxT K) ta tb) ρ r := er_op h hi (br_ixT ha)
abbrev tIsN (ta : TE) : TE := tOp (fun x y H Q => y = .non ∧ Q (.bl (decide (x = .non))) H) ta (tC .non)
theorem er_isF (h : ER ta ρ r) (hn : NN r) : ER (tIsN ta) ρ (bR false) := er_op h er_c (br_isNf hn)
theorem er_isT (h : ER ta ρ nR) : ER (tIsN ta) ρ (bR true) := er_op h er_c br_isN
end

/-! ### great numbers -/
theorem mulOk {i j : Int} (h : i.natAbs.log2 + j.natAbs.log2 < 100000000) : IntMulOk i j := by
  intro z
  obtain ⟨_, z⟩ := (Bool.and_eq_true _ _).mp z
  unfold Builtin.Int.intTooBig at z
  have z := of_decide_eq_true z
  have bl : bitsLine = 134217728 := by decide
  have le : ∀ n : Int, Builtin.Int.intBits n ≤ n.natAbs.log2 + 1 := by
    intro n
    unfold Builtin.Int.intBits
    by_cases c : (n == 0) = true
    · rw [if_pos c]; omega
    · rw [if_neg c]; omega
  have := le i
  have := le j
  omega
theorem op_mulX {X : Cx} : OpR X (binaryOp .Mult) (rI IntMulOk fun i j => .int (i * j)) := opI fun _ _ _ _ _ _ _ hc q => mul_int q hc
/-- // by a positive divisor of any size: CPython's _pylong has room -/
theorem op_fdivP {X : Cx} (hs : X.stack = X.env :: X.outer) (h1 : X.env.scope.isGenerator = false) (h2 : X.env.scope.isCoroutine = false) (hb : X.base.NoSeer) (ht : X.prog.given.tree = none) (hd : X.A.depth + 100 < recursionLimit) :
    OpR X (binaryOp .FloorDiv) (rI (fun _ j => 0 < j) fun i j => .int (i / j)) := by
  intro pins s σ H x y v u Q I rx ry ⟨i, j, e1, e2, hj, q⟩
  subst e1
  subst e2
  obtain ⟨t, rfl⟩ := rx
  obtain ⟨t', rfl⟩ := ry
  have ns : s.heap.NoSeer := hb.keeps I.bk
  have room : PySem.PylongRoom (model X.prog X.w) X.A s := PySem.PylongRoom.of I.nolimit hd
    (SeerAt.of ns ht (by rw [I.ok.frames, hs]) h1 h2 I.ok.blt I.ok.glob)
  have hj : (0 : Int) < j := hj
  refine floordiv_int (by omega) ?_ (.inr room)
  rw [Int.fdiv_eq_ediv_of_nonneg i (by omega)]
  exact ⟨.int (i / j), H, I.tok _, ⟨_, rfl⟩, q⟩

/-! ### fractions, points -/
section
variable (K : PySem.W.Frag)
def qR (q : Kzq1.Q) : Rp := tR K [iR q.n, iR (q.d : Int)]
def pR (z : Kzq1.P) : Rp := tR K [qR K z.x, qR K z.y]
def gR (s : Kzq1.P × Kzq1.P) : Rp := tR K [pR K s.1, pR K s.2]
end
section
variable {K : PySem.W.Frag} {ρ : List Sl} {te : TE} {q : Kzq1.Q} {z : Kzq1.P} {s : Kzq1.P × Kzq1.P}
theorem er_q0 (h : ER te ρ (qR K q)) : ER (tOp (rIxT K) te (tC (.int 0))) ρ (iR q.n) := er_op h er_c (br_ixT rfl)
theorem er_q1 (h : ER te ρ (qR K q)) : ER (tOp (rIxT K) te (tC (.int 1))) ρ (iR (q.d : Int)) := er_op h er_c (br_ixT rfl)
theorem er_p0 (h : ER te ρ (pR K z)) : ER (tOp (rIxT K) te (tC (.int 0))) ρ (qR K z.x) := er_op h er_c (br_ixT rfl)
theorem er_p1 (h : ER te ρ (pR K z)) : ER (tOp (rIxT K) te (tC (.int 1))) ρ (qR K z.y) := er_op h er_c (br_ixT rfl)
theorem nn_q : NN (qR K q) := nn_t
theorem nn_p : NN (pR K z) := nn_t
end

/-! ### sizes of fractions: bits -/
structure Fq (s : Nat) (q : Kzq1.Q) : Prop where
  pos : 0 < q.d
  n : q.n.natAbs < 2 ^ s
  d : q.d < 2 ^ s
structure Fp (s : Nat) (z : Kzq1.P) : Prop where
  x : Fq s z.x
  y : Fq s z.y
theorem pow_le {s t : Nat} (h : s ≤ t) : 2 ^ s ≤ 2 ^ t := Nat.pow_le_pow_right (by decide) h
theorem Fq.mono {s t : Nat} {q : Kzq1.Q} (h : Fq s q) (k : s ≤ t) : Fq t q := ⟨h.pos, Nat.lt_of_lt_of_le h.n (pow_le k), Nat.lt_of_lt_of_le h.d (pow_le k)⟩
theorem Fp.mono {s t : Nat} {z : Kzq1.P} (h : Fp s z) (k : s ≤ t) : Fp t z := ⟨h.x.mono k, h.y.mono k⟩
theorem mk_eq {n : Int} {d : Nat} (h : 0 < d) : Kzq1.mk n d = ⟨n / ((Nat.gcd n.natAbs d : Nat) : Int), d / Nat.gcd n.natAbs d⟩ := by
  have hg : 0 < Nat.gcd n.natAbs d := Nat.gcd_pos_of_pos_right _ h
  have hd : 0 < d / Nat.gcd n.natAbs d := Nat.div_pos (Nat.le_of_dvd h (Nat.gcd_dvd_right _ _)) hg
  unfold Kzq1.mk
  show (if Nat.gcd n.natAbs d = 0 then _ else if d / Nat.gcd n.natAbs d = 0 then _ else _) = _
  rw [if_neg (by omega), if_neg (by omega)]
theorem natAbs_div_le (n : Int) (g : Nat) : (n / (g : Int)).natAbs ≤ n.natAbs := by
  by_cases hg : g = 0
  · subst hg; simp
  · have h1 : ((n / (g : Int)) * (g : Int)) ≤ n := Int.ediv_mul_le n (by omega)
    have h2 : n < ((n / (g : Int)) + 1) * (g : Int) := Int.lt_ediv_add_one_mul_self n (by omega)
    rcases Int.le_total 0 n with h | h
    · have h3 : 0 ≤ n / (g : Int) := Int.ediv_nonneg h (by omega)
      have h4 : n / (g : Int) ≤ n := Int.ediv_le_self _ h
      omega
    · by_cases hz : n = 0
      · subst hz; simp
      · have h3 : n / (g : Int) < 0 := Int.ediv_neg_of_neg_of_pos (by omega) (by omega)
        have h5 : n ≤ n / (g : Int) := by
          have hx : (n / (g : Int)) ≥ n := by
            have : n / (g : Int) * 1 ≥ n := by
              have k := Int.le_ediv_of_mul_le (a := n) (b := n) (c := (g : Int)) (by omega) (by
                have : n * (g : Int) ≤ n * 1 := Int.mul_le_mul_of_nonpos_left (by omega) (by omega)
                omega)
              omega
            omega
          omega
        omega
theorem fq_mk {s : Nat} {n : Int} {d : Nat} (h0 : 0 < d) (hn : n.natAbs < 2 ^ s) (hd : d < 2 ^ s) : Fq s (Kzq1.mk n d) := by
  have hg : 0 < Nat.gcd n.natAbs d := Nat.gcd_pos_of_pos_right _ h0
  rw [mk_eq h0]
  refine ⟨Nat.div_pos (Nat.le_of_dvd h0 (Nat.gcd_dvd_right _ _)) hg, Nat.lt_of_le_of_lt (natAbs_div_le _ _) hn, Nat.lt_of_le_of_lt (Nat.div_le_self _ _) hd⟩
theorem mul_lt_pow {a b s t : Nat} (ha : a < 2 ^ s) (hb : b < 2 ^ t) : a * b < 2 ^ (s + t) := by
  rw [Nat.pow_add]
  exact Nat.mul_lt_mul'' ha hb
theorem Fq.add {s t : Nat} {a b : Kzq1.Q} (ha : Fq s a) (hb : Fq t b) : Fq (s + t + 1) (Kzq1.add a b) := by
  have h1 : a.n.natAbs * b.d < 2 ^ (s + t) := mul_lt_pow ha.n hb.d
  have h2 : b.n.natAbs * a.d < 2 ^ (s + t) := by
    rw [Nat.add_comm]
    exact mul_lt_pow hb.n ha.d
  have h3 : a.d * b.d < 2 ^ (s + t) := mul_lt_pow ha.d hb.d
  have e : 2 ^ (s + t + 1) = 2 ^ (s + t) + 2 ^ (s + t) := by rw [Nat.pow_succ]; omega
  refine fq_mk (Nat.mul_pos ha.pos hb.pos) ?_ (by omega)
  have k : (a.n * (b.d : Int) + b.n * (a.d : Int)).natAbs ≤ a.n.natAbs * b.d + b.n.natAbs * a.d := by
    refine Nat.le_trans (Int.natAbs_add_le _ _) ?_
    rw [Int.natAbs_mul, Int.natAbs_mul]
    exact Nat.le_refl _
  omega
theorem Fq.neg {s : Nat} {a : Kzq1.Q} (ha : Fq s a) : Fq s (Kzq1.neg a) := ⟨ha.pos, by show (-a.n).natAbs < _; rw [Int.natAbs_neg]; exact ha.n, ha.d⟩
theorem Fq.sub {s t : Nat} {a b : Kzq1.Q} (ha : Fq s a) (hb : Fq t b) : Fq (s + t + 1) (Kzq1.sub a b) := ha.add hb.neg
theorem Fq.mul {s t : Nat} {a b : Kzq1.Q} (ha : Fq s a) (hb : Fq t b) : Fq (s + t) (Kzq1.mul a b) :=
  fq_mk (Nat.mul_pos ha.pos hb.pos) (by rw [Int.natAbs_mul]; exact mul_lt_pow ha.n hb.n) (mul_lt_pow ha.d hb.d)
theorem Fq.inv {s : Nat} {a : Kzq1.Q} (ha : Fq s a) (h0 : a.n ≠ 0) : Fq s (Kzq1.inv a) := by
  unfold Kzq1.inv
  have hp : 0 < a.n.natAbs := by omega
  split
  · exact fq_mk hp (by simpa using ha.d) ha.n
  · exact fq_mk hp (by simpa using ha.d) ha.n
theorem Fq.div {s t : Nat} {a b : Kzq1.Q} (ha : Fq s a) (hb : Fq t b) (h0 : b.n ≠ 0) : Fq (s + t) (Kzq1.div a b) := ha.mul (hb.inv h0)
def LIM : Nat := 33000000
theorem lim_eq : LIM = 33000000 := rfl
/-- small enough for one operation more -/
def Bq (q : Kzq1.Q) : Prop := Fq LIM q
def Bp (z : Kzq1.P) : Prop := Fp LIM z
theorem Fq.b {s : Nat} {q : Kzq1.Q} (h : Fq s q) (k : s ≤ 33000000) : Bq q := h.mono (by rw [lim_eq]; exact k)
theorem Fp.b {s : Nat} {q : Kzq1.P} (h : Fp s q) (k : s ≤ 33000000) : Bp q := h.mono (by rw [lim_eq]; exact k)
theorem log2_lim {n : Nat} (h : n < 2 ^ LIM) : n.log2 < 33000000 := by
  by_cases h0 : n = 0
  · subst h0; decide
  · have := (Nat.log2_lt h0).mpr h
    rw [lim_eq] at this
    exact this
theorem mul_lim {i j : Int} (hi : i.natAbs < 2 ^ LIM) (hj : j.natAbs < 2 ^ LIM) : IntMulOk i j := mulOk (by
  have := log2_lim hi
  have := log2_lim hj
  omega)
theorem Bq.nd {a b : Kzq1.Q} (ha : Bq a) (hb : Bq b) : IntMulOk a.n (b.d : Int) := mul_lim ha.n (by simpa using hb.d)
theorem Bq.dd {a b : Kzq1.Q} (ha : Bq a) (hb : Bq b) : IntMulOk (a.d : Int) (b.d : Int) := mul_lim (by simpa using ha.d) (by simpa using hb.d)
theorem Bq.nn {a b : Kzq1.Q} (ha : Bq a) (hb : Bq b) : IntMulOk a.n b.n := mul_lim ha.n hb.n
theorem Bq.dn {a b : Kzq1.Q} (ha : Bq a) (hb : Bq b) : IntMulOk (a.d : Int) b.n := mul_lim (by simpa using ha.d) hb.n
theorem Fp.plus {s t : Nat} {a b : Kzq1.P} (ha : Fp s a) (hb : Fp t b) : Fp (s + t + 1) (Kzq1.plus a b) := ⟨ha.x.add hb.x, ha.y.add hb.y⟩
theorem Fp.less {s t : Nat} {a b : Kzq1.P} (ha : Fp s a) (hb : Fp t b) : Fp (s + t + 1) (Kzq1.less a b) := ⟨ha.x.sub hb.x, ha.y.sub hb.y⟩
theorem Fp.times {s t : Nat} {k : Kzq1.Q} {a : Kzq1.P} (hk : Fq s k) (ha : Fp t a) : Fp (s + t) (Kzq1.times k a) := ⟨hk.mul ha.x, hk.mul ha.y⟩
theorem Fp.cross {s t : Nat} {a b : Kzq1.P} (ha : Fp s a) (hb : Fp t b) : Fq ((s + t) + (s + t) + 1) (Kzq1.cross a b) := (ha.x.mul hb.y).sub (ha.y.mul hb.x)
theorem Fp.turn {s t u : Nat} {a b c : Kzq1.P} (ha : Fp s a) (hb : Fp t b) (hc : Fp u c) : Fq (((t + s + 1) + (u + s + 1)) + ((t + s + 1) + (u + s + 1)) + 1) (Kzq1.turn a b c) := (hb.less ha).cross (hc.less ha)
end Rc
namespace Rc
open PySem PySem.Spec PyProof.Rows L2 Evl
section
variable {P : Program} {w : World} {K : PySem.W.Frag} {mg : Str → Option Value} {base : Heap}
/-- a def of the text, as the top leaves it -/
structure Fa (K : PySem.W.Frag) (mg : Str → Option Value) (x : Str) (st : Stmt) (ps : List Str) : Prop where
  ex : ∃ f fd, Fun K x x st f fd ∧ mg x = some (.ref f) ∧ Binds K fd ps []
/-- a method of the text -/
structure Fm (K : PySem.W.Frag) (C : Addr) (x qual : Str) (st : Stmt) (ps : List Str) : Prop where
  ex : ∃ f fd, Fun K x qual st f fd ∧ PySem.W.findIn K (.ref C) x = some (some (.ref f)) ∧ PySem.W.isFn K (.ref f) = true ∧ Binds K fd ps []
/-- a class that makes instances -/
structure Ci (P : Program) (w : World) (K : PySem.W.Frag) (mg : Str → Option Value) (base : Heap) (x : Str) (C : Addr) (k : Nat) (ps : List Str) (pre : List Rp → List (Str × Rp) → Prop) : Prop where
  ex : ∃ f fd, Mk K C f ∧ FnOk P w K mg base CX0 k f fd ps (PmI C pre) ∧ mg x = some (.ref C) ∧ Binds K fd ps []
theorem pe_ci {X : Cx} {x : Str} {C : Addr} {k : Nat} {ps : List Str} {pre : List Rp → List (Str × Rp) → Prop} {p pos : Pos} {e : Expr} {es : List Expr} {t : TA} (c : Ci X.prog X.w X.K X.mg X.base x C k ps pre) (hr : Room (k + 1) X.A) (hg : Gl X x) (ha : PA X (e :: es) t)
    (hdb : (x == ("__debug__" : Str)) = false := by decide) (he : starEach (e :: es) X.env = (false, eval e X.env) :: starEach es X.env := by rfl) (hpl : (backTo pos (starEach es X.env)).any (·.1) = false := by rfl) :
    PE X (.Call (.Name x p) (e :: es) [] pos) (tMake C (PmI C pre) [] E0 t) := by
  obtain ⟨f, fd, h1, h2, h3, h4⟩ := c.ex
  exact pe_make h1 h2 hr hg h3 h4 .nil pass0 ha hdb he hpl
/-- a module's number -/
theorem pe_gi {X : Cx} {x : Str} {i : Int} {pos : Pos} (hg : Gl X x) (h : ∃ t, X.mg x = some (.int i t)) (hd : (x == ("__debug__" : Str)) = false := by decide) : PE X (.Name x pos) (tC (.int i)) := by
  obtain ⟨t, h⟩ := h
  exact pe_glob hg h ⟨t, rfl⟩ hd
theorem pe_gt {X : Cx} {x : Str} {a : Addr} {pos : Pos} (hg : Gl X x) (h : X.mg x = some (.ref a)) (hd : (x == ("__debug__" : Str)) = false := by decide) : PE X (.Name x pos) (tC (.ref a)) := pe_glob hg h rfl hd
/-- behind // : room for CPython's _pylong -/
structure Big (P : Program) (base : Heap) : Prop where
  ns : base.NoSeer
  tr : P.given.tree = none
end

/-! ### data that is compared -/
section
variable {K : PySem.W.Frag} {ρ : List Sl} {ta tb : TE}
inductive Rd2 (K : PySem.W.Frag) : Rp → PyData → Prop
  | int (i : Int) : Rd2 K (iR i) (.int i)
  | bl (b : Bool) : Rd2 K (bR b) (.bool b)
  | tup {rs : List Rp} {ds : List PyData} : rs.length = ds.length → (∀ (i : Nat) (r : Rp) (d : PyData), rs[i]? = some r → ds[i]? = some d → Rd2 K r d) → Rd2 K (tR K rs) (.tuple ds)
  | lst {rs : List Rp} {ds : List PyData} : rs.length = ds.length → (∀ (i : Nat) (r : Rp) (d : PyData), rs[i]? = some r → ds[i]? = some d → Rd2 K r d) → Rd2 K (sR K rs) (.list ds)
theorem dpAll_of {H : Hp} : ∀ {rs : List Rp} {vs : List V} {ds : List PyData}, Al rs vs H → rs.length = ds.length → (∀ (i : Nat) (r : Rp) (d : PyData) (v : V), rs[i]? = some r → ds[i]? = some d → r.p v H → Dp K H v d) → DpAll K H vs ds
  | [], [], [], _, _, _ => .nil
  | [], [], _ :: _, _, h, _ => by cases h
  | _ :: _, _ :: _, [], _, h, _ => by cases h
  | [], _ :: _, _, h, _, _ => h.elim
  | _ :: _, [], _, h, _, _ => h.elim
  | r :: rs, v :: vs, d :: ds, h, l, k => .cons (k 0 r d v rfl rfl h.1) (dpAll_of h.2 (Nat.succ.inj l) fun i r d v a b c => k (i + 1) r d v a b c)
theorem Rd2.dp {r : Rp} {d : PyData} (h : Rd2 K r d) : ∀ {v : V} {H : Hp}, r.p v H → Dp K H v d := by
  induction h with
  | int i => intro v H p; cases p; exact .int i
  | bl b => intro v H p; cases p; exact .bl b
  | tup hl hs ih =>
    rintro v H ⟨p, vs, rfl, h1, h2⟩
    exact .tup h1 (dpAll_of h2 hl fun i r d v a b c => ih i r d a b c)
  | lst hl hs ih =>
    rintro v H ⟨p, vs, rfl, h1, h2⟩
    exact .lst h1 (dpAll_of h2 hl fun i r d v a b c => ih i r d a b c)
theorem br_eqD {ra rb : Rp} {d e : PyData} (ha : Rd2 K ra d) (hb : Rd2 K rb e) (sd : SeqAt.shaped d = true) (se : SeqAt.shaped e = true) : BR (rEqD K) ra rb (bR (PyData.eqv d e)) := fun x y G H ex px py Q q =>
  ⟨d, e, ha.dp (ra.mono ex px), hb.dp (rb.mono ex py), sd, se, q _ G H (Step.refl ex) rfl⟩
theorem br_neD {ra rb : Rp} {d e : PyData} (ha : Rd2 K ra d) (hb : Rd2 K rb e) (sd : SeqAt.shaped d = true) (se : SeqAt.shaped e = true) : BR (rNeD K) ra rb (bR (!PyData.eqv d e)) := fun x y G H ex px py Q q =>
  ⟨d, e, ha.dp (ra.mono ex px), hb.dp (rb.mono ex py), sd, se, q _ G H (Step.refl ex) rfl⟩
def dQ (q : Kzq1.Q) : PyData := .tuple [.int q.n, .int (q.d : Int)]
theorem rd_q (q : Kzq1.Q) : Rd2 K (qR K q) (dQ q) := .tup rfl fun i r d a b => by
  match i with
  | 0 => cases a; cases b; exact .int _
  | 1 => cases a; cases b; exact .int _
  | i + 2 => cases a
theorem eqv_q (a b : Kzq1.Q) : PyData.eqv (dQ a) (dQ b) = (a == b) := by
  have h : PyData.eqv (dQ a) (dQ b) = (a.n == b.n && (a.d : Int) == (b.d : Int)) := by
    simp [dQ, PyData.eqv, PyData.eqvAll]
  rw [h, Bool.eq_iff_iff, Bool.and_eq_true, beq_iff_eq, beq_iff_eq, beq_iff_eq]
  constructor
  · rintro ⟨x, y⟩
    obtain ⟨n, d⟩ := a
    obtain ⟨n', d'⟩ := b
    have y : (d : Int) = (d' : Int) := y
    have y : d = d' := by omega
    have x : n = n' := x
    rw [x, y]
  · rintro rfl
    exact ⟨rfl, rfl⟩
theorem er_eqQ {a b : Kzq1.Q} (ha : ER ta ρ (qR K a)) (hb : ER tb ρ (qR K b)) : ER (tOp (rEqD K) ta tb) ρ (bR (a == b)) := er_b (er_op ha hb (br_eqD (rd_q a) (rd_q b) rfl rfl)) (eqv_q a b)
end
end Rc
namespace Rc
open PySem PySem.Spec PyProof.Rows L2 Evl
/-! ### the hand layer's rules with the written part told -/
section
variable {X : Cx} {K : PySem.W.Frag}
theorem ixT (h : X.K = K) : IxR X (rIxT K) := h ▸ ix_tup
theorem ixL (h : X.K = K) : IxR X (rIxL K) := h ▸ ix_list
theorem cLen (h : X.K = K) : CallR X (.builtin "len") (fun xs H Q => ∃ p ys, xs = [.ref p] ∧ (SqL K H p ys ∨ SqT K H p ys) ∧ Q (.int ys.length) H) := h ▸ call_len_seq
theorem cListOf (h : X.K = K) : CallR X (.type "list") (fun xs H Q => ∃ p ys, xs = [.ref p] ∧ (SqL K H p ys ∨ SqT K H p ys) ∧ ∀ l, H l = none → Q (.ref l) (upd H l (.lst ys))) := h ▸ call_list_of
theorem cAll (hc : X.calm = true) (h : X.K = K) : CallR X (.builtin "all") (rAll K) := h ▸ L2.cr_all hc
theorem cAny (hc : X.calm = true) (h : X.K = K) : CallR X (.builtin "any") (rAny K) := h ▸ L2.cr_any hc
theorem cSum (hc : X.calm = true) (h : X.K = K) : CallR X (.builtin "sum") (rSum K) := h ▸ L2.cr_sum hc
theorem slL (h : X.K = K) : SlR X (rSlL K) := h ▸ sl_list
theorem opEqD (hu : X.A.units + 64 < cLine) (h : X.K = K) : OpR X (compareOp .Eq) (rEqD K) := h ▸ op_eqD hu
theorem opNeD (hu : X.A.units + 64 < cLine) (h : X.K = K) : OpR X (compareOp .NotEq) (rNeD K) := h ▸ op_neD hu
theorem opNi (h : X.K = K) : OpR X (compareOp .NotIn) (rIn K true) := h ▸ op_notIn_seq
theorem opIn (h : X.K = K) : OpR X (compareOp .In) (rIn K false) := h ▸ op_in_seq
theorem peFld {e : Expr} {f : Str} {pos : Pos} {ta : TE} (he : PE X e ta) (h : X.K = K) (hb : attributeBase e f X.env (eval e X.env) = eval e X.env := by rfl) : PE X (.Attribute e f pos) (tFld K ta f) := h ▸ pe_fld he hb
end
end Rc
namespace Rc
open PySem PySem.Spec PyProof.Rows L2 Evl

/-! ### slices, items -/
theorem cutA_from {α : Type} (xs : List α) (k : Nat) : cutA xs (some (k : Int)) none = xs.drop k := by
  unfold cutA
  rw [HT.sIx_nat, HT.sIx_none]
  by_cases h : k ≤ xs.length
  · rw [Nat.min_eq_left h, List.take_of_length_le (by rw [List.length_drop]; omega)]
  · rw [Nat.min_eq_right (by omega), List.drop_length, List.take_nil, List.drop_of_length_le (by omega)]
theorem cutA_to {α : Type} (xs : List α) (k : Nat) : cutA xs none (some (k : Int)) = xs.take k := by
  unfold cutA
  rw [HT.sIx_nat, HT.sIx_none, List.drop_zero, Nat.sub_zero]
  by_cases h : k ≤ xs.length
  · rw [Nat.min_eq_left h]
  · rw [Nat.min_eq_right (by omega), List.take_length, List.take_of_length_le (by omega)]
theorem cutA_ft {α : Type} (xs : List α) (i j : Nat) (hj : j ≤ xs.length) : cutA xs (some (i : Int)) (some (j : Int)) = (xs.drop i).take (j - i) := by
  unfold cutA
  rw [HT.sIx_nat, HT.sIx_nat, Nat.min_eq_left hj]
  by_cases h : i ≤ xs.length
  · rw [Nat.min_eq_left h]
  · rw [Nat.min_eq_right (by omega), List.drop_length, List.take_nil, List.drop_of_length_le (by omega), List.take_nil]
theorem cutA_map {α β : Type} (f : α → β) (xs : List α) (lo hi : Option Int) : cutA (xs.map f) lo hi = (cutA xs lo hi).map f := by
  unfold cutA
  rw [List.length_map, ← List.map_drop, ← List.map_take]
theorem atI_map {α β : Type} (f : α → β) (xs : List α) (i : Int) : atI (xs.map f) i = (atI xs i).map f := by
  unfold atI
  rw [List.length_map]
  cases ixN xs.length i with
  | none => rfl
  | some j => exact List.getElem?_map
theorem atI_mapS {α β : Type} {f : α → β} {xs : List α} {i : Int} {x : α} (h : atI xs i = some x) : atI (xs.map f) i = some (f x) := by rw [atI_map, h]; rfl
theorem get_map {α β : Type} {f : α → β} {xs : List α} {i : Nat} {y : β} (h : (xs.map f)[i]? = some y) : ∃ x, xs[i]? = some x ∧ y = f x := by
  rw [List.getElem?_map] at h
  cases e : xs[i]? with
  | none => rw [e] at h; cases h
  | some x => rw [e] at h; exact ⟨x, rfl, (Option.some.inj h).symm⟩
theorem atI_ofNat {α : Type} {xs : List α} {z : Int} {j : Nat} {x : α} (e : z = (j : Int)) (h : xs[j]? = some x) : atI xs z = some x := by
  rw [e]
  exact atI_nat h
theorem at0_get {l : List Kzq1.P} {i : Nat} (h : 0 < l.length) : l[i % l.length]? = some (Kzq1.at0 l i) := by
  have hm : i % l.length < l.length := Nat.mod_lt _ h
  unfold Kzq1.at0
  rw [List.getD_eq_getElem?_getD, List.getElem?_eq_getElem hm]
  rfl
theorem at0_of {l : List Kzq1.P} {i : Nat} {z : Kzq1.P} (h : l[i]? = some z) : Kzq1.at0 l i = z := by
  have hi : i < l.length := (List.getElem?_eq_some_iff.mp h).1
  unfold Kzq1.at0
  rw [Nat.mod_eq_of_lt hi, List.getD_eq_getElem?_getD, h]
  rfl
theorem at0_mem {l : List Kzq1.P} {i : Nat} (h : 0 < l.length) : Kzq1.at0 l i ∈ l := List.mem_of_getElem? (at0_get h)
/-- the corner behind the k-th -/
theorem atI_next {l : List Kzq1.P} {k : Nat} (h : 0 < l.length) : atI l (((k : Int) + 1) % (l.length : Int)) = some (Kzq1.at0 l (k + 1)) := by
  refine atI_ofNat (j := (k + 1) % l.length) ?_ (at0_get h)
  rw [Int.natCast_emod]
  rfl
/-- the corner ahead of the k-th -/
theorem atI_prev {l : List Kzq1.P} {k : Nat} (h : k < l.length) : atI l ((k : Int) - 1) = some (Kzq1.at0 l (k + l.length - 1)) := by
  by_cases c : k = 0
  · subst c
    have e : ixN l.length ((0 : Nat) - 1 : Int) = some (l.length - 1) := by
      unfold ixN
      rw [if_neg (by omega), if_pos (by omega)]
      congr 1
      omega
    unfold atI
    rw [e]
    show l[l.length - 1]? = _
    have g := at0_get (l := l) (i := 0 + l.length - 1) (by omega)
    rw [Nat.mod_eq_of_lt (by omega)] at g
    rw [← g]
    congr 1
    omega
  · refine atI_ofNat (j := k - 1) (by omega) ?_
    have g := at0_get (l := l) (i := k + l.length - 1) (by omega)
    rw [show k + l.length - 1 = (k - 1) + l.length by omega, Nat.add_mod_right, Nat.mod_eq_of_lt (by omega)] at g
    rw [g]
    rw [show k + l.length - 1 = (k - 1) + l.length by omega]
theorem take_snoc {α : Type} {l : List α} {i : Nat} {x : α} (h : l[i]? = some x) : l.take (i + 1) = l.take i ++ [x] := by
  rw [List.take_add_one, h]
  rfl
theorem foldl_take {α β : Type} {f : β → α → β} {b : β} {l : List α} {i : Nat} {x : α} (h : l[i]? = some x) : (l.take (i + 1)).foldl f b = f ((l.take i).foldl f b) x := by
  rw [take_snoc h, List.foldl_append]
  rfl
theorem range_get {n i j : Nat} (h : (List.range n)[i]? = some j) : j = i ∧ i < n := by
  have hi : i < n := by
    have := (List.getElem?_eq_some_iff.mp h).1
    simpa using this
  rw [List.getElem?_range hi] at h
  exact ⟨(Option.some.inj h).symm, hi⟩

/-! ### the program's words on plain data -/
def leastQ (l : List Kzq1.Q) : Kzq1.Q := l.tail.foldl (fun m x => if Kzq1.lt x m = true then x else m) (l.headD Kzq1.zero)
def greatQ (l : List Kzq1.Q) : Kzq1.Q := l.tail.foldl (fun m x => if Kzq1.lt m x = true then x else m) (l.headD Kzq1.zero)
def box (l : List Kzq1.P) : List Kzq1.Q := [leastQ (l.map (·.x)), greatQ (l.map (·.x)), leastQ (l.map (·.y)), greatQ (l.map (·.y))]
def leftOf (l : List Kzq1.P) (s : Kzq1.P × Kzq1.P) : List Kzq1.P := l.filter fun c => Kzq1.pos (Kzq1.turn s.1 s.2 c)
def strictB (l : List Kzq1.P) : Bool := (Kzq1.sides l).all fun s => decide (((leftOf l s).length : Int) = (l.length : Int) - 2)
def told2 (n d : Int) : Bool := decide (1 ≤ d) && decide ((Nat.gcd n.natAbs d.toNat : Int) = 1)
def pairs (ns : List Int) : List (Int × Int) := (List.range (ns.length / 2)).map fun k => (ns.getD (2 * k) 0, ns.getD (2 * k + 1) 0)
def fracs (ns : List Int) : Option (List Kzq1.Q) := if (pairs ns).all (fun p => told2 p.1 p.2) = true then some ((pairs ns).map fun p => ⟨p.1, p.2.toNat⟩) else none
def ptsOf (qs : List Kzq1.Q) (n : Nat) : List Kzq1.P := (List.range n).map fun k => ⟨qs.getD (2 * k) Kzq1.zero, qs.getD (2 * k + 1) Kzq1.zero⟩
def partOf (n : Nat) (ns : List Int) : Option Kzq2.Part := match fracs (ns.take (4 * n)), fracs (ns.drop (4 * n + 1)) with
  | some cs, some ss => if ns.getD (4 * n) 2 = 0 ∨ ns.getD (4 * n) 2 = 1 then
      if strictB (ptsOf cs n) = true then some ⟨Kzq1.begunWith (ptsOf cs n), ⟨decide (ns.getD (4 * n) 2 = 1), ⟨ss.getD 0 Kzq1.zero, ss.getD 1 Kzq1.zero⟩⟩⟩ else none
    else none
  | _, _ => none
/-- the row from a place on; the fuel is a bound of its length -/
def readOn : Nat → List Int → Option (List Kzq2.Part)
  | _, [] => some []
  | 0, _ :: _ => none
  | k + 1, n :: l => if n < 3 ∨ 40 < n ∨ l.length < 4 * n.toNat + 5 then none else
    match partOf n.toNat (l.take (4 * n.toNat + 5)) with
    | none => none
    | some p => match readOn k (l.drop (4 * n.toNat + 5)) with
      | none => none
      | some r => some (p :: r)
/-! ### how these stand in the heap -/
section
variable (K : PySem.W.Frag) (CP CT : Addr)
def pcF (l : List Kzq1.P) : List (Str × Rp) := [("corners", lR (l.map (pR K))), ("bounds", tR K ((box l).map (qR K)))]
def pcR (l : List Kzq1.P) : Rp := oR CP (pcF K l)
def mvR (m : Kzq2.Move) : Rp := tR K [bR m.h, qR K m.t.x, qR K m.t.y]
def ptF (p : Kzq2.Part) : List (Str × Rp) := [("piece", pcR K CP p.l), ("move", mvR K p.m)]
def ptR (p : Kzq2.Part) : Rp := oR CT (ptF K CP p)
def opR {α : Type} (r : α → Rp) : Option α → Rp
  | none => nR
  | some a => r a
end
/-- what is read from numbers below 2 ^ 256 -/
def BL (s : Nat) (l : List Kzq1.P) : Prop := ∀ z ∈ l, Fp s z
def Bpt (s : Nat) (p : Kzq2.Part) : Prop := BL s p.l ∧ 3 ≤ p.l.length ∧ p.l.length ≤ 40 ∧ Fp s p.m.t
end Rc
namespace Rc
open PySem PySem.Spec PyProof.Rows L2 Evl
theorem pos_dd {a b : Nat} (ha : 0 < a) (hb : 0 < b) : (0 : Int) < (a : Int) * (b : Int) := Int.mul_pos (by omega) (by omega)
theorem nat_dd (a b : Nat) : ((a : Int) * (b : Int)).toNat = a * b := by
  rw [← Int.natCast_mul, Int.toNat_natCast]
theorem add_is (a b : Kzq1.Q) : Kzq1.mk (a.n * (b.d : Int) + b.n * (a.d : Int)) ((a.d : Int) * (b.d : Int)).toNat = Kzq1.add a b := by rw [nat_dd]; rfl
theorem sub_is (a b : Kzq1.Q) : Kzq1.mk (a.n * (b.d : Int) - b.n * (a.d : Int)) ((a.d : Int) * (b.d : Int)).toNat = Kzq1.sub a b := by
  rw [nat_dd]
  unfold Kzq1.sub Kzq1.add Kzq1.neg
  show Kzq1.mk _ (a.d * b.d) = Kzq1.mk (a.n * (b.d : Int) + -b.n * (a.d : Int)) (a.d * b.d)
  rw [Int.neg_mul, Int.sub_eq_add_neg]
theorem mul_is (a b : Kzq1.Q) : Kzq1.mk (a.n * b.n) ((a.d : Int) * (b.d : Int)).toNat = Kzq1.mul a b := by rw [nat_dd]; rfl
end Rc
namespace Rc
open PySem PySem.Spec PyProof.Rows L2 Evl
section
variable {K : PySem.W.Frag} {ρ : List Sl} {ta tb te : TE} {wi : TI} {g : TG} {tt : TT} {vs : List Nat}
theorem er_mapL {α : Type} {xs : List α} {ra rc : α → Rp} (hi : IR wi ρ (xs.map ra)) (hz : xs.length ≤ 50000) (hs : ∀ (i : Nat) (x : α), xs[i]? = some x → ∃ is ρ', GR g is (ra x) (wipeS ρ vs) ρ' ∧ (∀ j ∈ is, j ∈ vs) ∧ ER te ρ' (rc x)) :
    ER (tLc wi g tYes te vs) ρ (lR (xs.map rc)) := by
  have h := er_map (te := te) hi (fun i => match xs[i]? with | some x => rc x | none => nR) (by rw [List.length_map]; exact hz) fun i r hr => by
    obtain ⟨x, hx, rfl⟩ := get_map hr
    obtain ⟨is, ρ', a, b, c⟩ := hs i x hx
    refine ⟨is, ρ', a, b, ?_⟩
    show ER te ρ' (match xs[i]? with | some x => rc x | none => nR)
    rw [hx]
    exact c
  refine er_eq h (congrArg lR ?_)
  rw [List.length_map]
  refine List.ext_getElem? fun i => ?_
  by_cases hi : i < xs.length
  · rw [List.getElem?_map, List.getElem?_range hi, List.getElem?_map, List.getElem?_eq_getElem hi]
    show some (match xs[i]? with | some x => rc x | none => nR) = _
    rw [List.getElem?_eq_getElem hi]
    rfl
  · rw [List.getElem?_eq_none (by simp; omega), List.getElem?_eq_none (by simp; omega)]
theorem filter_range {α : Type} {rc : α → Rp} {c : α → Bool} : ∀ (xs : List α), gv xs.length (fun i => match xs[i]? with | some x => c x | none => false) (fun i => match xs[i]? with | some x => rc x | none => nR) = (xs.filter c).map rc := by
  intro xs
  have h : ∀ n, n ≤ xs.length → gv n (fun i => match xs[i]? with | some x => c x | none => false) (fun i => match xs[i]? with | some x => rc x | none => nR) = ((xs.take n).filter c).map rc := by
    intro n
    induction n with
    | zero => intro _; rfl
    | succ n ih =>
      intro hn
      have hg : xs[n]? = some xs[n] := by simp [show n < xs.length by omega]
      rw [take_snoc hg, List.filter_append, List.map_append, ← ih (by omega)]
      by_cases hc : c xs[n] = true
      · rw [gv_yes (by show (match xs[n]? with | some x => c x | none => false) = true; rw [hg]; exact hc), List.filter_cons, if_pos hc]
        show _ ++ [match xs[n]? with | some x => rc x | none => nR] = _
        rw [hg]
        rfl
      · have hc : c xs[n] = false := by simpa using hc
        rw [gv_no (by show (match xs[n]? with | some x => c x | none => false) = false; rw [hg]; exact hc), List.filter_cons, if_neg (by rw [hc]; exact Bool.false_ne_true)]
        exact (List.append_nil _).symm
  have := h xs.length (Nat.le_refl _)
  rw [List.take_length] at this
  exact this
theorem er_filtL {α : Type} {xs : List α} {ra rc : α → Rp} (c : α → Bool) (hi : IR wi ρ (xs.map ra)) (hz : xs.length ≤ 50000)
    (hs : ∀ (i : Nat) (x : α), xs[i]? = some x → ∃ is ρ', GR g is (ra x) (wipeS ρ vs) ρ' ∧ (∀ j ∈ is, j ∈ vs) ∧ TR tt ρ' (c x) ∧ (c x = true → ER te ρ' (rc x))) :
    ER (tLc wi g tt te vs) ρ (lR ((xs.filter c).map rc)) := by
  have h := er_lc (te := te) (tt := tt) hi (fun i => match xs[i]? with | some x => c x | none => false) (fun i => match xs[i]? with | some x => rc x | none => nR) (by rw [List.length_map]; exact hz) fun i r hr => by
    obtain ⟨x, hx, rfl⟩ := get_map hr
    obtain ⟨is, ρ', a, b, d, e⟩ := hs i x hx
    refine ⟨is, ρ', a, b, ?_, ?_⟩
    · show TR tt ρ' (match xs[i]? with | some x => c x | none => false)
      rw [hx]
      exact d
    · show (match xs[i]? with | some x => c x | none => false) = true → ER te ρ' (match xs[i]? with | some x => rc x | none => nR)
      rw [hx]
      exact e
  refine er_eq h (congrArg lR ?_)
  rw [List.length_map]
  exact filter_range xs
end
theorem mulSm {i j : Int} (hi : i.natAbs < 2 ^ 64) (hj : j.natAbs < 2 ^ 64) : IntMulOk i j := mulOk (by
  have f : ∀ n : Nat, n < 2 ^ 64 → n.log2 < 65 := fun n h => by
    by_cases h0 : n = 0
    · subst h0; decide
    · have := (Nat.log2_lt h0).mpr h
      omega
  have := f _ hi
  have := f _ hj
  omega)
/-- the first place where a test fails -/
theorem first_bad {α : Type} {f : α → Bool} : ∀ {xs : List α}, xs.all f = false → ∃ n x, xs[n]? = some x ∧ f x = false ∧ ∀ (i : Nat) (y : α), i < n → xs[i]? = some y → f y = true
  | [], h => by cases h
  | x :: xs, h => by
    cases c : f x with
    | false => exact ⟨0, x, rfl, c, fun i y hi _ => absurd hi (Nat.not_lt_zero _)⟩
    | true =>
      rw [List.all_cons, c, Bool.true_and] at h
      obtain ⟨n, y, h1, h2, h3⟩ := first_bad h
      refine ⟨n + 1, y, h1, h2, fun i z hi hz => ?_⟩
      match i with
      | 0 =>
        have e : x = z := Option.some.inj hz
        rw [← e]
        exact c
      | i + 1 => exact h3 i z (by omega) hz
/-- the place of the leftmost corner among the first ones -/
def bestI (l : List Kzq1.P) (i : Nat) : Nat := (List.range i).foldl (fun a j => if Kzq1.before (Kzq1.at0 l j) (Kzq1.at0 l a) then j else a) 0
theorem bestI_succ (l : List Kzq1.P) (i : Nat) : bestI l (i + 1) = if Kzq1.before (Kzq1.at0 l i) (Kzq1.at0 l (bestI l i)) then i else bestI l i := by
  unfold bestI
  rw [List.range_succ, List.foldl_append]
  rfl
theorem bestI_lt (l : List Kzq1.P) (h : 0 < l.length) : ∀ i, i ≤ l.length → bestI l i < l.length
  | 0, _ => h
  | i + 1, hi => by
    rw [bestI_succ]
    split
    · omega
    · exact bestI_lt l h i (by omega)
end Rc
namespace Rc
open PySem PySem.Spec PyProof.Rows L2 Evl
theorem getD_get {ns : List Int} {i : Nat} {d : Int} (h : i < ns.length) : ns[i]? = some (ns.getD i d) := by
  rw [List.getD_eq_getElem?_getD, List.getElem?_eq_getElem h]
  rfl
theorem getDq_get {ns : List Kzq1.Q} {i : Nat} {d : Kzq1.Q} (h : i < ns.length) : ns[i]? = some (ns.getD i d) := by
  rw [List.getD_eq_getElem?_getD, List.getElem?_eq_getElem h]
  rfl
theorem pairs_len (ns : List Int) : (pairs ns).length = ns.length / 2 := by unfold pairs; simp
theorem fracs_none {ns : List Int} (h : (pairs ns).all (fun p => told2 p.1 p.2) = false) : fracs ns = none := by
  unfold fracs
  rw [if_neg (by rw [h]; exact Bool.false_ne_true)]
theorem fracs_some {ns : List Int} (h : (pairs ns).all (fun p => told2 p.1 p.2) = true) : fracs ns = some ((pairs ns).map fun p => ⟨p.1, p.2.toNat⟩) := by
  unfold fracs
  rw [if_pos h]
theorem fracs_is {ns : List Int} {qs : List Kzq1.Q} (h : fracs ns = some qs) : (pairs ns).all (fun p => told2 p.1 p.2) = true ∧ qs = (pairs ns).map fun p => ⟨p.1, p.2.toNat⟩ := by
  cases c : (pairs ns).all (fun p => told2 p.1 p.2) with
  | false => rw [fracs_none c] at h; cases h
  | true => rw [fracs_some c] at h; exact ⟨rfl, (Option.some.inj h).symm⟩
theorem fracs_len {ns : List Int} {qs : List Kzq1.Q} (h : fracs ns = some qs) : qs.length = ns.length / 2 := by
  rw [(fracs_is h).2, List.length_map, pairs_len]
theorem told2_pos {n d : Int} (h : told2 n d = true) : 1 ≤ d := by
  unfold told2 at h
  rw [Bool.and_eq_true] at h
  exact of_decide_eq_true h.1
theorem pair_reps {K : PySem.W.Frag} {ns : List Int} (h : (pairs ns).all (fun p => told2 p.1 p.2) = true) : ((pairs ns).map fun p => (⟨p.1, p.2.toNat⟩ : Kzq1.Q)).map (qR K) = (pairs ns).map fun p => tR K [iR p.1, iR p.2] := by
  rw [List.map_map]
  refine List.map_congr_left fun p hp => ?_
  have h1 := told2_pos (List.all_eq_true.mp h p hp)
  show tR K [iR p.1, iR ((p.2.toNat : Nat) : Int)] = tR K [iR p.1, iR p.2]
  rw [Int.toNat_of_nonneg (by omega)]
theorem fracs_fq {ns : List Int} {qs : List Kzq1.Q} {s : Nat} (h : fracs ns = some qs) (hb : ∀ x ∈ ns, x.natAbs < 2 ^ s) : ∀ q ∈ qs, Fq s q := by
  obtain ⟨ha, rfl⟩ := fracs_is h
  intro q hq
  obtain ⟨p, hp, rfl⟩ := List.mem_map.mp hq
  have h1 := told2_pos (List.all_eq_true.mp ha p hp)
  unfold pairs at hp
  obtain ⟨k, hk, rfl⟩ := List.mem_map.mp hp
  have hk : k < ns.length / 2 := by simpa using hk
  have m1 : ns.getD (2 * k) 0 ∈ ns := List.mem_of_getElem? (getD_get (by omega))
  have m2 : ns.getD (2 * k + 1) 0 ∈ ns := List.mem_of_getElem? (getD_get (by omega))
  have b2 := hb _ m2
  refine ⟨?_, hb _ m1, ?_⟩
  · show 0 < (ns.getD (2 * k + 1) 0).toNat
    have h1 : 1 ≤ ns.getD (2 * k + 1) 0 := h1
    omega
  · show (ns.getD (2 * k + 1) 0).toNat < 2 ^ s
    have h1 : 1 ≤ ns.getD (2 * k + 1) 0 := h1
    have e : (ns.getD (2 * k + 1) 0).toNat = (ns.getD (2 * k + 1) 0).natAbs := by omega
    rw [e]
    exact b2
theorem ptsOf_len (qs : List Kzq1.Q) (n : Nat) : (ptsOf qs n).length = n := by unfold ptsOf; simp
theorem ptsOf_bl {qs : List Kzq1.Q} {n s : Nat} (h : ∀ q ∈ qs, Fq s q) (hl : 2 * n ≤ qs.length) : BL s (ptsOf qs n) := by
  intro z hz
  unfold ptsOf at hz
  obtain ⟨k, hk, rfl⟩ := List.mem_map.mp hz
  have hk : k < n := by simpa using hk
  exact ⟨h _ (List.mem_of_getElem? (getDq_get (by omega))), h _ (List.mem_of_getElem? (getDq_get (by omega)))⟩
theorem begun_is (l : List Kzq1.P) : Kzq1.begunWith l = l.drop (bestI l l.length) ++ l.take (bestI l l.length) := rfl
theorem begun_len (l : List Kzq1.P) : (Kzq1.begunWith l).length = l.length := by
  rw [begun_is, List.length_append, List.length_drop, List.length_take]
  omega
theorem begun_mem {l : List Kzq1.P} {z : Kzq1.P} (h : z ∈ Kzq1.begunWith l) : z ∈ l := by
  rw [begun_is] at h
  rcases List.mem_append.mp h with h | h
  · exact List.mem_of_mem_drop h
  · exact List.mem_of_mem_take h
theorem begun_bl {l : List Kzq1.P} {s : Nat} (h : BL s l) : BL s (Kzq1.begunWith l) := fun z hz => h z (begun_mem hz)
theorem BL.mono {l : List Kzq1.P} {s t : Nat} (h : BL s l) (k : s ≤ t) : BL t l := fun z hz => (h z hz).mono k
theorem BL.lim {l : List Kzq1.P} {s : Nat} (h : BL s l) (k : s ≤ 33000000) : BL LIM l := fun z hz => (h z hz).b k
theorem inV01 (x : Int) : inV (.int x) [.int 0, .int 1] = (decide (x = 0) || decide (x = 1)) := by
  unfold inV
  rw [List.any_cons, List.any_cons, List.any_nil, Bool.or_false]
  have e : ∀ a : Int, eqV (.int a) (.int x) = decide (x = a) := fun a => by
    show (a == x) = decide (x = a)
    rw [Bool.eq_iff_iff, beq_iff_eq, decide_eq_true_eq]
    exact eq_comm
  rw [e, e]
/-! reading on -/
theorem readOn_nil (k : Nat) : readOn k [] = some [] := by cases k <;> rfl
theorem readOn_bad {k : Nat} {n : Int} {l : List Int} (h : n < 3 ∨ 40 < n ∨ l.length < 4 * n.toNat + 5) : readOn (k + 1) (n :: l) = none := if_pos h
theorem readOn_part {k : Nat} {n : Int} {l : List Int} (h : ¬ (n < 3 ∨ 40 < n ∨ l.length < 4 * n.toNat + 5)) (hp : partOf n.toNat (l.take (4 * n.toNat + 5)) = none) : readOn (k + 1) (n :: l) = none := by
  show (if _ then none else _) = _
  rw [if_neg h, hp]
theorem readOn_step {k : Nat} {n : Int} {l : List Int} {p : Kzq2.Part} (h : ¬ (n < 3 ∨ 40 < n ∨ l.length < 4 * n.toNat + 5)) (hp : partOf n.toNat (l.take (4 * n.toNat + 5)) = some p) :
    readOn (k + 1) (n :: l) = (readOn k (l.drop (4 * n.toNat + 5))).map (p :: ·) := by
  show (if _ then none else _) = _
  rw [if_neg h, hp]
  cases readOn k (l.drop (4 * n.toNat + 5)) <;> rfl
/-- where the loop stands: the rest is to be read on -/
def RI (ns : List Int) (st : Nat × List Kzq2.Part) : Prop := st.1 ≤ ns.length ∧ st.2.length ≤ st.1 ∧ ∃ k, (ns.drop st.1).length ≤ k ∧ readOn ns.length ns = (readOn k (ns.drop st.1)).map (st.2 ++ ·)
theorem ri_start (ns : List Int) : RI ns (0, []) := ⟨Nat.zero_le _, Nat.zero_le _, ns.length, Nat.le_refl _, by
  show readOn ns.length ns = (readOn ns.length ns).map ([] ++ ·)
  cases readOn ns.length ns <;> rfl⟩
theorem ri_end {ns : List Int} {st : Nat × List Kzq2.Part} (h : RI ns st) (e : ¬ st.1 < ns.length) : readOn ns.length ns = some st.2 := by
  obtain ⟨h1, _, k, _, h3⟩ := h
  rw [List.drop_of_length_le (by omega), readOn_nil] at h3
  rw [h3]
  show some (st.2 ++ []) = _
  rw [List.append_nil]
theorem ri_cut {ns : List Int} {st : Nat × List Kzq2.Part} (h : st.1 < ns.length) : ns.drop st.1 = ns.getD st.1 0 :: ns.drop (st.1 + 1) := by
  rw [List.drop_eq_getElem_cons h]
  congr 1
  rw [List.getD_eq_getElem?_getD, List.getElem?_eq_getElem h]
  rfl
theorem ri_bad {ns : List Int} {st : Nat × List Kzq2.Part} (h : RI ns st) (e : st.1 < ns.length) (hb : ns.getD st.1 0 < 3 ∨ 40 < ns.getD st.1 0 ∨ (ns.drop (st.1 + 1)).length < 4 * (ns.getD st.1 0).toNat + 5) : readOn ns.length ns = none := by
  obtain ⟨h1, _, k, hk, h3⟩ := h
  rw [ri_cut e] at h3 hk
  cases k with
  | zero => simp at hk
  | succ k => rw [h3, readOn_bad hb]; rfl
theorem ri_part {ns : List Int} {st : Nat × List Kzq2.Part} (h : RI ns st) (e : st.1 < ns.length) (hb : ¬ (ns.getD st.1 0 < 3 ∨ 40 < ns.getD st.1 0 ∨ (ns.drop (st.1 + 1)).length < 4 * (ns.getD st.1 0).toNat + 5))
    (hp : partOf (ns.getD st.1 0).toNat ((ns.drop (st.1 + 1)).take (4 * (ns.getD st.1 0).toNat + 5)) = none) : readOn ns.length ns = none := by
  obtain ⟨h1, _, k, hk, h3⟩ := h
  rw [ri_cut e] at h3 hk
  cases k with
  | zero => simp at hk
  | succ k => rw [h3, readOn_part hb hp]; rfl
theorem ri_step {ns : List Int} {st : Nat × List Kzq2.Part} {p : Kzq2.Part} (h : RI ns st) (e : st.1 < ns.length) (hb : ¬ (ns.getD st.1 0 < 3 ∨ 40 < ns.getD st.1 0 ∨ (ns.drop (st.1 + 1)).length < 4 * (ns.getD st.1 0).toNat + 5))
    (hp : partOf (ns.getD st.1 0).toNat ((ns.drop (st.1 + 1)).take (4 * (ns.getD st.1 0).toNat + 5)) = some p) : RI ns (st.1 + 1 + (4 * (ns.getD st.1 0).toNat + 5), st.2 ++ [p]) := by
  obtain ⟨h1, h2, k, hk, h3⟩ := h
  rw [ri_cut e] at h3 hk
  have hl : (ns.drop (st.1 + 1)).length = ns.length - (st.1 + 1) := List.length_drop
  cases k with
  | zero => simp at hk
  | succ k =>
    rw [readOn_step hb hp, List.drop_drop] at h3
    refine ⟨?_, ?_, k, ?_, ?_⟩
    · show st.1 + 1 + (4 * (ns.getD st.1 0).toNat + 5) ≤ ns.length
      omega
    · show (st.2 ++ [p]).length ≤ _
      rw [List.length_append]
      show st.2.length + 1 ≤ _
      omega
    · show (ns.drop (st.1 + 1 + (4 * (ns.getD st.1 0).toNat + 5))).length ≤ k
      rw [List.length_cons, hl] at hk
      rw [List.length_drop]
      omega
    · rw [h3]
      show _ = (readOn k (ns.drop (st.1 + 1 + (4 * (ns.getD st.1 0).toNat + 5)))).map ((st.2 ++ [p]) ++ ·)
      cases readOn k (ns.drop (st.1 + 1 + (4 * (ns.getD st.1 0).toNat + 5))) with
      | none => rfl
      | some r =>
        show some (st.2 ++ (p :: r)) = some (st.2 ++ [p] ++ r)
        rw [List.append_assoc]
        rfl
def badC : Option (List Kzq2.Part) → Int
  | none => -22
  | some ps => if 160 < ps.length then -28 else 0
end Rc
namespace Rc
open PySem PySem.Spec PyProof.Rows L2 Evl
theorem s_seqF {t u : TS} {ρ : List Sl} {fl fl1 : Fl} (h : S t ρ fl1) (k : ∀ ρ', fl1 = .nx ρ' → S u ρ' fl) (j : ∀ r, fl1 = .rt r → fl = .rt r) : S (tSeq t u) ρ fl := by
  cases fl1 with
  | nx ρ' => exact s_seq h (k ρ' rfl)
  | rt r =>
    rw [j r rfl]
    exact s_seqR h
theorem map_snoc {α β : Type} (f : α → β) (l : List α) (x : α) : (l ++ [x]).map f = l.map f ++ [f x] := by rw [List.map_append]; rfl
end Rc
namespace Rc
open PySem PySem.Spec PyProof.Rows L2 Evl
theorem readOn_le : ∀ {k : Nat} {l : List Int} {ps : List Kzq2.Part}, readOn k l = some ps → ps.length ≤ l.length
  | k, [], ps, h => by
    rw [readOn_nil] at h
    cases h
    exact Nat.le_refl _
  | 0, n :: l, ps, h => by cases h
  | k + 1, n :: l, ps, h => by
    by_cases c : n < 3 ∨ 40 < n ∨ l.length < 4 * n.toNat + 5
    · rw [readOn_bad c] at h; cases h
    · cases e : partOf n.toNat (l.take (4 * n.toNat + 5)) with
      | none => rw [readOn_part c e] at h; cases h
      | some p =>
        rw [readOn_step c e] at h
        cases e2 : readOn k (l.drop (4 * n.toNat + 5)) with
        | none => rw [e2] at h; cases h
        | some r =>
          rw [e2] at h
          cases h
          have := readOn_le e2
          rw [List.length_drop] at this
          show r.length + 1 ≤ l.length + 1
          omega
theorem readOn_len {ns : List Int} {ps : List Kzq2.Part} (h : readOn ns.length ns = some ps) : ps.length ≤ ns.length := readOn_le h
def slidF (ns : List Int) : List Int := match readOn ns.length ns with
  | none => [-22]
  | some ps => if 160 < ps.length then [-28] else [(ps.length : Int) - ((ps.filter fun p => p.m.h).length : Int), ((ps.filter fun p => p.m.h).length : Int)]
end Rc
namespace Rc
open PySem PySem.Spec PyProof.Rows L2 Evl
/-! ### the written part, and what else stands behind the top -/
theorem via {α : Type} {a b c : α} (h : a = c) (e : b = c) : b = c := e
theorem look_app {α : Type} (a : Addr) : ∀ (K1 K2 : List (Addr × α)), (K1 ++ K2).lookup a = (match K1.lookup a with | some o => some o | none => K2.lookup a)
  | [], K2 => rfl
  | (b, o) :: r, K2 => by
    cases c : (a == b) with
    | true => simp [List.lookup, c]
    | false =>
      have := look_app a r K2
      simp only [List.cons_append, List.lookup, c]
      exact this
theorem frag_app {K1 K2 : PySem.W.Frag} {h : Heap} (x : K1.In h) (y : K2.In h) : PySem.W.Frag.In (K1 ++ K2) h := fun a o e => by
  rw [look_app] at e
  cases q : K1.lookup a with
  | some u => rw [q] at e; cases e; exact x a _ q
  | none => rw [q] at e; exact y a o e
theorem seer_frag {h : Heap} (N : h.NoSeer) : ∃ E : PySem.W.Frag, E.In h ∧ ∀ (K1 : PySem.W.Frag) (base : Heap), K1.In h → PySem.W.Frag.In (K1 ++ E) base → base.NoSeer := by
  obtain ⟨mc, ⟨oc, esc, epc, hc, rc⟩, c1, c2⟩ := N.statics
  obtain ⟨mm, ⟨om, esm, epm, hm, rm⟩, m1⟩ := N.mods
  obtain ⟨mb, ⟨ob, esb, epb, hb, rb⟩, b1⟩ := N.imp
  obtain ⟨mg, bm, ox, ⟨og, esg, epg, hg, rg⟩, g1, g2, g3, g4⟩ := N.main
  let E : PySem.W.Frag := [(cStatics, oc), (sysModules, om), (builtinsNs, ob), (mainGlobals, og), (bm, ox)]
  have inE : ∀ p ∈ E, h.get? p.1 = some p.2 := by
    intro p hp
    have hp : p = (cStatics, oc) ∨ p = (sysModules, om) ∨ p = (builtinsNs, ob) ∨ p = (mainGlobals, og) ∨ p = (bm, ox) := by simpa [E] using hp
    rcases hp with rfl | rfl | rfl | rfl | rfl
    · exact hc
    · exact hm
    · exact hb
    · exact hg
    · exact g2
  have hE : E.In h := fun a o e => by
    have f : ∀ (l : PySem.W.Frag), (∀ p ∈ l, h.get? p.1 = some p.2) → l.lookup a = some o → h.get? a = some o := by
      intro l
      induction l with
      | nil => intro _ e; cases e
      | cons p l ih =>
        intro hl e
        obtain ⟨b, u⟩ := p
        by_cases c : (a == b) = true
        · simp only [List.lookup, c] at e
          cases e
          rw [beq_iff_eq] at c
          subst c
          exact hl _ List.mem_cons_self
        · have c : (a == b) = false := by simpa using c
          simp only [List.lookup, c] at e
          exact ih (fun p hp => hl p (List.mem_cons_of_mem _ hp)) e
    exact f E inE e
  refine ⟨E, hE, fun K1 base x y => ?_⟩
  have tr : ∀ (a : Addr) (o : Obj), (a, o) ∈ E → base.get? a = some o := by
    intro a o hm
    have : ∃ u, (K1 ++ E).lookup a = some u := by
      rw [look_app]
      cases q : K1.lookup a with
      | some u => exact ⟨u, rfl⟩
      | none =>
        have f : ∀ (l : PySem.W.Frag), (a, o) ∈ l → ∃ u, l.lookup a = some u := by
          intro l
          induction l with
          | nil => intro z; cases z
          | cons p l ih =>
            intro z
            obtain ⟨b, u⟩ := p
            by_cases c : (a == b) = true
            · exact ⟨u, by simp only [List.lookup, c]⟩
            · have c' : (a == b) = false := by simpa using c
              rcases List.mem_cons.mp z with z | z
              · cases z
                simp at c
              · obtain ⟨u', e'⟩ := ih z
                exact ⟨u', by simp only [List.lookup, c']; exact e'⟩
        exact f E hm
    obtain ⟨u, e⟩ := this
    have h1 := frag_app x hE a u e
    have h2 := inE _ hm
    rw [h1] at h2
    have h2 : u = o := Option.some.inj h2
    rw [y a u e, h2]
  have e1 := tr cStatics oc (by simp [E])
  have e2 := tr sysModules om (by simp [E])
  have e3 := tr builtinsNs ob (by simp [E])
  have e4 := tr mainGlobals og (by simp [E])
  have e5 := tr bm ox (by simp [E])
  exact ⟨⟨mc, ⟨oc, esc, epc, e1, rc⟩, c1, c2⟩, ⟨mm, ⟨om, esm, epm, e2, rm⟩, m1⟩, ⟨mb, ⟨ob, esb, epb, e3, rb⟩, b1⟩, ⟨mg, bm, ox, ⟨og, esg, epg, e4, rg⟩, g1, e5, g3, g4⟩⟩
end Rc
namespace Rc
open PySem PySem.Spec PyProof.Rows L2 Evl
theorem er_g {v : V} {ρ : List Sl} {r : Rp} (h : ∀ H, r.p v H) : ER (tC v) ρ r := fun H0 σ G H z e n Q q => q v G H (Step.refl e) (h G)
/-- corners few and small enough that their size can be reckoned -/
def AreaOk (l : List Kzq1.P) : Prop := l.length ≤ 40000 ∧ ∃ s, s ≤ 16000000 ∧ BL s l ∧ 1 + l.length * (4 * s + 2) ≤ 33000000
theorem sides_bl {l : List Kzq1.P} {s : Nat} (h : BL s l) : ∀ t ∈ Kzq1.sides l, Fp s t.1 ∧ Fp s t.2 := by
  intro t hm
  unfold Kzq1.sides at hm
  obtain ⟨i, hi, rfl⟩ := List.mem_map.mp hm
  have hi : i < l.length := by simpa using hi
  exact ⟨h _ (at0_mem (by omega)), h _ (at0_mem (by omega))⟩
theorem half_fq : Fq 2 Kzq1.half := ⟨by decide, by decide, by decide⟩
theorem sum_fq {s : Nat} : ∀ (l : List Kzq1.Q) (a : Kzq1.Q) (t : Nat), Fq t a → (∀ q ∈ l, Fq s q) → Fq (t + l.length * (s + 1)) (l.foldl Kzq1.add a)
  | [], a, t, h, _ => by
    rw [List.length_nil, Nat.zero_mul]
    exact h
  | q :: l, a, t, h, k => by
    have := sum_fq l (Kzq1.add a q) (t + s + 1) (h.add (k q List.mem_cons_self)) fun x hx => k x (List.mem_cons_of_mem _ hx)
    refine this.mono ?_
    rw [List.length_cons, Nat.succ_mul]
    omega
end Rc
namespace Rc
open PySem PySem.Spec PyProof.Rows L2 Evl
theorem mul_comm2 (a b : Kzq1.Q) : Kzq1.mul a b = Kzq1.mul b a := by
  show Kzq1.mk (a.n * b.n) (a.d * b.d) = Kzq1.mk (b.n * a.n) (b.d * a.d)
  rw [Int.mul_comm, Nat.mul_comm]
theorem area_sum {l : List Kzq1.P} {s : Nat} (h : BL s l) : Fq (1 + l.length * (4 * s + 2)) (Kzq1.sum ((Kzq1.sides l).map fun t => Kzq1.cross t.1 t.2)) := by
  have hsz : ((Kzq1.sides l).map fun t => Kzq1.cross t.1 t.2).length = l.length := by
    rw [List.length_map]
    unfold Kzq1.sides
    simp
  have := sum_fq (s := 4 * s + 1) ((Kzq1.sides l).map fun t => Kzq1.cross t.1 t.2) Kzq1.zero 1 ⟨Nat.one_pos, by decide, by decide⟩ fun q hq => by
    obtain ⟨t, ht, rfl⟩ := List.mem_map.mp hq
    have hd := sides_bl h t ht
    exact (hd.1.cross hd.2).mono (by omega)
  rw [hsz] at this
  exact this
theorem partOf_bpt {n : Nat} {ns : List Int} {p : Kzq2.Part} (h3 : 3 ≤ n) (h40 : n ≤ 40) (hl : ns.length = 4 * n + 5) (h : partOf n ns = some p) (hb : ∀ x ∈ ns, x.natAbs < 2 ^ 256) : Bpt 256 p ∧ strictB (ptsOf ((fracs (ns.take (4 * n))).getD []) n) = true ∧ p.l = Kzq1.begunWith (ptsOf ((fracs (ns.take (4 * n))).getD []) n) := by
  unfold partOf at h
  cases c1 : fracs (ns.take (4 * n)) with
  | none => rw [c1] at h; cases h
  | some cs =>
    cases c2 : fracs (ns.drop (4 * n + 1)) with
    | none => rw [c1, c2] at h; cases h
    | some ss =>
      rw [c1, c2] at h
      have h : (if ns.getD (4 * n) 2 = 0 ∨ ns.getD (4 * n) 2 = 1 then (if strictB (ptsOf cs n) = true then some (⟨Kzq1.begunWith (ptsOf cs n), ⟨decide (ns.getD (4 * n) 2 = 1), ⟨ss.getD 0 Kzq1.zero, ss.getD 1 Kzq1.zero⟩⟩⟩ : Kzq2.Part) else none) else none) = some p := h
      split at h
      · split at h
        · rename_i hs
          cases h
          have q1 := fracs_fq c1 fun x hx => hb x (List.mem_of_mem_take hx)
          have q2 := fracs_fq c2 fun x hx => hb x (List.mem_of_mem_drop hx)
          have k1 : cs.length = 2 * n := by rw [fracs_len c1, List.length_take]; omega
          have k2 : ss.length = 2 := by rw [fracs_len c2, List.length_drop]; omega
          have pl := ptsOf_len cs n
          refine ⟨⟨begun_bl (ptsOf_bl q1 (by omega)), ?_, ?_, q2 _ (List.mem_of_getElem? (getDq_get (by omega))), q2 _ (List.mem_of_getElem? (getDq_get (by omega)))⟩, hs, rfl⟩
          · show 3 ≤ (Kzq1.begunWith _).length
            rw [begun_len]; omega
          · show (Kzq1.begunWith _).length ≤ 40
            rw [begun_len]; omega
        · cases h
      · cases h
theorem readOn_all {C : Kzq2.Part → Prop} (hC : ∀ (n : Nat) (ns : List Int) (p : Kzq2.Part), 3 ≤ n → n ≤ 40 → ns.length = 4 * n + 5 → (∀ x ∈ ns, x.natAbs < 2 ^ 256) → partOf n ns = some p → C p) : ∀ {k : Nat} {l : List Int} {ps : List Kzq2.Part}, readOn k l = some ps → (∀ x ∈ l, x.natAbs < 2 ^ 256) → ∀ p ∈ ps, C p
  | k, [], ps, h, _ => by
    rw [readOn_nil] at h
    cases h
    intro p hp
    cases hp
  | 0, n :: l, ps, h, _ => by cases h
  | k + 1, n :: l, ps, h, hb => by
    by_cases c : n < 3 ∨ 40 < n ∨ l.length < 4 * n.toNat + 5
    · rw [readOn_bad c] at h; cases h
    · cases e : partOf n.toNat (l.take (4 * n.toNat + 5)) with
      | none => rw [readOn_part c e] at h; cases h
      | some p =>
        rw [readOn_step c e] at h
        cases e2 : readOn k (l.drop (4 * n.toNat + 5)) with
        | none => rw [e2] at h; cases h
        | some r =>
          rw [e2] at h
          cases h
          have ih := readOn_all hC e2 fun x hx => hb x (List.mem_cons_of_mem _ (List.mem_of_mem_drop hx))
          intro q hq
          rcases List.mem_cons.mp hq with rfl | hq
          · exact hC n.toNat (l.take (4 * n.toNat + 5)) q (by omega) (by omega) (by rw [List.length_take]; omega) (fun x hx => hb x (List.mem_cons_of_mem _ (List.mem_of_mem_take hx))) e
          · exact ih q hq
theorem readOn_bpt {k : Nat} {l : List Int} {ps : List Kzq2.Part} (h : readOn k l = some ps) (hb : ∀ x ∈ l, x.natAbs < 2 ^ 256) : ∀ p ∈ ps, Bpt 256 p :=
  readOn_all (fun n ns p h3 h40 hl hx hp => (partOf_bpt h3 h40 hl hp hx).1) h hb
theorem flat_len {α : Type} {f : α → List Int} (xs : List α) (m : Nat) (h : ∀ x, (f x).length ≤ m) : (xs.flatMap f).length ≤ m * xs.length := by
  induction xs with
  | nil => exact Nat.zero_le _
  | cons x xs ih =>
    rw [List.flatMap_cons, List.length_append, List.length_cons, Nat.mul_succ]
    have := h x
    omega
def sizesF (ns : List Int) : List Int := match readOn ns.length ns with
  | none => [-22]
  | some ps => if 160 < ps.length then [-28] else (ps.length : Int) :: ps.flatMap fun p => Kzq1.writtenQ (Kzq1.size p.l)
/-- a written fraction of the module -/
theorem q_lit {K : PySem.W.Frag} {a : Addr} {od : Option Addr} {n d : Int} {k : Nat} {t u : Tok} {sl : Array (Option Value)} {q : Kzq1.Q} {H : Hp} (l : K.lookup a = some ⟨.type "tuple", od, .seq #[.int n t, .int d u] k, sl⟩) (e1 : q.n = n := by rfl) (e2 : (q.d : Int) = d := by rfl) : (qR K q).p (.ref a) H := by
  refine ⟨a, [.int n, .int d], rfl, .inr ⟨_, _, _, l, rfl, rfl, by show 2 ≤ sizeLine; decide, .cons ⟨t, rfl⟩ (.cons ⟨u, rfl⟩ .nil)⟩, ?_⟩
  rw [e1, e2]
  exact ⟨rfl, rfl, trivial⟩
end Rc
namespace Rc
open Kzq1 (Q P readQ okQ readPoints convex formed turn at0 sides cross less mul sub add neg mk pos isZero unlike straightened begunWith)
/-! ### fractions read -/
theorem readQ_is (n d : Int) : readQ n d = if told2 n d = true then some ⟨n, d.toNat⟩ else none := by
  unfold Kzq1.readQ told2 Kzq1.okQ
  by_cases h : d < 1
  · rw [if_pos h, if_neg]
    rw [decide_eq_false (by omega)]
    exact Bool.false_ne_true
  · rw [if_neg h, decide_eq_true (show 1 ≤ d by omega), Bool.true_and]
    show (if (decide (1 ≤ d.toNat) && Nat.gcd n.natAbs d.toNat == 1) = true then _ else _) = _
    rw [decide_eq_true (show 1 ≤ d.toNat by omega), Bool.true_and]
    by_cases g : Nat.gcd n.natAbs d.toNat = 1
    · rw [if_pos (by rw [g]; rfl), if_pos (by rw [g]; rfl)]
    · rw [if_neg (by simpa using g), if_neg (by rw [decide_eq_true_eq]; omega)]
theorem pairs_cons (a b : Int) (l : List Int) : pairs (a :: b :: l) = (a, b) :: pairs l := by
  unfold pairs
  have e : (a :: b :: l).length / 2 = l.length / 2 + 1 := by simp; omega
  rw [e, List.range_succ_eq_map, List.map_cons, List.map_map]
  congr 1
theorem fracs_cons (a b : Int) (l : List Int) : fracs (a :: b :: l) = match readQ a b with | none => none | some x => (fracs l).map (x :: ·) := by
  rw [readQ_is]
  cases h : told2 a b with
  | false =>
    show fracs _ = none
    refine fracs_none ?_
    rw [pairs_cons, List.all_cons, h]
    rfl
  | true =>
    show fracs _ = (fracs l).map (_ :: ·)
    cases g : (pairs l).all (fun p => told2 p.1 p.2) with
    | false =>
      rw [fracs_none g]
      refine fracs_none ?_
      rw [pairs_cons, List.all_cons, h, g]
      rfl
    | true =>
      rw [fracs_some g, fracs_some (by rw [pairs_cons, List.all_cons, h, g]; rfl), pairs_cons]
      rfl
theorem ptsOf_cons (x y : Q) (qs : List Q) (m : Nat) : ptsOf (x :: y :: qs) (m + 1) = ⟨x, y⟩ :: ptsOf qs m := by
  unfold ptsOf
  rw [List.range_succ_eq_map, List.map_cons, List.map_map]
  rfl
theorem readPts : ∀ (m : Nat) (l : List Int), l.length = 4 * m → readPoints l = (fracs l).map fun qs => ptsOf qs m
  | 0, [], _ => rfl
  | 0, a :: l, h => by simp at h
  | m + 1, [], h => by first | (simp at h; done) | (simp at h; omega)
  | m + 1, [_], h => by first | (simp at h; done) | (simp at h; omega)
  | m + 1, [_, _], h => by first | (simp at h; done) | (simp at h; omega)
  | m + 1, [_, _, _], h => by first | (simp at h; done) | (simp at h; omega)
  | m + 1, a :: b :: c :: e :: l, h => by
    have ih := readPts m l (by simp at h; omega)
    rw [fracs_cons]
    show (match readQ a b, readQ c e, readPoints l with | some x, some y, some r => some ((⟨x, y⟩ : P) :: r) | _, _, _ => none) = _
    cases h1 : readQ a b with
    | none => rfl
    | some x =>
      rw [fracs_cons]
      cases h2 : readQ c e with
      | none => rfl
      | some y =>
        rw [ih]
        cases h3 : fracs l with
        | none => rfl
        | some qs =>
          show some _ = some (ptsOf (x :: y :: qs) (m + 1))
          rw [ptsOf_cons]
/-! ### turns that are none -/
theorem mk0 (d : Nat) : (mk 0 d).n = 0 := by
  unfold Kzq1.mk
  show (if _ then (⟨0, 1⟩ : Q) else if _ then ⟨0, 1⟩ else ⟨0 / _, _⟩).n = 0
  split
  · rfl
  · split
    · rfl
    · exact Int.zero_ediv _
theorem sub_self (a : Q) : (sub a a).n = 0 := by
  show (mk (a.n * (a.d : Int) + -a.n * (a.d : Int)) (a.d * a.d)).n = 0
  rw [Int.neg_mul, Int.add_right_neg]
  exact mk0 _
theorem mul_zero_r (a b : Q) (h : b.n = 0) : (mul a b).n = 0 := by
  show (mk (a.n * b.n) (a.d * b.d)).n = 0
  rw [h, Int.mul_zero]
  exact mk0 _
theorem mul_zero_l (a b : Q) (h : a.n = 0) : (mul a b).n = 0 := by
  show (mk (a.n * b.n) (a.d * b.d)).n = 0
  rw [h, Int.zero_mul]
  exact mk0 _
theorem sub_zero2 (a b : Q) (h : a.n = 0) (k : b.n = 0) : (sub a b).n = 0 := by
  show (mk (a.n * (b.d : Int) + -b.n * (a.d : Int)) (a.d * b.d)).n = 0
  rw [h, k, Int.zero_mul, Int.neg_zero, Int.zero_mul]
  exact mk0 _
theorem mul_comm' (a b : Q) : mul a b = mul b a := by
  show mk (a.n * b.n) (a.d * b.d) = mk (b.n * a.n) (b.d * a.d)
  rw [Int.mul_comm, Nat.mul_comm]
theorem turn_a (a b : P) : (turn a b a).n = 0 := sub_zero2 _ _ (mul_zero_r _ _ (sub_self _)) (mul_zero_r _ _ (sub_self _))
theorem turn_b (a b : P) : (turn a b b).n = 0 := by
  show (sub (mul (Kzq1.less b a).x (Kzq1.less b a).y) (mul (Kzq1.less b a).y (Kzq1.less b a).x)).n = 0
  rw [mul_comm' (Kzq1.less b a).y]
  exact sub_self _
theorem turn_aa (a c : P) : (turn a a c).n = 0 := sub_zero2 _ _ (mul_zero_l _ _ (sub_self _)) (mul_zero_l _ _ (sub_self _))
theorem pos_n {q : Q} (h : q.n = 0) : pos q = false := decide_eq_false (by rw [h]; exact Int.lt_irrefl 0)
/-! ### corners round about -/
theorem at0_mod (l : List P) (i : Nat) : at0 l (i % l.length) = at0 l i := by
  unfold Kzq1.at0
  rw [Nat.mod_mod]
theorem at0_eq {l : List P} {i j : Nat} (h : i % l.length = j % l.length) : at0 l i = at0 l j := by rw [← at0_mod, h, at0_mod]
theorem at0_list (l : List P) : (List.range l.length).map (at0 l) = l := by
  refine List.ext_getElem? fun i => ?_
  by_cases h : i < l.length
  · rw [List.getElem?_map, List.getElem?_range h]
    have := at0_get (l := l) (i := i) (by omega)
    rw [Nat.mod_eq_of_lt h] at this
    rw [this]
    rfl
  · rw [List.getElem?_eq_none (by simp; omega), List.getElem?_eq_none (by omega)]
/-! ### counting -/
theorem count_le {α : Type} {p r : α → Bool} : ∀ (xs : List α), (∀ x ∈ xs, p x = true → r x = true) → (xs.filter p).length ≤ (xs.filter r).length ∧ ((xs.filter p).length = (xs.filter r).length → ∀ x ∈ xs, r x = true → p x = true)
  | [], _ => ⟨Nat.le_refl _, fun _ _ h => by cases h⟩
  | x :: xs, h => by
    obtain ⟨h1, h2⟩ := count_le xs fun y hy => h y (List.mem_cons_of_mem _ hy)
    have hx := h x List.mem_cons_self
    rw [List.filter_cons, List.filter_cons]
    cases cp : p x with
    | true =>
      rw [if_pos rfl, if_pos (hx cp), List.length_cons, List.length_cons]
      refine ⟨by omega, fun e y hy hr => ?_⟩
      rcases List.mem_cons.mp hy with rfl | hy
      · exact cp
      · exact h2 (by omega) y hy hr
    | false =>
      rw [if_neg Bool.false_ne_true]
      cases cr : r x with
      | true =>
        rw [if_pos rfl, List.length_cons]
        exact ⟨by omega, fun e => by omega⟩
      | false =>
        rw [if_neg Bool.false_ne_true]
        refine ⟨h1, fun e y hy hr => ?_⟩
        rcases List.mem_cons.mp hy with rfl | hy
        · rw [cr] at hr; cases hr
        · exact h2 e y hy hr
theorem count_split {α : Type} (p : α → Bool) : ∀ (xs : List α), (xs.filter p).length + (xs.filter fun x => !p x).length = xs.length
  | [] => rfl
  | x :: xs => by
    have := count_split p xs
    rw [List.filter_cons, List.filter_cons]
    cases c : p x with
    | true => rw [if_pos rfl, if_neg (by simp), List.length_cons, List.length_cons]; omega
    | false => rw [if_neg Bool.false_ne_true, if_pos (show (!false) = true from rfl), List.length_cons, List.length_cons]; omega
theorem count_one (n k : Nat) (h : k < n) : ((List.range n).filter fun j => j == k).length = 1 := by
  have e : ((List.range n).filter fun j => j == k) = [k] := by
    induction n with
    | zero => omega
    | succ n ih =>
      rw [List.range_succ, List.filter_append]
      by_cases c : k = n
      · subst c
        have : (List.range k).filter (fun j => j == k) = [] := by
          rw [List.filter_eq_nil_iff]
          intro j hj
          have := List.mem_range.mp hj
          simp; omega
        rw [this]
        simp
      · rw [ih (by omega)]
        have : ([n] : List Nat).filter (fun j => j == k) = [] := by simp; omega
        rw [this]
        rfl
  rw [e]
  rfl
theorem count_two (n i k : Nat) (hi : i < n) (hk : k < n) (hik : i ≠ k) : ((List.range n).filter fun j => !(j == i || j == k)).length = n - 2 := by
  have h := count_split (fun j => j == i || j == k) (List.range n)
  have g : ((List.range n).filter fun j => j == i || j == k).length = 2 := by
    have s := count_split (fun j => j == i) ((List.range n).filter fun j => j == i || j == k)
    rw [List.filter_filter, List.filter_filter] at s
    have e1 : (List.range n).filter (fun j => (j == i) && (j == i || j == k)) = (List.range n).filter fun j => j == i := List.filter_congr fun j _ => by by_cases c : j = i <;> simp [c]
    have e2 : (List.range n).filter (fun j => (!(j == i)) && (j == i || j == k)) = (List.range n).filter fun j => j == k := List.filter_congr fun j _ => by
      rw [Bool.eq_iff_iff]
      simp only [Bool.and_eq_true, Bool.or_eq_true, Bool.not_eq_true', beq_eq_false_iff_ne, beq_iff_eq, ne_eq]
      omega
    rw [e1, e2, count_one n i hi, count_one n k hk] at s
    omega
  rw [List.length_range] at h
  omega
/-! ### strict is convex -/
theorem left_count (l : List P) (a b : P) : (leftOf l (a, b)).length = ((List.range l.length).filter fun j => pos (turn a b (at0 l j))).length := by
  show (l.filter fun c => pos (turn a b c)).length = _
  have e : l.filter (fun c => pos (turn a b c)) = ((List.range l.length).map (at0 l)).filter fun c => pos (turn a b c) := by rw [at0_list]
  rw [e, List.filter_map, List.length_map]
  rfl
theorem side_strict (l : List P) (h3 : 3 ≤ l.length) (i : Nat) (hi : i < l.length) :
    decide (((leftOf l (at0 l i, at0 l (i + 1))).length : Int) = (l.length : Int) - 2) = (List.range l.length).all fun j => j == i || j == (i + 1) % l.length || pos (turn (at0 l i) (at0 l (i + 1)) (at0 l j)) := by
  rw [left_count]
  have hk : (i + 1) % l.length < l.length := Nat.mod_lt _ (by omega)
  have hik : i ≠ (i + 1) % l.length := by
    by_cases c : i + 1 = l.length
    · rw [c, Nat.mod_self]; omega
    · rw [Nat.mod_eq_of_lt (by omega)]; omega
  have sub := count_le (p := fun j => pos (turn (at0 l i) (at0 l (i + 1)) (at0 l j))) (r := fun j => !(j == i || j == (i + 1) % l.length)) (List.range l.length) (fun j hj hp => by
    by_cases c : j = i
    · subst c
      rw [pos_n (turn_a _ _)] at hp
      cases hp
    · by_cases d : j = (i + 1) % l.length
      · subst d
        rw [at0_mod, pos_n (turn_b _ _)] at hp
        cases hp
      · simp [c, d])
  rw [count_two l.length i _ hi hk hik] at sub
  rw [Bool.eq_iff_iff, decide_eq_true_eq, List.all_eq_true]
  constructor
  · intro e j hj
    have := sub.2 (by omega) j hj
    cases c : (j == i || j == (i + 1) % l.length) with
    | true => rfl
    | false => exact this (by rw [c]; rfl)
  · intro e
    have le2 := (count_le (p := fun j => !(j == i || j == (i + 1) % l.length)) (r := fun j => pos (turn (at0 l i) (at0 l (i + 1)) (at0 l j))) (List.range l.length) (fun j hj hp => by
      have := e j hj
      cases c : (j == i || j == (i + 1) % l.length) with
      | true => rw [c] at hp; cases hp
      | false => rw [c] at this; exact this)).1
    rw [count_two l.length i _ hi hk hik] at le2
    have := sub.1
    omega
theorem strict_conv (l : List P) (h3 : 3 ≤ l.length) : convex l = strictB l := by
  unfold Kzq1.convex strictB Kzq1.sides
  rw [decide_eq_true h3, Bool.true_and, List.all_map, Bool.eq_iff_iff, List.all_eq_true, List.all_eq_true]
  refine forall_congr' fun i => ?_
  refine imp_congr_right fun hi => ?_
  have hi : i < l.length := List.mem_range.mp hi
  show _ ↔ decide (((leftOf l (at0 l i, at0 l (i + 1))).length : Int) = (l.length : Int) - 2) = true
  rw [side_strict l h3 i hi]
/-- what convex says, round about -/
theorem conv_pos {l : List P} (h : convex l = true) {i j : Nat} (hj : j % l.length ≠ i % l.length) (hk : j % l.length ≠ (i + 1) % l.length) : pos (turn (at0 l i) (at0 l (i + 1)) (at0 l j)) = true := by
  unfold Kzq1.convex at h
  rw [Bool.and_eq_true] at h
  have h3 : 3 ≤ l.length := of_decide_eq_true h.1
  have e := List.all_eq_true.mp (List.all_eq_true.mp h.2 (i % l.length) (List.mem_range.mpr (Nat.mod_lt _ (by omega)))) (j % l.length) (List.mem_range.mpr (Nat.mod_lt _ (by omega)))
  have m : (i % l.length + 1) % l.length = (i + 1) % l.length := by rw [Nat.add_mod, Nat.mod_mod, ← Nat.add_mod]
  have e2 : at0 l (i % l.length + 1) = at0 l (i + 1) := at0_eq m
  rw [m, at0_mod, at0_mod, e2] at e
  simp only [Bool.or_eq_true, beq_iff_eq] at e
  rcases e with (e | e) | e
  · exact absurd e hj
  · exact absurd e hk
  · exact e
theorem conv_len {l : List P} (h : convex l = true) : 3 ≤ l.length := by
  unfold Kzq1.convex at h
  rw [Bool.and_eq_true] at h
  exact of_decide_eq_true h.1
theorem mod_ne {n i a b : Nat} (ha : a < n) (hb : b < n) (h : a ≠ b) : (i + a) % n ≠ (i + b) % n := by
  intro e
  have h1 := Nat.div_add_mod (i + a) n
  have h2 := Nat.div_add_mod (i + b) n
  rw [e] at h1
  have h3 : (i + a) / n = (i + b) / n ∨ (i + a) / n < (i + b) / n ∨ (i + b) / n < (i + a) / n := by omega
  rcases h3 with h3 | h3 | h3
  · rw [h3] at h1; omega
  · have : n * ((i + a) / n) + n ≤ n * ((i + b) / n) := by
      have := Nat.mul_le_mul_left n h3
      rw [Nat.mul_succ] at this
      exact this
    omega
  · have : n * ((i + b) / n) + n ≤ n * ((i + a) / n) := by
      have := Nat.mul_le_mul_left n h3
      rw [Nat.mul_succ] at this
      exact this
    omega
theorem conv_next {l : List P} (h : convex l = true) (i : Nat) : at0 l i ≠ at0 l (i + 1) := by
  intro e
  have h3 := conv_len h
  have p := conv_pos h (i := i) (j := i + 2) (mod_ne (a := 2) (b := 0) (by omega) (by omega) (by omega)) (mod_ne (a := 2) (b := 1) (by omega) (by omega) (by omega))
  rw [← e, pos_n (turn_aa _ _)] at p
  cases p
theorem conv_turn {l : List P} (h : convex l = true) (i : Nat) : pos (turn (at0 l (i + l.length - 1)) (at0 l i) (at0 l (i + 1))) = true := by
  have h3 := conv_len h
  have p := conv_pos h (i := i + l.length - 1) (j := i + l.length - 1 + 2) (mod_ne (a := 2) (b := 0) (by omega) (by omega) (by omega)) (mod_ne (a := 2) (b := 1) (by omega) (by omega) (by omega))
  have e1 : at0 l (i + l.length - 1 + 1) = at0 l i := at0_eq (by rw [show i + l.length - 1 + 1 = i + l.length by omega, Nat.add_mod_right])
  have e2 : at0 l (i + l.length - 1 + 2) = at0 l (i + 1) := at0_eq (by rw [show i + l.length - 1 + 2 = (i + 1) + l.length by omega, Nat.add_mod_right])
  rw [e1, e2] at p
  exact p
theorem filterMap_all {α : Type} {f : Nat → Option α} {g : Nat → α} (h : ∀ i, f i = some (g i)) (n : Nat) : (List.range n).filterMap f = (List.range n).map g := by
  induction n with
  | zero => rfl
  | succ n ih => rw [List.range_succ, List.filterMap_append, List.map_append, ih, List.filterMap_cons, h]; rfl
theorem conv_unlike {l : List P} (h : convex l = true) : unlike l = l := by
  unfold Kzq1.unlike
  rw [filterMap_all (g := at0 l) fun i => if_neg (conv_next h i), at0_list]
theorem conv_straight {l : List P} (h : convex l = true) : straightened l = l := by
  unfold Kzq1.straightened
  rw [filterMap_all (g := at0 l) fun i => ?_, at0_list]
  have p : 0 < (turn (at0 l (i + l.length - 1)) (at0 l i) (at0 l (i + 1))).n := of_decide_eq_true (conv_turn h i)
  refine if_neg ?_
  show ¬ ((turn _ _ _).n == 0) = true
  rw [beq_iff_eq]
  omega
theorem conv_formed {l : List P} (h : convex l = true) : formed l = begunWith l := by
  unfold Kzq1.formed
  rw [conv_unlike h, conv_straight h]
  show (if l.length < 3 then [] else begunWith l) = _
  rw [if_neg (by have := conv_len h; omega)]
/-! ### a part -/
theorem take_four {a : Nat} {l : List Int} (h : l.length = a + 5) : ∃ h0 b c d e, l.drop a = [h0, b, c, d, e] := by
  have hl : (l.drop a).length = 5 := by rw [List.length_drop]; omega
  match e : l.drop a, hl with
  | [h0, b, c, d, f], _ => exact ⟨h0, b, c, d, f, rfl⟩
theorem partOf_is (n : Nat) (l : List Int) (h3 : 3 ≤ n) (h40 : n ≤ 40) (hl : l.length = 4 * n + 5) : partOf n l =
    match Kzq1.readPiece (l.take (4 * n)), (l.drop (4 * n)).take 5 with
    | some p, [h, a, b, c, d] => (match readQ a b, readQ c d with
      | some x, some y => if h = 0 ∨ h = 1 then some ⟨formed p, ⟨h == 1, ⟨x, y⟩⟩⟩ else none
      | _, _ => none)
    | _, _ => none := by
  obtain ⟨h0, a, b, c, d, e5⟩ := take_four hl
  have e6 : l.drop (4 * n + 1) = [a, b, c, d] := by
    rw [← List.drop_drop, e5]
    rfl
  have e7 : l.getD (4 * n) 2 = h0 := by
    rw [List.getD_eq_getElem?_getD]
    have : (l.drop (4 * n))[0]? = some h0 := by rw [e5]; rfl
    rw [List.getElem?_drop, Nat.add_zero] at this
    rw [this]
    rfl
  have e8 : fracs [a, b, c, d] = match readQ a b, readQ c d with | some x, some y => some [x, y] | _, _ => none := by
    rw [fracs_cons]
    cases readQ a b with
    | none => rfl
    | some x =>
      rw [fracs_cons]
      cases readQ c d with
      | none => rfl
      | some y => rfl
  have e9 : Kzq1.readPiece (l.take (4 * n)) = match fracs (l.take (4 * n)) with | none => none | some cs => if strictB (ptsOf cs n) = true then some (ptsOf cs n) else none := by
    unfold Kzq1.readPiece
    rw [readPts n _ (by rw [List.length_take]; omega)]
    cases fracs (l.take (4 * n)) with
    | none => rfl
    | some cs =>
      show (if (ptsOf cs n).length ≤ 40 ∧ convex (ptsOf cs n) = true then some (ptsOf cs n) else none) = _
      rw [ptsOf_len, strict_conv _ (by rw [ptsOf_len]; exact h3)]
      by_cases s : strictB (ptsOf cs n) = true
      · rw [if_pos ⟨h40, s⟩]; exact (if_pos s).symm
      · rw [if_neg fun z => s z.2]; exact (if_neg s).symm
  unfold partOf
  rw [e6, e7, e8, e9, e5]
  show _ = match (match fracs (l.take (4 * n)) with | none => none | some cs => if strictB (ptsOf cs n) = true then some (ptsOf cs n) else none), ([h0, a, b, c, d] : List Int) with
    | some p, [h, a, b, c, d] => (match readQ a b, readQ c d with
      | some x, some y => if h = 0 ∨ h = 1 then some (⟨formed p, ⟨h == 1, ⟨x, y⟩⟩⟩ : Kzq2.Part) else none
      | _, _ => none)
    | _, _ => none
  cases fracs (l.take (4 * n)) with
  | none => rfl
  | some cs =>
    by_cases s : strictB (ptsOf cs n) = true
    · have cv : convex (ptsOf cs n) = true := by rw [strict_conv _ (by rw [ptsOf_len]; exact h3)]; exact s
      simp only [if_pos s]
      cases readQ a b with
      | none => rfl
      | some x =>
        cases readQ c d with
        | none => rfl
        | some y =>
          show (if h0 = 0 ∨ h0 = 1 then (if strictB (ptsOf cs n) = true then some _ else none) else none) = if h0 = 0 ∨ h0 = 1 then some _ else none
          rw [if_pos s, conv_formed cv]
          rfl
    · simp only [if_neg s]
      cases readQ a b with
      | none => rfl
      | some x =>
        cases readQ c d with
        | none => rfl
        | some y =>
          show (if h0 = 0 ∨ h0 = 1 then (if strictB (ptsOf cs n) = true then some _ else none) else none) = none
          rw [if_neg s]
          split <;> rfl
theorem readOn_is : ∀ (k : Nat) (l : List Int), readOn k l = Kzq2.readCut k l
  | 0, [] => rfl
  | k + 1, [] => rfl
  | 0, n :: l => rfl
  | k + 1, n :: l => by
    by_cases c : n < 3 ∨ 40 < n ∨ l.length < 4 * n.toNat + 5
    · rw [readOn_bad c]
      show _ = if _ then none else _
      rw [if_pos c]
    · have hp := partOf_is n.toNat (l.take (4 * n.toNat + 5)) (by omega) (by omega) (by rw [List.length_take]; omega)
      have e1 : (l.take (4 * n.toNat + 5)).take (4 * n.toNat) = l.take (4 * n.toNat) := by rw [List.take_take]; congr 1; omega
      have e2 : ((l.take (4 * n.toNat + 5)).drop (4 * n.toNat)).take 5 = (l.drop (4 * n.toNat)).take 5 := by rw [List.drop_take, List.take_take]; congr 1; omega
      rw [e1, e2] at hp
      have ih := readOn_is k (l.drop (4 * n.toNat + 5))
      show (if _ then none else _) = (if _ then none else _)
      rw [if_neg c, if_neg c, hp, ih]
      cases Kzq1.readPiece (l.take (4 * n.toNat)) with
      | none => rfl
      | some p =>
        match (l.drop (4 * n.toNat)).take 5 with
        | [] => rfl
        | [_] => rfl
        | [_, _] => rfl
        | [_, _, _] => rfl
        | [_, _, _, _] => rfl
        | _ :: _ :: _ :: _ :: _ :: _ :: _ => rfl
        | [h, a, b, c, d] =>
          have key : ∀ (o : Option (List Kzq2.Part)), (match (match readQ a b, readQ c d with | some x, some y => if h = 0 ∨ h = 1 then some (⟨formed p, ⟨h == 1, ⟨x, y⟩⟩⟩ : Kzq2.Part) else none | _, _ => none) with | none => none | some p => match o with | none => none | some r => some (p :: r)) =
              match o with
              | none => none
              | some r => (match readQ a b, readQ c d with
                | some x, some y => if h = 0 ∨ h = 1 then some ((⟨formed p, ⟨h == 1, ⟨x, y⟩⟩⟩ : Kzq2.Part) :: r) else none
                | _, _ => none) := by
            intro o
            cases readQ a b with
            | none => cases o <;> rfl
            | some x =>
              cases readQ c d with
              | none => cases o <;> rfl
              | some y => by_cases hh : h = 0 ∨ h = 1 <;> cases o <;> simp [hh]
          refine (key _).trans ?_
          cases Kzq2.readCut k (l.drop (4 * n.toNat + 5)) <;> rfl
theorem slid_is (ns : List Int) : PyKzq3.slid ns = slidF ns := by
  show (let a := Kzq2.withCut ns fun c => ⟨(Kzq3.slid c : Nat), [((c.length - Kzq3.slid c : Nat) : Int)]⟩; a.value :: a.nums) = slidF ns
  unfold Kzq2.withCut slidF
  rw [← readOn_is]
  cases readOn ns.length ns with
  | none => rfl
  | some ps =>
    show (let a := if Kzq2.mostParts < ps.length then Kzq1.say (-28) else ⟨(Kzq3.slid ps : Nat), [((ps.length - Kzq3.slid ps : Nat) : Int)]⟩; a.value :: a.nums) = if 160 < ps.length then [-28] else _
    have e : Kzq2.mostParts = 160 := rfl
    by_cases c : 160 < ps.length
    · rw [e, if_pos c, if_pos c]; rfl
    · rw [e, if_neg c, if_neg c]
      have h := count_split (fun p : Kzq2.Part => p.m.h) ps
      have s : Kzq3.slid ps = (ps.filter fun p => !p.m.h).length := rfl
      show ([(Kzq3.slid ps : Int), ((ps.length - Kzq3.slid ps : Nat) : Int)] : List Int) = _
      rw [s]
      congr 1
      · omega
      · congr 1
        omega
end Rc
namespace Rc
theorem sizes_is (ns : List Int) : PyKzq3.sizes ns = sizesF ns := by
  show (let a := Kzq2.withCut ns fun c => ⟨(c.length : Nat), c.flatMap fun p => Kzq1.writtenQ (Kzq1.size p.l)⟩; a.value :: a.nums) = sizesF ns
  unfold Kzq2.withCut sizesF
  rw [← readOn_is]
  cases readOn ns.length ns with
  | none => rfl
  | some ps =>
    show (let a := if Kzq2.mostParts < ps.length then Kzq1.say (-28) else ⟨(ps.length : Nat), ps.flatMap fun p => Kzq1.writtenQ (Kzq1.size p.l)⟩; a.value :: a.nums) = if 160 < ps.length then [-28] else _
    have e : Kzq2.mostParts = 160 := rfl
    by_cases c : 160 < ps.length
    · rw [e, if_pos c, if_pos c]; rfl
    · rw [e, if_neg c, if_neg c]
end Rc
namespace Rc
open Kzq1 (Q P)
/-! ### fractions as rational numbers -/
def vq (q : Q) : Rat := (q.n : Rat) / (q.d : Rat)
theorem castd {d : Nat} (h : 0 < d) : (0 : Rat) < (d : Rat) := Rat.natCast_lt_natCast.mpr h
theorem castd0 {d : Nat} (h : 0 < d) : (d : Rat) ≠ 0 := fun e => by
  have := castd h
  rw [e] at this
  exact absurd this (Rat.lt_irrefl)
theorem rdiv_pos {a b : Rat} (ha : 0 < a) (hb : 0 < b) : 0 < a / b := (Rat.lt_div_iff hb).mpr (by rw [Rat.zero_mul]; exact ha)
theorem rdiv_mul {a b : Rat} (hb : b ≠ 0) : a / b * b = a := by grind
theorem vq_mk {n : Int} {d : Nat} (h : 0 < d) : vq (Kzq1.mk n d) = (n : Rat) / (d : Rat) := by
  rw [mk_eq h]
  have hg : 0 < Nat.gcd n.natAbs d := Nat.gcd_pos_of_pos_right _ h
  generalize hgg : Nat.gcd n.natAbs d = g at hg
  obtain ⟨d', hd'⟩ : g ∣ d := hgg ▸ Nat.gcd_dvd_right _ _
  obtain ⟨n', hn'⟩ : (g : Int) ∣ n := by
    have : g ∣ n.natAbs := hgg ▸ Nat.gcd_dvd_left _ _
    exact Int.ofNat_dvd_left.mpr this
  unfold vq
  have e1 : n / (g : Int) = n' := by rw [hn']; exact Int.mul_ediv_cancel_left _ (by omega)
  have e2 : d / g = d' := by rw [hd']; exact Nat.mul_div_cancel_left _ hg
  show ((n / (g : Int) : Int) : Rat) / ((d / g : Nat) : Rat) = _
  rw [e1, e2, hn', hd']
  have hd0 : 0 < d' := by
    rcases Nat.eq_zero_or_pos d' with z | z
    · rw [z] at hd'; omega
    · exact z
  have h1 := castd0 hg
  have h2 := castd0 hd0
  have c1 : (((g : Int) * n' : Int) : Rat) = (g : Rat) * (n' : Rat) := by rw [Rat.intCast_mul]; rfl
  have c2 : ((g * d' : Nat) : Rat) = (g : Rat) * (d' : Rat) := Rat.natCast_mul _ _
  rw [c1, c2]
  grind
theorem vq_add {a b : Q} (ha : 0 < a.d) (hb : 0 < b.d) : vq (Kzq1.add a b) = vq a + vq b := by
  unfold Kzq1.add
  rw [vq_mk (Nat.mul_pos ha hb)]
  unfold vq
  have h1 := castd0 ha
  have h2 := castd0 hb
  rw [Rat.intCast_add, Rat.intCast_mul, Rat.intCast_mul, Rat.natCast_mul]
  show ((a.n : Rat) * (b.d : Rat) + (b.n : Rat) * (a.d : Rat)) / ((a.d : Rat) * (b.d : Rat)) = _
  grind
theorem vq_neg (a : Q) : vq (Kzq1.neg a) = - vq a := by
  unfold Kzq1.neg vq
  show ((-a.n : Int) : Rat) / (a.d : Rat) = _
  rw [Rat.intCast_neg]
  grind
theorem vq_sub {a b : Q} (ha : 0 < a.d) (hb : 0 < b.d) : vq (Kzq1.sub a b) = vq a - vq b := by
  unfold Kzq1.sub
  rw [vq_add ha (by exact hb), vq_neg]
  grind
theorem vq_mul {a b : Q} (ha : 0 < a.d) (hb : 0 < b.d) : vq (Kzq1.mul a b) = vq a * vq b := by
  unfold Kzq1.mul
  rw [vq_mk (Nat.mul_pos ha hb)]
  unfold vq
  have h1 := castd0 ha
  have h2 := castd0 hb
  rw [Rat.intCast_mul, Rat.natCast_mul]
  grind
theorem vq_inv {a : Q} (ha : 0 < a.d) (h0 : a.n ≠ 0) : vq (Kzq1.inv a) = (vq a)⁻¹ := by
  unfold Kzq1.inv
  have hp : 0 < a.n.natAbs := by omega
  have h1 := castd0 ha
  have hn : (a.n : Rat) ≠ 0 := fun z => h0 (Rat.intCast_eq_zero_iff.mp z)
  split
  · rename_i h
    rw [vq_mk hp]
    unfold vq
    have e : ((a.n.natAbs : Nat) : Rat) = (a.n : Rat) := by
      have : ((a.n.natAbs : Int) : Rat) = (a.n : Rat) := by rw [show ((a.n.natAbs : Nat) : Int) = a.n by omega]
      exact this
    rw [e]
    show ((a.d : Int) : Rat) / _ = _
    show (a.d : Rat) / _ = _
    grind
  · rename_i h
    rw [vq_mk hp]
    unfold vq
    have e : ((a.n.natAbs : Nat) : Rat) = -(a.n : Rat) := by
      have : ((a.n.natAbs : Int) : Rat) = ((-a.n : Int) : Rat) := by rw [show ((a.n.natAbs : Nat) : Int) = -a.n by omega]
      rw [Rat.intCast_neg] at this
      exact this
    rw [e, Rat.intCast_neg]
    show -(a.d : Rat) / _ = _
    grind
theorem vq_div {a b : Q} (ha : 0 < a.d) (hb : 0 < b.d) (h0 : b.n ≠ 0) : vq (Kzq1.div a b) = vq a / vq b := by
  unfold Kzq1.div
  rw [vq_mul ha (Fq.inv (s := b.n.natAbs + b.d) ⟨hb, Nat.lt_of_le_of_lt (by omega) Nat.lt_two_pow_self, Nat.lt_of_le_of_lt (by omega) Nat.lt_two_pow_self⟩ h0).pos, vq_inv hb h0]
  grind
theorem vq_pos {a : Q} (ha : 0 < a.d) : 0 < a.n ↔ 0 < vq a := by
  unfold vq
  have h := castd ha
  constructor
  · intro k
    have := Rat.intCast_pos.mpr k
    exact rdiv_pos this h
  · intro k
    rw [← Rat.intCast_pos]
    have e : (a.n : Rat) = (a.n : Rat) / (a.d : Rat) * (a.d : Rat) := by have := castd0 ha; grind
    rw [e]
    exact Rat.mul_pos k h
theorem vq_zero {a : Q} (ha : 0 < a.d) : a.n = 0 ↔ vq a = 0 := by
  unfold vq
  have h := castd0 ha
  constructor
  · intro k
    rw [k]
    grind
  · intro k
    have : (a.n : Rat) = 0 := by grind
    exact Rat.intCast_eq_zero_iff.mp this
theorem vq_neg' {a : Q} (ha : 0 < a.d) : a.n < 0 ↔ vq a < 0 := by
  have h := vq_pos (a := Kzq1.neg a) ha
  rw [vq_neg] at h
  constructor
  · intro k
    have := h.mp (show 0 < -a.n by omega)
    grind
  · intro k
    have := h.mpr (by grind)
    have this : 0 < -a.n := this
    omega
theorem vq_lt {a b : Q} (ha : 0 < a.d) (hb : 0 < b.d) : Kzq1.lt a b = true ↔ vq a < vq b := by
  have h := vq_pos (a := Kzq1.sub b a) (by unfold Kzq1.sub Kzq1.add; exact (fq_mk (s := 0 + (b.n * (a.d : Int) + -a.n * (b.d : Int)).natAbs + b.d * a.d) (Nat.mul_pos hb ha) (Nat.lt_of_le_of_lt (by show (b.n * (a.d : Int) + -a.n * (b.d : Int)).natAbs ≤ _; omega) Nat.lt_two_pow_self) (Nat.lt_of_le_of_lt (by show b.d * a.d ≤ _; omega) Nat.lt_two_pow_self)).pos)
  rw [vq_sub hb ha] at h
  unfold Kzq1.lt
  rw [decide_eq_true_eq]
  have e : vq b - vq a = ((b.n : Rat) * (a.d : Rat) - (a.n : Rat) * (b.d : Rat)) / ((b.d : Rat) * (a.d : Rat)) := by
    unfold vq
    have h1 := castd0 ha
    have h2 := castd0 hb
    grind
  have hp : (0 : Rat) < (b.d : Rat) * (a.d : Rat) := Rat.mul_pos (castd hb) (castd ha)
  have k : 0 < vq b - vq a ↔ 0 < (b.n : Rat) * (a.d : Rat) - (a.n : Rat) * (b.d : Rat) := by
    rw [e]
    constructor
    · intro z
      have := Rat.mul_pos z hp
      have h0 : (b.d : Rat) * (a.d : Rat) ≠ 0 := fun q => by rw [q] at hp; exact absurd hp Rat.lt_irrefl
      rw [rdiv_mul h0] at this
      exact this
    · intro z
      exact rdiv_pos z hp
  constructor
  · intro z
    have : (0 : Rat) < ((b.n * (a.d : Int) - a.n * (b.d : Int) : Int) : Rat) := Rat.intCast_pos.mpr (by omega)
    rw [Rat.intCast_sub, Rat.intCast_mul, Rat.intCast_mul] at this
    have := k.mpr this
    grind
  · intro z
    have := k.mp (by grind)
    have this : (0 : Rat) < ((b.n * (a.d : Int) - a.n * (b.d : Int) : Int) : Rat) := by
      rw [Rat.intCast_sub, Rat.intCast_mul, Rat.intCast_mul]
      exact this
    have := Rat.intCast_pos.mp this
    omega
/-- told in its lowest terms -/
def Can (q : Q) : Prop := 0 < q.d ∧ Nat.gcd q.n.natAbs q.d = 1
theorem can_mk {n : Int} {d : Nat} (h : 0 < d) : Can (Kzq1.mk n d) := by
  rw [mk_eq h]
  have hg : 0 < Nat.gcd n.natAbs d := Nat.gcd_pos_of_pos_right _ h
  refine ⟨Nat.div_pos (Nat.le_of_dvd h (Nat.gcd_dvd_right _ _)) hg, ?_⟩
  show Nat.gcd (n / ((Nat.gcd n.natAbs d : Nat) : Int)).natAbs (d / Nat.gcd n.natAbs d) = 1
  have e : (n / ((Nat.gcd n.natAbs d : Nat) : Int)).natAbs = n.natAbs / Nat.gcd n.natAbs d := by
    rw [Int.natAbs_ediv_of_dvd (Int.ofNat_dvd_left.mpr (Nat.gcd_dvd_left _ _)), Int.natAbs_natCast]
  rw [e]
  exact Nat.coprime_div_gcd_div_gcd hg
theorem can_eq {a b : Q} (ha : Can a) (hb : Can b) (h : vq a = vq b) : a = b := by
  have h1 := castd0 ha.1
  have h2 := castd0 hb.1
  have e : (a.n : Rat) * (b.d : Rat) = (b.n : Rat) * (a.d : Rat) := by unfold vq at h; grind
  have e : a.n * (b.d : Int) = b.n * (a.d : Int) := by
    rw [← Rat.intCast_inj, Rat.intCast_mul, Rat.intCast_mul]
    exact e
  have d1 : a.d ∣ b.d := by
    have : a.d ∣ a.n.natAbs * b.d := by
      have := congrArg Int.natAbs e
      rw [Int.natAbs_mul, Int.natAbs_mul, Int.natAbs_natCast, Int.natAbs_natCast] at this
      rw [this]
      exact Nat.dvd_mul_left _ _
    exact (Nat.Coprime.dvd_of_dvd_mul_left (by show Nat.gcd a.d a.n.natAbs = 1; rw [Nat.gcd_comm]; exact ha.2) this)
  have d2 : b.d ∣ a.d := by
    have : b.d ∣ b.n.natAbs * a.d := by
      have := congrArg Int.natAbs e
      rw [Int.natAbs_mul, Int.natAbs_mul, Int.natAbs_natCast, Int.natAbs_natCast] at this
      rw [← this]
      exact Nat.dvd_mul_left _ _
    exact (Nat.Coprime.dvd_of_dvd_mul_left (by show Nat.gcd b.d b.n.natAbs = 1; rw [Nat.gcd_comm]; exact hb.2) this)
  have ed : a.d = b.d := Nat.dvd_antisymm d1 d2
  have en : a.n = b.n := by
    rw [ed] at e
    exact Int.eq_of_mul_eq_mul_right (by have := hb.1; omega) e
  obtain ⟨n, d⟩ := a
  obtain ⟨n', d'⟩ := b
  have ed : d = d' := ed
  have en : n = n' := en
  rw [ed, en]
/-- the value of bounded whole numbers is bounded in its lowest terms -/
theorem can_bound {a : Q} {N : Int} {D : Int} {s : Nat} (ha : Can a) (hD : D ≠ 0) (h : vq a * (D : Rat) = (N : Rat)) (hN : N.natAbs < 2 ^ s) (hD2 : D.natAbs < 2 ^ s) : Fq s a := by
  have h1 := castd0 ha.1
  have e : (a.n : Rat) * (D : Rat) = (N : Rat) * (a.d : Rat) := by unfold vq at h; grind
  have e : a.n * D = N * (a.d : Int) := by
    rw [← Rat.intCast_inj, Rat.intCast_mul, Rat.intCast_mul]
    exact e
  have e2 := congrArg Int.natAbs e
  rw [Int.natAbs_mul, Int.natAbs_mul, Int.natAbs_natCast] at e2
  have d1 : a.d ∣ D.natAbs := by
    have : a.d ∣ a.n.natAbs * D.natAbs := by rw [e2]; exact Nat.dvd_mul_left _ _
    exact (Nat.Coprime.dvd_of_dvd_mul_left (by show Nat.gcd a.d a.n.natAbs = 1; rw [Nat.gcd_comm]; exact ha.2) this)
  have hDp : 0 < D.natAbs := by omega
  refine ⟨ha.1, ?_, Nat.lt_of_le_of_lt (Nat.le_of_dvd hDp d1) hD2⟩
  by_cases hz : N = 0
  · have : a.n.natAbs * D.natAbs = 0 := by rw [e2, hz]; simp
    rcases Nat.mul_eq_zero.mp this with z | z
    · rw [z]; exact Nat.two_pow_pos _
    · omega
  · have d2 : a.n.natAbs ∣ N.natAbs := by
      have : a.n.natAbs ∣ N.natAbs * a.d := by rw [← e2]; exact Nat.dvd_mul_right _ _
      exact Nat.Coprime.dvd_of_dvd_mul_right ha.2 this
    exact Nat.lt_of_le_of_lt (Nat.le_of_dvd (by omega) d2) hN
end Rc
namespace Rc
open Kzq1 (Q P turn at0 sides cross clip onLine unlike straightened formed begunWith meet)
/-! ### points as two rational numbers -/
def vx (z : P) : Rat := vq z.x
def vy (z : P) : Rat := vq z.y
/-- in lowest terms -/
def Cp (z : P) : Prop := Can z.x ∧ Can z.y
theorem Cp.ext {a b : P} (ha : Cp a) (hb : Cp b) (h1 : vx a = vx b) (h2 : vy a = vy b) : a = b := by
  obtain ⟨x, y⟩ := a
  obtain ⟨x', y'⟩ := b
  have e1 : x = x' := can_eq ha.1 hb.1 h1
  have e2 : y = y' := can_eq ha.2 hb.2 h2
  rw [e1, e2]
theorem can_add {a b : Q} (ha : 0 < a.d) (hb : 0 < b.d) : Can (Kzq1.add a b) := can_mk (Nat.mul_pos ha hb)
theorem can_sub {a b : Q} (ha : 0 < a.d) (hb : 0 < b.d) : Can (Kzq1.sub a b) := can_add ha (by exact hb)
theorem can_mul {a b : Q} (ha : 0 < a.d) (hb : 0 < b.d) : Can (Kzq1.mul a b) := can_mk (Nat.mul_pos ha hb)
theorem Can.neg {a : Q} (h : Can a) : Can (Kzq1.neg a) := ⟨h.1, by
  show Nat.gcd (-a.n).natAbs a.d = 1
  rw [Int.natAbs_neg]
  exact h.2⟩
theorem can_inv {a : Q} (ha : 0 < a.d) (h0 : a.n ≠ 0) : Can (Kzq1.inv a) := by
  unfold Kzq1.inv
  have hp : 0 < a.n.natAbs := by omega
  split
  · exact can_mk hp
  · exact can_mk hp
theorem can_div {a b : Q} (ha : 0 < a.d) (hb : 0 < b.d) (h0 : b.n ≠ 0) : Can (Kzq1.div a b) := can_mul ha (can_inv hb h0).1
theorem cp_less {a b : P} (ha : Cp a) (hb : Cp b) : Cp (Kzq1.less a b) := ⟨can_sub ha.1.1 hb.1.1, can_sub ha.2.1 hb.2.1⟩
theorem cp_plus {a b : P} (ha : Cp a) (hb : Cp b) : Cp (Kzq1.plus a b) := ⟨can_add ha.1.1 hb.1.1, can_add ha.2.1 hb.2.1⟩
theorem can_turn {a b c : P} (ha : Cp a) (hb : Cp b) (hc : Cp c) : Can (turn a b c) := by
  have h1 := cp_less hb ha
  have h2 := cp_less hc ha
  exact can_sub (can_mul h1.1.1 h2.2.1).1 (can_mul h1.2.1 h2.1.1).1
def tr (a b c : P) : Rat := (vx b - vx a) * (vy c - vy a) - (vy b - vy a) * (vx c - vx a)
theorem vq_turn {a b c : P} (ha : Cp a) (hb : Cp b) (hc : Cp c) : vq (turn a b c) = tr a b c := by
  have h1 := cp_less hb ha
  have h2 := cp_less hc ha
  show vq (Kzq1.sub (Kzq1.mul _ _) (Kzq1.mul _ _)) = _
  rw [vq_sub (can_mul h1.1.1 h2.2.1).1 (can_mul h1.2.1 h2.1.1).1, vq_mul h1.1.1 h2.2.1, vq_mul h1.2.1 h2.1.1]
  show vq (Kzq1.sub b.x a.x) * vq (Kzq1.sub c.y a.y) - vq (Kzq1.sub b.y a.y) * vq (Kzq1.sub c.x a.x) = _
  rw [vq_sub hb.1.1 ha.1.1, vq_sub hc.2.1 ha.2.1, vq_sub hb.2.1 ha.2.1, vq_sub hc.1.1 ha.1.1]
  rfl
theorem turn_pos {a b c : P} (ha : Cp a) (hb : Cp b) (hc : Cp c) : 0 < (turn a b c).n ↔ 0 < tr a b c := by
  rw [vq_pos (can_turn ha hb hc).1, vq_turn ha hb hc]
theorem turn_neg {a b c : P} (ha : Cp a) (hb : Cp b) (hc : Cp c) : (turn a b c).n < 0 ↔ tr a b c < 0 := by
  rw [vq_neg' (can_turn ha hb hc).1, vq_turn ha hb hc]
theorem turn_zero {a b c : P} (ha : Cp a) (hb : Cp b) (hc : Cp c) : (turn a b c).n = 0 ↔ tr a b c = 0 := by
  rw [vq_zero (can_turn ha hb hc).1, vq_turn ha hb hc]
theorem lt_zero (q : Q) : Kzq1.lt q Kzq1.zero = decide (q.n < 0) := by
  unfold Kzq1.lt Kzq1.zero
  show decide (q.n * 1 < 0 * (q.d : Int)) = _
  rw [Int.mul_one, Int.zero_mul]
/-! ### where the way comes over the line -/
structure Between (a b z : P) (t : Rat) : Prop where
  t0 : 0 < t
  t1 : t < 1
  x : vx z = vx a + t * (vx b - vx a)
  y : vy z = vy a + t * (vy b - vy a)
theorem onLine_is {s : P × P} {a b : P} (h1 : Cp s.1) (h2 : Cp s.2) (ha : Cp a) (hb : Cp b) (ho : (0 < tr s.1 s.2 a ∧ tr s.1 s.2 b < 0) ∨ (tr s.1 s.2 a < 0 ∧ 0 < tr s.1 s.2 b)) :
    Cp (onLine s a b) ∧ Between a b (onLine s a b) (tr s.1 s.2 a / (tr s.1 s.2 a - tr s.1 s.2 b)) ∧ tr s.1 s.2 (onLine s a b) = 0 := by
  have cu := can_turn h1 h2 ha
  have cv := can_turn h1 h2 hb
  have cw := can_sub cu.1 cv.1
  have e0 : vq (Kzq1.sub (turn s.1 s.2 a) (turn s.1 s.2 b)) = tr s.1 s.2 a - tr s.1 s.2 b := by rw [vq_sub cu.1 cv.1, vq_turn h1 h2 ha, vq_turn h1 h2 hb]
  have n0 : (Kzq1.sub (turn s.1 s.2 a) (turn s.1 s.2 b)).n ≠ 0 := fun z => by
    have := (vq_zero cw.1).mp z
    rw [e0] at this
    grind
  have ct := can_div cu.1 cw.1 n0
  have et : vq (Kzq1.div (turn s.1 s.2 a) (Kzq1.sub (turn s.1 s.2 a) (turn s.1 s.2 b))) = tr s.1 s.2 a / (tr s.1 s.2 a - tr s.1 s.2 b) := by
    rw [vq_div cu.1 cw.1 n0, e0, vq_turn h1 h2 ha]
  have cl := cp_less hb ha
  have cm : Cp (Kzq1.times (Kzq1.div (turn s.1 s.2 a) (Kzq1.sub (turn s.1 s.2 a) (turn s.1 s.2 b))) (Kzq1.less b a)) := ⟨can_mul ct.1 cl.1.1, can_mul ct.1 cl.2.1⟩
  have c : Cp (onLine s a b) := cp_plus ha cm
  have ex : vx (onLine s a b) = vx a + tr s.1 s.2 a / (tr s.1 s.2 a - tr s.1 s.2 b) * (vx b - vx a) := by
    show vq (Kzq1.add a.x (Kzq1.mul _ (Kzq1.less b a).x)) = _
    rw [vq_add ha.1.1 (can_mul ct.1 cl.1.1).1, vq_mul ct.1 cl.1.1, et, show vq (Kzq1.less b a).x = vq b.x - vq a.x from vq_sub hb.1.1 ha.1.1]
    rfl
  have ey : vy (onLine s a b) = vy a + tr s.1 s.2 a / (tr s.1 s.2 a - tr s.1 s.2 b) * (vy b - vy a) := by
    show vq (Kzq1.add a.y (Kzq1.mul _ (Kzq1.less b a).y)) = _
    rw [vq_add ha.2.1 (can_mul ct.1 cl.2.1).1, vq_mul ct.1 cl.2.1, et, show vq (Kzq1.less b a).y = vq b.y - vq a.y from vq_sub hb.2.1 ha.2.1]
    rfl
  generalize hu : tr s.1 s.2 a = u at *
  generalize hv : tr s.1 s.2 b = v at *
  have huv : u - v ≠ 0 := by grind
  have tt : 0 < u / (u - v) ∧ u / (u - v) < 1 := by
    rcases ho with ⟨p, q⟩ | ⟨p, q⟩
    · have d : 0 < u - v := by grind
      exact ⟨rdiv_pos p d, (Rat.div_lt_iff d).mpr (by rw [Rat.one_mul]; grind)⟩
    · have d : 0 < v - u := by grind
      have e : u / (u - v) = (-u) / (v - u) := by
        have : v - u ≠ 0 := by grind
        grind
      rw [e]
      exact ⟨rdiv_pos (by grind) d, (Rat.div_lt_iff d).mpr (by rw [Rat.one_mul]; grind)⟩
  refine ⟨c, ⟨tt.1, tt.2, ex, ey⟩, ?_⟩
  unfold tr at hu hv ⊢
  rw [ex, ey]
  generalize vx a = ax at *
  generalize vy a = ay at *
  generalize vx b = bx at *
  generalize vy b = by' at *
  generalize vx s.1 = sx at *
  generalize vy s.1 = sy at *
  generalize vx s.2 = qx at *
  generalize vy s.2 = qy at *
  have k : u / (u - v) * (u - v) = u := rdiv_mul huv
  generalize u / (u - v) = t at *
  grind
end Rc
namespace Rc
open Kzq1 (Q P turn at0 sides cross clip onLine unlike straightened formed begunWith meet)
/-! ### what a side leaves, corner by corner -/
def cuts (s : P × P) (a b : P) : Bool := (Kzq1.pos (turn s.1 s.2 a) && Kzq1.lt (turn s.1 s.2 b) Kzq1.zero) || (Kzq1.lt (turn s.1 s.2 a) Kzq1.zero && Kzq1.pos (turn s.1 s.2 b))
def ins (s : P × P) (a b : P) : List P := if cuts s a b then [onLine s a b] else []
def kp (s : P × P) (a : P) : Bool := !Kzq1.lt (turn s.1 s.2 a) Kzq1.zero
def blk (s : P × P) (a b : P) : List P := (if Kzq1.lt (turn s.1 s.2 a) Kzq1.zero then [] else [a]) ++ ins s a b
/-- all points, and where the ways between them come over the line -/
def body (s : P × P) (x : P) : List P → List P
  | [] => []
  | [a] => a :: ins s a x
  | a :: b :: r => a :: (ins s a b ++ body s x (b :: r))
def blks (s : P × P) (x : P) : List P → List P
  | [] => []
  | [a] => blk s a x
  | a :: b :: r => blk s a b ++ blks s x (b :: r)
theorem clip_map (s : P × P) (l : List P) : clip s l = (sides l).flatMap fun t => blk s t.1 t.2 := by
  unfold clip sides
  rw [List.flatMap_map]
  rfl
/-- the sides, one after another, by the list alone -/
def ways (x : P) : List P → List (P × P)
  | [] => []
  | [a] => [(a, x)]
  | a :: b :: r => (a, b) :: ways x (b :: r)
theorem ways_len (x : P) : ∀ l, (ways x l).length = l.length
  | [] => rfl
  | [a] => rfl
  | a :: b :: r => congrArg (· + 1) (ways_len x (b :: r))
theorem ways_get (x : P) : ∀ (l : List P) (i : Nat) (h : i < l.length), (ways x l)[i]? = some (l[i], ((l ++ [x])[i + 1]?).getD x)
  | [], i, h => absurd h (by simp)
  | [a], i, h => by
    have : i = 0 := by simp at h; omega
    subst this
    rfl
  | a :: b :: r, 0, h => rfl
  | a :: b :: r, i + 1, h => by
    have := ways_get x (b :: r) i (by simp at h ⊢; omega)
    show (ways x (b :: r))[i]? = _
    rw [this]
    rfl
theorem sides_ways (x : P) (r : List P) : sides (x :: r) = ways x (x :: r) := by
  refine List.ext_getElem? fun i => ?_
  by_cases h : i < (x :: r).length
  · rw [ways_get x (x :: r) i h]
    unfold sides
    rw [List.getElem?_map, List.getElem?_range h]
    show some (at0 (x :: r) i, at0 (x :: r) (i + 1)) = _
    have e1 : at0 (x :: r) i = (x :: r)[i] := at0_of (by simp [h])
    have e2 : at0 (x :: r) (i + 1) = (((x :: r) ++ [x])[i + 1]?).getD x := by
      by_cases k : i + 1 < (x :: r).length
      · rw [List.getElem?_append_left k, List.getElem?_eq_getElem k]
        exact at0_of (by simp [k])
      · have : i + 1 = (x :: r).length := by omega
        rw [List.getElem?_append_right (by omega), this]
        simp only [Nat.sub_self, List.getElem?_cons_zero, Option.getD_some]
        unfold at0
        rw [Nat.mod_self]
        rfl
    rw [e1, e2]
  · rw [List.getElem?_eq_none (by unfold sides; simp at h ⊢; omega), List.getElem?_eq_none (by rw [ways_len]; omega)]
theorem blks_ways (s : P × P) (x : P) : ∀ l, (ways x l).flatMap (fun t => blk s t.1 t.2) = blks s x l
  | [] => rfl
  | [a] => by show blk s a x ++ [] = _; rw [List.append_nil]; rfl
  | a :: b :: r => by
    show blk s a b ++ (ways x (b :: r)).flatMap (fun t => blk s t.1 t.2) = _
    rw [blks_ways s x (b :: r)]
    rfl
theorem clip_blks (s : P × P) (x : P) (r : List P) : clip s (x :: r) = blks s x (x :: r) := by
  rw [clip_map, sides_ways, blks_ways]
theorem clip_nil (s : P × P) : clip s [] = [] := rfl
theorem pos_dec (q : Q) : Kzq1.pos q = decide (0 < q.n) := rfl
def Cs (s : P × P) : Prop := Cp s.1 ∧ Cp s.2
def us (s : P × P) (z : P) : Rat := tr s.1 s.2 z
theorem cuts_is {s : P × P} {a b : P} (hs : Cs s) (ha : Cp a) (hb : Cp b) : cuts s a b = true ↔ (0 < us s a ∧ us s b < 0) ∨ (us s a < 0 ∧ 0 < us s b) := by
  unfold cuts us
  rw [Bool.or_eq_true, Bool.and_eq_true, Bool.and_eq_true, lt_zero, lt_zero, pos_dec, pos_dec, decide_eq_true_iff, decide_eq_true_iff, decide_eq_true_iff, decide_eq_true_iff,
    turn_pos hs.1 hs.2 ha, turn_pos hs.1 hs.2 hb, turn_neg hs.1 hs.2 ha, turn_neg hs.1 hs.2 hb]
theorem kp_is {s : P × P} {a : P} (hs : Cs s) (ha : Cp a) : kp s a = true ↔ 0 ≤ us s a := by
  unfold kp us
  rw [Bool.not_eq_true', lt_zero, decide_eq_false_iff_not, turn_neg hs.1 hs.2 ha]
  exact Rat.not_lt
structure Cut (s : P × P) (a b z : P) : Prop where
  o : (0 < us s a ∧ us s b < 0) ∨ (us s a < 0 ∧ 0 < us s b)
  c : Cp z
  b : ∃ t, Between a b z t
  z : us s z = 0
theorem cut_of {s : P × P} {a b : P} (hs : Cs s) (ha : Cp a) (hb : Cp b) (h : cuts s a b = true) : Cut s a b (onLine s a b) := by
  have o := (cuts_is hs ha hb).mp h
  have := onLine_is hs.1 hs.2 ha hb o
  exact ⟨o, this.1, ⟨_, this.2.1⟩, this.2.2⟩
theorem ins_mem {s : P × P} {a b z : P} (hs : Cs s) (ha : Cp a) (hb : Cp b) (h : z ∈ ins s a b) : Cut s a b z := by
  unfold ins at h
  split at h
  · rw [List.mem_singleton] at h
    subst h
    exact cut_of hs ha hb (by assumption)
  · cases h
theorem ins_kp {s : P × P} {a b : P} (hs : Cs s) (ha : Cp a) (hb : Cp b) : (ins s a b).filter (kp s) = ins s a b := by
  refine List.filter_eq_self.mpr fun z hz => ?_
  have c := ins_mem hs ha hb hz
  exact (kp_is hs c.c).mpr (by rw [c.z]; exact Rat.le_refl)
def CL (l : List P) : Prop := ∀ z ∈ l, Cp z
theorem blk_kp {s : P × P} {a b : P} (hs : Cs s) (ha : Cp a) (hb : Cp b) : blk s a b = (a :: ins s a b).filter (kp s) := by
  rw [List.filter_cons, ins_kp hs ha hb]
  unfold blk kp
  cases Kzq1.lt (turn s.1 s.2 a) Kzq1.zero <;> rfl
theorem blks_body {s : P × P} (hs : Cs s) {x : P} (hx : Cp x) : ∀ {l : List P}, CL l → blks s x l = (body s x l).filter (kp s)
  | [], _ => rfl
  | [a], h => blk_kp hs (h a (by simp)) hx
  | a :: b :: r, h => by
    show blk s a b ++ blks s x (b :: r) = (a :: (ins s a b ++ body s x (b :: r))).filter _
    rw [blks_body hs hx (l := b :: r) (fun z hz => h z (List.mem_cons_of_mem _ hz)), blk_kp hs (h a (by simp)) (h b (by simp)), ← List.cons_append, List.filter_append]
theorem clip_body {s : P × P} (hs : Cs s) {x : P} {r : List P} (h : CL (x :: r)) : clip s (x :: r) = (body s x (x :: r)).filter (kp s) := by
  rw [clip_blks, blks_body hs (h x (by simp)) h]
/-! ### what holds of all points -/
theorem body_mem {s : P × P} (hs : Cs s) {x : P} (hx : Cp x) : ∀ {l : List P}, CL l → ∀ {z}, z ∈ body s x l → z ∈ l ∨ ∃ a b, a ∈ l ∧ (b ∈ l ∨ b = x) ∧ Cut s a b z
  | [], _, z, h => by cases h
  | [a], hc, z, h => by
    rcases List.mem_cons.mp h with e | e
    · exact .inl (by rw [e]; exact List.mem_cons_self)
    · exact .inr ⟨a, x, List.mem_cons_self, .inr rfl, ins_mem hs (hc a (by simp)) hx e⟩
  | a :: b :: r, hc, z, h => by
    rcases List.mem_cons.mp h with e | e
    · exact .inl (by rw [e]; exact List.mem_cons_self)
    · rcases List.mem_append.mp e with e | e
      · exact .inr ⟨a, b, List.mem_cons_self, .inl (by simp), ins_mem hs (hc a (by simp)) (hc b (by simp)) e⟩
      · rcases body_mem hs hx (l := b :: r) (fun z hz => hc z (List.mem_cons_of_mem _ hz)) e with f | ⟨a', b', h1, h2, h3⟩
        · exact .inl (List.mem_cons_of_mem _ f)
        · exact .inr ⟨a', b', List.mem_cons_of_mem _ h1, h2.imp_left (List.mem_cons_of_mem _), h3⟩
theorem clip_mem {s : P × P} (hs : Cs s) {l : List P} (hc : CL l) {z : P} (h : z ∈ clip s l) : (z ∈ l ∨ ∃ a b, a ∈ l ∧ b ∈ l ∧ Cut s a b z) ∧ Cp z ∧ 0 ≤ us s z := by
  match l, hc, h with
  | [], hc, h => cases h
  | x :: r, hc, h =>
    rw [clip_body hs hc] at h
    obtain ⟨h1, h2⟩ := List.mem_filter.mp h
    have h3 := body_mem hs (hc x (by simp)) hc h1
    have h4 : z ∈ (x :: r) ∨ ∃ a b, a ∈ (x :: r) ∧ b ∈ (x :: r) ∧ Cut s a b z := by
      rcases h3 with e | ⟨a, b, e1, e2, e3⟩
      · exact .inl e
      · exact .inr ⟨a, b, e1, e2.elim id fun e => by rw [e]; exact List.mem_cons_self, e3⟩
    have hz : Cp z := by
      rcases h4 with e | ⟨a, b, e1, e2, e3⟩
      · exact hc z e
      · exact e3.c
    exact ⟨h4, hz, (kp_is hs hz).mp h2⟩
theorem clip_cl {s : P × P} (hs : Cs s) {l : List P} (hc : CL l) : CL (clip s l) := fun z hz => (clip_mem hs hc hz).2.1
/-- a way to measure: straight -/
structure Af where
  a : Rat
  b : Rat
  c : Rat
def Af.at (f : Af) (z : P) : Rat := f.a * vx z + f.b * vy z + f.c
theorem Af.between {f : Af} {a b z : P} {t : Rat} (h : Between a b z t) : f.at z = f.at a + t * (f.at b - f.at a) := by
  unfold Af.at
  rw [h.x, h.y]
  grind
def usA (s : P × P) : Af := ⟨-(vy s.2 - vy s.1), vx s.2 - vx s.1, (vy s.2 - vy s.1) * vx s.1 - (vx s.2 - vx s.1) * vy s.1⟩
theorem us_is (s : P × P) (z : P) : us s z = (usA s).at z := by
  unfold us tr usA Af.at
  grind
theorem mid_nn {a b t : Rat} (ha : 0 ≤ a) (hb : 0 ≤ b) (h0 : 0 < t) (h1 : t < 1) : 0 ≤ a + t * (b - a) := by
  have h2 : 0 ≤ (1 - t) * a := Rat.mul_nonneg (by grind) ha
  have h3 : 0 ≤ t * b := Rat.mul_nonneg (by grind) hb
  grind
theorem mid_pos {a b t : Rat} (h0 : 0 < t) (h1 : t < 1) (h : 0 < a + t * (b - a)) : 0 < a ∨ 0 < b := by
  by_cases ha : 0 < a
  · exact .inl ha
  · by_cases hb : 0 < b
    · exact .inr hb
    · have h2 : 0 ≤ (1 - t) * (-a) := Rat.mul_nonneg (by grind) (by grind)
      have h3 : 0 ≤ t * (-b) := Rat.mul_nonneg (by grind) (by grind)
      grind
theorem clip_nn {s : P × P} (hs : Cs s) {l : List P} (hc : CL l) {f : Af} (h : ∀ z ∈ l, 0 ≤ f.at z) : ∀ z ∈ clip s l, 0 ≤ f.at z := fun z hz => by
  rcases (clip_mem hs hc hz).1 with e | ⟨a, b, ha, hb, k⟩
  · exact h z e
  · obtain ⟨t, ht⟩ := k.b
    rw [Af.between ht]
    exact mid_nn (h a ha) (h b hb) ht.t0 ht.t1
end Rc
namespace Rc
open Kzq1 (Q P turn at0 sides cross clip onLine unlike straightened formed begunWith meet)
/-! ### no four by turns -/
def opp (x y : Rat) : Prop := (0 < x ∧ y < 0) ∨ (x < 0 ∧ 0 < y)
def smS (x y : Rat) : Prop := (0 < x ∧ 0 < y) ∨ (x < 0 ∧ y < 0)
def P4 (f : Af) : List P → Prop
  | [a, b, c, d] => opp (f.at a) (f.at b) ∧ opp (f.at b) (f.at c) ∧ opp (f.at c) (f.at d)
  | _ => False
def NA (l : List P) : Prop := ∀ f w, List.Sublist w l → ¬ P4 f w
theorem NA.sub {l m : List P} (h : NA l) (k : List.Sublist m l) : NA m := fun f w hw => h f w (hw.trans k)
theorem p4_len {f : Af} {w : List P} (h : P4 f w) : ∃ a b c d, w = [a, b, c, d] := by
  match w, h with
  | [a, b, c, d], _ => exact ⟨a, b, c, d, rfl⟩
theorem p4_swap {f : Af} {y z : P} : ∀ {L1 L2 : List P}, P4 f (L1 ++ z :: L2) → smS (f.at z) (f.at y) → P4 f (L1 ++ y :: L2) := by
  intro L1 L2 h e
  unfold smS at e
  match L1, L2, h with
  | [], [b, c, d], h => obtain ⟨h1, h2, h3⟩ := h; exact ⟨by unfold opp at *; grind, h2, h3⟩
  | [a], [c, d], h => obtain ⟨h1, h2, h3⟩ := h; exact ⟨by unfold opp at *; grind, by unfold opp at *; grind, h3⟩
  | [a, b], [d], h => obtain ⟨h1, h2, h3⟩ := h; exact ⟨h1, by unfold opp at *; grind, by unfold opp at *; grind⟩
  | [a, b, c], [], h => obtain ⟨h1, h2, h3⟩ := h; exact ⟨h1, h2, by unfold opp at *; grind⟩
  | _ :: _ :: _ :: _ :: r, L2, h => cases r <;> exact h.elim
theorem p4_adj {f : Af} {y z : P} : ∀ {L1 L2 : List P}, P4 f (L1 ++ y :: z :: L2) → opp (f.at y) (f.at z) := by
  intro L1 L2 h
  match L1, L2, h with
  | [], [c, d], h => exact h.1
  | [a], [d], h => exact h.2.1
  | [a, b], [], h => exact h.2.2
  | [_, _, _], L2, h => exact False.elim h
  | _ :: _ :: _ :: _ :: r, L2, h => cases r <;> exact False.elim h
theorem p4_nz {f : Af} {z : P} : ∀ {L1 L2 : List P}, P4 f (L1 ++ z :: L2) → f.at z ≠ 0 := by
  intro L1 L2 h
  match L1, L2, h with
  | [], [b, c, d], h => obtain ⟨h1, h2, h3⟩ := h; unfold opp at *; grind
  | [a], [c, d], h => obtain ⟨h1, h2, h3⟩ := h; unfold opp at *; grind
  | [a, b], [d], h => obtain ⟨h1, h2, h3⟩ := h; unfold opp at *; grind
  | [a, b, c], [], h => obtain ⟨h1, h2, h3⟩ := h; unfold opp at *; grind
  | _ :: _ :: _ :: _ :: r, L2, h => cases r <;> exact h.elim
theorem mid_neg {a b t : Rat} (h0 : 0 < t) (h1 : t < 1) (h : a + t * (b - a) < 0) : a < 0 ∨ b < 0 := by
  have := mid_pos (a := -a) (b := -b) h0 h1 (by grind)
  grind
theorem sm_of {f : Af} {a b z : P} {t : Rat} (h : Between a b z t) (n : f.at z ≠ 0) : smS (f.at z) (f.at a) ∨ smS (f.at z) (f.at b) := by
  have e := Af.between (f := f) h
  unfold smS
  rcases (show f.at z < 0 ∨ 0 < f.at z by grind) with k | k
  · have := mid_neg h.t0 h.t1 (by rw [← e]; exact k)
    grind
  · have := mid_pos h.t0 h.t1 (by rw [← e]; exact k)
    grind
theorem sm_opp {x y : Rat} (h : smS x y) (k : opp x y) : False := by unfold smS opp at *; grind
theorem opp_symm {x y : Rat} (h : opp x y) : opp y x := by unfold opp at *; grind
theorem na_put {p q : List P} {a b z : P} {t : Rat} (h : NA (p ++ a :: b :: q)) (hz : Between a b z t) : NA (p ++ a :: z :: b :: q) := by
  intro f w hw h4
  have hw' : List.Sublist w ((p ++ [a]) ++ (z :: b :: q)) := by simpa using hw
  obtain ⟨w1, w2, rfl, h1, h2⟩ := List.sublist_append_iff.mp hw'
  rcases List.sublist_cons_iff.mp h2 with h2 | ⟨w3, rfl, h3⟩
  · exact h f _ (by simpa using h1.append h2) h4
  · rcases sm_of hz (p4_nz h4) with s | s
    · obtain ⟨u1, u2, rfl, k1, k2⟩ := List.sublist_append_iff.mp h1
      rcases List.sublist_cons_iff.mp k2 with k2 | ⟨u3, rfl, k3⟩
      · rw [List.sublist_nil.mp k2, List.append_nil] at h4
        exact h f _ (k1.append (List.Sublist.cons_cons a h3)) (p4_swap h4 s)
      · rw [List.sublist_nil.mp k3] at h4
        rw [List.append_assoc] at h4
        exact sm_opp s (opp_symm (p4_adj h4))
    · rcases List.sublist_cons_iff.mp h3 with h3 | ⟨w4, rfl, k3⟩
      · exact h f _ (by simpa using h1.append (List.Sublist.cons_cons b h3)) (p4_swap h4 s)
      · exact sm_opp s (p4_adj h4)
theorem na_close {l p q : List P} {a b z : P} {t : Rat} (h : NA l) (e1 : l = a :: q) (e2 : l = p ++ [b]) (hz : Between b a z t) : NA (l ++ [z]) := by
  intro f w hw h4
  obtain ⟨w1, w2, rfl, h1, h2⟩ := List.sublist_append_iff.mp hw
  rcases List.sublist_cons_iff.mp h2 with h2 | ⟨w3, rfl, h3⟩
  · rw [List.sublist_nil.mp h2, List.append_nil] at h4
    exact h f _ h1 h4
  · rw [List.sublist_nil.mp h3] at h4
    rcases sm_of hz (p4_nz h4) with s | s
    · rw [e2] at h1
      obtain ⟨u1, u2, rfl, k1, k2⟩ := List.sublist_append_iff.mp h1
      rcases List.sublist_cons_iff.mp k2 with k2 | ⟨u3, rfl, k3⟩
      · rw [List.sublist_nil.mp k2, List.append_nil] at h4
        exact h f _ (e2 ▸ (k1.append (List.Sublist.refl [b]))) (p4_swap h4 s)
      · rw [List.sublist_nil.mp k3] at h4
        rw [List.append_assoc] at h4
        exact sm_opp s (opp_symm (p4_adj h4))
    · rw [e1] at h1
      obtain ⟨c1, c2, c3, c4, e⟩ := p4_len h4
      have hl : w1 = [c1, c2, c3] ∧ z = c4 := by
        match w1, e with
        | [x1, x2, x3], e => injection e with q1 e; injection e with q2 e; injection e with q3 e; injection e with q4 e; exact ⟨by rw [q1, q2, q3], q4⟩
        | [], e => simp at e
        | [x1], e => simp at e
        | [x1, x2], e => simp at e
        | x1 :: x2 :: x3 :: x4 :: r, e => simp at e
      obtain ⟨rfl, rfl⟩ := hl
      obtain ⟨h5, h6, h7⟩ := h4
      rcases List.sublist_cons_iff.mp h1 with h1 | ⟨w4, e4, k4⟩
      · refine h f [a, c1, c2, c3] (e1 ▸ List.Sublist.cons_cons a h1) ⟨?_, h5, h6⟩
        unfold opp smS at *
        grind
      · injection e4 with e4 _
        subst e4
        unfold opp smS at *
        grind
def ob (s : P × P) : List P → List P
  | [] => []
  | [a] => [a]
  | a :: b :: r => a :: (ins s a b ++ ob s (b :: r))
theorem body_ob (s : P × P) (x : P) : ∀ (l p : List P) (b : P), l = p ++ [b] → body s x l = ob s l ++ ins s b x
  | [], p, b, e => by simp at e
  | [a], p, b, e => by
    have : a = b := by
      match p, e with
      | [], e => injection e
      | [y], e => simp at e
      | y :: y2 :: r, e => simp at e
    subst this
    rfl
  | a :: c :: r, p, b, e => by
    match p, e with
    | [], e => simp at e
    | y :: p, e =>
      injection e with e1 e2
      show a :: (ins s a c ++ body s x (c :: r)) = a :: (ins s a c ++ ob s (c :: r)) ++ _
      rw [body_ob s x (c :: r) p b e2, List.cons_append, List.append_assoc]
theorem ob_ends (s : P × P) : ∀ (l : List P) (a : P) (q : List P), l = a :: q → (∃ q', ob s l = a :: q')
  | [a], _, q, e => by injection e with e1 _; subst e1; exact ⟨[], rfl⟩
  | a :: c :: r, _, q, e => by injection e with e1 _; subst e1; exact ⟨_, rfl⟩
theorem ob_last (s : P × P) : ∀ (l p : List P) (b : P), l = p ++ [b] → ∃ p', ob s l = p' ++ [b]
  | [], p, b, e => by simp at e
  | [a], p, b, e => ⟨p, by show [a] = _; exact e⟩
  | a :: c :: r, p, b, e => by
    match p, e with
    | [], e => simp at e
    | y :: p, e =>
      injection e with e1 e2
      obtain ⟨p', h⟩ := ob_last s (c :: r) p b e2
      exact ⟨a :: (ins s a c ++ p'), by show a :: (ins s a c ++ ob s (c :: r)) = _; rw [h]; simp⟩
theorem ob_na {s : P × P} (hs : Cs s) : ∀ (r p : List P) (a : P), CL (a :: r) → NA (p ++ a :: r) → NA (p ++ ob s (a :: r))
  | [], p, a, hc, h => h
  | b :: r, p, a, hc, h => by
    have hc2 : CL (b :: r) := fun z hz => hc z (List.mem_cons_of_mem _ hz)
    show NA (p ++ a :: (ins s a b ++ ob s (b :: r)))
    by_cases c : cuts s a b = true
    · have e : ins s a b = [onLine s a b] := if_pos c
      rw [e]
      obtain ⟨t, ht⟩ := (cut_of hs (hc a (by simp)) (hc b (by simp)) c).b
      have h1 := na_put h ht
      have := ob_na hs r (p ++ [a, onLine s a b]) b hc2 (by simpa using h1)
      simpa using this
    · have e : ins s a b = [] := if_neg c
      rw [e]
      have := ob_na hs r (p ++ [a]) b hc2 (by simpa using h)
      simpa using this
theorem snoc_of {α : Type} (x : α) (r : List α) : ∃ p b, x :: r = p ++ [b] := ⟨(x :: r).dropLast, (x :: r).getLast (by simp), (List.dropLast_concat_getLast (by simp)).symm⟩
theorem body_na {s : P × P} (hs : Cs s) {x : P} {r : List P} (hc : CL (x :: r)) (h : NA (x :: r)) : NA (body s x (x :: r)) := by
  obtain ⟨p, b, e⟩ := snoc_of x r
  rw [body_ob s x _ p b e]
  have h1 := ob_na hs r [] x hc h
  by_cases c : cuts s b x = true
  · have e' : ins s b x = [onLine s b x] := if_pos c
    rw [e']
    obtain ⟨t, ht⟩ := (cut_of hs (hc b (by rw [e]; simp)) (hc x (by simp)) c).b
    obtain ⟨q', e1⟩ := ob_ends s (x :: r) x r rfl
    obtain ⟨p', e2⟩ := ob_last s (x :: r) p b e
    exact na_close h1 e1 e2 ht
  · have e' : ins s b x = [] := if_neg c
    rw [e', List.append_nil]
    exact h1
theorem clip_na {s : P × P} (hs : Cs s) {l : List P} (hc : CL l) (h : NA l) : NA (clip s l) := by
  match l, hc, h with
  | [], _, h => exact h
  | x :: r, hc, h => rw [clip_body hs hc]; exact (body_na hs hc h).sub List.filter_sublist
/-! ### how many points -/
def Alt (f : Af) : List P → Prop
  | a :: b :: r => opp (f.at a) (f.at b) ∧ Alt f (b :: r)
  | _ => True
theorem ob_len {s : P × P} (hs : Cs s) : ∀ (r : List P) (a : P), CL (a :: r) → ∃ k, (ob s (a :: r)).length = (a :: r).length + k ∧ (k = 0 ∨ ∃ w, List.Sublist w (a :: r) ∧ Alt (usA s) w ∧ w.length = k + 1)
  | [], a, hc => ⟨0, rfl, .inl rfl⟩
  | b :: r, a, hc => by
    have hc2 : CL (b :: r) := fun z hz => hc z (List.mem_cons_of_mem _ hz)
    obtain ⟨k, h1, h2⟩ := ob_len hs r b hc2
    by_cases c : cuts s a b = true
    · have e : ins s a b = [onLine s a b] := if_pos c
      have o : opp ((usA s).at a) ((usA s).at b) := by
        have := (cuts_is hs (hc a (by simp)) (hc b (by simp))).mp c
        rw [us_is, us_is] at this
        exact this
      refine ⟨k + 1, ?_, .inr ?_⟩
      · show (a :: (ins s a b ++ ob s (b :: r))).length = _
        rw [e]
        simp only [List.length_cons, List.length_append, List.length_nil, h1]
        omega
      · rcases h2 with rfl | ⟨w, w1, w2, w3⟩
        · exact ⟨[a, b], List.Sublist.cons_cons a (List.Sublist.cons_cons b (List.nil_sublist r)), ⟨o, trivial⟩, rfl⟩
        · match w, w1, w2, w3 with
          | [], _, _, w3 => simp at w3
          | y :: w, w1, w2, w3 =>
            by_cases d : opp ((usA s).at a) ((usA s).at y)
            · exact ⟨a :: y :: w, List.Sublist.cons_cons a w1, ⟨d, w2⟩, by simp at w3 ⊢; omega⟩
            · by_cases k0 : w = []
              · subst k0
                have : k = 0 := by simp at w3; omega
                subst this
                exact ⟨[a, b], List.Sublist.cons_cons a (List.Sublist.cons_cons b (List.nil_sublist r)), ⟨o, trivial⟩, rfl⟩
              · have hy : (usA s).at y ≠ 0 := by
                  match w, w2, k0 with
                  | [], _, k0 => exact absurd rfl k0
                  | y2 :: w, w2, _ => have := w2.1; unfold opp at this; grind
                have d2 : opp ((usA s).at b) ((usA s).at y) := by unfold opp at *; grind
                rcases List.sublist_cons_iff.mp w1 with w1 | ⟨w4, e4, k4⟩
                · exact ⟨b :: y :: w, (List.Sublist.cons_cons b w1).trans (List.sublist_cons_self _ _), ⟨d2, w2⟩, by simp at w3 ⊢; omega⟩
                · injection e4 with e4 _
                  subst e4
                  unfold opp at d2
                  grind
    · have e : ins s a b = [] := if_neg c
      refine ⟨k, ?_, h2.imp_right fun ⟨w, w1, w2, w3⟩ => ⟨w, w1.trans (List.sublist_cons_self _ _), w2, w3⟩⟩
      show (a :: (ins s a b ++ ob s (b :: r))).length = _
      rw [e]
      simp only [List.length_cons, List.nil_append, h1]
      omega
theorem ob_len2 {s : P × P} (hs : Cs s) {r : List P} {a : P} (hc : CL (a :: r)) (h : NA (a :: r)) : (ob s (a :: r)).length ≤ (a :: r).length + 2 := by
  obtain ⟨k, h1, h2⟩ := ob_len hs r a hc
  rcases h2 with rfl | ⟨w, w1, w2, w3⟩
  · omega
  · by_cases c : k ≤ 2
    · omega
    · exfalso
      match w, w1, w2, w3 with
      | a1 :: a2 :: a3 :: a4 :: w, w1, w2, w3 =>
        exact h (usA s) [a1, a2, a3, a4] (List.Sublist.trans (List.Sublist.cons_cons _ (List.Sublist.cons_cons _ (List.Sublist.cons_cons _ (List.Sublist.cons_cons _ (List.nil_sublist w))))) w1) ⟨w2.1, w2.2.1, w2.2.2.1⟩
      | [], _, _, w3 => simp at w3
      | [_], _, _, w3 => simp at w3; omega
      | [_, _], _, _, w3 => simp at w3; omega
      | [_, _, _], _, _, w3 => simp at w3; omega
theorem clip_len {s : P × P} (hs : Cs s) {l : List P} (hc : CL l) (h : NA l) : (clip s l).length ≤ l.length + 3 := by
  match l, hc, h with
  | [], _, h => exact Nat.zero_le _
  | x :: r, hc, h =>
    rw [clip_body hs hc]
    refine Nat.le_trans (List.length_filter_le _ _) ?_
    obtain ⟨p, b, e⟩ := snoc_of x r
    rw [body_ob s x _ p b e, List.length_append]
    have h1 := ob_len2 hs hc h
    have h2 : (ins s b x).length ≤ 1 := by
      unfold ins
      split <;> simp
    omega
end Rc
namespace Rc
open Kzq1 (Q P turn at0 sides cross clip onLine unlike straightened formed begunWith meet)
/-! ### what is picked from a list, in order -/
theorem sub_idx {α : Type} {x : α} {w : List α} : ∀ {l : List α}, List.Sublist (x :: w) l → ∃ i, l[i]? = some x ∧ List.Sublist w (l.drop (i + 1))
  | [], h => by cases h
  | y :: l, h => by
    rcases List.sublist_cons_iff.mp h with h | ⟨r, e, k⟩
    · obtain ⟨i, h1, h2⟩ := sub_idx h
      exact ⟨i + 1, h1, h2⟩
    · injection e with e1 e2
      subst e1; subst e2
      exact ⟨0, rfl, k⟩
theorem idx_sub {α : Type} {x : α} {w l : List α} {i : Nat} (h : l[i]? = some x) (k : List.Sublist w (l.drop (i + 1))) : List.Sublist (x :: w) l := by
  obtain ⟨hi, e⟩ := List.getElem?_eq_some_iff.mp h
  have : l = l.take i ++ x :: l.drop (i + 1) := by
    rw [← e, List.getElem_cons_drop, List.take_append_drop]
  rw [this]
  exact (List.Sublist.cons_cons x k).trans (List.sublist_append_right _ _)
theorem idx4 {α : Type} {l : List α} {a b c d : α} {i j k m : Nat} (h1 : l[i]? = some a) (h2 : l[j]? = some b) (h3 : l[k]? = some c) (h4 : l[m]? = some d) (hij : i < j) (hjk : j < k) (hkm : k < m) : List.Sublist [a, b, c, d] l := by
  refine idx_sub h1 (idx_sub (i := j - (i + 1)) ?_ (idx_sub (i := k - (j + 1)) ?_ (idx_sub (i := m - (k + 1)) ?_ (List.nil_sublist _))))
  · rw [List.getElem?_drop, show i + 1 + (j - (i + 1)) = j by omega]; exact h2
  · rw [List.drop_drop, List.getElem?_drop, show i + 1 + (j - (i + 1) + 1) + (k - (j + 1)) = k by omega]; exact h3
  · rw [List.drop_drop, List.drop_drop, List.getElem?_drop, show i + 1 + (j - (i + 1) + 1 + (k - (j + 1) + 1)) + (m - (k + 1)) = m by omega]; exact h4
/-! ### a piece has no four by turns -/
theorem tr_cyc (a b c : P) : tr a b c = tr b c a := by unfold tr; grind
theorem tr_pluck (o a b c d : P) : tr o b d * tr o a c = tr o b c * tr o a d + tr o a b * tr o c d := by unfold tr; grind
theorem tr_four (f : Af) (a b c d : P) : tr b c d * f.at a + tr a b d * f.at c = tr a c d * f.at b + tr a b c * f.at d := by unfold tr Af.at; grind
structure Cv (l : List P) : Prop where
  c : CL l
  v : Kzq1.convex l = true
theorem Cv.at {l : List P} (h : Cv l) (i : Nat) : Cp (at0 l i) := h.c _ (at0_mem (by have := conv_len h.v; omega))
theorem Cv.tr {l : List P} (h : Cv l) {i r : Nat} (h2 : 2 ≤ r) (hr : r < l.length) : 0 < tr (at0 l i) (at0 l (i + 1)) (at0 l (i + r)) := by
  have := conv_pos h.v (i := i) (j := i + r) (by
    have := mod_ne (i := i) (n := l.length) (a := r) (b := 0) hr (by omega) (by omega)
    simpa using this) (mod_ne hr (by omega) (by omega))
  exact (turn_pos (h.at _) (h.at _) (h.at _)).mp (of_decide_eq_true this)
theorem pos_of_mul {x y : Rat} (hy : 0 < y) (h : 0 < x * y) : 0 < x := by
  by_cases c : 0 < x
  · exact c
  · have : 0 ≤ (-x) * y := Rat.mul_nonneg (by grind) (by grind)
    grind
theorem Cv.fan {l : List P} (h : Cv l) (i : Nat) : ∀ (d a : Nat), 1 ≤ a → 1 ≤ d → a + d < l.length → 0 < Rc.tr (at0 l i) (at0 l (i + a)) (at0 l (i + (a + d)))
  | 0, a, _, hd, _ => by omega
  | d + 1, a, ha, _, hn => by
    by_cases a1 : a = 1
    · subst a1
      exact h.tr (by omega) hn
    · by_cases d0 : d = 0
      · subst d0
        have := h.tr (i := i + a) (r := l.length - a) (by omega) (by omega)
        rw [show i + a + (l.length - a) = i + l.length by omega, at0_eq (show (i + l.length) % l.length = i % l.length by simp), ← tr_cyc] at this
        exact this
      · have e := tr_pluck (at0 l i) (at0 l (i + 1)) (at0 l (i + a)) (at0 l (i + (a + d))) (at0 l (i + (a + d + 1)))
        have p1 := h.fan i d a ha (by omega) (by omega)
        have p2 := h.tr (i := i) (r := a + d + 1) (by omega) (by omega)
        have p3 := h.tr (i := i) (r := a) (by omega) (by omega)
        have p4 := h.fan i 1 (a + d) (by omega) (by omega) (by omega)
        have p5 := h.tr (i := i) (r := a + d) (by omega) (by omega)
        have q1 := Rat.mul_pos p1 p2
        have q2 := Rat.mul_pos p3 p4
        exact pos_of_mul p5 (by rw [show a + (d + 1) = a + d + 1 by omega, e]; grind)
theorem Cv.sc {l : List P} (h : Cv l) {x y z : P} {i j k : Nat} (h1 : l[i]? = some x) (h2 : l[j]? = some y) (h3 : l[k]? = some z) (hij : i < j) (hjk : j < k) : 0 < Rc.tr x y z := by
  have hk : k < l.length := (List.getElem?_eq_some_iff.mp h3).1
  have := h.fan i (k - j) (j - i) (by omega) (by omega) (by omega)
  rw [show i + (j - i + (k - j)) = k by omega, show i + (j - i) = j by omega, at0_of h1, at0_of h2, at0_of h3] at this
  exact this
theorem Cv.na {l : List P} (h : Cv l) : NA l := by
  intro f w hw h4
  obtain ⟨a, b, c, d, rfl⟩ := p4_len h4
  obtain ⟨i, h1, k1⟩ := sub_idx hw
  obtain ⟨j, h2, k2⟩ := sub_idx k1
  obtain ⟨k, h3, k3⟩ := sub_idx k2
  obtain ⟨m, h5, _⟩ := sub_idx k3
  rw [List.drop_drop, List.drop_drop, List.getElem?_drop] at h5
  rw [List.drop_drop, List.getElem?_drop] at h3
  rw [List.getElem?_drop] at h2
  have t1 := h.sc h2 h3 h5 (by omega) (by omega)
  have t2 := h.sc h1 h2 h5 (by omega) (by omega)
  have t3 := h.sc h1 h3 h5 (by omega) (by omega)
  have t4 := h.sc h1 h2 h3 (by omega) (by omega)
  have e := tr_four f a b c d
  obtain ⟨o1, o2, o3⟩ := h4
  unfold opp at o1 o2 o3
  rcases o1 with ⟨p1, p2⟩ | ⟨p1, p2⟩
  · have q3 : 0 < f.at c := by grind
    have q4 : f.at d < 0 := by grind
    have m1 := Rat.mul_pos t1 p1
    have m2 := Rat.mul_pos t2 q3
    have m3 := Rat.mul_pos t3 (show 0 < - f.at b by grind)
    have m4 := Rat.mul_pos t4 (show 0 < - f.at d by grind)
    grind
  · have q3 : f.at c < 0 := by grind
    have q4 : 0 < f.at d := by grind
    have m1 := Rat.mul_pos t1 (show 0 < - f.at a by grind)
    have m2 := Rat.mul_pos t2 (show 0 < - f.at c by grind)
    have m3 := Rat.mul_pos t3 p2
    have m4 := Rat.mul_pos t4 q4
    grind
/-! ### all in one line -/
def OnL (l : List P) : Prop := ∃ f : Af, (f.a ≠ 0 ∨ f.b ≠ 0) ∧ ∀ z ∈ l, f.at z = 0
theorem OnL.sub {l m : List P} (h : OnL l) (k : ∀ z ∈ m, z ∈ l) : OnL m := by
  obtain ⟨f, h1, h2⟩ := h
  exact ⟨f, h1, fun z hz => h2 z (k z hz)⟩
theorem OnL.clip {s : P × P} (hs : Cs s) {l : List P} (hc : CL l) (h : OnL l) : OnL (clip s l) := by
  obtain ⟨f, h1, h2⟩ := h
  refine ⟨f, h1, fun z hz => ?_⟩
  rcases (clip_mem hs hc hz).1 with e | ⟨a, b, ha, hb, k⟩
  · exact h2 z e
  · obtain ⟨t, ht⟩ := k.b
    rw [Af.between ht, h2 a ha, h2 b hb]
    grind
theorem OnL.tr {l : List P} (h : OnL l) {a b c : P} (ha : a ∈ l) (hb : b ∈ l) (hc : c ∈ l) : tr a b c = 0 := by
  obtain ⟨f, h1, h2⟩ := h
  have e1 := h2 a ha
  have e2 := h2 b hb
  have e3 := h2 c hc
  unfold Af.at at e1 e2 e3
  unfold Rc.tr
  rcases h1 with h1 | h1
  · have d1 : f.a * (vx b - vx a) = - (f.b * (vy b - vy a)) := by grind
    have d2 : f.a * (vx c - vx a) = - (f.b * (vy c - vy a)) := by grind
    have : f.a * ((vx b - vx a) * (vy c - vy a) - (vy b - vy a) * (vx c - vx a)) = 0 := by grind
    rcases Rat.mul_eq_zero.mp this with k | k
    · exact absurd k h1
    · exact k
  · have d1 : f.b * (vy b - vy a) = - (f.a * (vx b - vx a)) := by grind
    have d2 : f.b * (vy c - vy a) = - (f.a * (vx c - vx a)) := by grind
    have : f.b * ((vx b - vx a) * (vy c - vy a) - (vy b - vy a) * (vx c - vx a)) = 0 := by grind
    rcases Rat.mul_eq_zero.mp this with k | k
    · exact absurd k h1
    · exact k
def lineA (a b : P) : Af := usA (a, b)
theorem lineA_at (a b z : P) : (lineA a b).at z = tr a b z := (us_is (a, b) z).symm
theorem lineA_nz {a b : P} (ha : Cp a) (hb : Cp b) (h : a ≠ b) : (lineA a b).a ≠ 0 ∨ (lineA a b).b ≠ 0 := by
  by_cases h1 : vx a = vx b
  · by_cases h2 : vy a = vy b
    · exact absurd (ha.ext hb h1 h2) h
    · left
      show -(vy b - vy a) ≠ 0
      grind
  · right
    show vx b - vx a ≠ 0
    grind
theorem onL_few {l : List P} (hc : CL l) (h : l.length < 3) : OnL l := by
  match l, h with
  | [], _ => exact ⟨⟨1, 0, 0⟩, .inl (by decide), fun z hz => by cases hz⟩
  | [a], _ => exact ⟨⟨1, 0, - vx a⟩, .inl (by show (1 : Rat) ≠ 0; decide), fun z hz => by
      rw [List.mem_singleton.mp hz]; unfold Af.at; grind⟩
  | [a, b], _ =>
    by_cases c : a = b
    · exact ⟨⟨1, 0, - vx a⟩, .inl (by show (1 : Rat) ≠ 0; decide), fun z hz => by
        have : z = a := by rcases List.mem_cons.mp hz with e | e; exact e; rw [List.mem_singleton.mp e]; exact c.symm
        rw [this]; unfold Af.at; grind⟩
    · refine ⟨lineA a b, lineA_nz (hc a (by simp)) (hc b (by simp)) c, fun z hz => ?_⟩
      rw [lineA_at]
      rcases List.mem_cons.mp hz with e | e
      · rw [e]; unfold Rc.tr; grind
      · rw [List.mem_singleton.mp e]; unfold Rc.tr; grind
theorem at0_mem' {l : List P} {i : Nat} (h : l ≠ []) : at0 l i ∈ l := at0_mem (by cases l; exact absurd rfl h; simp)
theorem OnL.straight {l : List P} (hc : CL l) (h : OnL l) : straightened l = [] := by
  unfold straightened
  refine List.filterMap_eq_nil_iff.mpr fun i hi => ?_
  have hl : l ≠ [] := by rintro rfl; simp at hi
  have m (k : Nat) : at0 l k ∈ l := at0_mem' hl
  have : Kzq1.isZero (turn (at0 l (i + l.length - 1)) (at0 l i) (at0 l (i + 1))) = true := by
    unfold Kzq1.isZero
    rw [beq_iff_eq, turn_zero (hc _ (m _)) (hc _ (m _)) (hc _ (m _))]
    exact h.tr (m _) (m _) (m _)
  rw [if_pos this]
theorem unlike_mem {l : List P} {z : P} (h : z ∈ unlike l) : z ∈ l := by
  unfold unlike at h
  obtain ⟨i, hi, e⟩ := List.mem_filterMap.mp h
  split at e
  · cases e
  · injection e with e
    rw [← e]
    exact at0_mem (by rw [List.mem_range] at hi; omega)
theorem OnL.formed {l : List P} (hc : CL l) (h : OnL l) : formed l = [] := by
  have : straightened (unlike l) = [] := OnL.straight (fun z hz => hc z (unlike_mem hz)) (h.sub fun z hz => unlike_mem hz)
  unfold Kzq1.formed
  rw [this]
  rfl
end Rc
namespace Rc
open Kzq1 (Q P turn at0 sides cross clip onLine unlike straightened formed begunWith meet)
/-! ### like neighbours left out, by the one ahead or by the one behind -/
def dd : List P → List P
  | a :: b :: r => if a = b then dd (b :: r) else a :: dd (b :: r)
  | l => l
def ulk (x : P) : List P → List P
  | [] => []
  | [a] => if a = x then [] else [a]
  | a :: b :: r => if a = b then ulk x (b :: r) else a :: ulk x (b :: r)
def uqk (y : P) : List P → List P
  | [] => []
  | a :: r => if a = y then uqk a r else a :: uqk a r
def uq (l : List P) : List P := (List.range l.length).filterMap fun i => if at0 l i = at0 l (i + l.length - 1) then none else some (at0 l i)
def g1 (t : P × P) : Option P := if t.1 = t.2 then none else some t.1
def g2 (t : P × P) : Option P := if t.2 = t.1 then none else some t.2
theorem ulk_ways (x : P) : ∀ l, (ways x l).filterMap g1 = ulk x l
  | [] => rfl
  | [a] => by
    show [(a, x)].filterMap g1 = if a = x then [] else [a]
    by_cases c : a = x
    · rw [if_pos c]; simp [g1, c]
    · rw [if_neg c]; simp [g1, c]
  | a :: b :: r => by
    show ((a, b) :: ways x (b :: r)).filterMap g1 = if a = b then ulk x (b :: r) else a :: ulk x (b :: r)
    rw [← ulk_ways x (b :: r)]
    by_cases c : a = b
    · rw [if_pos c, List.filterMap_cons]; simp [g1, c]
    · rw [if_neg c, List.filterMap_cons]; simp [g1, c]
theorem unlike_ulk (x : P) (r : List P) : unlike (x :: r) = ulk x (x :: r) := by
  rw [← ulk_ways, ← sides_ways]
  unfold unlike sides
  rw [List.filterMap_map]
  rfl
def pws (y : P) : List P → List (P × P)
  | [] => []
  | a :: r => (y, a) :: pws a r
theorem uqk_pws : ∀ (l : List P) (y : P), (pws y l).filterMap g2 = uqk y l
  | [], y => rfl
  | a :: r, y => by
    show ((y, a) :: pws a r).filterMap g2 = if a = y then uqk a r else a :: uqk a r
    rw [← uqk_pws r a]
    by_cases c : a = y
    · rw [if_pos c, List.filterMap_cons]; simp [g2, c]
    · rw [if_neg c, List.filterMap_cons]; simp [g2, c]
theorem pws_get : ∀ (l : List P) (y : P) (i : Nat) (h : i < l.length), (pws y l)[i]? = some (if i = 0 then y else (l[i - 1]?).getD y, l[i])
  | a :: r, y, 0, h => rfl
  | a :: r, y, i + 1, h => by
    have hr : i < r.length := by simp at h; omega
    show (pws a r)[i]? = _
    rw [pws_get r a i hr]
    cases i with
    | zero => rfl
    | succ i =>
      have : r[i]? = some r[i] := List.getElem?_eq_getElem (by omega)
      simp [this]
theorem pws_len : ∀ (l : List P) (y : P), (pws y l).length = l.length
  | [], _ => rfl
  | a :: r, y => congrArg (· + 1) (pws_len r a)
theorem uq_uqk {l : List P} {p : List P} {y : P} (e : l = p ++ [y]) : uq l = uqk y l := by
  rw [← uqk_pws]
  have hl : 0 < l.length := by rw [e]; simp
  have : pws y l = (List.range l.length).map fun i => (at0 l (i + l.length - 1), at0 l i) := by
    refine List.ext_getElem? fun i => ?_
    by_cases h : i < l.length
    · rw [pws_get l y i h, List.getElem?_map, List.getElem?_range h]
      show some _ = some (at0 l (i + l.length - 1), at0 l i)
      have e1 : at0 l i = l[i] := at0_of (by simp [h])
      have e2 : at0 l (i + l.length - 1) = if i = 0 then y else (l[i - 1]?).getD y := by
        by_cases c : i = 0
        · subst c
          rw [if_pos rfl, Nat.zero_add]
          refine at0_of ?_
          rw [e]
          simp
        · rw [if_neg c, at0_eq (show (i + l.length - 1) % l.length = (i - 1) % l.length by rw [show i + l.length - 1 = (i - 1) + l.length by omega, Nat.add_mod_right])]
          have : l[i - 1]? = some l[i - 1] := List.getElem?_eq_getElem (by omega)
          rw [this]
          exact at0_of this
      rw [e1, e2]
    · rw [List.getElem?_eq_none (by rw [pws_len]; omega), List.getElem?_eq_none (by simp; omega)]
  rw [this, List.filterMap_map]
  rfl
theorem dd_uqk : ∀ (r : List P) (a : P), dd (a :: r) = a :: uqk a r
  | [], a => rfl
  | b :: r, a => by
    show (if a = b then dd (b :: r) else a :: dd (b :: r)) = a :: (if b = a then uqk b r else b :: uqk b r)
    rw [dd_uqk r b]
    by_cases c : a = b
    · subst c; rw [if_pos rfl, if_pos rfl]
    · rw [if_neg c, if_neg fun e => c e.symm]
theorem dd_ulk (x : P) : ∀ (r : List P) (a : P), (ulk x (a :: r) = dd (a :: r) ∧ ∃ p z, dd (a :: r) = p ++ [z] ∧ z ≠ x) ∨ dd (a :: r) = ulk x (a :: r) ++ [x]
  | [], a => by
    show ((if a = x then [] else [a]) = [a] ∧ ∃ p z, [a] = p ++ [z] ∧ z ≠ x) ∨ [a] = (if a = x then [] else [a]) ++ [x]
    by_cases c : a = x
    · subst c; right; rw [if_pos rfl]; rfl
    · left; rw [if_neg c]; exact ⟨rfl, [], a, rfl, c⟩
  | b :: r, a => by
    show ((if a = b then ulk x (b :: r) else a :: ulk x (b :: r)) = (if a = b then dd (b :: r) else a :: dd (b :: r)) ∧ ∃ p z, (if a = b then dd (b :: r) else a :: dd (b :: r)) = p ++ [z] ∧ z ≠ x) ∨ (if a = b then dd (b :: r) else a :: dd (b :: r)) = (if a = b then ulk x (b :: r) else a :: ulk x (b :: r)) ++ [x]
    by_cases c : a = b
    · rw [if_pos c, if_pos c]; exact dd_ulk x r b
    · rw [if_neg c, if_neg c]
      rcases dd_ulk x r b with ⟨h, p, z, e, n⟩ | h
      · left; exact ⟨by rw [h], a :: p, z, by rw [e]; rfl, n⟩
      · right; rw [h]; rfl
theorem dd_last : ∀ (l p : List P) (y : P), l = p ++ [y] → ∃ p', dd l = p' ++ [y]
  | [], p, y, e => by simp at e
  | [a], p, y, e => ⟨p, e⟩
  | a :: b :: r, p, y, e => by
    match p, e with
    | [], e => simp at e
    | c :: p, e =>
      injection e with e1 e2
      obtain ⟨p', h⟩ := dd_last (b :: r) p y e2
      show ∃ p', (if a = b then dd (b :: r) else a :: dd (b :: r)) = p' ++ [y]
      by_cases c : a = b
      · rw [if_pos c]; exact ⟨p', h⟩
      · rw [if_neg c, h]; exact ⟨a :: p', rfl⟩
def Rot (A B : List P) : Prop := A = B ∨ ∃ h m, A = h :: m ∧ B = m ++ [h]
theorem uq_rot (l : List P) : Rot (unlike l) (uq l) := by
  match l with
  | [] => exact .inl rfl
  | x :: r =>
    obtain ⟨p, y, e⟩ := snoc_of x r
    rw [unlike_ulk, uq_uqk e]
    have hD := dd_uqk r x
    have hU : uqk y (x :: r) = if x = y then uqk x r else x :: uqk x r := rfl
    obtain ⟨p', hL⟩ := dd_last _ p y e
    rcases dd_ulk x r x with ⟨h, p2, z, e2, n⟩ | h
    · left
      have : z = y := by
        rw [hL] at e2
        exact (List.append_inj' e2 rfl).2 |> fun q => by injection q with q _; exact q.symm
      rw [h, hU, if_neg (fun k => n (this.trans k.symm)), hD]
    · have : y = x := by
        rw [hL] at h
        exact (List.append_inj' h rfl).2 |> fun q => by injection q
      rw [hU, if_pos this.symm]
      rw [hD] at h
      generalize ulk x (x :: r) = U at h ⊢
      match U, h with
      | [], h => injection h with _ h; rw [h]; exact .inl rfl
      | u :: m, h =>
        injection h with h1 h2
        exact .inr ⟨u, m, rfl, by rw [h2, h1]; rfl⟩
/-! ### begun with another corner -/
def gS (l : List P) (i : Nat) : Option P := if Kzq1.isZero (turn (at0 l (i + l.length - 1)) (at0 l i) (at0 l (i + 1))) then none else some (at0 l i)
theorem straight_gS (l : List P) : straightened l = (List.range l.length).filterMap (gS l) := rfl
theorem at0_rot (h : P) (m : List P) (i : Nat) : at0 (m ++ [h]) i = at0 (h :: m) (i + 1) := by
  have hl : (m ++ [h]).length = (h :: m).length := by simp
  have hn : 0 < (h :: m).length := by simp
  rw [← at0_mod (m ++ [h]) i, ← at0_mod (h :: m) (i + 1), hl]
  have hi := Nat.mod_lt i hn
  have e : (i + 1) % (h :: m).length = (i % (h :: m).length + 1) % (h :: m).length := by rw [Nat.mod_add_mod]
  rw [e]
  generalize i % (h :: m).length = k at hi
  by_cases c : k < m.length
  · rw [Nat.mod_eq_of_lt (by simp; omega)]
    have q : m[k]? = some m[k] := List.getElem?_eq_getElem c
    rw [at0_of (l := m ++ [h]) (z := m[k]) (by rw [List.getElem?_append_left c]; exact q), at0_of (l := h :: m) (z := m[k]) (by exact q)]
  · have : k = m.length := by simp at hi; omega
    subst this
    rw [at0_of (l := m ++ [h]) (z := h) (by simp), show m.length + 1 = (h :: m).length by simp, Nat.mod_self]
    exact (at0_of (l := h :: m) (z := h) rfl).symm
theorem gS_rot (h : P) (m : List P) (i : Nat) : gS (m ++ [h]) i = gS (h :: m) (i + 1) := by
  unfold gS
  have hl : (m ++ [h]).length = (h :: m).length := by simp
  rw [hl, at0_rot, at0_rot, at0_rot]
  rw [show i + (h :: m).length - 1 + 1 = i + 1 + (h :: m).length - 1 by simp; omega]
theorem gS_mod (l : List P) (hl : 0 < l.length) : gS l l.length = gS l 0 := by
  unfold gS
  rw [at0_eq (show (l.length + l.length - 1) % l.length = (0 + l.length - 1) % l.length by rw [show l.length + l.length - 1 = (0 + l.length - 1) + l.length by omega, Nat.add_mod_right]),
    at0_eq (show l.length % l.length = 0 % l.length by simp), at0_eq (show (l.length + 1) % l.length = (0 + 1) % l.length by rw [Nat.add_mod_left, Nat.zero_add])]
theorem straight_rot {A B : List P} (h : Rot A B) : Rot (straightened A) (straightened B) := by
  rcases h with rfl | ⟨h, m, rfl, rfl⟩
  · exact .inl rfl
  · rw [straight_gS, straight_gS]
    have hl : (m ++ [h]).length = m.length + 1 := by simp
    have e1 : (List.range m.length).filterMap (gS (m ++ [h])) = ((List.range m.length).map Nat.succ).filterMap (gS (h :: m)) := by
      rw [List.filterMap_map]
      congr 1
      funext i
      exact gS_rot h m i
    have e2 : gS (m ++ [h]) m.length = gS (h :: m) 0 := by
      rw [gS_rot]
      exact gS_mod (h :: m) (by simp)
    have eA : (List.range (h :: m).length).filterMap (gS (h :: m)) = (0 :: (List.range m.length).map Nat.succ).filterMap (gS (h :: m)) := by
      rw [← List.range_succ_eq_map]; rfl
    have eB : (List.range (m ++ [h]).length).filterMap (gS (m ++ [h])) = (List.range m.length ++ [m.length]).filterMap (gS (m ++ [h])) := by
      rw [← List.range_succ, hl]
    rw [eA, eB, List.filterMap_cons, List.filterMap_append, ← e1]
    have e3 : [m.length].filterMap (gS (m ++ [h])) = (gS (h :: m) 0).toList := by
      rw [← e2, List.filterMap_cons, List.filterMap_nil]
      cases gS (m ++ [h]) m.length <;> rfl
    rw [e3]
    cases hg : gS (h :: m) 0 with
    | none => left; simp
    | some z => right; exact ⟨z, _, rfl, rfl⟩
theorem Rot.mem {A B : List P} (h : Rot A B) (z : P) : z ∈ A ↔ z ∈ B := by
  rcases h with rfl | ⟨h, m, rfl, rfl⟩
  · exact Iff.rfl
  · simp [or_comm]
theorem Rot.length {A B : List P} (h : Rot A B) : A.length = B.length := by
  rcases h with rfl | ⟨h, m, rfl, rfl⟩
  · rfl
  · simp
/-- farther to the left, or lower -/
def bfR (a b : P) : Prop := vx a < vx b ∨ (vx a = vx b ∧ vy a < vy b)
theorem before_is {a b : P} (ha : Cp a) (hb : Cp b) : Kzq1.before a b = true ↔ bfR a b := by
  unfold Kzq1.before bfR
  rw [Bool.or_eq_true, Bool.and_eq_true, vq_lt ha.1.1 hb.1.1, vq_lt ha.2.1 hb.2.1, beq_iff_eq]
  have : a.x = b.x ↔ vx a = vx b := ⟨fun e => by unfold vx; rw [e], fun e => can_eq ha.1 hb.1 e⟩
  rw [this]
  rfl
theorem bestI_least {l : List P} (hc : CL l) (h : 0 < l.length) : ∀ i, i ≤ l.length → ∀ j, j < i → ¬ bfR (at0 l j) (at0 l (bestI l i))
  | 0, _, j, hj => by omega
  | i + 1, hi, j, hj => by
    have ih := bestI_least hc h i (by omega)
    have m (k : Nat) : Cp (at0 l k) := hc _ (at0_mem h)
    rw [bestI_succ]
    by_cases c : Kzq1.before (at0 l i) (at0 l (bestI l i)) = true
    · rw [if_pos c]
      have c' := (before_is (m _) (m _)).mp c
      by_cases e : j = i
      · subst e; unfold bfR; grind
      · have := ih j (by omega)
        unfold bfR at *
        grind
    · rw [if_neg c]
      by_cases e : j = i
      · subst e; exact fun q => c ((before_is (m _) (m _)).mpr q)
      · exact ih j (by omega)
theorem begun_at {l : List P} (hc : CL l) (hn : l.Nodup) {k : Nat} (hk : k < l.length) (hm : ∀ j, j < l.length → ¬ bfR (at0 l j) (at0 l k)) : begunWith l = l.drop k ++ l.take k := by
  have h0 : 0 < l.length := by omega
  have h1 := bestI_lt l h0 l.length (Nat.le_refl _)
  have h2 := bestI_least hc h0 l.length (Nat.le_refl _) k hk
  have h3 := hm _ h1
  have m (k : Nat) : Cp (at0 l k) := hc _ (at0_mem h0)
  have e : at0 l (bestI l l.length) = at0 l k := by
    unfold bfR at h2 h3
    have hx : vx (at0 l k) = vx (at0 l (bestI l l.length)) := by grind
    exact ((m k).ext (m _) hx (by grind)).symm
  have e2 : bestI l l.length = k := by
    have q1 := at0_get (i := bestI l l.length) h0
    have q2 := at0_get (i := k) h0
    rw [Nat.mod_eq_of_lt h1] at q1
    rw [Nat.mod_eq_of_lt hk] at q2
    rw [e, ← q2] at q1
    exact (List.getElem?_inj h1 hn).mp q1
  rw [begun_is, e2]
theorem begun_rot {A B : List P} (hc : CL A) (hn : A.Nodup) (h : Rot A B) : begunWith A = begunWith B := by
  rcases h with rfl | ⟨h, m, rfl, rfl⟩
  · rfl
  · have hl : (m ++ [h]).length = (h :: m).length := by simp
    have hcB : CL (m ++ [h]) := fun z hz => hc z (by simpa [or_comm] using hz)
    have hnB : (m ++ [h]).Nodup := by
      rw [List.nodup_append]
      rw [List.nodup_cons] at hn
      exact ⟨hn.2, by simp, fun a ha b hb => by rw [List.mem_singleton.mp hb]; rintro rfl; exact hn.1 ha⟩
    have h0 : 0 < (h :: m).length := by simp
    have h1 := bestI_lt (h :: m) h0 (h :: m).length (Nat.le_refl _)
    have h2 := bestI_least hc h0 (h :: m).length (Nat.le_refl _)
    rw [begun_at hc hn h1 h2]
    generalize bestI (h :: m) (h :: m).length = k at h1 h2
    cases k with
    | zero =>
      have hm : m.length < (m ++ [h]).length := by simp
      rw [begun_at hcB hnB hm (fun j hj => by
        rw [at0_rot, at0_rot, at0_eq (i := m.length + 1) (j := 0) (by show (m.length + 1) % (m.length + 1) = _; simp), ← at0_mod]
        exact h2 _ (Nat.mod_lt _ h0))]
      simp
    | succ k =>
      have hk : k < m.length := by simp at h1; exact h1
      rw [begun_at hcB hnB (k := k) (by simp; omega) (fun j hj => by
        rw [at0_rot, at0_rot, ← at0_mod _ (j + 1)]
        exact h2 _ (Nat.mod_lt _ h0))]
      rw [List.drop_append_of_le_length (by omega), List.take_append_of_le_length (by omega)]
      simp
end Rc
namespace Rc
open Kzq1 (Q P turn at0 sides cross clip onLine unlike straightened formed begunWith meet)
/-! ### chains, open and closed -/
def ch (R : P → P → Prop) : List P → Prop
  | a :: b :: r => R a b ∧ ch R (b :: r)
  | _ => True
def cy (R : P → P → Prop) : List P → Prop
  | [] => True
  | x :: r => ch R (x :: r ++ [x])
theorem ch_get {R : P → P → Prop} : ∀ {l : List P} {i : Nat} {a b : P}, ch R l → l[i]? = some a → l[i + 1]? = some b → R a b
  | x :: y :: r, 0, a, b, h, e1, e2 => by injection e1 with e1; injection e2 with e2; subst e1; subst e2; exact h.1
  | x :: y :: r, i + 1, a, b, h, e1, e2 => ch_get (l := y :: r) (i := i) h.2 e1 e2
  | [x], i, a, b, h, e1, e2 => by simp at e2
  | [], i, a, b, h, e1, e2 => by simp at e1
theorem ch_snoc {R : P → P → Prop} {z x : P} : ∀ {l p : List P}, ch R l → l = p ++ [z] → R z x → ch R (l ++ [x])
  | [], p, h, e, k => by simp at e
  | [a], p, h, e, k => by
    have : a = z := by
      match p, e with
      | [], e => injection e
      | [_], e => simp at e
      | _ :: _ :: _, e => simp at e
    subst this
    exact ⟨k, trivial⟩
  | a :: b :: r, p, h, e, k => by
    match p, e with
    | [], e => simp at e
    | c :: p, e =>
      injection e with e1 e2
      exact ⟨h.1, ch_snoc (l := b :: r) h.2 e2 k⟩
theorem dd_ch : ∀ (r : List P) (a : P), ch (· ≠ ·) (dd (a :: r))
  | [], a => trivial
  | b :: r, a => by
    show ch (· ≠ ·) (if a = b then dd (b :: r) else a :: dd (b :: r))
    by_cases c : a = b
    · rw [if_pos c]; exact dd_ch r b
    · rw [if_neg c]
      have h := dd_ch r b
      rw [dd_uqk] at h ⊢
      exact ⟨c, h⟩
theorem unlike_cy (l : List P) : cy (· ≠ ·) (unlike l) := by
  match l with
  | [] => exact trivial
  | x :: r =>
    rw [unlike_ulk]
    have hD := dd_uqk r x
    have hc := dd_ch r x
    rcases dd_ulk x r x with ⟨h, p, z, e, n⟩ | h
    · rw [h, hD]
      show ch _ (x :: uqk x r ++ [x])
      rw [← hD]
      exact ch_snoc hc e n
    · rw [h] at hc hD
      generalize ulk x (x :: r) = U at h hc hD ⊢
      match U, h, hc, hD with
      | [], _, _, _ => exact trivial
      | u :: m, h, hc, hD =>
        injection hD with h1 _
        show ch _ (u :: m ++ [u])
        rw [h1] at hc ⊢
        exact hc
theorem fm_sub {α β : Type} {f : α → Option β} {g : α → β} (h : ∀ i, f i = none ∨ f i = some (g i)) : ∀ l : List α, List.Sublist (l.filterMap f) (l.map g)
  | [] => List.Sublist.slnil
  | a :: l => by
    rw [List.filterMap_cons, List.map_cons]
    rcases h a with e | e
    · rw [e]; exact (fm_sub h l).cons _
    · rw [e]; exact List.Sublist.cons_cons _ (fm_sub h l)
theorem unlike_sub (l : List P) : List.Sublist (unlike l) l := by
  have := fm_sub (f := fun i => if at0 l i = at0 l (i + 1) then none else some (at0 l i)) (g := at0 l) (fun i => by
    by_cases c : at0 l i = at0 l (i + 1)
    · left; exact if_pos c
    · right; exact if_neg c) (List.range l.length)
  rw [at0_list] at this
  exact this
theorem straight_sub (l : List P) : List.Sublist (straightened l) l := by
  have := fm_sub (f := gS l) (g := at0 l) (fun i => by
    unfold gS
    split
    · left; rfl
    · right; rfl) (List.range l.length)
  rw [at0_list] at this
  exact this
/-! ### no point twice -/
theorem na_tr {U : List P} (h : NA U) {m a b : P} (w : List.Sublist [m, a, m, b] U ∨ List.Sublist [b, m, a, m] U) : tr m a b = 0 := by
  by_cases c : tr m a b = 0
  · exact c
  · exfalso
    let f : Af := ⟨(lineA m a).a - (lineA m b).a, (lineA m a).b - (lineA m b).b, (lineA m a).c - (lineA m b).c - tr m a b / 2⟩
    have e (z : P) : f.at z = tr m a z - tr m b z - tr m a b / 2 := by
      rw [← lineA_at, ← lineA_at m b z]
      show (_ - _) * _ + (_ - _) * _ + (_ - _ - _) = (_ * _ + _ * _ + _) - (_ * _ + _ * _ + _) - _
      grind
    have em : f.at m = - (tr m a b / 2) := by rw [e]; unfold tr; grind
    have ea : f.at a = tr m a b / 2 := by rw [e]; unfold tr; grind
    have eb : f.at b = tr m a b / 2 := by rw [e]; unfold tr; grind
    have o1 : opp (f.at m) (f.at a) := by rw [em, ea]; unfold opp; grind
    have o2 : opp (f.at m) (f.at b) := by rw [em, eb]; unfold opp; grind
    rcases w with w | w
    · exact h f _ w ⟨o1, opp_symm o1, o2⟩
    · exact h f _ w ⟨opp_symm o2, o1, opp_symm o1⟩
theorem tr_swap (a b c : P) : tr a b c = - tr a c b := by unfold tr; grind
theorem na_nodup {U : List P} (hc : CL U) (h : NA U) (hy : cy (· ≠ ·) U) : U.Nodup ∨ OnL U := by
  by_cases hn : U.Nodup
  · exact .inl hn
  · right
    rw [List.Nodup, List.pairwise_iff_getElem] at hn
    have : ∃ i j, ∃ (hi : i < U.length) (hj : j < U.length), i < j ∧ U[i] = U[j] := by
      apply Classical.byContradiction
      intro q
      exact hn fun i j hi hj hij e => q ⟨i, j, hi, hj, hij, e⟩
    obtain ⟨i, j, hi, hj, hij, e⟩ := this
    have hx : ∃ x r, U = x :: r := by
      match U, hi with
      | x :: r, _ => exact ⟨x, r, rfl⟩
    obtain ⟨x, r, eU⟩ := hx
    have hch : ch (· ≠ ·) (U ++ [x]) := by rw [eU] at hy ⊢; exact hy
    have adj (k : Nat) (hk : k + 1 < U.length) : U[k] ≠ U[k + 1] := ch_get (i := k) hch (by rw [List.getElem?_append_left (by omega)]; exact List.getElem?_eq_getElem (by omega)) (by rw [List.getElem?_append_left hk]; exact List.getElem?_eq_getElem hk)
    have adjL (k : Nat) (hk : k + 1 = U.length) : U[k] ≠ x := ch_get (i := k) hch (by rw [List.getElem?_append_left (by omega)]; exact List.getElem?_eq_getElem (by omega)) (by rw [hk, List.getElem?_append_right (Nat.le_refl _)]; simp)
    have hx0 : U[0]? = some x := by rw [eU]; rfl
    have gi : U[i]? = some U[i] := List.getElem?_eq_getElem hi
    have gj : U[j]? = some U[i] := by rw [e]; exact List.getElem?_eq_getElem hj
    generalize hm : U[i] = m at gi gj e
    have i1 : i + 1 < U.length := by omega
    have a0n : U[i + 1] ≠ m := by rw [← hm]; exact fun q => adj i i1 q.symm
    have ij1 : i + 1 < j := by
      rcases Nat.lt_or_ge (i + 1) j with q | q
      · exact q
      · exfalso
        have : j = i + 1 := by omega
        subst this
        exact a0n e.symm
    have inn {k q : Nat} {a b : P} (ha : U[k]? = some a) (hb : U[q]? = some b) (hk : i < k) (hk2 : k < j) (hq : q < i ∨ j < q) : tr m a b = 0 := by
      refine na_tr h ?_
      rcases hq with hq | hq
      · right; exact idx4 hb gi ha gj hq hk hk2
      · left; exact idx4 gi ha gj hb hk hk2 hq
    have ga : U[i + 1]? = some U[i + 1] := List.getElem?_eq_getElem i1
    have hb0 : ∃ q b, U[q]? = some b ∧ b ≠ m ∧ (q < i ∨ j < q) := by
      by_cases c : j + 1 < U.length
      · exact ⟨j + 1, U[j + 1], List.getElem?_eq_getElem c, fun q => adj j c (by rw [q, e]), .inr (by omega)⟩
      · refine ⟨0, x, hx0, fun q => adjL j (by omega) (by rw [q, e]), .inl ?_⟩
        rcases Nat.eq_zero_or_pos i with z | z
        · exfalso
          subst z
          rw [gi] at hx0
          injection hx0 with hx0
          exact adjL j (by omega) (by rw [← hx0, e])
        · exact z
    obtain ⟨q0, b0, gb, b0n, hq0⟩ := hb0
    have mc : Cp m := hc m (List.mem_of_getElem? gi)
    have h0 := inn ga gb (by omega) ij1 hq0
    refine ⟨lineA m U[i + 1], lineA_nz mc (hc _ (List.mem_of_getElem? ga)) (fun q => a0n q.symm), fun z hz => ?_⟩
    rw [lineA_at]
    obtain ⟨k, gk⟩ := List.mem_iff_getElem?.mp hz
    by_cases c1 : k = i
    · subst c1; rw [gi] at gk; injection gk with gk; rw [← gk]; unfold tr; grind
    by_cases c2 : k = j
    · subst c2; rw [gj] at gk; injection gk with gk; rw [← gk]; unfold tr; grind
    by_cases c3 : k < i ∨ j < k
    · exact inn ga gk (by omega) ij1 c3
    · have h1 := inn gk gb (by omega) (by omega) hq0
      have : OnL [m, U[i + 1], z] := ⟨lineA m b0, lineA_nz mc (hc _ (List.mem_of_getElem? gb)) (fun q => b0n q.symm), fun y hy => by
        rw [lineA_at]
        rcases List.mem_cons.mp hy with e1 | hy
        · rw [e1]; unfold tr; grind
        · rcases List.mem_cons.mp hy with e1 | hy
          · rw [e1, tr_swap, h0]; grind
          · rw [List.mem_singleton.mp hy, tr_swap, h1]; grind⟩
      exact this.tr (by simp) (by simp) (by simp)
/-- what the program makes of what lies in both -/
def pcF2 (l : List P) : Option (List P) := if (straightened (uq l)).length < 3 then none else some (begunWith (straightened (uq l)))
theorem formed_is {l : List P} (hc : CL l) (h : NA l) : formed l = (pcF2 l).getD [] := by
  have r1 := straight_rot (uq_rot l)
  have hU : CL (unlike l) := fun z hz => hc z (unlike_mem hz)
  have nU : NA (unlike l) := h.sub (unlike_sub l)
  show (if (straightened (unlike l)).length < 3 then [] else begunWith (straightened (unlike l))) = _
  unfold pcF2
  rw [← r1.length]
  by_cases c : (straightened (unlike l)).length < 3
  · rw [if_pos c, if_pos c]; rfl
  · rw [if_neg c, if_neg c]
    rcases na_nodup hU nU (unlike_cy l) with k | k
    · refine begun_rot (fun z hz => hU z ((straight_sub _).subset hz)) ?_ r1
      exact List.Sublist.nodup (straight_sub _) k
    · exfalso
      rw [OnL.straight hU k] at c
      exact c (by decide)
end Rc
namespace Rc
open Kzq1 (Q P turn at0 sides cross clip onLine unlike straightened formed begunWith meet)
/-! ### least and greatest -/
theorem fold_least : ∀ (l : List Q) (m : Q), Can m → (∀ x ∈ l, Can x) → (∀ x ∈ l, vq (l.foldl (fun m x => if Kzq1.lt x m = true then x else m) m) ≤ vq x) ∧ vq (l.foldl (fun m x => if Kzq1.lt x m = true then x else m) m) ≤ vq m ∧ Can (l.foldl (fun m x => if Kzq1.lt x m = true then x else m) m)
  | [], m, hm, _ => ⟨fun x hx => by (cases hx), Rat.le_refl, hm⟩
  | y :: l, m, hm, hl => by
    have hy := hl y (by simp)
    rw [List.foldl_cons]
    by_cases c : Kzq1.lt y m = true
    · rw [if_pos c]
      have k := (vq_lt hy.1 hm.1).mp c
      obtain ⟨h1, h2, h3⟩ := fold_least l y hy (fun x hx => hl x (List.mem_cons_of_mem _ hx))
      refine ⟨fun x hx => ?_, by grind, h3⟩
      rcases List.mem_cons.mp hx with e | e
      · rw [e]; exact h2
      · exact h1 x e
    · rw [if_neg c]
      have k : ¬ vq y < vq m := fun q => c ((vq_lt hy.1 hm.1).mpr q)
      obtain ⟨h1, h2, h3⟩ := fold_least l m hm (fun x hx => hl x (List.mem_cons_of_mem _ hx))
      refine ⟨fun x hx => ?_, h2, h3⟩
      rcases List.mem_cons.mp hx with e | e
      · rw [e]; grind
      · exact h1 x e
theorem fold_great : ∀ (l : List Q) (m : Q), Can m → (∀ x ∈ l, Can x) → (∀ x ∈ l, vq x ≤ vq (l.foldl (fun m x => if Kzq1.lt m x = true then x else m) m)) ∧ vq m ≤ vq (l.foldl (fun m x => if Kzq1.lt m x = true then x else m) m) ∧ Can (l.foldl (fun m x => if Kzq1.lt m x = true then x else m) m)
  | [], m, hm, _ => ⟨fun x hx => by (cases hx), Rat.le_refl, hm⟩
  | y :: l, m, hm, hl => by
    have hy := hl y (by simp)
    rw [List.foldl_cons]
    by_cases c : Kzq1.lt m y = true
    · rw [if_pos c]
      have k := (vq_lt hm.1 hy.1).mp c
      obtain ⟨h1, h2, h3⟩ := fold_great l y hy (fun x hx => hl x (List.mem_cons_of_mem _ hx))
      refine ⟨fun x hx => ?_, by grind, h3⟩
      rcases List.mem_cons.mp hx with e | e
      · rw [e]; exact h2
      · exact h1 x e
    · rw [if_neg c]
      have k : ¬ vq m < vq y := fun q => c ((vq_lt hm.1 hy.1).mpr q)
      obtain ⟨h1, h2, h3⟩ := fold_great l m hm (fun x hx => hl x (List.mem_cons_of_mem _ hx))
      refine ⟨fun x hx => ?_, h2, h3⟩
      rcases List.mem_cons.mp hx with e | e
      · rw [e]; grind
      · exact h1 x e
theorem least_is {l : List Q} (h : ∀ x ∈ l, Can x) (n : l ≠ []) : (∀ x ∈ l, vq (leastQ l) ≤ vq x) ∧ Can (leastQ l) := by
  match l, n with
  | y :: l, _ =>
    obtain ⟨h1, h2, h3⟩ := fold_least l y (h y (by simp)) (fun x hx => h x (List.mem_cons_of_mem _ hx))
    refine ⟨fun x hx => ?_, h3⟩
    rcases List.mem_cons.mp hx with e | e
    · rw [e]; exact h2
    · exact h1 x e
theorem great_is {l : List Q} (h : ∀ x ∈ l, Can x) (n : l ≠ []) : (∀ x ∈ l, vq x ≤ vq (greatQ l)) ∧ Can (greatQ l) := by
  match l, n with
  | y :: l, _ =>
    obtain ⟨h1, h2, h3⟩ := fold_great l y (h y (by simp)) (fun x hx => h x (List.mem_cons_of_mem _ hx))
    refine ⟨fun x hx => ?_, h3⟩
    rcases List.mem_cons.mp hx with e | e
    · rw [e]; exact h2
    · exact h1 x e
/-! ### apart -/
def apart (p q : List P) : Bool :=
  (!Kzq1.lt (leastQ (p.map (·.x))) (greatQ (q.map (·.x))) || !Kzq1.lt (leastQ (q.map (·.x))) (greatQ (p.map (·.x)))) ||
  (!Kzq1.lt (leastQ (p.map (·.y))) (greatQ (q.map (·.y))) || !Kzq1.lt (leastQ (q.map (·.y))) (greatQ (p.map (·.y))))
theorem sides_cs {q : List P} (hc : CL q) {s : P × P} (h : s ∈ sides q) : Cs s := by
  unfold Kzq1.sides at h
  obtain ⟨i, hi, e⟩ := List.mem_map.mp h
  have : 0 < q.length := by rw [List.mem_range] at hi; omega
  rw [← e]
  exact ⟨hc _ (at0_mem this), hc _ (at0_mem this)⟩
theorem fold_cl : ∀ (ss : List (P × P)) (l : List P), (∀ s ∈ ss, Cs s) → CL l → CL (ss.foldl (fun l s => clip s l) l)
  | [], l, _, h => h
  | s :: ss, l, hs, h => fold_cl ss _ (fun t ht => hs t (List.mem_cons_of_mem _ ht)) (clip_cl (hs s (by simp)) h)
theorem fold_na : ∀ (ss : List (P × P)) (l : List P), (∀ s ∈ ss, Cs s) → CL l → NA l → NA (ss.foldl (fun l s => clip s l) l)
  | [], l, _, _, h => h
  | s :: ss, l, hs, hc, h => fold_na ss _ (fun t ht => hs t (List.mem_cons_of_mem _ ht)) (clip_cl (hs s (by simp)) hc) (clip_na (hs s (by simp)) hc h)
theorem fold_nn : ∀ (ss : List (P × P)) (l : List P), (∀ s ∈ ss, Cs s) → CL l → ∀ {f : Af}, (∀ z ∈ l, 0 ≤ f.at z) → ∀ z ∈ ss.foldl (fun l s => clip s l) l, 0 ≤ f.at z
  | [], l, _, _, f, h => h
  | s :: ss, l, hs, hc, f, h => fold_nn ss _ (fun t ht => hs t (List.mem_cons_of_mem _ ht)) (clip_cl (hs s (by simp)) hc) (clip_nn (hs s (by simp)) hc h)
theorem fold_onl : ∀ (ss : List (P × P)) (l : List P), (∀ s ∈ ss, Cs s) → CL l → OnL l → OnL (ss.foldl (fun l s => clip s l) l)
  | [], l, _, _, h => h
  | s :: ss, l, hs, hc, h => fold_onl ss _ (fun t ht => hs t (List.mem_cons_of_mem _ ht)) (clip_cl (hs s (by simp)) hc) (h.clip (hs s (by simp)) hc)
theorem fold_us : ∀ (ss : List (P × P)) (l : List P), (∀ s ∈ ss, Cs s) → CL l → ∀ s ∈ ss, ∀ z ∈ ss.foldl (fun l s => clip s l) l, 0 ≤ us s z
  | s :: ss, l, hs, hc, t, ht, z, hz => by
    have h1 := hs s (by simp)
    have h2 := clip_cl h1 hc
    rcases List.mem_cons.mp ht with e | e
    · subst e
      have := fold_nn ss _ (fun t ht => hs t (List.mem_cons_of_mem _ ht)) h2 (f := usA t) (fun y hy => by
        rw [← us_is]; exact (clip_mem h1 hc hy).2.2) z hz
      rw [us_is]
      exact this
    · exact fold_us ss _ (fun t ht => hs t (List.mem_cons_of_mem _ ht)) h2 t e z hz
theorem ex_max (f : Af) : ∀ (l : List P), l ≠ [] → ∃ c ∈ l, ∀ z ∈ l, f.at z ≤ f.at c
  | [a], _ => ⟨a, by simp, fun z hz => by rw [List.mem_singleton.mp hz]; exact Rat.le_refl⟩
  | a :: b :: r, _ => by
    obtain ⟨c, h1, h2⟩ := ex_max f (b :: r) (by simp)
    by_cases k : f.at c ≤ f.at a
    · exact ⟨a, by simp, fun z hz => by
        rcases List.mem_cons.mp hz with e | e
        · rw [e]; exact Rat.le_refl
        · exact Rat.le_trans (h2 z e) k⟩
    · exact ⟨c, List.mem_cons_of_mem _ h1, fun z hz => by
        rcases List.mem_cons.mp hz with e | e
        · rw [e]; grind
        · exact h2 z e⟩
theorem tr_ext (f : Af) (a c b z : P) : tr a c b * (f.at z - f.at c) = tr c b z * (f.at a - f.at c) + tr a c z * (f.at b - f.at c) := by unfold tr Af.at; grind
theorem at0_sides {q : List P} (h : 0 < q.length) (i : Nat) : (at0 q i, at0 q (i + 1)) ∈ sides q := by
  unfold Kzq1.sides
  refine List.mem_map.mpr ⟨i % q.length, List.mem_range.mpr (Nat.mod_lt _ h), ?_⟩
  rw [at0_mod, at0_eq (show (i % q.length + 1) % q.length = (i + 1) % q.length by rw [Nat.mod_add_mod])]
theorem cv_max {q : List P} (hq : Cv q) {f : Af} {c z : P} (hc : c ∈ q) (hm : ∀ y ∈ q, f.at y ≤ f.at c) (hz : ∀ s ∈ sides q, 0 ≤ us s z) : f.at z ≤ f.at c := by
  have h0 : 0 < q.length := by have := conv_len hq.v; omega
  have hl := conv_len hq.v
  obtain ⟨i, hi⟩ := List.mem_iff_getElem?.mp hc
  have ec := at0_of hi
  have h1 := hz _ (at0_sides h0 i)
  have h2 := hz _ (at0_sides h0 (i + q.length - 1))
  rw [at0_eq (show (i + q.length - 1 + 1) % q.length = i % q.length by rw [show i + q.length - 1 + 1 = i + q.length by omega, Nat.add_mod_right])] at h2
  have h3 := hq.tr (i := i + q.length - 1) (r := 2) (by omega) (by omega)
  rw [at0_eq (show (i + q.length - 1 + 1) % q.length = i % q.length by rw [show i + q.length - 1 + 1 = i + q.length by omega, Nat.add_mod_right]),
    at0_eq (show (i + q.length - 1 + 2) % q.length = (i + 1) % q.length by rw [show i + q.length - 1 + 2 = i + 1 + q.length by omega, Nat.add_mod_right])] at h3
  rw [ec] at h1 h2 h3
  have ma := hm _ (at0_mem (i := i + q.length - 1) h0)
  have mb := hm _ (at0_mem (i := i + 1) h0)
  generalize at0 q (i + q.length - 1) = a at *
  generalize at0 q (i + 1) = b at *
  have e := tr_ext f a c b z
  have e1 : 0 ≤ tr c b z * (f.at c - f.at a) := Rat.mul_nonneg h1 (by grind)
  have e2 : 0 ≤ tr a c z * (f.at c - f.at b) := Rat.mul_nonneg h2 (by grind)
  by_cases k : f.at z ≤ f.at c
  · exact k
  · have := Rat.mul_pos h3 (show 0 < f.at z - f.at c by grind)
    grind
theorem sep {p q : List P} (hp : Cv p) (hq : Cv q) {f : Af} (hf : f.a ≠ 0 ∨ f.b ≠ 0) (h : ∀ a ∈ p, ∀ b ∈ q, f.at b ≤ f.at a) : OnL ((sides q).foldl (fun l s => clip s l) p) := by
  have hl := conv_len hq.v
  obtain ⟨c, hc, hm⟩ := ex_max f q (by rintro rfl; simp at hl)
  have hs : ∀ s ∈ sides q, Cs s := fun s h => sides_cs hq.c h
  refine ⟨⟨f.a, f.b, f.c - f.at c⟩, hf, fun z hz => ?_⟩
  have e (y : P) : (Af.mk f.a f.b (f.c - f.at c)).at y = f.at y - f.at c := by
    show f.a * vx y + f.b * vy y + (f.c - f.at c) = (f.a * vx y + f.b * vy y + f.c) - f.at c
    grind
  have h1 := fold_nn (sides q) p hs hp.c (f := ⟨f.a, f.b, f.c - f.at c⟩) (fun a ha => by
    rw [e]
    have := h a ha c hc
    grind) z hz
  have h2 := cv_max hq hc hm (fun s h => fold_us (sides q) p hs hp.c s h z hz)
  rw [e] at h1 ⊢
  grind
theorem can_map_x {l : List P} (h : CL l) : ∀ x ∈ l.map (·.x), Can x := fun x hx => by
  obtain ⟨z, hz, rfl⟩ := List.mem_map.mp hx
  exact (h z hz).1
theorem can_map_y {l : List P} (h : CL l) : ∀ x ∈ l.map (·.y), Can x := fun x hx => by
  obtain ⟨z, hz, rfl⟩ := List.mem_map.mp hx
  exact (h z hz).2
theorem apart_sep {p q : List P} (hp : Cv p) (hq : Cv q) (h : apart p q = true) : OnL ((sides q).foldl (fun l s => clip s l) p) := by
  have lp := conv_len hp.v
  have lq := conv_len hq.v
  have np : p ≠ [] := by rintro rfl; simp at lp
  have nq : q ≠ [] := by rintro rfl; simp at lq
  have npx : p.map (·.x) ≠ [] := by simpa using np
  have nqx : q.map (·.x) ≠ [] := by simpa using nq
  have npy : p.map (·.y) ≠ [] := by simpa using np
  have nqy : q.map (·.y) ≠ [] := by simpa using nq
  have a1 := least_is (can_map_x hp.c) npx
  have a2 := great_is (can_map_x hp.c) npx
  have a3 := least_is (can_map_y hp.c) npy
  have a4 := great_is (can_map_y hp.c) npy
  have b1 := least_is (can_map_x hq.c) nqx
  have b2 := great_is (can_map_x hq.c) nqx
  have b3 := least_is (can_map_y hq.c) nqy
  have b4 := great_is (can_map_y hq.c) nqy
  have no {x y : Q} (hx : Can x) (hy : Can y) (h : (!Kzq1.lt x y) = true) : vq y ≤ vq x := by
    have : ¬ vq x < vq y := fun c => by rw [(vq_lt hx.1 hy.1).mpr c] at h; simp at h
    grind
  unfold apart at h
  rw [Bool.or_eq_true, Bool.or_eq_true, Bool.or_eq_true] at h
  have mx {l : List P} {z : P} (hz : z ∈ l) : z.x ∈ l.map (·.x) := List.mem_map.mpr ⟨z, hz, rfl⟩
  have my {l : List P} {z : P} (hz : z ∈ l) : z.y ∈ l.map (·.y) := List.mem_map.mpr ⟨z, hz, rfl⟩
  rcases h with (h | h) | (h | h)
  · have k := no a1.2 b2.2 h
    refine sep hp hq (f := ⟨1, 0, 0⟩) (.inl (by decide)) fun a ha b hb => ?_
    have q1 := a1.1 _ (mx ha)
    have q2 := b2.1 _ (mx hb)
    show 1 * vq b.x + 0 * _ + 0 ≤ 1 * vq a.x + 0 * _ + 0
    grind
  · have k := no b1.2 a2.2 h
    refine sep hp hq (f := ⟨-1, 0, 0⟩) (.inl (by decide)) fun a ha b hb => ?_
    have q1 := a2.1 _ (mx ha)
    have q2 := b1.1 _ (mx hb)
    show -1 * vq b.x + 0 * _ + 0 ≤ -1 * vq a.x + 0 * _ + 0
    grind
  · have k := no a3.2 b4.2 h
    refine sep hp hq (f := ⟨0, 1, 0⟩) (.inr (by decide)) fun a ha b hb => ?_
    have q1 := a3.1 _ (my ha)
    have q2 := b4.1 _ (my hb)
    show 0 * _ + 1 * vq b.y + 0 ≤ 0 * _ + 1 * vq a.y + 0
    grind
  · have k := no b3.2 a4.2 h
    refine sep hp hq (f := ⟨0, -1, 0⟩) (.inr (by decide)) fun a ha b hb => ?_
    have q1 := a4.1 _ (my ha)
    have q2 := b3.1 _ (my hb)
    show 0 * _ + -1 * vq b.y + 0 ≤ 0 * _ + -1 * vq a.y + 0
    grind
/-! ### both -/
def goOn : List (P × P) → List P → Option (List P)
  | [], l => some l
  | s :: ss, l => if (clip s l).length < 3 then none else goOn ss (clip s l)
def inB (p q : List P) : Option (List P) := if apart p q = true then none else (goOn (sides q) p).bind pcF2
theorem goOn_is : ∀ (ss : List (P × P)) (l : List P), (∀ s ∈ ss, Cs s) → CL l → goOn ss l = some (ss.foldl (fun l s => clip s l) l) ∨ (goOn ss l = none ∧ OnL (ss.foldl (fun l s => clip s l) l))
  | [], l, _, _ => .inl rfl
  | s :: ss, l, hs, hc => by
    have h1 := hs s (by simp)
    have h2 := clip_cl h1 hc
    have h3 : ∀ t ∈ ss, Cs t := fun t ht => hs t (List.mem_cons_of_mem _ ht)
    show (if (clip s l).length < 3 then none else goOn ss (clip s l)) = some (ss.foldl _ (clip s l)) ∨ _
    by_cases c : (clip s l).length < 3
    · right
      refine ⟨if_pos c, ?_⟩
      exact fold_onl ss _ h3 h2 (onL_few h2 c)
    · rw [if_neg c]
      rcases goOn_is ss (clip s l) h3 h2 with k | ⟨k1, k2⟩
      · exact .inl k
      · exact .inr ⟨(if_neg c).trans k1, k2⟩
theorem inB_meet {p q : List P} (hp : Cv p) (hq : Cv q) : meet p q = (inB p q).getD [] := by
  have hs : ∀ s ∈ sides q, Cs s := fun s h => sides_cs hq.c h
  have hC := fold_cl (sides q) p hs hp.c
  have hN := fold_na (sides q) p hs hp.c hp.na
  unfold inB Kzq1.meet
  by_cases c : apart p q = true
  · rw [if_pos c]
    exact (apart_sep hp hq c).formed hC
  · rw [if_neg c]
    rcases goOn_is (sides q) p hs hp.c with k | ⟨k1, k2⟩
    · rw [k]
      exact formed_is hC hN
    · rw [k1]
      exact k2.formed hC
theorem pcF2_ne {l r : List P} (h : pcF2 l = some r) : 3 ≤ r.length := by
  unfold pcF2 at h
  split at h
  · cases h
  · injection h with h
    rw [← h, begun_len]
    omega
theorem inB_ne {p q r : List P} (h : inB p q = some r) : 3 ≤ r.length := by
  unfold inB at h
  split at h
  · cases h
  · cases hg : goOn (sides q) p with
    | none => rw [hg] at h; cases h
    | some l => rw [hg] at h; exact pcF2_ne h
theorem inB_none {p q : List P} (hp : Cv p) (hq : Cv q) : inB p q = none ↔ meet p q = [] := by
  rw [inB_meet hp hq]
  cases h : inB p q with
  | none => simp
  | some r =>
    have := inB_ne h
    refine ⟨fun e => (by cases e), fun e => ?_⟩
    rw [show r = [] from e] at this
    simp at this
end Rc
namespace Rc
open Kzq1 (Q P turn at0 sides cross clip onLine unlike straightened formed begunWith meet)
/-! ### lines with small whole numbers -/
structure Ln (s : Nat) (a b : P) : Prop where
  e : ∃ α β γ : Int, (α ≠ 0 ∨ β ≠ 0) ∧ α.natAbs < 2 ^ (4 * s + 1) ∧ β.natAbs < 2 ^ (4 * s + 1) ∧ γ.natAbs < 2 ^ (4 * s + 1) ∧
    (α : Rat) * vx a + (β : Rat) * vy a + (γ : Rat) = 0 ∧ (α : Rat) * vx b + (β : Rat) * vy b + (γ : Rat) = 0
theorem sub_pow {s : Nat} {a b : Int} (ha : a.natAbs < 2 ^ s) (hb : b.natAbs < 2 ^ s) : (a - b).natAbs < 2 ^ (s + 1) := by
  rw [Nat.pow_succ]
  omega
theorem mul_pow4 {s t : Nat} {a b : Int} (ha : a.natAbs < 2 ^ s) (hb : b.natAbs < 2 ^ t) : (a * b).natAbs < 2 ^ (s + t) := by
  rw [Int.natAbs_mul]
  exact mul_lt_pow ha hb
theorem vq_d {q : Q} (h : 0 < q.d) : vq q * (q.d : Rat) = (q.n : Rat) := by
  have := castd0 h
  unfold vq
  grind
def hX (a : P) : Int := a.x.n * (a.y.d : Int)
def hY (a : P) : Int := a.y.n * (a.x.d : Int)
def hW (a : P) : Int := (a.x.d : Int) * (a.y.d : Int)
theorem hom {s : Nat} {a : P} (hf : Fp s a) : (hX a).natAbs < 2 ^ (2 * s) ∧ (hY a).natAbs < 2 ^ (2 * s) ∧ (hW a).natAbs < 2 ^ (2 * s) ∧ (hX a : Rat) = (hW a : Rat) * vx a ∧ (hY a : Rat) = (hW a : Rat) * vy a ∧ (0 : Rat) < (hW a : Rat) := by
  have e : 2 * s = s + s := by omega
  have d1 := castd hf.x.pos
  have d2 := castd hf.y.pos
  have v1 := vq_d hf.x.pos
  have v2 := vq_d hf.y.pos
  refine ⟨?_, ?_, ?_, ?_, ?_, ?_⟩
  · rw [e]; exact mul_pow4 hf.x.n (by rw [Int.natAbs_natCast]; exact hf.y.d)
  · rw [e]; exact mul_pow4 hf.y.n (by rw [Int.natAbs_natCast]; exact hf.x.d)
  · rw [e]; exact mul_pow4 (by rw [Int.natAbs_natCast]; exact hf.x.d) (by rw [Int.natAbs_natCast]; exact hf.y.d)
  · unfold hX hW vx
    rw [Rat.intCast_mul, Rat.intCast_mul, Rat.intCast_natCast, Rat.intCast_natCast]
    grind
  · unfold hY hW vy
    rw [Rat.intCast_mul, Rat.intCast_mul, Rat.intCast_natCast, Rat.intCast_natCast]
    grind
  · unfold hW
    rw [Rat.intCast_mul, Rat.intCast_natCast, Rat.intCast_natCast]
    exact Rat.mul_pos d1 d2
theorem sideLine {s : Nat} {a b : P} (ha : Fp s a) (hb : Fp s b) : ∃ (α β γ : Int) (W : Rat), α.natAbs < 2 ^ (4 * s + 1) ∧ β.natAbs < 2 ^ (4 * s + 1) ∧ γ.natAbs < 2 ^ (4 * s + 1) ∧ 0 < W ∧
    (∀ z, (α : Rat) * vx z + (β : Rat) * vy z + (γ : Rat) = W * tr a b z) ∧ (α : Rat) = W * (vy a - vy b) ∧ (β : Rat) = W * (vx b - vx a) := by
  obtain ⟨x1, y1, w1, ex1, ey1, p1⟩ := hom ha
  obtain ⟨x2, y2, w2, ex2, ey2, p2⟩ := hom hb
  have e : 4 * s + 1 = (2 * s + 2 * s) + 1 := by omega
  have c1 : ((hY a * hW b - hW a * hY b : Int) : Rat) = (hW a : Rat) * (hW b : Rat) * (vy a - vy b) := by
    rw [Rat.intCast_sub, Rat.intCast_mul, Rat.intCast_mul, ey1, ey2]; grind
  have c2 : ((hW a * hX b - hX a * hW b : Int) : Rat) = (hW a : Rat) * (hW b : Rat) * (vx b - vx a) := by
    rw [Rat.intCast_sub, Rat.intCast_mul, Rat.intCast_mul, ex1, ex2]; grind
  refine ⟨hY a * hW b - hW a * hY b, hW a * hX b - hX a * hW b, hX a * hY b - hY a * hX b, (hW a : Rat) * (hW b : Rat), ?_, ?_, ?_, Rat.mul_pos p1 p2, fun z => ?_, c1, c2⟩
  · rw [e]; exact sub_pow (mul_pow4 y1 w2) (mul_pow4 w1 y2)
  · rw [e]; exact sub_pow (mul_pow4 w1 x2) (mul_pow4 x1 w2)
  · rw [e]; exact sub_pow (mul_pow4 x1 y2) (mul_pow4 y1 x2)
  · rw [c1, c2, Rat.intCast_sub, Rat.intCast_mul, Rat.intCast_mul, ex1, ey1, ex2, ey2]
    unfold tr
    grind
theorem side_nz {a b : P} {W : Rat} {α β : Int} (ca : Cp a) (cb : Cp b) (h : a ≠ b) (hW : 0 < W) (h1 : (α : Rat) = W * (vy a - vy b)) (h2 : (β : Rat) = W * (vx b - vx a)) : α ≠ 0 ∨ β ≠ 0 := by
  by_cases e1 : α = 0
  · by_cases e2 : β = 0
    · exfalso
      subst e1; subst e2
      have q1 : W * (vy a - vy b) = 0 := h1.symm
      have q2 : W * (vx b - vx a) = 0 := h2.symm
      have nz : W ≠ 0 := by grind
      rcases Rat.mul_eq_zero.mp q1 with k | k
      · exact nz k
      · rcases Rat.mul_eq_zero.mp q2 with k2 | k2
        · exact nz k2
        · exact h (ca.ext cb (by grind) (by grind))
    · exact .inr e2
  · exact .inl e1
theorem ln_side {s : Nat} {a b : P} (fa : Fp s a) (fb : Fp s b) (ca : Cp a) (cb : Cp b) (h : a ≠ b) {x y : P} (hx : tr a b x = 0) (hy : tr a b y = 0) : Ln s x y := by
  obtain ⟨α, β, γ, W, b1, b2, b3, hW, hz, e1, e2⟩ := sideLine fa fb
  exact ⟨α, β, γ, side_nz ca cb h hW e1 e2, b1, b2, b3, by rw [hz, hx]; grind, by rw [hz, hy]; grind⟩
theorem ln_self {s : Nat} {a b : P} (fa : Fp s a) (fb : Fp s b) (ca : Cp a) (cb : Cp b) (h : a ≠ b) : Ln s a b := ln_side fa fb ca cb h (by unfold tr; grind) (by unfold tr; grind)
/-- the sides are bounded -/
structure Sd (s : Nat) (t : P × P) : Prop where
  f1 : Fp s t.1
  f2 : Fp s t.2
  c1 : Cp t.1
  c2 : Cp t.2
  ne : t.1 ≠ t.2
theorem Sd.cs {s : Nat} {t : P × P} (h : Sd s t) : Cs t := ⟨h.c1, h.c2⟩
theorem two_lines {α β γ α' β' γ' x y : Rat} (h1 : α * x + β * y + γ = 0) (h2 : α' * x + β' * y + γ' = 0) : x * (α * β' - α' * β) = β * γ' - β' * γ ∧ y * (α * β' - α' * β) = γ * α' - γ' * α := by
  constructor <;> grind
theorem cut_bits {s : Nat} {t : P × P} (ht : Sd s t) {a b z : P} (hl : Ln s a b) (k : Cut t a b z) : Fp (8 * s + 3) z ∧ Ln s a z ∧ Ln s z b := by
  obtain ⟨α, β, γ, nz, b1, b2, b3, ea, eb⟩ := hl.e
  obtain ⟨r, hr⟩ := k.b
  have ez : (α : Rat) * vx z + (β : Rat) * vy z + (γ : Rat) = 0 := by
    rw [hr.x, hr.y]
    have : r * ((α : Rat) * vx b + (β : Rat) * vy b + (γ : Rat)) = 0 := by rw [eb]; grind
    have : r * ((α : Rat) * vx a + (β : Rat) * vy a + (γ : Rat)) = 0 := by rw [ea]; grind
    grind
  refine ⟨?_, ⟨α, β, γ, nz, b1, b2, b3, ea, ez⟩, ⟨α, β, γ, nz, b1, b2, b3, ez, eb⟩⟩
  obtain ⟨α', β', γ', W, c1, c2, c3, hW, hz, _, _⟩ := sideLine ht.f1 ht.f2
  have e2 : (α' : Rat) * vx z + (β' : Rat) * vy z + (γ' : Rat) = 0 := by
    rw [hz]
    have : tr t.1 t.2 z = 0 := k.z
    rw [this]
    grind
  have hne : us t a ≠ us t b := by
    have := k.o
    grind
  have hD : α * β' - α' * β ≠ 0 := fun e => by
    have e' : (α : Rat) * (β' : Rat) = (α' : Rat) * (β : Rat) := by
      rw [← Rat.intCast_mul, ← Rat.intCast_mul, Rat.intCast_inj]
      omega
    have ha := hz a
    have hb := hz b
    have hd : W * (us t a - us t b) = 0 := by
      have d1 : (α : Rat) * (vx a - vx b) = - ((β : Rat) * (vy a - vy b)) := by grind
      have d2 : W * (us t a - us t b) = (α' : Rat) * (vx a - vx b) + (β' : Rat) * (vy a - vy b) := by
        unfold us
        grind
      rcases nz with nz | nz
      · have nz' : (α : Rat) ≠ 0 := fun q => nz (by rw [show (0 : Rat) = ((0 : Int) : Rat) from rfl, Rat.intCast_inj] at q; exact q)
        have : (α : Rat) * (W * (us t a - us t b)) = 0 := by
          rw [d2]
          grind
        rcases Rat.mul_eq_zero.mp this with q | q
        · exact absurd q nz'
        · exact q
      · have nz' : (β : Rat) ≠ 0 := fun q => nz (by rw [show (0 : Rat) = ((0 : Int) : Rat) from rfl, Rat.intCast_inj] at q; exact q)
        have : (β : Rat) * (W * (us t a - us t b)) = 0 := by
          rw [d2]
          grind
        rcases Rat.mul_eq_zero.mp this with q | q
        · exact absurd q nz'
        · exact q
    rcases Rat.mul_eq_zero.mp hd with q | q
    · grind
    · exact hne (by grind)
  obtain ⟨X, Y⟩ := two_lines ez e2
  have e8 : 8 * s + 3 = ((4 * s + 1) + (4 * s + 1)) + 1 := by omega
  have bD : (α * β' - α' * β).natAbs < 2 ^ (8 * s + 3) := by rw [e8]; exact sub_pow (mul_pow4 b1 c2) (mul_pow4 c1 b2)
  have bX : (β * γ' - β' * γ).natAbs < 2 ^ (8 * s + 3) := by rw [e8]; exact sub_pow (mul_pow4 b2 c3) (mul_pow4 c2 b3)
  have bY : (γ * α' - γ' * α).natAbs < 2 ^ (8 * s + 3) := by rw [e8]; exact sub_pow (mul_pow4 b3 c1) (mul_pow4 c3 b1)
  refine ⟨can_bound k.c.1 hD ?_ bX bD, can_bound k.c.2 hD ?_ bY bD⟩
  · rw [Rat.intCast_sub, Rat.intCast_sub, Rat.intCast_mul, Rat.intCast_mul, Rat.intCast_mul, Rat.intCast_mul]
    exact X
  · rw [Rat.intCast_sub, Rat.intCast_sub, Rat.intCast_mul, Rat.intCast_mul, Rat.intCast_mul, Rat.intCast_mul]
    exact Y
/-! ### neighbours lie on one line -/
section
variable {R R2 : P → P → Prop} {k : P → Bool} {T : P → Prop}
structure Fl4 (R R2 : P → P → Prop) (k : P → Bool) (T : P → Prop) : Prop where
  h1 : ∀ {a b}, R2 a b → k a = true → k b = true → R a b
  h2 : ∀ {a b}, R2 a b → k a = true → k b = false → T a
  h3 : ∀ {a b}, R2 a b → k a = false → k b = true → T b
  h4 : ∀ {a b}, T a → T b → R a b
theorem flA (F : Fl4 R R2 k T) {x0 e0 : P} (hx : k x0 = false) (h0 : T e0) : ∀ (m : List P) (e y : P), k e = true → (y = e ∨ (k y = false ∧ T e)) → ch R2 (y :: m ++ [x0]) → ch R (e :: m.filter k ++ [e0])
  | [], e, y, he, hs, hc => by
    refine ⟨F.h4 ?_ h0, trivial⟩
    rcases hs with rfl | ⟨_, h⟩
    · exact F.h2 hc.1 he hx
    · exact h
  | z :: m, e, y, he, hs, hc => by
    rw [List.filter_cons]
    cases hz : k z with
    | true =>
      rw [if_pos rfl]
      refine ⟨?_, flA F hx h0 m z z hz (.inl rfl) hc.2⟩
      rcases hs with rfl | ⟨h1, h⟩
      · exact F.h1 hc.1 he hz
      · exact F.h4 h (F.h3 hc.1 h1 hz)
    | false =>
      rw [if_neg (by simp)]
      refine flA F hx h0 m e z he (.inr ⟨hz, ?_⟩) hc.2
      rcases hs with rfl | ⟨h1, h⟩
      · exact F.h2 hc.1 he hz
      · exact h
theorem flK (F : Fl4 R R2 k T) : ∀ (m : List P) (e y : P), k e = true → (y = e ∨ (k y = false ∧ T e)) → ch R2 (y :: m) → ch R (e :: m.filter k)
  | [], e, y, he, hs, hc => trivial
  | z :: m, e, y, he, hs, hc => by
    rw [List.filter_cons]
    cases hz : k z with
    | true =>
      rw [if_pos rfl]
      refine ⟨?_, flK F m z z hz (.inl rfl) hc.2⟩
      rcases hs with rfl | ⟨h1, h⟩
      · exact F.h1 hc.1 he hz
      · exact F.h4 h (F.h3 hc.1 h1 hz)
    | false =>
      rw [if_neg (by simp)]
      refine flK F m e z he (.inr ⟨hz, ?_⟩) hc.2
      rcases hs with rfl | ⟨h1, h⟩
      · exact F.h2 hc.1 he hz
      · exact h
theorem flB (F : Fl4 R R2 k T) {x0 : P} (hx : k x0 = false) : ∀ (m : List P) (y : P), k y = false → ch R2 (y :: m ++ [x0]) → cy R (m.filter k)
  | [], y, hy, hc => trivial
  | z :: m, y, hy, hc => by
    rw [List.filter_cons]
    cases hz : k z with
    | true =>
      rw [if_pos rfl]
      exact flA F hx (F.h3 hc.1 hy hz) m z z hz (.inl rfl) hc.2
    | false =>
      rw [if_neg (by simp)]
      exact flB F hx m z hz hc.2
theorem fl_cy (F : Fl4 R R2 k T) : ∀ l : List P, cy R2 l → cy R (l.filter k)
  | [], _ => trivial
  | x :: r, h => by
    rw [List.filter_cons]
    cases hx : k x with
    | true =>
      rw [if_pos rfl]
      have := flK F (r ++ [x]) x x hx (.inl rfl) h
      rw [List.filter_append, List.filter_cons, hx, if_pos rfl, List.filter_nil] at this
      exact this
    | false =>
      rw [if_neg (by simp)]
      exact flB F hx r x hx h
end
def R2 (s : Nat) (t : P × P) (a b : P) : Prop := Ln s a b ∧ ¬ opp (us t a) (us t b) ∧ Cp a ∧ Cp b
theorem fl4 {s : Nat} {t : P × P} (ht : Sd s t) : Fl4 (Ln s) (R2 s t) (kp t) (fun z => us t z = 0) where
  h1 h _ _ := h.1
  h2 := fun {a b} h ha hb => by
    have h1 := (kp_is ht.cs h.2.2.1).mp ha
    have h2 : ¬ 0 ≤ us t b := fun q => by rw [(kp_is ht.cs h.2.2.2).mpr q] at hb; cases hb
    have := h.2.1
    unfold opp at this
    grind
  h3 := fun {a b} h ha hb => by
    have h1 := (kp_is ht.cs h.2.2.2).mp hb
    have h2 : ¬ 0 ≤ us t a := fun q => by rw [(kp_is ht.cs h.2.2.1).mpr q] at ha; cases ha
    have := h.2.1
    unfold opp at this
    grind
  h4 := fun {a b} ha hb => ln_side ht.f1 ht.f2 ht.c1 ht.c2 ht.ne ha hb
theorem ins_ch {s : Nat} {t : P × P} (ht : Sd s t) {a b : P} (ha : Cp a) (hb : Cp b) (h : Ln s a b) {m : List P} (hm : ch (R2 s t) (b :: m)) : ch (R2 s t) (a :: (ins t a b ++ b :: m)) := by
  by_cases c : cuts t a b = true
  · have e : ins t a b = [onLine t a b] := if_pos c
    have k := cut_of ht.cs ha hb c
    obtain ⟨_, l1, l2⟩ := cut_bits ht h k
    rw [e]
    refine ⟨⟨l1, ?_, ha, k.c⟩, ⟨l2, ?_, k.c, hb⟩, hm⟩
    · rw [k.z]; unfold opp; grind
    · rw [k.z]; unfold opp; grind
  · have e : ins t a b = [] := if_neg c
    rw [e]
    exact ⟨⟨h, fun o => c ((cuts_is ht.cs ha hb).mpr o), ha, hb⟩, hm⟩
theorem body_ch {s : Nat} {t : P × P} (ht : Sd s t) {x : P} (hx : Cp x) : ∀ (r : List P) (a : P), CL (a :: r) → ch (Ln s) (a :: r ++ [x]) → ch (R2 s t) (body t x (a :: r) ++ [x])
  | [], a, hc, h => by
    have := ins_ch ht (hc a (by simp)) hx h.1 (m := []) trivial
    show ch _ (a :: ins t a x ++ [x])
    exact this
  | b :: r, a, hc, h => by
    have ih := body_ch ht hx r b (fun z hz => hc z (List.mem_cons_of_mem _ hz)) h.2
    have hb : ∃ m, body t x (b :: r) ++ [x] = b :: m := by
      cases r with
      | nil => exact ⟨_, rfl⟩
      | cons c r => exact ⟨_, rfl⟩
    obtain ⟨m, e⟩ := hb
    rw [e] at ih
    have := ins_ch ht (hc a (by simp)) (hc b (by simp)) h.1 ih
    show ch _ (a :: (ins t a b ++ body t x (b :: r)) ++ [x])
    rw [List.cons_append, List.append_assoc, e]
    exact this
/-- what's kept by every clip -/
structure Lg (s : Nat) (l : List P) : Prop where
  c : CL l
  n : NA l
  f : ∀ z ∈ l, Fp (8 * s + 3) z
  y : cy (Ln s) l
theorem Lg.clip {s : Nat} {t : P × P} (ht : Sd s t) {l : List P} (h : Lg s l) : Lg s (clip t l) := by
  refine ⟨clip_cl ht.cs h.c, clip_na ht.cs h.c h.n, ?_, ?_⟩
  · match l, h with
    | [], h => intro z hz; cases hz
    | x :: r, h =>
      rw [clip_body ht.cs h.c]
      intro z hz
      have hz := (List.mem_filter.mp hz).1
      have key : ∀ (r' : List P) (a : P), CL (a :: r') → (∀ z ∈ a :: r', Fp (8 * s + 3) z) → ch (Ln s) (a :: r' ++ [x]) → ∀ z ∈ body t x (a :: r'), Fp (8 * s + 3) z := by
        intro r'
        induction r' with
        | nil =>
          intro a hc hf hl z hz
          rcases List.mem_cons.mp hz with e | e
          · rw [e]; exact hf a (by simp)
          · exact (cut_bits ht hl.1 (ins_mem ht.cs (hc a (by simp)) (h.c x (by simp)) e)).1
        | cons b r' ih =>
          intro a hc hf hl z hz
          rcases List.mem_cons.mp hz with e | e
          · rw [e]; exact hf a (by simp)
          · rcases List.mem_append.mp e with e | e
            · exact (cut_bits ht hl.1 (ins_mem ht.cs (hc a (by simp)) (hc b (by simp)) e)).1
            · exact ih b (fun z hz => hc z (List.mem_cons_of_mem _ hz)) (fun z hz => hf z (List.mem_cons_of_mem _ hz)) hl.2 z e
      exact key r x h.c h.f h.y z hz
  · match l, h with
    | [], h => exact trivial
    | x :: r, h =>
      rw [clip_body ht.cs h.c]
      refine fl_cy (fl4 ht) _ ?_
      have hb := body_ch ht (h.c x (by simp)) r x h.c h.y
      have : ∃ m, body t x (x :: r) = x :: m := by
        cases r with
        | nil => exact ⟨_, rfl⟩
        | cons c r => exact ⟨_, rfl⟩
      obtain ⟨m, e⟩ := this
      rw [e] at hb ⊢
      exact hb
theorem cv_ch {l : List P} (h : Cv l) : ∀ i, i < l.length → at0 l i ≠ at0 l (i + 1) := fun i _ => conv_next h.v i
theorem ch_of {R : P → P → Prop} : ∀ {l : List P}, (∀ i a b, l[i]? = some a → l[i + 1]? = some b → R a b) → ch R l
  | [], _ => trivial
  | [a], _ => trivial
  | a :: b :: r, h => ⟨h 0 a b rfl rfl, ch_of fun i x y h1 h2 => h (i + 1) x y h1 h2⟩
theorem Cv.lg {s : Nat} {l : List P} (h : Cv l) (hf : ∀ z ∈ l, Fp s z) : Lg s l := by
  refine ⟨h.c, h.na, fun z hz => (hf z hz).mono (by omega), ?_⟩
  match l, h, hf with
  | [], _, _ => exact trivial
  | x :: r, h, hf =>
    refine ch_of fun i a b h1 h2 => ?_
    have hi : i < (x :: r).length := by
      have := (List.getElem?_eq_some_iff.mp h2).1
      simp at this ⊢
      omega
    rw [List.getElem?_append_left hi] at h1
    have ea := at0_of h1
    have eb : at0 (x :: r) (i + 1) = b := by
      by_cases c : i + 1 < (x :: r).length
      · rw [List.getElem?_append_left c] at h2
        exact at0_of h2
      · have : i + 1 = (x :: r).length := by omega
        rw [this, List.getElem?_append_right (Nat.le_refl _), Nat.sub_self] at h2
        injection h2 with h2
        rw [this, ← h2, at0_eq (show (x :: r).length % (x :: r).length = 0 % (x :: r).length by simp)]
        exact at0_of rfl
    have := conv_next h.v i
    rw [ea, eb] at this
    have ma : a ∈ x :: r := List.mem_of_getElem? h1
    have mb : b ∈ x :: r := by rw [← eb]; exact at0_mem (by simp)
    exact ln_self (hf a ma) (hf b mb) (h.c a ma) (h.c b mb) this
theorem cv_sd {s : Nat} {q : List P} (h : Cv q) (hf : ∀ z ∈ q, Fp s z) : ∀ t ∈ sides q, Sd s t := by
  intro t ht
  unfold Kzq1.sides at ht
  obtain ⟨i, hi, e⟩ := List.mem_map.mp ht
  have h0 : 0 < q.length := by rw [List.mem_range] at hi; omega
  rw [← e]
  exact ⟨hf _ (at0_mem h0), hf _ (at0_mem h0), h.at _, h.at _, conv_next h.v i⟩
end Rc
namespace Rc
open Kzq1 (Q P turn at0 sides cross clip onLine unlike straightened formed begunWith meet)
/-! ### ways that all lead one way: order by what lies on the left -/
/-- b lies behind a, in the order of the sign σ -/
def lx (σ : Rat) (a b : P) : Prop := 0 < σ * (vx b - vx a) ∨ (vx b = vx a ∧ 0 < σ * (vy b - vy a))
def sg (σ : Rat) : Prop := σ = 1 ∨ σ = -1
theorem lx_trans {σ : Rat} {a b c : P} (hs : sg σ) (h1 : lx σ a b) (h2 : lx σ b c) : lx σ a c := by
  unfold lx sg at *
  rcases hs with rfl | rfl <;> grind
theorem lx_irr {σ : Rat} {a : P} (h : lx σ a a) : False := by
  unfold lx at h
  grind
theorem lx_neg {σ : Rat} {a b : P} (h : lx σ a b) : lx (-σ) b a := by
  unfold lx at *
  grind
theorem lx_bf {a b : P} : lx 1 a b ↔ bfR a b := by
  unfold lx bfR
  grind
/-- ways with x from 0 on (or straight up): the order by the left is an order -/
theorem wy {x1 y1 x2 y2 x3 y3 : Rat} (h1 : 0 < x1 ∨ (x1 = 0 ∧ 0 < y1)) (h2 : 0 < x2 ∨ (x2 = 0 ∧ 0 < y2)) (h3 : 0 < x3 ∨ (x3 = 0 ∧ 0 < y3))
    (a : 0 ≤ x1 * y2 - y1 * x2) (b : 0 ≤ x2 * y3 - y2 * x3) : 0 ≤ x1 * y3 - y1 * x3 ∧ ((0 < x1 * y2 - y1 * x2 ∨ 0 < x2 * y3 - y2 * x3) → 0 < x1 * y3 - y1 * x3) := by
  have id : x2 * (x1 * y3 - y1 * x3) = x1 * (x2 * y3 - y2 * x3) + x3 * (x1 * y2 - y1 * x2) := by grind
  have n1 : 0 ≤ x1 := by grind
  have n3 : 0 ≤ x3 := by grind
  by_cases c : 0 < x2
  · have p1 := Rat.mul_nonneg n1 b
    have p2 := Rat.mul_nonneg n3 a
    have q : 0 ≤ x1 * y3 - y1 * x3 := by
      by_cases d : 0 ≤ x1 * y3 - y1 * x3
      · exact d
      · have := Rat.mul_pos c (show 0 < -(x1 * y3 - y1 * x3) by grind)
        grind
    refine ⟨q, fun s => ?_⟩
    have z1 : 0 < x1 := by
      by_cases d : 0 < x1
      · exact d
      · have e1 : x1 = 0 := by grind
        have e2 : 0 < y1 := by grind
        rw [e1] at a
        have := Rat.mul_pos e2 c
        grind
    have : 0 < x1 * (x2 * y3 - y2 * x3) + x3 * (x1 * y2 - y1 * x2) := by
      by_cases d : 0 < x2 * y3 - y2 * x3
      · have := Rat.mul_pos z1 d
        grind
      · have d0 : x2 * y3 - y2 * x3 = 0 := by grind
        have s' : 0 < x1 * y2 - y1 * x2 := by grind
        have z3 : 0 < x3 := by
          by_cases d3 : 0 < x3
          · exact d3
          · have e1 : x3 = 0 := by grind
            have e2 : 0 < y3 := by grind
            have := Rat.mul_pos c e2
            rw [e1] at d0
            grind
        have := Rat.mul_pos z3 s'
        grind
    by_cases d : 0 < x1 * y3 - y1 * x3
    · exact d
    · have e : x1 * y3 - y1 * x3 = 0 := by grind
      rw [e] at id
      grind
  · have e2 : x2 = 0 := by grind
    have e3 : 0 < y2 := by grind
    rw [e2] at a b id
    have e4 : x3 = 0 := by
      by_cases d : 0 < x3
      · have := Rat.mul_pos e3 d
        grind
      · grind
    have e5 : 0 < y3 := by grind
    rw [e4]
    refine ⟨?_, fun s => ?_⟩
    · have := Rat.mul_nonneg n1 (show 0 ≤ y3 by grind)
      grind
    · have z1 : 0 < x1 := by
        by_cases d : 0 < x1
        · exact d
        · have : x1 = 0 := by grind
          rw [this, e2] at s
          grind
      have := Rat.mul_pos z1 e5
      grind
def cw (u1 u2 v1 v2 : P) : Rat := (vx u2 - vx u1) * (vy v2 - vy v1) - (vy u2 - vy u1) * (vx v2 - vx v1)
theorem wyL {σ : Rat} (hs : sg σ) {a b c d e f : P} (h1 : lx σ a b) (h2 : lx σ c d) (h3 : lx σ e f) (k1 : 0 ≤ cw a b c d) (k2 : 0 ≤ cw c d e f) : 0 ≤ cw a b e f ∧ ((0 < cw a b c d ∨ 0 < cw c d e f) → 0 < cw a b e f) := by
  unfold lx at *
  unfold cw at *
  rcases hs with rfl | rfl
  · exact wy (by grind) (by grind) (by grind) k1 k2
  · have := wy (x1 := -(vx b - vx a)) (y1 := -(vy b - vy a)) (x2 := -(vx d - vx c)) (y2 := -(vy d - vy c)) (x3 := -(vx f - vx e)) (y3 := -(vy f - vy e)) (by grind) (by grind) (by grind) (by grind) (by grind)
    grind
/-! ### half round -/
/-- the stack, its last point first -/
def popF (a : P) : List P → List P
  | b :: c :: r => if Kzq1.pos (turn c b a) then b :: c :: r else popF a (c :: r)
  | l => l
def halfF (l : List P) : List P := l.foldl (fun s a => a :: popF a s) []
def popS (a : P) (t : List P) : List P := match t with
  | b :: c :: r => if Kzq1.pos (turn c b a) then t else c :: r
  | _ => t
theorem popS_fix (a : P) : ∀ (n : Nat) (l : List P), (popS a l = l) → (List.range n).foldl (fun t _ => popS a t) l = l := by
  intro n
  induction n with
  | zero => intro l _; rfl
  | succ n ih =>
    intro l h
    rw [List.range_succ, List.foldl_append, ih l h]
    exact h
theorem popS_it (a : P) : ∀ (n : Nat) (l : List P), (List.range (n + 1)).foldl (fun t _ => popS a t) l = (List.range n).foldl (fun t _ => popS a t) (popS a l) := by
  intro n l
  rw [List.range_succ_eq_map, List.foldl_cons, List.foldl_map]
theorem popF_is (a : P) : ∀ (l : List P) (n : Nat), l.length ≤ n + 1 → (List.range n).foldl (fun t _ => popS a t) l = popF a l
  | [], n, _ => popS_fix a n [] rfl
  | [b], n, _ => popS_fix a n [b] rfl
  | b :: c :: r, n, h => by
    match n with
    | 0 => simp at h
    | n + 1 =>
      by_cases k : Kzq1.pos (turn c b a) = true
      · have e : popS a (b :: c :: r) = b :: c :: r := if_pos k
        rw [popS_fix a _ _ e]
        exact (if_pos k).symm
      · have e : popS a (b :: c :: r) = c :: r := if_neg k
        rw [popS_it, e, popF_is a (c :: r) n (by simp at h ⊢; omega)]
        exact (if_neg k).symm
theorem chain_is (l : List P) : Kzq1.chain l = (halfF l).reverse := by
  unfold Kzq1.chain halfF
  congr 1
  have : (fun (s : List P) (a : P) => a :: (List.range s.length).foldl (fun t _ => popS a t) s) = fun s a => a :: popF a s := by
    funext s a
    rw [popF_is a s s.length (by omega)]
  rw [← this]
  rfl
/-- what holds of the stack: all that was passed lies on the left of its ways -/
structure St (σ : Rat) (D : List P) (s : List P) : Prop where
  sub : ∀ z ∈ s, z ∈ D
  top : ∃ t r, s = t :: r ∧ ∀ z ∈ D, z = t ∨ lx σ z t
  bot : ∃ b, s.getLast? = some b ∧ ∀ z ∈ D, z = b ∨ lx σ b z
  ord : ch (fun b c => lx σ c b) s
  left : ch (fun b c => ∀ z ∈ D, 0 ≤ tr c b z) s
def tri : List P → Prop
  | a :: b :: c :: r => 0 < tr c b a ∧ tri (b :: c :: r)
  | _ => True
theorem tr_cw1 (a b c : P) : tr a b c = cw a b b c := by unfold tr cw; grind
theorem tr_cw2 (a b c : P) : tr a b c = cw a b a c := by unfold tr cw; grind
theorem tr_cw3 (a b z : P) : tr a b z = cw z b a b := by unfold tr cw; grind
theorem cw_neg (a b c d : P) : cw a b c d = - cw c d a b := by unfold cw; grind
theorem St.single {σ : Rat} (a : P) : St σ [a] [a] := ⟨fun _ h => h, ⟨a, [], rfl, fun z hz => .inl (List.mem_singleton.mp hz)⟩, ⟨a, rfl, fun z hz => .inl (List.mem_singleton.mp hz)⟩, trivial, trivial⟩
/-- popping: what's left after it -/
theorem pop_st {σ : Rat} (hs : sg σ) {D : List P} (hD : CL D) {a : P} (ha : Cp a) (hlt : ∀ z ∈ D, lx σ z a) : ∀ (s : List P), (∀ z ∈ s, z ∈ D) → (∃ b, s.getLast? = some b ∧ ∀ z ∈ D, z = b ∨ lx σ b z) →
    ch (fun b c => lx σ c b) s → ch (fun b c => ∀ z ∈ D, 0 ≤ tr c b z) s → tri s →
    (∃ t r, s = t :: r ∧ ∀ z ∈ D, z = t ∨ lx σ t z → 0 ≤ tr t a z) →
    ∃ t r, popF a s = t :: r ∧ (∀ z ∈ t :: r, z ∈ D) ∧ (∃ b, (t :: r).getLast? = some b ∧ ∀ z ∈ D, z = b ∨ lx σ b z) ∧ ch (fun b c => lx σ c b) (t :: r) ∧ ch (fun b c => ∀ z ∈ D, 0 ≤ tr c b z) (t :: r) ∧ tri (a :: t :: r) ∧ ∀ z ∈ D, 0 ≤ tr t a z
  | [], _, _, _, _, _, h => by obtain ⟨t, r, e, _⟩ := h; cases e
  | [b], h1, h2, h3, h4, h5, h6 => by
    obtain ⟨t, r, e, k⟩ := h6
    injection e with e1 e2
    subst e1; subst e2
    refine ⟨b, [], rfl, h1, h2, h3, h4, trivial, fun z hz => k z hz ?_⟩
    obtain ⟨b', e', k'⟩ := h2
    injection e' with e'
    subst e'
    exact k' z hz
  | b :: c :: r, h1, h2, h3, h4, h5, h6 => by
    obtain ⟨t, r', e, k⟩ := h6
    injection e with e1 e2
    subst e1; subst e2
    have cb := hD b (h1 b (by simp))
    have cc := hD c (h1 c (by simp))
    by_cases p : Kzq1.pos (turn c b a) = true
    · have p' : 0 < tr c b a := (turn_pos cc cb ha).mp (of_decide_eq_true p)
      refine ⟨b, c :: r, if_pos p, h1, h2, h3, h4, ⟨p', h5⟩, fun z hz => ?_⟩
      by_cases q : z = b ∨ lx σ b z
      · exact k z hz q
      · have q' : lx σ z b := by
          by_cases e : vx z = vx b ∧ vy z = vy b
          · exact absurd (.inl ((hD z hz).ext cb e.1 e.2)) q
          · have : ¬ lx σ b z := fun w => q (.inr w)
            unfold lx at *
            rcases hs with rfl | rfl <;> grind
        have e1 := h4.1 z hz
        rw [tr_cw3] at e1
        rw [tr_cw1] at p'
        have := (wyL hs q' h3.1 (hlt b (h1 b (by simp))) e1 (by grind)).1
        rw [show tr b a z = cw z b b a by unfold tr cw; grind]
        exact this
    · have p' : tr c b a ≤ 0 := by
        have : ¬ 0 < tr c b a := fun w => p (decide_eq_true ((turn_pos cc cb ha).mpr w))
        grind
      have e : popF a (b :: c :: r) = popF a (c :: r) := if_neg p
      rw [e]
      refine pop_st hs hD ha hlt (c :: r) (fun z hz => h1 z (List.mem_cons_of_mem _ hz)) ?_ h3.2 h4.2 ?_ ⟨c, r, rfl, fun z hz q => ?_⟩
      · obtain ⟨b', e', k'⟩ := h2
        exact ⟨b', by rw [List.getLast?_cons_cons] at e'; exact e', k'⟩
      · cases r with
        | nil => trivial
        | cons d r => exact h5.2
      · rcases q with rfl | q
        · unfold tr; grind
        · have e1 := h4.1 z hz
          have e2 : 0 ≤ cw c a c b := by
            rw [tr_cw2] at p'
            rw [cw_neg]
            grind
          rw [tr_cw2] at e1 ⊢
          exact (wyL hs (hlt c (h1 c (by simp))) h3.1 q e2 e1).1
theorem tri_lt {σ : Rat} (hs : sg σ) : ∀ (r : List P) (a b : P), ch (fun b c => lx σ c b) (a :: b :: r) → tri (a :: b :: r) → ch (fun b c => 0 < tr c b a) (b :: r)
  | [], a, b, _, _ => trivial
  | c :: r, a, b, h1, h2 => by
    refine ⟨h2.1, ?_⟩
    cases r with
    | nil => trivial
    | cons d r =>
      have h3 : tri (a :: c :: d :: r) := by
        refine ⟨?_, h2.2.2⟩
        have e1 := h2.2.1
        have e2 := h2.1
        rw [tr_cw1] at e1 e2
        have := (wyL hs h1.2.2.1 h1.2.1 h1.1 (by grind) (by grind)).2 (.inl e1)
        rw [show tr d c a = cw d c c b + cw d c b a by unfold tr cw; grind]
        grind
      exact tri_lt hs (d :: r) a c ⟨lx_trans hs h1.2.1 h1.1, h1.2.2⟩ h3
theorem ch_imp {R R' : P → P → Prop} (h : ∀ {a b}, R a b → R' a b) : ∀ {l : List P}, ch R l → ch R' l
  | [], _ => trivial
  | [a], _ => trivial
  | a :: b :: r, k => ⟨h k.1, ch_imp h (l := b :: r) k.2⟩
theorem ch_and {R R' : P → P → Prop} : ∀ {l : List P}, ch R l → ch R' l → ch (fun a b => R a b ∧ R' a b) l
  | [], _, _ => trivial
  | [a], _, _ => trivial
  | a :: b :: r, k, k' => ⟨⟨k.1, k'.1⟩, ch_and (l := b :: r) k.2 k'.2⟩
theorem push_st {σ : Rat} (hs : sg σ) {D s : List P} (hD : CL D) {a : P} (ha : Cp a) (hlt : ∀ z ∈ D, lx σ z a) (h : St σ D s) (ht : tri s) : St σ (D ++ [a]) (a :: popF a s) ∧ tri (a :: popF a s) := by
  obtain ⟨t0, r0, e0, k0⟩ := h.top
  obtain ⟨t, r, e, p1, p2, p3, p4, p5, p6⟩ := pop_st hs hD ha hlt s h.sub h.bot h.ord h.left ht ⟨t0, r0, e0, fun z hz q => by
    have : z = t0 := by
      rcases q with q | q
      · exact q
      · rcases k0 z hz with w | w
        · exact w
        · exact (lx_irr (lx_trans hs w q)).elim
    rw [this]
    unfold tr; grind⟩
  rw [e]
  have td : t ∈ D := p1 t (by simp)
  refine ⟨⟨?_, ⟨a, t :: r, rfl, ?_⟩, ?_, ⟨hlt t td, p3⟩, ⟨?_, ?_⟩⟩, p5⟩
  · intro z hz
    rcases List.mem_cons.mp hz with w | w
    · rw [w]; simp
    · exact List.mem_append_left _ (p1 z w)
  · intro z hz
    rcases List.mem_append.mp hz with w | w
    · exact .inr (hlt z w)
    · exact .inl (List.mem_singleton.mp w)
  · obtain ⟨b, e1, k⟩ := p2
    refine ⟨b, by rw [List.getLast?_cons_cons]; exact e1, fun z hz => ?_⟩
    rcases List.mem_append.mp hz with w | w
    · exact k z w
    · right
      rw [List.mem_singleton.mp w]
      exact hlt b (p1 b (List.mem_of_getLast? e1))
  · intro z hz
    rcases List.mem_append.mp hz with w | w
    · exact p6 z w
    · rw [List.mem_singleton.mp w]; unfold tr; grind
  · have q := tri_lt hs r a t ⟨hlt t td, p3⟩ p5
    refine ch_imp (fun {b c} (h : (∀ z ∈ D, 0 ≤ tr c b z) ∧ 0 < tr c b a) z hz => ?_) (ch_and p4 q)
    rcases List.mem_append.mp hz with w | w
    · exact h.1 z w
    · rw [List.mem_singleton.mp w]; grind
/-- the points in order -/
def Or (σ : Rat) : List P → Prop
  | a :: r => (∀ z ∈ r, lx σ a z) ∧ Or σ r
  | [] => True
theorem fold_st {σ : Rat} (hs : sg σ) : ∀ (l D s : List P), CL D → CL l → St σ D s → tri s → (∀ z ∈ D, ∀ y ∈ l, lx σ z y) → Or σ l → St σ (D ++ l) (l.foldl (fun s a => a :: popF a s) s) ∧ tri (l.foldl (fun s a => a :: popF a s) s)
  | [], D, s, _, _, h, t, _, _ => by rw [List.append_nil]; exact ⟨h, t⟩
  | a :: l, D, s, hD, hl, h, t, hd, ho => by
    have ha := hl a (by simp)
    obtain ⟨h1, h2⟩ := push_st hs hD ha (fun z hz => hd z hz a (by simp)) h t
    have := fold_st hs l (D ++ [a]) (a :: popF a s) (fun z hz => by
      rcases List.mem_append.mp hz with w | w
      · exact hD z w
      · rw [List.mem_singleton.mp w]; exact ha) (fun z hz => hl z (List.mem_cons_of_mem _ hz)) h1 h2 (fun z hz y hy => by
      rcases List.mem_append.mp hz with w | w
      · exact hd z w y (List.mem_cons_of_mem _ hy)
      · rw [List.mem_singleton.mp w]; exact ho.1 y hy) ho.2
    rw [List.append_assoc] at this
    exact this
theorem half_st {σ : Rat} (hs : sg σ) {l : List P} (hl : CL l) (h0 : l ≠ []) (ho : Or σ l) : St σ l (halfF l) ∧ tri (halfF l) := by
  match l, h0 with
  | a :: l, _ =>
    have ha := hl a (by simp)
    exact fold_st hs l [a] [a] (fun z hz => by rw [List.mem_singleton.mp hz]; exact ha) (fun z hz => hl z (List.mem_cons_of_mem _ hz)) (St.single a) trivial (fun z hz y hy => by rw [List.mem_singleton.mp hz]; exact ho.1 y hy) ho.2
end Rc
namespace Rc
open Kzq1 (Q P turn at0 sides cross clip onLine unlike straightened formed begunWith meet)
/-! ### all sides have all on their left, and each corner turns: a piece -/
theorem on_line {c c' z : P} (cc : Cp c) (cc' : Cp c') (hn : c ≠ c') (h : tr c c' z = 0) : ∃ μ : Rat, vx z = vx c + μ * (vx c' - vx c) ∧ vy z = vy c + μ * (vy c' - vy c) := by
  unfold tr at h
  by_cases e : vx c' - vx c = 0
  · have e2 : vy c' - vy c ≠ 0 := fun q => hn (cc.ext cc' (by grind) (by grind))
    refine ⟨(vy z - vy c) / (vy c' - vy c), ?_, by grind⟩
    have : (vy c' - vy c) * (vx z - vx c) = 0 := by rw [e] at h; grind
    rcases Rat.mul_eq_zero.mp this with q | q
    · exact absurd q e2
    · rw [e]; grind
  · exact ⟨(vx z - vx c) / (vx c' - vx c), by grind, by grind⟩
theorem conv_of {h D : List P} (hc : CL h) (h3 : 3 ≤ h.length) (hn : h.Nodup) (hD : ∀ z ∈ h, z ∈ D) (hE : ∀ i, ∀ z ∈ D, 0 ≤ tr (at0 h i) (at0 h (i + 1)) z)
    (hT : ∀ i, 0 < tr (at0 h i) (at0 h (i + 1)) (at0 h (i + 2))) : Kzq1.convex h = true := by
  have h0 : 0 < h.length := by omega
  have m (i : Nat) : at0 h i ∈ D := hD _ (at0_mem h0)
  have cc (i : Nat) : Cp (at0 h i) := hc _ (at0_mem h0)
  have nd {i j : Nat} (q : i % h.length ≠ j % h.length) : at0 h i ≠ at0 h j := fun e => by
    have g1 := at0_get (i := i) h0
    have g2 := at0_get (i := j) h0
    rw [e, ← g2] at g1
    exact q ((List.getElem?_inj (Nat.mod_lt _ h0) hn).mp g1)
  have T' (i : Nat) : 0 < tr (at0 h (i + h.length - 1)) (at0 h i) (at0 h (i + 1)) := by
    have := hT (i + h.length - 1)
    rw [at0_eq (show (i + h.length - 1 + 1) % h.length = i % h.length by rw [show i + h.length - 1 + 1 = i + h.length by omega, Nat.add_mod_right]),
      at0_eq (show (i + h.length - 1 + 2) % h.length = (i + 1) % h.length by rw [show i + h.length - 1 + 2 = i + 1 + h.length by omega, Nat.add_mod_right])] at this
    exact this
  have E' (i : Nat) (z : P) (hz : z ∈ D) : 0 ≤ tr (at0 h (i + h.length - 1)) (at0 h i) z := by
    have := hE (i + h.length - 1) z hz
    rw [at0_eq (show (i + h.length - 1 + 1) % h.length = i % h.length by rw [show i + h.length - 1 + 1 = i + h.length by omega, Nat.add_mod_right])] at this
    exact this
  have key (i j : Nat) (hj : j % h.length ≠ i % h.length) (hk : j % h.length ≠ (i + 1) % h.length) : 0 < tr (at0 h i) (at0 h (i + 1)) (at0 h j) := by
    have a0 := hE i _ (m j)
    by_cases z0 : tr (at0 h i) (at0 h (i + 1)) (at0 h j) = 0
    · exfalso
      have t1 := hT i
      have n1 : at0 h i ≠ at0 h (i + 1) := fun e => by rw [e] at t1; unfold tr at t1; grind
      obtain ⟨μ, ex, ey⟩ := on_line (cc i) (cc (i + 1)) n1 z0
      have e1 := hE (i + 1) _ (m j)
      have e2 := E' i _ (m j)
      have t2 := T' i
      have t3 := T' j
      have e3 := E' j _ (m i)
      have e4 := E' j _ (m (i + 1))
      have e5 := hE j _ (m i)
      have e6 := hE j _ (m (i + 1))
      have nz := nd hj
      have nz' := nd hk
      have cz := cc j
      have c1 := cc i
      have c2 := cc (i + 1)
      rw [show i + 1 + 1 = i + 2 from rfl] at e1
      generalize at0 h i = c at *
      generalize at0 h (i + 1) = c' at *
      generalize at0 h (i + 2) = e at *
      generalize at0 h (i + h.length - 1) = p at *
      generalize at0 h j = z at *
      generalize at0 h (j + h.length - 1) = x at *
      generalize at0 h (j + 1) = y at *
      have m1 : tr c' e z = (1 - μ) * tr c c' e := by unfold tr; rw [ex, ey]; grind
      have m2 : tr p c z = μ * tr p c c' := by unfold tr; rw [ex, ey]; grind
      have l1 : μ ≤ 1 := by
        by_cases q : μ ≤ 1
        · exact q
        · have := Rat.mul_pos (show 0 < μ - 1 by grind) t1
          grind
      have l0 : 0 ≤ μ := by
        by_cases q : 0 ≤ μ
        · exact q
        · have := Rat.mul_pos (show 0 < -μ by grind) t2
          grind
      have s0 : μ ≠ 0 := fun q => nz (cz.ext c1 (by rw [ex, q]; grind) (by rw [ey, q]; grind))
      have s1 : μ ≠ 1 := fun q => nz' (cz.ext c2 (by rw [ex, q]; grind) (by rw [ey, q]; grind))
      have u0 : 0 < μ := by grind
      have u1 : 0 < 1 - μ := by grind
      let X := (vx z - vx x) * (vy c' - vy c) - (vy z - vy x) * (vx c' - vx c)
      let Y := (vx y - vx z) * (vy c' - vy c) - (vy y - vy z) * (vx c' - vx c)
      have f3 : tr x z c = -(μ * X) := by show _ = -(μ * ((vx z - vx x) * (vy c' - vy c) - (vy z - vy x) * (vx c' - vx c))); unfold tr; rw [ex, ey]; grind
      have f4 : tr x z c' = (1 - μ) * X := by show _ = (1 - μ) * ((vx z - vx x) * (vy c' - vy c) - (vy z - vy x) * (vx c' - vx c)); unfold tr; rw [ex, ey]; grind
      have f5 : tr z y c = -(μ * Y) := by show _ = -(μ * ((vx y - vx z) * (vy c' - vy c) - (vy y - vy z) * (vx c' - vx c))); unfold tr; rw [ex, ey]; grind
      have f6 : tr z y c' = (1 - μ) * Y := by show _ = (1 - μ) * ((vx y - vx z) * (vy c' - vy c) - (vy y - vy z) * (vx c' - vx c)); unfold tr; rw [ex, ey]; grind
      have sgn {W : Rat} (p1 : 0 ≤ -(μ * W)) (p2 : 0 ≤ (1 - μ) * W) : W = 0 := by
        by_cases q : 0 < W
        · have := Rat.mul_pos u0 q; grind
        · by_cases q2 : W < 0
          · have := Rat.mul_pos u1 (show 0 < -W by grind); grind
          · grind
      have X0 := sgn (by rw [← f3]; exact e3) (by rw [← f4]; exact e4)
      have Y0 := sgn (by rw [← f5]; exact e5) (by rw [← f6]; exact e6)
      have X0 : (vx z - vx x) * (vy c' - vy c) - (vy z - vy x) * (vx c' - vx c) = 0 := X0
      have Y0 : (vx y - vx z) * (vy c' - vy c) - (vy y - vy z) * (vx c' - vx c) = 0 := Y0
      have g1 : (vx c' - vx c) * tr x z y = 0 := by unfold tr; grind
      have g2 : (vy c' - vy c) * tr x z y = 0 := by unfold tr; grind
      have tn : tr x z y ≠ 0 := by grind
      rcases Rat.mul_eq_zero.mp g1 with q1 | q1
      · rcases Rat.mul_eq_zero.mp g2 with q2 | q2
        · exact n1 (c1.ext c2 (by grind) (by grind))
        · exact tn q2
      · exact tn q1
    · grind
  unfold Kzq1.convex
  rw [Bool.and_eq_true]
  refine ⟨decide_eq_true h3, ?_⟩
  rw [List.all_eq_true]
  intro i hi
  rw [List.all_eq_true]
  intro j hj
  rw [List.mem_range] at hi hj
  by_cases e1 : j = i
  · rw [e1]; simp
  · by_cases e2 : j = (i + 1) % h.length
    · rw [e2]; simp
    · have := key i j (by rw [Nat.mod_eq_of_lt hi, Nat.mod_eq_of_lt hj]; exact e1) (by rw [Nat.mod_eq_of_lt hj]; exact e2)
      have : Kzq1.pos (turn (at0 h i) (at0 h (i + 1)) (at0 h j)) = true := decide_eq_true ((turn_pos (cc _) (cc _) (cc _)).mpr this)
      rw [this, Bool.or_true]
/-! ### the hull -/
theorem tri_get : ∀ {l : List P} {i : Nat} {a b c : P}, tri l → l[i]? = some a → l[i + 1]? = some b → l[i + 2]? = some c → 0 < tr c b a
  | x :: y :: z :: r, 0, a, b, c, h, e1, e2, e3 => by injection e1 with e1; injection e2 with e2; injection e3 with e3; subst e1; subst e2; subst e3; exact h.1
  | x :: y :: z :: r, i + 1, a, b, c, h, e1, e2, e3 => tri_get (l := y :: z :: r) (i := i) h.2 e1 e2 e3
  | [x, y], i, a, b, c, h, e1, e2, e3 => by simp at e3
  | [x], i, a, b, c, h, e1, e2, e3 => by simp at e3
  | [], i, a, b, c, h, e1, e2, e3 => by simp at e1
theorem ord_get {σ : Rat} (hs : sg σ) {l : List P} (h : ch (fun b c => lx σ c b) l) : ∀ {i j : Nat} {a b : P}, l[i]? = some a → l[j]? = some b → i < j → lx σ b a := by
  intro i j
  induction j with
  | zero => intro a b _ _ q; omega
  | succ j ih =>
    intro a b e1 e2 q
    have hj : j < l.length := by have := (List.getElem?_eq_some_iff.mp e2).1; omega
    have e3 : l[j]? = some l[j] := List.getElem?_eq_getElem hj
    have k := ch_get h e3 e2
    by_cases c : i = j
    · subst c
      rw [e1] at e3
      injection e3 with e3
      rw [e3]
      exact k
    · exact lx_trans hs k (ih e1 e3 (by omega))
theorem junction {σ : Rat} (hs : sg σ) {D : List P} {u v t : P} (h1 : lx σ u t) (h2 : lx σ v t) (hv : v ∈ D) (hu : ∀ z ∈ D, 0 ≤ tr u t z) (hw : ∀ z ∈ D, 0 ≤ tr t v z) (hn : ¬ OnL D) (ct : Cp t) (cu : Cp u) : 0 < tr u t v := by
  by_cases c : tr u t v = 0
  · exfalso
    refine hn ⟨lineA u t, lineA_nz cu ct (fun e => lx_irr (e ▸ h1)), fun z hz => ?_⟩
    rw [lineA_at]
    have a := hu z hz
    have b := hw z hz
    have w1 := wyL (a := v) (b := t) (c := u) (d := t) (e := u) (f := t) hs h2 h1 h1
    by_cases q : 0 < tr u t z
    · exfalso
      unfold lx tr at *
      have id : (vx t - vx v) * ((vx t - vx u) * (vy z - vy u) - (vy t - vy u) * (vx z - vx u)) = - ((vx t - vx u) * ((vx v - vx t) * (vy z - vy t) - (vy v - vy t) * (vx z - vx t))) := by grind
      have id2 : (vy t - vy v) * ((vx t - vx u) * (vy z - vy u) - (vy t - vy u) * (vx z - vx u)) = - ((vy t - vy u) * ((vx v - vx t) * (vy z - vy t) - (vy v - vy t) * (vx z - vx t))) := by grind
      generalize (vx t - vx u) * (vy z - vy u) - (vy t - vy u) * (vx z - vx u) = A at *
      generalize (vx v - vx t) * (vy z - vy t) - (vy v - vy t) * (vx z - vx t) = B at *
      have id' : (σ * (vx t - vx v)) * A = - ((σ * (vx t - vx u)) * B) := by grind
      have id2' : (σ * (vy t - vy v)) * A = - ((σ * (vy t - vy u)) * B) := by grind
      rcases h2 with h2 | ⟨h2, h2'⟩
      · have p1 := Rat.mul_pos h2 q
        have p2 : 0 ≤ (σ * (vx t - vx u)) * B := Rat.mul_nonneg (by grind) b
        grind
      · have p1 := Rat.mul_pos h2' q
        have e0 : vx t = vx u := by
          rcases h1 with h1 | h1
          · exfalso
            have e1 : vx t - vx v = 0 := by grind
            have : σ ≠ 0 := by unfold sg at hs; grind
            have y0 : vy t - vy v ≠ 0 := by grind
            have x0 : vx t - vx u ≠ 0 := by grind
            have : (vx t - vx u) * (vy t - vy v) = 0 := by grind
            rcases Rat.mul_eq_zero.mp this with k | k
            · exact x0 k
            · exact y0 k
          · exact h1.1
        have p2 : 0 ≤ (σ * (vy t - vy u)) * B := Rat.mul_nonneg (by grind) b
        grind
    · grind
  · have := hu v hv
    grind
end Rc
namespace Rc
open Kzq1 (Q P turn at0 sides cross clip onLine unlike straightened formed begunWith meet)
/-! ### points in order -/
theorem insert_mem {a z : P} : ∀ {l : List P}, z ∈ Kzq1.insert a l ↔ z = a ∨ z ∈ l
  | [] => by simp [Kzq1.insert]
  | b :: l => by
    have ih := insert_mem (a := a) (z := z) (l := l)
    show z ∈ (if Kzq1.before a b then a :: b :: l else if a = b then b :: l else b :: Kzq1.insert a l) ↔ _
    by_cases c : Kzq1.before a b = true
    · rw [if_pos c]; simp
    · rw [if_neg c]
      by_cases e : a = b
      · rw [if_pos e, e]; simp
      · rw [if_neg e, List.mem_cons, ih, List.mem_cons]
        constructor
        · rintro (h | h | h); exact .inr (.inl h); exact .inl h; exact .inr (.inr h)
        · rintro (h | h | h); exact .inr (.inl h); exact .inl h; exact .inr (.inr h)
theorem before_lx {a b : P} (ha : Cp a) (hb : Cp b) : Kzq1.before a b = true ↔ lx 1 a b := by rw [before_is ha hb, lx_bf]
theorem lx_tot {a b : P} (ha : Cp a) (hb : Cp b) (h : ¬ lx 1 a b) (hn : a ≠ b) : lx 1 b a := by
  by_cases e : vx a = vx b ∧ vy a = vy b
  · exact absurd (ha.ext hb e.1 e.2) hn
  · unfold lx at *
    grind
theorem insert_or {a : P} (ha : Cp a) : ∀ {l : List P}, CL l → Or 1 l → Or 1 (Kzq1.insert a l)
  | [], _, _ => ⟨fun z hz => (by cases hz), trivial⟩
  | b :: l, hc, h => by
    have hb := hc b (by simp)
    show Or 1 (if Kzq1.before a b then a :: b :: l else if a = b then b :: l else b :: Kzq1.insert a l)
    by_cases c : Kzq1.before a b = true
    · have k := (before_lx ha hb).mp c
      rw [if_pos c]
      refine ⟨fun z hz => ?_, h⟩
      rcases List.mem_cons.mp hz with e | e
      · rw [e]; exact k
      · exact lx_trans (.inl rfl) k (h.1 z e)
    · rw [if_neg c]
      by_cases e : a = b
      · rw [if_pos e]; exact h
      · rw [if_neg e]
        refine ⟨fun z hz => ?_, insert_or ha (fun z hz => hc z (List.mem_cons_of_mem _ hz)) h.2⟩
        rcases insert_mem.mp hz with w | w
        · rw [w]; exact lx_tot ha hb (fun q => c ((before_lx ha hb).mpr q)) e
        · exact h.1 z w
def srt (l : List P) : List P := l.foldr Kzq1.insert []
theorem srt_mem {z : P} : ∀ {l : List P}, z ∈ srt l ↔ z ∈ l
  | [] => Iff.rfl
  | a :: l => by
    show z ∈ Kzq1.insert a (srt l) ↔ _
    rw [insert_mem, srt_mem (l := l), List.mem_cons]
theorem srt_or : ∀ {l : List P}, CL l → Or 1 (srt l)
  | [], _ => trivial
  | a :: l, h => insert_or (h a (by simp)) (fun z hz => h z (List.mem_cons_of_mem _ (srt_mem.mp hz))) (srt_or (l := l) fun z hz => h z (List.mem_cons_of_mem _ hz))
theorem or_uniq : ∀ {l m : List P}, Or 1 l → Or 1 m → (∀ z, z ∈ l ↔ z ∈ m) → l = m
  | [], [], _, _, _ => rfl
  | [], b :: m, _, _, h => by have := (h b).mpr (by simp); cases this
  | a :: l, [], _, _, h => by have := (h a).mp (by simp); cases this
  | a :: l, b :: m, h1, h2, h => by
    have e : a = b := by
      rcases List.mem_cons.mp ((h a).mp (by simp)) with w | w
      · exact w
      · rcases List.mem_cons.mp ((h b).mpr (by simp)) with w2 | w2
        · exact w2.symm
        · exact (lx_irr (lx_trans (.inl rfl) (h1.1 b w2) (h2.1 a w))).elim
    subst e
    rw [or_uniq h1.2 h2.2 fun z => by
      constructor
      · intro q
        rcases List.mem_cons.mp ((h z).mp (List.mem_cons_of_mem _ q)) with w | w
        · rw [w] at q; exact (lx_irr (h1.1 a q)).elim
        · exact w
      · intro q
        rcases List.mem_cons.mp ((h z).mpr (List.mem_cons_of_mem _ q)) with w | w
        · rw [w] at q; exact (lx_irr (h2.1 a q)).elim
        · exact w]
theorem or_append {σ : Rat} : ∀ {l m : List P}, Or σ (l ++ m) ↔ Or σ l ∧ Or σ m ∧ ∀ a ∈ l, ∀ b ∈ m, lx σ a b
  | [], m => by simp [Or]
  | a :: l, m => by
    have ih := or_append (σ := σ) (l := l) (m := m)
    show ((∀ z ∈ l ++ m, lx σ a z) ∧ Or σ (l ++ m)) ↔ ((∀ z ∈ l, lx σ a z) ∧ Or σ l) ∧ _
    rw [ih]
    constructor
    · rintro ⟨h1, h2, h3, h4⟩
      refine ⟨⟨fun z hz => h1 z (List.mem_append_left _ hz), h2⟩, h3, fun x hx b hb => ?_⟩
      rcases List.mem_cons.mp hx with e | e
      · rw [e]; exact h1 b (List.mem_append_right _ hb)
      · exact h4 x e b hb
    · rintro ⟨⟨h1, h2⟩, h3, h4⟩
      refine ⟨fun z hz => ?_, h2, h3, fun x hx b hb => h4 x (List.mem_cons_of_mem _ hx) b hb⟩
      rcases List.mem_append.mp hz with e | e
      · exact h1 z e
      · exact h4 a (by simp) z e
theorem or_rev : ∀ {l : List P}, Or 1 l → Or (-1) l.reverse
  | [], _ => trivial
  | a :: l, h => by
    rw [List.reverse_cons, or_append]
    exact ⟨or_rev h.2, ⟨fun z hz => (by cases hz), trivial⟩, fun x hx b hb => by
      rw [List.mem_singleton.mp hb]
      exact lx_neg (h.1 x (List.mem_reverse.mp hx))⟩
theorem hull_is (l : List P) : Kzq1.hull l = (halfF (srt l)).tail.reverse ++ (halfF (srt l).reverse).tail.reverse := by
  show (Kzq1.chain (srt l)).dropLast ++ (Kzq1.chain (srt l).reverse).dropLast = _
  rw [chain_is, chain_is, List.dropLast_reverse, List.dropLast_reverse]
theorem get_tail {α : Type} {l : List α} {i : Nat} : l.tail[i]? = l[i + 1]? := by cases l <;> simp
/-- the hull of points that aren't all in one line is a piece -/
theorem hull_conv {l : List P} (hl : CL l) (hn : ¬ OnL l) : Kzq1.convex (Kzq1.hull l) = true ∧ (∀ z ∈ Kzq1.hull l, z ∈ l) ∧ (Kzq1.hull l).Nodup := by
  have hS : CL (srt l) := fun z hz => hl z (srt_mem.mp hz)
  have hSr : CL (srt l).reverse := fun z hz => hS z (List.mem_reverse.mp hz)
  have s0 : srt l ≠ [] := fun e => hn ⟨⟨1, 0, 0⟩, .inl (by decide), fun z hz => by rw [← srt_mem, e] at hz; cases hz⟩
  have hN : ¬ OnL (srt l) := fun k => hn (k.sub fun z hz => srt_mem.mpr hz)
  have sA : sg 1 := .inl rfl
  have sB : sg (-1) := .inr rfl
  obtain ⟨HA, TA⟩ := half_st sA hS s0 (srt_or hl)
  obtain ⟨HB, TB⟩ := half_st sB hSr (by simpa using s0) (or_rev (srt_or hl))
  rw [hull_is]
  generalize hA : halfF (srt l) = A at HA TA
  generalize hB : halfF (srt l).reverse = B at HB TB
  generalize hD : srt l = D at *
  have memB : ∀ z ∈ D, z ∈ D.reverse := fun z hz => List.mem_reverse.mpr hz
  obtain ⟨tA, rA, eA, topA⟩ := HA.top
  obtain ⟨bA, lA, botA⟩ := HA.bot
  obtain ⟨tB, rB, eB, topB⟩ := HB.top
  obtain ⟨bB, lB, botB⟩ := HB.bot
  have subB : ∀ z ∈ B, z ∈ D := fun z hz => List.mem_reverse.mp (HB.sub z hz)
  have EB : ch (fun b c => ∀ z ∈ D, 0 ≤ tr c b z) B := ch_imp (fun h z hz => h z (memB z hz)) HB.left
  have tAD : tA ∈ D := HA.sub tA (by rw [eA]; simp)
  have bAD : bA ∈ D := HA.sub bA (List.mem_of_getLast? lA)
  have tBD : tB ∈ D := subB tB (by rw [eB]; simp)
  have bBD : bB ∈ D := subB bB (List.mem_of_getLast? lB)
  have flip {a b : P} (h : lx (-1) a b) : lx 1 b a := by have := lx_neg h; rw [show -(-1 : Rat) = 1 by grind] at this; exact this
  have e1 : bB = tA := by
    rcases topA bB bBD with e | e
    · exact e
    · rcases botB tA (memB _ tAD) with e2 | e2
      · exact e2.symm
      · exact (lx_irr (lx_trans sA e (flip e2))).elim
  have e2 : bA = tB := by
    rcases topB bA (memB _ bAD) with e | e
    · exact e
    · rcases botA tB tBD with e3 | e3
      · exact e3.symm
      · exact (lx_irr (lx_trans sA e3 (flip e))).elim
  replace e1 := e1.symm
  replace e2 := e2.symm
  subst e1; subst e2
  -- more than one point
  have ne : tA ≠ tB := fun e => by
    have all : ∀ z ∈ D, z = tA := fun z hz => by
      rcases topA z hz with q | q
      · exact q
      · rcases botA z hz with w | w
        · rw [w, e]
        · rw [← e] at w
          exact (lx_irr (lx_trans sA q w)).elim
    refine hN ⟨⟨1, 0, - vx tA⟩, .inl (by show (1 : Rat) ≠ 0; decide), fun z hz => ?_⟩
    rw [all z hz]; unfold Af.at; grind
  have lenA : 2 ≤ A.length := by
    match A, eA, lA with
    | [x], eA, lA =>
      injection eA with q _
      have : x = tB := by injection lA
      exact absurd (q.symm.trans this) ne
    | x :: y :: r, _, _ => simp
  have lenB : 2 ≤ B.length := by
    match B, eB, lB with
    | [x], eB, lB =>
      injection eB with q _
      have : x = tA := by injection lB
      exact absurd (this.symm.trans q) ne
    | x :: y :: r, _, _ => simp
  have A0 : A[0]? = some tA := by rw [eA]; rfl
  have B0 : B[0]? = some tB := by rw [eB]; rfl
  have AL : A[A.length - 1]? = some tB := by rw [← List.getLast?_eq_getElem?]; exact lA
  have BL : B[B.length - 1]? = some tA := by rw [← List.getLast?_eq_getElem?]; exact lB
  have gA (i : Nat) (h : i < A.length) : A[i]? = some A[i] := List.getElem?_eq_getElem h
  have gB (i : Nat) (h : i < B.length) : B[i]? = some B[i] := List.getElem?_eq_getElem h
  have mA (i : Nat) (h : i < A.length) : A[i] ∈ D := HA.sub _ (List.getElem_mem h)
  have mB (i : Nat) (h : i < B.length) : B[i] ∈ D := subB _ (List.getElem_mem h)
  -- the joints
  have J1 {u v : P} (gu : A[1]? = some u) (gv : B[B.length - 2]? = some v) : 0 < tr u tA v := by
    have h1 := ord_get sA HA.ord A0 gu (by omega)
    have h2 := ord_get sB HB.ord gv BL (by omega)
    have l1 := ch_get (i := 0) HA.left A0 gu
    have l2 := ch_get (i := B.length - 2) EB gv (by rw [show B.length - 2 + 1 = B.length - 1 by omega]; exact BL)
    exact junction sA h1 (flip h2) (subB v (List.mem_of_getElem? gv)) l1 l2 hN (hS _ tAD) (hS _ (HA.sub u (List.mem_of_getElem? gu)))
  have J2 {u v : P} (gu : B[1]? = some u) (gv : A[A.length - 2]? = some v) : 0 < tr u tB v := by
    have h1 := ord_get sB HB.ord B0 gu (by omega)
    have h2 := ord_get sA HA.ord gv AL (by omega)
    have l1 := ch_get (i := 0) EB B0 gu
    have l2 := ch_get (i := A.length - 2) HA.left gv (by rw [show A.length - 2 + 1 = A.length - 1 by omega]; exact AL)
    exact junction sB h1 (lx_neg h2) (HA.sub v (List.mem_of_getElem? gv)) l1 l2 hN (hS _ tBD) (hS _ (subB u (List.mem_of_getElem? gu)))
  have len3 : 3 ≤ (A.tail.reverse ++ B.tail.reverse).length := by
    rw [List.length_append, List.length_reverse, List.length_reverse, List.length_tail, List.length_tail]
    by_cases c : A.length = 2 ∧ B.length = 2
    · exfalso
      have q1 : A[1]? = some tB := by have := AL; rw [c.1] at this; exact this
      have q2 : B[B.length - 2]? = some tB := by rw [c.2]; exact B0
      have := J1 q1 q2
      unfold tr at this
      grind
    · omega
  -- the closed walk, backwards
  let W : Nat → P := fun i => if i < B.length then (B[i]?).getD tB else (A[i - B.length + 1]?).getD tB
  have WB {i : Nat} {z : P} (h : B[i]? = some z) : W i = z := by
    show (if i < B.length then (B[i]?).getD tB else _) = z
    rw [if_pos (List.getElem?_eq_some_iff.mp h).1, h]
    rfl
  have WA {i : Nat} {z : P} (h : A[i]? = some z) : W (B.length - 1 + i) = z := by
    by_cases c : i = 0
    · subst c
      rw [A0] at h
      injection h with h
      rw [← h]
      exact WB BL
    · show (if B.length - 1 + i < B.length then _ else (A[B.length - 1 + i - B.length + 1]?).getD tB) = z
      rw [if_neg (by omega), show B.length - 1 + i - B.length + 1 = i by omega, h]
      rfl
  generalize hN' : A.length - 1 + (B.length - 1) = n at *
  have hlen : (A.tail.reverse ++ B.tail.reverse).length = n := by
    rw [List.length_append, List.length_reverse, List.length_reverse, List.length_tail, List.length_tail]
    omega
  have WE (i : Nat) (hi : i < n) : ∀ z ∈ D, 0 ≤ tr (W (i + 1)) (W i) z := by
    by_cases c : i + 1 < B.length
    · rw [WB (gB i (by omega)), WB (gB (i + 1) c)]
      exact ch_get EB (gB i (by omega)) (gB (i + 1) c)
    · have q1 := WA (gA (i - (B.length - 1)) (by omega))
      have q2 := WA (gA (i - (B.length - 1) + 1) (by omega))
      rw [show B.length - 1 + (i - (B.length - 1)) = i by omega] at q1
      rw [show B.length - 1 + (i - (B.length - 1) + 1) = i + 1 by omega] at q2
      rw [q1, q2]
      exact ch_get HA.left (gA _ (by omega)) (gA _ (by omega))
  have WT (i : Nat) (hi : i + 1 < n) : 0 < tr (W (i + 2)) (W (i + 1)) (W i) := by
    by_cases c : i + 2 < B.length
    · rw [WB (gB i (by omega)), WB (gB (i + 1) (by omega)), WB (gB (i + 2) c)]
      exact tri_get TB (gB _ (by omega)) (gB _ (by omega)) (gB _ c)
    · by_cases c2 : i + 2 = B.length
      · have q0 := WB (gB i (by omega))
        have q1 : W (i + 1) = tA := WB (by rw [show i + 1 = B.length - 1 by omega]; exact BL)
        have q2 := WA (gA 1 (by omega))
        rw [show B.length - 1 + 1 = i + 2 by omega] at q2
        rw [q0, q1, q2]
        exact J1 (gA 1 (by omega)) (by rw [show B.length - 2 = i by omega]; exact gB i (by omega))
      · have q0 := WA (gA (i - (B.length - 1)) (by omega))
        have q1 := WA (gA (i - (B.length - 1) + 1) (by omega))
        have q2 := WA (gA (i - (B.length - 1) + 2) (by omega))
        rw [show B.length - 1 + (i - (B.length - 1)) = i by omega] at q0
        rw [show B.length - 1 + (i - (B.length - 1) + 1) = i + 1 by omega] at q1
        rw [show B.length - 1 + (i - (B.length - 1) + 2) = i + 2 by omega] at q2
        rw [q0, q1, q2]
        exact tri_get TA (gA _ (by omega)) (gA _ (by omega)) (gA _ (by omega))
  have W0 : W 0 = tB := WB B0
  have Wn : W n = tB := by
    have := WA AL
    rw [show B.length - 1 + (A.length - 1) = n by omega] at this
    exact this
  have WJ : 0 < tr (W 1) (W 0) (W (n - 1)) := by
    rw [W0, WB (gB 1 (by omega))]
    have := WA (gA (A.length - 2) (by omega))
    rw [show B.length - 1 + (A.length - 2) = n - 1 by omega] at this
    rw [this]
    exact J2 (gB 1 (by omega)) (gA _ (by omega))
  generalize hh : A.tail.reverse ++ B.tail.reverse = h at *
  have hW (k : Nat) (hk : k < n) : h[k]? = some (W (n - k)) := by
    rw [← hh]
    by_cases c : k < A.length - 1
    · rw [List.getElem?_append_left (by rw [List.length_reverse, List.length_tail]; exact c), List.getElem?_reverse (by rw [List.length_tail]; exact c), get_tail, List.length_tail]
      have q := WA (gA (A.length - 1 - 1 - k + 1) (by omega))
      rw [show B.length - 1 + (A.length - 1 - 1 - k + 1) = n - k by omega] at q
      rw [q]
      exact gA _ (by omega)
    · rw [List.getElem?_append_right (by rw [List.length_reverse, List.length_tail]; omega), List.length_reverse, List.length_tail, List.getElem?_reverse (by rw [List.length_tail]; omega), get_tail, List.length_tail]
      have q := WB (gB (B.length - 1 - 1 - (k - (A.length - 1)) + 1) (by omega))
      have ek : n - k = B.length - 1 - 1 - (k - (A.length - 1)) + 1 := by omega
      rw [ek, q]
      exact gB _ (by omega)
  have hat (k : Nat) (hk : k ≤ n) : at0 h k = W (n - k) := by
    by_cases c : k < n
    · exact at0_of (hW k c)
    · have : k = n := by omega
      subst this
      rw [at0_eq (show k % h.length = 0 % h.length by rw [hlen]; simp), at0_of (hW 0 (by omega))]
      rw [Nat.sub_zero, Nat.sub_self, Wn, W0]
  have hsub : ∀ z ∈ h, z ∈ D := by
    intro z hz
    rw [← hh] at hz
    rcases List.mem_append.mp hz with w | w
    · exact HA.sub z (List.mem_of_mem_tail (List.mem_reverse.mp w))
    · exact subB z (List.mem_of_mem_tail (List.mem_reverse.mp w))
  have hnd : h.Nodup := by
    rw [← hh, List.nodup_append]
    have nodA : A.tail.Nodup := by
      rw [List.Nodup, List.pairwise_iff_getElem]
      intro i j hi hj hij e
      have q1 : A[i + 1]? = some A.tail[i] := by rw [← get_tail]; exact List.getElem?_eq_getElem hi
      have q2 : A[j + 1]? = some A.tail[j] := by rw [← get_tail]; exact List.getElem?_eq_getElem hj
      have := ord_get sA HA.ord q1 q2 (by omega)
      rw [e] at this
      exact lx_irr this
    have nodB : B.tail.Nodup := by
      rw [List.Nodup, List.pairwise_iff_getElem]
      intro i j hi hj hij e
      have q1 : B[i + 1]? = some B.tail[i] := by rw [← get_tail]; exact List.getElem?_eq_getElem hi
      have q2 : B[j + 1]? = some B.tail[j] := by rw [← get_tail]; exact List.getElem?_eq_getElem hj
      have := ord_get sB HB.ord q1 q2 (by omega)
      rw [e] at this
      exact lx_irr this
    refine ⟨List.pairwise_reverse.mpr (nodA.imp fun h e => h e.symm), List.pairwise_reverse.mpr (nodB.imp fun h e => h e.symm), fun a ha b hb e => ?_⟩
    subst e
    obtain ⟨i, gi⟩ := List.mem_iff_getElem?.mp (List.mem_reverse.mp ha)
    obtain ⟨j, gj⟩ := List.mem_iff_getElem?.mp (List.mem_reverse.mp hb)
    rw [get_tail] at gi gj
    have hi := (List.getElem?_eq_some_iff.mp gi).1
    have hj := (List.getElem?_eq_some_iff.mp gj).1
    have aA : lx 1 a tA := ord_get sA HA.ord A0 gi (by omega)
    have aB : lx (-1) a tB := ord_get sB HB.ord B0 gj (by omega)
    have hi2 : i + 2 < A.length := by
      by_cases c : i + 2 < A.length
      · exact c
      · exfalso
        rw [show i + 1 = A.length - 1 by omega, AL] at gi
        injection gi with gi
        rw [gi] at aB
        exact lx_irr aB
    have hj2 : j + 2 < B.length := by
      by_cases c : j + 2 < B.length
      · exact c
      · exfalso
        rw [show j + 1 = B.length - 1 by omega, BL] at gj
        injection gj with gj
        rw [gj] at aA
        exact lx_irr aA
    have gq := gA i (by omega)
    have gp := gA (i + 2) hi2
    have gu' := gB j (by omega)
    have gu := gB (j + 2) hj2
    have o1 := ord_get sA HA.ord gq gi (by omega)
    have o2 := ord_get sA HA.ord gi gp (by omega)
    have o3 := flip (ord_get sB HB.ord gu' gj (by omega))
    have o4 := flip (ord_get sB HB.ord gj gu (by omega))
    have t1 := tri_get TA gq gi gp
    have E1 := ch_get HA.left gq gi
    have E2 := ch_get HA.left gi gp
    have E3 := ch_get EB gu' gj
    have E4 := ch_get EB gj gu
    have x1 := E2 _ (mB j (by omega))
    have x2 := E1 _ (mB j (by omega))
    have x3 := E3 _ (mA i (by omega))
    generalize A[i] = q at *
    generalize A[i + 2] = p at *
    generalize B[j] = u' at *
    generalize B[j + 2] = u at *
    rw [tr_cw1] at t1
    have y1 : 0 ≤ cw a q u' a := by rw [show cw a q u' a = tr a u' q by unfold cw tr; grind]; exact x3
    have y2 := (wyL sA o2 o1 o3 (by grind) y1).2 (.inl t1)
    have y3 : cw p a u' a = - tr p a u' := by unfold cw tr; grind
    grind
  have hc : CL h := fun z hz => hS z (hsub z hz)
  have h0 : 0 < n := by omega
  refine ⟨conv_of hc len3 hnd hsub (fun i => ?_) (fun i => ?_), fun z hz => srt_mem.mp (by rw [hD]; exact hsub z hz), hnd⟩
  · have hi := Nat.mod_lt i h0
    rw [← at0_mod h i, at0_eq (show (i + 1) % h.length = (i % h.length + 1) % h.length by rw [Nat.mod_add_mod]), hlen, hat _ (by omega), hat _ (by omega)]
    have := WE (n - (i % n) - 1) (by omega)
    rw [show n - (i % n) - 1 + 1 = n - i % n by omega] at this
    rw [show n - (i % n + 1) = n - i % n - 1 by omega]
    exact this
  · have hi := Nat.mod_lt i h0
    rw [← at0_mod h i, at0_eq (show (i + 1) % h.length = (i % h.length + 1) % h.length by rw [Nat.mod_add_mod]), at0_eq (show (i + 2) % h.length = (i % h.length + 2) % h.length by rw [Nat.mod_add_mod]), hlen]
    generalize i % n = k at hi
    by_cases c : k + 2 ≤ n
    · rw [hat _ (by omega), hat _ (by omega), hat _ c]
      have := WT (n - k - 2) (by omega)
      rw [show n - k - 2 + 2 = n - k by omega, show n - k - 2 + 1 = n - (k + 1) by omega, show n - k - 2 = n - (k + 2) by omega] at this
      exact this
    · have e : k = n - 1 := by omega
      rw [hat _ (by omega), hat _ (by omega), at0_eq (show (k + 2) % h.length = 1 % h.length by rw [hlen, e, show n - 1 + 2 = 1 + n by omega, Nat.add_mod_right]), hat 1 (by omega)]
      rw [show n - k = 1 by omega, show n - (k + 1) = 0 by omega]
      exact WJ
end Rc
namespace Rc
open Kzq1 (Q P turn at0 sides cross clip onLine unlike straightened formed begunWith meet)
open Kzq2 (Part)
/-! ### put in order, as the program does -/
def atF (a : P) (f : List P) : Nat := (f.filter fun b => Kzq1.before b a).length
def putF (f : List P) (a : P) : List P := if a ∈ f then f else f.take (atF a f) ++ a :: f.drop (atF a f)
theorem putF_is {a : P} (ha : Cp a) : ∀ {f : List P}, CL f → Or 1 f → putF f a = Kzq1.insert a f
  | [], _, _ => rfl
  | b :: f, hc, h => by
    have hb := hc b (by simp)
    have ih := putF_is ha (f := f) (fun z hz => hc z (List.mem_cons_of_mem _ hz)) h.2
    show _ = (if Kzq1.before a b then a :: b :: f else if a = b then b :: f else b :: Kzq1.insert a f)
    by_cases c : Kzq1.before a b = true
    · have k := (before_lx ha hb).mp c
      rw [if_pos c]
      have nm : a ∉ b :: f := fun q => by
        rcases List.mem_cons.mp q with e | e
        · rw [e] at k; exact lx_irr k
        · exact lx_irr (lx_trans (.inl rfl) k (h.1 a e))
      have at0' : atF a (b :: f) = 0 := by
        unfold atF
        rw [List.length_eq_zero_iff, List.filter_eq_nil_iff]
        intro z hz q
        have q' := (before_lx (hc z hz) ha).mp q
        rcases List.mem_cons.mp hz with e | e
        · rw [e] at q'; exact lx_irr (lx_trans (.inl rfl) k q')
        · exact lx_irr (lx_trans (.inl rfl) k (lx_trans (.inl rfl) (h.1 z e) q'))
      unfold putF
      rw [if_neg nm, at0']
      rfl
    · rw [if_neg c]
      by_cases e : a = b
      · rw [if_pos e]
        unfold putF
        rw [if_pos (by rw [e]; simp)]
      · rw [if_neg e, ← ih]
        have kb : Kzq1.before b a = true := (before_lx hb ha).mpr (lx_tot ha hb (fun q => c ((before_lx ha hb).mpr q)) e)
        have af : atF a (b :: f) = atF a f + 1 := by
          unfold atF
          rw [List.filter_cons, if_pos kb]
          rfl
        unfold putF
        by_cases m : a ∈ f
        · rw [if_pos m, if_pos (List.mem_cons_of_mem _ m)]
        · rw [if_neg m, if_neg (by intro q; rcases List.mem_cons.mp q with w | w; exact e w; exact m w), af]
          rfl
theorem foldl_ins : ∀ (l f : List P), CL l → CL f → Or 1 f → Or 1 (l.foldl putF f) ∧ CL (l.foldl putF f) ∧ ∀ z, z ∈ l.foldl putF f ↔ z ∈ l ∨ z ∈ f
  | [], f, _, hf, ho => ⟨ho, hf, fun z => by simp⟩
  | a :: l, f, hl, hf, ho => by
    have ha := hl a (by simp)
    have e := putF_is ha hf ho
    have hf2 : CL (Kzq1.insert a f) := fun z hz => by
      rcases insert_mem.mp hz with w | w
      · rw [w]; exact ha
      · exact hf z w
    obtain ⟨h1, h2, h3⟩ := foldl_ins l (Kzq1.insert a f) (fun z hz => hl z (List.mem_cons_of_mem _ hz)) hf2 (insert_or ha hf ho)
    rw [List.foldl_cons, e]
    refine ⟨h1, h2, fun z => ?_⟩
    rw [h3, insert_mem, List.mem_cons]
    constructor
    · rintro (h | h | h); exact .inl (.inr h); exact .inl (.inl h); exact .inr h
    · rintro ((h | h) | h); exact .inr (.inl h); exact .inl h; exact .inr (.inr h)
def ordF (l : List P) : List P := l.foldl putF []
theorem ordF_is {l : List P} (hl : CL l) : ordF l = srt l := by
  obtain ⟨h1, _, h3⟩ := foldl_ins l [] hl (fun z hz => (by cases hz)) trivial
  exact or_uniq h1 (srt_or hl) fun z => by
    show z ∈ l.foldl putF [] ↔ _
    rw [h3, srt_mem]; simp
theorem foldl_put_len : ∀ (l f : List P), (l.foldl putF f).length ≤ l.length + f.length
  | [], f => by simp
  | a :: l, f => by
    have := foldl_put_len l (putF f a)
    have h : (putF f a).length ≤ f.length + 1 := by
      unfold putF
      split
      · omega
      · rw [List.length_append, List.length_cons, List.length_take, List.length_drop]
        omega
    rw [List.foldl_cons, List.length_cons]
    omega
/-! ### a piece begun elsewhere -/
theorem at0_drop (l : List P) (k i : Nat) (hk : k < l.length) : at0 (l.drop k ++ l.take k) i = at0 l (k + i) := by
  have h0 : 0 < l.length := by omega
  have hl : (l.drop k ++ l.take k).length = l.length := by rw [List.length_append, List.length_drop, List.length_take]; omega
  rw [← at0_mod (l.drop k ++ l.take k) i, hl, at0_eq (show (k + i) % l.length = (k + i % l.length) % l.length by rw [Nat.add_mod_mod])]
  have hi := Nat.mod_lt i h0
  generalize i % l.length = j at hi
  by_cases c : k + j < l.length
  · have g : l[k + j]? = some l[k + j] := List.getElem?_eq_getElem c
    rw [at0_of (l := l) g]
    exact at0_of (by rw [List.getElem?_append_left (by rw [List.length_drop]; omega), List.getElem?_drop]; exact g)
  · have g : l[k + j - l.length]? = some l[k + j - l.length] := List.getElem?_eq_getElem (by omega)
    rw [at0_eq (show (k + j) % l.length = (k + j - l.length) % l.length by rw [Nat.mod_eq_sub_mod (by omega)]), at0_of (l := l) g]
    exact at0_of (by
      rw [List.getElem?_append_right (by rw [List.length_drop]; omega), List.length_drop, List.getElem?_take, if_pos (by omega), show j - (l.length - k) = k + j - l.length by omega]
      exact g)
theorem conv_begun {l : List P} (h : Kzq1.convex l = true) : Kzq1.convex (begunWith l) = true := by
  have h3 := conv_len h
  have h0 : 0 < l.length := by omega
  have hb := bestI_lt l h0 l.length (Nat.le_refl _)
  rw [begun_is]
  generalize bestI l l.length = k at hb
  have hl : (l.drop k ++ l.take k).length = l.length := by rw [List.length_append, List.length_drop, List.length_take]; omega
  unfold Kzq1.convex
  rw [Bool.and_eq_true, hl]
  refine ⟨decide_eq_true h3, ?_⟩
  rw [List.all_eq_true]
  intro i hi
  rw [List.all_eq_true]
  intro j hj
  rw [List.mem_range] at hi hj
  rw [at0_drop _ _ _ hb, at0_drop _ _ _ hb, at0_drop _ _ _ hb]
  by_cases e1 : j = i
  · rw [e1]; simp
  · by_cases e2 : j = (i + 1) % l.length
    · rw [e2]; simp
    · have m1 : (k + j) % l.length ≠ (k + i) % l.length := mod_ne hj hi e1
      have m2 : (k + j) % l.length ≠ (k + i + 1) % l.length := by
        have := mod_ne (i := k) hj (Nat.mod_lt (i + 1) h0) e2
        rw [Nat.add_mod_mod] at this
        exact this
      have := conv_pos h m1 m2
      rw [show k + (i + 1) = k + i + 1 by omega, this, Bool.or_true]
theorem Cv.begun {l : List P} (h : Cv l) : Cv (begunWith l) := ⟨fun z hz => h.c z (begun_mem hz), conv_begun h.v⟩
theorem cv_not_onl {l : List P} (h : Cv l) : ¬ OnL l := fun k => by
  have h3 := conv_len h.v
  have := h.tr (i := 0) (r := 2) (Nat.le_refl _) (by omega)
  have m (i : Nat) : at0 l i ∈ l := at0_mem (by omega)
  rw [k.tr (m _) (m _) (m _)] at this
  exact absurd this Rat.lt_irrefl
theorem nodup_len : ∀ {l m : List P}, l.Nodup → (∀ z ∈ l, z ∈ m) → l.length ≤ m.length
  | [], m, _, _ => Nat.zero_le _
  | a :: l, m, hn, h => by
    rw [List.nodup_cons] at hn
    have ha := h a (by simp)
    have ih := nodup_len (m := m.erase a) hn.2 fun z hz => (List.mem_erase_of_ne (fun (e : z = a) => hn.1 (by rw [← e]; exact hz))).mpr (h z (List.mem_cons_of_mem _ hz))
    rw [List.length_erase_of_mem ha] at ih
    have : 0 < m.length := List.length_pos_of_mem ha
    rw [List.length_cons]
    omega
/-! ### two pieces as one -/
def oneF (p q : List P) : Option (List P) := if (inB p q).isSome then none else
  if Kzq1.size (Kzq1.hull (p ++ q)) = Kzq1.add (Kzq1.size p) (Kzq1.size q) then some (begunWith (Kzq1.hull (p ++ q))) else none
theorem cv_hull {p q : List P} (hp : Cv p) (hq : Cv q) : Cv (Kzq1.hull (p ++ q)) ∧ (∀ z ∈ Kzq1.hull (p ++ q), z ∈ p ++ q) ∧ (Kzq1.hull (p ++ q)).Nodup := by
  have hc : CL (p ++ q) := fun z hz => (List.mem_append.mp hz).elim (hp.c z) (hq.c z)
  obtain ⟨h1, h2, h3⟩ := hull_conv hc (fun k => cv_not_onl hp (k.sub fun z hz => List.mem_append_left _ hz))
  exact ⟨⟨fun z hz => hc z (h2 z hz), h1⟩, h2, h3⟩
theorem joined_is {p q : List P} (hp : Cv p) (hq : Cv q) : Kzq1.joined p q = oneF p q := by
  obtain ⟨h1, h2, h3⟩ := cv_hull hp hq
  have n := inB_none hp hq
  unfold Kzq1.joined oneF
  show (if meet p q = [] ∧ Kzq1.size (Kzq1.hull (p ++ q)) = Kzq1.add (Kzq1.size p) (Kzq1.size q) ∧ Kzq1.convex (Kzq1.hull (p ++ q)) = true then some (formed (Kzq1.hull (p ++ q))) else none) = _
  cases hb : inB p q with
  | some r =>
    have : ¬ meet p q = [] := fun e => by rw [n.mpr e] at hb; cases hb
    rw [if_neg fun k => this k.1]
    rfl
  | none =>
    have := n.mp hb
    by_cases e : Kzq1.size (Kzq1.hull (p ++ q)) = Kzq1.add (Kzq1.size p) (Kzq1.size q)
    · rw [if_pos ⟨this, e, h1.v⟩, conv_formed h1.v]
      exact (if_pos e).symm
    · rw [if_neg fun k => e k.2.1]
      exact (if_neg e).symm
theorem oneF_cv {p q r : List P} (hp : Cv p) (hq : Cv q) (h : oneF p q = some r) : Cv r ∧ r.length ≤ p.length + q.length ∧ ∀ z ∈ r, z ∈ p ++ q := by
  obtain ⟨h1, h2, h3⟩ := cv_hull hp hq
  unfold oneF at h
  split at h
  · cases h
  · split at h
    · injection h with h
      rw [← h]
      refine ⟨h1.begun, ?_, fun z hz => h2 z (begun_mem hz)⟩
      rw [begun_len, ← List.length_append]
      exact nodup_len h3 h2
    · cases h
/-! ### the first two that can be joined -/
def pairAt (c : List Part) (i j : Nat) : Option (List P) := match c[i]?, c[j]? with
  | some a, some b => if a.m = b.m then Kzq1.joined a.l b.l else none
  | _, _ => none
theorem joinable_is (c : List Part) : Kzq3.joinable c = ((List.range c.length).flatMap fun i => (List.range c.length).map fun j => (i, j)).findSome? fun y => if y.1 < y.2 then (pairAt c y.1 y.2).map fun r => (y.1, y.2, r) else none := by
  unfold Kzq3.joinable
  congr 1
  funext y
  by_cases h : y.1 < y.2
  · rw [if_pos h, if_pos h]
    unfold pairAt
    cases c[y.1]? with
    | none => rfl
    | some a =>
      cases c[y.2]? with
      | none => rfl
      | some b =>
        by_cases e : a.m = b.m
        · simp only [if_pos e]
        · simp only [if_neg e]; rfl
  · rw [if_neg h, if_neg h]
theorem joinable_none {c : List Part} (h : ∀ i j, i < j → j < c.length → pairAt c i j = none) : Kzq3.joinable c = none := by
  rw [joinable_is, List.findSome?_eq_none_iff]
  intro y hy
  obtain ⟨i, hi, hy⟩ := List.mem_flatMap.mp hy
  obtain ⟨j, hj, e⟩ := List.mem_map.mp hy
  rw [List.mem_range] at hi hj
  subst e
  by_cases k : i < j
  · rw [if_pos k, h i j k hj]; rfl
  · rw [if_neg k]
theorem findSome_fl {α β : Type} (f : α → Option β) {l1 l2 : List α} (h : ∀ x ∈ l1, f x = none) : (l1 ++ l2).findSome? f = l2.findSome? f := by
  rw [List.findSome?_append, List.findSome?_eq_none_iff.mpr h]
  rfl
theorem range_cut (n i : Nat) (h : i < n) : List.range n = List.range i ++ i :: (List.range (n - i - 1)).map (i + 1 + ·) := by
  rw [show n = i + 1 + (n - i - 1) by omega, List.range_add, List.range_succ, List.append_assoc]
  simp [show i + 1 + (n - i - 1) - i - 1 = n - i - 1 by omega]
theorem joinable_some {c : List Part} {i j : Nat} {r : List P} (hij : i < j) (hj : j < c.length) (h : pairAt c i j = some r) (h1 : ∀ i' j', i' < i → i' < j' → j' < c.length → pairAt c i' j' = none) (h2 : ∀ j', i < j' → j' < j → pairAt c i j' = none) :
    Kzq3.joinable c = some (i, j, r) := by
  rw [joinable_is, range_cut c.length i (by omega), List.flatMap_append, List.flatMap_cons]
  rw [findSome_fl]
  · rw [← range_cut c.length i (by omega), range_cut c.length j hj, List.map_append, List.map_cons, List.append_assoc, findSome_fl]
    · rw [List.cons_append, List.findSome?_cons, if_pos hij, h]
      rfl
    · intro y hy
      obtain ⟨j', hj', e⟩ := List.mem_map.mp hy
      rw [List.mem_range] at hj'
      subst e
      by_cases k : i < j'
      · show (if i < j' then _ else _) = none
        rw [if_pos k, h2 j' k hj']; rfl
      · show (if i < j' then _ else _) = none
        rw [if_neg k]
  · intro y hy
    obtain ⟨i', hi', hy⟩ := List.mem_flatMap.mp hy
    rw [← range_cut c.length i (by omega)] at hy
    obtain ⟨j', hj', e⟩ := List.mem_map.mp hy
    rw [List.mem_range] at hi' hj'
    subst e
    by_cases k : i' < j'
    · show (if i' < j' then _ else _) = none
      rw [if_pos k, h1 i' j' hi' k hj']; rfl
    · show (if i' < j' then _ else _) = none
      rw [if_neg k]
/-- the list with the two joined, as the program writes it -/
def cutIn (c : List Part) (i j : Nat) (x : Part) : List Part := c.take i ++ [x] ++ (c.drop (i + 1)).take (j - (i + 1)) ++ c.drop (j + 1)
theorem cutIn_is {c : List Part} {i j : Nat} (x : Part) (hij : i < j) (hj : j < c.length) : (c.set i x).eraseIdx j = cutIn c i j x := by
  rw [List.eraseIdx_eq_take_drop_succ]
  unfold cutIn
  have e1 : (c.set i x).take j = c.take i ++ [x] ++ (c.drop (i + 1)).take (j - (i + 1)) := by
    rw [List.set_eq_take_append_cons_drop, if_pos (by omega), List.take_append, List.length_take, Nat.min_eq_left (by omega), List.take_of_length_le (by rw [List.length_take]; omega)]
    rw [show j - i = (j - (i + 1)) + 1 by omega, List.take_succ_cons]
    simp
  have e2 : (c.set i x).drop (j + 1) = c.drop (j + 1) := by
    rw [List.drop_set, if_pos (by omega)]
  rw [e1, e2]
end Rc
namespace Rc
open PySem PySem.Spec PyProof.Rows L2 Evl
/-! ### four arguments -/
def p4 {α β γ δ ε : Type} (C : α → β → γ → δ → Prop) (ra : α → Rp) (rb : β → Rp) (rc : γ → Rp) (rd : δ → Rp) (re : ε → Rp) (f : α → β → γ → δ → ε) : List Rp → Rp → Prop := fun rs r => ∃ a b c d, C a b c d ∧ rs = [ra a, rb b, rc c, rd d] ∧ r = re (f a b c d)
theorem er_c4 {ρ : List Sl} {ta tb tc td : TE} {E : XK} {α β γ δ ε : Type} {C : α → β → γ → δ → Prop} {ra : α → Rp} {rb : β → Rp} {rc : γ → Rp} {rd : δ → Rp} {re : ε → Rp} {f : α → β → γ → δ → ε} {a : α} {b : β} {c : γ} {d : δ}
    (h : ER ta ρ (ra a)) (k : ER tb ρ (rb b)) (l : ER tc ρ (rc c)) (m : ER td ρ (rd d)) (hc : C a b c d) :
    ER (tCall (Pm (p4 C ra rb rc rd re f)) [] E (tCons ta (tCons tb (tCons tc (tCons td tNil))))) ρ (re (f a b c d)) := er_call (ar_cons h (ar_cons k (ar_cons l (ar_cons m ar_nil)))) ⟨a, b, c, d, hc, rfl, rfl⟩
theorem q4_len {α β γ δ ε : Type} {C : α → β → γ → δ → Prop} {ra : α → Rp} {rb : β → Rp} {rc : γ → Rp} {rd : δ → Rp} {re : ε → Rp} {f : α → β → γ → δ → ε} {rs : List Rp} {r : Rp} (h : p4 C ra rb rc rd re f rs r) : rs.length = 4 := by
  obtain ⟨a, b, c, d, _, rfl, _⟩ := h
  rfl
/-! ### fractions by fractions -/
theorem Bq.neg_nd {a b : Kzq1.Q} (ha : Bq a) (hb : Bq b) : IntMulOk (-a.n) (b.d : Int) := mul_lim (by rw [Int.natAbs_neg]; exact ha.n) (by simpa using hb.d)
theorem Bq.neg_dn {a b : Kzq1.Q} (ha : Bq a) (hb : Bq b) : IntMulOk (-(a.d : Int)) b.n := mul_lim (by rw [Int.natAbs_neg]; simpa using ha.d) hb.n
theorem div_pos_is {a b : Kzq1.Q} (ha : 0 < a.d) (hb : 0 < b.d) (h : 0 < b.n) : Kzq1.mk (a.n * (b.d : Int)) ((a.d : Int) * b.n).toNat = Kzq1.div a b := by
  have e : ((a.d : Int) * b.n).toNat = a.d * b.n.toNat := by
    obtain ⟨k, hk⟩ : ∃ k : Nat, b.n = (k : Int) := ⟨b.n.toNat, by omega⟩
    rw [hk, ← Int.natCast_mul, Int.toNat_natCast, Int.toNat_natCast]
  have hp : 0 < a.d * b.n.toNat := Nat.mul_pos ha (by omega)
  have hq : 0 < b.n.natAbs := by omega
  have hb0 := castd0 hb
  have ha0 := castd0 ha
  refine can_eq (can_mk (by rw [e]; exact hp)) (can_div ha hb (by omega)) ?_
  rw [vq_div ha hb (by omega), vq_mk (by rw [e]; exact hp), e]
  unfold vq
  have c1 : ((b.n.toNat : Nat) : Rat) = (b.n : Rat) := by
    rw [← Rat.intCast_natCast, Rat.intCast_inj]
    omega
  have n0 : (b.n : Rat) ≠ 0 := by
    intro q
    rw [show (0 : Rat) = ((0 : Int) : Rat) from rfl, Rat.intCast_inj] at q
    omega
  rw [Rat.intCast_mul, Rat.natCast_mul, c1, Rat.intCast_natCast]
  grind
theorem div_neg_is {a b : Kzq1.Q} (ha : 0 < a.d) (hb : 0 < b.d) (h : b.n < 0) : Kzq1.mk (-a.n * (b.d : Int)) (-(a.d : Int) * b.n).toNat = Kzq1.div a b := by
  have e : (-(a.d : Int) * b.n).toNat = a.d * (-b.n).toNat := by
    obtain ⟨k, hk⟩ : ∃ k : Nat, -b.n = (k : Int) := ⟨(-b.n).toNat, by omega⟩
    rw [Int.neg_mul, ← Int.mul_neg, hk, ← Int.natCast_mul, Int.toNat_natCast, Int.toNat_natCast]
  have hp : 0 < a.d * (-b.n).toNat := Nat.mul_pos ha (by omega)
  have hb0 := castd0 hb
  have ha0 := castd0 ha
  refine can_eq (can_mk (by rw [e]; exact hp)) (can_div ha hb (by omega)) ?_
  rw [vq_div ha hb (by omega), vq_mk (by rw [e]; exact hp), e]
  unfold vq
  have c1 : (((-b.n).toNat : Nat) : Rat) = -(b.n : Rat) := by
    rw [← Rat.intCast_natCast, ← Rat.intCast_neg, Rat.intCast_inj]
    omega
  have n0 : (b.n : Rat) ≠ 0 := by
    intro q
    rw [show (0 : Rat) = ((0 : Int) : Rat) from rfl, Rat.intCast_inj] at q
    omega
  rw [Rat.intCast_mul, Rat.natCast_mul, c1, Rat.intCast_natCast, Rat.intCast_neg]
  grind
/-! ### points compared -/
section
variable {K : PySem.W.Frag} {ρ : List Sl} {ta tb : TE}
def dP (z : Kzq1.P) : PyData := .tuple [dQ z.x, dQ z.y]
theorem rd_p (z : Kzq1.P) : Rd2 K (pR K z) (dP z) := .tup rfl fun i r d a b => by
  match i with
  | 0 => cases a; cases b; exact rd_q _
  | 1 => cases a; cases b; exact rd_q _
  | i + 2 => cases a
theorem eqv_p (a b : Kzq1.P) : PyData.eqv (dP a) (dP b) = (a == b) := by
  have h : PyData.eqv (dP a) (dP b) = (PyData.eqv (dQ a.x) (dQ b.x) && PyData.eqv (dQ a.y) (dQ b.y)) := by
    simp [dP, PyData.eqv, PyData.eqvAll]
  rw [h, eqv_q, eqv_q, Bool.eq_iff_iff, Bool.and_eq_true, beq_iff_eq, beq_iff_eq, beq_iff_eq]
  constructor
  · rintro ⟨x, y⟩
    obtain ⟨x1, y1⟩ := a
    obtain ⟨x2, y2⟩ := b
    have x : x1 = x2 := x
    have y : y1 = y2 := y
    rw [x, y]
  · rintro rfl
    exact ⟨rfl, rfl⟩
theorem er_neP {a b : Kzq1.P} (ha : ER ta ρ (pR K a)) (hb : ER tb ρ (pR K b)) : ER (tOp (rNeD K) ta tb) ρ (bR (!(a == b))) := er_b (er_op ha hb (br_neD (rd_p a) (rd_p b) rfl rfl)) (by rw [eqv_p])
theorem er_neQ {a b : Kzq1.Q} (ha : ER ta ρ (qR K a)) (hb : ER tb ρ (qR K b)) : ER (tOp (rNeD K) ta tb) ρ (bR (!(a == b))) := er_b (er_op ha hb (br_neD (rd_q a) (rd_q b) rfl rfl)) (by rw [eqv_q])
end
theorem gv_fm {α : Type} (r : α → Rp) (x : Nat → α) (c : Nat → Bool) (n : Nat) : gv n c (fun i => r (x i)) = (((List.range n).filterMap fun i => if c i then some (x i) else none)).map r := by
  induction n with
  | zero => rfl
  | succ n ih =>
    rw [List.range_succ, List.filterMap_append, List.map_append, ← ih]
    cases h : c n with
    | true => rw [gv_yes h]; simp [h]
    | false => rw [gv_no h]; simp [h]
theorem fm_succ {α : Type} (g : Nat → Option α) (i : Nat) : (List.range (i + 1)).filterMap g = (List.range i).filterMap g ++ (g i).toList := by
  rw [List.range_succ, List.filterMap_append]
  cases h : g i <;> simp [h]
theorem fl_succ {α : Type} (g : Nat → List α) (i : Nat) : (List.range (i + 1)).flatMap g = (List.range i).flatMap g ++ g i := by
  rw [List.range_succ, List.flatMap_append]
  simp
theorem isZero_zero {q : Kzq1.Q} (h : Can q) : (q == Kzq1.zero) = Kzq1.isZero q := by
  rw [Bool.eq_iff_iff, beq_iff_eq]
  unfold Kzq1.isZero
  rw [beq_iff_eq]
  constructor
  · intro e; rw [e]; rfl
  · intro e
    have g := h.2
    rw [e] at g
    obtain ⟨n, d⟩ := q
    have e : n = 0 := e
    have g : Nat.gcd (0 : Int).natAbs d = 1 := g
    have g : d = 1 := by simpa using g
    rw [e, g]
    rfl
theorem uq_is (l : List Kzq1.P) : uq l = (List.range l.length).filterMap fun i => if (!(Kzq1.at0 l i == Kzq1.at0 l (i + l.length - 1))) then some (Kzq1.at0 l i) else none := by
  unfold uq
  congr 1
  funext i
  by_cases c : Kzq1.at0 l i = Kzq1.at0 l (i + l.length - 1)
  · rw [if_pos c, if_neg]; simp [c]
  · rw [if_neg c, if_pos]; simpa using c
theorem uq_sub (l : List Kzq1.P) : List.Sublist (uq l) l := by
  have := fm_sub (f := fun i => if Kzq1.at0 l i = Kzq1.at0 l (i + l.length - 1) then none else some (Kzq1.at0 l i)) (g := Kzq1.at0 l) (fun i => by
    by_cases c : Kzq1.at0 l i = Kzq1.at0 l (i + l.length - 1)
    · left; exact if_pos c
    · right; exact if_neg c) (List.range l.length)
  rw [at0_list] at this
  exact this
/-! ### what a clip wants -/
structure ClP (s : Nat) (l : List Kzq1.P) (a b : Kzq1.P) : Prop where
  h : s ≤ 1000
  d : Sd s (a, b)
  g : Lg s l
  z : l.length ≤ 40000
theorem clip_range (s : Kzq1.P × Kzq1.P) (l : List Kzq1.P) : Kzq1.clip s l = (List.range l.length).flatMap fun i => blk s (Kzq1.at0 l i) (Kzq1.at0 l (i + 1)) := rfl
theorem mul_neg_is {x y : Int} : x * y < 0 ↔ (0 < x ∧ y < 0) ∨ (x < 0 ∧ 0 < y) := by
  constructor
  · intro h
    rcases Int.lt_trichotomy x 0 with c | c | c
    · right
      refine ⟨c, ?_⟩
      rcases Int.lt_trichotomy y 0 with d | d | d
      · have := Int.mul_pos_of_neg_of_neg c d; omega
      · rw [d, Int.mul_zero] at h; omega
      · exact d
    · rw [c, Int.zero_mul] at h; omega
    · left
      refine ⟨c, ?_⟩
      rcases Int.lt_trichotomy y 0 with d | d | d
      · exact d
      · rw [d, Int.mul_zero] at h; omega
      · have := Int.mul_pos c d; omega
  · rintro (⟨a, b⟩ | ⟨a, b⟩)
    · exact Int.mul_neg_of_pos_of_neg a b
    · exact Int.mul_neg_of_neg_of_pos a b
theorem cuts_mul (s : Kzq1.P × Kzq1.P) (a b : Kzq1.P) : decide ((Kzq1.turn s.1 s.2 a).n * (Kzq1.turn s.1 s.2 b).n < 0) = cuts s a b := by
  rw [Bool.eq_iff_iff, decide_eq_true_iff, mul_neg_is]
  unfold cuts
  rw [lt_zero, lt_zero, Bool.or_eq_true, Bool.and_eq_true, Bool.and_eq_true]
  unfold Kzq1.pos
  simp only [decide_eq_true_iff]
theorem foldl_pick {α : Type} (f : α → α → α) (h : ∀ a b, f a b = a ∨ f a b = b) : ∀ (l : List α) (m : α), l.foldl f m = m ∨ l.foldl f m ∈ l
  | [], m => .inl rfl
  | x :: l, m => by
    rw [List.foldl_cons]
    rcases foldl_pick f h l (f m x) with e | e
    · rcases h m x with k | k
      · left; rw [e, k]
      · right; rw [e, k]; simp
    · right; exact List.mem_cons_of_mem _ e
theorem least_mem {l : List Kzq1.Q} (h : l ≠ []) : leastQ l ∈ l := by
  match l, h with
  | x :: l, _ =>
    show l.foldl _ x ∈ x :: l
    rcases foldl_pick (fun m x => if Kzq1.lt x m = true then x else m) (fun a b => by by_cases c : Kzq1.lt b a = true; right; exact if_pos c; left; exact if_neg c) l x with e | e
    · rw [e]; simp
    · exact List.mem_cons_of_mem _ e
theorem great_mem {l : List Kzq1.Q} (h : l ≠ []) : greatQ l ∈ l := by
  match l, h with
  | x :: l, _ =>
    show l.foldl _ x ∈ x :: l
    rcases foldl_pick (fun m x => if Kzq1.lt m x = true then x else m) (fun a b => by by_cases c : Kzq1.lt a b = true; right; exact if_pos c; left; exact if_neg c) l x with e | e
    · rw [e]; simp
    · exact List.mem_cons_of_mem _ e
theorem box_bq {l : List Kzq1.P} (h : l ≠ []) (hb : BL LIM l) : Bq (leastQ (l.map (·.x))) ∧ Bq (greatQ (l.map (·.x))) ∧ Bq (leastQ (l.map (·.y))) ∧ Bq (greatQ (l.map (·.y))) := by
  have hx : l.map (·.x) ≠ [] := by simpa using h
  have hy : l.map (·.y) ≠ [] := by simpa using h
  have mx {q : Kzq1.Q} (hq : q ∈ l.map (·.x)) : Bq q := by
    obtain ⟨z, hz, rfl⟩ := List.mem_map.mp hq
    exact (hb z hz).x
  have my {q : Kzq1.Q} (hq : q ∈ l.map (·.y)) : Bq q := by
    obtain ⟨z, hz, rfl⟩ := List.mem_map.mp hq
    exact (hb z hz).y
  exact ⟨mx (least_mem hx), mx (great_mem hx), my (least_mem hy), my (great_mem hy)⟩
theorem flat_lenA {α β : Type} {f : α → List β} (xs : List α) (m : Nat) (h : ∀ x, (f x).length ≤ m) : (xs.flatMap f).length ≤ m * xs.length := by
  induction xs with
  | nil => exact Nat.zero_le _
  | cons x xs ih =>
    rw [List.flatMap_cons, List.length_append, List.length_cons, Nat.mul_succ]
    have := h x
    omega
/-! ### side by side -/
def clipTo (p : List Kzq1.P) (ss : List (Kzq1.P × Kzq1.P)) (i : Nat) : List Kzq1.P := (ss.take i).foldl (fun l s => Kzq1.clip s l) p
theorem clipTo_succ {p : List Kzq1.P} {ss : List (Kzq1.P × Kzq1.P)} {i : Nat} {s : Kzq1.P × Kzq1.P} (h : ss[i]? = some s) : clipTo p ss (i + 1) = Kzq1.clip s (clipTo p ss i) := foldl_take h
theorem goOn_cases : ∀ (ss : List (Kzq1.P × Kzq1.P)) (l : List Kzq1.P), (goOn ss l = some (clipTo l ss ss.length) ∧ ∀ i, i < ss.length → 3 ≤ (clipTo l ss (i + 1)).length) ∨
    (goOn ss l = none ∧ ∃ n, n < ss.length ∧ (clipTo l ss (n + 1)).length < 3 ∧ ∀ i, i < n → 3 ≤ (clipTo l ss (i + 1)).length)
  | [], l => .inl ⟨rfl, fun i hi => absurd hi (Nat.not_lt_zero i)⟩
  | s :: ss, l => by
    have e : goOn (s :: ss) l = if (Kzq1.clip s l).length < 3 then none else goOn ss (Kzq1.clip s l) := rfl
    by_cases c : (Kzq1.clip s l).length < 3
    · right
      rw [e, if_pos c]
      exact ⟨rfl, 0, Nat.succ_pos _, c, fun i hi => absurd hi (Nat.not_lt_zero i)⟩
    · rw [e, if_neg c]
      rcases goOn_cases ss (Kzq1.clip s l) with ⟨h1, h2⟩ | ⟨h1, n, hn, h2, h3⟩
      · left
        refine ⟨h1, fun i hi => ?_⟩
        cases i with
        | zero => show 3 ≤ (Kzq1.clip s l).length; omega
        | succ i => exact h2 i (Nat.lt_of_succ_lt_succ hi)
      · right
        refine ⟨h1, n + 1, Nat.succ_lt_succ hn, h2, fun i hi => ?_⟩
        cases i with
        | zero => show 3 ≤ (Kzq1.clip s l).length; omega
        | succ i => exact h3 i (Nat.lt_of_succ_lt_succ hi)
structure InOk (s : Nat) (p q : List Kzq1.P) : Prop where
  h : s ≤ 1000
  cp : Cv p
  cq : Cv q
  bp : BL s p
  bq : BL s q
  z : p.length + 3 * q.length ≤ 40000
theorem InOk.at {s : Nat} {p q : List Kzq1.P} (h : InOk s p q) : ∀ i, i ≤ (Kzq1.sides q).length → Lg s (clipTo p (Kzq1.sides q) i) ∧ (clipTo p (Kzq1.sides q) i).length ≤ p.length + 3 * i
  | 0, _ => ⟨h.cp.lg h.bp, Nat.le_refl _⟩
  | i + 1, hi => by
    obtain ⟨h1, h2⟩ := h.at i (by omega)
    have e : (Kzq1.sides q)[i]? = some (Kzq1.sides q)[i] := List.getElem?_eq_getElem (by omega)
    have sd := cv_sd h.cq h.bq _ (List.mem_of_getElem? e)
    rw [clipTo_succ e]
    have := clip_len sd.cs h1.c h1.n
    exact ⟨h1.clip sd, by omega⟩
theorem sides_len (l : List Kzq1.P) : (Kzq1.sides l).length = l.length := by unfold Kzq1.sides; simp

abbrev onLineP := Kzq1.onLine
end Rc
namespace Rc
open PySem PySem.Spec PyProof.Rows L2 Evl
section
variable {K : PySem.W.Frag} {ρ : List Sl} {ta tb te : TE} {r : Rp}
theorem Al.reverse {H : Hp} : ∀ {rs : List Rp} {vs : List V}, Al rs vs H → Al rs.reverse vs.reverse H
  | [], [], _ => trivial
  | r :: rs, v :: vs, h => by rw [List.reverse_cons, List.reverse_cons]; exact (Al.reverse h.2).snoc h.1
  | [], _ :: _, h => h.elim
  | _ :: _, [], h => h.elim
abbrev rIns : V → List V → Hp → VK → Prop := fun x vs H Q => ∃ (l : Addr) (xs : List V) (i : Int) (y : V), x = .ref l ∧ vs = [.int i, y] ∧ H l = some (.lst xs) ∧ xs.length < sizeLine ∧ 0 ≤ i ∧ i < 2 ^ 63 ∧
    Q .non (upd H l (.lst (xs.take i.toNat ++ [y] ++ xs.drop i.toNat)))
theorem s_ins {i k : Nat} {rs : List Rp} (hi : ρ[i]? = some (.l rs)) (hk : ER ta ρ (iR (k : Int))) (h : ER te ρ r) (hz : rs.length < 100000) (hk2 : k < 100000) :
    S (tDrop (tBM K "list" rIns (tVar i) (tCons ta (tCons te tNil)))) ρ (.nx (ρ.set i (.l (rs.take k ++ [r] ++ rs.drop k)))) := fun G0 H0 σ G H s n D w => by
  obtain ⟨p, _, e1, e2, ⟨vs, rfl, e3⟩, e4, e5⟩ := n.ow i (.l rs) hi
  refine ⟨.ref p, e1, Or.inl ⟨rfl, vs, SqL.of e2⟩, ?_⟩
  refine (ar_cons hk (ar_cons h ar_nil)) H0 σ G H s.h s.i n _ fun vs2 G2 H2 s2 pv => ?_
  obtain ⟨v1, v, rfl, pv1, pv2⟩ := al2 pv
  have pv1 : v1 = .int (k : Int) := pv1
  subst pv1
  have n2 := n.step s2
  obtain ⟨p', _, f1, f2, ⟨vs', rfl, f3⟩, f4, f5⟩ := n2.ow i (.l rs) hi
  rw [e1] at f1
  cases f1
  refine ⟨p, vs', (k : Int), v, rfl, rfl, f2, by rw [← f3.len]; exact sz_lt hz, by omega, by omega, ?_⟩
  rw [Int.toNat_natCast]
  exact w σ G2 _ s2.g ((s.trans s2).mut f5 f4) (n2.put hi e1 ⟨_, rfl, ((f3.take k).snoc pv2).app (f3.drop k)⟩)
theorem s_pop {i : Nat} {rs : List Rp} (hi : ρ[i]? = some (.l rs)) (h0 : rs ≠ []) :
    S (tDrop (tBM0 K "list" rPop (tVar i))) ρ (.nx (ρ.set i (.l rs.dropLast))) := fun G0 H0 σ G H s n D w => by
  obtain ⟨p, _, e1, e2, ⟨vs, rfl, e3⟩, e4, e5⟩ := n.ow i (.l rs) hi
  have hl : vs.length = rs.length := e3.len.symm
  have hp : 0 < rs.length := List.length_pos_iff.mpr h0
  refine ⟨.ref p, e1, Or.inl ⟨rfl, vs, SqL.of e2⟩, p, vs, vs[vs.length - 1]'(by omega), rfl, rfl, e2, List.getElem?_eq_getElem (by omega), ?_⟩
  have e : Al rs.dropLast vs.dropLast G := by
    rw [List.dropLast_eq_take, List.dropLast_eq_take, hl]
    exact e3.take _
  exact w σ G _ (Ex.refl G) (s.mut e5 e4) (n.put hi e1 ⟨_, rfl, e⟩)
theorem er_rev {rs : List Rp} (h : ER te ρ (sR K rs)) : ER (tRevL K te) ρ (lR rs.reverse) := fun H0 σ G H z e n Q q => h H0 σ G H z e n _ fun v G1 H1 s1 ⟨p, vs, e1, h1, h2⟩ =>
  ⟨p, vs, e1, ex_l s1.i h1, fun l hn => by
    have s := Step.new (o := .lst vs.reverse) s1.i hn
    exact q _ _ _ (s1.trans s) ⟨l, _, rfl, upd_same, h2.reverse.mono s.g⟩⟩
theorem dpAll_map {H : Hp} {α : Type} {ra : α → Rp} {d : α → PyData} (h : ∀ a, Rd2 K (ra a) (d a)) : ∀ {xs : List α} {vs : List V}, Al (xs.map ra) vs H → DpAll K H vs (xs.map d)
  | [], [], _ => .nil
  | x :: xs, v :: vs, p => .cons ((h x).dp p.1) (dpAll_map h p.2)
  | [], _ :: _, p => p.elim
  | _ :: _, [], p => p.elim
/-- z not in an own list of points -/
theorem er_ownNi {i : Nat} {l : List Kzq1.P} {z : Kzq1.P} (hi : ρ[i]? = some (.l (l.map (pR K)))) (h : ER te ρ (pR K z)) : ER (tOp (rNotInD K) te (tVar i)) ρ (bR (!decide (z ∈ l))) := fun H0 σ G H z' e n Q q => by
  refine h H0 σ G H z' e n _ fun v G1 H1 s1 pv => ?_
  have n1 := n.step s1
  obtain ⟨p, _, e1, e2, ⟨vs, rfl, e3⟩, e4, e5⟩ := n1.ow i _ hi
  refine ⟨.ref p, e1, dP z, l.map dP, ((rd_p z).dp ((pR K z).mono s1.i pv)), .lst (SqL.of e2) (dpAll_map rd_p (e3.mono s1.i)), rfl, ?_, ?_⟩
  · have h1 : ∀ l : List Kzq1.P, PyData.canLayAll0 (l.map dP) = true := fun l => by
      induction l with
      | nil => rfl
      | cons a l ih => show (PyData.canLay0 (dP a) && PyData.canLayAll0 (l.map dP)) = true; rw [ih]; rfl
    have h2 : ∀ l : List Kzq1.P, PyData.depthAll (l.map dP) ≤ 10 := fun l => by
      induction l with
      | nil => exact Nat.zero_le _
      | cons a l ih =>
        show max (PyData.depth (dP a)) (PyData.depthAll (l.map dP)) ≤ 10
        have : PyData.depth (dP a) ≤ 10 := by simp [dP, dQ, PyData.depth, PyData.depthAll]
        omega
    unfold SeqAt.shaped
    rw [Bool.and_eq_true]
    refine ⟨h1 l, decide_eq_true ?_⟩
    have := h2 l
    show PyData.depthAll (l.map dP) + 1 ≤ 64
    omega
  · have : ((l.map dP).any fun y => PyData.eqv y (dP z)) = decide (z ∈ l) := by
      rw [List.any_map, Bool.eq_iff_iff, List.any_eq_true, decide_eq_true_iff]
      constructor
      · rintro ⟨y, hy, he⟩
        have he : PyData.eqv (dP y) (dP z) = true := he
        rw [eqv_p, beq_iff_eq] at he
        rw [← he]
        exact hy
      · intro hz
        refine ⟨z, hz, ?_⟩
        show PyData.eqv (dP z) (dP z) = true
        rw [eqv_p, beq_iff_eq]
    rw [this]
    exact q _ G1 H1 s1 rfl
end
/-! ### an own list walked by a comprehension -/
section
variable {K : PySem.W.Frag} {ρ ρ' : List Sl} {ta tb te : TE} {wi : TI} {g : TG} {tt : TT} {vs : List Nat} {r : Rp}
structure WkO (J : It) (G1 H1 : Hp) (rs : List Rp) : Prop where
  go : ∀ (i : Nat) (G H : Hp), Ex G1 G → Ex G H → Ex H1 H → i < rs.length → J.go i H
  yl : ∀ (i : Nat) (G H : Hp) (x : V) (H2 : Hp), Ex G1 G → Ex G H → Ex H1 H → J.yld i H x H2 → ∀ r, rs[i]? = some r → ∃ G2, Step G H G2 H2 ∧ r.p x G2
  st : ∀ (G H : Hp), Ex G1 G → Ex G H → Ex H1 H → J.stop rs.length H
def IRO (wi : TI) (ρ : List Sl) (rs : List Rp) : Prop := ∀ (H0 : Hp) (σ : L2.St) (G H : Hp), Ex H0 H → Ex G H → En H0 ρ σ G H → ∀ R : It → Hp → Prop, (∀ J G1 H1, Step G H G1 H1 → WkO J G1 H1 rs → R J H1) → wi σ H R
theorem ir_own {i : Nat} {rs : List Rp} (hi : ρ[i]? = some (.l rs)) : IRO (iList K (tVar i)) ρ rs := fun H0 σ G H z e n R q => by
  obtain ⟨p, _, e1, e2, ⟨vs, rfl, e3⟩, e4, e5⟩ := n.ow i (.l rs) hi
  refine ⟨.ref p, e1, p, rfl, ⟨vs, SqL.of e2⟩, q _ G H (Step.refl e) ⟨fun i G' H' x1 x2 x3 hi => ?_, fun i G' H' x H2 x1 x2 x3 y r hr => ?_, fun G' H' x1 x2 x3 => ?_⟩⟩
  · have hv : i < vs.length := by rw [← e3.len]; exact hi
    exact ⟨vs, vs[i], SqL.of (x3 p _ e2), by simp [hv]⟩
  · obtain ⟨e6, y⟩ := y
    subst e6
    obtain ⟨v', e7, pv⟩ := e3.get hr
    have := y vs (SqL.of (x3 p _ e2))
    rw [e7] at this
    cases this
    exact ⟨G', Step.refl x2, r.mono x1 pv⟩
  · exact ⟨vs, SqL.of (x3 p _ e2), by rw [← e3.len]; exact Nat.le_refl _⟩
theorem er_lcO {wi : TI} {g : TG} {tt : TT} {vs : List Nat} {rs : List Rp} (hi : IRO wi ρ rs) (b : Nat → Bool) (f : Nat → Rp) (hz : rs.length ≤ 50000)
    (hs : ∀ (i : Nat) (r : Rp), rs[i]? = some r → ∃ is ρ', GR g is r (wipeS ρ vs) ρ' ∧ (∀ j ∈ is, j ∈ vs) ∧ TR tt ρ' (b i) ∧ (b i = true → ER te ρ' (f i))) :
    ER (tLc wi g tt te vs) ρ (lR (gv rs.length b f)) := fun H0 σ G H z e en Q q => hi H0 σ G H z e en _ fun J G1 H1 s1 wk D hD => by
  have hg1 : G1 D = none := fresh_back s1.i hD
  refine ⟨fun i m H' => m = rs.length - i ∧ i ≤ rs.length ∧ ∃ G' acc, Step G1 H1 G' H' ∧ G' D = none ∧ H' D = some (.lst acc) ∧ Al (gv i b f) acc G', ⟨rs.length - 0, rfl, Nat.zero_le _, G1, [], ?_, hg1, upd_same, trivial⟩, ?_⟩
  · exact ⟨Ex.refl _, Ex.new hD, s1.i.trans (Ex.new hD), fun _ _ h => h⟩
  rintro i m H2 ⟨rfl, hil, G2, acc, s2, hg2, hh2, al⟩
  by_cases hlt : i < rs.length
  · refine .inr ⟨wk.go i G2 H2 s2.g s2.i s2.h hlt, fun H' => ∃ G' acc, Step G1 H1 G' H' ∧ G' D = none ∧ H' D = some (.lst acc) ∧ Al (gv (i + 1) b f) acc G', fun H' p => ⟨rs.length - (i + 1), by omega, rfl, hlt, p⟩, fun x H3 y => ?_⟩
    have hri : rs[i]? = some rs[i] := by simp [hlt]
    obtain ⟨is, ρ', hg, his, ht, hb⟩ := hs i rs[i] hri
    obtain ⟨G3, s3, p3⟩ := wk.yl i G2 H2 x H3 s2.g s2.i s2.h y rs[i] hri
    have n3 : En H0 (wipeS ρ vs) (wipe σ vs) G3 H3 := (((en.step s1).step s2).step s3).wipe vs
    refine hg H0 (wipe σ vs) G3 H3 x s3.i n3 p3 _ fun σ4 n4 w4 => ⟨by rw [w4 vs his, wipe_wipe], ?_⟩
    have z3 : Ex H0 H3 := ((z.trans s1.h).trans s2.h).trans s3.h
    refine ht H0 σ4 G3 H3 z3 s3.i n4 _ fun G4 H4 s4 => ?_
    have hD3 : G3 D = none := s3.n D (by rw [hh2]; exact fun z => nomatch z) hg2
    have hh3 : H3 D = some (.lst acc) := s3.h D _ hh2
    have hD4 : G4 D = none := s4.n D (by rw [hh3]; exact fun z => nomatch z) hD3
    have hh4 : H4 D = some (.lst acc) := s4.h D _ hh3
    cases hbi : b i with
    | false =>
      rw [if_neg Bool.false_ne_true]
      exact ⟨G4, acc, (s2.trans s3).trans s4, hD4, hh4, by rw [gv_no hbi]; exact al.mono (s3.g.trans s4.g)⟩
    | true =>
      rw [if_pos rfl]
      refine hb hbi H0 σ4 G4 H4 (z3.trans s4.h) s4.i (n4.step s4) _ fun v G5 H5 s5 pv => ?_
      have hh5 : H5 D = some (.lst acc) := s5.h D _ hh4
      have hD5 : G5 D = none := s5.n D (by rw [hh4]; exact fun z => nomatch z) hD4
      have s15 : Step G1 H1 G5 H5 := ((s2.trans s3).trans s4).trans s5
      refine ⟨acc, hh5, by rw [← al.len]; exact sz_lt (by have := gv_len i b f; omega), G5, acc ++ [v], s15.mut hD hD5, hD5, upd_same, ?_⟩
      rw [gv_yes hbi]
      exact (al.mono ((s3.g.trans s4.g).trans s5.g)).snoc pv
  · have ei : i = rs.length := by omega
    subst ei
    refine .inl ⟨wk.st G2 H2 s2.g s2.i s2.h, ?_⟩
    have ex : Ex G2 (upd G2 D (.lst acc)) := Ex.new hg2
    have sf : Step G1 H1 (upd G2 D (.lst acc)) H2 := by
      refine ⟨s2.g.trans ex, s2.h, fun a o h => ?_, fun a h1 h2 => ?_⟩
      · by_cases c : a = D
        · subst c
          rw [upd_same] at h
          cases h
          exact hh2
        · rw [upd_ne c] at h
          exact s2.i a o h
      · have c : a ≠ D := fun q => h1 (by rw [q]; exact hD)
        rw [upd_ne c]
        exact s2.n a h1 h2
    exact q _ _ _ (s1.trans sf) ⟨D, acc, rfl, upd_same, al.mono ex⟩
theorem er_filtLO {α : Type} {xs : List α} {ra rc : α → Rp} (c : α → Bool) (hi : IRO wi ρ (xs.map ra)) (hz : xs.length ≤ 50000)
    (hs : ∀ (i : Nat) (x : α), xs[i]? = some x → ∃ is ρ', GR g is (ra x) (wipeS ρ vs) ρ' ∧ (∀ j ∈ is, j ∈ vs) ∧ TR tt ρ' (c x) ∧ (c x = true → ER te ρ' (rc x))) :
    ER (tLc wi g tt te vs) ρ (lR ((xs.filter c).map rc)) := by
  have h := er_lcO (te := te) (tt := tt) hi (fun i => match xs[i]? with | some x => c x | none => false) (fun i => match xs[i]? with | some x => rc x | none => nR) (by rw [List.length_map]; exact hz) fun i r hr => by
    obtain ⟨x, hx, rfl⟩ := get_map hr
    obtain ⟨is, ρ', a, b, d, e⟩ := hs i x hx
    refine ⟨is, ρ', a, b, ?_, ?_⟩
    · show TR tt ρ' (match xs[i]? with | some x => c x | none => false)
      rw [hx]
      exact d
    · show (match xs[i]? with | some x => c x | none => false) = true → ER te ρ' (match xs[i]? with | some x => rc x | none => nR)
      rw [hx]
      exact e
  refine er_eq h (congrArg lR ?_)
  rw [List.length_map]
  exact filter_range xs
end
section
variable {X : Cx} {K : PySem.W.Frag}
theorem opNiD (hu : X.A.units + 65 < cLine) (h : X.K = K) : OpR X (compareOp .NotIn) (rNotInD K) := h ▸ op_notInD hu
theorem peRev {e : Expr} {te : TE} {k : Nat} {p1 p2 p3 pos : Pos} (h : X.K = K) (he : PE X e te) : PE X (.Subscript e (.Slice none none (some (.UnaryOp .USub (.Constant (.int 1) k p1) p2)) p3) pos) (tRevL K te) := h ▸ pe_revL he
end
theorem units65 {k : Nat} {A : Around} (r : Room k A) : A.units + 65 < cLine := by have := r.un; omega
theorem len_filter {l : List Kzq1.P} (z : Kzq1.P) : atF z l ≤ l.length := List.length_filter_le _ _
/-! ### half round, point by point -/
def halfAt (l : List Kzq1.P) (i : Nat) : List Kzq1.P := (halfF (l.take i)).reverse
theorem halfF_succ {l : List Kzq1.P} {i : Nat} {z : Kzq1.P} (h : l[i]? = some z) : halfF (l.take (i + 1)) = z :: popF z (halfF (l.take i)) := by
  unfold halfF
  rw [foldl_take h]
theorem popF_len (a : Kzq1.P) : ∀ s : List Kzq1.P, (popF a s).length ≤ s.length
  | [] => Nat.le_refl _
  | [b] => Nat.le_refl _
  | b :: c :: r => by
    show (if Kzq1.pos (Kzq1.turn c b a) then b :: c :: r else popF a (c :: r)).length ≤ _
    split
    · exact Nat.le_refl _
    · have := popF_len a (c :: r)
      exact Nat.le_trans this (Nat.le_succ _)
theorem popF_sub (a : Kzq1.P) : ∀ s : List Kzq1.P, ∀ z ∈ popF a s, z ∈ s
  | [], z, h => h
  | [b], z, h => h
  | b :: c :: r, z, h => by
    have h : z ∈ (if Kzq1.pos (Kzq1.turn c b a) then b :: c :: r else popF a (c :: r)) := h
    split at h
    · exact h
    · exact List.mem_cons_of_mem _ (popF_sub a (c :: r) z h)
theorem halfF_sub : ∀ (l s : List Kzq1.P), ∀ z ∈ l.foldl (fun s a => a :: popF a s) s, z ∈ l ∨ z ∈ s
  | [], s, z, h => .inr h
  | a :: l, s, z, h => by
    rcases halfF_sub l _ z h with e | e
    · exact .inl (List.mem_cons_of_mem _ e)
    · rcases List.mem_cons.mp e with e | e
      · exact .inl (by rw [e]; simp)
      · exact .inr (popF_sub a s z e)
theorem halfF_len : ∀ (l s : List Kzq1.P), (l.foldl (fun s a => a :: popF a s) s).length ≤ l.length + s.length
  | [], s => by simp
  | a :: l, s => by
    have := halfF_len l (a :: popF a s)
    have h := popF_len a s
    rw [List.foldl_cons]
    simp only [List.length_cons] at this ⊢
    omega
theorem atI_m1 (b c : Kzq1.P) (r : List Kzq1.P) : atI (b :: c :: r).reverse (-1) = some b := by
  have e : ixN (b :: c :: r).reverse.length (-1) = some (r.length + 1) := by
    have hl : (b :: c :: r).reverse.length = r.length + 2 := by simp
    unfold ixN
    rw [hl, if_neg (by omega), if_pos (by omega)]
    congr 1
    omega
  unfold atI
  rw [e]
  simp
theorem atI_m2 (b c : Kzq1.P) (r : List Kzq1.P) : atI (b :: c :: r).reverse (-2) = some c := by
  have e : ixN (b :: c :: r).reverse.length (-2) = some r.length := by
    have hl : (b :: c :: r).reverse.length = r.length + 2 := by simp
    unfold ixN
    rw [hl, if_neg (by omega), if_pos (by omega)]
    congr 1
    omega
  unfold atI
  rw [e]
  simp
theorem cutA_m1 {α : Type} (xs : List α) : cutA xs none (some (-1)) = xs.dropLast := by
  unfold cutA
  rw [HT.sIx_none, List.drop_zero, Nat.sub_zero, List.dropLast_eq_take]
  congr 1
  unfold HT.sIx
  simp
  omega
section
variable {K : PySem.W.Frag} {ρ : List Sl} {ta : TE} {r : Rp}
abbrev tNotN (ta : TE) : TE := tOp (fun x y H Q => y = .non ∧ Q (.bl (!decide (x = .non))) H) ta (tC .non)
theorem er_notT (h : ER ta ρ r) (hn : NN r) : ER (tNotN ta) ρ (bR true) := er_op h er_c (fun a y G H e ha hy Q q => ⟨hy, by
  have : a ≠ .non := hn a G ha
  rw [decide_eq_false this]
  exact q _ G H (Step.refl e) rfl⟩)
theorem er_notF (h : ER ta ρ nR) : ER (tNotN ta) ρ (bR false) := er_op h er_c (fun a y G H e ha hy Q q => ⟨hy, by
  have : a = .non := ha
  rw [decide_eq_true this]
  exact q _ G H (Step.refl e) rfl⟩)
end
/-! ### two pieces as one: what is wanted -/
structure OnOk (p q : List Kzq1.P) : Prop where
  cp : Cv p
  cq : Cv q
  bp : BL 256 p
  bq : BL 256 q
  z : p.length + q.length ≤ 10000
theorem area_ok {p : List Kzq1.P} (h : BL 256 p) (hz : p.length ≤ 10000) : AreaOk p := ⟨by omega, 256, by decide, h, by omega⟩
theorem area_bq {p : List Kzq1.P} (h : BL 256 p) (hz : p.length ≤ 10000) : Bq (Kzq1.size p) := (half_fq.mul (area_sum h)).b (by omega)
end Rc
namespace Rc
/-! ### points of the plane, by rational numbers -/
structure Pt where
  x : Rat
  y : Rat
deriving DecidableEq
def det (a b c : Pt) : Rat := (b.x - a.x) * (c.y - a.y) - (b.y - a.y) * (c.x - a.x)
def lp (a b : Pt) (t : Rat) : Pt := ⟨a.x + t * (b.x - a.x), a.y + t * (b.y - a.y)⟩
def On (a b z : Pt) : Prop := ∃ t : Rat, 0 ≤ t ∧ t ≤ 1 ∧ z = lp a b t
theorem Pt.eq {a b : Pt} (h : a.x = b.x) (k : a.y = b.y) : a = b := by
  obtain ⟨x, y⟩ := a
  obtain ⟨x', y'⟩ := b
  have h : x = x' := h
  have k : y = y' := k
  rw [h, k]
theorem rd_pos {a b : Rat} (ha : 0 < a) (hb : 0 < b) : 0 < a / b := (Rat.lt_div_iff hb).mpr (by rw [Rat.zero_mul]; exact ha)
theorem rd_mul {a b : Rat} (hb : b ≠ 0) : a / b * b = a := by grind
theorem rd_nn {a b : Rat} (ha : 0 ≤ a) (hb : 0 < b) : 0 ≤ a / b := by
  by_cases c : a = 0
  · rw [c]; grind
  · exact Rat.le_of_lt (rd_pos (by grind) hb)
theorem rd_le1 {a b : Rat} (ha : a ≤ b) (hb : 0 < b) : a / b ≤ 1 := by
  have h : 0 ≤ (b - a) / b := rd_nn (by grind) hb
  have e : (b - a) / b = 1 - a / b := by grind
  grind
theorem pm {a b : Rat} (ha : 0 ≤ a) (hb : 0 ≤ b) : 0 ≤ a * b := Rat.mul_nonneg ha hb
theorem pp {a b : Rat} (ha : 0 < a) (hb : 0 < b) : 0 < a * b := Rat.mul_pos ha hb
/-- a straight way to measure -/
structure Ag where
  a : Rat
  b : Rat
  c : Rat
def Ag.at (f : Ag) (z : Pt) : Rat := f.a * z.x + f.b * z.y + f.c
theorem Ag.lp (f : Ag) (a b : Pt) (t : Rat) : f.at (lp a b t) = f.at a + t * (f.at b - f.at a) := by unfold Ag.at Rc.lp; grind
def gd (a b : Pt) : Ag := ⟨-(b.y - a.y), b.x - a.x, (b.y - a.y) * a.x - (b.x - a.x) * a.y⟩
theorem gd_at (a b z : Pt) : (gd a b).at z = det a b z := by unfold gd Ag.at det; grind
theorem det_lp (a b p q : Pt) (t : Rat) : det a b (lp p q t) = det a b p + t * (det a b q - det a b p) := by
  rw [← gd_at, ← gd_at, ← gd_at, Ag.lp]
theorem det_cyc (a b c : Pt) : det a b c = det b c a := by unfold det; grind
theorem det_sw (a b c : Pt) : det a b c = - det b a c := by unfold det; grind
theorem det_aab (a b : Pt) : det a a b = 0 := by unfold det; grind
theorem det_aba (a b : Pt) : det a b a = 0 := by unfold det; grind
theorem det_abb (a b : Pt) : det a b b = 0 := by unfold det; grind
theorem lp0 (a b : Pt) : lp a b 0 = a := Pt.eq (by unfold lp; grind) (by unfold lp; grind)
theorem lp1 (a b : Pt) : lp a b 1 = b := Pt.eq (by unfold lp; grind) (by unfold lp; grind)
theorem on_l (a b : Pt) : On a b a := ⟨0, by decide, by decide, (lp0 a b).symm⟩
theorem on_r (a b : Pt) : On a b b := ⟨1, by decide, by decide, (lp1 a b).symm⟩
theorem on_sw {a b z : Pt} (h : On a b z) : On b a z := by
  obtain ⟨t, h0, h1, rfl⟩ := h
  exact ⟨1 - t, by grind, by grind, Pt.eq (by unfold lp; grind) (by unfold lp; grind)⟩
theorem mid01 {s r t : Rat} (h0 : 0 ≤ s) (h1 : s ≤ 1) (k0 : 0 ≤ r) (k1 : r ≤ 1) (t0 : 0 ≤ t) (t1 : t ≤ 1) : 0 ≤ s + t * (r - s) ∧ s + t * (r - s) ≤ 1 := by
  have a1 := pm (show 0 ≤ 1 - t by grind) h0
  have a2 := pm t0 k0
  have a3 := pm (show 0 ≤ 1 - t by grind) (show 0 ≤ 1 - s by grind)
  have a4 := pm t0 (show 0 ≤ 1 - r by grind)
  constructor <;> grind
theorem on_cv {a b p q x : Pt} (hp : On a b p) (hq : On a b q) (h : On p q x) : On a b x := by
  obtain ⟨s, s0, s1, rfl⟩ := hp
  obtain ⟨r, r0, r1, rfl⟩ := hq
  obtain ⟨t, t0, t1, rfl⟩ := h
  have := mid01 s0 s1 r0 r1 t0 t1
  exact ⟨s + t * (r - s), this.1, this.2, Pt.eq (by unfold lp; grind) (by unfold lp; grind)⟩
/-- the measure at a point between -/
theorem on_nn {f : Ag} {a b z : Pt} (h : On a b z) (ha : 0 ≤ f.at a) (hb : 0 ≤ f.at b) : 0 ≤ f.at z := by
  obtain ⟨t, t0, t1, rfl⟩ := h
  rw [Ag.lp]
  have a1 := pm (show 0 ≤ 1 - t by grind) ha
  have a2 := pm t0 hb
  grind
theorem on_ps {f : Ag} {a b z : Pt} (h : On a b z) (ha : 0 < f.at a) (hb : 0 < f.at b) : 0 < f.at z := by
  obtain ⟨t, t0, t1, rfl⟩ := h
  rw [Ag.lp]
  by_cases c : t = 0
  · rw [c]; grind
  · have a1 := pm (show 0 ≤ 1 - t by grind) (Rat.le_of_lt ha)
    have a2 := pp (show 0 < t by grind) hb
    grind
theorem on_of {z w p : Pt} (h : z.x < w.x) (hd : det z w p = 0) (h1 : z.x ≤ p.x) (h2 : p.x ≤ w.x) : On z w p := by
  have d : 0 < w.x - z.x := by grind
  refine ⟨(p.x - z.x) / (w.x - z.x), rd_nn (by grind) d, rd_le1 (by grind) d, ?_⟩
  have e := rd_mul (a := p.x - z.x) (b := w.x - z.x) (by grind)
  generalize (p.x - z.x) / (w.x - z.x) = t at e
  refine Pt.eq (by unfold lp; grind) ?_
  unfold lp
  show p.y = z.y + t * (w.y - z.y)
  unfold det at hd
  have : (w.x - z.x) * (p.y - (z.y + t * (w.y - z.y))) = 0 := by grind
  rcases Rat.mul_eq_zero.mp this with q | q
  · grind
  · grind
/-! ### how often the ray upward comes over the ways -/
def chi (a b z : Pt) : Int := if a.x ≤ z.x ∧ z.x < b.x ∧ det a b z < 0 then -1 else if b.x ≤ z.x ∧ z.x < a.x ∧ 0 < det a b z then 1 else 0
theorem chi_sw (a b z : Pt) : chi b a z = - chi a b z := by
  unfold chi
  have e := det_sw a b z
  by_cases c1 : a.x ≤ z.x ∧ z.x < b.x ∧ det a b z < 0
  · rw [if_pos c1, if_neg (by grind), if_pos (by grind)]; rfl
  · by_cases c2 : b.x ≤ z.x ∧ z.x < a.x ∧ 0 < det a b z
    · rw [if_neg c1, if_pos c2, if_pos (by grind)]
    · rw [if_neg c1, if_neg c2, if_neg (by grind), if_neg (by grind)]; rfl
def pot (z w p : Pt) : Int := if z.x < p.x ∧ p.x ≤ w.x ∧ 0 < det z w p then 1 else 0
/-- the ways ab and zw have no point in common -/
def Apart (a b z w : Pt) : Prop := ∀ p, On a b p → ¬ On z w p
theorem apart_sg {a b z w p q : Pt} (hn : Apart a b z w) (h : z.x < w.x) (hp : On a b p) (hq : On a b q) (p1 : z.x ≤ p.x) (p2 : p.x ≤ w.x) (q1 : z.x ≤ q.x) (q2 : q.x ≤ w.x) (hs : 0 < det z w p) : 0 < det z w q := by
  by_cases c : 0 < det z w q
  · exact c
  · exfalso
    have d : 0 < det z w p - det z w q := by grind
    have t0 := rd_nn (a := det z w p) (Rat.le_of_lt hs) d
    have t1 := rd_le1 (a := det z w p) (b := det z w p - det z w q) (by grind) d
    have e := rd_mul (a := det z w p) (b := det z w p - det z w q) (by grind)
    generalize det z w p / (det z w p - det z w q) = t at t0 t1 e
    have hx : det z w (lp p q t) = 0 := by rw [det_lp]; grind
    have b1 := pm (show 0 ≤ 1 - t by grind) (show 0 ≤ p.x - z.x by grind)
    have b2 := pm t0 (show 0 ≤ q.x - z.x by grind)
    have b3 := pm (show 0 ≤ 1 - t by grind) (show 0 ≤ w.x - p.x by grind)
    have b4 := pm t0 (show 0 ≤ w.x - q.x by grind)
    exact hn (lp p q t) (on_cv hp hq ⟨t, t0, t1, rfl⟩) (on_of h hx (by unfold lp; grind) (by unfold lp; grind))
/-- the point of a way above x -/
theorem at_x {a b : Pt} {x : Rat} (h : a.x ≤ x) (k : x < b.x) : ∃ p, On a b p ∧ p.x = x ∧ ∀ z : Pt, z.x = x → det a b z = (b.x - a.x) * (z.y - p.y) := by
  have d : 0 < b.x - a.x := by grind
  refine ⟨lp a b ((x - a.x) / (b.x - a.x)), ⟨_, rd_nn (by grind) d, rd_le1 (by grind) d, rfl⟩, ?_, ?_⟩
  · have e := rd_mul (a := x - a.x) (b := b.x - a.x) (by grind)
    unfold lp
    grind
  · intro z hz
    have e := rd_mul (a := x - a.x) (b := b.x - a.x) (by grind)
    generalize (x - a.x) / (b.x - a.x) = t at e
    unfold lp det
    grind
theorem chi_step1 {a b z w : Pt} (hab : a.x ≤ b.x) (hz : z.x < w.x) (hn : Apart a b z w) : chi a b z - chi a b w = pot z w a - pot z w b := by
  have sz (p : Pt) (h : p.x = z.x) : det z w p = (w.x - z.x) * (p.y - z.y) := by unfold det; grind
  have sw (p : Pt) (h : p.x = w.x) : det z w p = (w.x - z.x) * (p.y - w.y) := by unfold det; grind
  have d : 0 < w.x - z.x := by grind
  have pos_iff (k y : Rat) (hk : 0 < k) : 0 < k * y ↔ 0 < y := by
    constructor
    · intro h
      by_cases c : 0 < y
      · exact c
      · have := pm (Rat.le_of_lt hk) (show 0 ≤ -y by grind); grind
    · exact pp hk
  have c2 (u : Pt) : ¬ (b.x ≤ u.x ∧ u.x < a.x ∧ 0 < det a b u) := by grind
  by_cases a1 : a.x ≤ z.x
  · by_cases b1 : b.x ≤ z.x
    · unfold chi pot
      rw [if_neg (by grind), if_neg (c2 z), if_neg (by grind), if_neg (c2 w), if_neg (by grind), if_neg (by grind)]
    · obtain ⟨p, hp, px, pz⟩ := at_x a1 (show z.x < b.x by grind)
      have dab : 0 < b.x - a.x := by grind
      have tz := pz z rfl
      have up : det a b z < 0 ↔ 0 < det z w p := by
        rw [tz, sz p px, pos_iff _ _ d]
        have := pos_iff (b.x - a.x) (p.y - z.y) dab
        grind
      by_cases b2 : b.x ≤ w.x
      · have key : 0 < det z w p ↔ 0 < det z w b := ⟨apart_sg hn hz hp (on_r a b) (by grind) (by grind) (by grind) b2, apart_sg hn hz (on_r a b) hp (by grind) b2 (by grind) (by grind)⟩
        unfold chi pot
        rw [if_neg (c2 z), if_neg (c2 w), if_neg (c := a.x ≤ w.x ∧ _) (by grind), if_neg (c := z.x < a.x ∧ _) (by grind)]
        by_cases c : det a b z < 0
        · rw [if_pos (by grind), if_pos (by grind)]; decide
        · rw [if_neg (by grind), if_neg (by grind)]
      · obtain ⟨q, hq, qx, qz⟩ := at_x (a := a) (b := b) (x := w.x) (by grind) (by grind)
        have tw := qz w rfl
        have uq : det a b w < 0 ↔ 0 < det z w q := by
          rw [tw, sw q qx, pos_iff _ _ d]
          have := pos_iff (b.x - a.x) (q.y - w.y) dab
          grind
        have key : 0 < det z w p ↔ 0 < det z w q := ⟨apart_sg hn hz hp hq (by grind) (by grind) (by grind) (by grind), apart_sg hn hz hq hp (by grind) (by grind) (by grind) (by grind)⟩
        unfold chi pot
        rw [if_neg (c2 z), if_neg (c2 w), if_neg (c := z.x < a.x ∧ _) (by grind), if_neg (c := z.x < b.x ∧ _) (by grind)]
        by_cases c : det a b z < 0
        · rw [if_pos (by grind), if_pos (by grind)]; decide
        · rw [if_neg (by grind), if_neg (by grind)]
  · by_cases a2 : a.x ≤ w.x
    · by_cases b2 : b.x ≤ w.x
      · have key : 0 < det z w a ↔ 0 < det z w b := ⟨apart_sg hn hz (on_l a b) (on_r a b) (by grind) (by grind) (by grind) b2, apart_sg hn hz (on_r a b) (on_l a b) (by grind) b2 (by grind) (by grind)⟩
        unfold chi pot
        rw [if_neg (c2 z), if_neg (c2 w), if_neg (c := a.x ≤ z.x ∧ _) (by grind), if_neg (c := a.x ≤ w.x ∧ _) (by grind)]
        by_cases c : 0 < det z w a
        · rw [if_pos (by grind), if_pos (by grind)]; decide
        · rw [if_neg (by grind), if_neg (by grind)]
      · obtain ⟨q, hq, qx, qz⟩ := at_x (a := a) (b := b) (x := w.x) (by grind) (by grind)
        have dab : 0 < b.x - a.x := by grind
        have tw := qz w rfl
        have uq : det a b w < 0 ↔ 0 < det z w q := by
          rw [tw, sw q qx, pos_iff _ _ d]
          have := pos_iff (b.x - a.x) (q.y - w.y) dab
          grind
        have key : 0 < det z w a ↔ 0 < det z w q := ⟨apart_sg hn hz (on_l a b) hq (by grind) (by grind) (by grind) (by grind), apart_sg hn hz hq (on_l a b) (by grind) (by grind) (by grind) (by grind)⟩
        unfold chi pot
        rw [if_neg (c2 z), if_neg (c2 w), if_neg (c := a.x ≤ z.x ∧ _) (by grind), if_neg (c := z.x < b.x ∧ _) (by grind)]
        by_cases c : det a b w < 0
        · rw [if_pos (by grind), if_pos (by grind)]; decide
        · rw [if_neg (by grind), if_neg (by grind)]
    · unfold chi pot
      rw [if_neg (by grind), if_neg (c2 z), if_neg (by grind), if_neg (c2 w), if_neg (by grind), if_neg (by grind)]
theorem apart_sw {a b z w : Pt} (h : Apart a b z w) : Apart b a z w := fun p hp => h p (on_sw hp)
theorem apart_sw2 {a b z w : Pt} (h : Apart a b z w) : Apart a b w z := fun p hp k => h p hp (on_sw k)
theorem chi_step2 {a b z w : Pt} (hz : z.x < w.x) (hn : Apart a b z w) : chi a b z - chi a b w = pot z w a - pot z w b := by
  by_cases c : a.x ≤ b.x
  · exact chi_step1 c hz hn
  · have := chi_step1 (a := b) (b := a) (by grind) hz (apart_sw hn)
    rw [chi_sw a b z, chi_sw a b w] at this
    omega
theorem chi_same {a b z w : Pt} (hz : z.x = w.x) (hn : Apart a b z w) : chi a b z = chi a b w := by
  have key : ∀ a b : Pt, Apart a b z w → a.x ≤ b.x → chi a b z = chi a b w := by
    intro a b hn hab
    have c2 (u : Pt) : ¬ (b.x ≤ u.x ∧ u.x < a.x ∧ 0 < det a b u) := by grind
    unfold chi
    rw [if_neg (c2 z), if_neg (c2 w)]
    by_cases h : a.x ≤ z.x ∧ z.x < b.x
    · obtain ⟨p, hp, px, pz⟩ := at_x h.1 h.2
      have t1 := pz z rfl
      have t2 := pz w hz.symm
      have d : 0 < b.x - a.x := by grind
      have nz := hn p hp
      have on (u v : Pt) (h1 : u.x = z.x) (h2 : v.x = z.x) (h3 : u.y < p.y) (h4 : p.y ≤ v.y) : On u v p := by
        have e := rd_mul (a := p.y - u.y) (b := v.y - u.y) (by grind)
        refine ⟨(p.y - u.y) / (v.y - u.y), rd_nn (by grind) (by grind), rd_le1 (by grind) (by grind), Pt.eq ?_ ?_⟩
        · unfold lp; grind
        · unfold lp; grind
      by_cases c : det a b z < 0
      · have zp : z.y < p.y := by
          by_cases q : z.y < p.y
          · exact q
          · have := pm (Rat.le_of_lt d) (show 0 ≤ z.y - p.y by grind); grind
        have wp : w.y < p.y := by
          by_cases q : w.y < p.y
          · exact q
          · exact absurd (on z w rfl hz.symm zp (by grind)) nz
        have := pp d (show 0 < p.y - w.y by grind)
        rw [if_pos ⟨h.1, h.2, c⟩, if_pos ⟨by grind, by grind, by grind⟩]
      · have zp : p.y ≤ z.y := by
          by_cases q : p.y ≤ z.y
          · exact q
          · have := pp d (show 0 < p.y - z.y by grind); grind
        have wp : p.y ≤ w.y := by
          by_cases q : p.y ≤ w.y
          · exact q
          · exact absurd (on_sw (on w z hz.symm rfl (by grind) zp)) nz
        have := pm (Rat.le_of_lt d) (show 0 ≤ w.y - p.y by grind)
        rw [if_neg (fun q => c q.2.2), if_neg (fun q => by have := q.2.2; grind)]
    · rw [if_neg (fun q => h ⟨q.1, q.2.1⟩), if_neg (fun q => h ⟨by have := q.1; grind, by have := q.2.1; grind⟩)]
  by_cases c : a.x ≤ b.x
  · exact key a b hn c
  · have := key b a (apart_sw hn) (by grind)
    rw [chi_sw a b z, chi_sw a b w] at this
    omega
end Rc
namespace Rc
/-! ### closed ways -/
def pth : List Pt → List (Pt × Pt)
  | a :: b :: r => (a, b) :: pth (b :: r)
  | _ => []
def cyc : List Pt → List (Pt × Pt)
  | [] => []
  | v :: X => pth (v :: X ++ [v])
def sm (f : Pt → Pt → Rat) : List (Pt × Pt) → Rat
  | [] => 0
  | e :: r => f e.1 e.2 + sm f r
theorem sm_app (f : Pt → Pt → Rat) : ∀ l m, sm f (l ++ m) = sm f l + sm f m
  | [], m => by show sm f m = 0 + sm f m; grind
  | e :: r, m => by show f e.1 e.2 + sm f (r ++ m) = f e.1 e.2 + sm f r + sm f m; rw [sm_app f r m]; grind
theorem pth_app : ∀ (xs : List Pt) (y : Pt) (ys : List Pt), pth (xs ++ y :: ys) = pth (xs ++ [y]) ++ pth (y :: ys)
  | [], y, ys => by cases ys <;> rfl
  | [a], y, ys => rfl
  | a :: b :: r, y, ys => by
    show (a, b) :: pth (b :: r ++ y :: ys) = (a, b) :: pth (b :: r ++ [y]) ++ _
    rw [pth_app (b :: r) y ys]; rfl
theorem pth_snoc (xs : List Pt) (a b : Pt) : pth (xs ++ [a] ++ [b]) = pth (xs ++ [a]) ++ [(a, b)] := by
  rw [List.append_assoc]
  exact pth_app xs a [b]
theorem pth_fst : ∀ (l : List Pt) (x : Pt), (pth (l ++ [x])).map (·.1) = l
  | [], x => rfl
  | [a], x => rfl
  | a :: b :: r, x => by
    show a :: (pth (b :: r ++ [x])).map (·.1) = _
    rw [pth_fst (b :: r) x]
theorem pth_snd : ∀ (l : List Pt) (x : Pt), (pth (x :: l)).map (·.2) = l
  | [], x => rfl
  | a :: r, x => by
    show a :: (pth (a :: r)).map (·.2) = _
    rw [pth_snd r a]
theorem cyc_fst : ∀ l : List Pt, (cyc l).map (·.1) = l
  | [] => rfl
  | v :: X => pth_fst (v :: X) v
theorem cyc_snd (v : Pt) (X : List Pt) : (cyc (v :: X)).map (·.2) = X ++ [v] := pth_snd (X ++ [v]) v
theorem pth_mem {l : List Pt} {e : Pt × Pt} (h : e ∈ pth l) : e.1 ∈ l ∧ e.2 ∈ l := by
  match l, h with
  | a :: b :: r, h =>
    rcases List.mem_cons.mp h with h | h
    · rw [h]; exact ⟨by simp, by simp⟩
    · have := pth_mem h
      exact ⟨List.mem_cons_of_mem _ this.1, List.mem_cons_of_mem _ this.2⟩
theorem cyc_mem {l : List Pt} {e : Pt × Pt} (h : e ∈ cyc l) : e.1 ∈ l ∧ e.2 ∈ l := by
  match l, h with
  | v :: X, h =>
    have := pth_mem h
    have k (z : Pt) (hz : z ∈ v :: X ++ [v]) : z ∈ v :: X := by
      rcases List.mem_append.mp hz with q | q
      · exact q
      · rw [List.mem_singleton.mp q]; simp
    exact ⟨k _ this.1, k _ this.2⟩
theorem inj_of {α β : Type} {g : α → β} : ∀ {l : List α}, (l.map g).Nodup → ∀ {x y : α}, x ∈ l → y ∈ l → g x = g y → x = y
  | [], _, x, y, h, _, _ => by cases h
  | a :: r, hn, x, y, hx, hy, e => by
    rw [List.map_cons, List.nodup_cons] at hn
    rcases List.mem_cons.mp hx with h1 | h1
    · rcases List.mem_cons.mp hy with h2 | h2
      · rw [h1, h2]
      · exact absurd (by rw [← h1, e]; exact List.mem_map_of_mem h2) hn.1
    · rcases List.mem_cons.mp hy with h2 | h2
      · exact absurd (by rw [← h2, ← e]; exact List.mem_map_of_mem h1) hn.1
      · exact inj_of hn.2 h1 h2 e
theorem nd_rot {α : Type} {p q : List α} (h : (p ++ q).Nodup) : (q ++ p).Nodup := by
  rw [List.nodup_append] at h ⊢
  exact ⟨h.2.1, h.1, fun a ha b hb e => h.2.2 b hb a ha e.symm⟩
theorem out_uniq {l : List Pt} (hn : l.Nodup) {u p q : Pt} (h : (u, p) ∈ cyc l) (k : (u, q) ∈ cyc l) : p = q := by
  have := inj_of (g := (·.1)) (by rw [cyc_fst]; exact hn) h k rfl
  injection this
theorem in_uniq {l : List Pt} (hn : l.Nodup) {u p q : Pt} (h : (p, u) ∈ cyc l) (k : (q, u) ∈ cyc l) : p = q := by
  match l, hn, h, k with
  | v :: X, hn, h, k =>
    have := inj_of (g := (·.2)) (by rw [cyc_snd]; exact nd_rot (p := [v]) hn) h k rfl
    injection this
/-! ### begun elsewhere -/
def Rt (l m : List Pt) : Prop := ∃ p q, l = p ++ q ∧ m = q ++ p
theorem Rt.symm {l m : List Pt} (h : Rt l m) : Rt m l := let ⟨p, q, a, b⟩ := h; ⟨q, p, b, a⟩
theorem rt_cyc {l m : List Pt} (h : Rt l m) : ∃ A B, cyc l = A ++ B ∧ cyc m = B ++ A := by
  obtain ⟨p, q, rfl, rfl⟩ := h
  match p, q with
  | [], q => exact ⟨[], cyc q, rfl, by rw [List.append_nil, List.append_nil]⟩
  | a :: p, [] => exact ⟨[], cyc (a :: p), by rw [List.append_nil]; rfl, by rw [List.append_nil]; rfl⟩
  | a :: p, b :: q =>
    refine ⟨pth (a :: p ++ [b]), pth (b :: q ++ [a]), ?_, ?_⟩
    · show pth (a :: (p ++ b :: q) ++ [a]) = _
      rw [show a :: (p ++ b :: q) ++ [a] = (a :: p) ++ b :: (q ++ [a]) by simp, pth_app]
      rfl
    · show pth (b :: (q ++ a :: p) ++ [b]) = _
      rw [show b :: (q ++ a :: p) ++ [b] = (b :: q) ++ a :: (p ++ [b]) by simp, pth_app]
      rfl
theorem Rt.mem_cyc {l m : List Pt} (h : Rt l m) {e : Pt × Pt} : e ∈ cyc l ↔ e ∈ cyc m := by
  obtain ⟨A, B, e1, e2⟩ := rt_cyc h
  rw [e1, e2, List.mem_append, List.mem_append]
  exact Or.comm
theorem Rt.mem {l m : List Pt} (h : Rt l m) {z : Pt} : z ∈ l ↔ z ∈ m := by
  obtain ⟨p, q, rfl, rfl⟩ := h
  rw [List.mem_append, List.mem_append]
  exact Or.comm
theorem Rt.sm {l m : List Pt} (h : Rt l m) (f : Pt → Pt → Rat) : Rc.sm f (cyc l) = Rc.sm f (cyc m) := by
  obtain ⟨A, B, e1, e2⟩ := rt_cyc h
  rw [e1, e2, sm_app, sm_app]
  grind
theorem Rt.nd {l m : List Pt} (h : Rt l m) (hn : l.Nodup) : m.Nodup := by
  obtain ⟨p, q, rfl, rfl⟩ := h
  exact nd_rot hn
theorem Rt.len {l m : List Pt} (h : Rt l m) : l.length = m.length := by
  obtain ⟨p, q, rfl, rfl⟩ := h
  rw [List.length_append, List.length_append, Nat.add_comm]
theorem rt_head {l : List Pt} {v : Pt} (h : v ∈ l) : ∃ X, Rt l (v :: X) := by
  obtain ⟨p, q, rfl⟩ := List.append_of_mem h
  exact ⟨q ++ p, p, v :: q, rfl, rfl⟩
/-! ### how often a closed way goes round a point -/
def wn (l : List Pt) (z : Pt) : Rat := sm (fun a b => ((chi a b z : Int) : Rat)) (cyc l)
theorem sm_tel (g : Pt → Rat) : ∀ (l : List Pt) (x y : Pt), sm (fun a b => g a - g b) (pth (x :: l ++ [y])) = g x - g y
  | [], x, y => by show g x - g y + 0 = _; grind
  | a :: r, x, y => by
    show g x - g a + sm _ (pth (a :: r ++ [y])) = _
    rw [sm_tel g r a y]
    grind
theorem sm_congr {f g : Pt → Pt → Rat} : ∀ {l : List (Pt × Pt)}, (∀ e ∈ l, f e.1 e.2 = g e.1 e.2) → sm f l = sm g l
  | [], _ => rfl
  | e :: r, h => by
    show f e.1 e.2 + sm f r = g e.1 e.2 + sm g r
    rw [h e (by simp), sm_congr (l := r) fun e he => h e (List.mem_cons_of_mem _ he)]
theorem sm_sub (f g : Pt → Pt → Rat) : ∀ l : List (Pt × Pt), sm (fun a b => f a b - g a b) l = sm f l - sm g l
  | [] => by show (0 : Rat) = 0 - 0; grind
  | e :: r => by
    show f e.1 e.2 - g e.1 e.2 + sm _ r = (f e.1 e.2 + sm f r) - (g e.1 e.2 + sm g r)
    rw [sm_sub f g r]
    grind
theorem wn_same {l : List Pt} {z w : Pt} (h : ∀ e ∈ cyc l, Apart e.1 e.2 z w) : wn l z = wn l w := by
  have key : ∀ z w : Pt, z.x < w.x → (∀ e ∈ cyc l, Apart e.1 e.2 z w) → wn l z = wn l w := by
    intro z w hz h
    have e1 := sm_sub (fun a b => ((chi a b z : Int) : Rat)) (fun a b => ((chi a b w : Int) : Rat)) (cyc l)
    have e2 : sm (fun a b => ((chi a b z : Int) : Rat) - ((chi a b w : Int) : Rat)) (cyc l) = sm (fun a b => ((pot z w a : Int) : Rat) - ((pot z w b : Int) : Rat)) (cyc l) := sm_congr fun e he => by
      rw [← Rat.intCast_sub, ← Rat.intCast_sub, chi_step2 hz (h e he)]
    have e3 : sm (fun a b => ((pot z w a : Int) : Rat) - ((pot z w b : Int) : Rat)) (cyc l) = 0 := by
      match l with
      | [] => rfl
      | v :: X =>
        show sm _ (pth (v :: X ++ [v])) = 0
        rw [sm_tel (fun a => ((pot z w a : Int) : Rat))]
        grind
    unfold wn
    grind
  rcases (show z.x < w.x ∨ z.x = w.x ∨ w.x < z.x by grind) with c | c | c
  · exact key z w c h
  · exact sm_congr fun e he => by rw [chi_same c (h e he)]
  · exact (key w z c fun e he => apart_sw2 (h e he)).symm
/-- nothing lies above: not round it -/
theorem wn_top {l : List Pt} {z : Pt} (h : ∀ v ∈ l, v.y ≤ z.y) : wn l z = 0 := by
  have e : ∀ e ∈ cyc l, ((chi e.1 e.2 z : Int) : Rat) = (0 : Rat) := fun e he => by
    have m := cyc_mem he
    have h1 := h _ m.1
    have h2 := h _ m.2
    have : chi e.1 e.2 z = 0 := by
      unfold chi
      have n1 : ¬ (e.1.x ≤ z.x ∧ z.x < e.2.x ∧ det e.1 e.2 z < 0) := fun q => by
        have a1 := pm (show 0 ≤ e.2.x - z.x by grind) (show 0 ≤ z.y - e.1.y by grind)
        have a2 := pm (show 0 ≤ z.x - e.1.x by grind) (show 0 ≤ z.y - e.2.y by grind)
        have := q.2.2
        unfold det at this
        grind
      have n2 : ¬ (e.2.x ≤ z.x ∧ z.x < e.1.x ∧ 0 < det e.1 e.2 z) := fun q => by
        have a1 := pm (show 0 ≤ e.1.x - z.x by grind) (show 0 ≤ z.y - e.2.y by grind)
        have a2 := pm (show 0 ≤ z.x - e.2.x by grind) (show 0 ≤ z.y - e.1.y by grind)
        have := q.2.2
        unfold det at this
        grind
      rw [if_neg n1, if_neg n2]
    rw [this]; rfl
  have z0 : ∀ l : List (Pt × Pt), sm (fun _ _ => (0 : Rat)) l = 0 := fun l => by
    induction l with
    | nil => rfl
    | cons a r ih => show (0 : Rat) + _ = 0; rw [ih]; grind
  unfold wn
  rw [sm_congr (g := fun _ _ => (0 : Rat)) e, z0]
/-! ### a triangle -/
def tw (a v b z : Pt) : Int := chi a v z + chi v b z + chi b a z
theorem tw_cyc (a v b z : Pt) : tw a v b z = tw v b a z := by unfold tw; omega
structure InT (a v b z : Pt) : Prop where
  p : 0 ≤ det a v z
  q : 0 ≤ det v b z
  r : 0 ≤ det b a z
theorem InT.cyc {a v b z : Pt} (h : InT a v b z) : InT v b a z := ⟨h.q, h.r, h.p⟩
theorem det_sum (a v b z : Pt) : det a v z + det v b z + det b a z = det a v b := by unfold det; grind
theorem det_bx (a v b z : Pt) : det a v b * (z.x - v.x) = det v b z * (a.x - v.x) + det a v z * (b.x - v.x) := by unfold det; grind
theorem det_id (a v b z : Pt) : det v b z * (z.x - a.x) + det b a z * (z.x - v.x) + det a v z * (z.x - b.x) = 0 := by unfold det; grind
theorem twL {a v b z : Pt} (h : 0 < det a v b) (h1 : v.x ≤ z.x) (h2 : z.x < a.x) (h3 : z.x < b.x) : (¬ InT a v b z → tw a v b z = 0) ∧ (0 < det a v z → 0 < det v b z → 0 < det b a z → tw a v b z = 1) := by
  have s := det_sum a v b z
  have e := det_bx a v b z
  have id := det_id a v b z
  have l := pm (Rat.le_of_lt h) (show 0 ≤ z.x - v.x by grind)
  have k : chi b a z = 0 := by
    unfold chi
    rw [if_neg (by grind), if_neg (by grind)]
  constructor
  · intro hn
    have nn : ¬ (0 ≤ det a v z ∧ 0 ≤ det v b z ∧ 0 ≤ det b a z) := fun q => hn ⟨q.1, q.2.1, q.2.2⟩
    unfold tw
    rw [k]
    unfold chi
    rw [if_neg (c := a.x ≤ z.x ∧ _) (by grind), if_neg (c := b.x ≤ z.x ∧ _) (by grind)]
    by_cases c : 0 < det a v z
    · have : det v b z < 0 := by
        by_cases d : det v b z < 0
        · exact d
        · have r : det b a z < 0 := by grind
          have a1 := pm (show 0 ≤ det v b z by grind) (show 0 ≤ a.x - z.x by grind)
          have a2 := pp c (show 0 < b.x - z.x by grind)
          have a3 := pm (show 0 ≤ - det b a z by grind) (show 0 ≤ z.x - v.x by grind)
          grind
      rw [if_pos ⟨h1, h2, c⟩, if_pos ⟨h1, h3, this⟩]; rfl
    · have : ¬ det v b z < 0 := fun d => by
        have a1 := pp (show 0 < - det v b z by grind) (show 0 < a.x - v.x by grind)
        have a2 := pm (show 0 ≤ - det a v z by grind) (show 0 ≤ b.x - v.x by grind)
        grind
      rw [if_neg (fun q => c q.2.2), if_neg (fun q => this q.2.2)]; rfl
  · intro p q r
    unfold tw
    rw [k]
    unfold chi
    rw [if_neg (c := a.x ≤ z.x ∧ _) (by grind), if_neg (c := b.x ≤ z.x ∧ _) (by grind), if_pos ⟨h1, h2, p⟩, if_neg (by grind)]; rfl
theorem twR {a v b z : Pt} (h : 0 < det a v b) (h1 : z.x < v.x) (h2 : a.x ≤ z.x) (h3 : b.x ≤ z.x) : (¬ InT a v b z → tw a v b z = 0) ∧ (0 < det a v z → 0 < det v b z → 0 < det b a z → tw a v b z = 1) := by
  have s := det_sum a v b z
  have e := det_bx a v b z
  have id := det_id a v b z
  have l := pp h (show 0 < v.x - z.x by grind)
  have k : chi b a z = 0 := by
    unfold chi
    rw [if_neg (by grind), if_neg (by grind)]
  constructor
  · intro hn
    have nn : ¬ (0 ≤ det a v z ∧ 0 ≤ det v b z ∧ 0 ≤ det b a z) := fun q => hn ⟨q.1, q.2.1, q.2.2⟩
    unfold tw
    rw [k]
    unfold chi
    rw [if_neg (c := v.x ≤ z.x ∧ z.x < a.x ∧ _) (by grind), if_neg (c := v.x ≤ z.x ∧ z.x < b.x ∧ _) (by grind)]
    by_cases c : 0 < det v b z
    · have : det a v z < 0 := by
        by_cases d : det a v z < 0
        · exact d
        · have r : det b a z < 0 := by grind
          have a1 := pm (show 0 ≤ det a v z by grind) (show 0 ≤ z.x - b.x by grind)
          have a2 := pm (Rat.le_of_lt c) (show 0 ≤ z.x - a.x by grind)
          have a3 := pp (show 0 < - det b a z by grind) (show 0 < v.x - z.x by grind)
          grind
      rw [if_pos (c := b.x ≤ z.x ∧ z.x < v.x ∧ _) ⟨h3, h1, c⟩, if_pos (c := a.x ≤ z.x ∧ z.x < v.x ∧ _) ⟨h2, h1, this⟩]; rfl
    · have : ¬ det a v z < 0 := fun d => by
        have a1 := pp (show 0 < - det a v z by grind) (show 0 < v.x - b.x by grind)
        have a2 := pm (show 0 ≤ - det v b z by grind) (show 0 ≤ v.x - a.x by grind)
        grind
      rw [if_neg (c := a.x ≤ z.x ∧ _) (fun q => this q.2.2), if_neg (c := b.x ≤ z.x ∧ _) (fun q => c q.2.2)]; rfl
  · intro p q r
    unfold tw
    rw [k]
    unfold chi
    rw [if_neg (c := v.x ≤ z.x ∧ z.x < a.x ∧ _) (by grind), if_neg (c := v.x ≤ z.x ∧ z.x < b.x ∧ _) (by grind), if_pos (c := b.x ≤ z.x ∧ z.x < v.x ∧ _) ⟨h3, h1, q⟩, if_neg (c := a.x ≤ z.x ∧ _) (by grind)]; rfl
theorem tw_all {a v b z : Pt} (h : 0 < det a v b) : (¬ InT a v b z → tw a v b z = 0) ∧ (0 < det a v z → 0 < det v b z → 0 < det b a z → tw a v b z = 1) := by
  have s := det_sum a v b z
  have e := det_bx a v b z
  have hv : 0 < det v b a := by rw [← det_cyc]; exact h
  have hb : 0 < det b a v := by rw [← det_cyc]; exact hv
  have flat : (a.x ≤ z.x ∧ v.x ≤ z.x ∧ b.x ≤ z.x) ∨ (z.x < a.x ∧ z.x < v.x ∧ z.x < b.x) → tw a v b z = 0 ∧ ¬ (0 < det a v z ∧ 0 < det v b z ∧ 0 < det b a z) := by
    intro c
    refine ⟨?_, fun q => ?_⟩
    · unfold tw chi
      rw [if_neg (by grind), if_neg (by grind), if_neg (by grind), if_neg (by grind), if_neg (by grind), if_neg (by grind)]; rfl
    · have id := det_id a v b z
      obtain ⟨p, q, r⟩ := q
      rcases c with ⟨c1, c2, c3⟩ | ⟨c1, c2, c3⟩
      · by_cases e1 : a.x < z.x
        · have a1 := pp q (show 0 < z.x - a.x by grind)
          have a2 := pm (Rat.le_of_lt r) (show 0 ≤ z.x - v.x by grind)
          have a3 := pm (Rat.le_of_lt p) (show 0 ≤ z.x - b.x by grind)
          grind
        · by_cases e2 : v.x < z.x
          · have a1 := pm (Rat.le_of_lt q) (show 0 ≤ z.x - a.x by grind)
            have a2 := pp r (show 0 < z.x - v.x by grind)
            have a3 := pm (Rat.le_of_lt p) (show 0 ≤ z.x - b.x by grind)
            grind
          · by_cases e3 : b.x < z.x
            · have a1 := pm (Rat.le_of_lt q) (show 0 ≤ z.x - a.x by grind)
              have a2 := pm (Rat.le_of_lt r) (show 0 ≤ z.x - v.x by grind)
              have a3 := pp p (show 0 < z.x - b.x by grind)
              grind
            · have x1 : v.x - a.x = 0 := by grind
              have x2 : b.x - a.x = 0 := by grind
              unfold det at h
              rw [x1, x2] at h
              grind
      · have a1 := pp q (show 0 < a.x - z.x by grind)
        have a2 := pp r (show 0 < v.x - z.x by grind)
        have a3 := pp p (show 0 < b.x - z.x by grind)
        grind
  have viaV : (¬ InT v b a z → tw v b a z = 0) ∧ (0 < det v b z → 0 < det b a z → 0 < det a v z → tw v b a z = 1) → (¬ InT a v b z → tw a v b z = 0) ∧ (0 < det a v z → 0 < det v b z → 0 < det b a z → tw a v b z = 1) := fun k =>
    ⟨fun n => by rw [tw_cyc]; exact k.1 fun i => n i.cyc.cyc, fun p q r => by rw [tw_cyc]; exact k.2 q r p⟩
  have viaB : (¬ InT b a v z → tw b a v z = 0) ∧ (0 < det b a z → 0 < det a v z → 0 < det v b z → tw b a v z = 1) → (¬ InT a v b z → tw a v b z = 0) ∧ (0 < det a v z → 0 < det v b z → 0 < det b a z → tw a v b z = 1) := fun k =>
    ⟨fun n => by rw [tw_cyc, tw_cyc]; exact k.1 fun i => n i.cyc, fun p q r => by rw [tw_cyc, tw_cyc]; exact k.2 r p q⟩
  by_cases ca : a.x ≤ z.x <;> by_cases cv : v.x ≤ z.x <;> by_cases cb : b.x ≤ z.x
  · have := flat (.inl ⟨ca, cv, cb⟩); exact ⟨fun _ => this.1, fun p q r => absurd ⟨p, q, r⟩ this.2⟩
  · exact viaV (twR hv (by grind) cv ca)
  · exact twR h (by grind) ca cb
  · exact viaB (twL hb ca (by grind) (by grind))
  · exact viaB (twR hb (by grind) cb cv)
  · exact twL h cv (by grind) (by grind)
  · exact viaV (twL hv cb (by grind) (by grind))
  · have := flat (.inr ⟨by grind, by grind, by grind⟩); exact ⟨fun _ => this.1, fun p q r => absurd ⟨p, q, r⟩ this.2⟩
end Rc
namespace Rc
/-! ### simple closed ways -/
structure Simple (l : List Pt) : Prop where
  len : 3 ≤ l.length
  nd : l.Nodup
  ap : ∀ e ∈ cyc l, ∀ f ∈ cyc l, e ≠ f → ∀ z, On e.1 e.2 z → On f.1 f.2 z → (z = e.1 ∨ z = e.2) ∧ (z = f.1 ∨ z = f.2)
theorem Rt.simple {l m : List Pt} (h : Rt l m) (s : Simple l) : Simple m := ⟨by rw [← h.len]; exact s.len, h.nd s.nd, fun e he f hf => s.ap e (h.mem_cyc.mpr he) f (h.mem_cyc.mpr hf)⟩
theorem cyc_v (v b a : Pt) (M : List Pt) : cyc (v :: b :: (M ++ [a])) = (v, b) :: (pth (b :: (M ++ [a])) ++ [(a, v)]) := by
  show (v, b) :: pth (b :: (M ++ [a]) ++ [v]) = _
  have := pth_snoc (b :: M) a v
  rw [show b :: (M ++ [a]) ++ [v] = b :: M ++ [a] ++ [v] by simp, this]
  rfl
theorem cyc_x (b a : Pt) (M : List Pt) : cyc (b :: (M ++ [a])) = pth (b :: (M ++ [a])) ++ [(a, b)] := by
  show pth (b :: (M ++ [a]) ++ [b]) = _
  have := pth_snoc (b :: M) a b
  rw [show b :: (M ++ [a]) ++ [b] = b :: M ++ [a] ++ [b] by simp, this]
  rfl
/-! ### a wedge, and what comes out of it -/
theorem on_av {a v b x : Pt} (h : 0 < det a v b) (h1 : det a v x = 0) (h2 : 0 ≤ det v b x) (h3 : 0 ≤ det b a x) : On a v x := by
  have s := det_sum a v b x
  have e := rd_mul (a := det b a x) (b := det a v b) (by grind)
  refine ⟨det b a x / det a v b, rd_nn h3 h, rd_le1 (by grind) h, ?_⟩
  generalize det b a x / det a v b = t at e
  have nz : det a v b ≠ 0 := by grind
  have ex : det a v b * (x.x - (a.x + t * (v.x - a.x))) = 0 := by
    have : det a v b * (x.x - a.x) = det b a x * (v.x - a.x) + det a v x * (b.x - a.x) := by unfold det; grind
    grind
  have ey : det a v b * (x.y - (a.y + t * (v.y - a.y))) = 0 := by
    have : det a v b * (x.y - a.y) = det b a x * (v.y - a.y) + det a v x * (b.y - a.y) := by unfold det; grind
    grind
  refine Pt.eq ?_ ?_
  · rcases Rat.mul_eq_zero.mp ex with q | q
    · exact absurd q nz
    · unfold lp; grind
  · rcases Rat.mul_eq_zero.mp ey with q | q
    · exact absurd q nz
    · unfold lp; grind
theorem on_vb {a v b x : Pt} (h : 0 < det a v b) (h1 : 0 ≤ det a v x) (h2 : det v b x = 0) (h3 : 0 ≤ det b a x) : On v b x :=
  on_av (a := v) (v := b) (b := a) (by rw [← det_cyc]; exact h) h2 h3 h1
theorem on_det {a b z : Pt} (h : On a b z) : det a b z = 0 := by
  obtain ⟨t, _, _, rfl⟩ := h
  rw [det_lp, det_aba, det_abb]
  grind
/-- the first way out -/
theorem exit_wedge {a v b z c : Pt} (h : 0 < det a v b) (h1 : 0 < det a v z) (h2 : 0 < det v b z) (g : 0 ≤ det b a z) (gc : 0 ≤ det b a c) (hc : ¬ InT a v b c) : ∃ x, On z c x ∧ InT a v b x ∧ (On a v x ∨ On v b x) := by
  have out (u w : Rat) (hu : 0 < u) (hw : w < 0) : ∃ t : Rat, 0 ≤ t ∧ t ≤ 1 ∧ u + t * (w - u) = 0 ∧ ∀ s, 0 ≤ s → s ≤ t → 0 ≤ u + s * (w - u) := by
    have d : 0 < u - w := by grind
    have e := rd_mul (a := u) (b := u - w) (by grind)
    refine ⟨u / (u - w), rd_nn (Rat.le_of_lt hu) d, rd_le1 (by grind) d, ?_, fun s s0 s1 => ?_⟩
    · generalize u / (u - w) = t at e; grind
    · have := pm (show 0 ≤ u / (u - w) - s by grind) (Rat.le_of_lt d)
      generalize u / (u - w) = t at e this
      grind
  have gt (t : Rat) (t0 : 0 ≤ t) (t1 : t ≤ 1) : 0 ≤ det b a (lp z c t) := by
    rw [det_lp]
    have a1 := pm (show 0 ≤ 1 - t by grind) g
    have a2 := pm t0 gc
    grind
  have nn (u w t : Rat) (hu : 0 < u) (hw : ¬ w < 0) (t0 : 0 ≤ t) (t1 : t ≤ 1) : 0 ≤ u + t * (w - u) := by
    have a1 := pm (show 0 ≤ 1 - t by grind) (Rat.le_of_lt hu)
    have a2 := pm t0 (show 0 ≤ w by grind)
    grind
  by_cases c1 : det a v c < 0
  · obtain ⟨t, t0, t1, te, tl⟩ := out _ _ h1 c1
    by_cases c2 : det v b c < 0
    · obtain ⟨r, r0, r1, re, rl⟩ := out _ _ h2 c2
      by_cases k : t ≤ r
      · have i : InT a v b (lp z c t) := ⟨by rw [det_lp, te]; exact Rat.le_refl, by rw [det_lp]; exact rl t t0 k, gt t t0 t1⟩
        exact ⟨lp z c t, ⟨t, t0, t1, rfl⟩, i, .inl (on_av h (by rw [det_lp, te]) i.q i.r)⟩
      · have i : InT a v b (lp z c r) := ⟨by rw [det_lp]; exact tl r r0 (by grind), by rw [det_lp, re]; exact Rat.le_refl, gt r r0 r1⟩
        exact ⟨lp z c r, ⟨r, r0, r1, rfl⟩, i, .inr (on_vb h i.p (by rw [det_lp, re]) i.r)⟩
    · have i : InT a v b (lp z c t) := ⟨by rw [det_lp, te]; exact Rat.le_refl, by rw [det_lp]; exact nn _ _ t h2 c2 t0 t1, gt t t0 t1⟩
      exact ⟨lp z c t, ⟨t, t0, t1, rfl⟩, i, .inl (on_av h (by rw [det_lp, te]) i.q i.r)⟩
  · have c2 : det v b c < 0 := by
      by_cases k : det v b c < 0
      · exact k
      · exact absurd ⟨by grind, by grind, gc⟩ hc
    obtain ⟨r, r0, r1, re, rl⟩ := out _ _ h2 c2
    have i : InT a v b (lp z c r) := ⟨by rw [det_lp]; exact nn _ _ r h1 c1 r0 r1, by rw [det_lp, re]; exact Rat.le_refl, gt r r0 r1⟩
    exact ⟨lp z c r, ⟨r, r0, r1, rfl⟩, i, .inr (on_vb h i.p (by rw [det_lp, re]) i.r)⟩
theorem on_back {c d z : Pt} (h : On d c z) (k : On z c d) : z = d := by
  obtain ⟨s, s0, s1, rfl⟩ := h
  obtain ⟨t, t0, t1, e⟩ := k
  have ex : d.x = (lp (lp d c s) c t).x := congrArg Pt.x e
  have ey : d.y = (lp (lp d c s) c t).y := congrArg Pt.y e
  unfold lp at ex ey
  have fx : (s + t * (1 - s)) * (c.x - d.x) = 0 := by grind
  have fy : (s + t * (1 - s)) * (c.y - d.y) = 0 := by grind
  have p := pm t0 (show 0 ≤ 1 - s by grind)
  by_cases z : s = 0
  · rw [z]; exact lp0 d c
  · have nz : s + t * (1 - s) ≠ 0 := by grind
    have gx : c.x - d.x = 0 := (Rat.mul_eq_zero.mp fx).resolve_left nz
    have gy : c.y - d.y = 0 := (Rat.mul_eq_zero.mp fy).resolve_left nz
    exact Pt.eq (by unfold lp; grind) (by unfold lp; grind)
/-- what a way has in common with the two sides of a wedge: ends alone -/
structure Nt (a v b c d : Pt) : Prop where
  p : ∀ x, On c d x → On a v x → (x = c ∨ x = d) ∧ (x = a ∨ x = v)
  q : ∀ x, On c d x → On v b x → (x = c ∨ x = d) ∧ (x = v ∨ x = b)
theorem Nt.sw {a v b c d : Pt} (h : Nt a v b c d) : Nt a v b d c := ⟨fun x h1 h2 => ⟨(h.p x (on_sw h1) h2).1.symm, (h.p x (on_sw h1) h2).2⟩, fun x h1 h2 => ⟨(h.q x (on_sw h1) h2).1.symm, (h.q x (on_sw h1) h2).2⟩⟩
theorem wedge_core {a v b c d z : Pt} (h : 0 < det a v b) (n : Nt a v b c d) (hz : On c d z) (h1 : 0 < det a v z) (h2 : 0 < det v b z) (g : 0 ≤ det b a z) (gc : 0 ≤ det b a c) (hc : ¬ InT a v b c) : False := by
  obtain ⟨x, k1, k2, k3⟩ := exit_wedge h h1 h2 g gc hc
  have ox : On c d x := on_cv hz (on_l c d) k1
  have e : x = c ∨ x = d := k3.elim (fun q => (n.p x ox q).1) fun q => (n.q x ox q).1
  rcases e with rfl | rfl
  · exact hc k2
  · have := on_back (on_sw hz) k1
    subst this
    rcases k3 with q | q
    · rw [on_det q] at h1; exact absurd h1 Rat.lt_irrefl
    · rw [on_det q] at h2; exact absurd h2 Rat.lt_irrefl
/-- one end measures as much at least -/
theorem on_max {f : Ag} {c d z : Pt} (h : On c d z) : f.at z ≤ f.at c ∨ f.at z ≤ f.at d := by
  obtain ⟨t, t0, t1, rfl⟩ := h
  rw [Ag.lp]
  by_cases k : f.at c ≤ f.at d
  · right
    have := pm (show 0 ≤ 1 - t by grind) (show 0 ≤ f.at d - f.at c by grind)
    grind
  · left
    have := pm t0 (show 0 ≤ f.at c - f.at d by grind)
    grind
theorem det_max {a b c d z : Pt} (h : On c d z) : det a b z ≤ det a b c ∨ det a b z ≤ det a b d := by
  rw [← gd_at, ← gd_at, ← gd_at]
  exact on_max h
theorem wedge_deep {a v b c d z : Pt} {g0 : Rat} (h : 0 < det a v b) (n : Nt a v b c d) (hz : On c d z) (h1 : 0 < det a v z) (h2 : 0 < det v b z) (g0n : 0 ≤ g0) (g : g0 < det b a z) (ec : ¬ InT a v b c ∨ det b a c ≤ g0) (ed : ¬ InT a v b d ∨ det b a d ≤ g0) : False := by
  rcases det_max (a := b) (b := a) hz with k | k
  · exact wedge_core h n hz h1 h2 (by grind) (by grind) (ec.resolve_right (by grind))
  · exact wedge_core h n.sw (on_sw hz) h1 h2 (by grind) (by grind) (ed.resolve_right (by grind))
theorem lin_a {G C D t : Rat} (gt : G = C + t * (D - C)) (c : C = 0) (k : 0 < t * (-D)) (g : 0 ≤ G) : False := by subst c; grind
theorem lin_b {G C D t : Rat} (gt : G = C + t * (D - C)) (c : D = 0) (k : 0 < (1 - t) * (-C)) (g : 0 ≤ G) : False := by subst c; grind
theorem wedge_empty {a v b c d z : Pt} (h : 0 < det a v b) (n : Nt a v b c d) (hi : InT a v b z) (hz : On c d z) (ec : ¬ InT a v b c ∨ c = a ∨ c = b) (ed : ¬ InT a v b d ∨ d = a ∨ d = b) (hv : v ≠ c ∧ v ≠ d) (hn : ¬ ((c = a ∨ c = b) ∧ (d = a ∨ d = b))) : z = a ∨ z = b := by
  have ga : det b a a = 0 := det_abb b a
  have gb : det b a b = 0 := det_aba b a
  by_cases p0 : det a v z = 0
  · have := n.p z hz (on_av h p0 hi.q hi.r)
    rcases this with ⟨e1, e2 | e2⟩
    · exact .inl e2
    · exact absurd (e2 ▸ e1) (fun q => q.elim hv.1 hv.2)
  · by_cases q0 : det v b z = 0
    · have := n.q z hz (on_vb h hi.p q0 hi.r)
      rcases this with ⟨e1, e2 | e2⟩
      · exact absurd (e2 ▸ e1) (fun q => q.elim hv.1 hv.2)
      · exact .inr e2
    · have h1 : 0 < det a v z := by have := hi.p; grind
      have h2 : 0 < det v b z := by have := hi.q; grind
      have noc : 0 ≤ det b a c → c = a ∨ c = b := fun k => by
        by_cases i : InT a v b c
        · exact ec.resolve_left (fun q => q i)
        · exact (wedge_core h n hz h1 h2 hi.r k i).elim
      have nod : 0 ≤ det b a d → d = a ∨ d = b := fun k => by
        by_cases i : InT a v b d
        · exact ed.resolve_left (fun q => q i)
        · exact (wedge_core h n.sw (on_sw hz) h1 h2 hi.r k i).elim
      have zero {x : Pt} (q : x = a ∨ x = b) : det b a x = 0 := by rcases q with rfl | rfl <;> assumption
      have gz := hi.r
      obtain ⟨t, t0, t1, et⟩ := hz
      have gt : det b a z = det b a c + t * (det b a d - det b a c) := by rw [et, det_lp]
      by_cases kc : 0 ≤ det b a c
      · have e1 := noc kc
        have kd : ¬ 0 ≤ det b a d := fun k => hn ⟨e1, nod k⟩
        have z1 := zero e1
        have : t = 0 := by
          by_cases t2 : t = 0
          · exact t2
          · have tp : 0 < t := by clear ec ed hn hv noc nod zero e1; grind
            have dp : 0 < - det b a d := by clear ec ed hn hv noc nod zero e1; grind
            exact (lin_a gt z1 (pp tp dp) gz).elim
        rw [et, this, lp0]
        exact e1
      · by_cases kd : 0 ≤ det b a d
        · have e1 := nod kd
          have z1 := zero e1
          have : t = 1 := by
            by_cases t2 : t = 1
            · exact t2
            · have tp : 0 < 1 - t := by clear ec ed hn hv noc nod zero e1; grind
              have dp : 0 < - det b a c := by clear ec ed hn hv noc nod zero e1; grind
              exact (lin_b gt z1 (pp tp dp) gz).elim
          rw [et, this, lp1]
          exact e1
        · exfalso
          clear ec ed hn hv noc nod zero
          by_cases t2 : t = 0
          · rw [t2] at gt; grind
          · have a1 := pm (show 0 ≤ 1 - t by grind) (show 0 ≤ - det b a c by grind)
            have a2 := pp (show 0 < t by grind) (show 0 < - det b a d by grind)
            grind
/-! ### the wedge at the head of a simple closed way -/
section
variable {v b a : Pt} {M : List Pt}
theorem head_nd (s : Simple (v :: b :: (M ++ [a]))) : v ≠ b ∧ v ≠ a ∧ b ≠ a ∧ v ∉ M ∧ b ∉ M ∧ a ∉ M := by
  have h := s.nd
  rw [List.nodup_cons, List.nodup_cons] at h
  obtain ⟨h1, h2, h3⟩ := h
  have h4 := List.nodup_append.mp h3
  refine ⟨fun e => h1 (by rw [e]; simp), fun e => h1 (by rw [e]; simp), fun e => h2 (by rw [e]; simp), fun e => h1 (by simp [e]), fun e => h2 (by simp [e]), fun e => h4.2.2 a e a (by simp) rfl⟩
theorem chain_ends {f : Pt × Pt} (h : f ∈ pth (b :: (M ++ [a]))) : (f.1 = b ∨ f.1 ∈ M) ∧ (f.2 ∈ M ∨ f.2 = a) := by
  constructor
  · have := List.mem_map_of_mem (f := (·.1)) h
    rw [show b :: (M ++ [a]) = b :: M ++ [a] by simp, pth_fst] at this
    simpa using this
  · have := List.mem_map_of_mem (f := (·.2)) h
    rw [pth_snd] at this
    simpa using this
theorem head_nt (s : Simple (v :: b :: (M ++ [a]))) {f : Pt × Pt} (h : f ∈ pth (b :: (M ++ [a]))) : Nt a v b f.1 f.2 := by
  obtain ⟨n1, n2, n3, n4, n5, n6⟩ := head_nd s
  have e := chain_ends h
  have hc : f ∈ cyc (v :: b :: (M ++ [a])) := by rw [cyc_v]; simp [h]
  have h1 : (a, v) ∈ cyc (v :: b :: (M ++ [a])) := by rw [cyc_v]; simp
  have h2 : (v, b) ∈ cyc (v :: b :: (M ++ [a])) := by rw [cyc_v]; simp
  refine ⟨fun x k1 k2 => s.ap f hc (a, v) h1 (fun q => ?_) x k1 k2, fun x k1 k2 => s.ap f hc (v, b) h2 (fun q => ?_) x k1 k2⟩
  · rw [q] at e
    exact e.2.elim n4 n2
  · rw [q] at e
    exact e.1.elim n1 n4
theorem chain_first {f : Pt × Pt} (s : Simple (v :: b :: (M ++ [a]))) (hM : M ≠ []) (h : f ∈ pth (b :: (M ++ [a]))) : ¬ ((f.1 = a ∨ f.1 = b) ∧ (f.2 = a ∨ f.2 = b)) := by
  obtain ⟨n1, n2, n3, n4, n5, n6⟩ := head_nd s
  have e := chain_ends h
  rintro ⟨e1, e2⟩
  have f1 : f.1 = b := by
    rcases e1 with q | q
    · rcases e.1 with r | r
      · exact r
      · rw [q] at r; exact absurd r n6
    · exact q
  have f2 : f.2 = a := by
    rcases e2 with q | q
    · exact q
    · rcases e.2 with r | r
      · rw [q] at r; exact absurd r n5
      · exact r
  match M, hM with
  | m :: M, _ =>
    have hn : (pth (b :: (m :: M ++ [a]))).map (·.1) = b :: m :: M := by
      rw [show b :: (m :: M ++ [a]) = b :: m :: M ++ [a] by simp, pth_fst]
    have nd : (b :: m :: M).Nodup := by
      have := s.nd
      rw [List.nodup_cons, show b :: (m :: M ++ [a]) = b :: m :: M ++ [a] by simp, List.nodup_append] at this
      exact this.2.1
    have := inj_of (g := (·.1)) (by rw [hn]; exact nd) h (y := (b, m)) (by simp [pth]) f1
    rw [this] at f2
    have f2 : m = a := f2
    exact n6 (by rw [f2]; simp)
/-- an empty wedge is touched by its own sides alone -/
theorem head_empty (s : Simple (v :: b :: (M ++ [a]))) (hM : M ≠ []) (h : 0 < det a v b) (he : ∀ q ∈ M, ¬ InT a v b q) {f : Pt × Pt} (hf : f ∈ pth (b :: (M ++ [a]))) {z : Pt} (hz : InT a v b z) (hon : On f.1 f.2 z) : z = a ∨ z = b := by
  obtain ⟨n1, n2, n3, n4, n5, n6⟩ := head_nd s
  have e := chain_ends hf
  refine wedge_empty h (head_nt s hf) hz hon ?_ ?_ ⟨?_, ?_⟩ (chain_first s hM hf)
  · rcases e.1 with q | q
    · exact .inr (.inr q)
    · exact .inl (he _ q)
  · rcases e.2 with q | q
    · exact .inl (he _ q)
    · exact .inr (.inl q)
  · intro q; rw [← q] at e; exact e.1.elim n1 n4
  · intro q; rw [← q] at e; exact e.2.elim n4 n2
/-- what is left without the ear is simple -/
theorem head_cut (s : Simple (v :: b :: (M ++ [a]))) (hM : M ≠ []) (h : 0 < det a v b) (he : ∀ q ∈ M, ¬ InT a v b q) : Simple (b :: (M ++ [a])) := by
  obtain ⟨n1, n2, n3, n4, n5, n6⟩ := head_nd s
  have old : ∀ f ∈ pth (b :: (M ++ [a])), ∀ z, On f.1 f.2 z → On a b z → (z = f.1 ∨ z = f.2) ∧ (z = a ∨ z = b) := by
    intro f hf z h1 h2
    have i : InT a v b z := by
      have ga : det a v a = 0 := det_aba a v
      have gb : det v b b = 0 := det_abb v b
      have := on_det (on_sw h2)
      have e1 := on_nn (f := gd a v) h2 (by rw [gd_at, det_aba]; exact Rat.le_refl) (by rw [gd_at]; exact Rat.le_of_lt h)
      have e2 := on_nn (f := gd v b) h2 (by rw [gd_at, ← det_cyc]; exact Rat.le_of_lt h) (by rw [gd_at, det_abb]; exact Rat.le_refl)
      rw [gd_at] at e1 e2
      exact ⟨e1, e2, by rw [this]; exact Rat.le_refl⟩
    have e := head_empty s hM h he hf i h1
    have n := head_nt s hf
    refine ⟨?_, e⟩
    rcases e with rfl | rfl
    · exact (n.p z h1 (on_l z v)).1
    · exact (n.q z h1 (on_r v z)).1
  refine ⟨?_, ?_, ?_⟩
  · have := s.len
    match M, hM with
    | m :: M, _ => simp
  · exact (List.nodup_cons.mp s.nd).2
  · intro e he f hf hne z h1 h2
    rw [cyc_x, List.mem_append, List.mem_singleton] at he hf
    rcases he with he | rfl
    · rcases hf with hf | rfl
      · exact s.ap e (by rw [cyc_v]; simp [he]) f (by rw [cyc_v]; simp [hf]) hne z h1 h2
      · exact old e he z h1 h2
    · rcases hf with hf | rfl
      · exact (old f hf z h2 h1).symm
      · exact absurd rfl hne
end
end Rc
namespace Rc
/-! ### sums over a way that is cut -/
theorem sm_ear {f : Pt → Pt → Rat} (ha : ∀ a b, f b a = - f a b) (v b a : Pt) (M : List Pt) : sm f (cyc (v :: b :: (M ++ [a]))) = sm f (cyc (b :: (M ++ [a]))) + (f a v + f v b + f b a) := by
  rw [cyc_v, cyc_x]
  show f v b + sm f (_ ++ _) = _
  rw [sm_app, sm_app]
  show f v b + (_ + (f a v + 0)) = _ + (f a b + 0) + _
  have := ha a b
  grind
theorem cyc_split (v y : Pt) (B A : List Pt) : cyc (v :: (B ++ y :: A)) = pth (v :: (B ++ [y])) ++ pth (y :: (A ++ [v])) := by
  show pth (v :: (B ++ y :: A) ++ [v]) = _
  rw [show v :: (B ++ y :: A) ++ [v] = (v :: B) ++ y :: (A ++ [v]) by simp, pth_app]
  rfl
theorem cyc_one (v y : Pt) (B : List Pt) : cyc (v :: (B ++ [y])) = pth (v :: (B ++ [y])) ++ [(y, v)] := by
  show pth (v :: (B ++ [y]) ++ [v]) = _
  rw [show v :: (B ++ [y]) ++ [v] = (v :: B) ++ [y] ++ [v] by simp, pth_snoc]
  rfl
theorem cyc_two (v y : Pt) (A : List Pt) : cyc (v :: y :: A) = (v, y) :: pth (y :: (A ++ [v])) := rfl
theorem sm_split {f : Pt → Pt → Rat} (ha : ∀ a b, f b a = - f a b) (v y : Pt) (B A : List Pt) : sm f (cyc (v :: (B ++ y :: A))) = sm f (cyc (v :: (B ++ [y]))) + sm f (cyc (v :: y :: A)) := by
  rw [cyc_split, cyc_one, cyc_two, sm_app, sm_app]
  show _ = _ + (f y v + 0) + (f v y + _)
  have := ha v y
  grind
theorem chi_anti (z a b : Pt) : ((chi b a z : Int) : Rat) = - ((chi a b z : Int) : Rat) := by rw [chi_sw, Rat.intCast_neg]
theorem wn_ear (v b a : Pt) (M : List Pt) (z : Pt) : wn (v :: b :: (M ++ [a])) z = wn (b :: (M ++ [a])) z + ((tw a v b z : Int) : Rat) := by
  unfold wn tw
  rw [sm_ear (chi_anti z), Rat.intCast_add, Rat.intCast_add]
theorem wn_split (v y : Pt) (B A : List Pt) (z : Pt) : wn (v :: (B ++ y :: A)) z = wn (v :: (B ++ [y])) z + wn (v :: y :: A) z := sm_split (chi_anti z) v y B A
def ar (l : List Pt) : Rat := sm (fun a b => a.x * b.y - a.y * b.x) (cyc l)
theorem ar_anti (a b : Pt) : b.x * a.y - b.y * a.x = - (a.x * b.y - a.y * b.x) := by grind
theorem ar_ear (v b a : Pt) (M : List Pt) : ar (v :: b :: (M ++ [a])) = ar (b :: (M ++ [a])) + det a v b := by
  unfold ar
  rw [sm_ear ar_anti]
  unfold det
  grind
theorem ar_split (v y : Pt) (B A : List Pt) : ar (v :: (B ++ y :: A)) = ar (v :: (B ++ [y])) + ar (v :: y :: A) := sm_split ar_anti v y B A
/-! ### a little beside -/
theorem sep_seg {c d m : Pt} (h : ¬ On c d m) : ∃ g : Ag, g.at m < 0 ∧ ∀ z, On c d z → 0 ≤ g.at z := by
  by_cases h1 : det c d m < 0
  · exact ⟨gd c d, by rw [gd_at]; exact h1, fun z hz => by rw [gd_at, on_det hz]; exact Rat.le_refl⟩
  · by_cases h2 : 0 < det c d m
    · exact ⟨gd d c, by rw [gd_at, det_sw]; grind, fun z hz => by rw [gd_at, on_det (on_sw hz)]; exact Rat.le_refl⟩
    · have h0 : det c d m = 0 := by grind
      by_cases e : c = d
      · subst e
        refine ⟨⟨-(m.x - c.x), -(m.y - c.y), (m.x - c.x) * c.x + (m.y - c.y) * c.y⟩, ?_, fun z hz => ?_⟩
        · have ne : ¬ (m.x = c.x ∧ m.y = c.y) := fun q => h (by rw [Pt.eq q.1 q.2]; exact on_l c c)
          have sq (r : Rat) (hr : r ≠ 0) : 0 < r * r := by
            rcases (show 0 < r ∨ r < 0 by grind) with k | k
            · exact pp k k
            · have := pp (show 0 < -r by grind) (show 0 < -r by grind); grind
          have sq0 (r : Rat) : 0 ≤ r * r := by
            by_cases k : r = 0
            · rw [k, Rat.mul_zero]; exact Rat.le_refl
            · exact Rat.le_of_lt (sq r k)
          show -(m.x - c.x) * m.x + -(m.y - c.y) * m.y + ((m.x - c.x) * c.x + (m.y - c.y) * c.y) < 0
          by_cases k : m.x = c.x
          · have a1 := sq (m.y - c.y) (by grind)
            have a2 := sq0 (m.x - c.x)
            grind
          · have a1 := sq0 (m.y - c.y)
            have a2 := sq (m.x - c.x) (by grind)
            grind
        · obtain ⟨t, _, _, rfl⟩ := hz
          show 0 ≤ -(m.x - c.x) * (lp c c t).x + -(m.y - c.y) * (lp c c t).y + ((m.x - c.x) * c.x + (m.y - c.y) * c.y)
          unfold lp
          grind
      · have sq (r : Rat) (hr : r ≠ 0) : 0 < r * r := by
          rcases (show 0 < r ∨ r < 0 by grind) with k | k
          · exact pp k k
          · have := pp (show 0 < -r by grind) (show 0 < -r by grind); grind
        have sq0 (r : Rat) : 0 ≤ r * r := by
          by_cases k : r = 0
          · rw [k, Rat.mul_zero]; exact Rat.le_refl
          · exact Rat.le_of_lt (sq r k)
        have hL : 0 < (d.x - c.x) * (d.x - c.x) + (d.y - c.y) * (d.y - c.y) := by
          by_cases k : d.x = c.x
          · have ky : d.y ≠ c.y := fun q => e (Pt.eq k.symm q.symm)
            have a1 := sq (d.y - c.y) (by grind)
            have a2 := sq0 (d.x - c.x)
            grind
          · have a1 := sq0 (d.y - c.y)
            have a2 := sq (d.x - c.x) (by grind)
            grind
        generalize hLL : (d.x - c.x) * (d.x - c.x) + (d.y - c.y) * (d.y - c.y) = L at hL
        have hS : ∃ S, S = (m.x - c.x) * (d.x - c.x) + (m.y - c.y) * (d.y - c.y) := ⟨_, rfl⟩
        obtain ⟨S, hS⟩ := hS
        have ex : L * (m.x - c.x) = S * (d.x - c.x) := by unfold det at h0; rw [hS, ← hLL]; grind
        have ey : L * (m.y - c.y) = S * (d.y - c.y) := by unfold det at h0; rw [hS, ← hLL]; grind
        have sm' : S < 0 ∨ L < S := by
          by_cases k1 : S < 0
          · exact .inl k1
          · by_cases k2 : L < S
            · exact .inr k2
            · exfalso
              have e1 := rd_mul (a := S) (b := L) (by grind)
              refine h ⟨S / L, rd_nn (by grind) hL, rd_le1 (by grind) hL, ?_⟩
              generalize S / L = t at e1
              have nz : L ≠ 0 := by grind
              have fx : L * (m.x - (c.x + t * (d.x - c.x))) = 0 := by grind
              have fy : L * (m.y - (c.y + t * (d.y - c.y))) = 0 := by grind
              exact Pt.eq (by have := (Rat.mul_eq_zero.mp fx).resolve_left nz; unfold lp; grind) (by have := (Rat.mul_eq_zero.mp fy).resolve_left nz; unfold lp; grind)
        rcases sm' with k | k
        · refine ⟨⟨d.x - c.x, d.y - c.y, -((d.x - c.x) * c.x + (d.y - c.y) * c.y)⟩, ?_, fun z hz => ?_⟩
          · show (d.x - c.x) * m.x + (d.y - c.y) * m.y + -((d.x - c.x) * c.x + (d.y - c.y) * c.y) < 0
            grind
          · obtain ⟨t, t0, t1, rfl⟩ := hz
            have := pm t0 (Rat.le_of_lt hL)
            show 0 ≤ (d.x - c.x) * (lp c d t).x + (d.y - c.y) * (lp c d t).y + -((d.x - c.x) * c.x + (d.y - c.y) * c.y)
            have e : (d.x - c.x) * (lp c d t).x + (d.y - c.y) * (lp c d t).y + -((d.x - c.x) * c.x + (d.y - c.y) * c.y) = t * L := by
              rw [← hLL]; unfold lp; grind
            rw [e]; exact this
        · refine ⟨⟨c.x - d.x, c.y - d.y, -((c.x - d.x) * d.x + (c.y - d.y) * d.y)⟩, ?_, fun z hz => ?_⟩
          · show (c.x - d.x) * m.x + (c.y - d.y) * m.y + -((c.x - d.x) * d.x + (c.y - d.y) * d.y) < 0
            have : (c.x - d.x) * m.x + (c.y - d.y) * m.y + -((c.x - d.x) * d.x + (c.y - d.y) * d.y) = L - S := by rw [← hLL, hS]; grind
            rw [this]; grind
          · obtain ⟨t, t0, t1, rfl⟩ := hz
            have := pm (show 0 ≤ 1 - t by grind) (Rat.le_of_lt hL)
            show 0 ≤ (c.x - d.x) * (lp c d t).x + (c.y - d.y) * (lp c d t).y + -((c.x - d.x) * d.x + (c.y - d.y) * d.y)
            have e : (c.x - d.x) * (lp c d t).x + (c.y - d.y) * (lp c d t).y + -((c.x - d.x) * d.x + (c.y - d.y) * d.y) = (1 - t) * L := by
              rw [← hLL]; unfold lp; grind
            rw [e]; exact this
theorem near (m e : Pt) : ∀ F : List (Pt × Pt), (∀ f ∈ F, ¬ On f.1 f.2 m) → ∃ δ : Rat, 0 < δ ∧ ∀ t, -δ ≤ t → t ≤ δ → ∀ f ∈ F, ¬ On f.1 f.2 (lp m e t)
  | [], _ => ⟨1, by decide, fun _ _ _ f hf => by cases hf⟩
  | f :: F, h => by
    obtain ⟨δ, d0, hd⟩ := near m e F fun f hf => h f (List.mem_cons_of_mem _ hf)
    obtain ⟨g, g1, g2⟩ := sep_seg (h f (by simp))
    have ab : ∃ k : Rat, 0 < k ∧ (g.at e - g.at m) ≤ k ∧ -(g.at e - g.at m) ≤ k := by
      by_cases c : 0 ≤ g.at e - g.at m
      · exact ⟨g.at e - g.at m + 1, by grind, by grind, by grind⟩
      · exact ⟨-(g.at e - g.at m) + 1, by grind, by grind, by grind⟩
    obtain ⟨k, k0, k1, k2⟩ := ab
    have e1 := rd_mul (a := - g.at m) (b := 2 * k) (by grind)
    have p1 : 0 < - g.at m / (2 * k) := rd_pos (by grind) (by grind)
    generalize - g.at m / (2 * k) = r at e1 p1
    have key : ∀ t, -r ≤ t → t ≤ r → ¬ On f.1 f.2 (lp m e t) := fun t h1 h2 q => by
      have := g2 _ q
      rw [Ag.lp] at this
      by_cases c : 0 ≤ t
      · have a1 := pm c (show 0 ≤ k - (g.at e - g.at m) by grind)
        have a2 := pm (show 0 ≤ r - t by grind) (Rat.le_of_lt k0)
        grind
      · have a1 := pm (show 0 ≤ -t by grind) (show 0 ≤ k + (g.at e - g.at m) by grind)
        have a2 := pm (show 0 ≤ r + t by grind) (Rat.le_of_lt k0)
        grind
    by_cases c : δ ≤ r
    · refine ⟨δ, d0, fun t h1 h2 f' hf => ?_⟩
      rcases List.mem_cons.mp hf with q | q
      · rw [q]; exact key t (by grind) (by grind)
      · exact hd t h1 h2 f' q
    · refine ⟨r, p1, fun t h1 h2 f' hf => ?_⟩
      rcases List.mem_cons.mp hf with q | q
      · rw [q]; exact key t h1 h2
      · exact hd t (by grind) (by grind) f' q
def Off (l : List Pt) (z : Pt) : Prop := ∀ e ∈ cyc l, ¬ On e.1 e.2 z
theorem Rt.off {l m : List Pt} (h : Rt l m) {z : Pt} (o : Off l z) : Off m z := fun e he => o e (h.mem_cyc.mpr he)
theorem Rt.wn {l m : List Pt} (h : Rt l m) (z : Pt) : Rc.wn l z = Rc.wn m z := h.sm _
def mdp (a b : Pt) : Pt := lp a b (1 / 2)
theorem on_lp {m e z : Pt} {s t : Rat} (h : On (lp m e s) (lp m e t) z) : ∃ r, z = lp m e r ∧ ((s ≤ r ∧ r ≤ t) ∨ (t ≤ r ∧ r ≤ s)) := by
  obtain ⟨q, q0, q1, rfl⟩ := h
  refine ⟨s + q * (t - s), Pt.eq (by unfold lp; grind) (by unfold lp; grind), ?_⟩
  by_cases c : s ≤ t
  · left
    have a1 := pm q0 (show 0 ≤ t - s by grind)
    have a2 := pm (show 0 ≤ 1 - q by grind) (show 0 ≤ t - s by grind)
    constructor <;> grind
  · right
    have a1 := pm q0 (show 0 ≤ s - t by grind)
    have a2 := pm (show 0 ≤ 1 - q by grind) (show 0 ≤ s - t by grind)
    constructor <;> grind
/-- over a side: one more on the left -/
theorem jump {a b e : Pt} {M : List Pt} (ho : ∀ f ∈ pth (b :: (M ++ [a])), ¬ On f.1 f.2 (mdp a b)) (he : 0 < det a b e) :
    ∃ δ : Rat, 0 < δ ∧ ∀ t, 0 < t → t ≤ δ → Off (b :: (M ++ [a])) (lp (mdp a b) e t) ∧ Off (b :: (M ++ [a])) (lp (mdp a b) e (-t)) ∧ wn (b :: (M ++ [a])) (lp (mdp a b) e t) = wn (b :: (M ++ [a])) (lp (mdp a b) e (-t)) + 1 := by
  obtain ⟨δ, d0, hd⟩ := near (mdp a b) e _ ho
  refine ⟨δ, d0, fun t t0 t1 => ?_⟩
  have dm : det a b (mdp a b) = 0 := by unfold mdp; rw [det_lp, det_aba, det_abb]; grind
  have dl (s : Rat) : det a b (lp (mdp a b) e s) = s * det a b e := by rw [det_lp, dm]; grind
  have te := pp t0 he
  have off : ∀ s, -δ ≤ s → s ≤ δ → s ≠ 0 → Off (b :: (M ++ [a])) (lp (mdp a b) e s) := fun s h1 h2 h3 f hf => by
    rw [cyc_x, List.mem_append, List.mem_singleton] at hf
    rcases hf with hf | rfl
    · exact hd s h1 h2 f hf
    · intro q
      have := on_det q
      rw [dl] at this
      rcases Rat.mul_eq_zero.mp this with k | k
      · exact h3 k
      · grind
  refine ⟨off t (by grind) t1 (by grind), off (-t) (by grind) (by grind) (by grind), ?_⟩
  have v1 : ∀ s : Rat, det a (lp (mdp a b) e (-2 * t)) (lp (mdp a b) e s) = (s + 2 * t) * (det a b e / 2) := fun s => by
    unfold mdp lp det; grind
  have v2 : ∀ s : Rat, det (lp (mdp a b) e (-2 * t)) b (lp (mdp a b) e s) = (s + 2 * t) * (det a b e / 2) := fun s => by
    unfold mdp lp det; grind
  have v3 : det a (lp (mdp a b) e (-2 * t)) b = 2 * t * det a b e := by
    unfold mdp lp det; grind
  have v4 (s : Rat) : det b a (lp (mdp a b) e s) = - (s * det a b e) := by rw [det_sw, dl]
  have hp : 0 < det a b e / 2 := by grind
  have D : 0 < det a (lp (mdp a b) e (-2 * t)) b := by rw [v3]; grind
  have tw1 : tw a (lp (mdp a b) e (-2 * t)) b (lp (mdp a b) e (-t)) = 1 := (tw_all D).2 (by rw [v1]; exact pp (by grind) hp) (by rw [v2]; exact pp (by grind) hp) (by rw [v4]; grind)
  have tw0 : tw a (lp (mdp a b) e (-2 * t)) b (lp (mdp a b) e t) = 0 := (tw_all D).1 fun i => by
    have := i.r
    rw [v4] at this
    grind
  have same : wn (lp (mdp a b) e (-2 * t) :: b :: (M ++ [a])) (lp (mdp a b) e (-t)) = wn (lp (mdp a b) e (-2 * t) :: b :: (M ++ [a])) (lp (mdp a b) e t) := by
    refine wn_same fun f hf p hp1 hp2 => ?_
    obtain ⟨r, rfl, hr⟩ := on_lp hp2
    have r1 : -t ≤ r ∧ r ≤ t := by
      rcases hr with k | k
      · exact k
      · constructor <;> grind
    rw [cyc_v, List.mem_cons, List.mem_append, List.mem_singleton] at hf
    rcases hf with rfl | hf | rfl
    · have := on_det hp1
      rw [v2] at this
      rcases Rat.mul_eq_zero.mp this with k | k <;> grind
    · exact hd r (by grind) (by grind) f hf hp1
    · have := on_det (on_sw hp1)
      have k := v1 r
      rw [det_sw, this] at k
      have k : (r + 2 * t) * (det a b e / 2) = 0 := by grind
      rcases Rat.mul_eq_zero.mp k with q | q <;> grind
  rw [wn_ear, wn_ear, tw1, tw0] at same
  have z0 : ((0 : Int) : Rat) = 0 := rfl
  have z1 : ((1 : Int) : Rat) = 1 := rfl
  rw [z0, z1] at same
  grind
end Rc
namespace Rc
theorem half01 : (0 : Rat) ≤ 1 / 2 ∧ (1 / 2 : Rat) ≤ 1 := by constructor <;> grind
theorem mdp_on (a b : Pt) : On a b (mdp a b) := ⟨1 / 2, half01.1, half01.2, rfl⟩
theorem mdp_ne {a b : Pt} (h : a ≠ b) : mdp a b ≠ a ∧ mdp a b ≠ b := by
  constructor
  · intro e
    have ex := congrArg Pt.x e
    have ey := congrArg Pt.y e
    unfold mdp lp at ex ey
    exact h (Pt.eq (by grind) (by grind))
  · intro e
    have ex := congrArg Pt.x e
    have ey := congrArg Pt.y e
    unfold mdp lp at ex ey
    exact h (Pt.eq (by grind) (by grind))
theorem on_detp {a b p q z : Pt} (h : On p q z) (hp : 0 < det a b p) (hq : 0 < det a b q) : 0 < det a b z := by
  rw [← gd_at] at *
  exact on_ps h hp hq
theorem on_detn {a b p q z : Pt} (h : On p q z) (hp : 0 ≤ det a b p) (hq : 0 ≤ det a b q) : 0 ≤ det a b z := by
  rw [← gd_at] at *
  exact on_nn h hp hq
section
variable {v b a : Pt} {M : List Pt}
/-- within an empty wedge all is gone round alike -/
theorem wedge_same (s : Simple (v :: b :: (M ++ [a]))) (hM : M ≠ []) (h : 0 < det a v b) (he : ∀ q ∈ M, ¬ InT a v b q) {z w : Pt} (z1 : 0 < det a v z) (z2 : 0 < det v b z) (z3 : 0 ≤ det b a z) (w1 : 0 < det a v w) (w2 : 0 < det v b w) (w3 : 0 ≤ det b a w) :
    wn (v :: b :: (M ++ [a])) z = wn (v :: b :: (M ++ [a])) w := by
  refine wn_same fun f hf p p1 p2 => ?_
  have a1 := on_detp p2 z1 w1
  have a2 := on_detp p2 z2 w2
  have a3 := on_detn p2 z3 w3
  rw [cyc_v, List.mem_cons, List.mem_append, List.mem_singleton] at hf
  rcases hf with rfl | hf | rfl
  · have := on_det p1; grind
  · rcases head_empty s hM h he hf ⟨Rat.le_of_lt a1, Rat.le_of_lt a2, a3⟩ p1 with rfl | rfl
    · rw [det_aba] at a1; exact absurd a1 Rat.lt_irrefl
    · rw [det_abb] at a2; exact absurd a2 Rat.lt_irrefl
  · have := on_det p1; grind
theorem wedge_rest (s : Simple (v :: b :: (M ++ [a]))) (hM : M ≠ []) (h : 0 < det a v b) (he : ∀ q ∈ M, ¬ InT a v b q) {z w : Pt} (z1 : 0 ≤ det a v z) (z2 : 0 ≤ det v b z) (z3 : 0 < det b a z) (w1 : 0 ≤ det a v w) (w2 : 0 ≤ det v b w) (w3 : 0 < det b a w) :
    wn (b :: (M ++ [a])) z = wn (b :: (M ++ [a])) w := by
  refine wn_same fun f hf p p1 p2 => ?_
  have a1 := on_detn p2 z1 w1
  have a2 := on_detn p2 z2 w2
  have a3 := on_detp p2 z3 w3
  rw [cyc_x, List.mem_append, List.mem_singleton] at hf
  rcases hf with hf | rfl
  · rcases head_empty s hM h he hf ⟨a1, a2, Rat.le_of_lt a3⟩ p1 with rfl | rfl
    · rw [det_abb] at a3; exact absurd a3 Rat.lt_irrefl
    · rw [det_aba] at a3; exact absurd a3 Rat.lt_irrefl
  · have := on_det (on_sw p1); grind
/-- in an ear all is gone round -/
theorem ear_in (s : Simple (v :: b :: (M ++ [a]))) (hM : M ≠ []) (h : 0 < det a v b) (he : ∀ q ∈ M, ¬ InT a v b q) (hp : ∀ z, Off (v :: b :: (M ++ [a])) z → 0 ≤ wn (v :: b :: (M ++ [a])) z) {q : Pt} (z1 : 0 < det a v q) (z2 : 0 < det v b q) (z3 : 0 ≤ det b a q) : 1 ≤ wn (v :: b :: (M ++ [a])) q := by
  obtain ⟨n1, n2, n3, n4, n5, n6⟩ := head_nd s
  have nm := mdp_ne (fun e => n2 e.symm : a ≠ v)
  have D2 : det v b (mdp a v) = det a v b / 2 := by unfold mdp lp det; grind
  have D3 : det b a (mdp a v) = det a v b / 2 := by unfold mdp lp det; grind
  have D1 : det a v (mdp a v) = 0 := on_det (mdp_on a v)
  have ho : ∀ f ∈ pth (v :: (b :: M ++ [a])), ¬ On f.1 f.2 (mdp a v) := by
    intro f hf k
    rw [show v :: (b :: M ++ [a]) = v :: b :: (M ++ [a]) by simp] at hf
    rcases List.mem_cons.mp hf with rfl | hf
    · have := on_det k; grind
    · rcases (head_nt s hf).p _ k (mdp_on a v) with ⟨_, e | e⟩
      · exact nm.1 e
      · exact nm.2 e
  obtain ⟨δ, d0, hd⟩ := jump (a := a) (b := v) (e := b) (M := b :: M) ho h
  obtain ⟨t, t0, t1, t2⟩ : ∃ t : Rat, 0 < t ∧ t ≤ δ ∧ t < 1 := by
    by_cases c : δ < 1
    · exact ⟨δ, d0, Rat.le_refl, c⟩
    · exact ⟨1 / 2, by grind, by grind, by grind⟩
  obtain ⟨_, o2, e⟩ := hd t t0 t1
  rw [show v :: (b :: M ++ [a]) = v :: b :: (M ++ [a]) by simp] at o2 e
  have := hp _ o2
  have k1 : 0 < det a v (lp (mdp a v) b t) := by rw [det_lp, D1]; have := pp t0 h; grind
  have k2 : 0 < det v b (lp (mdp a v) b t) := by rw [det_lp, D2, det_abb]; have := pp (show 0 < 1 - t by grind) (show 0 < det a v b / 2 by grind); grind
  have k3 : 0 ≤ det b a (lp (mdp a v) b t) := by rw [det_lp, D3, det_aba]; have := pp (show 0 < 1 - t by grind) (show 0 < det a v b / 2 by grind); grind
  rw [wedge_same s hM h he z1 z2 z3 k1 k2 k3, e]
  grind
/-- behind an ear: one more than within -/
theorem cut_jump (s : Simple (v :: b :: (M ++ [a]))) (hM : M ≠ []) (h : 0 < det a v b) (he : ∀ q ∈ M, ¬ InT a v b q) :
    ∃ q0 q1, Off (b :: (M ++ [a])) q0 ∧ 0 < det a v q1 ∧ 0 < det v b q1 ∧ 0 < det b a q1 ∧ wn (b :: (M ++ [a])) q0 = wn (b :: (M ++ [a])) q1 + 1 := by
  obtain ⟨n1, n2, n3, n4, n5, n6⟩ := head_nd s
  have nm := mdp_ne (fun e => n3 e.symm : a ≠ b)
  have D1 : det a v (mdp a b) = det a v b / 2 := by unfold mdp lp det; grind
  have D2 : det v b (mdp a b) = det a v b / 2 := by unfold mdp lp det; grind
  have D3 : det b a (mdp a b) = 0 := on_det (on_sw (mdp_on a b))
  have ho : ∀ f ∈ pth (b :: (M ++ [a])), ¬ On f.1 f.2 (mdp a b) := by
    intro f hf k
    rcases head_empty s hM h he hf ⟨by rw [D1]; grind, by rw [D2]; grind, by rw [D3]; exact Rat.le_refl⟩ k with e | e
    · exact nm.1 e
    · exact nm.2 e
  have De : det a b (lp v (mdp a b) 2) = det a v b := by unfold mdp lp det; grind
  obtain ⟨δ, d0, hd⟩ := jump (a := a) (b := b) (e := lp v (mdp a b) 2) (M := M) ho (by rw [De]; exact h)
  obtain ⟨t, t0, t1, t2⟩ : ∃ t : Rat, 0 < t ∧ t ≤ δ ∧ t < 1 := by
    by_cases c : δ < 1
    · exact ⟨δ, d0, Rat.le_refl, c⟩
    · exact ⟨1 / 2, by grind, by grind, by grind⟩
  obtain ⟨o1, _, e⟩ := hd t t0 t1
  refine ⟨_, _, o1, ?_, ?_, ?_, e⟩
  · have : det a v (lp (mdp a b) (lp v (mdp a b) 2) (-t)) = (1 - t) * (det a v b / 2) := by unfold mdp lp det; grind
    rw [this]; exact pp (by grind) (by grind)
  · have : det v b (lp (mdp a b) (lp v (mdp a b) 2) (-t)) = (1 - t) * (det a v b / 2) := by unfold mdp lp det; grind
    rw [this]; exact pp (by grind) (by grind)
  · have : det b a (lp (mdp a b) (lp v (mdp a b) 2) (-t)) = t * det a v b := by unfold mdp lp det; grind
    rw [this]; exact pp t0 h
end
/-! ### the other way round -/
def swp (e : Pt × Pt) : Pt × Pt := (e.2, e.1)
theorem pth_rev : ∀ l : List Pt, pth l.reverse = ((pth l).map swp).reverse
  | [] => rfl
  | [a] => rfl
  | a :: b :: r => by
    rw [List.reverse_cons, List.reverse_cons, pth_snoc, ← List.reverse_cons, pth_rev (b :: r)]
    show _ = (swp (a, b) :: (pth (b :: r)).map swp).reverse
    rw [List.reverse_cons]
    rfl
theorem cyc_rev (v : Pt) (X : List Pt) : cyc (v :: X.reverse) = ((cyc (v :: X)).map swp).reverse := by
  show pth (v :: X.reverse ++ [v]) = _
  rw [show v :: X.reverse ++ [v] = (v :: X ++ [v]).reverse by simp, pth_rev]
  rfl
theorem rev_mem {v : Pt} {X : List Pt} {e : Pt × Pt} : e ∈ cyc (v :: X.reverse) ↔ swp e ∈ cyc (v :: X) := by
  rw [cyc_rev, List.mem_reverse, List.mem_map]
  constructor
  · rintro ⟨f, hf, rfl⟩; exact hf
  · intro h; exact ⟨swp e, h, rfl⟩
theorem sm_rev (f : Pt → Pt → Rat) : ∀ l : List (Pt × Pt), sm f l.reverse = sm f l
  | [] => rfl
  | e :: r => by
    rw [List.reverse_cons, sm_app, sm_rev f r]
    show _ + (f e.1 e.2 + 0) = f e.1 e.2 + _
    grind
theorem sm_swp {f : Pt → Pt → Rat} (ha : ∀ a b, f b a = - f a b) : ∀ l : List (Pt × Pt), sm f (l.map swp) = - sm f l
  | [] => by show (0 : Rat) = -0; grind
  | e :: r => by
    show f e.2 e.1 + sm f (r.map swp) = - (f e.1 e.2 + sm f r)
    rw [sm_swp ha r, ha]
    grind
theorem wn_rev (v : Pt) (X : List Pt) (z : Pt) : wn (v :: X.reverse) z = - wn (v :: X) z := by
  unfold wn
  rw [cyc_rev, sm_rev, sm_swp (chi_anti z)]
theorem ar_rev (v : Pt) (X : List Pt) : ar (v :: X.reverse) = - ar (v :: X) := by
  unfold ar
  rw [cyc_rev, sm_rev, sm_swp ar_anti]
theorem swp_swp (e : Pt × Pt) : swp (swp e) = e := rfl
theorem Simple.rev {v : Pt} {X : List Pt} (s : Simple (v :: X)) : Simple (v :: X.reverse) := by
  refine ⟨by simpa using s.len, ?_, fun e he f hf hne z h1 h2 => ?_⟩
  · have := s.nd
    rw [List.nodup_cons] at this ⊢
    exact ⟨by simpa using this.1, List.pairwise_reverse.mpr (List.Pairwise.imp (fun h e => h e.symm) this.2)⟩
  · have := s.ap (swp e) (rev_mem.mp he) (swp f) (rev_mem.mp hf) (fun q => hne (by rw [← swp_swp e, q, swp_swp])) z (on_sw h1) (on_sw h2)
    exact ⟨this.1.symm, this.2.symm⟩
theorem off_rev {v : Pt} {X : List Pt} {z : Pt} (h : Off (v :: X) z) : Off (v :: X.reverse) z := fun e he k => h (swp e) (rev_mem.mp he) (on_sw k)
/-! ### the topmost corner, of like ones the rightmost -/
def lt2 (p v : Pt) : Prop := p.y < v.y ∨ (p.y = v.y ∧ p.x < v.x)
theorem lt2_le {p v : Pt} (h : lt2 p v) : p.y ≤ v.y := by unfold lt2 at h; grind
theorem top_ex : ∀ l : List Pt, l ≠ [] → ∃ v ∈ l, ∀ x ∈ l, x = v ∨ lt2 x v
  | [a], _ => ⟨a, by simp, fun x hx => .inl (List.mem_singleton.mp hx)⟩
  | a :: b :: r, _ => by
    obtain ⟨v, h1, h2⟩ := top_ex (b :: r) (by simp)
    have tri : a = v ∨ lt2 a v ∨ lt2 v a := by
      unfold lt2
      by_cases k : a.y = v.y
      · by_cases k2 : a.x = v.x
        · exact .inl (Pt.eq k2 k)
        · right; grind
      · right; grind
    rcases tri with e | e | e
    · exact ⟨v, List.mem_cons_of_mem _ h1, fun x hx => (List.mem_cons.mp hx).elim (fun q => .inl (q.trans e)) (h2 x)⟩
    · exact ⟨v, List.mem_cons_of_mem _ h1, fun x hx => (List.mem_cons.mp hx).elim (fun q => .inr (by rw [q]; exact e)) (h2 x)⟩
    · refine ⟨a, by simp, fun x hx => (List.mem_cons.mp hx).elim .inl fun q => .inr ?_⟩
      rcases h2 x q with rfl | k
      · exact e
      · unfold lt2 at *; grind
theorem det_idy (a v b z : Pt) : det v b z * (z.y - a.y) + det b a z * (z.y - v.y) + det a v z * (z.y - b.y) = 0 := by unfold det; grind
theorem top_out {p q r v : Pt} (h : 0 < det p q r) (h1 : lt2 p v) (h2 : lt2 q v) (h3 : lt2 r v) : ¬ InT p q r v := by
  intro i
  have s := det_sum p q r v
  have ex := det_id p q r v
  have ey := det_idy p q r v
  obtain ⟨a1, a2, a3⟩ := i
  have y1 := pm a2 (show 0 ≤ v.y - p.y by have := lt2_le h1; grind)
  have y2 := pm a3 (show 0 ≤ v.y - q.y by have := lt2_le h2; grind)
  have y3 := pm a1 (show 0 ≤ v.y - r.y by have := lt2_le h3; grind)
  have z1 : det q r v * (v.y - p.y) = 0 := by grind
  have z2 : det r p v * (v.y - q.y) = 0 := by grind
  have z3 : det p q v * (v.y - r.y) = 0 := by grind
  have key (w : Pt) (k : Rat) (h : lt2 w v) (hk : 0 ≤ k) (z : k * (v.y - w.y) = 0) : 0 ≤ k * (v.x - w.x) ∧ (0 < k → 0 < k * (v.x - w.x)) := by
    rcases Rat.mul_eq_zero.mp z with e | e
    · rw [e]; constructor
      · rw [Rat.zero_mul]; exact Rat.le_refl
      · intro q; exact absurd q Rat.lt_irrefl
    · have : 0 < v.x - w.x := by unfold lt2 at h; grind
      exact ⟨pm hk (Rat.le_of_lt this), fun q => pp q this⟩
  have k1 := key p _ h1 a2 z1
  have k2 := key q _ h2 a3 z2
  have k3 := key r _ h3 a1 z3
  by_cases c1 : 0 < det q r v
  · have := k1.2 c1; grind
  · by_cases c2 : 0 < det r p v
    · have := k2.2 c2; grind
    · by_cases c3 : 0 < det p q v
      · have := k3.2 c3; grind
      · grind
theorem top_flat {a b v : Pt} (h1 : lt2 a v) (h2 : lt2 b v) (h : det a v b = 0) : On v a b ∨ On v b a := by
  have hd : (v.x - a.x) * (v.y - b.y) = (v.y - a.y) * (v.x - b.x) := by unfold det at h; grind
  have key (p q : Pt) (hp : 0 < v.y - p.y) (hq : 0 < v.y - q.y) (le : v.y - q.y ≤ v.y - p.y) (e : (v.x - p.x) * (v.y - q.y) = (v.y - p.y) * (v.x - q.x)) : On v p q := by
    have e1 := rd_mul (a := v.y - q.y) (b := v.y - p.y) (by grind)
    refine ⟨(v.y - q.y) / (v.y - p.y), rd_nn (Rat.le_of_lt hq) hp, rd_le1 le hp, ?_⟩
    generalize (v.y - q.y) / (v.y - p.y) = t at e1
    have nz : v.y - p.y ≠ 0 := by grind
    refine Pt.eq ?_ (by unfold lp; grind)
    have : (v.y - p.y) * (q.x - (v.x + t * (p.x - v.x))) = 0 := by grind
    have := (Rat.mul_eq_zero.mp this).resolve_left nz
    unfold lp
    grind
  have keyx (p q : Pt) (py : p.y = v.y) (qy : q.y = v.y) (hp : 0 < v.x - p.x) (hq : 0 < v.x - q.x) (le : v.x - q.x ≤ v.x - p.x) : On v p q := by
    have e1 := rd_mul (a := v.x - q.x) (b := v.x - p.x) (by grind)
    refine ⟨(v.x - q.x) / (v.x - p.x), rd_nn (Rat.le_of_lt hq) hp, rd_le1 le hp, ?_⟩
    generalize (v.x - q.x) / (v.x - p.x) = t at e1
    exact Pt.eq (by unfold lp; grind) (by unfold lp; grind)
  unfold lt2 at h1 h2
  rcases h1 with h1 | ⟨h1, h1'⟩
  · rcases h2 with h2 | ⟨h2, h2'⟩
    · by_cases c : v.y - b.y ≤ v.y - a.y
      · exact .inl (key a b (by grind) (by grind) c hd)
      · exact .inr (key b a (by grind) (by grind) (by grind) (by grind))
    · exfalso
      have := pp (show 0 < v.y - a.y by grind) (show 0 < v.x - b.x by grind)
      rw [h2] at hd
      grind
  · rcases h2 with h2 | ⟨h2, h2'⟩
    · exfalso
      have := pp (show 0 < v.y - b.y by grind) (show 0 < v.x - a.x by grind)
      rw [h1] at hd
      grind
    · by_cases c : v.x - b.x ≤ v.x - a.x
      · exact .inl (keyx a b h1 h2 (by grind) (by grind) c)
      · exact .inr (keyx b a h2 h1 (by grind) (by grind) (by grind))
end Rc
namespace Rc
structure IsEar (l : List Pt) (p u q : Pt) : Prop where
  i : (p, u) ∈ cyc l
  o : (u, q) ∈ cyc l
  d : 0 < det p u q
  e : ∀ w ∈ l, InT p u q w → w = p ∨ w = u ∨ w = q
structure Good (l : List Pt) : Prop where
  pos : ∀ z, Off l z → 0 ≤ wn l z
  ear : ∀ e ∈ cyc l, ∃ p u q, IsEar l p u q ∧ u ≠ e.1 ∧ u ≠ e.2
  area : 0 < ar l
theorem Rt.ar {l m : List Pt} (h : Rt l m) : Rc.ar l = Rc.ar m := h.sm _
theorem Rt.ear {l m : List Pt} (h : Rt l m) {p u q : Pt} (k : IsEar l p u q) : IsEar m p u q := ⟨h.mem_cyc.mp k.i, h.mem_cyc.mp k.o, k.d, fun w hw => k.e w (h.mem.mpr hw)⟩
theorem Rt.good {l m : List Pt} (h : Rt l m) (g : Good l) : Good m := ⟨fun z hz => by rw [← h.wn]; exact g.pos z (h.symm.off hz), fun e he => by
  obtain ⟨p, u, q, h1, h2⟩ := g.ear e (h.mem_cyc.mpr he)
  exact ⟨p, u, q, h.ear h1, h2⟩, by rw [← h.ar]; exact g.area⟩
theorem shape2 {X : List Pt} (h : 2 ≤ X.length) : ∃ b M a, X = b :: (M ++ [a]) := by
  match X, h with
  | b :: c :: r, _ => exact ⟨b, (c :: r).dropLast, (c :: r).getLast (by simp), by rw [List.dropLast_concat_getLast]⟩
theorem ear_shape {l : List Pt} (s : Simple l) {p u q : Pt} (k : IsEar l p u q) : ∃ M, Rt l (u :: q :: (M ++ [p])) := by
  obtain ⟨X, r⟩ := rt_head (cyc_mem k.i).2
  have hl := s.len
  rw [r.len] at hl
  obtain ⟨b, M, a, rfl⟩ := shape2 (X := X) (by simp at hl; omega)
  have s' := r.simple s
  have h1 := r.mem_cyc.mp k.i
  have h2 := r.mem_cyc.mp k.o
  have e1 : b = q := out_uniq s'.nd (u := u) (by rw [cyc_v]; simp) h2
  have e2 : a = p := in_uniq s'.nd (u := u) (by rw [cyc_v]; simp) h1
  subst e1; subst e2
  exact ⟨M, r⟩
def PP (n : Nat) : Prop := ∀ v b M a, M.length = n → Simple (v :: b :: (M ++ [a])) → (∀ x ∈ b :: (M ++ [a]), lt2 x v) → 0 < det a v b → Good (v :: b :: (M ++ [a]))
theorem top_shape {X : List Pt} {k : Nat} (s : Simple X) (hl : X.length = k + 3) : ∃ v b M a, Rt X (v :: b :: (M ++ [a])) ∧ M.length = k ∧ (∀ x ∈ b :: (M ++ [a]), lt2 x v) ∧ det a v b ≠ 0 := by
  obtain ⟨v, hv, ht⟩ := top_ex X (by rintro rfl; simp at hl)
  obtain ⟨Y, r⟩ := rt_head hv
  have hl2 := r.len
  obtain ⟨b, M, a, rfl⟩ := shape2 (X := Y) (by simp at hl2; omega)
  have s' := r.simple s
  obtain ⟨n1, n2, n3, n4, n5, n6⟩ := head_nd s'
  have top : ∀ x ∈ b :: (M ++ [a]), lt2 x v := fun x hx => (ht x (r.mem.mpr (List.mem_cons_of_mem _ hx))).resolve_left fun e => by
    have := s'.nd
    rw [List.nodup_cons] at this
    exact this.1 (e ▸ hx)
  refine ⟨v, b, M, a, r, by simp at hl2; omega, top, fun z => ?_⟩
  have e1 : (v, b) ∈ cyc (v :: b :: (M ++ [a])) := by rw [cyc_v]; simp
  have e2 : (a, v) ∈ cyc (v :: b :: (M ++ [a])) := by rw [cyc_v]; simp
  have ne : (v, b) ≠ (a, v) := fun q => n2 (by injection q)
  rcases top_flat (top a (by simp)) (top b (by simp)) z with k | k
  · rcases (s'.ap _ e1 _ e2 ne b (on_r v b) (on_sw k)).2 with q | q
    · exact n3 q
    · exact n1 q.symm
  · rcases (s'.ap _ e1 _ e2 ne a k (on_l a v)).1 with q | q
    · exact n2 q.symm
    · exact n3 q.symm
theorem orient {k : Nat} (hP : PP k) {X : List Pt} (s : Simple X) (hl : X.length = k + 3) (dec : (∃ q0, Off X q0 ∧ 0 < wn X q0) ∨ 0 < ar X) : Good X := by
  obtain ⟨v, b, M, a, r, hM, top, hd⟩ := top_shape s hl
  have s' := r.simple s
  by_cases c : 0 < det a v b
  · exact r.symm.good (hP v b M a hM s' top c)
  · exfalso
    have e : (b :: (M ++ [a])).reverse = a :: (M.reverse ++ [b]) := by simp
    have g := hP v a M.reverse b (by simpa using hM) (by rw [← e]; exact s'.rev) (fun x hx => top x (by rw [← e, List.mem_reverse] at hx; exact hx)) (by
      have : det b v a = - det a v b := by unfold det; grind
      rw [this]; grind)
    rw [← e] at g
    rcases dec with ⟨q0, o, h⟩ | h
    · have := g.pos q0 (off_rev (r.off o))
      rw [wn_rev, ← r.wn] at this
      grind
    · have := g.area
      rw [ar_rev, ← r.ar] at this
      grind
theorem tri_pos {a v b z : Pt} (h : 0 < det a v b) (h1 : ¬ On a v z) (h2 : ¬ On v b z) (h3 : ¬ On b a z) : (InT a v b z → tw a v b z = 1) ∧ (0 : Rat) ≤ ((tw a v b z : Int) : Rat) := by
  have key : InT a v b z → tw a v b z = 1 := fun i => by
    have p : det a v z ≠ 0 := fun q => h1 (on_av h q i.q i.r)
    have q : det v b z ≠ 0 := fun k => h2 (on_vb h i.p k i.r)
    have r : det b a z ≠ 0 := fun k => h3 (on_av (a := b) (v := a) (b := v) (by rw [← det_cyc, ← det_cyc]; exact h) k i.p i.q)
    have i1 := i.p
    have i2 := i.q
    have i3 := i.r
    exact (tw_all h).2 (by grind) (by grind) (by grind)
  refine ⟨key, ?_⟩
  by_cases i : InT a v b z
  · rw [key i]; show (0 : Rat) ≤ 1; decide
  · rw [(tw_all h).1 i]; exact Rat.le_refl
theorem ex_maxP (p : Pt → Prop) (g : Pt → Rat) : ∀ l : List Pt, (∃ q ∈ l, p q) → ∃ y ∈ l, p y ∧ ∀ q ∈ l, p q → g q ≤ g y
  | [], h => by obtain ⟨q, hq, _⟩ := h; cases hq
  | a :: r, h => by
    by_cases c : ∃ q ∈ r, p q
    · obtain ⟨y, h1, h2, h3⟩ := ex_maxP p g r c
      by_cases d : p a ∧ g y < g a
      · exact ⟨a, by simp, d.1, fun q hq hp => (List.mem_cons.mp hq).elim (fun e => by rw [e]; exact Rat.le_refl) fun e => by have := h3 q e hp; grind⟩
      · exact ⟨y, List.mem_cons_of_mem _ h1, h2, fun q hq hp => (List.mem_cons.mp hq).elim (fun e => by subst e; grind) fun e => h3 q e hp⟩
    · obtain ⟨q, hq, hp⟩ := h
      rcases List.mem_cons.mp hq with e | e
      · subst e
        exact ⟨q, by simp, hp, fun w hw hp' => (List.mem_cons.mp hw).elim (fun e => by rw [e]; exact Rat.le_refl) fun e => absurd ⟨w, e, hp'⟩ c⟩
      · exact absurd ⟨q, e, hp⟩ c
theorem chain_const (L : List Pt) : ∀ (l : List Pt) (c : Pt), (∀ f ∈ pth (c :: l), wn L f.1 = wn L f.2) → ∀ w ∈ c :: l, wn L w = wn L c
  | [], c, _, w, hw => by rw [List.mem_singleton.mp hw]
  | d :: r, c, h, w, hw => by
    rcases List.mem_cons.mp hw with e | e
    · rw [e]
    · rw [chain_const L r d (fun f hf => h f (List.mem_cons_of_mem _ hf)) w e]
      exact (h (c, d) (by simp [pth])).symm
theorem out_edge {l : List Pt} {y : Pt} (h : y ∈ l) : ∃ f ∈ cyc l, f.1 = y := by
  rw [← cyc_fst l] at h
  obtain ⟨f, hf, e⟩ := List.mem_map.mp h
  exact ⟨f, hf, e⟩
/-- a corner lies on its own two sides alone -/
theorem vertex_on {l : List Pt} (s : Simple l) {y : Pt} (hy : y ∈ l) {f : Pt × Pt} (hf : f ∈ cyc l) (ho : On f.1 f.2 y) : y = f.1 ∨ y = f.2 := by
  obtain ⟨g, hg, e⟩ := out_edge hy
  by_cases c : f = g
  · left; rw [c]; exact e.symm
  · exact (s.ap f hf g hg c y ho (by rw [← e]; exact on_l _ _)).1
section
variable {v b a : Pt} {M : List Pt}
/-- a wedge with nothing in it, at the top -/
theorem main_empty {k : Nat} (hk : M.length = k + 1) (hP : PP k) (s : Simple (v :: b :: (M ++ [a]))) (top : ∀ x ∈ b :: (M ++ [a]), lt2 x v) (h : 0 < det a v b) (he : ∀ q ∈ M, ¬ InT a v b q) : Good (v :: b :: (M ++ [a])) := by
  obtain ⟨n1, n2, n3, n4, n5, n6⟩ := head_nd s
  have hM : M ≠ [] := by rintro rfl; simp at hk
  have sX := head_cut s hM h he
  obtain ⟨q0, q1, o0, r1, r2, r3, e⟩ := cut_jump s hM h he
  have v1 : 0 ≤ det a v v := by rw [det_abb]; exact Rat.le_refl
  have v2 : 0 ≤ det v b v := by rw [det_aba]; exact Rat.le_refl
  have v3 : 0 < det b a v := by rw [← det_cyc, ← det_cyc]; exact h
  have w0 : wn (b :: (M ++ [a])) v = 0 := wn_top fun x hx => lt2_le (top x hx)
  have in0 {z : Pt} (z1 : 0 ≤ det a v z) (z2 : 0 ≤ det v b z) (z3 : 0 < det b a z) : wn (b :: (M ++ [a])) z = 0 := by rw [wedge_rest s hM h he z1 z2 z3 v1 v2 v3, w0]
  have gX : Good (b :: (M ++ [a])) := orient hP sX (by simp; omega) (.inl ⟨q0, o0, by
    rw [e, in0 (Rat.le_of_lt r1) (Rat.le_of_lt r2) r3]; grind⟩)
  refine ⟨fun z hz => ?_, fun f hf => ?_, ?_⟩
  · have za : ¬ On a v z := hz (a, v) (by rw [cyc_v]; simp)
    have zb : ¬ On v b z := hz (v, b) (by rw [cyc_v]; simp)
    by_cases i : InT a v b z
    · have p : det a v z ≠ 0 := fun q => za (on_av h q i.q i.r)
      have q : det v b z ≠ 0 := fun k => zb (on_vb h i.p k i.r)
      have i1 := i.p
      have i2 := i.q
      rw [wedge_same s hM h he (z := z) (w := q1) (by grind) (by grind) i.r r1 r2 (Rat.le_of_lt r3), wn_ear, in0 (Rat.le_of_lt r1) (Rat.le_of_lt r2) r3, (tw_all h).2 r1 r2 r3]
      show (0 : Rat) ≤ 0 + 1
      grind
    · have oX : Off (b :: (M ++ [a])) z := fun g hg => by
        rw [cyc_x, List.mem_append, List.mem_singleton] at hg
        rcases hg with hg | rfl
        · exact hz g (by rw [cyc_v]; simp [hg])
        · intro k
          refine i ⟨?_, ?_, ?_⟩
          · exact on_detn k (by rw [det_aba]; exact Rat.le_refl) (Rat.le_of_lt h)
          · exact on_detn k (by rw [← det_cyc]; exact Rat.le_of_lt h) (by rw [det_abb]; exact Rat.le_refl)
          · rw [on_det (on_sw k)]; exact Rat.le_refl
      have := gX.pos z oX
      rw [wn_ear, (tw_all h).1 i]
      show (0 : Rat) ≤ _ + 0
      grind
  · by_cases c : v = f.1 ∨ v = f.2
    · obtain ⟨p, u, q, k, k1, k2⟩ := gX.ear (a, b) (by rw [cyc_x]; simp)
      have hu := (cyc_mem k.i).2
      have e1 := k.i
      have e2 := k.o
      have hp := (cyc_mem k.i).1
      have hq := (cyc_mem k.o).2
      rw [cyc_x, List.mem_append, List.mem_singleton] at e1 e2
      have e1 := e1.resolve_right fun z => k2 (by injection z)
      have e2 := e2.resolve_right fun z => k1 (by injection z)
      refine ⟨p, u, q, ⟨by rw [cyc_v]; simp [e1], by rw [cyc_v]; simp [e2], k.d, fun w hw hi => ?_⟩, ?_⟩
      · rcases List.mem_cons.mp hw with rfl | hw
        · exact absurd hi (top_out k.d (top p hp) (top u hu) (top q hq))
        · exact k.e w hw hi
      · have uv : u ≠ v := fun q => by
          have := s.nd
          rw [List.nodup_cons] at this
          exact this.1 (q ▸ hu)
        rw [cyc_v, List.mem_cons, List.mem_append, List.mem_singleton] at hf
        rcases hf with rfl | hf | rfl
        · exact ⟨uv, k2⟩
        · exfalso
          have := pth_mem hf
          have nd := s.nd
          rw [List.nodup_cons] at nd
          rcases c with q | q
          · exact nd.1 (by rw [q]; exact this.1)
          · exact nd.1 (by rw [q]; exact this.2)
        · exact ⟨k1, uv⟩
    · refine ⟨a, v, b, ⟨by rw [cyc_v]; simp, by rw [cyc_v]; simp, h, fun w hw hi => ?_⟩, fun q => c (.inl q), fun q => c (.inr q)⟩
      rcases List.mem_cons.mp hw with q | hw
      · exact .inr (.inl q)
      · rcases List.mem_cons.mp hw with q | hw
        · exact .inr (.inr q)
        · rcases List.mem_append.mp hw with q | q
          · exact absurd hi (he w q)
          · exact .inl (List.mem_singleton.mp q)
  · rw [ar_ear]
    have := gX.area
    grind
/-- three corners -/
theorem main_three (s : Simple [v, b, a]) (h : 0 < det a v b) : Good [v, b, a] := by
  have hc : cyc [v, b, a] = [(v, b), (b, a), (a, v)] := rfl
  have n : v ≠ b ∧ v ≠ a ∧ b ≠ a := by
    have := s.nd
    simp at this
    exact ⟨this.1.1, this.1.2, this.2⟩
  have e (z : Pt) : wn [v, b, a] z = ((tw a v b z : Int) : Rat) := by
    show ((chi v b z : Int) : Rat) + (((chi b a z : Int) : Rat) + (((chi a v z : Int) : Rat) + 0)) = _
    unfold tw
    rw [Rat.intCast_add, Rat.intCast_add]
    grind
  refine ⟨fun z hz => ?_, fun f hf => ?_, ?_⟩
  · rw [e]
    exact (tri_pos h (hz (a, v) (by rw [hc]; simp)) (hz (v, b) (by rw [hc]; simp)) (hz (b, a) (by rw [hc]; simp))).2
  · have all {p u q : Pt} (hp : ∀ w ∈ [v, b, a], w = p ∨ w = u ∨ w = q) (h1 : (p, u) ∈ cyc [v, b, a]) (h2 : (u, q) ∈ cyc [v, b, a]) (hd : 0 < det p u q) : IsEar [v, b, a] p u q := ⟨h1, h2, hd, fun w hw _ => hp w hw⟩
    have d2 : 0 < det v b a := by rw [← det_cyc]; exact h
    have d3 : 0 < det b a v := by rw [← det_cyc]; exact d2
    rw [hc] at hf
    rcases List.mem_cons.mp hf with rfl | hf
    · exact ⟨b, a, v, all (by intro w hw; simp at hw; grind) (by rw [hc]; simp) (by rw [hc]; simp) d3, fun q => n.2.1 q.symm, fun q => n.2.2 q.symm⟩
    · rcases List.mem_cons.mp hf with rfl | hf
      · exact ⟨a, v, b, all (by intro w hw; simp at hw; grind) (by rw [hc]; simp) (by rw [hc]; simp) h, n.1, n.2.1⟩
      · rw [List.mem_singleton.mp hf]
        exact ⟨v, b, a, all (by intro w hw; simp at hw; grind) (by rw [hc]; simp) (by rw [hc]; simp) d2, n.2.2, fun q => n.1 q.symm⟩
  · show 0 < (v.x * b.y - v.y * b.x) + ((b.x * a.y - b.y * a.x) + ((a.x * v.y - a.y * v.x) + 0))
    unfold det at h
    grind
end
end Rc
namespace Rc
theorem pth_l {f : Pt × Pt} {m : List Pt} (h : f ∈ pth m) : ∀ p : List Pt, f ∈ pth (p ++ m)
  | [] => h
  | [x] => by
    match m, h with
    | a :: b :: r, h => exact List.mem_cons_of_mem _ h
  | x :: y :: p => by
    have := pth_l h (y :: p)
    exact List.mem_cons_of_mem _ this
theorem pth_r {f : Pt × Pt} : ∀ {m : List Pt} (q : List Pt), f ∈ pth m → f ∈ pth (m ++ q)
  | a :: b :: r, q, h => by
    rcases List.mem_cons.mp h with e | e
    · rw [e]; exact List.mem_cons_self
    · exact List.mem_cons_of_mem _ (pth_r (m := b :: r) q e)
theorem ear_wn {l : List Pt} (s : Simple l) (g : Good l) {p u q w : Pt} (k : IsEar l p u q) (o : Off l w) (i : InT p u q w) : 1 ≤ wn l w := by
  obtain ⟨M, r⟩ := ear_shape s k
  have s' := r.simple s
  have k' := r.ear k
  have o' := r.off o
  have g' := r.good g
  rw [r.wn]
  by_cases hM : M = []
  · subst hM
    have hc : cyc (u :: q :: ([] ++ [p])) = [(u, q), (q, p), (p, u)] := rfl
    have e : wn (u :: q :: ([] ++ [p])) w = ((tw p u q w : Int) : Rat) := by
      show ((chi u q w : Int) : Rat) + (((chi q p w : Int) : Rat) + (((chi p u w : Int) : Rat) + 0)) = _
      unfold tw
      rw [Rat.intCast_add, Rat.intCast_add]
      grind
    rw [e, (tri_pos k.d (o' (p, u) (by rw [hc]; simp)) (o' (u, q) (by rw [hc]; simp)) (o' (q, p) (by rw [hc]; simp))).1 i]
    exact Rat.le_refl
  · obtain ⟨n1, n2, n3, n4, n5, n6⟩ := head_nd s'
    have h1 : det p u w ≠ 0 := fun z => o' (p, u) (by rw [cyc_v]; simp) (on_av k.d z i.q i.r)
    have h2 : det u q w ≠ 0 := fun z => o' (u, q) (by rw [cyc_v]; simp) (on_vb k.d i.p z i.r)
    have i1 := i.p
    have i2 := i.q
    refine ear_in s' hM k.d (fun x hx hi => ?_) g'.pos (by grind) (by grind) i.r
    rcases k'.e x (by simp [hx]) hi with e | e | e
    · exact n6 (e ▸ hx)
    · exact n4 (e ▸ hx)
    · exact n5 (e ▸ hx)
/-- one side of a way across -/
theorem side {l L O : List Pt} {v y : Pt} {d : Pt × Pt} (s : Simple l) (hd : (d.1 = v ∧ d.2 = y) ∨ (d.1 = y ∧ d.2 = v)) (sL : Simple L) (gL : Good L) (hdL : d ∈ cyc L) (sub : ∀ e ∈ cyc L, e ∈ cyc l ∨ e = d)
    (S4 : ∀ f ∈ cyc l, ∀ z, On f.1 f.2 z → On v y z → (z = v ∨ z = y) ∧ (z = f.1 ∨ z = f.2)) (hO : ∀ w ∈ O, w ∈ l ∧ w ∉ L) (all : ∀ w ∈ l, w ∈ L ∨ w ∈ O) (hv : v ∈ L ∧ y ∈ L) (ch : ∀ f ∈ pth O, f ∈ cyc l) (z0 : ∃ o ∈ O, wn L o = 0) :
    ∃ p u q, IsEar l p u q ∧ u ∈ L ∧ u ≠ v ∧ u ≠ y := by
  have ond {z : Pt} (h : On d.1 d.2 z) : On v y z := by
    rcases hd with ⟨e1, e2⟩ | ⟨e1, e2⟩
    · rw [e1, e2] at h; exact h
    · rw [e1, e2] at h; exact on_sw h
  have zero : ∀ w ∈ O, wn L w = 0 := by
    obtain ⟨o, ho, z0⟩ := z0
    match O, hO, ch, ho with
    | c :: r, hO, ch, ho =>
      have key := chain_const L r c fun f hf => wn_same fun e he p h1 h2 => by
        have m := pth_mem hf
        have m1 := (hO _ m.1).2
        have m2 := (hO _ m.2).2
        have me := cyc_mem he
        rcases sub e he with k | k
        · have := s.ap e k f (ch f hf) (fun q => m1 (by rw [← q]; exact me.1)) p h1 h2
          rcases this.1 with q | q <;> rcases this.2 with r | r
          · exact m1 (by rw [← r, q]; exact me.1)
          · exact m2 (by rw [← r, q]; exact me.1)
          · exact m1 (by rw [← r, q]; exact me.2)
          · exact m2 (by rw [← r, q]; exact me.2)
        · subst k
          have := S4 f (ch f hf) p h2 (ond h1)
          rcases this.1 with q | q <;> rcases this.2 with r | r
          · exact m1 (by rw [← r, q]; exact hv.1)
          · exact m2 (by rw [← r, q]; exact hv.1)
          · exact m1 (by rw [← r, q]; exact hv.2)
          · exact m2 (by rw [← r, q]; exact hv.2)
      intro w hw
      rw [key w hw, ← key o ho, z0]
  have off : ∀ w ∈ O, Off L w := fun w hw e he k => by
    have := hO w hw
    have me := cyc_mem he
    rcases sub e he with q | q
    · rcases vertex_on s this.1 q k with r | r
      · exact this.2 (r ▸ me.1)
      · exact this.2 (r ▸ me.2)
    · subst q
      obtain ⟨f, hf, e⟩ := out_edge this.1
      rcases (S4 f hf w (by rw [← e]; exact on_l _ _) (ond k)).1 with r | r
      · exact this.2 (r ▸ hv.1)
      · exact this.2 (r ▸ hv.2)
  obtain ⟨p, u, q, k, k1, k2⟩ := gL.ear d hdL
  have uv : u ≠ v ∧ u ≠ y := by
    rcases hd with ⟨e1, e2⟩ | ⟨e1, e2⟩
    · rw [e1] at k1; rw [e2] at k2; exact ⟨k1, k2⟩
    · rw [e1] at k1; rw [e2] at k2; exact ⟨k2, k1⟩
  have nd1 : (p, u) ≠ d := fun z => k2 (by rw [← z])
  have nd2 : (u, q) ≠ d := fun z => k1 (by rw [← z])
  refine ⟨p, u, q, ⟨(sub _ k.i).resolve_right nd1, (sub _ k.o).resolve_right nd2, k.d, fun w hw hi => ?_⟩, (cyc_mem k.i).2, uv⟩
  rcases all w hw with m | m
  · exact k.e w m hi
  · have := ear_wn sL gL k (off w m) hi
    rw [zero w m] at this
    exact absurd this (by decide)
theorem simple_sub {l L : List Pt} {v y : Pt} {d : Pt × Pt} (s : Simple l) (hl : 3 ≤ L.length) (hn : L.Nodup) (hd : (d.1 = v ∧ d.2 = y) ∨ (d.1 = y ∧ d.2 = v)) (sub : ∀ e ∈ cyc L, e ∈ cyc l ∨ e = d)
    (S4 : ∀ f ∈ cyc l, ∀ z, On f.1 f.2 z → On v y z → (z = v ∨ z = y) ∧ (z = f.1 ∨ z = f.2)) : Simple L := by
  have ond {z : Pt} (h : On d.1 d.2 z) : On v y z := by
    rcases hd with ⟨e1, e2⟩ | ⟨e1, e2⟩
    · rw [e1, e2] at h; exact h
    · rw [e1, e2] at h; exact on_sw h
  have ends {z : Pt} (h : z = v ∨ z = y) : z = d.1 ∨ z = d.2 := by
    rcases hd with ⟨e1, e2⟩ | ⟨e1, e2⟩
    · rw [e1, e2]; exact h
    · rw [e1, e2]; exact h.symm
  refine ⟨hl, hn, fun e he f hf hne z h1 h2 => ?_⟩
  rcases sub e he with k | rfl
  · rcases sub f hf with k2 | rfl
    · exact s.ap e k f k2 hne z h1 h2
    · have := S4 e k z h1 (ond h2)
      exact ⟨this.2, ends this.1⟩
  · rcases sub f hf with k2 | rfl
    · have := S4 f k2 z h2 (ond h1)
      exact ⟨ends this.1, this.2⟩
    · exact absurd rfl hne
section
variable {v b a y : Pt} {B A : List Pt}
theorem diag_strict {M : List Pt} (s : Simple (v :: b :: (M ++ [a]))) (h : 0 < det a v b) (hy : y ∈ M) (i : InT a v b y) : 0 < det a v y ∧ 0 < det v b y := by
  obtain ⟨n1, n2, n3, n4, n5, n6⟩ := head_nd s
  have my : y ∈ v :: b :: (M ++ [a]) := by simp [hy]
  have h1 : det a v y ≠ 0 := fun z => by
    rcases vertex_on s my (f := (a, v)) (by rw [cyc_v]; simp) (on_av h z i.q i.r) with e | e
    · exact n6 ((show y = a from e) ▸ hy)
    · exact n4 ((show y = v from e) ▸ hy)
  have h2 : det v b y ≠ 0 := fun z => by
    rcases vertex_on s my (f := (v, b)) (by rw [cyc_v]; simp) (on_vb h i.p z i.r) with e | e
    · exact n4 ((show y = v from e) ▸ hy)
    · exact n5 ((show y = b from e) ▸ hy)
  have i1 := i.p
  have i2 := i.q
  exact ⟨by grind, by grind⟩
theorem diag_ends {M : List Pt} (s : Simple (v :: b :: (M ++ [a]))) (h : 0 < det a v b) (hy : y ∈ M) (i : InT a v b y) (mx : ∀ q ∈ M, InT a v b q → det b a q ≤ det b a y) :
    ∀ f ∈ cyc (v :: b :: (M ++ [a])), ∀ z, On f.1 f.2 z → On v y z → (z = v ∨ z = y) ∧ (z = f.1 ∨ z = f.2) := by
  obtain ⟨n1, n2, n3, n4, n5, n6⟩ := head_nd s
  obtain ⟨y1, y2⟩ := diag_strict s h hy i
  have my : y ∈ v :: b :: (M ++ [a]) := by simp [hy]
  have sum := det_sum a v b y
  intro f hf z hz hd
  obtain ⟨t, t0, t1, rfl⟩ := hd
  have e1 : det a v (lp v y t) = t * det a v y := by rw [det_lp, det_abb]; grind
  have e2 : det v b (lp v y t) = t * det v b y := by rw [det_lp, det_aba]; grind
  have v3 : det b a v = det a v b := by rw [← det_cyc, ← det_cyc]
  have e3 : det b a (lp v y t) = det a v b + t * (det b a y - det a v b) := by rw [det_lp, v3]
  by_cases c0 : t = 0
  · rw [c0, lp0] at hz ⊢
    exact ⟨.inl rfl, vertex_on s (by simp) hf hz⟩
  · by_cases c1 : t = 1
    · rw [c1, lp1] at hz ⊢
      exact ⟨.inr rfl, vertex_on s my hf hz⟩
    · exfalso
      have tp : 0 < t := by grind
      have k1 : 0 < det a v (lp v y t) := by rw [e1]; exact pp tp y1
      have k2 : 0 < det v b (lp v y t) := by rw [e2]; exact pp tp y2
      rw [cyc_v, List.mem_cons, List.mem_append, List.mem_singleton] at hf
      rcases hf with rfl | hf | rfl
      · rw [on_det hz] at k2; exact absurd k2 Rat.lt_irrefl
      · have g : det b a y < det b a (lp v y t) := by
          rw [e3]
          have := pp (show 0 < 1 - t by grind) (show 0 < det a v b - det b a y by grind)
          grind
        have en := chain_ends hf
        have iy := i.r
        refine wedge_deep h (head_nt s hf) hz k1 k2 iy g ?_ ?_
        · rcases en.1 with q | q
          · right; rw [q, det_aba]; exact iy
          · by_cases j : InT a v b f.1
            · exact .inr (mx _ q j)
            · exact .inl j
        · rcases en.2 with q | q
          · by_cases j : InT a v b f.2
            · exact .inr (mx _ q j)
            · exact .inl j
          · right; rw [q, det_abb]; exact iy
      · rw [on_det hz] at k1; exact absurd k1 Rat.lt_irrefl
theorem main_diag (hB : PP B.length) (hA : PP A.length) (s : Simple (v :: b :: (B ++ y :: A ++ [a]))) (top : ∀ x ∈ b :: (B ++ y :: A ++ [a]), lt2 x v) (h : 0 < det a v b) (i : InT a v b y) (mx : ∀ q ∈ B ++ y :: A, InT a v b q → det b a q ≤ det b a y) :
    Good (v :: b :: (B ++ y :: A ++ [a])) := by
  have hy : y ∈ B ++ y :: A := by simp
  obtain ⟨n1, n2, n3, n4, n5, n6⟩ := head_nd s
  obtain ⟨y1, y2⟩ := diag_strict s h hy i
  have S4 := diag_ends s h hy i mx
  have el : v :: b :: (B ++ y :: A ++ [a]) = v :: ((b :: B) ++ y :: (A ++ [a])) := by simp
  have nt := fun f hf => head_nt s (f := f) hf
  have nd := s.nd
  rw [el] at s S4 nd ⊢
  have hc := cyc_split v y (b :: B) (A ++ [a])
  have c1 := cyc_one v y (b :: B)
  have c2 := cyc_two v y (A ++ [a])
  have sub1 : ∀ e ∈ cyc (v :: ((b :: B) ++ [y])), e ∈ cyc (v :: ((b :: B) ++ y :: (A ++ [a]))) ∨ e = (y, v) := fun e he => by
    rw [c1, List.mem_append, List.mem_singleton] at he
    rw [hc, List.mem_append]
    exact he.imp_left .inl
  have sub2 : ∀ e ∈ cyc (v :: y :: (A ++ [a])), e ∈ cyc (v :: ((b :: B) ++ y :: (A ++ [a]))) ∨ e = (v, y) := fun e he => by
    rw [c2, List.mem_cons] at he
    rw [hc, List.mem_append]
    exact he.elim .inr fun q => .inl (.inr q)
  have nd1 : (v :: ((b :: B) ++ [y])).Nodup := by
    refine List.Sublist.nodup ?_ nd
    exact List.Sublist.cons_cons _ (List.Sublist.append_left (List.Sublist.cons_cons _ (List.nil_sublist _)) _)
  have nd2 : (v :: y :: (A ++ [a])).Nodup := List.Sublist.nodup (List.Sublist.cons_cons _ (List.sublist_append_right _ _)) nd
  have s1 : Simple (v :: ((b :: B) ++ [y])) := simple_sub s (by simp) nd1 (.inr ⟨rfl, rfl⟩) sub1 S4
  have s2 : Simple (v :: y :: (A ++ [a])) := simple_sub s (by simp) nd2 (.inl ⟨rfl, rfl⟩) sub2 S4
  have D1 : 0 < det y v b := by rw [← det_cyc] at *; rw [det_cyc, det_cyc]; rw [det_cyc] at y2; rw [← det_cyc]; grind [det_cyc]
  have g1 : Good (v :: ((b :: B) ++ [y])) := hB v b B y rfl s1 (fun x hx => top x (by simp at hx ⊢; grind)) D1
  have g2 : Good (v :: y :: (A ++ [a])) := hA v y A a rfl s2 (fun x hx => top x (by simp at hx ⊢; grind)) y1
  have vt : ∀ x ∈ b :: (B ++ y :: A ++ [a]), x.y ≤ v.y := fun x hx => lt2_le (top x hx)
  have dis : ∀ w, w ∈ v :: ((b :: B) ++ [y]) → w ∈ A ++ [a] → False := fun w h1 h2 => by
    have := nd
    rw [show v :: ((b :: B) ++ y :: (A ++ [a])) = (v :: ((b :: B) ++ [y])) ++ (A ++ [a]) by simp, List.nodup_append] at this
    exact this.2.2 w h1 w h2 rfl
  have dis2 : ∀ w, w ∈ v :: y :: (A ++ [a]) → w ∈ b :: B → False := fun w h1 h2 => by
    have := nd
    rw [List.nodup_cons, List.nodup_append] at this
    rcases List.mem_cons.mp h1 with q | q
    · exact this.1 (by rw [← q]; exact List.mem_append_left _ h2)
    · exact this.2.2.2 w h2 w q rfl
  have z1 : wn (v :: ((b :: B) ++ [y])) a = 0 := by
    have e := wn_ear v b y B a
    have t0 : tw y v b a = 0 := (tw_all D1).1 fun j => by
      have := j.p
      have k : det y v a = - det a v y := by unfold det; grind
      rw [k] at this
      grind
    have w0 : wn (b :: (B ++ [y])) a = wn (b :: (B ++ [y])) v := wn_same fun f hf p p1 p2 => by
      rw [cyc_x, List.mem_append, List.mem_singleton] at hf
      rcases hf with hf | rfl
      · have m := pth_mem hf
        have hf' : f ∈ pth (b :: (B ++ y :: A ++ [a])) := by
          have := pth_r (A ++ [a]) hf
          rw [show b :: (B ++ [y]) ++ (A ++ [a]) = b :: (B ++ y :: A ++ [a]) by simp] at this
          exact this
        have := (nt f hf').p p p1 p2
        have n : ∀ w ∈ b :: (B ++ [y]), w ≠ a ∧ w ≠ v := fun w hw => ⟨fun q => dis w (List.mem_cons_of_mem _ hw) (by rw [q]; simp), fun q => by
          rw [List.nodup_cons] at nd1
          exact nd1.1 (q ▸ hw)⟩
        rcases this.1 with q | q <;> rcases this.2 with r | r
        · exact (n _ m.1).1 (q ▸ r)
        · exact (n _ m.1).2 (q ▸ r)
        · exact (n _ m.2).1 (q ▸ r)
        · exact (n _ m.2).2 (q ▸ r)
      · have := on_detp p1 y1 h
        rw [on_det p2] at this
        exact absurd this Rat.lt_irrefl
    have w1 : wn (b :: (B ++ [y])) v = 0 := wn_top fun x hx => vt x (by simp at hx ⊢; grind)
    show wn (v :: b :: (B ++ [y])) a = 0
    rw [e, t0, w0, w1]
    show (0 : Rat) + 0 = 0
    grind
  have z2 : wn (v :: y :: (A ++ [a])) b = 0 := by
    have e := wn_ear v y a A b
    have t0 : tw a v y b = 0 := (tw_all y1).1 fun j => by
      have := j.q
      have k : det v y b = - det v b y := by unfold det; grind
      rw [k] at this
      grind
    have w0 : wn (y :: (A ++ [a])) b = wn (y :: (A ++ [a])) v := wn_same fun f hf p p1 p2 => by
      rw [cyc_x, List.mem_append, List.mem_singleton] at hf
      rcases hf with hf | rfl
      · have m := pth_mem hf
        have hf' : f ∈ pth (b :: (B ++ y :: A ++ [a])) := by
          have := pth_l hf (b :: B)
          rw [show b :: B ++ y :: (A ++ [a]) = b :: (B ++ y :: A ++ [a]) by simp] at this
          exact this
        have := (nt f hf').q p p1 (on_sw p2)
        have n : ∀ w ∈ y :: (A ++ [a]), w ≠ b ∧ w ≠ v := fun w hw => ⟨fun q => dis2 w (List.mem_cons_of_mem _ hw) (by rw [q]; simp), fun q => by
          rw [List.nodup_cons] at nd2
          exact nd2.1 (q ▸ hw)⟩
        rcases this.1 with q | q <;> rcases this.2 with r | r
        · exact (n _ m.1).2 (q ▸ r)
        · exact (n _ m.1).1 (q ▸ r)
        · exact (n _ m.2).2 (q ▸ r)
        · exact (n _ m.2).1 (q ▸ r)
      · have := on_detp p1 (show 0 < det v b a by rw [← det_cyc]; exact h) y2
        rw [on_det (on_sw p2)] at this
        exact absurd this Rat.lt_irrefl
    have w1 : wn (y :: (A ++ [a])) v = 0 := wn_top fun x hx => vt x (by simp at hx ⊢; grind)
    rw [e, t0, w0, w1]
    show (0 : Rat) + 0 = 0
    grind
  have pos2 : ∀ z, Off (v :: ((b :: B) ++ y :: (A ++ [a]))) z → ¬ On v y z → 0 ≤ wn (v :: ((b :: B) ++ y :: (A ++ [a]))) z := fun z hz hn => by
    rw [wn_split]
    have p1 := g1.pos z fun e he k => (sub1 e he).elim (fun q => hz e q k) fun q => by subst q; exact hn (on_sw k)
    have p2 := g2.pos z fun e he k => (sub2 e he).elim (fun q => hz e q k) fun q => by subst q; exact hn k
    grind
  refine ⟨fun z hz => ?_, fun f hf => ?_, ?_⟩
  · by_cases c : On v y z
    · obtain ⟨δ, d0, hd⟩ := near z b _ hz
      have dz := on_det c
      have db : det v y b = - det v b y := by unfold det; grind
      have e : wn (v :: ((b :: B) ++ y :: (A ++ [a]))) z = wn (v :: ((b :: B) ++ y :: (A ++ [a]))) (lp z b δ) := wn_same fun f hf p p1 p2 => by
        have p2' : On (lp z b 0) (lp z b δ) p := by rw [lp0]; exact p2
        obtain ⟨r, rfl, hr⟩ := on_lp p2'
        exact hd r (by grind) (by grind) f hf p1
      rw [e]
      refine pos2 _ (fun f hf => hd δ (by grind) Rat.le_refl f hf) fun k => ?_
      have := on_det k
      rw [det_lp, dz, db] at this
      have q := pp d0 y2
      grind
    · exact pos2 z hz c
  · rw [hc, List.mem_append] at hf
    rcases hf with hf | hf
    · obtain ⟨p, u, q, k, k1, k2, k3⟩ := side (d := (v, y)) (O := b :: B) s (.inl ⟨rfl, rfl⟩) s2 g2 (by rw [c2]; simp) sub2 S4 (fun w hw => ⟨List.mem_cons_of_mem _ (List.mem_append_left _ hw), fun m => dis2 w m hw⟩)
        (fun w hw => by
          rcases List.mem_cons.mp hw with q | q
          · left; rw [q]; simp
          · rcases List.mem_append.mp q with q | q
            · exact .inr q
            · exact .inl (List.mem_cons_of_mem _ q)) ⟨by simp, by simp⟩
        (fun f hf => by
          rw [hc, List.mem_append]; left
          exact pth_l (pth_r [y] hf) [v]) ⟨b, by simp, z2⟩
      refine ⟨p, u, q, k, ?_, ?_⟩
      · intro e
        have m := (pth_mem hf).1
        rw [← e] at m
        rcases List.mem_cons.mp m with r | r
        · exact k2 r
        · rcases List.mem_append.mp r with r | r
          · exact dis2 u k1 r
          · exact k3 (List.mem_singleton.mp r)
      · intro e
        have m := (pth_mem hf).2
        rw [← e] at m
        rcases List.mem_cons.mp m with r | r
        · exact k2 r
        · rcases List.mem_append.mp r with r | r
          · exact dis2 u k1 r
          · exact k3 (List.mem_singleton.mp r)
    · obtain ⟨p, u, q, k, k1, k2, k3⟩ := side (d := (y, v)) (O := A ++ [a]) s (.inr ⟨rfl, rfl⟩) s1 g1 (by rw [c1]; simp) sub1 S4 (fun w hw => ⟨List.mem_cons_of_mem _ (List.mem_append_right _ (List.mem_cons_of_mem _ hw)), fun m => dis w m hw⟩)
        (fun w hw => by
          rcases List.mem_cons.mp hw with q | q
          · left; rw [q]; simp
          · rcases List.mem_append.mp q with q | q
            · exact .inl (List.mem_cons_of_mem _ (List.mem_append_left _ q))
            · rcases List.mem_cons.mp q with q | q
              · left; rw [q]; simp
              · exact .inr q) ⟨by simp, by simp⟩
        (fun f hf => by
          rw [hc, List.mem_append]; right
          exact pth_l (pth_r [v] hf) [y]) ⟨a, by simp, z1⟩
      refine ⟨p, u, q, k, ?_, ?_⟩
      · intro e
        have m := (pth_mem hf).1
        rw [← e] at m
        rcases List.mem_cons.mp m with r | r
        · exact k3 r
        · rcases List.mem_append.mp r with r | r
          · exact dis u k1 r
          · exact k2 (List.mem_singleton.mp r)
      · intro e
        have m := (pth_mem hf).2
        rw [← e] at m
        rcases List.mem_cons.mp m with r | r
        · exact k3 r
        · rcases List.mem_append.mp r with r | r
          · exact dis u k1 r
          · exact k2 (List.mem_singleton.mp r)
  · rw [ar_split]
    have := g1.area
    have := g2.area
    grind
end
theorem main : ∀ n, PP n := fun n => Nat.strongRecOn n fun n ih v b M a hn s top h => by
  by_cases he : ∀ q ∈ M, ¬ InT a v b q
  · match n, hn, ih with
    | 0, hn, _ =>
      have : M = [] := List.length_eq_zero_iff.mp hn
      subst this
      exact main_three s h
    | k + 1, hn, ih => exact main_empty hn (ih k (Nat.lt_succ_self k)) s top h he
  · obtain ⟨y, hy, i, mx⟩ := ex_maxP (InT a v b) (det b a) M (by
      apply Classical.byContradiction
      intro c
      exact he fun q hq hi => c ⟨q, hq, hi⟩)
    obtain ⟨B, A, rfl⟩ := List.append_of_mem hy
    have hl : B.length + (A.length + 1) = n := by rw [← hn]; simp
    exact main_diag (ih _ (by omega)) (ih _ (by omega)) s top h i mx
/-- **every simple closed way round something has ears** -/
theorem good_of {l : List Pt} (s : Simple l) (h : 0 < ar l) : Good l := by
  have := s.len
  exact orient (main (l.length - 3)) s (by omega) (.inr h)
/-- and so has what is left without an ear -/
theorem good_cut {l : List Pt} (s : Simple l) (h : 0 < ar l) (h4 : 4 ≤ l.length) {p u q : Pt} (k : IsEar l p u q) : ∃ M, Rt l (u :: q :: (M ++ [p])) ∧ Simple (q :: (M ++ [p])) ∧ 0 < ar (q :: (M ++ [p])) := by
  obtain ⟨M, r⟩ := ear_shape s k
  have s' := r.simple s
  have k' := r.ear k
  have g' := r.good (good_of s h)
  have hl := r.len
  have hM : M ≠ [] := by rintro rfl; simp at hl; omega
  obtain ⟨n1, n2, n3, n4, n5, n6⟩ := head_nd s'
  have he : ∀ x ∈ M, ¬ InT p u q x := fun x hx hi => by
    rcases k'.e x (by simp [hx]) hi with e | e | e
    · exact n6 (e ▸ hx)
    · exact n4 (e ▸ hx)
    · exact n5 (e ▸ hx)
  have sX := head_cut s' hM k.d he
  obtain ⟨q0, q1, o0, r1, r2, r3, e⟩ := cut_jump s' hM k.d he
  have e1 := ear_in s' hM k.d he g'.pos r1 r2 (Rat.le_of_lt r3)
  rw [wn_ear, (tw_all k.d).2 r1 r2 r3] at e1
  have e1 : (1 : Rat) ≤ wn (q :: (M ++ [p])) q1 + 1 := e1
  have g := orient (main (M.length - 1)) sX (by
    have : 0 < M.length := List.length_pos_iff.mpr hM
    simp; omega) (.inl ⟨q0, o0, by rw [e]; grind⟩)
  exact ⟨M, r, sX, g.area⟩
end Rc
namespace Rc
/-! ### figures: the program's words on whole corners -/
abbrev C2 := Int × Int
def atC (l : List C2) (i : Nat) : C2 := l.getD (i % l.length) (0, 0)
def lefI (a b c : C2) : Int := (b.1 - a.1) * (c.2 - a.2) - (b.2 - a.2) * (c.1 - a.1)
def sdC (l : List C2) : List (C2 × C2) := (List.range l.length).map fun i => (atC l i, atC l (i + 1))
def sgnI (n : Int) : Int := (if decide (0 < n) = true then 1 else 0) - (if decide (n < 0) = true then 1 else 0)
def mn (i j : Int) : Int := if j < i then j else i
def mx (i j : Int) : Int := if j > i then j else i
def onI (a b c : C2) : Bool := (decide (mn a.1 b.1 ≤ c.1) && decide (c.1 ≤ mx a.1 b.1)) && (decide (mn a.2 b.2 ≤ c.2) && decide (c.2 ≤ mx a.2 b.2))
def endsC (e f : C2 × C2) : List (C2 × C2 × C2) := [(e.1, e.2, f.1), (e.1, e.2, f.2), (f.1, f.2, e.1), (f.1, f.2, e.2)]
def onT (t : C2 × C2 × C2) : Bool := decide (lefI t.1 t.2.1 t.2.2 = 0) && onI t.1 t.2.1 t.2.2
def propI (e f : C2 × C2) : Bool := decide (sgnI (lefI e.1 e.2 f.1) * sgnI (lefI e.1 e.2 f.2) < 0) && decide (sgnI (lefI f.1 f.2 e.1) * sgnI (lefI f.1 f.2 e.2) < 0)
def meetI (e f : C2 × C2) : Bool := if propI e f = true then true else ((endsC e f).map onT).any id
def crKJ (l : List C2) (k j : Nat) : Bool := !decide (((j : Int) + 1) % (l.length : Int) = (k : Int)) && meetI (atC l k, atC l (k + 1)) (atC l j, atC l (j + 1))
def crK (l : List C2) (k : Nat) : Bool := (List.range (l.length - (k + 2))).any fun j => crKJ l k (k + 2 + j)
def crossI (l : List C2) : Bool := (List.range l.length).any (crK l)
def strC (l : List C2) : Bool := ((List.range l.length).map fun k => decide (lefI (atC l (k + l.length - 1)) (atC l k) (atC l (k + 1)) = 0)).any id
def tsI (l : List C2) : Int := ((sdC l).map fun s => s.1.1 * s.2.2 - s.1.2 * s.2.1).sum
def farI (n : Int) : Bool := decide (-50 ≤ n) && decide (n ≤ 50)
def figI (ns : List Int) : Bool := if decide ((ns.length : Int) % 2 = 1) || !(decide (3 ≤ (ns.length : Int) / 2) && decide ((ns.length : Int) / 2 ≤ 8)) then false else
  if !(ns.map farI).all id then false else !strC (pairs ns) && (!crossI (pairs ns) && decide (0 < tsI (pairs ns)))
def fszF (ns : List Int) : Kzq1.Q := Kzq1.mk (tsI (pairs ns)) 2
def triI (a b c p : C2) : Bool := decide (0 ≤ lefI a b p) && (decide (0 ≤ lefI b c p) && decide (0 ≤ lefI c a p))
def outC (a b c p : C2) : Bool := !(decide (a = p) || (decide (b = p) || decide (c = p)))
def earC (l : List C2) (k : Nat) : Bool := if lefI (atC l (k + l.length - 1)) (atC l k) (atC l (k + 1)) ≤ 0 then false else
  !((l.filter (outC (atC l (k + l.length - 1)) (atC l k) (atC l (k + 1)))).map (triI (atC l (k + l.length - 1)) (atC l k) (atC l (k + 1)))).any id
def eat (l : List C2) (k : Nat) : List C2 := [atC l (k + l.length - 1), atC l k, atC l (k + 1)]
def firstE (l : List C2) : Nat := ((List.range l.length).filter (earC l)).headD 0
def leftI : Nat → List C2 → List C2
  | 0, l => l
  | n + 1, l => leftI n (l.take (firstE l) ++ l.drop (firstE l + 1))
def cutI : Nat → List C2 → List (List C2)
  | 0, l => [l]
  | n + 1, l => eat l (firstE l) :: cutI n (l.take (firstE l) ++ l.drop (firstE l + 1))
/-! ### round about -/
theorem atC_get {l : List C2} {i : Nat} (h : 0 < l.length) : l[i % l.length]? = some (atC l i) := by
  have hm : i % l.length < l.length := Nat.mod_lt _ h
  unfold atC
  rw [List.getD_eq_getElem?_getD, List.getElem?_eq_getElem hm]
  rfl
theorem atC_of {l : List C2} {i : Nat} {z : C2} (h : l[i]? = some z) : atC l i = z := by
  have hi : i < l.length := (List.getElem?_eq_some_iff.mp h).1
  unfold atC
  rw [Nat.mod_eq_of_lt hi, List.getD_eq_getElem?_getD, h]
  rfl
theorem atC_mem {l : List C2} {i : Nat} (h : 0 < l.length) : atC l i ∈ l := List.mem_of_getElem? (atC_get h)
theorem atC_mod (l : List C2) (i : Nat) : atC l (i % l.length) = atC l i := by
  unfold atC
  rw [Nat.mod_mod]
theorem atC_eq {l : List C2} {i j : Nat} (h : i % l.length = j % l.length) : atC l i = atC l j := by rw [← atC_mod, h, atC_mod]
theorem atIC_next {l : List C2} {k : Nat} (h : 0 < l.length) : L2.atI l (((k : Int) + 1) % (l.length : Int)) = some (atC l (k + 1)) := by
  refine atI_ofNat (j := (k + 1) % l.length) ?_ (atC_get h)
  rw [Int.natCast_emod]
  rfl
theorem atIC_prev {l : List C2} {k : Nat} (h : k < l.length) : L2.atI l ((k : Int) - 1) = some (atC l (k + l.length - 1)) := by
  by_cases c : k = 0
  · subst c
    have e : L2.ixN l.length ((0 : Nat) - 1 : Int) = some (l.length - 1) := by
      unfold L2.ixN
      rw [if_neg (by omega), if_pos (by omega)]
      congr 1
      omega
    unfold L2.atI
    rw [e]
    show l[l.length - 1]? = _
    have g := atC_get (l := l) (i := 0 + l.length - 1) (by omega)
    rw [Nat.mod_eq_of_lt (by omega)] at g
    rw [← g]
    congr 1
    omega
  · refine atI_ofNat (j := k - 1) (by omega) ?_
    have g := atC_get (l := l) (i := k + l.length - 1) (by omega)
    rw [show k + l.length - 1 = (k - 1) + l.length by omega, Nat.add_mod_right, Nat.mod_eq_of_lt (by omega)] at g
    rw [g]
    rw [show k + l.length - 1 = (k - 1) + l.length by omega]
/-! ### corners as points -/
def ptC (c : C2) : Pt := ⟨(c.1 : Rat), (c.2 : Rat)⟩
theorem ptC_inj {a b : C2} (h : ptC a = ptC b) : a = b := by
  have h1 : (a.1 : Rat) = (b.1 : Rat) := congrArg Pt.x h
  have h2 : (a.2 : Rat) = (b.2 : Rat) := congrArg Pt.y h
  rw [Rat.intCast_inj] at h1 h2
  exact Prod.ext h1 h2
theorem det_c (a b c : C2) : det (ptC a) (ptC b) (ptC c) = (lefI a b c : Rat) := by
  unfold det ptC lefI
  rw [Rat.intCast_sub, Rat.intCast_mul, Rat.intCast_mul, Rat.intCast_sub, Rat.intCast_sub, Rat.intCast_sub, Rat.intCast_sub]
theorem c_pos {n : Int} : 0 < (n : Rat) ↔ 0 < n := Rat.intCast_pos
theorem c_nn {n : Int} : 0 ≤ (n : Rat) ↔ 0 ≤ n := Rat.intCast_nonneg
theorem c_zero {n : Int} : (n : Rat) = 0 ↔ n = 0 := Rat.intCast_eq_zero_iff
theorem pth_len : ∀ l : List Pt, (pth l).length = l.length - 1
  | [] => rfl
  | [a] => rfl
  | a :: b :: r => by
    show (pth (b :: r)).length + 1 = _
    rw [pth_len (b :: r)]
    simp
theorem pth_get : ∀ (l : List Pt) (i : Nat) (a b : Pt), l[i]? = some a → l[i + 1]? = some b → (pth l)[i]? = some (a, b)
  | [], i, a, b, h, _ => by simp at h
  | [x], i, a, b, _, h => by simp at h
  | x :: y :: r, 0, a, b, h1, h2 => by
    injection h1 with h1; injection h2 with h2
    rw [← h1, ← h2]; rfl
  | x :: y :: r, i + 1, a, b, h1, h2 => pth_get (y :: r) i a b h1 h2
theorem cyc_len (l : List Pt) : (cyc l).length = l.length := by
  have := congrArg List.length (cyc_fst l)
  rw [List.length_map] at this
  exact this
theorem cyc_c (l : List C2) : cyc (l.map ptC) = (sdC l).map fun s => (ptC s.1, ptC s.2) := by
  refine List.ext_getElem? fun i => ?_
  by_cases h : i < l.length
  · have h0 : 0 < l.length := by omega
    match l, h, h0 with
    | v :: X, h, h0 =>
      have e1 : ((v :: X).map ptC ++ [ptC v])[i]? = some (ptC (atC (v :: X) i)) := by
        rw [List.getElem?_append_left (by rw [List.length_map]; exact h), List.getElem?_map, List.getElem?_eq_getElem h]
        rw [atC_of (List.getElem?_eq_getElem h)]
        rfl
      have e2 : ((v :: X).map ptC ++ [ptC v])[i + 1]? = some (ptC (atC (v :: X) (i + 1))) := by
        by_cases k : i + 1 < (v :: X).length
        · rw [List.getElem?_append_left (by rw [List.length_map]; exact k), List.getElem?_map, List.getElem?_eq_getElem k]
          rw [atC_of (List.getElem?_eq_getElem k)]
          rfl
        · have : i + 1 = (v :: X).length := by omega
          rw [this, List.getElem?_append_right (by rw [List.length_map]; exact Nat.le_refl _), List.length_map, Nat.sub_self]
          rw [atC_eq (show (v :: X).length % (v :: X).length = 0 % (v :: X).length by simp), atC_of (l := v :: X) (i := 0) (z := v) rfl]
          rfl
      have := pth_get _ i _ _ e1 e2
      show (pth ((v :: X).map ptC ++ [ptC v]))[i]? = _
      rw [this]
      unfold sdC
      rw [List.getElem?_map, List.getElem?_map, List.getElem?_range h]
      rfl
  · rw [List.getElem?_eq_none (by rw [cyc_len, List.length_map]; omega), List.getElem?_eq_none (by unfold sdC; simp; omega)]
theorem cyc_c_mem {l : List C2} {e : Pt × Pt} (h : e ∈ cyc (l.map ptC)) : ∃ i, i < l.length ∧ e = (ptC (atC l i), ptC (atC l (i + 1))) := by
  rw [cyc_c] at h
  unfold sdC at h
  rw [List.map_map] at h
  obtain ⟨i, hi, e1⟩ := List.mem_map.mp h
  exact ⟨i, List.mem_range.mp hi, e1.symm⟩
theorem c_mem_cyc {l : List C2} (h : 0 < l.length) (i : Nat) : (ptC (atC l i), ptC (atC l (i + 1))) ∈ cyc (l.map ptC) := by
  rw [cyc_c]
  unfold sdC
  rw [List.map_map]
  refine List.mem_map.mpr ⟨i % l.length, List.mem_range.mpr (Nat.mod_lt _ h), ?_⟩
  show (ptC (atC l (i % l.length)), ptC (atC l (i % l.length + 1))) = _
  rw [atC_mod, atC_eq (show (i % l.length + 1) % l.length = (i + 1) % l.length by rw [Nat.mod_add_mod])]
theorem sm_map {α : Type} (f : Pt → Pt → Rat) (g : α → Pt × Pt) : ∀ l : List α, sm f (l.map g) = (l.map fun x => f (g x).1 (g x).2).sum
  | [] => rfl
  | x :: r => by
    show f (g x).1 (g x).2 + sm f (r.map g) = _
    rw [sm_map f g r]
    rfl
theorem sum_cast : ∀ l : List Int, ((l.sum : Int) : Rat) = (l.map fun (x : Int) => (x : Rat)).sum
  | [] => rfl
  | x :: r => by
    show ((x + r.sum : Int) : Rat) = (x : Rat) + _
    rw [Rat.intCast_add, sum_cast r]
    rfl
theorem ar_c (l : List C2) : ar (l.map ptC) = (tsI l : Rat) := by
  unfold ar tsI
  rw [cyc_c, sm_map, sum_cast, List.map_map]
  congr 1
  refine List.map_congr_left fun s _ => ?_
  show (s.1.1 : Rat) * (s.2.2 : Rat) - (s.1.2 : Rat) * (s.2.1 : Rat) = ((s.1.1 * s.2.2 - s.1.2 * s.2.1 : Int) : Rat)
  rw [Rat.intCast_sub, Rat.intCast_mul, Rat.intCast_mul]
end Rc
namespace Rc
theorem mn_le {i j : Int} : mn i j ≤ i ∧ mn i j ≤ j := by unfold mn; split <;> omega
theorem le_mx {i j : Int} : i ≤ mx i j ∧ j ≤ mx i j := by unfold mx; split <;> omega
theorem mn_of {i j k : Int} (h : i ≤ k ∨ j ≤ k) : mn i j ≤ k := by unfold mn; split <;> omega
theorem mx_of {i j k : Int} (h : k ≤ i ∨ k ≤ j) : k ≤ mx i j := by unfold mx; split <;> omega
theorem onI_of {a b c : C2} (h : On (ptC a) (ptC b) (ptC c)) : onT (a, b, c) = true := by
  have hd := on_det h
  rw [det_c, c_zero] at hd
  have key (u v w : Int) (t : Rat) (t0 : 0 ≤ t) (t1 : t ≤ 1) (e : (w : Rat) = (u : Rat) + t * ((v : Rat) - (u : Rat))) : mn u v ≤ w ∧ w ≤ mx u v := by
    have cl (x y : Int) : (x : Rat) ≤ (y : Rat) ↔ x ≤ y := Rat.intCast_le_intCast
    by_cases k : u ≤ v
    · have k' := (cl u v).mpr k
      have a1 := pm t0 (show (0 : Rat) ≤ (v : Rat) - (u : Rat) by grind)
      have a2 := pm (show (0 : Rat) ≤ 1 - t by grind) (show (0 : Rat) ≤ (v : Rat) - (u : Rat) by grind)
      exact ⟨mn_of (.inl ((cl _ _).mp (by grind))), mx_of (.inr ((cl _ _).mp (by grind)))⟩
    · have k' := (cl v u).mpr (by omega)
      have a1 := pm t0 (show (0 : Rat) ≤ (u : Rat) - (v : Rat) by grind)
      have a2 := pm (show (0 : Rat) ≤ 1 - t by grind) (show (0 : Rat) ≤ (u : Rat) - (v : Rat) by grind)
      exact ⟨mn_of (.inr ((cl _ _).mp (by grind))), mx_of (.inl ((cl _ _).mp (by grind)))⟩
  obtain ⟨t, t0, t1, e⟩ := h
  have k1 := key a.1 b.1 c.1 t t0 t1 (congrArg Pt.x e)
  have k2 := key a.2 b.2 c.2 t t0 t1 (congrArg Pt.y e)
  unfold onT onI
  simp only [Bool.and_eq_true, decide_eq_true_iff]
  exact ⟨hd, ⟨k1.1, k1.2⟩, k2.1, k2.2⟩
theorem sgn_p {x : Int} (h : 0 < x) : sgnI x = 1 := by unfold sgnI; rw [decide_eq_true h, decide_eq_false (by omega)]; rfl
theorem sgn_n {x : Int} (h : x < 0) : sgnI x = -1 := by unfold sgnI; rw [decide_eq_true h, decide_eq_false (by omega)]; rfl
theorem sgn_0 : sgnI 0 = 0 := rfl
theorem sgn_mul {x y : Int} : sgnI x * sgnI y < 0 ↔ (0 < x ∧ y < 0) ∨ (x < 0 ∧ 0 < y) := by
  rcases Int.lt_trichotomy x 0 with h | h | h
  · rcases Int.lt_trichotomy y 0 with k | k | k
    · rw [sgn_n h, sgn_n k]; omega
    · subst k; rw [sgn_0]; omega
    · rw [sgn_n h, sgn_p k]; omega
  · subst h; rw [sgn_0]; omega
  · rcases Int.lt_trichotomy y 0 with k | k | k
    · rw [sgn_p h, sgn_n k]; omega
    · subst k; rw [sgn_0]; omega
    · rw [sgn_p h, sgn_p k]; omega
/-- what lies on both lies at an end, or both cross -/
theorem half_meet {a b c d z : Pt} (h1 : On a b z) (h2 : On c d z) (hn : ¬ ((0 < det a b c ∧ det a b d < 0) ∨ (det a b c < 0 ∧ 0 < det a b d))) : On a b c ∨ On a b d ∨ On c d a ∨ On c d b := by
  obtain ⟨t, t0, t1, et⟩ := id h2
  have hz := on_det h1
  have e : det a b z = det a b c + t * (det a b d - det a b c) := by rw [et, det_lp]
  by_cases c1 : det a b c = 0
  · by_cases c2 : det a b d = 0
    · by_cases hab : a = b
      · subst hab
        obtain ⟨s, _, _, es⟩ := h1
        have : z = a := by rw [es]; exact Pt.eq (by unfold lp; grind) (by unfold lp; grind)
        rw [this] at h2
        exact .inr (.inr (.inl h2))
      · have par : ∀ p : Pt, det a b p = 0 → ∃ τ : Rat, p = lp a b τ := by
          intro p hp
          by_cases hx : b.x = a.x
          · have hy : b.y - a.y ≠ 0 := fun q => hab (Pt.eq hx.symm (by grind))
            have e1 := rd_mul (a := p.y - a.y) (b := b.y - a.y) hy
            refine ⟨(p.y - a.y) / (b.y - a.y), Pt.eq ?_ ?_⟩
            · unfold det at hp
              rw [hx] at hp
              have : (b.y - a.y) * (p.x - a.x) = 0 := by grind
              have := (Rat.mul_eq_zero.mp this).resolve_left hy
              unfold lp
              grind
            · generalize (p.y - a.y) / (b.y - a.y) = τ at e1
              unfold lp; grind
          · have hx : b.x - a.x ≠ 0 := by grind
            have e1 := rd_mul (a := p.x - a.x) (b := b.x - a.x) hx
            refine ⟨(p.x - a.x) / (b.x - a.x), Pt.eq ?_ ?_⟩
            · generalize (p.x - a.x) / (b.x - a.x) = τ at e1
              unfold lp; grind
            · generalize (p.x - a.x) / (b.x - a.x) = τ at e1
              unfold det at hp
              have : (b.x - a.x) * (p.y - (a.y + τ * (b.y - a.y))) = 0 := by grind
              have := (Rat.mul_eq_zero.mp this).resolve_left hx
              unfold lp
              grind
        obtain ⟨γ, eγ⟩ := par c c1
        obtain ⟨δ, eδ⟩ := par d c2
        obtain ⟨s, s0, s1, es⟩ := h1
        by_cases gc : 0 ≤ γ ∧ γ ≤ 1
        · exact .inl ⟨γ, gc.1, gc.2, eγ⟩
        · by_cases gd : 0 ≤ δ ∧ δ ≤ 1
          · exact .inr (.inl ⟨δ, gd.1, gd.2, eδ⟩)
          · right; right; left
            have inj : s = γ + t * (δ - γ) := by
              have ex : (lp a b s).x = (lp c d t).x := by rw [← es, ← et]
              have ey : (lp a b s).y = (lp c d t).y := by rw [← es, ← et]
              rw [eγ, eδ] at ex ey
              unfold lp at ex ey
              have fx : (s - (γ + t * (δ - γ))) * (b.x - a.x) = 0 := by grind
              have fy : (s - (γ + t * (δ - γ))) * (b.y - a.y) = 0 := by grind
              rcases Rat.mul_eq_zero.mp fx with q | q
              · grind
              · rcases Rat.mul_eq_zero.mp fy with r | r
                · grind
                · exact absurd (Pt.eq (by grind) (by grind)) hab
            have key (g d : Rat) (hg : g < 0) (hd : 1 < d) : ∃ r : Rat, 0 ≤ r ∧ r ≤ 1 ∧ g + r * (d - g) = 0 := by
              have e1 := rd_mul (a := -g) (b := d - g) (by grind)
              exact ⟨-g / (d - g), rd_nn (by grind) (by grind), rd_le1 (by grind) (by grind), by grind⟩
            have p1 := pm t0 (show 0 ≤ 1 - t by grind)
            rcases (show (γ < 0 ∧ 1 < δ) ∨ (1 < γ ∧ δ < 0) by
              by_cases k : γ < 0
              · left
                refine ⟨k, ?_⟩
                by_cases k2 : 1 < δ
                · exact k2
                · have a1 := pm (show 0 ≤ 1 - t by grind) (show 0 ≤ -γ by grind)
                  have dn : δ < 0 := by grind
                  have a2 := pm t0 (show 0 ≤ -δ by grind)
                  by_cases tt : t = 0
                  · rw [tt] at inj; grind
                  · have a3 := pp (show 0 < t by grind) (show 0 < -δ by grind); grind
              · right
                have k : 1 < γ := by grind
                refine ⟨k, ?_⟩
                by_cases k2 : δ < 0
                · exact k2
                · have d1 : 1 < δ := by grind
                  have a1 := pm (show 0 ≤ 1 - t by grind) (show 0 ≤ γ - 1 by grind)
                  by_cases tt : t = 0
                  · rw [tt] at inj; grind
                  · have a3 := pp (show 0 < t by grind) (show 0 < δ - 1 by grind); grind) with ⟨k1, k2⟩ | ⟨k1, k2⟩
            · obtain ⟨r, r0, r1, er⟩ := key γ δ k1 k2
              refine ⟨r, r0, r1, ?_⟩
              rw [eγ, eδ]
              exact Pt.eq (by unfold lp; grind) (by unfold lp; grind)
            · obtain ⟨r, r0, r1, er⟩ := key δ γ k2 k1
              refine on_sw ⟨r, r0, r1, ?_⟩
              rw [eγ, eδ]
              exact Pt.eq (by unfold lp; grind) (by unfold lp; grind)
    · left
      have : t * det a b d = 0 := by rw [c1] at e; grind
      have t0 := (Rat.mul_eq_zero.mp this).resolve_right c2
      rw [et, t0, lp0] at h1
      exact h1
  · by_cases c2 : det a b d = 0
    · right; left
      have : (1 - t) * det a b c = 0 := by rw [c2] at e; grind
      have t1 := (Rat.mul_eq_zero.mp this).resolve_right c1
      rw [et, show t = 1 by grind, lp1] at h1
      exact h1
    · exfalso
      rcases (show (0 < det a b c ∧ 0 < det a b d) ∨ (det a b c < 0 ∧ det a b d < 0) by grind) with ⟨k1, k2⟩ | ⟨k1, k2⟩
      · have := on_detp h2 k1 k2; grind
      · have a1 : det b a c = - det a b c := by rw [det_sw]
        have a2 : det b a d = - det a b d := by rw [det_sw]
        have a3 : det b a z = - det a b z := by rw [det_sw]
        have := on_detp (a := b) (b := a) h2 (by grind) (by grind)
        grind
theorem meetI_of {e f : C2 × C2} {z : Pt} (h1 : On (ptC e.1) (ptC e.2) z) (h2 : On (ptC f.1) (ptC f.2) z) : meetI e f = true := by
  unfold meetI
  by_cases hp : propI e f = true
  · rw [if_pos hp]
  · rw [if_neg hp]
    have ends : On (ptC e.1) (ptC e.2) (ptC f.1) ∨ On (ptC e.1) (ptC e.2) (ptC f.2) ∨ On (ptC f.1) (ptC f.2) (ptC e.1) ∨ On (ptC f.1) (ptC f.2) (ptC e.2) := by
      by_cases c1 : (0 < det (ptC e.1) (ptC e.2) (ptC f.1) ∧ det (ptC e.1) (ptC e.2) (ptC f.2) < 0) ∨ (det (ptC e.1) (ptC e.2) (ptC f.1) < 0 ∧ 0 < det (ptC e.1) (ptC e.2) (ptC f.2))
      · by_cases c2 : (0 < det (ptC f.1) (ptC f.2) (ptC e.1) ∧ det (ptC f.1) (ptC f.2) (ptC e.2) < 0) ∨ (det (ptC f.1) (ptC f.2) (ptC e.1) < 0 ∧ 0 < det (ptC f.1) (ptC f.2) (ptC e.2))
        · exfalso
          apply hp
          have ng {n : Int} : (n : Rat) < 0 ↔ n < 0 := by
            have := c_nn (n := n)
            constructor
            · intro q
              by_cases k : n < 0
              · exact k
              · have := this.mpr (by omega); grind
            · intro q
              by_cases k : (n : Rat) < 0
              · exact k
              · have := this.mp (by grind); omega
          unfold propI
          rw [Bool.and_eq_true, decide_eq_true_iff, decide_eq_true_iff, sgn_mul, sgn_mul]
          rw [det_c, det_c, c_pos, c_pos, ng, ng] at c1 c2
          exact ⟨c1, c2⟩
        · rcases half_meet h2 h1 c2 with q | q | q | q
          · exact .inr (.inr (.inl q))
          · exact .inr (.inr (.inr q))
          · exact .inl q
          · exact .inr (.inl q)
      · exact half_meet h1 h2 c1
    rw [List.any_map, List.any_eq_true]
    rcases ends with q | q | q | q
    · exact ⟨_, by unfold endsC; simp, onI_of q⟩
    · exact ⟨_, by unfold endsC; simp, onI_of q⟩
    · exact ⟨_, by unfold endsC; simp, onI_of q⟩
    · exact ⟨_, by unfold endsC; simp, onI_of q⟩
theorem str_ne {l : List C2} (h : strC l = false) {k : Nat} (hk : k < l.length) : lefI (atC l (k + l.length - 1)) (atC l k) (atC l (k + 1)) ≠ 0 := by
  unfold strC at h
  rw [List.any_map, List.any_eq_false] at h
  have := h k (List.mem_range.mpr hk)
  intro e
  exact this (decide_eq_true e)
theorem cross_ne {l : List C2} (h : crossI l = false) {k j : Nat} (hk : k + 2 ≤ j) (hj : j < l.length) (hm : ¬ (k = 0 ∧ j + 1 = l.length)) : meetI (atC l k, atC l (k + 1)) (atC l j, atC l (j + 1)) = false := by
  unfold crossI at h
  rw [List.any_eq_false] at h
  have h1 := h k (List.mem_range.mpr (by omega))
  unfold crK at h1
  rw [Bool.not_eq_true, List.any_eq_false] at h1
  have h2 := h1 (j - (k + 2)) (List.mem_range.mpr (by omega))
  rw [show k + 2 + (j - (k + 2)) = j by omega] at h2
  unfold crKJ at h2
  rw [Bool.not_eq_true, Bool.and_eq_false_iff] at h2
  rcases h2 with q | q
  · exfalso
    have e : ((j : Int) + 1) % (l.length : Int) = (k : Int) := by simpa using q
    by_cases c : j + 1 = l.length
    · rw [show (j : Int) + 1 = (l.length : Int) by omega, Int.emod_self] at e
      exact hm ⟨by omega, c⟩
    · rw [Int.emod_eq_of_lt (by omega) (by omega)] at e
      omega
  · exact q
theorem adj_only {a b c z : Pt} (h : det a b c ≠ 0) (h1 : On a b z) (h2 : On b c z) : z = b := by
  have hz := on_det h1
  obtain ⟨t, t0, t1, rfl⟩ := h2
  rw [det_lp, det_abb] at hz
  have : t * det a b c = 0 := by grind
  rw [(Rat.mul_eq_zero.mp this).resolve_right h, lp0]
/-- **the program's test: the closed way is simple** -/
theorem fig_simple {l : List C2} (h3 : 3 ≤ l.length) (hs : strC l = false) (hx : crossI l = false) : Simple (l.map ptC) := by
  have h0 : 0 < l.length := by omega
  have turn (k : Nat) (hk : k < l.length) : det (ptC (atC l (k + l.length - 1))) (ptC (atC l k)) (ptC (atC l (k + 1))) ≠ 0 := by
    rw [det_c]
    intro q
    exact str_ne hs hk (c_zero.mp q)
  have key : ∀ i j, i < j → j < l.length → ∀ z, On (ptC (atC l i)) (ptC (atC l (i + 1))) z → On (ptC (atC l j)) (ptC (atC l (j + 1))) z → (z = ptC (atC l i) ∨ z = ptC (atC l (i + 1))) ∧ (z = ptC (atC l j) ∨ z = ptC (atC l (j + 1))) := by
    intro i j hij hj z h1 h2
    by_cases c : j = i + 1
    · subst c
      have t := turn (i + 1) hj
      rw [show i + 1 + l.length - 1 = i + l.length by omega, atC_eq (show (i + l.length) % l.length = i % l.length by simp)] at t
      have := adj_only t h1 h2
      exact ⟨.inr this, .inl this⟩
    · by_cases d : i = 0 ∧ j + 1 = l.length
      · obtain ⟨rfl, e⟩ := d
        have t := turn 0 h0
        rw [show 0 + l.length - 1 = j by omega] at t
        have ej : atC l (j + 1) = atC l 0 := by rw [e]; exact atC_eq (by simp)
        rw [ej] at h2
        have := adj_only t h2 h1
        exact ⟨.inl this, .inr (by rw [ej]; exact this)⟩
      · exfalso
        have := cross_ne hx (k := i) (j := j) (by omega) hj d
        rw [meetI_of (e := (atC l i, atC l (i + 1))) (f := (atC l j, atC l (j + 1))) h1 h2] at this
        cases this
  have dist : ∀ i j, i < j → j < l.length → atC l i ≠ atC l j := by
    intro i j hij hj e
    by_cases c : j = i + 1
    · subst c
      have t := turn (i + 1) hj
      rw [show i + 1 + l.length - 1 = i + l.length by omega, atC_eq (show (i + l.length) % l.length = i % l.length by simp), e, det_aab] at t
      exact t rfl
    · by_cases d : i = 0 ∧ j + 1 = l.length
      · obtain ⟨rfl, e2⟩ := d
        have t := turn 0 h0
        rw [show 0 + l.length - 1 = j by omega, ← e, det_aab] at t
        exact t rfl
      · have := cross_ne hx (k := i) (j := j) (by omega) hj d
        rw [meetI_of (e := (atC l i, atC l (i + 1))) (f := (atC l j, atC l (j + 1))) (z := ptC (atC l i)) (on_l _ _) (by rw [e]; exact on_l _ _)] at this
        cases this
  refine ⟨by rw [List.length_map]; exact h3, ?_, fun e he f hf hne z h1 h2 => ?_⟩
  · rw [List.Nodup, List.pairwise_map, List.pairwise_iff_getElem]
    intro i j hi hj hij q
    have := dist i j hij hj
    rw [atC_of (List.getElem?_eq_getElem hi), atC_of (List.getElem?_eq_getElem hj)] at this
    exact this (ptC_inj q)
  · obtain ⟨i, hi, rfl⟩ := cyc_c_mem he
    obtain ⟨j, hj, rfl⟩ := cyc_c_mem hf
    rcases Nat.lt_trichotomy i j with c | c | c
    · exact key i j c hj z h1 h2
    · subst c; exact absurd rfl hne
    · exact (key j i c hi z h2 h1).symm
end Rc
namespace Rc
structure GoodC (l : List C2) : Prop where
  s : Simple (l.map ptC)
  a : 0 < tsI l
theorem GoodC.len {l : List C2} (h : GoodC l) : 3 ≤ l.length := by have := h.s.len; rwa [List.length_map] at this
theorem nd_of_map {α β : Type} {f : α → β} {l : List α} (h : (l.map f).Nodup) : l.Nodup := by
  rw [List.Nodup, List.pairwise_map] at h
  exact h.imp fun k e => k (by rw [e])
theorem GoodC.nd {l : List C2} (h : GoodC l) : l.Nodup := nd_of_map h.s.nd
theorem GoodC.ar {l : List C2} (h : GoodC l) : 0 < Rc.ar (l.map ptC) := by rw [ar_c]; exact c_pos.mpr h.a
theorem atC_inj {l : List C2} (hn : l.Nodup) {i j : Nat} (h0 : 0 < l.length) (h : atC l i = atC l j) : i % l.length = j % l.length := by
  have h1 := atC_get (i := i) h0
  have h2 := atC_get (i := j) h0
  rw [h, ← h2] at h1
  exact (List.getElem?_inj (Nat.mod_lt _ h0) hn).mp h1
theorem tri_in {a b c p : C2} : triI a b c p = true ↔ InT (ptC a) (ptC b) (ptC c) (ptC p) := by
  unfold triI
  simp only [Bool.and_eq_true, decide_eq_true_iff]
  constructor
  · rintro ⟨h1, h2, h3⟩
    exact ⟨by rw [det_c, c_nn]; exact h1, by rw [det_c, c_nn]; exact h2, by rw [det_c, c_nn]; exact h3⟩
  · rintro ⟨h1, h2, h3⟩
    rw [det_c, c_nn] at h1 h2 h3
    exact ⟨h1, h2, h3⟩
theorem outC_iff {a b c p : C2} : outC a b c p = true ↔ p ≠ a ∧ p ≠ b ∧ p ≠ c := by
  unfold outC
  rw [Bool.not_eq_true', Bool.or_eq_false_iff, Bool.or_eq_false_iff, decide_eq_false_iff_not, decide_eq_false_iff_not, decide_eq_false_iff_not]
  constructor
  · rintro ⟨h1, h2, h3⟩; exact ⟨fun e => h1 e.symm, fun e => h2 e.symm, fun e => h3 e.symm⟩
  · rintro ⟨h1, h2, h3⟩; exact ⟨fun e => h1 e.symm, fun e => h2 e.symm, fun e => h3 e.symm⟩
theorem ear_iff {l : List C2} {k : Nat} : earC l k = true ↔ 0 < lefI (atC l (k + l.length - 1)) (atC l k) (atC l (k + 1)) ∧ ∀ p ∈ l, triI (atC l (k + l.length - 1)) (atC l k) (atC l (k + 1)) p = true → p = atC l (k + l.length - 1) ∨ p = atC l k ∨ p = atC l (k + 1) := by
  unfold earC
  by_cases c : lefI (atC l (k + l.length - 1)) (atC l k) (atC l (k + 1)) ≤ 0
  · rw [if_pos c]
    exact ⟨fun h => (by cases h), fun h => by omega⟩
  · rw [if_neg c, Bool.not_eq_true', List.any_map, List.any_eq_false]
    constructor
    · intro h
      refine ⟨by omega, fun p hp ht => ?_⟩
      apply Classical.byContradiction
      intro q
      exact h p (List.mem_filter.mpr ⟨hp, outC_iff.mpr ⟨fun e => q (.inl e), fun e => q (.inr (.inl e)), fun e => q (.inr (.inr e))⟩⟩) ht
    · rintro ⟨_, h⟩ p hp ht
      obtain ⟨h1, h2⟩ := List.mem_filter.mp hp
      have := outC_iff.mp h2
      rcases h p h1 ht with e | e | e
      · exact this.1 e
      · exact this.2.1 e
      · exact this.2.2 e
theorem prev_next (l : List C2) {k : Nat} (h : 0 < l.length) : atC l (k + l.length - 1 + 1) = atC l k := atC_eq (by rw [show k + l.length - 1 + 1 = k + l.length by omega, Nat.add_mod_right])
theorem ear_to {l : List C2} {k : Nat} (h3 : 3 ≤ l.length) (h : earC l k = true) : IsEar (l.map ptC) (ptC (atC l (k + l.length - 1))) (ptC (atC l k)) (ptC (atC l (k + 1))) := by
  obtain ⟨h1, h2⟩ := ear_iff.mp h
  have h0 : 0 < l.length := by omega
  refine ⟨?_, c_mem_cyc h0 k, by rw [det_c, c_pos]; exact h1, fun w hw hi => ?_⟩
  · have := c_mem_cyc h0 (k + l.length - 1)
    rw [prev_next l h0] at this
    exact this
  · obtain ⟨p, hp, rfl⟩ := List.mem_map.mp hw
    rcases h2 p hp (tri_in.mpr hi) with e | e | e
    · exact .inl (by rw [e])
    · exact .inr (.inl (by rw [e]))
    · exact .inr (.inr (by rw [e]))
theorem ear_from {l : List C2} (g : GoodC l) {p u q : Pt} (h : IsEar (l.map ptC) p u q) : ∃ k, k < l.length ∧ earC l k = true := by
  have h0 : 0 < l.length := by have := g.len; omega
  obtain ⟨i, hi, e1⟩ := cyc_c_mem h.i
  obtain ⟨k, hk, e2⟩ := cyc_c_mem h.o
  have p1 : p = ptC (atC l i) := congrArg Prod.fst e1
  have u1 : u = ptC (atC l (i + 1)) := congrArg Prod.snd e1
  have u2 : u = ptC (atC l k) := congrArg Prod.fst e2
  have q2 : q = ptC (atC l (k + 1)) := congrArg Prod.snd e2
  have e3 : atC l (i + 1) = atC l k := ptC_inj (u1.symm.trans u2)
  have e4 := atC_inj g.nd h0 e3
  have e5 : atC l i = atC l (k + l.length - 1) := by
    refine atC_eq ?_
    rw [Nat.mod_eq_of_lt hk] at e4
    by_cases c : i + 1 = l.length
    · rw [c, Nat.mod_self] at e4
      rw [← e4, show 0 + l.length - 1 = i by omega]
    · rw [Nat.mod_eq_of_lt (by omega)] at e4
      rw [← e4, show i + 1 + l.length - 1 = i + l.length by omega, Nat.add_mod_right]
  refine ⟨k, hk, ear_iff.mpr ⟨?_, fun w hw ht => ?_⟩⟩
  · have := h.d
    rw [p1, u2, q2, e5, det_c, c_pos] at this
    exact this
  · have := h.e (ptC w) (List.mem_map_of_mem hw)
    rw [p1, u2, q2, e5] at this
    rcases this (tri_in.mp ht) with e | e | e
    · exact .inl (ptC_inj e)
    · exact .inr (.inl (ptC_inj e))
    · exact .inr (.inr (ptC_inj e))
/-- the first ear -/
theorem good_first {l : List C2} (g : GoodC l) : firstE l < l.length ∧ earC l (firstE l) = true ∧ ∃ r, (List.range l.length).filter (earC l) = firstE l :: r := by
  have h0 : 0 < l.length := by have := g.len; omega
  obtain ⟨p, u, q, k, _⟩ := (good_of g.s g.ar).ear _ (c_mem_cyc h0 0)
  obtain ⟨i, hi, he⟩ := ear_from g k
  have hm : i ∈ (List.range l.length).filter (earC l) := List.mem_filter.mpr ⟨List.mem_range.mpr hi, he⟩
  unfold firstE
  cases hF : (List.range l.length).filter (earC l) with
  | nil => rw [hF] at hm; cases hm
  | cons a r =>
    have : a ∈ (List.range l.length).filter (earC l) := by rw [hF]; simp
    obtain ⟨h1, h2⟩ := List.mem_filter.mp this
    exact ⟨List.mem_range.mp h1, h2, r, rfl⟩
theorem split_uniq {α : Type} {u : α} : ∀ {A A' B B' : List α}, A ++ u :: B = A' ++ u :: B' → u ∉ A → u ∉ A' → A = A' ∧ B = B'
  | [], [], B, B', h, _, _ => ⟨rfl, by injection h⟩
  | [], x :: A', B, B', h, _, k => by injection h with h1 _; exact absurd (by rw [h1]; simp) k
  | x :: A, [], B, B', h, k, _ => by injection h with h1 _; exact absurd (by rw [← h1]; simp) k
  | x :: A, y :: A', B, B', h, k1, k2 => by
    injection h with h1 h2
    obtain ⟨e1, e2⟩ := split_uniq h2 (fun m => k1 (List.mem_cons_of_mem _ m)) (fun m => k2 (List.mem_cons_of_mem _ m))
    exact ⟨by rw [h1, e1], e2⟩
theorem rt_cut {A B X : List Pt} {u : Pt} (hn : (A ++ u :: B).Nodup) (r : Rt (A ++ u :: B) (u :: X)) : X = B ++ A := by
  obtain ⟨p, q, e1, e2⟩ := r
  have nA : u ∉ A := fun h => by
    rw [List.nodup_append] at hn
    exact hn.2.2 u h u (by simp) rfl
  match q, e2 with
  | [], e2 =>
    rw [List.append_nil] at e1
    rw [List.nil_append] at e2
    rw [← e2] at e1
    have nX : u ∉ X := fun h => by
      rw [e1, List.nodup_cons] at hn
      exact hn.1 h
    obtain ⟨h1, h2⟩ := split_uniq (A' := []) e1 nA (by simp)
    rw [h1, h2, List.append_nil]
  | y :: q, e2 =>
    injection e2 with h1 h2
    subst h1
    have np : u ∉ p := fun h => by
      rw [e1, List.nodup_append] at hn
      exact hn.2.2 u h u (by simp) rfl
    obtain ⟨h3, h4⟩ := split_uniq e1 nA np
    rw [h3, h4]
    exact h2
theorem cut_at {l : List C2} {k : Nat} (h : k < l.length) : l = l.take k ++ atC l k :: l.drop (k + 1) := by
  rw [atC_of (List.getElem?_eq_getElem h), List.getElem_cons_drop, List.take_append_drop]
/-- what is left is such a figure again, but for straight corners -/
theorem good_next {l : List C2} (g : GoodC l) (h4 : 4 ≤ l.length) {k : Nat} (hk : k < l.length) (he : earC l k = true) : GoodC (l.take k ++ l.drop (k + 1)) := by
  have e := ear_to g.len he
  obtain ⟨M, r, s, a⟩ := good_cut g.s g.ar (by rw [List.length_map]; exact h4) e
  have hl : l.map ptC = (l.take k).map ptC ++ ptC (atC l k) :: (l.drop (k + 1)).map ptC := by
    conv => lhs; rw [cut_at hk]
    rw [List.map_append, List.map_cons]
  have nd := g.s.nd
  rw [hl] at r nd
  have := rt_cut nd r
  have rr : Rt (ptC (atC l (k + 1)) :: (M ++ [ptC (atC l (k + l.length - 1))])) ((l.take k ++ l.drop (k + 1)).map ptC) := by
    rw [this, List.map_append]
    exact ⟨_, _, rfl, rfl⟩
  refine ⟨rr.simple s, ?_⟩
  rw [rr.ar, ar_c, c_pos] at a
  exact a
theorem cut_len {l : List C2} {k : Nat} (hk : k < l.length) : (l.take k ++ l.drop (k + 1)).length + 1 = l.length := by
  rw [List.length_append, List.length_take, List.length_drop]
  omega
theorem pairs_even {ns : List Int} (h : figI ns = true) : (ns.length : Int) % 2 ≠ 1 ∧ 3 ≤ (ns.length : Int) / 2 ∧ (ns.length : Int) / 2 ≤ 8 ∧ (∀ n ∈ ns, -50 ≤ n ∧ n ≤ 50) ∧ strC (pairs ns) = false ∧ crossI (pairs ns) = false ∧ 0 < tsI (pairs ns) := by
  unfold figI at h
  split at h
  · cases h
  · rename_i c
    split at h
    · cases h
    · rename_i d
      rw [Bool.not_eq_true, Bool.or_eq_false_iff] at c
      obtain ⟨c1, c2⟩ := c
      rw [Bool.not_eq_false', Bool.and_eq_true, decide_eq_true_iff, decide_eq_true_iff] at c2
      rw [Bool.not_eq_true, Bool.not_eq_false', List.all_map, List.all_eq_true] at d
      simp only [Bool.and_eq_true, Bool.not_eq_true', decide_eq_true_iff] at h
      refine ⟨of_decide_eq_false c1, c2.1, c2.2, fun n hn => ?_, h.1, h.2.1, h.2.2⟩
      have := d n hn
      unfold farI at this
      simpa using this
theorem fig_good {ns : List Int} (h : figI ns = true) : GoodC (pairs ns) := by
  obtain ⟨_, h2, _, _, h5, h6, h7⟩ := pairs_even h
  exact ⟨fig_simple (by rw [pairs_len]; omega) h5 h6, h7⟩
theorem fig_far {ns : List Int} (h : figI ns = true) : ∀ c ∈ pairs ns, c.1.natAbs ≤ 50 ∧ c.2.natAbs ≤ 50 := by
  obtain ⟨_, _, _, h4, _⟩ := pairs_even h
  intro c hc
  unfold pairs at hc
  obtain ⟨i, hi, rfl⟩ := List.mem_map.mp hc
  rw [List.mem_range] at hi
  have g (j : Nat) (hj : j < ns.length) := h4 _ (List.mem_of_getElem? (getD_get (d := 0) hj))
  have h1 := g (2 * i) (by omega)
  have h2 := g (2 * i + 1) (by omega)
  constructor
  · show (ns.getD (2 * i) 0).natAbs ≤ 50; omega
  · show (ns.getD (2 * i + 1) 0).natAbs ≤ 50; omega
end Rc
namespace Rc
open PySem PySem.Spec PyProof.Rows L2 Evl
/-! ### rules that the figures want -/
def rNotInT (K : PySem.W.Frag) : L2.R2 := fun x y H Q => ∃ d ds, Dp K H x d ∧ Dp K H y (.tuple ds) ∧ SeqAt.shaped d = true ∧ SeqAt.shaped (.tuple ds) = true ∧ Q (.bl (!ds.any fun z => PyData.eqv z d)) H
theorem shaped_low {d : PyData} (h : SeqAt.shaped d = true) : d.depth ≤ 64 := by
  unfold SeqAt.shaped at h
  rw [Bool.and_eq_true] at h
  exact of_decide_eq_true h.2
theorem op_notInT {X : Cx} (hu : X.A.units + 65 < cLine) : OpR X (compareOp .NotIn) (rNotInT X.K) := by
  intro pins s σ H x y v u Q I rx ry h
  obtain ⟨d, ds, hd, he, sd, se, q⟩ := h
  obtain ⟨as, r1⟩ := Dp.reads I d x v hd rx
  obtain ⟨bs, r2⟩ := Dp.reads I (.tuple ds) y u he ry
  exact SeqAt.notIn_tuple_reads r2 r1 (SeqAt.canLay_of_shaped se) (SeqAt.canLay_of_shaped sd) (by have := shaped_low sd; have := Nat.min_le_right (PyData.depthAll ds) d.depth; omega) ⟨.bl _, H, I, rfl, q⟩
theorem opNiT {X : Cx} {K : PySem.W.Frag} (hu : X.A.units + 65 < cLine) (h : X.K = K) : OpR X (compareOp .NotIn) (rNotInT K) := h ▸ op_notInT hu
section
variable {K : PySem.W.Frag}
abbrev cR (K : PySem.W.Frag) (c : C2) : Rp := tR K [iR c.1, iR c.2]
abbrev sgR (K : PySem.W.Frag) (s : C2 × C2) : Rp := tR K [cR K s.1, cR K s.2]
def dC (c : C2) : PyData := .tuple [.int c.1, .int c.2]
theorem rd_c (c : C2) : Rd2 K (cR K c) (dC c) := .tup rfl fun i r d a b => by
  match i with
  | 0 => cases a; cases b; exact .int _
  | 1 => cases a; cases b; exact .int _
  | i + 2 => cases a
theorem eqv_c (a b : C2) : PyData.eqv (dC a) (dC b) = decide (a = b) := by
  have h : PyData.eqv (dC a) (dC b) = (a.1 == b.1 && a.2 == b.2) := by
    simp [dC, PyData.eqv, PyData.eqvAll]
  rw [h, Bool.eq_iff_iff, Bool.and_eq_true, beq_iff_eq, beq_iff_eq, decide_eq_true_iff]
  exact ⟨fun q => Prod.ext q.1 q.2, fun q => ⟨by rw [q], by rw [q]⟩⟩
variable {ρ ρ' : List Sl} {ta tb tc te : TE} {r : Rp} {rs : List Rp}
theorem rd_c3 (a b c : C2) : Rd2 K (tR K [cR K a, cR K b, cR K c]) (.tuple [dC a, dC b, dC c]) := .tup rfl fun i r d x y => by
  match i with
  | 0 => cases x; cases y; exact rd_c _
  | 1 => cases x; cases y; exact rd_c _
  | 2 => cases x; cases y; exact rd_c _
  | i + 3 => cases x
theorem er_outC {a b c p : C2} (h : ER ta ρ (cR K p)) (k : ER tb ρ (tR K [cR K a, cR K b, cR K c])) : ER (tOp (rNotInT K) ta tb) ρ (bR (outC a b c p)) := er_op h k fun x y G H ex px py Q q => by
  refine ⟨dC p, [dC a, dC b, dC c], (rd_c p).dp ((cR K p).mono ex px), (rd_c3 a b c).dp ((tR K [cR K a, cR K b, cR K c]).mono ex py), rfl, rfl, ?_⟩
  have : ([dC a, dC b, dC c].any fun z => PyData.eqv z (dC p)) = (decide (a = p) || (decide (b = p) || decide (c = p))) := by
    rw [List.any_cons, List.any_cons, List.any_cons, List.any_nil, eqv_c, eqv_c, eqv_c, Bool.or_false]
  rw [this]
  exact q _ G H (Step.refl ex) rfl
theorem cr_intB {b : Bool} : CR (fun xs H Q => (∃ i, xs = [.int i] ∧ Q (.int i) H) ∨ ∃ k, xs = [.bl k] ∧ Q (.int (if k then 1 else 0)) H) [bR b] (iR (if b = true then 1 else 0)) := fun vs G H e hv Q q => by
  obtain ⟨v, e0, h1⟩ := al1 hv
  have h1 : v = .bl b := h1
  subst e0
  subst h1
  exact .inr ⟨b, rfl, q _ G H (Step.refl e) rfl⟩
theorem cr_min2 {i j : Int} : CR (fun xs H Q => ∃ i j, xs = [.int i, .int j] ∧ Q (.int (if j < i then j else i)) H) [iR i, iR j] (iR (mn i j)) := fun vs G H e hv Q q => by
  obtain ⟨v, w, e0, h1, h2⟩ := al2 hv
  have h1 : v = .int i := h1
  have h2 : w = .int j := h2
  subst e0; subst h1; subst h2
  exact ⟨i, j, rfl, q _ G H (Step.refl e) rfl⟩
theorem cr_max2 {i j : Int} : CR (fun xs H Q => ∃ i j, xs = [.int i, .int j] ∧ Q (.int (if j > i then j else i)) H) [iR i, iR j] (iR (mx i j)) := fun vs G H e hv Q q => by
  obtain ⟨v, w, e0, h1, h2⟩ := al2 hv
  have h1 : v = .int i := h1
  have h2 : w = .int j := h2
  subst e0; subst h1; subst h2
  exact ⟨i, j, rfl, q _ G H (Step.refl e) rfl⟩
theorem g_lst {gs : TGs} {is : List Nat} {n : Nat} (h : GsR gs is rs ρ ρ') (hl : rs.length = n := by rfl) : GR (gLst K n gs) is (sR K rs) ρ ρ' := fun H0 σ G H v e en p Q q => by
  obtain ⟨a, vs, e1, h1, h2⟩ := p
  exact ⟨a, vs, e1, ex_l e h1, by rw [← h2.len]; exact hl, h H0 σ G H vs e en h2 Q q⟩
theorem g_lstL {gs : TGs} {is : List Nat} {n : Nat} (h : GsR gs is rs ρ ρ') (hl : rs.length = n := by rfl) : GR (gLst K n gs) is (lR rs) ρ ρ' := fun H0 σ G H v e en p Q q => g_lst h hl H0 σ G H v e en (lR_s p) Q q
theorem pgLst {X : Cx} {pos : Pos} {es : List Expr} {k : Nat} {t : TGs} {n : Nat} (hK : X.K = K) (hc : X.calm = true) (h : PGs X es t) (hn : (assignEach es X.env).length = n := by rfl) (hst : (assignEach es X.env).findIdx? (·.1) = none := by rfl) : PG X (.Tuple es k pos) (gLst K n t) := hK ▸ pg_lst hc h hn hst
end
/-- small enough for whole numbers -/
def Sm (c : C2) : Prop := c.1.natAbs ≤ 50 ∧ c.2.natAbs ≤ 50
theorem Sm.m {a b c d : C2} (ha : Sm a) (hb : Sm b) (hc : Sm c) (hd : Sm d) : IntMulOk (b.1 - a.1) (d.2 - c.2) ∧ IntMulOk (b.2 - a.2) (d.1 - c.1) := by
  unfold Sm at *
  exact ⟨mulSm (by omega) (by omega), mulSm (by omega) (by omega)⟩
theorem Sm.m2 {a b : C2} (ha : Sm a) (hb : Sm b) : IntMulOk a.1 b.2 ∧ IntMulOk a.2 b.1 := by
  unfold Sm at *
  exact ⟨mulSm (by omega) (by omega), mulSm (by omega) (by omega)⟩
theorem sgn_small (n : Int) : (sgnI n).natAbs ≤ 1 := by
  rcases Int.lt_trichotomy n 0 with h | h | h
  · rw [sgn_n h]; decide
  · subst h; decide
  · rw [sgn_p h]; decide
theorem sgn_ok (a b : Int) : IntMulOk (sgnI a) (sgnI b) := by
  have := sgn_small a
  have := sgn_small b
  exact mulSm (by omega) (by omega)
end Rc
namespace Rc
open PySem PySem.Spec PyProof.Rows L2 Evl
/-! ### methods by their promise -/
structure Cm (P : Program) (w : World) (K : PySem.W.Frag) (mg : Str → Option Value) (base : Heap) (C : Addr) (m : Str) (k : Nat) (ps : List Str) (pre : List Rp → Rp → Prop) : Prop where
  ex : ∃ f fd, L2.Meth K C m f ∧ FnOk P w K mg base CX0 k f fd ps (Pm pre) ∧ Binds K fd ps []
theorem pe_cm {X : Cx} {m : Str} {C : Addr} {k : Nat} {ps : List Str} {pre : List Rp → Rp → Prop} {apos pos : Pos} {o : Expr} {ta : TE} {pl : Sem Bool} (c : Cm X.prog X.w X.K X.mg X.base C m k ps pre) (hc : L2.Cls X.K C) (he : PE X o ta) (hr : Room k X.A)
    (ht : eval (.Call (.Attribute o m apos) [] [] pos) X.env = (do
      let ov ← eval o X.env
      standAt apos.atName
      let (f, first) ← holding [ov] (getMethod ov m pl)
      callWith pos f first (backTo pos (starEach [] X.env)) (backToKw pos (keywordEach [] X.env))) := by rfl) :
    PE X (.Call (.Attribute o m apos) [] [] pos) (tMeth C m (Pm pre) [] E0 ta tNil) := by
  obtain ⟨f, fd, h1, h2, h3⟩ := c.ex
  exact pe_meth0 he hc h1 h2 hr h3 .nil pass0 ht
/-- the first place where a test holds -/
theorem first_good {α : Type} {f : α → Bool} {xs : List α} (h : xs.any f = true) : ∃ n x, xs[n]? = some x ∧ f x = true ∧ ∀ (i : Nat) (y : α), i < n → xs[i]? = some y → f y = false := by
  have : xs.all (fun x => !f x) = false := by
    rw [Bool.eq_false_iff]
    intro q
    rw [List.all_eq_true] at q
    obtain ⟨x, hx, hf⟩ := List.any_eq_true.mp h
    have := q x hx
    rw [hf] at this
    cases this
  obtain ⟨n, x, h1, h2, h3⟩ := first_bad this
  exact ⟨n, x, h1, by simpa using h2, fun i y hi hy => by simpa using h3 i y hi hy⟩
section
variable {K : PySem.W.Frag} {ρ : List Sl} {ta : TE}
theorem er_notO {α : Type} {ra : α → Rp} (hn : ∀ a, NN (ra a)) {o : Option α} (h : ER ta ρ (opR ra o)) : ER (tNotN ta) ρ (bR o.isSome) := by
  cases o with
  | none => exact er_notF h
  | some a => exact er_notT h (hn a)
end
theorem filter_some {α : Type} (r : α → Rp) : ∀ xs : List (Option α), (xs.filter Option.isSome).map (opR r) = (xs.filterMap id).map r
  | [] => rfl
  | none :: xs => by
    rw [List.filter_cons, if_neg (by simp), List.filterMap_cons]
    exact filter_some r xs
  | some a :: xs => by
    rw [List.filter_cons, if_pos (show (some a).isSome = true from rfl), List.filterMap_cons, List.map_cons, filter_some r xs]
    rfl
/-! ### cut up, turn by turn -/
def cutC (l : List C2) : List C2 := l.take (firstE l) ++ l.drop (firstE l + 1)
def lft (l : List C2) : Nat → List C2
  | 0 => l
  | n + 1 => cutC (lft l n)
def fnd (l : List C2) (n : Nat) : List (List C2) := (List.range n).map fun j => eat (lft l j) (firstE (lft l j))
theorem lft_shift (l : List C2) : ∀ n, lft (cutC l) n = lft l (n + 1)
  | 0 => rfl
  | n + 1 => congrArg cutC (lft_shift l n)
theorem cutI_is : ∀ (n : Nat) (l : List C2), cutI n l = fnd l n ++ [lft l n]
  | 0, l => rfl
  | n + 1, l => by
    show eat l (firstE l) :: cutI n (cutC l) = _
    rw [cutI_is n (cutC l), lft_shift]
    unfold fnd
    rw [List.range_succ_eq_map, List.map_cons, List.map_map, List.cons_append]
    congr 2
    refine List.map_congr_left fun j _ => ?_
    rw [lft_shift]
    rfl
theorem lft_good {l : List C2} (g : GoodC l) : ∀ n, n + 3 ≤ l.length → GoodC (lft l n) ∧ (lft l n).length + n = l.length ∧ ∀ c ∈ lft l n, c ∈ l
  | 0, _ => ⟨g, rfl, fun _ h => h⟩
  | n + 1, h => by
    obtain ⟨h1, h2, h3⟩ := lft_good g n (by omega)
    obtain ⟨f1, f2, _⟩ := good_first h1
    refine ⟨good_next h1 (by omega) f1 f2, ?_, fun c hc => ?_⟩
    · have := cut_len f1
      show (cutC (lft l n)).length + (n + 1) = _
      unfold cutC
      omega
    · refine h3 c ?_
      rcases List.mem_append.mp hc with q | q
      · exact List.mem_of_mem_take q
      · exact List.mem_of_mem_drop q
def wp (c : C2) : Kzq1.P := ⟨Kzq1.whole c.1, Kzq1.whole c.2⟩
def trisF (ns : List Int) : List (List Kzq1.P) := (cutI ((pairs ns).length - 3) (pairs ns)).filterMap fun t => pcF2 (t.map wp)
theorem sm_far {ns : List Int} (h : figI ns = true) : ∀ c ∈ pairs ns, Sm c := fig_far h
end Rc
namespace Rc
open Kzq1 (Q P turn at0 sides cross clip onLine unlike straightened formed begunWith meet)
/-! ### whole corners as points -/
theorem can_whole (n : Int) : Can (Kzq1.whole n) := ⟨Nat.one_pos, by show Nat.gcd n.natAbs 1 = 1; simp⟩
theorem cp_wp (c : C2) : Cp (wp c) := ⟨can_whole _, can_whole _⟩
theorem vq_whole (n : Int) : vq (Kzq1.whole n) = (n : Rat) := by
  show (n : Rat) / ((1 : Nat) : Rat) = _
  have : ((1 : Nat) : Rat) = 1 := rfl
  rw [this]
  grind
theorem tr_wp (a b c : C2) : tr (wp a) (wp b) (wp c) = (lefI a b c : Rat) := by
  unfold tr vx vy
  show (vq (Kzq1.whole _) - vq (Kzq1.whole _)) * (vq (Kzq1.whole _) - vq (Kzq1.whole _)) - (vq (Kzq1.whole _) - vq (Kzq1.whole _)) * (vq (Kzq1.whole _) - vq (Kzq1.whole _)) = _
  rw [vq_whole, vq_whole, vq_whole, vq_whole, vq_whole, vq_whole]
  unfold lefI
  rw [Rat.intCast_sub, Rat.intCast_mul, Rat.intCast_mul, Rat.intCast_sub, Rat.intCast_sub, Rat.intCast_sub, Rat.intCast_sub]
theorem fp_wp {c : C2} (h : Sm c) : Fp 7 (wp c) := by
  unfold Sm at h
  exact ⟨⟨Nat.one_pos, by show c.1.natAbs < 2 ^ 7; omega, by show 1 < 2 ^ 7; decide⟩, ⟨Nat.one_pos, by show c.2.natAbs < 2 ^ 7; omega, by show 1 < 2 ^ 7; decide⟩⟩
theorem tri_conv {a b c : P} (ha : Cp a) (hb : Cp b) (hc : Cp c) (h : 0 < tr a b c) : Cv [a, b, c] := by
  refine ⟨fun z hz => ?_, ?_⟩
  · simp only [List.mem_cons, List.not_mem_nil, or_false] at hz
    rcases hz with rfl | rfl | rfl
    · exact ha
    · exact hb
    · exact hc
  · have p1 : Kzq1.pos (turn a b c) = true := decide_eq_true ((turn_pos ha hb hc).mpr h)
    have p2 : Kzq1.pos (turn b c a) = true := decide_eq_true ((turn_pos hb hc ha).mpr (by rw [← tr_cyc]; exact h))
    have p3 : Kzq1.pos (turn c a b) = true := decide_eq_true ((turn_pos hc ha hb).mpr (by rw [← tr_cyc, ← tr_cyc]; exact h))
    unfold Kzq1.convex
    rw [Bool.and_eq_true]
    refine ⟨rfl, ?_⟩
    rw [List.all_eq_true]
    intro i hi
    rw [List.all_eq_true]
    intro j hj
    have hi : i < 3 := List.mem_range.mp hi
    have hj : j < 3 := List.mem_range.mp hj
    match i, hi, j, hj with
    | 0, _, 0, _ => rfl
    | 0, _, 1, _ => rfl
    | 0, _, 2, _ => exact p1
    | 1, _, 0, _ => exact p2
    | 1, _, 1, _ => rfl
    | 1, _, 2, _ => rfl
    | 2, _, 0, _ =>
      have e : (2 + 1) % [a, b, c].length = 0 := by simp
      rw [e]; rfl
    | 2, _, 1, _ =>
      have e : at0 [a, b, c] (2 + 1) = a := (at0_eq (show (2 + 1) % [a, b, c].length = 0 % [a, b, c].length by simp)).trans rfl
      rw [e, show Kzq1.pos (turn (at0 [a, b, c] 2) a (at0 [a, b, c] 1)) = true from p3, Bool.or_true]
    | 2, _, 2, _ => rfl
theorem conv_uq {l : List P} (h : Kzq1.convex l = true) : uq l = l := by
  have h3 := conv_len h
  unfold uq
  rw [filterMap_all (g := at0 l) fun i => if_neg fun e => ?_, at0_list]
  have := conv_next h (i + l.length - 1)
  rw [at0_eq (show (i + l.length - 1 + 1) % l.length = i % l.length by rw [show i + l.length - 1 + 1 = i + l.length by omega, Nat.add_mod_right])] at this
  exact this e.symm
theorem conv_pcF2 {l : List P} (h : Kzq1.convex l = true) : pcF2 l = some (begunWith l) := by
  have h3 := conv_len h
  unfold pcF2
  rw [conv_uq h, conv_straight h, if_neg (by omega)]
/-! ### the triangles -/
structure Tri (t : List P) : Prop where
  v : Cv t
  b : BL 7 t
  l : t.length = 3
theorem three_pos {a b c : C2} : tsI [a, b, c] = lefI a b c := by
  have e : sdC [a, b, c] = [(a, b), (b, c), (c, a)] := by unfold sdC; simp [List.range_succ, atC]
  unfold tsI
  rw [e]
  show (a.1 * b.2 - a.2 * b.1) + ((b.1 * c.2 - b.2 * c.1) + ((c.1 * a.2 - c.2 * a.1) + 0)) = (b.1 - a.1) * (c.2 - a.2) - (b.2 - a.2) * (c.1 - a.1)
  grind
theorem tri_ear {l : List C2} (hs : ∀ c ∈ l, Sm c) {k : Nat} (h0 : 0 < l.length) (he : earC l k = true) : Tri ((eat l k).map wp) := by
  have h := (ear_iff.mp he).1
  have m (j : Nat) : Sm (atC l j) := hs _ (atC_mem h0)
  refine ⟨tri_conv (cp_wp _) (cp_wp _) (cp_wp _) (by rw [tr_wp, c_pos]; exact h), fun z hz => ?_, rfl⟩
  obtain ⟨c, hc, rfl⟩ := List.mem_map.mp hz
  unfold eat at hc
  simp only [List.mem_cons, List.not_mem_nil, or_false] at hc
  rcases hc with rfl | rfl | rfl <;> exact fp_wp (m _)
theorem tri_last {l : List C2} (g : GoodC l) (hs : ∀ c ∈ l, Sm c) (hl : l.length = 3) : Tri (l.map wp) := by
  match l, hl, g, hs with
  | [a, b, c], _, g, hs =>
    refine ⟨tri_conv (cp_wp _) (cp_wp _) (cp_wp _) (by rw [tr_wp, c_pos, ← three_pos]; exact g.a), fun z hz => ?_, rfl⟩
    obtain ⟨c, hc, rfl⟩ := List.mem_map.mp hz
    exact fp_wp (hs _ hc)
theorem cut_tri {l : List C2} (g : GoodC l) (hs : ∀ c ∈ l, Sm c) : ∀ t ∈ cutI (l.length - 3) l, Tri (t.map wp) := by
  have h3 := g.len
  intro t ht
  rw [cutI_is] at ht
  rcases List.mem_append.mp ht with q | q
  · unfold fnd at q
    obtain ⟨j, hj, rfl⟩ := List.mem_map.mp q
    rw [List.mem_range] at hj
    obtain ⟨k1, k2, k3⟩ := lft_good g j (by omega)
    obtain ⟨f1, f2, _⟩ := good_first k1
    exact tri_ear (fun c hc => hs c (k3 c hc)) (by omega) f2
  · obtain ⟨k1, k2, k3⟩ := lft_good g (l.length - 3) (by omega)
    rw [List.mem_singleton.mp q]
    exact tri_last k1 (fun c hc => hs c (k3 c hc)) (by omega)
theorem cutI_len (l : List C2) (n : Nat) : (cutI n l).length = n + 1 := by
  rw [cutI_is]
  unfold fnd
  simp
theorem Tri.begun {t : List P} (h : Tri t) : Tri (begunWith t) := ⟨h.v.begun, fun z hz => h.b z (begun_mem hz), by rw [begun_len]; exact h.l⟩
theorem trisF_is {ns : List Int} (h : figI ns = true) : trisF ns = (cutI ((pairs ns).length - 3) (pairs ns)).map fun t => begunWith (t.map wp) := by
  have key : ∀ ts : List (List C2), (∀ t ∈ ts, Tri (t.map wp)) → (ts.filterMap fun t => pcF2 (t.map wp)) = ts.map fun t => begunWith (t.map wp) := by
    intro ts
    induction ts with
    | nil => intro _; rfl
    | cons t ts ih =>
      intro k
      rw [List.filterMap_cons, conv_pcF2 (k t (by simp)).v.v, List.map_cons, ih fun t ht => k t (List.mem_cons_of_mem _ ht)]
  exact key _ (cut_tri (fig_good h) (sm_far h))
theorem trisF_tri {ns : List Int} (h : figI ns = true) : (∀ t ∈ trisF ns, Tri t) ∧ (trisF ns).length ≤ 6 := by
  rw [trisF_is h]
  obtain ⟨_, h2, h3, _⟩ := pairs_even h
  refine ⟨fun t ht => ?_, by rw [List.length_map, cutI_len, pairs_len]; omega⟩
  obtain ⟨u, hu, rfl⟩ := List.mem_map.mp ht
  exact (cut_tri (fig_good h) (sm_far h) u hu).begun
/-! ### pieces of cuttings: bounds -/
structure PcOk (p : List P) : Prop where
  v : Cv p
  b : BL 600 p
  l : p.length ≤ 40
theorem PcOk.inok {p q : List P} (hp : PcOk p) (hq : PcOk q) : ∃ s, InOk s p q := ⟨600, by decide, hp.v, hq.v, hp.b, hq.b, by have := hp.l; have := hq.l; omega⟩
theorem Tri.ok {t : List P} (h : Tri t) : PcOk t := ⟨h.v, fun z hz => (h.b z hz).mono (by decide), by rw [h.l]; decide⟩
theorem PcOk.ne {p : List P} (h : PcOk p) : p ≠ [] := by
  have := conv_len h.v.v
  rintro rfl
  simp at this
theorem pcF2_mem {l r : List P} (h : pcF2 l = some r) : (∀ z ∈ r, z ∈ l) ∧ r.length ≤ l.length := by
  unfold pcF2 at h
  split at h
  · cases h
  · injection h with h
    rw [← h, begun_len]
    exact ⟨fun z hz => (uq_sub l).subset ((straight_sub _).subset (begun_mem hz)), Nat.le_trans (straight_sub _).length_le (uq_sub l).length_le⟩
theorem goOn_some {ss : List (P × P)} {l r : List P} (h : goOn ss l = some r) : r = clipTo l ss ss.length := by
  rcases goOn_cases ss l with ⟨h1, _⟩ | ⟨h1, _⟩
  · rw [h1] at h; injection h with h; exact h.symm
  · rw [h1] at h; cases h
theorem inB_bl {p q r : List P} (hp : PcOk p) (hq : PcOk q) (h : inB p q = some r) : BL 4803 r ∧ r.length ≤ p.length + 3 * q.length := by
  have ok : InOk 600 p q := ⟨by decide, hp.v, hq.v, hp.b, hq.b, by have := hp.l; have := hq.l; omega⟩
  obtain ⟨g1, g2⟩ := ok.at (sides q).length (Nat.le_refl _)
  unfold inB at h
  split at h
  · cases h
  · cases e : goOn (sides q) p with
    | none => rw [e] at h; cases h
    | some l =>
      rw [e] at h
      obtain ⟨m1, m2⟩ := pcF2_mem (show pcF2 l = some r from h)
      rw [goOn_some e] at m1 m2
      rw [sides_len] at m1 m2 g1 g2
      exact ⟨fun z hz => g1.f z (m1 z hz), by omega⟩
def shF (p : List P) (ts : List (List P)) : Q := Kzq1.sum ((ts.filterMap (inB p)).map Kzq1.size)
theorem size_fq {r : List P} (hb : BL 4803 r) (hl : r.length ≤ 60) : Fq 1153000 (Kzq1.size r) := (half_fq.mul (area_sum hb)).mono (by omega)
theorem area_r {r : List P} (hb : BL 4803 r) (hl : r.length ≤ 60) : AreaOk r := ⟨by omega, 4803, by decide, hb, by omega⟩
theorem sh_each {p : List P} (hp : PcOk p) {ts : List (List P)} (ht : ∀ t ∈ ts, Tri t) : ∀ r ∈ ts.filterMap (inB p), BL 4803 r ∧ r.length ≤ 60 := fun r hr => by
  obtain ⟨t, h1, h2⟩ := List.mem_filterMap.mp hr
  have tt := ht t h1
  obtain ⟨k1, k2⟩ := inB_bl hp tt.ok h2
  have := hp.l
  rw [tt.l] at k2
  exact ⟨k1, by omega⟩
theorem size_pc {p : List P} (h : PcOk p) : AreaOk p ∧ Fq 100000 (Kzq1.size p) := ⟨⟨by have := h.l; omega, 600, by decide, h.b, by have := h.l; omega⟩, (half_fq.mul (area_sum h.b)).mono (by have := h.l; omega)⟩
theorem sh_fq {p : List P} (hp : PcOk p) {ts : List (List P)} (ht : ∀ t ∈ ts, Tri t) (hl : ts.length ≤ 6) : Bq (shF p ts) := by
  have := sum_fq (s := 1153000) ((ts.filterMap (inB p)).map Kzq1.size) Kzq1.zero 1 ⟨Nat.one_pos, by decide, by decide⟩ fun q hq => by
    obtain ⟨r, hr, rfl⟩ := List.mem_map.mp hq
    obtain ⟨h1, h2⟩ := sh_each hp ht r hr
    exact size_fq h1 h2
  refine Fq.b this ?_
  have : (ts.filterMap (inB p)).length ≤ ts.length := List.length_filterMap_le _ _
  rw [List.length_map]
  omega
def foutF (ts : List (List P)) (ps : List (List P)) : Int := match ps.findIdx? (fun p => !(shF p ts == Kzq1.size p)) with
  | some k => (k : Int)
  | none => -1
def shP (ps : List (List P)) (i j : Nat) : Bool := (inB (ps.getD i []) (ps.getD j [])).isSome
def shK (ps : List (List P)) (i : Nat) : Bool := (List.range (ps.length - (i + 1))).any fun j => shP ps i (i + 1 + j)
def firstB (b : Nat → Bool) (n : Nat) : Nat := ((List.range n).filter b).headD 0
def fshF (ps : List (List P)) : List Int := if (List.range ps.length).any (shK ps) = true then
  let i := firstB (shK ps) ps.length
  [(i : Int), ((i + 1 + firstB (fun j => shP ps i (i + 1 + j)) (ps.length - (i + 1)) : Nat) : Int)] else []
theorem firstB_is {b : Nat → Bool} {n k : Nat} (hk : k < n) (h : b k = true) (hn : ∀ i, i < k → b i = false) : firstB b n = k := by
  unfold firstB
  rw [range_cut n k hk, List.filter_append, List.filter_cons, if_pos h]
  have : (List.range k).filter b = [] := by
    rw [List.filter_eq_nil_iff]
    intro i hi
    rw [hn i (List.mem_range.mp hi)]
    exact Bool.false_ne_true
  rw [this]
  rfl
end Rc
namespace Rc
open Kzq1 (Q P turn at0 sides cross clip onLine unlike straightened formed begunWith meet)
/-! ### parts that were read -/
theorem told_can {n d : Int} (h : told2 n d = true) : Can ⟨n, d.toNat⟩ := by
  unfold told2 at h
  rw [Bool.and_eq_true, decide_eq_true_iff, decide_eq_true_iff] at h
  exact ⟨by show 0 < d.toNat; omega, by show Nat.gcd n.natAbs d.toNat = 1; omega⟩
theorem fracs_can {ns : List Int} {qs : List Q} (h : fracs ns = some qs) : ∀ q ∈ qs, Can q := by
  obtain ⟨ha, rfl⟩ := fracs_is h
  intro q hq
  obtain ⟨p, hp, rfl⟩ := List.mem_map.mp hq
  exact told_can (List.all_eq_true.mp ha p hp)
structure PtOk (p : Kzq2.Part) : Prop where
  v : Cv p.l
  b : BL 256 p.l
  l : p.l.length ≤ 40
  m : Cp p.m.t
  f : Fp 256 p.m.t
theorem partOf_ok {n : Nat} {ns : List Int} {p : Kzq2.Part} (h3 : 3 ≤ n) (h40 : n ≤ 40) (hl : ns.length = 4 * n + 5) (hb : ∀ x ∈ ns, x.natAbs < 2 ^ 256) (h : partOf n ns = some p) : PtOk p := by
  obtain ⟨⟨b1, b2, b3, b4⟩, h1, h2⟩ := partOf_bpt h3 h40 hl h hb
  unfold partOf at h
  cases c1 : fracs (ns.take (4 * n)) with
  | none => rw [c1] at h; cases h
  | some cs =>
    cases c2 : fracs (ns.drop (4 * n + 1)) with
    | none => rw [c1, c2] at h; cases h
    | some ss =>
      rw [c1, c2] at h
      have h : (if ns.getD (4 * n) 2 = 0 ∨ ns.getD (4 * n) 2 = 1 then (if strictB (ptsOf cs n) = true then some (⟨Kzq1.begunWith (ptsOf cs n), ⟨decide (ns.getD (4 * n) 2 = 1), ⟨ss.getD 0 Kzq1.zero, ss.getD 1 Kzq1.zero⟩⟩⟩ : Kzq2.Part) else none) else none) = some p := h
      split at h
      · split at h
        · rename_i hs
          cases h
          have q1 := fracs_can c1
          have q2 := fracs_can c2
          have k1 : cs.length = 2 * n := by rw [fracs_len c1, List.length_take]; omega
          have k2 : ss.length = 2 := by rw [fracs_len c2, List.length_drop]; omega
          have gc (i : Nat) (hi : i < cs.length) : Can (cs.getD i Kzq1.zero) := q1 _ (List.mem_of_getElem? (getDq_get hi))
          refine ⟨Cv.begun ⟨fun z hz => ?_, ?_⟩, b1, b3, ⟨q2 _ (List.mem_of_getElem? (getDq_get (by omega))), q2 _ (List.mem_of_getElem? (getDq_get (by omega)))⟩, b4⟩
          · unfold ptsOf at hz
            obtain ⟨k, hk, rfl⟩ := List.mem_map.mp hz
            rw [List.mem_range] at hk
            exact ⟨gc _ (by omega), gc _ (by omega)⟩
          · rw [strict_conv _ (by rw [ptsOf_len]; exact h3)]
            exact hs
        · cases h
      · cases h
theorem readOn_ok {k : Nat} {l : List Int} {ps : List Kzq2.Part} (h : readOn k l = some ps) (hb : ∀ x ∈ l, x.natAbs < 2 ^ 256) : ∀ p ∈ ps, PtOk p :=
  readOn_all (C := PtOk) (fun n ns p h3 h40 hl hx hp => partOf_ok h3 h40 hl hx hp) h hb
/-! ### moved pieces -/
theorem cp_go {m : Kzq2.Move} {z : P} (hm : Cp m.t) (hz : Cp z) : Cp (Kzq2.go m z) := by
  unfold Kzq2.go
  cases m.h with
  | true => exact cp_plus (a := Kzq2.opp z) ⟨hz.1.neg, hz.2.neg⟩ hm
  | false => exact cp_plus hz hm
def sgB (b : Bool) : Rat := if b then -1 else 1
theorem vx_go {m : Kzq2.Move} {z : P} (hm : Cp m.t) (hz : Cp z) : vx (Kzq2.go m z) = sgB m.h * vx z + vx m.t := by
  unfold Kzq2.go
  cases m.h with
  | true =>
    show vq (Kzq1.add (Kzq1.neg z.x) m.t.x) = -1 * vq z.x + vq m.t.x
    rw [vq_add hz.1.neg.1 hm.1.1, vq_neg]
    grind
  | false =>
    show vq (Kzq1.add z.x m.t.x) = 1 * vq z.x + vq m.t.x
    rw [vq_add hz.1.1 hm.1.1]
    grind
theorem vy_go {m : Kzq2.Move} {z : P} (hm : Cp m.t) (hz : Cp z) : vy (Kzq2.go m z) = sgB m.h * vy z + vy m.t := by
  unfold Kzq2.go
  cases m.h with
  | true =>
    show vq (Kzq1.add (Kzq1.neg z.y) m.t.y) = -1 * vq z.y + vq m.t.y
    rw [vq_add hz.2.neg.1 hm.2.1, vq_neg]
    grind
  | false =>
    show vq (Kzq1.add z.y m.t.y) = 1 * vq z.y + vq m.t.y
    rw [vq_add hz.2.1 hm.2.1]
    grind
theorem sgB_sq (b : Bool) : sgB b * sgB b = 1 := by cases b <;> (unfold sgB; simp) <;> grind
theorem tr_go {m : Kzq2.Move} {a b c : P} (hm : Cp m.t) (ha : Cp a) (hb : Cp b) (hc : Cp c) : tr (Kzq2.go m a) (Kzq2.go m b) (Kzq2.go m c) = tr a b c := by
  unfold tr
  rw [vx_go hm ha, vx_go hm hb, vx_go hm hc, vy_go hm ha, vy_go hm hb, vy_go hm hc]
  have := sgB_sq m.h
  generalize sgB m.h = s at *
  grind
theorem at0_map {f : P → P} {l : List P} (h : 0 < l.length) (i : Nat) : at0 (l.map f) i = f (at0 l i) := by
  unfold Kzq1.at0
  have hm : i % l.length < l.length := Nat.mod_lt _ h
  rw [List.length_map, List.getD_eq_getElem?_getD, List.getD_eq_getElem?_getD, List.getElem?_map, List.getElem?_eq_getElem hm]
  rfl
theorem conv_go {m : Kzq2.Move} {l : List P} (hm : Cp m.t) (h : Cv l) : Cv (l.map (Kzq2.go m)) := by
  have h3 := conv_len h.v
  have h0 : 0 < l.length := by omega
  refine ⟨fun z hz => ?_, ?_⟩
  · obtain ⟨y, hy, rfl⟩ := List.mem_map.mp hz
    exact cp_go hm (h.c y hy)
  · have hv := h.v
    unfold Kzq1.convex at hv ⊢
    rw [Bool.and_eq_true, List.all_eq_true] at hv ⊢
    rw [List.length_map]
    refine ⟨hv.1, fun i hi => ?_⟩
    have hi2 := hv.2 i hi
    rw [List.all_eq_true] at hi2 ⊢
    intro j hj
    have hj2 := hi2 j hj
    rw [Bool.or_eq_true] at hj2 ⊢
    rcases hj2 with q | q
    · exact .inl q
    · refine .inr ?_
      rw [at0_map h0, at0_map h0, at0_map h0]
      refine decide_eq_true ?_
      rw [turn_pos (cp_go hm (h.at i)) (cp_go hm (h.at (i + 1))) (cp_go hm (h.at j)), tr_go hm (h.at i) (h.at (i + 1)) (h.at j)]
      exact (turn_pos (h.at i) (h.at (i + 1)) (h.at j)).mp (of_decide_eq_true q)
theorem fp_go {m : Kzq2.Move} {z : P} (hm : Fp 256 m.t) (hz : Fp 256 z) : Fp 513 (Kzq2.go m z) := by
  unfold Kzq2.go
  cases m.h with
  | true => exact Fp.plus (a := Kzq2.opp z) ⟨hz.x.neg, hz.y.neg⟩ hm
  | false => exact Fp.plus hz hm
def goalF (p : Kzq2.Part) : List P := begunWith (p.l.map (Kzq2.go p.m))
theorem PtOk.pc {p : Kzq2.Part} (h : PtOk p) : PcOk p.l := ⟨h.v, fun z hz => (h.b z hz).mono (by decide), h.l⟩
theorem PtOk.gl {p : Kzq2.Part} (h : PtOk p) : PcOk (goalF p) := ⟨(conv_go h.m h.v).begun, begun_bl fun z hz => by
  obtain ⟨y, hy, rfl⟩ := List.mem_map.mp hz
  exact (fp_go h.f (h.b y hy)).mono (by decide), by unfold goalF; rw [begun_len, List.length_map]; exact h.l⟩
theorem PtOk.goes {p : Kzq2.Part} (h : PtOk p) : Kzq2.goes p.m p.l = goalF p := conv_formed (conv_go h.m h.v).v
theorem PtOk.go {p : Kzq2.Part} (h : PtOk p) : p.l ≠ [] ∧ p.l.length ≤ 40000 ∧ BL 1000000 p.l ∧ Fp 1000000 p.m.t :=
  ⟨h.pc.ne, by have := h.l; omega, fun z hz => (h.b z hz).mono (by decide), h.f.mono (by decide)⟩
/-! ### what's wrong -/
def whatF (f g : List Int) (ps : List Kzq2.Part) : List Int :=
  if (!(fszF f == fszF g)) = true then [1, 0, 0] else
  if decide (0 ≤ foutF (trisF f) (ps.map fun p => p.l)) = true then [2, foutF (trisF f) (ps.map fun p => p.l), 0] else
  if decide (0 ≤ foutF (trisF g) (ps.map goalF)) = true then [3, foutF (trisF g) (ps.map goalF), 0] else
  if (!(fshF (ps.map fun p => p.l)).isEmpty) = true then [4] ++ fshF (ps.map fun p => p.l) else
  if (!(fshF (ps.map goalF)).isEmpty) = true then [5] ++ fshF (ps.map goalF) else
  if (!(Kzq1.sum (ps.map fun p => Kzq1.size p.l) == fszF f)) = true then [6, 0, 0] else []
def whyF (f g c : List Int) : List Int := if (!figI f || !figI g) = true then [-22] else match readOn c.length c with
  | none => [-22]
  | some ps => if 160 < ps.length then [-28] else if (whatF f g ps).isEmpty = true then [1] else [0] ++ whatF f g ps
theorem fsh_len (ps : List (List P)) : (fshF ps).length ≤ 2 := by
  unfold fshF
  split
  · exact Nat.le_refl _
  · exact Nat.zero_le _
theorem what_len (f g : List Int) (ps : List Kzq2.Part) : (whatF f g ps).length ≤ 3 := by
  have h1 := fsh_len (ps.map fun p => p.l)
  have h2 := fsh_len (ps.map goalF)
  unfold whatF
  repeat' split
  all_goals first | exact Nat.le_refl _ | exact Nat.zero_le _ | (rw [List.length_append]; simp only [List.length_singleton]; omega)
theorem szs_ok {ps : List Kzq2.Part} (hl : ps.length ≤ 160) (h : ∀ p ∈ ps, PtOk p) : ∃ s, (∀ q ∈ ps.map (fun p => Kzq1.size p.l), Fq s q) ∧ 1 + (ps.map fun p => Kzq1.size p.l).length * (s + 1) ≤ 33000000 := by
  refine ⟨100000, fun q hq => ?_, by rw [List.length_map]; omega⟩
  obtain ⟨p, hp, rfl⟩ := List.mem_map.mp hq
  exact (size_pc (h p hp).pc).2
end Rc
namespace Rc
open PySem PySem.Spec PyProof.Rows L2 Evl
section
variable {K : PySem.W.Frag} {ρ : List Sl} {ta tb : TE}
theorem rd_ints (l : List Int) : Rd2 K (sR K (l.map iR)) (.list (l.map .int)) := .lst (by rw [List.length_map, List.length_map]) fun i r d a b => by
  rw [List.getElem?_map] at a b
  cases h : l[i]? with
  | none => rw [h] at a; cases a
  | some x =>
    rw [h] at a b
    cases a; cases b
    exact .int x
theorem eqv_nil (l : List Int) : PyData.eqv (.list (l.map .int)) (.list []) = l.isEmpty := by
  cases l with
  | nil => simp [PyData.eqv, PyData.eqvAll]
  | cons a l => simp [PyData.eqv, PyData.eqvAll]
theorem shp_ints : ∀ {l : List Int}, l.length ≤ 3 → SeqAt.shaped (.list (l.map .int)) = true
  | [], _ => rfl
  | [a], _ => rfl
  | [a, b], _ => rfl
  | [a, b, c], _ => rfl
  | _ :: _ :: _ :: _ :: _, h => by simp at h
theorem er_eqNil {l : List Int} (hl : l.length ≤ 3) (ha : ER ta ρ (lR (l.map iR))) (hb : ER tb ρ (lR [])) : ER (tOp (rEqD K) ta tb) ρ (bR l.isEmpty) := er_b (er_op (er_ls ha) (er_ls (K := K) (rs := ([] : List Int).map iR) hb) (br_eqD (rd_ints l) (rd_ints []) (shp_ints hl) rfl)) (eqv_nil l)
theorem er_neNil {l : List Int} (hl : l.length ≤ 3) (ha : ER ta ρ (lR (l.map iR))) (hb : ER tb ρ (lR [])) : ER (tOp (rNeD K) ta tb) ρ (bR (!l.isEmpty)) := er_b (er_op (er_ls ha) (er_ls (K := K) (rs := ([] : List Int).map iR) hb) (br_neD (rd_ints l) (rd_ints []) (shp_ints hl) rfl)) (by show (!PyData.eqv (.list (l.map .int)) (.list [])) = _; rw [eqv_nil])
end
end Rc
namespace Rc
/-! ### sums round a closed way that add along a line -/
structure Ad (φ : Pt → Pt → Rat) : Prop where
  a : ∀ a b c, det a b c = 0 → φ a b + φ b c = φ a c
theorem Ad.z {φ : Pt → Pt → Rat} (h : Ad φ) (a : Pt) : φ a a = 0 := by
  have := h.a a a a (det_aab a a)
  grind
theorem Ad.s {φ : Pt → Pt → Rat} (h : Ad φ) (a b : Pt) : φ a b + φ b a = 0 := by
  have h1 := h.a a b a (det_aba a b)
  have h2 := h.z a
  grind
def Ag.N (u : Ag) : Prop := u.a ≠ 0 ∨ u.b ≠ 0
theorem r_mul0 {p q : Rat} (h : p * q = 0) (hp : p ≠ 0) : q = 0 := by
  rcases Rat.mul_eq_zero.mp h with k | k
  · exact absurd k hp
  · exact k
theorem on3 {u : Ag} (n : u.N) {e f g : Pt} (he : u.at e = 0) (hf : u.at f = 0) (hg : u.at g = 0) : det e f g = 0 := by
  unfold Ag.at at he hf hg
  unfold det
  rcases n with k | k
  · refine r_mul0 (p := u.a) ?_ k
    grind
  · refine r_mul0 (p := u.b) ?_ k
    grind
theorem par_x (u : Ag) {a b z : Pt} (h : det a b z = 0) : (u.at b - u.at a) * (z.x - a.x) = (u.at z - u.at a) * (b.x - a.x) := by
  have : u.b * det a b z = 0 := by rw [h]; grind
  unfold det at this
  unfold Ag.at
  grind
theorem par_y (u : Ag) {a b z : Pt} (h : det a b z = 0) : (u.at b - u.at a) * (z.y - a.y) = (u.at z - u.at a) * (b.y - a.y) := by
  have : u.a * det a b z = 0 := by rw [h]; grind
  unfold det at this
  unfold Ag.at
  grind
theorem r_can {p q r : Rat} (hp : p ≠ 0) (h : p * q = p * r) : q = r := by
  have : p * (q - r) = 0 := by grind
  have := r_mul0 this hp
  grind
theorem x_uniq {u : Ag} {a b z w : Pt} (h : u.at a ≠ u.at b) (hz : u.at z = 0) (hw : u.at w = 0) (dz : det a b z = 0) (dw : det a b w = 0) : z = w := by
  have n : u.at b - u.at a ≠ 0 := by grind
  have z1 := par_x u dz
  have z2 := par_y u dz
  have w1 := par_x u dw
  have w2 := par_y u dw
  rw [hz] at z1 z2
  rw [hw] at w1 w2
  have e1 := r_can n (z1.trans w1.symm)
  have e2 := r_can n (z2.trans w2.symm)
  exact Pt.eq (by grind) (by grind)
def Xp (u : Ag) (a b : Pt) : Pt := lp a b (u.at a / (u.at a - u.at b))
theorem xp_at {u : Ag} {a b : Pt} (h : u.at a ≠ u.at b) : u.at (Xp u a b) = 0 := by
  have n : u.at a - u.at b ≠ 0 := by grind
  have := rd_mul (a := u.at a) n
  unfold Xp
  rw [Ag.lp]
  grind
theorem xp_det (u : Ag) (a b : Pt) : det a b (Xp u a b) = 0 := by
  unfold Xp
  rw [det_lp, det_aba, det_abb]
  grind
theorem xp_sw {u : Ag} {a b : Pt} (h : u.at a ≠ u.at b) : Xp u a b = Xp u b a :=
  x_uniq h (xp_at h) (xp_at h.symm) (xp_det u a b) (by rw [det_sw, xp_det]; grind)
theorem xp_row {u : Ag} {a b c : Pt} (d : det a b c = 0) (h : u.at a ≠ u.at b) (k : u.at a ≠ u.at c) : Xp u a b = Xp u a c := by
  refine x_uniq k (xp_at h) (xp_at k) ?_ (xp_det u a c)
  unfold Xp
  rw [det_lp, det_aba, show det a c b = 0 by unfold det at d ⊢; grind]
  grind
theorem xp_row2 {u : Ag} {a b c : Pt} (d : det a b c = 0) (h : u.at b ≠ u.at c) (k : u.at a ≠ u.at c) : Xp u b c = Xp u a c := by
  have d2 : det c b a = 0 := by rw [det_cyc, det_sw, d]; grind
  rw [xp_sw h, xp_sw k, xp_row d2 h.symm k.symm]
theorem xp_row3 {u : Ag} {a b c : Pt} (d : det a b c = 0) (h : u.at a ≠ u.at b) (k : u.at b ≠ u.at c) : Xp u a b = Xp u b c := by
  have d2 : det b a c = 0 := by rw [det_sw, d]; grind
  rw [xp_sw h, xp_row d2 h.symm k]
theorem xp_l {u : Ag} {a b : Pt} (h : u.at a = 0) : Xp u a b = a := by
  unfold Xp
  rw [h, show (0 : Rat) / (0 - u.at b) = 0 by grind, lp0]
theorem xp_r {u : Ag} {a b : Pt} (h : u.at b = 0) (k : u.at a ≠ 0) : Xp u a b = b := by
  rw [xp_sw (by rw [h]; exact k), xp_l h]
theorem xp_any {u : Ag} {p q a b : Pt} (ha : det p q a = 0) (hb : det p q b = 0) : det p q (Xp u a b) = 0 := by
  unfold Xp
  rw [det_lp, ha, hb]
  grind
theorem d_acb {a b c : Pt} (d : det a b c = 0) : det a c b = 0 := by unfold det at d ⊢; grind
theorem d_bca {a b c : Pt} (d : det a b c = 0) : det b c a = 0 := by unfold det at d ⊢; grind
theorem d_cab {a b c : Pt} (d : det a b c = 0) : det c a b = 0 := by unfold det at d ⊢; grind
/-! ### what lies on the left of a line, with the ends bound to a point of the line -/
def Tc (u : Ag) (o : Pt) (φ : Pt → Pt → Rat) (a b : Pt) : Rat :=
  if 0 ≤ u.at a then (if 0 ≤ u.at b then φ a b else φ a (Xp u a b) + φ (Xp u a b) o) else (if 0 ≤ u.at b then φ o (Xp u a b) + φ (Xp u a b) b else 0)
section
variable {u : Ag} {o a b c : Pt} {φ : Pt → Pt → Rat}
theorem tc_ii (ha : 0 ≤ u.at a) (hb : 0 ≤ u.at b) : Tc u o φ a b = φ a b := by unfold Tc; rw [if_pos ha, if_pos hb]
theorem tc_io (ha : 0 ≤ u.at a) (hb : u.at b < 0) : Tc u o φ a b = φ a (Xp u a b) + φ (Xp u a b) o := by unfold Tc; rw [if_pos ha, if_neg (by grind)]
theorem tc_oi (ha : u.at a < 0) (hb : 0 ≤ u.at b) : Tc u o φ a b = φ o (Xp u a b) + φ (Xp u a b) b := by unfold Tc; rw [if_neg (by grind), if_pos hb]
theorem tc_oo (ha : u.at a < 0) (hb : u.at b < 0) : Tc u o φ a b = 0 := by unfold Tc; rw [if_neg (by grind), if_neg (by grind)]
theorem io (u : Ag) (a : Pt) : 0 ≤ u.at a ∨ u.at a < 0 := by grind
theorem Ad.tc (h : Ad φ) : Ad (Tc u o φ) := ⟨fun a b c d => by
  rcases io u a with ha | ha
  · rcases io u b with hb | hb
    · rcases io u c with hc | hc
      · rw [tc_ii ha hb, tc_ii hb hc, tc_ii ha hc]
        exact h.a a b c d
      · rw [tc_ii ha hb, tc_io hb hc, tc_io ha hc, xp_row2 d (by grind) (by grind)]
        have := h.a a b (Xp u a c) (xp_any (det_aba a b) d)
        grind
    · rcases io u c with hc | hc
      · rw [tc_io ha hb, tc_oi hb hc, tc_ii ha hc, ← xp_row3 (u := u) d (by grind) (by grind)]
        have h1 := h.s (Xp u a b) o
        have h2 := h.a a (Xp u a b) c (d_bca (xp_any (det_abb c a) (d_cab d)))
        grind
      · rw [tc_io ha hb, tc_oo hb hc, tc_io ha hc, xp_row d (by grind) (by grind)]
        grind
  · rcases io u b with hb | hb
    · rcases io u c with hc | hc
      · rw [tc_oi ha hb, tc_ii hb hc, tc_oi ha hc, ← xp_row (u := u) d (by grind) (by grind)]
        have := h.a (Xp u a b) b c (d_cab (xp_any (d_bca d) (det_aba b c)))
        grind
      · rw [tc_oi ha hb, tc_io hb hc, tc_oo ha hc, ← xp_row3 (u := u) d (by grind) (by grind)]
        have h1 := h.s (Xp u a b) o
        have h2 := h.s (Xp u a b) b
        grind
    · rcases io u c with hc | hc
      · rw [tc_oo ha hb, tc_oi hb hc, tc_oi ha hc, xp_row2 d (by grind) (by grind)]
        grind
      · rw [tc_oo ha hb, tc_oo hb hc, tc_oo ha hc]
        grind⟩
end
end Rc
namespace Rc
/-! ### the clipped way -/
def inS (u : Ag) (a : Pt) : List Pt := if 0 ≤ u.at a then [a] else []
def crS (u : Ag) (a b : Pt) : List Pt := if (0 < u.at a ∧ u.at b < 0) ∨ (u.at a < 0 ∧ 0 < u.at b) then [Xp u a b] else []
def clE (u : Ag) (e : Pt × Pt) : List Pt := inS u e.1 ++ crS u e.1 e.2
def clM (u : Ag) (e : Pt × Pt) : List Pt := crS u e.1 e.2 ++ inS u e.2
def clR (u : Ag) (l : List Pt) : List Pt := (cyc l).flatMap (clE u)
theorem inS_y {u : Ag} {a : Pt} (h : 0 ≤ u.at a) : inS u a = [a] := if_pos h
theorem inS_n {u : Ag} {a : Pt} (h : u.at a < 0) : inS u a = [] := if_neg (by grind)
theorem cl_shift (u : Ag) (z : Pt) : ∀ (r : List Pt) (a : Pt), (pth (a :: (r ++ [z]))).flatMap (clE u) ++ inS u z = inS u a ++ (pth (a :: (r ++ [z]))).flatMap (clM u)
  | [], a => by
    show (clE u (a, z) ++ []) ++ inS u z = inS u a ++ (clM u (a, z) ++ [])
    unfold clE clM
    simp only [List.append_nil, List.append_assoc]
  | b :: r, a => by
    have := cl_shift u z r b
    show (clE u (a, b) ++ (pth (b :: (r ++ [z]))).flatMap (clE u)) ++ inS u z = inS u a ++ (clM u (a, b) ++ (pth (b :: (r ++ [z]))).flatMap (clM u))
    rw [List.append_assoc, this]
    unfold clE clM
    simp only [List.append_assoc]
def tlS (u : Ag) (o : Pt) (φ : Pt → Pt → Rat) (e a : Pt) : Rat := if 0 ≤ u.at a then 0 else φ e o
theorem sm_two (φ : Pt → Pt → Rat) (a b : Pt) (W : List Pt) : sm φ (pth (a :: b :: W)) = φ a b + sm φ (pth (b :: W)) := rfl
section
variable {u : Ag} {o : Pt} {φ : Pt → Pt → Rat}
theorem tl_y {e a : Pt} (h : 0 ≤ u.at a) : tlS u o φ e a = 0 := if_pos h
theorem tl_n {e a : Pt} (h : u.at a < 0) : tlS u o φ e a = φ e o := if_neg (by grind)
theorem cl_step (h : Ad φ) (n : u.N) (ho : u.at o = 0) {e a : Pt} (b : Pt) (h1 : 0 ≤ u.at a → e = a) (h2 : u.at a < 0 → u.at e = 0) :
    ∃ e', (0 ≤ u.at b → e' = b) ∧ (u.at b < 0 → u.at e' = 0) ∧ ∀ W, sm φ (pth (e :: (clM u (a, b) ++ W))) = sm φ (pth (e' :: W)) + tlS u o φ e a + Tc u o φ a b - tlS u o φ e' b := by
  rcases io u a with ha | ha
  · have ea := h1 ha
    subst ea
    rcases io u b with hb | hb
    · refine ⟨b, fun _ => rfl, fun k => (by grind), fun W => ?_⟩
      have e1 : clM u (e, b) = [b] := by
        unfold clM crS
        rw [if_neg (by show ¬ ((0 < u.at e ∧ u.at b < 0) ∨ (u.at e < 0 ∧ 0 < u.at b)); grind), inS_y hb]
        rfl
      rw [e1, tl_y ha, tl_y hb, tc_ii ha hb]
      show sm φ (pth (e :: b :: W)) = _
      rw [sm_two]
      grind
    · by_cases hp : 0 < u.at e
      · refine ⟨Xp u e b, fun k => (by grind), fun _ => xp_at (by grind), fun W => ?_⟩
        have e1 : clM u (e, b) = [Xp u e b] := by
          unfold clM crS
          rw [if_pos (by show ((0 < u.at e ∧ u.at b < 0) ∨ (u.at e < 0 ∧ 0 < u.at b)); grind), inS_n hb]
          rfl
        rw [e1, tl_y ha, tl_n hb, tc_io ha hb]
        show sm φ (pth (e :: Xp u e b :: W)) = _
        rw [sm_two]
        grind
      · have h0 : u.at e = 0 := by grind
        refine ⟨e, fun k => (by grind), fun _ => h0, fun W => ?_⟩
        have e1 : clM u (e, b) = [] := by
          unfold clM crS
          rw [if_neg (by show ¬ ((0 < u.at e ∧ u.at b < 0) ∨ (u.at e < 0 ∧ 0 < u.at b)); grind), inS_n hb]
          rfl
        rw [e1, tl_y ha, tl_n hb, tc_io ha hb, xp_l h0, h.z]
        show sm φ (pth (e :: W)) = _
        grind
  · have he := h2 ha
    rcases io u b with hb | hb
    · refine ⟨b, fun _ => rfl, fun k => (by grind), fun W => ?_⟩
      have hx : u.at (Xp u a b) = 0 := xp_at (by grind)
      have k1 := h.a e o (Xp u a b) (on3 n he ho hx)
      by_cases hp : 0 < u.at b
      · have e1 : clM u (a, b) = [Xp u a b, b] := by
          unfold clM crS
          rw [if_pos (by show ((0 < u.at a ∧ u.at b < 0) ∨ (u.at a < 0 ∧ 0 < u.at b)); grind), inS_y hb]
          rfl
        rw [e1, tl_n ha, tl_y hb, tc_oi ha hb]
        show sm φ (pth (e :: Xp u a b :: b :: W)) = _
        rw [sm_two, sm_two]
        grind
      · have h0 : u.at b = 0 := by grind
        have e1 : clM u (a, b) = [b] := by
          unfold clM crS
          rw [if_neg (by show ¬ ((0 < u.at a ∧ u.at b < 0) ∨ (u.at a < 0 ∧ 0 < u.at b)); grind), inS_y hb]
          rfl
        have ex : Xp u a b = b := xp_r h0 (by grind)
        rw [ex] at k1
        rw [e1, tl_n ha, tl_y hb, tc_oi ha hb, ex, h.z]
        show sm φ (pth (e :: b :: W)) = _
        rw [sm_two]
        grind
    · refine ⟨e, fun k => (by grind), fun _ => he, fun W => ?_⟩
      have e1 : clM u (a, b) = [] := by
        unfold clM crS
        rw [if_neg (by show ¬ ((0 < u.at a ∧ u.at b < 0) ∨ (u.at a < 0 ∧ 0 < u.at b)); grind), inS_n hb]
        rfl
      rw [e1, tl_n ha, tl_n hb, tc_oo ha hb]
      show sm φ (pth (e :: W)) = _
      grind
theorem cl_walk (h : Ad φ) (n : u.N) (ho : u.at o = 0) {z : Pt} (hz : 0 ≤ u.at z) : ∀ (r : List Pt) (e a : Pt), (0 ≤ u.at a → e = a) → (u.at a < 0 → u.at e = 0) →
    sm φ (pth (e :: (pth (a :: (r ++ [z]))).flatMap (clM u))) = tlS u o φ e a + sm (Tc u o φ) (pth (a :: (r ++ [z])))
  | [], e, a, h1, h2 => by
    obtain ⟨e', k1, k2, k3⟩ := cl_step h n ho z h1 h2
    have e1 : (pth (a :: ([] ++ [z]))).flatMap (clM u) = clM u (a, z) ++ [] := rfl
    rw [e1, k3, tl_y hz]
    show (0 : Rat) + _ + _ - 0 = _ + (Tc u o φ a z + 0)
    grind
  | b :: r, e, a, h1, h2 => by
    obtain ⟨e', k1, k2, k3⟩ := cl_step h n ho b h1 h2
    have e1 : (pth (a :: (b :: r ++ [z]))).flatMap (clM u) = clM u (a, b) ++ (pth (b :: (r ++ [z]))).flatMap (clM u) := rfl
    rw [e1, k3, cl_walk h n ho hz r e' b k1 k2]
    show _ = _ + (Tc u o φ a b + sm (Tc u o φ) (pth (b :: (r ++ [z]))))
    grind
theorem clR_rt {l m : List Pt} (h : Rt l m) : Rt (clR u l) (clR u m) := by
  obtain ⟨A, B, e1, e2⟩ := rt_cyc h
  refine ⟨A.flatMap (clE u), B.flatMap (clE u), ?_, ?_⟩
  · unfold clR; rw [e1, List.flatMap_append]
  · unfold clR; rw [e2, List.flatMap_append]
theorem sm_zero {ψ : Pt → Pt → Rat} : ∀ {es : List (Pt × Pt)}, (∀ e ∈ es, ψ e.1 e.2 = 0) → sm ψ es = 0
  | [], _ => rfl
  | e :: es, k => by
    show ψ e.1 e.2 + sm ψ es = 0
    rw [k e (by simp), sm_zero fun x hx => k x (List.mem_cons_of_mem _ hx)]
    grind
/-- **the sum round what is clipped** -/
theorem clip_sm (h : Ad φ) (n : u.N) (ho : u.at o = 0) (l : List Pt) : sm φ (cyc (clR u l)) = sm (Tc u o φ) (cyc l) := by
  by_cases c : ∃ v ∈ l, 0 ≤ u.at v
  · obtain ⟨v, hv, h0⟩ := c
    obtain ⟨X, hr⟩ := rt_head hv
    rw [(clR_rt hr).sm φ, hr.sm (Tc u o φ)]
    have e1 : cyc (v :: X) = pth (v :: (X ++ [v])) := rfl
    have e2 := cl_shift u v X v
    rw [inS_y h0] at e2
    have e3 : clR u (v :: X) ++ [v] = v :: (pth (v :: (X ++ [v]))).flatMap (clM u) := e2
    have e4 : ∃ m, clR u (v :: X) = v :: m := by
      cases hm : clR u (v :: X) with
      | nil =>
        exfalso
        unfold clR at hm
        have : v ∈ (cyc (v :: X)).flatMap (clE u) := by
          have hh : v ∈ (cyc (v :: X)).map (·.1) := by rw [cyc_fst]; exact List.mem_cons_self
          obtain ⟨e, he, rfl⟩ := List.mem_map.mp hh
          exact List.mem_flatMap.mpr ⟨e, he, List.mem_append_left _ (by rw [inS_y h0]; exact List.mem_singleton.mpr rfl)⟩
        rw [hm] at this
        cases this
      | cons y m =>
        rw [hm] at e3
        injection e3 with e5 _
        exact ⟨m, by rw [e5]⟩
    obtain ⟨m, hm⟩ := e4
    rw [hm] at e3 ⊢
    have e6 : cyc (v :: m) = pth (v :: m ++ [v]) := rfl
    rw [e6, e3, e1, cl_walk h n ho h0 X v v (fun _ => rfl) (fun k => (by grind)), tl_y h0]
    grind
  · have hn : ∀ v ∈ l, u.at v < 0 := fun v hv => by
      rcases io u v with k | k
      · exact absurd ⟨v, hv, k⟩ c
      · exact k
    have e1 : clR u l = [] := by
      unfold clR
      rw [List.flatMap_eq_nil_iff]
      intro e he
      have := cyc_mem he
      unfold clE crS
      rw [inS_n (hn _ this.1), if_neg (by have := hn _ this.1; have := hn _ (cyc_mem he).2; grind)]
      rfl
    rw [e1, sm_zero fun e he => tc_oo (hn _ (cyc_mem he).1) (hn _ (cyc_mem he).2)]
    rfl
end
end Rc
namespace Rc
/-! ### a line from its other side -/
def Ag.ng (u : Ag) : Ag := ⟨-u.a, -u.b, -u.c⟩
theorem ng_at (u : Ag) (z : Pt) : u.ng.at z = - u.at z := by unfold Ag.ng Ag.at; grind
theorem ng_N {u : Ag} (n : u.N) : u.ng.N := by
  unfold Ag.N Ag.ng at *
  rcases n with k | k
  · exact .inl (by show -u.a ≠ 0; grind)
  · exact .inr (by show -u.b ≠ 0; grind)
theorem xp_ng {u : Ag} {a b : Pt} (h : u.at a ≠ u.at b) : Xp u.ng a b = Xp u a b :=
  x_uniq h (by have := xp_at (u := u.ng) (a := a) (b := b) (by rw [ng_at, ng_at]; grind); rw [ng_at] at this; grind) (xp_at h) (xp_det _ a b) (xp_det _ a b)
def hS (u : Ag) (o : Pt) (φ : Pt → Pt → Rat) (z : Pt) : Rat := if u.at z = 0 then φ o z else 0
section
variable {u v : Ag} {o a b c : Pt} {φ : Pt → Pt → Rat}
theorem hS_y (h : u.at a = 0) : hS u o φ a = φ o a := if_pos h
theorem hS_n (h : u.at a ≠ 0) : hS u o φ a = 0 := if_neg h
theorem sg3 (u : Ag) (a : Pt) : 0 < u.at a ∨ u.at a = 0 ∨ u.at a < 0 := by grind
theorem tc_add (h : Ad φ) (n : u.N) (ho : u.at o = 0) (a b : Pt) : Tc u o φ a b + Tc u.ng o φ a b = φ a b + (hS u o φ b - hS u o φ a) := by
  have na := ng_at u a
  have nb := ng_at u b
  rcases sg3 u a with ha | ha | ha <;> rcases sg3 u b with hb | hb | hb
  · rw [tc_ii (by grind) (by grind), tc_oo (by grind) (by grind), hS_n (by grind), hS_n (by grind)]; grind
  · rw [tc_ii (by grind) (by grind), tc_oi (by grind) (by grind), hS_y hb, hS_n (by grind), xp_ng (by grind), xp_r hb (by grind), h.z]; grind
  · rw [tc_io (by grind) (by grind), tc_oi (by grind) (by grind), hS_n (by grind), hS_n (by grind), xp_ng (by grind)]
    have h1 := h.s (Xp u a b) o
    have h2 := h.a a (Xp u a b) b (d_acb (xp_det u a b))
    grind
  · rw [tc_ii (by grind) (by grind), tc_io (by grind) (by grind), hS_n (by grind), hS_y ha, xp_ng (by grind), xp_l ha, h.z]
    have := h.s o a
    grind
  · rw [tc_ii (by grind) (by grind), tc_ii (by grind) (by grind), hS_y hb, hS_y ha]
    have h1 := h.a a o b (on3 n ha ho hb)
    have h2 := h.s o a
    grind
  · rw [tc_io (by grind) (by grind), tc_ii (by grind) (by grind), hS_n (by grind), hS_y ha, xp_l ha, h.z]
    have h2 := h.s o a
    grind
  · rw [tc_oi (by grind) (by grind), tc_io (by grind) (by grind), hS_n (by grind), hS_n (by grind), xp_ng (by grind)]
    have h1 := h.s (Xp u a b) o
    have h2 := h.a a (Xp u a b) b (d_acb (xp_det u a b))
    grind
  · rw [tc_oi (by grind) (by grind), tc_ii (by grind) (by grind), hS_y hb, hS_n (by grind), xp_r hb (by grind), h.z]; grind
  · rw [tc_oo (by grind) (by grind), tc_ii (by grind) (by grind), hS_n (by grind), hS_n (by grind)]; grind
theorem sm_add (f g : Pt → Pt → Rat) : ∀ l : List (Pt × Pt), sm (fun a b => f a b + g a b) l = sm f l + sm g l
  | [] => by show (0 : Rat) = 0 + 0; grind
  | e :: l => by
    show (f e.1 e.2 + g e.1 e.2) + sm (fun a b => f a b + g a b) l = (f e.1 e.2 + sm f l) + (g e.1 e.2 + sm g l)
    rw [sm_add f g l]
    grind
theorem sm_round (g : Pt → Rat) (l : List Pt) : sm (fun a b => g b - g a) (cyc l) = 0 := by
  cases l with
  | nil => rfl
  | cons v X =>
    have h1 := sm_tel g X v v
    have h2 : sm (fun a b => g b - g a) (cyc (v :: X)) + sm (fun a b => g a - g b) (cyc (v :: X)) = 0 := by
      rw [← sm_add]
      exact sm_zero fun e _ => by show (g e.2 - g e.1) + (g e.1 - g e.2) = 0; grind
    have h3 : sm (fun a b => g a - g b) (cyc (v :: X)) = g v - g v := h1
    grind
theorem cs_add (h : Ad φ) (n : u.N) (ho : u.at o = 0) (l : List Pt) : sm (Tc u o φ) (cyc l) + sm (Tc u.ng o φ) (cyc l) = sm φ (cyc l) := by
  rw [← sm_add, sm_congr (g := fun a b => φ a b + (hS u o φ b - hS u o φ a)) (fun e _ => tc_add h n ho e.1 e.2), sm_add, sm_round]
  grind
/-! ### two lines through one point -/
def Pu (u : Ag) (a b : Pt) : Prop := (0 ≤ u.at a ∧ 0 ≤ u.at b) ∨ (u.at a ≤ 0 ∧ u.at b ≤ 0)
theorem tc_neg (h : Ad φ) (n : u.N) (ho : u.at o = 0) (hz : ∀ z, φ z o = 0) (ha : u.at a ≤ 0) (hb : u.at b ≤ 0) : Tc u o φ a b = 0 := by
  have hz2 : ∀ z, φ o z = 0 := fun z => by have := h.s o z; have := hz z; grind
  by_cases a0 : u.at a = 0
  · by_cases b0 : u.at b = 0
    · rw [tc_ii (by grind) (by grind)]
      have := h.a a o b (on3 n a0 ho b0)
      rw [hz, hz2] at this
      grind
    · rw [tc_io (by grind) (by grind), xp_l a0, hz, h.z]; grind
  · by_cases b0 : u.at b = 0
    · rw [tc_oi (by grind) (by grind), xp_r b0 a0, hz2, h.z]; grind
    · rw [tc_oo (by grind) (by grind)]
theorem tc_end (h : Ad φ) (ho : v.at o = 0) (hz : ∀ z, φ z o = 0) (z : Pt) : Tc v o φ z o = 0 := by
  rcases io v z with k | k
  · rw [tc_ii k (by grind)]; exact hz z
  · rw [tc_oi k (by grind)]; have := h.s o (Xp v z o); grind
theorem pure_eq (h : Ad φ) (nu : u.N) (nv : v.N) (ou : u.at o = 0) (ov : v.at o = 0) (hz : ∀ z, φ z o = 0) (pu : Pu u a b) (pv : Pu v a b) : Tc u o (Tc v o φ) a b = Tc v o (Tc u o φ) a b := by
  have hu := h.tc (u := u) (o := o)
  have hv := h.tc (u := v) (o := o)
  have zu := tc_end h ou hz
  have zv := tc_end h ov hz
  rcases pu with ⟨p1, p2⟩ | ⟨p1, p2⟩
  · rw [tc_ii p1 p2]
    rcases pv with ⟨q1, q2⟩ | ⟨q1, q2⟩
    · rw [tc_ii q1 q2, tc_ii q1 q2, tc_ii p1 p2]
    · rw [tc_neg h nv ov hz q1 q2, tc_neg hu nv ov zu q1 q2]
  · rw [tc_neg hv nu ou zv p1 p2]
    rcases pv with ⟨q1, q2⟩ | ⟨q1, q2⟩
    · rw [tc_ii q1 q2, tc_neg h nu ou hz p1 p2]
    · rw [tc_neg hu nv ov zu q1 q2]
theorem on_xp (h : (0 < v.at a ∧ v.at b < 0) ∨ (v.at a < 0 ∧ 0 < v.at b)) : On a b (Xp v a b) := by
  rcases h with ⟨p, q⟩ | ⟨p, q⟩
  · exact ⟨_, rd_nn (by grind) (by grind), rd_le1 (by grind) (by grind), rfl⟩
  · have e : v.at a / (v.at a - v.at b) = (- v.at a) / (v.at b - v.at a) := by
      have : v.at b - v.at a ≠ 0 := by grind
      grind
    refine ⟨v.at a / (v.at a - v.at b), ?_, ?_, rfl⟩
    · rw [e]; exact rd_nn (by grind) (by grind)
    · rw [e]; exact rd_le1 (by grind) (by grind)
theorem pu_on {z : Pt} (h : On a b z) (p : Pu u a b) : Pu u a z ∧ Pu u z b := by
  rcases p with ⟨p, q⟩ | ⟨p, q⟩
  · have := on_nn h p q
    exact ⟨.inl ⟨p, this⟩, .inl ⟨this, q⟩⟩
  · have := on_nn (f := u.ng) h (by rw [ng_at]; grind) (by rw [ng_at]; grind)
    rw [ng_at] at this
    exact ⟨.inr ⟨p, by grind⟩, .inr ⟨by grind, q⟩⟩
theorem pu_or (u : Ag) (a b : Pt) : Pu u a b ∨ ((0 < u.at a ∧ u.at b < 0) ∨ (u.at a < 0 ∧ 0 < u.at b)) := by unfold Pu; grind
theorem pu_xp (h : (0 < u.at a ∧ u.at b < 0) ∨ (u.at a < 0 ∧ 0 < u.at b)) : Pu u a (Xp u a b) ∧ Pu u (Xp u a b) b := by
  have := xp_at (u := u) (a := a) (b := b) (by grind)
  unfold Pu
  grind
theorem comm_u (h : Ad φ) (nu : u.N) (nv : v.N) (ou : u.at o = 0) (ov : v.at o = 0) (hz : ∀ z, φ z o = 0) (pu : Pu u a b) : Tc u o (Tc v o φ) a b = Tc v o (Tc u o φ) a b := by
  rcases pu_or v a b with k | k
  · exact pure_eq h nu nv ou ov hz pu k
  · have hF := (h.tc (u := v) (o := o)).tc (u := u) (o := o)
    have hG := (h.tc (u := u) (o := o)).tc (u := v) (o := o)
    obtain ⟨p1, p2⟩ := pu_on (on_xp k) pu
    obtain ⟨q1, q2⟩ := pu_xp k
    rw [← hF.a a (Xp v a b) b (d_acb (xp_det v a b)), ← hG.a a (Xp v a b) b (d_acb (xp_det v a b)), pure_eq h nu nv ou ov hz p1 q1, pure_eq h nu nv ou ov hz p2 q2]
theorem comm_pt (h : Ad φ) (nu : u.N) (nv : v.N) (ou : u.at o = 0) (ov : v.at o = 0) (hz : ∀ z, φ z o = 0) (a b : Pt) : Tc u o (Tc v o φ) a b = Tc v o (Tc u o φ) a b := by
  rcases pu_or u a b with k | k
  · exact comm_u h nu nv ou ov hz k
  · have hF := (h.tc (u := v) (o := o)).tc (u := u) (o := o)
    have hG := (h.tc (u := u) (o := o)).tc (u := v) (o := o)
    obtain ⟨q1, q2⟩ := pu_xp k
    rw [← hF.a a (Xp u a b) b (d_acb (xp_det u a b)), ← hG.a a (Xp u a b) b (d_acb (xp_det u a b)), comm_u h nu nv ou ov hz q1, comm_u h nu nv ou ov hz q2]
end
/-! ### the area -/
def ps0 (a b : Pt) : Rat := a.x * b.y - a.y * b.x
theorem ps0_ad : Ad ps0 := ⟨fun a b c d => by unfold det at d; unfold ps0; grind⟩
theorem pso_ad (o : Pt) : Ad (det o) := ⟨fun a b c d => by unfold det at d ⊢; grind⟩
theorem ar_ps0 (l : List Pt) : ar l = sm ps0 (cyc l) := rfl
theorem ar_o (o : Pt) (l : List Pt) : ar l = sm (det o) (cyc l) := by
  have h : sm (det o) (cyc l) = sm (fun a b => ps0 a b + ((fun z => - ps0 o z) b - (fun z => - ps0 o z) a)) (cyc l) := sm_congr fun e _ => by
    show det o e.1 e.2 = ps0 e.1 e.2 + (- ps0 o e.2 - - ps0 o e.1)
    unfold det ps0
    grind
  rw [h, sm_add, sm_round, ar_ps0]
  grind
theorem Ag.N.pt {u : Ag} (n : u.N) : ∃ o, u.at o = 0 := by
  rcases n with k | k
  · refine ⟨⟨-u.c / u.a, 0⟩, ?_⟩
    have := rd_mul (a := -u.c) k
    unfold Ag.at
    grind
  · refine ⟨⟨0, -u.c / u.b⟩, ?_⟩
    have := rd_mul (a := -u.c) k
    unfold Ag.at
    grind
section
variable {i j k : Ag}
/-- the last line turned about -/
theorem flip1 (n : i.N) (l : List Pt) : ar (clR i l) + ar (clR i.ng l) = ar l := by
  obtain ⟨o, ho⟩ := n.pt
  rw [ar_ps0, ar_ps0, ar_ps0, clip_sm ps0_ad n ho, clip_sm ps0_ad (ng_N n) (by rw [ng_at, ho]; grind), cs_add ps0_ad n ho]
theorem flip2 (n : i.N) (m : j.N) (l : List Pt) : ar (clR j (clR i l)) + ar (clR j (clR i.ng l)) = ar (clR j l) := by
  obtain ⟨o, ho⟩ := n.pt
  obtain ⟨p, hp⟩ := m.pt
  have h := ps0_ad.tc (u := j) (o := p)
  rw [ar_ps0, ar_ps0, ar_ps0, clip_sm ps0_ad m hp, clip_sm ps0_ad m hp, clip_sm ps0_ad m hp, clip_sm h n ho, clip_sm h (ng_N n) (by rw [ng_at, ho]; grind), cs_add h n ho]
theorem flip3 (n : i.N) (m : j.N) (q : k.N) (l : List Pt) : ar (clR k (clR j (clR i l))) + ar (clR k (clR j (clR i.ng l))) = ar (clR k (clR j l)) := by
  obtain ⟨o, ho⟩ := n.pt
  obtain ⟨p, hp⟩ := m.pt
  obtain ⟨r, hr⟩ := q.pt
  have h := ps0_ad.tc (u := k) (o := r)
  have h2 := h.tc (u := j) (o := p)
  rw [ar_ps0, ar_ps0, ar_ps0, clip_sm ps0_ad q hr, clip_sm ps0_ad q hr, clip_sm ps0_ad q hr, clip_sm h m hp, clip_sm h m hp, clip_sm h m hp, clip_sm h2 n ho, clip_sm h2 (ng_N n) (by rw [ng_at, ho]; grind), cs_add h2 n ho]
theorem swap2 (n : i.N) (m : j.N) (h : ∃ o, i.at o = 0 ∧ j.at o = 0) (l : List Pt) : ar (clR j (clR i l)) = ar (clR i (clR j l)) := by
  obtain ⟨o, hi, hj⟩ := h
  have a0 := pso_ad o
  rw [ar_o o, ar_o o, clip_sm a0 m hj, clip_sm (a0.tc) n hi, clip_sm a0 n hi, clip_sm (a0.tc) m hj]
  exact sm_congr fun e _ => comm_pt a0 n m hi hj (fun z => det_aba o z) e.1 e.2
/-! ### what lies in three turned lines: nothing -/
theorem clR_mem {u : Ag} {l : List Pt} {z : Pt} (h : z ∈ clR u l) : 0 ≤ u.at z ∧ ∀ f : Ag, (∀ v ∈ l, 0 ≤ f.at v) → 0 ≤ f.at z := by
  unfold clR at h
  obtain ⟨e, he, hz⟩ := List.mem_flatMap.mp h
  have hm := cyc_mem he
  unfold clE inS crS at hz
  rcases List.mem_append.mp hz with q | q
  · split at q
    · rename_i k
      rw [List.mem_singleton.mp q]
      exact ⟨k, fun f hf => hf _ hm.1⟩
    · cases q
  · split at q
    · rename_i k
      rw [List.mem_singleton.mp q]
      refine ⟨?_, fun f hf => on_nn (on_xp k) (hf _ hm.1) (hf _ hm.2)⟩
      rw [xp_at (by grind)]
      exact Rat.le_refl
    · cases q
theorem three_nil (h : ∀ z, i.at z + j.at z + k.at z > 0) (l : List Pt) : clR k.ng (clR j.ng (clR i.ng l)) = [] := by
  cases e : clR k.ng (clR j.ng (clR i.ng l)) with
  | nil => rfl
  | cons z m =>
    exfalso
    have hz : z ∈ clR k.ng (clR j.ng (clR i.ng l)) := by rw [e]; exact List.mem_cons_self
    obtain ⟨h1, h2⟩ := clR_mem hz
    have h3 := h2 j.ng fun v hv => (clR_mem hv).1
    have h4 := h2 i.ng fun v hv => (clR_mem hv).2 i.ng fun w hw => (clR_mem hw).1
    rw [ng_at] at h1 h3 h4
    have := h z
    grind
theorem area_nil : ar [] = 0 := rfl
/-- the first two lines in the other order -/
theorem swap3 (n : i.N) (m : j.N) (q : k.N) (c : ∃ o, i.at o = 0 ∧ j.at o = 0) (h : ∀ z, i.at z + j.at z + k.at z > 0) (l : List Pt) : ar (clR k (clR j (clR i l))) = ar (clR k (clR i (clR j l))) := by
  have c2 : ∃ o, i.at o = 0 ∧ j.ng.at o = 0 := let ⟨o, a, b⟩ := c; ⟨o, a, by rw [ng_at, b]; grind⟩
  -- k
  have f1 := flip1 q (clR j (clR i l))
  have f2 := flip1 q (clR i (clR j l))
  have s1 := swap2 n m c l
  -- j, behind k turned
  have g1 := flip2 m (ng_N q) (clR i l)
  have g2 := flip3 m n (ng_N q) l
  -- i, behind both turned
  have k1 := flip3 n (ng_N m) (ng_N q) l
  have k2 := flip2 n (ng_N q) (clR j.ng l)
  have z1 : clR k.ng (clR j.ng (clR i.ng l)) = [] := three_nil h l
  have z2 : clR k.ng (clR i.ng (clR j.ng l)) = [] := three_nil (i := j) (j := i) (fun z => by have := h z; grind) l
  rw [z1, area_nil] at k1
  rw [z2, area_nil] at k2
  grind
end
theorem gd_N {a b : Pt} (h : a ≠ b) : (gd a b).N := by
  unfold gd Ag.N
  by_cases c : -(b.y - a.y) = 0
  · right
    show b.x - a.x ≠ 0
    intro d
    exact h (Pt.eq (by grind) (by grind))
  · exact .inl c
theorem tri_rot {a b c : Pt} (h : 0 < det a b c) (l : List Pt) : ar (clR (gd c a) (clR (gd b c) (clR (gd a b) l))) = ar (clR (gd a b) (clR (gd c a) (clR (gd b c) l))) := by
  have hab : a ≠ b := by rintro rfl; rw [det_aab] at h; exact Rat.lt_irrefl h
  have hbc : b ≠ c := by rintro rfl; rw [det_abb] at h; exact Rat.lt_irrefl h
  have hca : c ≠ a := by rintro rfl; rw [det_aba] at h; exact Rat.lt_irrefl h
  rw [swap3 (i := gd a b) (j := gd b c) (k := gd c a) (gd_N hab) (gd_N hbc) (gd_N hca) ⟨b, by rw [gd_at, det_abb], by rw [gd_at, det_aba]⟩ (fun z => by rw [gd_at, gd_at, gd_at]; unfold det at h ⊢; grind) l]
  exact swap2 (gd_N hab) (gd_N hca) ⟨a, by rw [gd_at, det_aba], by rw [gd_at, det_abb]⟩ _
end Rc
namespace Rc
open Kzq1 (Q P turn at0 sides cross clip onLine unlike straightened formed begunWith meet)
/-! ### points of the specification as pairs of rationals -/
def ptP (z : P) : Pt := ⟨vx z, vy z⟩
theorem tr_det (a b c : P) : tr a b c = det (ptP a) (ptP b) (ptP c) := rfl
theorem us_gd (s : P × P) (z : P) : us s z = (gd (ptP s.1) (ptP s.2)).at (ptP z) := by rw [gd_at]; rfl
theorem pth_ways (x : P) : ∀ l : List P, pth (l.map ptP ++ [ptP x]) = (ways x l).map fun s => (ptP s.1, ptP s.2)
  | [] => rfl
  | [a] => rfl
  | a :: b :: r => congrArg ((ptP a, ptP b) :: ·) (pth_ways x (b :: r))
theorem cyc_p : ∀ l : List P, cyc (l.map ptP) = (sides l).map fun s => (ptP s.1, ptP s.2)
  | [] => rfl
  | x :: r => by
    rw [sides_ways]
    exact pth_ways x (x :: r)
theorem sides_mem {l : List P} {t : P × P} (h : t ∈ sides l) : t.1 ∈ l ∧ t.2 ∈ l := by
  unfold sides at h
  obtain ⟨i, hi, rfl⟩ := List.mem_map.mp h
  have := List.mem_range.mp hi
  exact ⟨at0_mem (by omega), at0_mem (by omega)⟩
theorem blk_p {s : P × P} {a b : P} (hs : Cs s) (ha : Cp a) (hb : Cp b) : (blk s a b).map ptP = clE (gd (ptP s.1) (ptP s.2)) (ptP a, ptP b) := by
  rw [blk_kp hs ha hb, List.filter_cons, ins_kp hs ha hb]
  unfold clE inS crS
  have k1 : kp s a = true ↔ 0 ≤ (gd (ptP s.1) (ptP s.2)).at (ptP a) := by rw [kp_is hs ha, us_gd]
  have k2 : cuts s a b = true ↔ (0 < (gd (ptP s.1) (ptP s.2)).at (ptP a) ∧ (gd (ptP s.1) (ptP s.2)).at (ptP b) < 0) ∨ ((gd (ptP s.1) (ptP s.2)).at (ptP a) < 0 ∧ 0 < (gd (ptP s.1) (ptP s.2)).at (ptP b)) := by
    rw [cuts_is hs ha hb, us_gd, us_gd]
  have k3 : (ins s a b).map ptP = if (0 < (gd (ptP s.1) (ptP s.2)).at (ptP a) ∧ (gd (ptP s.1) (ptP s.2)).at (ptP b) < 0) ∨ ((gd (ptP s.1) (ptP s.2)).at (ptP a) < 0 ∧ 0 < (gd (ptP s.1) (ptP s.2)).at (ptP b)) then [Xp (gd (ptP s.1) (ptP s.2)) (ptP a) (ptP b)] else [] := by
    unfold ins
    by_cases c : cuts s a b = true
    · rw [if_pos c, if_pos (k2.mp c)]
      have ho := (cuts_is hs ha hb).mp c
      obtain ⟨_, bt, _⟩ := onLine_is hs.1 hs.2 ha hb ho
      show [ptP (onLine s a b)] = _
      congr 1
      refine Pt.eq ?_ ?_
      · show vx (onLine s a b) = _
        rw [bt.x]
        unfold Xp lp
        rw [gd_at, gd_at]
        rfl
      · show vy (onLine s a b) = _
        rw [bt.y]
        unfold Xp lp
        rw [gd_at, gd_at]
        rfl
    · rw [if_neg c, if_neg fun z => c (k2.mpr z)]; rfl
  by_cases c : kp s a = true
  · rw [if_pos c, if_pos (k1.mp c), List.map_cons, k3]; rfl
  · rw [if_neg c, if_neg fun z => c (k1.mpr z), k3]; rfl
theorem clip_p {s : P × P} (hs : Cs s) {l : List P} (hc : CL l) : (clip s l).map ptP = clR (gd (ptP s.1) (ptP s.2)) (l.map ptP) := by
  rw [clip_map, List.map_flatMap]
  unfold clR
  rw [cyc_p, List.flatMap_map]
  have : ∀ ts : List (P × P), (∀ t ∈ ts, Cp t.1 ∧ Cp t.2) → (ts.flatMap fun t => (blk s t.1 t.2).map ptP) = ts.flatMap fun t => clE (gd (ptP s.1) (ptP s.2)) (ptP t.1, ptP t.2) := by
    intro ts
    induction ts with
    | nil => intro _; rfl
    | cons t ts ih =>
      intro k
      rw [List.flatMap_cons, List.flatMap_cons, ih fun x hx => k x (List.mem_cons_of_mem _ hx), blk_p hs (k t (by simp)).1 (k t (by simp)).2]
  exact this _ fun t ht => ⟨hc _ (sides_mem ht).1, hc _ (sides_mem ht).2⟩
/-! ### sums round -/
def cs (φ : Pt → Pt → Rat) (l : List P) : Rat := sm φ (cyc (l.map ptP))
theorem cs_rt (φ : Pt → Pt → Rat) (p q : List P) : cs φ (p ++ q) = cs φ (q ++ p) := by
  unfold cs
  rw [List.map_append, List.map_append]
  exact Rt.sm ⟨_, _, rfl, rfl⟩ φ
theorem cs_begun (φ : Pt → Pt → Rat) (l : List P) : cs φ (begunWith l) = cs φ l := by
  show cs φ (l.drop _ ++ l.take _) = _
  rw [cs_rt, List.take_append_drop]
theorem cs_cons (φ : Pt → Pt → Rat) (x : P) (r : List P) : cs φ (x :: r) = sm φ (pth ((x :: r ++ [x]).map ptP)) := by
  unfold cs
  rw [List.map_append]
  rfl
section
variable {φ : Pt → Pt → Rat}
/-! #### like neighbours -/
theorem ulk_sm (h : Ad φ) (x : P) : ∀ (r : List P) (a : P), sm φ (pth ((ulk x (a :: r) ++ [x]).map ptP)) = sm φ (pth ((a :: r ++ [x]).map ptP)) ∧ (ulk x (a :: r) = [] → a = x) ∧ ∀ b m, ulk x (a :: r) = b :: m → b = a
  | [], a => by
    show sm φ (pth (((if a = x then [] else [a]) ++ [x]).map ptP)) = φ (ptP a) (ptP x) + 0 ∧ ((if a = x then [] else [a]) = [] → a = x) ∧ ∀ b m, (if a = x then [] else [a]) = b :: m → b = a
    by_cases c : a = x
    · subst c
      rw [if_pos rfl]
      refine ⟨?_, fun _ => rfl, fun b m e => (by cases e)⟩
      rw [h.z]
      show (0 : Rat) = _
      grind
    · rw [if_neg c]
      exact ⟨rfl, fun e => (by cases e), fun b m e => (by injection e with e _; exact e.symm)⟩
  | b :: r, a => by
    obtain ⟨i1, i2, i3⟩ := ulk_sm h x r b
    show sm φ (pth (((if a = b then ulk x (b :: r) else a :: ulk x (b :: r)) ++ [x]).map ptP)) = φ (ptP a) (ptP b) + sm φ (pth ((b :: r ++ [x]).map ptP)) ∧ ((if a = b then ulk x (b :: r) else a :: ulk x (b :: r)) = [] → a = x) ∧ ∀ c m, (if a = b then ulk x (b :: r) else a :: ulk x (b :: r)) = c :: m → c = a
    by_cases c : a = b
    · subst c
      rw [if_pos rfl]
      refine ⟨?_, i2, i3⟩
      rw [i1, h.z]
      grind
    · rw [if_neg c]
      refine ⟨?_, fun e => (by cases e), fun b m e => (by injection e with e _; exact e.symm)⟩
      rw [← i1]
      generalize ulk x (b :: r) = W at i2 i3 ⊢
      match W, i2, i3 with
      | [], i2, _ => rw [i2 rfl]; rfl
      | w :: W, _, i3 => rw [i3 w W rfl]; rfl
theorem cs_unlike (h : Ad φ) (l : List P) : cs φ (unlike l) = cs φ l := by
  match l with
  | [] => rfl
  | x :: r =>
    rw [unlike_ulk, cs_cons]
    obtain ⟨i1, _, i3⟩ := ulk_sm h x r x
    rw [← i1]
    generalize ulk x (x :: r) = W at i3 ⊢
    match W, i3 with
    | [], _ => rfl
    | w :: W, i3 => rw [cs_cons, i3 w W rfl]
/-! #### straight corners -/
def kp3 : List Pt → List Pt
  | a :: b :: c :: r => (if det a b c = 0 then [] else [b]) ++ kp3 (b :: c :: r)
  | _ => []
theorem d_next {e a b c : Pt} (n : a ≠ b) (h1 : det e a b = 0) (h2 : det a b c = 0) : det e b c = 0 := by
  have k := on3 (gd_N n) (e := e) (f := b) (g := c) (by rw [gd_at, ← det_cyc]; exact h1) (by rw [gd_at]; exact det_abb a b) (by rw [gd_at]; exact h2)
  exact k
theorem kp3_sm (h : Ad φ) : ∀ (r : List Pt) (e a b z : Pt), (∀ i x y, (a :: b :: r)[i]? = some x → (a :: b :: r)[i + 1]? = some y → x ≠ y) → (a :: b :: r).getLast? = some z → det e a b = 0 →
    sm φ (pth (e :: (kp3 (a :: b :: r) ++ [z]))) = φ e a + sm φ (pth (a :: b :: r))
  | [], e, a, b, z, hn, hz, hd => by
    have : b = z := by simpa using hz
    subst this
    show φ e b + 0 = φ e a + (φ a b + 0)
    have := h.a e a b hd
    grind
  | c :: r, e, a, b, z, hn, hz, hd => by
    have hn2 : ∀ i x y, (b :: c :: r)[i]? = some x → (b :: c :: r)[i + 1]? = some y → x ≠ y := fun i x y h1 h2 => hn (i + 1) x y h1 h2
    have hz2 : (b :: c :: r).getLast? = some z := by rw [← hz]; rfl
    have hab : a ≠ b := hn 0 a b rfl rfl
    have h1 := h.a e a b hd
    show sm φ (pth (e :: (((if det a b c = 0 then [] else [b]) ++ kp3 (b :: c :: r)) ++ [z]))) = φ e a + (φ a b + sm φ (pth (b :: c :: r)))
    by_cases k : det a b c = 0
    · rw [if_pos k]
      show sm φ (pth (e :: (kp3 (b :: c :: r) ++ [z]))) = _
      rw [kp3_sm h r e b c z hn2 hz2 (d_next hab hd k)]
      grind
    · rw [if_neg k]
      show φ e b + sm φ (pth (b :: (kp3 (b :: c :: r) ++ [z]))) = _
      rw [kp3_sm h r b b c z hn2 hz2 (det_aab b c), h.z]
      grind
theorem kp3_ix : ∀ l : List Pt, kp3 l = (List.range (l.length - 2)).filterMap fun i => if det (l.getD i ⟨0, 0⟩) (l.getD (i + 1) ⟨0, 0⟩) (l.getD (i + 2) ⟨0, 0⟩) = 0 then none else some (l.getD (i + 1) ⟨0, 0⟩)
  | [] => rfl
  | [_] => rfl
  | [_, _] => rfl
  | a :: b :: c :: r => by
    have := kp3_ix (b :: c :: r)
    show (if det a b c = 0 then [] else [b]) ++ kp3 (b :: c :: r) = _
    rw [this]
    have e : (a :: b :: c :: r).length - 2 = (b :: c :: r).length - 2 + 1 := by simp
    rw [e, List.range_succ_eq_map, List.filterMap_cons, List.filterMap_map]
    by_cases k : det a b c = 0
    · rw [if_pos k]
      have : (if det ((a :: b :: c :: r).getD 0 ⟨0, 0⟩) ((a :: b :: c :: r).getD (0 + 1) ⟨0, 0⟩) ((a :: b :: c :: r).getD (0 + 2) ⟨0, 0⟩) = 0 then none else some ((a :: b :: c :: r).getD (0 + 1) ⟨0, 0⟩)) = (none : Option Pt) := if_pos k
      rw [this]
      rfl
    · rw [if_neg k]
      have : (if det ((a :: b :: c :: r).getD 0 ⟨0, 0⟩) ((a :: b :: c :: r).getD (0 + 1) ⟨0, 0⟩) ((a :: b :: c :: r).getD (0 + 2) ⟨0, 0⟩) = 0 then none else some ((a :: b :: c :: r).getD (0 + 1) ⟨0, 0⟩)) = some b := if_neg k
      rw [this]
      rfl
theorem ring_get {x : P} {r : List P} {i : Nat} (h : i ≤ (x :: r).length) : (x :: r ++ [x])[i]? = some (at0 (x :: r) i) := by
  by_cases k : i < (x :: r).length
  · rw [List.getElem?_append_left k, List.getElem?_eq_getElem k, at0_of (List.getElem?_eq_getElem k)]
  · have : i = (x :: r).length := by omega
    rw [this, List.getElem?_append_right (Nat.le_refl _), Nat.sub_self]
    rw [at0_eq (show (x :: r).length % (x :: r).length = 0 % (x :: r).length by simp), at0_of (l := x :: r) (i := 0) (z := x) rfl]
    rfl
theorem isZ_det {a b c : P} (ha : Cp a) (hb : Cp b) (hc : Cp c) : Kzq1.isZero (turn a b c) = decide (det (ptP a) (ptP b) (ptP c) = 0) := by
  unfold Kzq1.isZero
  rw [Bool.eq_iff_iff, beq_iff_eq, decide_eq_true_iff, ← tr_det, turn_zero ha hb hc]
theorem fm_congr {α β : Type} {f g : α → Option β} : ∀ {l : List α}, (∀ x ∈ l, f x = g x) → l.filterMap f = l.filterMap g
  | [], _ => rfl
  | a :: l, h => by rw [List.filterMap_cons, List.filterMap_cons, h a (by simp), fm_congr fun x hx => h x (List.mem_cons_of_mem _ hx)]
theorem straight_kp3 {x : P} {r : List P} (hc : CL (x :: r)) : (straightened (x :: r)).map ptP = ((gS (x :: r) 0).toList).map ptP ++ kp3 ((x :: r ++ [x]).map ptP) := by
  have hl : (x :: r).length = r.length + 1 := rfl
  have ca (i : Nat) : Cp (at0 (x :: r) i) := hc _ (at0_mem (by simp))
  rw [straight_gS, hl, List.range_succ_eq_map, List.filterMap_cons, kp3_ix]
  have hl2 : ((x :: r ++ [x]).map ptP).length - 2 = r.length := by simp
  rw [hl2]
  have e1 : ((List.map Nat.succ (List.range r.length)).filterMap (gS (x :: r))).map ptP = (List.range r.length).filterMap fun i => if det (((x :: r ++ [x]).map ptP).getD i ⟨0, 0⟩) (((x :: r ++ [x]).map ptP).getD (i + 1) ⟨0, 0⟩) (((x :: r ++ [x]).map ptP).getD (i + 2) ⟨0, 0⟩) = 0 then none else some (((x :: r ++ [x]).map ptP).getD (i + 1) ⟨0, 0⟩) := by
    rw [List.filterMap_map, List.map_filterMap]
    refine fm_congr fun i hi => ?_
    have hi := List.mem_range.mp hi
    have gd1 (j : Nat) (hj : j ≤ r.length + 1) : ((x :: r ++ [x]).map ptP).getD j ⟨0, 0⟩ = ptP (at0 (x :: r) j) := by
      rw [List.getD_eq_getElem?_getD, List.getElem?_map, ring_get (by rw [hl]; exact hj)]
      rfl
    rw [gd1 i (by omega), gd1 (i + 1) (by omega), gd1 (i + 2) (by omega)]
    show Option.map ptP (gS (x :: r) (i + 1)) = _
    unfold gS
    rw [at0_eq (show (i + 1 + (x :: r).length - 1) % (x :: r).length = i % (x :: r).length by rw [show i + 1 + (x :: r).length - 1 = i + (x :: r).length by omega, Nat.add_mod_right]), isZ_det (ca i) (ca (i + 1)) (ca (i + 1 + 1))]
    by_cases k : det (ptP (at0 (x :: r) i)) (ptP (at0 (x :: r) (i + 1))) (ptP (at0 (x :: r) (i + 1 + 1))) = 0
    · rw [if_pos (decide_eq_true k), if_pos k]; rfl
    · rw [if_neg (by rw [decide_eq_false k]; exact Bool.false_ne_true), if_neg k]; rfl
  rw [← e1]
  cases gS (x :: r) 0 with
  | none => rfl
  | some z => rfl
theorem ptP_inj {a b : P} (ha : Cp a) (hb : Cp b) (h : ptP a = ptP b) : a = b := ha.ext hb (congrArg Pt.x h) (congrArg Pt.y h)
theorem gS_head {x : P} {r : List P} {z : P} (h : gS (x :: r) 0 = some z) : z = x := by
  unfold gS at h
  split at h
  · cases h
  · injection h with h
    rw [← h]
    exact at0_of (l := x :: r) (i := 0) (z := x) rfl
theorem cs_head (h : Ad φ) {x : P} {r : List P} (hc : CL (x :: r)) (hn : ∀ i, at0 (x :: r) i ≠ at0 (x :: r) (i + 1)) (hk : gS (x :: r) 0 ≠ none ∨ straightened (x :: r) = []) : cs φ (straightened (x :: r)) = cs φ (x :: r) := by
  have ca (i : Nat) : Cp (at0 (x :: r) i) := hc _ (at0_mem (by simp))
  have e0 := straight_kp3 hc
  match r, hc, hn, hk, ca, e0 with
  | [], hc, hn, hk, ca, e0 => exact absurd (at0_eq (l := [x]) (i := 0) (j := 1) (by simp)) (hn 0)
  | b :: r, hc, hn, hk, ca, e0 =>
    have key := kp3_sm h ((r ++ [x]).map ptP) (ptP x) (ptP x) (ptP b) (ptP x) (fun i y z h1 h2 => by
      have el : ptP x :: ptP b :: (r ++ [x]).map ptP = (x :: b :: r ++ [x]).map ptP := rfl
      rw [el, List.getElem?_map] at h1 h2
      have hi : i + 1 ≤ (x :: b :: r).length := by
        have : (i + 1) < (x :: b :: r ++ [x]).length := by
          cases hh : (x :: b :: r ++ [x])[i + 1]? with
          | none => rw [hh] at h2; cases h2
          | some _ => exact (List.getElem?_eq_some_iff.mp hh).1
        simp at this ⊢
        omega
      rw [ring_get (by omega)] at h1
      rw [ring_get hi] at h2
      injection h1 with h1
      injection h2 with h2
      rw [← h1, ← h2]
      exact fun q => hn i (ptP_inj (ca i) (ca (i + 1)) q)) (by
      have el : ptP x :: ptP b :: (r ++ [x]).map ptP = (x :: b :: r).map ptP ++ [ptP x] := by simp
      rw [el]
      exact List.getLast?_concat) (det_aab _ _)
    have el : ptP x :: ptP b :: (r ++ [x]).map ptP = (x :: b :: r ++ [x]).map ptP := rfl
    rw [el] at key
    rw [h.z] at key
    have e2 : cs φ (x :: b :: r) = sm φ (pth ((x :: b :: r ++ [x]).map ptP)) := cs_cons φ x (b :: r)
    rcases hk with hk | hk
    · cases hg : gS (x :: b :: r) 0 with
      | none => exact absurd hg hk
      | some z =>
        have := gS_head hg
        subst this
        rw [hg] at e0
        unfold cs
        rw [e0]
        show sm φ (pth (ptP z :: (kp3 ((z :: b :: r ++ [z]).map ptP) ++ [ptP z]))) = cs φ (z :: b :: r)
        rw [key, e2]
        grind
    · rw [hk]
      rw [hk] at e0
      have e3 : kp3 ((x :: b :: r ++ [x]).map ptP) = [] := by
        have := e0.symm
        exact (List.append_eq_nil_iff.mp this).2
      rw [e3] at key
      have e4 : sm φ (pth (ptP x :: ([] ++ [ptP x]))) = φ (ptP x) (ptP x) + 0 := rfl
      rw [e4, h.z] at key
      show (0 : Rat) = _
      rw [e2]
      grind
theorem cs_rot {A B : List P} (h : Rot A B) : cs φ A = cs φ B := by
  rcases h with rfl | ⟨h, m, rfl, rfl⟩
  · rfl
  · exact cs_rt φ [h] m
theorem cs_kept (h : Ad φ) : ∀ (k : Nat) (U : List P), CL U → (∀ i, at0 U i ≠ at0 U (i + 1)) → gS U k ≠ none → cs φ (straightened U) = cs φ U
  | _, [], hc, hn, hk => rfl
  | 0, x :: r, hc, hn, hk => cs_head h hc hn (.inl hk)
  | k + 1, x :: r, hc, hn, hk => by
    have R : Rot (x :: r) (r ++ [x]) := .inr ⟨x, r, rfl, rfl⟩
    rw [cs_rot (straight_rot R), cs_rot R]
    refine cs_kept h k (r ++ [x]) (fun z hz => hc z ((R.mem z).mpr hz)) (fun i => ?_) ?_
    · rw [at0_rot, at0_rot]
      exact hn (i + 1)
    · rw [gS_rot]
      exact hk
theorem cs_straight (h : Ad φ) {U : List P} (hc : CL U) (hn : ∀ i, 0 < U.length → at0 U i ≠ at0 U (i + 1)) : cs φ (straightened U) = cs φ U := by
  match U, hc, hn with
  | [], _, _ => rfl
  | x :: r, hc, hn =>
    have hn2 : ∀ i, at0 (x :: r) i ≠ at0 (x :: r) (i + 1) := fun i => hn i (by simp)
    cases e : straightened (x :: r) with
    | nil =>
      have := cs_head h hc hn2 (.inr e)
      rw [e] at this
      exact this
    | cons z m =>
      have hm : z ∈ straightened (x :: r) := by rw [e]; exact List.mem_cons_self
      rw [straight_gS] at hm
      obtain ⟨k, _, hk⟩ := List.mem_filterMap.mp hm
      rw [← e]
      exact cs_kept h k _ hc hn2 (by rw [hk]; exact fun q => by cases q)
theorem unlike_at (l : List P) (i : Nat) (h : 0 < (unlike l).length) : at0 (unlike l) i ≠ at0 (unlike l) (i + 1) := by
  have hc := unlike_cy l
  generalize unlike l = U at h hc ⊢
  match U, hc, h with
  | x :: r, hc, _ =>
    rw [← at0_mod (x :: r) i, at0_eq (show (i + 1) % (x :: r).length = (i % (x :: r).length + 1) % (x :: r).length by rw [Nat.mod_add_mod])]
    have hi : i % (x :: r).length < (x :: r).length := Nat.mod_lt _ (by simp)
    exact ch_get (show ch (· ≠ ·) (x :: r ++ [x]) from hc) (ring_get (by omega)) (ring_get (by omega))
theorem cs_formed (h : Ad φ) {l : List P} (hc : CL l) : cs φ (formed l) = cs φ l := by
  have hu : CL (unlike l) := fun z hz => hc z ((unlike_sub l).subset hz)
  have e := (cs_straight h hu fun i hi => unlike_at l i hi).trans (cs_unlike h l)
  show cs φ (if (straightened (unlike l)).length < 3 then [] else begunWith (straightened (unlike l))) = _
  by_cases c : (straightened (unlike l)).length < 3
  · rw [if_pos c, ← e]
    generalize straightened (unlike l) = r at c ⊢
    match r, c with
    | [], _ => rfl
    | [a], _ =>
      show (0 : Rat) = φ (ptP a) (ptP a) + 0
      rw [h.z]; grind
    | [a, b], _ =>
      show (0 : Rat) = φ (ptP a) (ptP b) + (φ (ptP b) (ptP a) + 0)
      have := h.s (ptP a) (ptP b)
      grind
    | _ :: _ :: _ :: _, c => simp at c; omega
  · rw [if_neg c, cs_begun, e]
end
end Rc
namespace Rc
open Kzq1 (Q P turn at0 sides cross clip onLine unlike straightened formed begunWith meet)
/-! ### sizes as rationals -/
theorem fold_can : ∀ (l : List Q) (a : Q), Can a → (∀ q ∈ l, Can q) → Can (l.foldl Kzq1.add a) ∧ vq (l.foldl Kzq1.add a) = vq a + (l.map vq).sum
  | [], a, h, _ => ⟨h, by show vq a = vq a + 0; grind⟩
  | q :: l, a, h, k => by
    have hq := k q (by simp)
    obtain ⟨h1, h2⟩ := fold_can l (Kzq1.add a q) (can_add h.1 hq.1) fun x hx => k x (List.mem_cons_of_mem _ hx)
    refine ⟨h1, ?_⟩
    show vq (l.foldl Kzq1.add (Kzq1.add a q)) = vq a + (vq q + (l.map vq).sum)
    rw [h2, vq_add h.1 hq.1]
    grind
theorem can_zero : Can Kzq1.zero := ⟨Nat.one_pos, by decide⟩
theorem vq_zeroQ : vq Kzq1.zero = 0 := by
  show ((0 : Int) : Rat) / ((1 : Nat) : Rat) = 0
  grind
theorem sum_can {l : List Q} (h : ∀ q ∈ l, Can q) : Can (Kzq1.sum l) ∧ vq (Kzq1.sum l) = (l.map vq).sum := by
  obtain ⟨h1, h2⟩ := fold_can l Kzq1.zero can_zero h
  refine ⟨h1, ?_⟩
  show vq (l.foldl Kzq1.add Kzq1.zero) = _
  rw [h2, vq_zeroQ]
  grind
theorem can_half : Can Kzq1.half := ⟨by decide, by decide⟩
theorem vq_half : vq Kzq1.half = 1 / 2 := by
  show ((1 : Int) : Rat) / ((2 : Nat) : Rat) = 1 / 2
  grind
theorem can_cross {a b : P} (ha : Cp a) (hb : Cp b) : Can (cross a b) := can_sub (can_mul ha.1.1 hb.2.1).1 (can_mul ha.2.1 hb.1.1).1
theorem vq_cross {a b : P} (ha : Cp a) (hb : Cp b) : vq (cross a b) = ps0 (ptP a) (ptP b) := by
  show vq (Kzq1.sub (Kzq1.mul a.x b.y) (Kzq1.mul a.y b.x)) = _
  rw [vq_sub (can_mul ha.1.1 hb.2.1).1 (can_mul ha.2.1 hb.1.1).1, vq_mul ha.1.1 hb.2.1, vq_mul ha.2.1 hb.1.1]
  rfl
theorem size_can {l : List P} (h : CL l) : Can (Kzq1.size l) ∧ vq (Kzq1.size l) = 1 / 2 * cs ps0 l := by
  have k : ∀ q ∈ (sides l).map (fun s => cross s.1 s.2), Can q := fun q hq => by
    obtain ⟨t, ht, rfl⟩ := List.mem_map.mp hq
    exact can_cross (h _ (sides_mem ht).1) (h _ (sides_mem ht).2)
  obtain ⟨h1, h2⟩ := sum_can k
  refine ⟨can_mul can_half.1 h1.1, ?_⟩
  show vq (Kzq1.mul Kzq1.half (Kzq1.sum _)) = _
  rw [vq_mul can_half.1 h1.1, vq_half, h2]
  congr 1
  unfold cs
  rw [cyc_p, sm_map, List.map_map]
  congr 1
  refine List.map_congr_left fun t ht => ?_
  exact vq_cross (h _ (sides_mem ht).1) (h _ (sides_mem ht).2)
theorem size_eq {l m : List P} (hl : CL l) (hm : CL m) (h : cs ps0 l = cs ps0 m) : Kzq1.size l = Kzq1.size m := by
  obtain ⟨a1, a2⟩ := size_can hl
  obtain ⟨b1, b2⟩ := size_can hm
  exact can_eq a1 b1 (by rw [a2, b2, h])
/-! ### what a piece and a triangle have in common, from any corner on -/
theorem formed_sub (l : List P) : ∀ z ∈ formed l, z ∈ l := by
  intro z hz
  have hz : z ∈ (if (straightened (unlike l)).length < 3 then [] else begunWith (straightened (unlike l))) := hz
  split at hz
  · cases hz
  · exact (unlike_sub l).subset ((straight_sub _).subset (begun_mem hz))
theorem formed_cl {l : List P} (h : CL l) : CL (formed l) := fun z hz => h z (formed_sub l z hz)
def cl3 (p : List P) (a b c : P) : List P := clip (c, a) (clip (b, c) (clip (a, b) p))
theorem sides3 (a b c : P) : sides [a, b, c] = [(a, b), (b, c), (c, a)] := by
  rw [sides_ways]; rfl
theorem meet3 (p : List P) (a b c : P) : meet p [a, b, c] = formed (cl3 p a b c) := by
  unfold meet
  rw [sides3]
  rfl
theorem csd {a b : P} (ha : Cp a) (hb : Cp b) (h : a ≠ b) : Cs (a, b) := by
  first | exact ⟨ha, hb⟩ | exact ⟨ha, hb, h⟩
theorem tri_ne {a b c : P} (h : 0 < tr a b c) : a ≠ b ∧ b ≠ c ∧ c ≠ a := by
  refine ⟨?_, ?_, ?_⟩ <;> (rintro rfl; unfold tr at h; grind)
theorem cl3_cl {p : List P} (hp : CL p) {a b c : P} (ha : Cp a) (hb : Cp b) (hc : Cp c) (h : 0 < tr a b c) : CL (cl3 p a b c) ∧ (cl3 p a b c).map ptP = clR (gd (ptP c) (ptP a)) (clR (gd (ptP b) (ptP c)) (clR (gd (ptP a) (ptP b)) (p.map ptP))) := by
  obtain ⟨n1, n2, n3⟩ := tri_ne h
  have c1 := clip_cl (csd ha hb n1) hp
  have c2 := clip_cl (csd hb hc n2) c1
  refine ⟨clip_cl (csd hc ha n3) c2, ?_⟩
  unfold cl3
  rw [clip_p (csd hc ha n3) c2, clip_p (csd hb hc n2) c1, clip_p (csd ha hb n1) hp]
theorem size_rot {p : List P} (hp : CL p) {a b c : P} (ha : Cp a) (hb : Cp b) (hc : Cp c) (h : 0 < tr a b c) : Kzq1.size (meet p [a, b, c]) = Kzq1.size (meet p [b, c, a]) := by
  obtain ⟨l1, l2⟩ := cl3_cl hp ha hb hc h
  obtain ⟨m1, m2⟩ := cl3_cl hp hb hc ha (by rw [← tr_cyc]; exact h)
  rw [meet3, meet3]
  refine size_eq (formed_cl l1) (formed_cl m1) ?_
  rw [cs_formed ps0_ad l1, cs_formed ps0_ad m1]
  unfold cs
  rw [l2, m2]
  exact tri_rot (by rw [← tr_det]; exact h) _
theorem size_begun {p t : List P} (hp : CL p) (ht : Cv t) (hl : t.length = 3) : Kzq1.size (meet p (begunWith t)) = Kzq1.size (meet p t) := by
  match t, ht, hl with
  | [a, b, c], ht, _ =>
    have ha := ht.c a (by simp)
    have hb := ht.c b (by simp)
    have hc := ht.c c (by simp)
    have h : 0 < tr a b c := ht.tr (i := 0) (r := 2) (by decide) (by simp)
    have h2 : 0 < tr b c a := by rw [← tr_cyc]; exact h
    show Kzq1.size (meet p ([a, b, c].drop _ ++ [a, b, c].take _)) = _
    generalize (List.range [a, b, c].length).foldl (fun x j => if Kzq1.before (at0 [a, b, c] j) (at0 [a, b, c] x) then j else x) 0 = i
    match i with
    | 0 => rfl
    | 1 => exact (size_rot hp ha hb hc h).symm
    | 2 => exact ((size_rot hp ha hb hc h).trans (size_rot hp hb hc ha h2)).symm
    | i + 3 =>
      show Kzq1.size (meet p ([a, b, c].drop (i + 3) ++ [a, b, c].take (i + 3))) = _
      rw [List.drop_of_length_le (by simp), List.take_of_length_le (by simp)]
      rfl
/-! ### how much of a piece lies in triangles -/
theorem inB_cl {p q r : List P} (hp : Cv p) (hq : Cv q) (h : inB p q = some r) : CL r := by
  have e := inB_meet hp hq
  rw [h] at e
  have e : meet p q = r := e
  rw [← e]
  exact formed_cl (fold_cl _ _ (fun s hs => sides_cs hq.c hs) hp.c)
theorem inside_sh {p : List P} (hp : Cv p) {T : List (List P)} (hT : ∀ t ∈ T, Cv t ∧ t.length = 3) : Kzq1.sum (T.map fun t => Kzq1.size (meet p t)) = shF p (T.map begunWith) := by
  have each : ∀ t ∈ T, Can (Kzq1.size (meet p t)) ∧ vq (Kzq1.size (meet p t)) = ((match inB p (begunWith t) with | some r => [vq (Kzq1.size r)] | none => []) : List Rat).sum := fun t ht => by
    obtain ⟨tv, tl⟩ := hT t ht
    have e := inB_meet hp tv.begun
    rw [← size_begun hp.c tv tl, e]
    cases hi : inB p (begunWith t) with
    | none =>
      refine ⟨(size_can (l := []) fun z hz => by cases hz).1, ?_⟩
      show vq (Kzq1.size []) = 0
      rw [(size_can (l := []) fun z hz => by cases hz).2]
      show 1 / 2 * (0 : Rat) = 0
      grind
    | some r =>
      refine ⟨(size_can (inB_cl hp tv.begun hi)).1, ?_⟩
      show vq (Kzq1.size r) = vq (Kzq1.size r) + 0
      grind
  have c1 : ∀ q ∈ T.map (fun t => Kzq1.size (meet p t)), Can q := fun q hq => by
    obtain ⟨t, ht, rfl⟩ := List.mem_map.mp hq
    exact (each t ht).1
  have c2 : ∀ q ∈ ((T.map begunWith).filterMap (inB p)).map Kzq1.size, Can q := fun q hq => by
    obtain ⟨r, hr, rfl⟩ := List.mem_map.mp hq
    obtain ⟨u, hu, hi⟩ := List.mem_filterMap.mp hr
    obtain ⟨t, ht, rfl⟩ := List.mem_map.mp hu
    exact (size_can (inB_cl hp (hT t ht).1.begun hi)).1
  obtain ⟨a1, a2⟩ := sum_can c1
  obtain ⟨b1, b2⟩ := sum_can c2
  refine can_eq a1 b1 ?_
  show _ = vq (Kzq1.sum (((T.map begunWith).filterMap (inB p)).map Kzq1.size))
  rw [a2, b2]
  clear a1 a2 b1 b2 c1 c2
  induction T with
  | nil => rfl
  | cons t T ih =>
    have i1 := ih (fun x hx => hT x (List.mem_cons_of_mem _ hx)) fun x hx => each x (List.mem_cons_of_mem _ hx)
    have e1 := (each t (by simp)).2
    rw [List.map_cons, List.map_cons, List.map_cons, List.filterMap_cons]
    show vq (Kzq1.size (meet p t)) + ((T.map fun t => Kzq1.size (meet p t)).map vq).sum = _
    rw [i1, e1]
    cases inB p (begunWith t) with
    | none =>
      show (0 : Rat) + _ = _
      rw [Rat.zero_add]
    | some r =>
      show (vq (Kzq1.size r) + 0) + _ = _
      rw [Rat.add_zero]
      rfl
end Rc
namespace Rc
open Kzq1 (Q P turn at0 sides cross clip onLine unlike straightened formed begunWith meet)
/-! ### figures: the specification's words on whole corners -/
theorem turn_wp (a b c : C2) : turn (wp a) (wp b) (wp c) = Kzq1.whole (lefI a b c) :=
  can_eq (can_turn (cp_wp a) (cp_wp b) (cp_wp c)) (can_whole _) (by rw [vq_turn (cp_wp a) (cp_wp b) (cp_wp c), tr_wp, vq_whole])
theorem pos_wp (n : Int) : Kzq1.pos (Kzq1.whole n) = decide (0 < n) := rfl
theorem isZ_wp (n : Int) : Kzq1.isZero (Kzq1.whole n) = decide (n = 0) := by
  show (n == 0) = _
  rw [Bool.eq_iff_iff, beq_iff_eq, decide_eq_true_iff]
theorem lt_wp (m n : Int) : Kzq1.lt (Kzq1.whole m) (Kzq1.whole n) = decide (m < n) := by
  show decide (m * ((1 : Nat) : Int) < n * ((1 : Nat) : Int)) = _
  rw [show ((1 : Nat) : Int) = 1 from rfl, Int.mul_one, Int.mul_one]
theorem le_wp (m n : Int) : Kzq1.le (Kzq1.whole m) (Kzq1.whole n) = decide (m ≤ n) := by
  show (!Kzq1.lt (Kzq1.whole n) (Kzq1.whole m)) = _
  rw [lt_wp, Bool.eq_iff_iff, Bool.not_eq_true', decide_eq_false_iff_not, decide_eq_true_iff]
  omega
theorem between_wp (a b c : C2) : Kzq1.between (wp a) (wp b) (wp c) = onI a b c := by
  unfold Kzq1.between onI
  have key : ∀ i j k : Int, (Kzq1.le (if Kzq1.lt (Kzq1.whole i) (Kzq1.whole j) = true then Kzq1.whole i else Kzq1.whole j) (Kzq1.whole k) && Kzq1.le (Kzq1.whole k) (if Kzq1.lt (Kzq1.whole i) (Kzq1.whole j) = true then Kzq1.whole j else Kzq1.whole i)) = (decide (mn i j ≤ k) && decide (k ≤ mx i j)) := fun i j k => by
    rw [lt_wp]
    unfold mn mx
    by_cases h : i < j
    · rw [if_pos (decide_eq_true h), if_pos (decide_eq_true h), le_wp, le_wp, if_neg (by omega), if_pos h]
    · rw [if_neg (by rw [decide_eq_false h]; exact Bool.false_ne_true), if_neg (by rw [decide_eq_false h]; exact Bool.false_ne_true), le_wp, le_wp]
      by_cases g : j < i
      · rw [if_pos g, if_neg (by omega)]
      · have : i = j := by omega
        subst this
        rw [if_neg g]
  have k1 := key a.1 b.1 c.1
  have k2 := key a.2 b.2 c.2
  show ((Kzq1.le (if Kzq1.lt (Kzq1.whole a.1) (Kzq1.whole b.1) = true then Kzq1.whole a.1 else Kzq1.whole b.1) (Kzq1.whole c.1) && Kzq1.le (Kzq1.whole c.1) (if Kzq1.lt (Kzq1.whole a.1) (Kzq1.whole b.1) = true then Kzq1.whole b.1 else Kzq1.whole a.1)) && Kzq1.le (if Kzq1.lt (Kzq1.whole a.2) (Kzq1.whole b.2) = true then Kzq1.whole a.2 else Kzq1.whole b.2) (Kzq1.whole c.2) && Kzq1.le (Kzq1.whole c.2) (if Kzq1.lt (Kzq1.whole a.2) (Kzq1.whole b.2) = true then Kzq1.whole b.2 else Kzq1.whole a.2)) = _
  rw [Bool.and_assoc, k1, k2]
theorem on_wp (a b c : C2) : Kzq1.on (wp a, wp b) (wp c) = onT (a, b, c) := by
  show (Kzq1.isZero (turn (wp a) (wp b) (wp c)) && Kzq1.between (wp a) (wp b) (wp c)) = _
  rw [turn_wp, isZ_wp, between_wp]
  rfl
theorem side1_wp (a b c : C2) : Kzq1.side1 (wp a) (wp b) (wp c) = sgnI (lefI a b c) := by
  unfold Kzq1.side1
  rw [turn_wp, pos_wp, isZ_wp]
  rcases Int.lt_trichotomy (lefI a b c) 0 with h | h | h
  · rw [sgn_n h, if_neg (by rw [decide_eq_false (by omega)]; exact Bool.false_ne_true), if_neg (by rw [decide_eq_false (by omega)]; exact Bool.false_ne_true)]
  · rw [h]; rfl
  · rw [sgn_p h, if_pos (decide_eq_true h)]
theorem sgn_pr (m n : Int) : (sgnI m * sgnI n == -1) = decide (sgnI m * sgnI n < 0) := by
  have h3 : ∀ k : Int, sgnI k = -1 ∨ sgnI k = 0 ∨ sgnI k = 1 := fun k => by
    rcases Int.lt_trichotomy k 0 with h | h | h
    · rw [sgn_n h]; exact .inl rfl
    · subst h; exact .inr (.inl rfl)
    · rw [sgn_p h]; exact .inr (.inr rfl)
  rcases h3 m with h | h | h <;> rcases h3 n with k | k | k <;> (rw [h, k]; rfl)
theorem touch_wp (a b c d : C2) : Kzq1.touch (wp a, wp b) (wp c, wp d) = meetI (a, b) (c, d) := by
  show (Kzq1.on (wp a, wp b) (wp c) || Kzq1.on (wp a, wp b) (wp d) || Kzq1.on (wp c, wp d) (wp a) || Kzq1.on (wp c, wp d) (wp b) || (Kzq1.side1 (wp a) (wp b) (wp c) * Kzq1.side1 (wp a) (wp b) (wp d) == -1 && Kzq1.side1 (wp c) (wp d) (wp a) * Kzq1.side1 (wp c) (wp d) (wp b) == -1)) = _
  rw [on_wp, on_wp, on_wp, on_wp, side1_wp, side1_wp, side1_wp, side1_wp, sgn_pr, sgn_pr]
  have e : propI (a, b) (c, d) = (decide (sgnI (lefI a b c) * sgnI (lefI a b d) < 0) && decide (sgnI (lefI c d a) * sgnI (lefI c d b) < 0)) := rfl
  rw [← e]
  unfold meetI
  have e2 : ((endsC (a, b) (c, d)).map onT).any id = (onT (a, b, c) || (onT (a, b, d) || (onT (c, d, a) || (onT (c, d, b) || false)))) := rfl
  rw [e2]
  cases propI (a, b) (c, d) <;> cases onT (a, b, c) <;> cases onT (a, b, d) <;> cases onT (c, d, a) <;> cases onT (c, d, b) <;> rfl
theorem at0_wp {l : List C2} (h : 0 < l.length) (i : Nat) : at0 (l.map wp) i = wp (atC l i) := by
  unfold Kzq1.at0 atC
  have hm : i % l.length < l.length := Nat.mod_lt _ h
  rw [List.length_map, List.getD_eq_getElem?_getD, List.getD_eq_getElem?_getD, List.getElem?_map, List.getElem?_eq_getElem hm]
  rfl
theorem ptP_wp (c : C2) : ptP (wp c) = ptC c := Pt.eq (vq_whole c.1) (vq_whole c.2)
theorem cl_wp (l : List C2) : CL (l.map wp) := fun z hz => by
  obtain ⟨c, _, rfl⟩ := List.mem_map.mp hz
  exact cp_wp c
theorem cs_wp (l : List C2) : cs ps0 (l.map wp) = (tsI l : Rat) := by
  rw [← ar_c]
  unfold cs
  rw [List.map_map]
  have : (ptP ∘ wp : C2 → Pt) = ptC := funext ptP_wp
  rw [this]
  rfl
theorem size_pos (l : List C2) : Kzq1.pos (Kzq1.size (l.map wp)) = decide (0 < tsI l) := by
  obtain ⟨h1, h2⟩ := size_can (cl_wp l)
  unfold Kzq1.pos
  rw [Bool.eq_iff_iff, decide_eq_true_iff, decide_eq_true_iff, vq_pos h1.1, h2, cs_wp, ← c_pos]
  constructor <;> (intro h; grind)
theorem fsz_is (ns : List Int) : Kzq1.size ((pairs ns).map wp) = fszF ns := by
  obtain ⟨h1, h2⟩ := size_can (cl_wp (pairs ns))
  unfold fszF
  refine can_eq h1 (can_mk (by decide)) ?_
  rw [h2, cs_wp, vq_mk (by decide)]
  have : ((2 : Nat) : Rat) = 2 := rfl
  rw [this]
  grind
theorem pairsOf_is : ∀ ns : List Int, Kzq1.pairsOf ns = if ns.length % 2 = 1 then none else some ((pairs ns).map wp)
  | [] => rfl
  | [x] => rfl
  | x :: y :: l => by
    have ih := pairsOf_is l
    show (Kzq1.pairsOf l).map (fun r => (⟨Kzq1.whole x, Kzq1.whole y⟩ : P) :: r) = _
    rw [ih, pairs_cons]
    have e : (x :: y :: l).length % 2 = l.length % 2 := by rw [List.length_cons, List.length_cons]; omega
    rw [e]
    by_cases c : l.length % 2 = 1
    · rw [if_pos c, if_pos c]; rfl
    · rw [if_neg c, if_neg c]; rfl
theorem str_is {l : List C2} (h : 0 < l.length) : ((List.range (l.map wp).length).all fun i => !Kzq1.isZero (turn (at0 (l.map wp) i) (at0 (l.map wp) (i + 1)) (at0 (l.map wp) (i + 2)))) = !strC l := by
  rw [List.length_map, Bool.eq_iff_iff, Bool.not_eq_true', List.all_eq_true]
  unfold strC
  rw [List.any_map, List.any_eq_false]
  constructor
  · intro k j hj hf
    have hj := List.mem_range.mp hj
    have := k ((j + l.length - 1) % l.length) (List.mem_range.mpr (Nat.mod_lt _ h))
    rw [at0_wp h, at0_wp h, at0_wp h, turn_wp, isZ_wp, atC_mod,
      atC_eq (show ((j + l.length - 1) % l.length + 1) % l.length = j % l.length by rw [Nat.mod_add_mod, show j + l.length - 1 + 1 = j + l.length by omega, Nat.add_mod_right]),
      atC_eq (show ((j + l.length - 1) % l.length + 2) % l.length = (j + 1) % l.length by rw [Nat.mod_add_mod, show j + l.length - 1 + 2 = j + 1 + l.length by omega, Nat.add_mod_right])] at this
    have hf : decide (lefI (atC l (j + l.length - 1)) (atC l j) (atC l (j + 1)) = 0) = true := hf
    rw [hf] at this
    cases this
  · intro k i hi
    have hi := List.mem_range.mp hi
    have := k ((i + 1) % l.length) (List.mem_range.mpr (Nat.mod_lt _ h))
    have this : ¬ decide (lefI (atC l ((i + 1) % l.length + l.length - 1)) (atC l ((i + 1) % l.length)) (atC l ((i + 1) % l.length + 1)) = 0) = true := this
    rw [atC_mod, atC_eq (show ((i + 1) % l.length + 1) % l.length = (i + 2) % l.length by rw [Nat.mod_add_mod]),
      atC_eq (show ((i + 1) % l.length + l.length - 1) % l.length = i % l.length by
        rw [show (i + 1) % l.length + l.length - 1 = (i + 1) % l.length + (l.length - 1) by omega, Nat.mod_add_mod, show i + 1 + (l.length - 1) = i + l.length by omega, Nat.add_mod_right])] at this
    rw [at0_wp h, at0_wp h, at0_wp h, turn_wp, isZ_wp]
    simpa using this
theorem cross_is {l : List C2} (h : 0 < l.length) : ((List.range (l.map wp).length).all fun i => (List.range (l.map wp).length).all fun j => decide (j ≤ i + 1) || (i + (l.map wp).length == j + 1) || !Kzq1.touch (at0 (l.map wp) i, at0 (l.map wp) (i + 1)) (at0 (l.map wp) j, at0 (l.map wp) (j + 1))) = !crossI l := by
  rw [List.length_map, Bool.eq_iff_iff, Bool.not_eq_true', List.all_eq_true]
  unfold crossI
  rw [List.any_eq_false]
  have tw (i j : Nat) : Kzq1.touch (at0 (l.map wp) i, at0 (l.map wp) (i + 1)) (at0 (l.map wp) j, at0 (l.map wp) (j + 1)) = meetI (atC l i, atC l (i + 1)) (atC l j, atC l (j + 1)) := by
    rw [at0_wp h, at0_wp h, at0_wp h, at0_wp h, touch_wp]
  have wrap (i j : Nat) (hi : i < l.length) (hj : j < l.length) (h2 : i + 2 ≤ j) : (((j : Int) + 1) % (l.length : Int) = (i : Int)) ↔ i + l.length = j + 1 := by
    have e : ((j : Int) + 1) % (l.length : Int) = (((j + 1) % l.length : Nat) : Int) := by rw [Int.natCast_emod]; rfl
    rw [e]
    by_cases c : j + 1 = l.length
    · rw [c, Nat.mod_self]; omega
    · rw [Nat.mod_eq_of_lt (by omega)]; omega
  constructor
  · intro k i hi hf
    have hi2 := List.mem_range.mp hi
    have k1 := k i hi
    rw [List.all_eq_true] at k1
    unfold crK at hf
    obtain ⟨j, hj, hc⟩ := List.any_eq_true.mp hf
    have hj := List.mem_range.mp hj
    have k2 := k1 (i + 2 + j) (List.mem_range.mpr (by omega))
    rw [tw] at k2
    unfold crKJ at hc
    rw [Bool.and_eq_true, Bool.not_eq_true', decide_eq_false_iff_not, wrap i (i + 2 + j) hi2 (by omega) (by omega)] at hc
    rw [Bool.or_eq_true, Bool.or_eq_true, decide_eq_true_iff, beq_iff_eq, hc.2] at k2
    rcases k2 with (k2 | k2) | k2
    · omega
    · exact hc.1 k2
    · cases k2
  · intro k i hi
    rw [List.all_eq_true]
    intro j hj
    have hi2 := List.mem_range.mp hi
    have hj2 := List.mem_range.mp hj
    rw [tw, Bool.or_eq_true, Bool.or_eq_true, decide_eq_true_iff, beq_iff_eq]
    by_cases c1 : j ≤ i + 1
    · exact .inl (.inl c1)
    · by_cases c2 : i + l.length = j + 1
      · exact .inl (.inr c2)
      · refine .inr ?_
        have k1 := k i hi
        unfold crK at k1
        rw [Bool.not_eq_true, List.any_eq_false] at k1
        have k2 := k1 (j - (i + 2)) (List.mem_range.mpr (by omega))
        rw [show i + 2 + (j - (i + 2)) = j by omega] at k2
        unfold crKJ at k2
        rw [Bool.not_eq_true, Bool.and_eq_false_iff] at k2
        rcases k2 with k2 | k2
        · rw [Bool.not_eq_false', decide_eq_true_iff, wrap i j hi2 hj2 (by omega)] at k2
          exact absurd k2 c2
        · rw [k2]; rfl
theorem isFig_is {l : List C2} (h : 0 < l.length) : Kzq1.isFigure (l.map wp) = (decide (3 ≤ l.length) && (decide (0 < tsI l) && (!strC l && !crossI l))) := by
  have e : Kzq1.isFigure (l.map wp) = (decide (3 ≤ (l.map wp).length) && Kzq1.pos (Kzq1.size (l.map wp)) && ((List.range (l.map wp).length).all fun i => !Kzq1.isZero (turn (at0 (l.map wp) i) (at0 (l.map wp) (i + 1)) (at0 (l.map wp) (i + 2)))) && (List.range (l.map wp).length).all fun i => (List.range (l.map wp).length).all fun j => decide (j ≤ i + 1) || (i + (l.map wp).length == j + 1) || !Kzq1.touch (at0 (l.map wp) i, at0 (l.map wp) (i + 1)) (at0 (l.map wp) j, at0 (l.map wp) (j + 1))) := rfl
  rw [e, str_is h, cross_is h, size_pos, List.length_map, Bool.and_assoc, Bool.and_assoc]
theorem far_is (ns : List Int) : (ns.any fun x => decide (x < -50 ∨ 50 < x)) = !(ns.map farI).all id := by
  rw [Bool.eq_iff_iff, Bool.not_eq_true', List.all_map, List.any_eq_true, List.all_eq_false]
  constructor
  · rintro ⟨x, hx, hd⟩
    refine ⟨x, hx, ?_⟩
    have hd := of_decide_eq_true hd
    show ¬ farI x = true
    unfold farI
    rw [Bool.and_eq_true, decide_eq_true_iff, decide_eq_true_iff]
    omega
  · rintro ⟨x, hx, hd⟩
    refine ⟨x, hx, decide_eq_true ?_⟩
    have hd : ¬ farI x = true := hd
    unfold farI at hd
    rw [Bool.and_eq_true, decide_eq_true_iff, decide_eq_true_iff] at hd
    omega
theorem readFig_is (ns : List Int) : Kzq1.readFigure ns = if figI ns = true then some ((pairs ns).map wp) else none := by
  unfold Kzq1.readFigure
  rw [far_is, pairsOf_is]
  have pl := pairs_len ns
  have figE : figI ns = if decide ((ns.length : Int) % 2 = 1) || !(decide (3 ≤ (ns.length : Int) / 2) && decide ((ns.length : Int) / 2 ≤ 8)) then false else
    if !(ns.map farI).all id then false else !strC (pairs ns) && (!crossI (pairs ns) && decide (0 < tsI (pairs ns))) := rfl
  cases far : !(ns.map farI).all id with
  | true =>
    rw [if_pos rfl, if_neg]
    rw [figE, far]
    split
    · exact Bool.false_ne_true
    · exact Bool.false_ne_true
  | false =>
    rw [if_neg Bool.false_ne_true]
    by_cases odd : ns.length % 2 = 1
    · rw [if_pos odd]
      show none = _
      rw [if_neg]
      rw [figE, decide_eq_true (show (ns.length : Int) % 2 = 1 by omega), Bool.true_or, if_pos rfl]
      exact Bool.false_ne_true
    · rw [if_neg odd]
      show (if ((pairs ns).map wp).length ≤ Kzq1.most ∧ Kzq1.isFigure ((pairs ns).map wp) = true then some ((pairs ns).map wp) else none) = _
      rw [figE, far, decide_eq_false (show ¬ (ns.length : Int) % 2 = 1 by omega), Bool.false_or, List.length_map, pl]
      have em : Kzq1.most = 8 := rfl
      rw [em]
      by_cases c : 3 ≤ ns.length / 2 ∧ ns.length / 2 ≤ 8
      · have t1 : (!(decide (3 ≤ (ns.length : Int) / 2) && decide ((ns.length : Int) / 2 ≤ 8))) = false := by
          rw [decide_eq_true (by omega), decide_eq_true (by omega)]; rfl
        rw [t1, if_neg (c := false = true) Bool.false_ne_true, if_neg (c := false = true) Bool.false_ne_true, isFig_is (by omega), pl, decide_eq_true c.1]
        have t2 : (true && (decide (0 < tsI (pairs ns)) && (!strC (pairs ns) && !crossI (pairs ns)))) = (!strC (pairs ns) && (!crossI (pairs ns) && decide (0 < tsI (pairs ns)))) := by
          cases decide (0 < tsI (pairs ns)) <;> cases strC (pairs ns) <;> cases crossI (pairs ns) <;> rfl
        rw [t2]
        by_cases d : (!strC (pairs ns) && (!crossI (pairs ns) && decide (0 < tsI (pairs ns)))) = true
        · rw [if_pos ⟨c.2, d⟩, if_pos d]
        · rw [if_neg fun z => d z.2, if_neg d]
      · have t1 : (!(decide (3 ≤ (ns.length : Int) / 2) && decide ((ns.length : Int) / 2 ≤ 8))) = true := by
          rw [Bool.not_eq_true', Bool.and_eq_false_iff, decide_eq_false_iff_not, decide_eq_false_iff_not]
          omega
        rw [t1, if_pos rfl, if_neg (c := false = true) Bool.false_ne_true, if_neg]
        rintro ⟨z1, z2⟩
        by_cases n0 : 0 < (pairs ns).length
        · rw [isFig_is n0, Bool.and_eq_true, decide_eq_true_iff, pl] at z2
          omega
        · have : pairs ns = [] := List.length_eq_zero_iff.mp (by omega)
          rw [this] at z2
          cases z2
end Rc
namespace Rc
open Kzq1 (Q P turn at0 sides cross clip onLine unlike straightened formed begunWith meet)
/-! ### cut up -/
theorem inT_wp (a b c z : C2) : Kzq1.inTriangle (wp a) (wp b) (wp c) (wp z) = triI a b c z := by
  unfold Kzq1.inTriangle triI
  have k : ∀ n : Int, (!Kzq1.lt (Kzq1.whole n) Kzq1.zero) = decide (0 ≤ n) := fun n => by
    rw [show Kzq1.zero = Kzq1.whole 0 from rfl, lt_wp, Bool.eq_iff_iff, Bool.not_eq_true', decide_eq_false_iff_not, decide_eq_true_iff]
    omega
  rw [turn_wp, turn_wp, turn_wp, k, k, k, Bool.and_assoc]
theorem isEar_is {l : List C2} (hn : l.Nodup) (h : 0 < l.length) {i : Nat} (hi : i < l.length) : Kzq1.isEar (l.map wp) i = earC l i := by
  have e : Kzq1.isEar (l.map wp) i = (Kzq1.pos (turn (at0 (l.map wp) (i + (l.map wp).length - 1)) (at0 (l.map wp) i) (at0 (l.map wp) (i + 1))) && (List.range (l.map wp).length).all fun j => j == i || j == (i + 1) % (l.map wp).length || j == (i + (l.map wp).length - 1) % (l.map wp).length || !Kzq1.inTriangle (at0 (l.map wp) (i + (l.map wp).length - 1)) (at0 (l.map wp) i) (at0 (l.map wp) (i + 1)) (at0 (l.map wp) j)) := rfl
  rw [e, List.length_map, at0_wp h, at0_wp h, at0_wp h, turn_wp, pos_wp, Bool.eq_iff_iff, Bool.and_eq_true, ear_iff, decide_eq_true_iff, List.all_eq_true]
  refine and_congr_right fun _ => ?_
  constructor
  · intro k p hp ht
    obtain ⟨j, hj, rfl⟩ := List.mem_iff_getElem.mp hp
    have ej : atC l j = l[j] := atC_of (List.getElem?_eq_getElem hj)
    have k1 := k j (List.mem_range.mpr hj)
    rw [at0_wp h, inT_wp, ej, ht, Bool.not_true, Bool.or_false, Bool.or_eq_true, Bool.or_eq_true, beq_iff_eq, beq_iff_eq, beq_iff_eq] at k1
    rcases k1 with (k1 | k1) | k1
    · right; left
      rw [← ej, k1]
    · right; right
      rw [← ej, k1, atC_mod]
    · left
      rw [← ej, k1, atC_mod]
  · intro k j hj
    have hj := List.mem_range.mp hj
    rw [at0_wp h, inT_wp, Bool.or_eq_true, Bool.or_eq_true, Bool.or_eq_true, beq_iff_eq, beq_iff_eq, beq_iff_eq]
    by_cases ht : triI (atC l (i + l.length - 1)) (atC l i) (atC l (i + 1)) (atC l j) = true
    · rcases k (atC l j) (atC_mem h) ht with q | q | q
      · have := atC_inj hn h q
        rw [Nat.mod_eq_of_lt hj] at this
        exact .inl (.inr this)
      · have := atC_inj hn h q
        rw [Nat.mod_eq_of_lt hj, Nat.mod_eq_of_lt hi] at this
        exact .inl (.inl (.inl this))
      · have := atC_inj hn h q
        rw [Nat.mod_eq_of_lt hj] at this
        exact .inl (.inl (.inr this))
    · exact .inr (by rw [Bool.not_eq_true] at ht; rw [ht]; rfl)
theorem find_first {l : List C2} (g : GoodC l) : (List.range (l.map wp).length).find? (Kzq1.isEar (l.map wp)) = some (firstE l) := by
  have h0 : 0 < l.length := by have := g.len; omega
  obtain ⟨_, _, r, hr⟩ := good_first g
  have e : (List.range l.length).filter (Kzq1.isEar (l.map wp)) = (List.range l.length).filter (earC l) :=
    List.filter_congr fun i hi => isEar_is g.nd h0 (List.mem_range.mp hi)
  rw [List.length_map, ← List.head?_filter, e, hr]
  rfl
theorem tri_cut : ∀ (m : Nat) (l : List C2), GoodC l → l.length ≤ m + 2 → Kzq1.triangles m (l.map wp) = (cutI (l.length - 3) l).map fun t => t.map wp
  | 0, l, g, hm => absurd g.len (by omega)
  | m + 1, l, g, hm => by
    have h3 := g.len
    have h0 : 0 < l.length := by omega
    show (if (l.map wp).length ≤ 3 then [l.map wp] else match (List.range (l.map wp).length).find? (Kzq1.isEar (l.map wp)) with
      | some i => [at0 (l.map wp) (i + (l.map wp).length - 1), at0 (l.map wp) i, at0 (l.map wp) (i + 1)] :: Kzq1.triangles m ((l.map wp).eraseIdx i)
      | none => []) = _
    by_cases c : l.length ≤ 3
    · rw [if_pos (by rw [List.length_map]; exact c), show l.length - 3 = 0 by omega]
      rfl
    · rw [if_neg (by rw [List.length_map]; exact c), find_first g]
      obtain ⟨f1, f2, _⟩ := good_first g
      have hl := cut_len f1
      show [at0 (l.map wp) (firstE l + (l.map wp).length - 1), at0 (l.map wp) (firstE l), at0 (l.map wp) (firstE l + 1)] :: Kzq1.triangles m ((l.map wp).eraseIdx (firstE l)) = _
      have e1 : (l.map wp).eraseIdx (firstE l) = (l.take (firstE l) ++ l.drop (firstE l + 1)).map wp := by
        rw [List.eraseIdx_eq_take_drop_succ, List.map_append, List.map_take, List.map_drop]
      rw [e1, tri_cut m _ (good_next g (by omega) f1 f2) (by omega), show l.length - 3 = ((l.take (firstE l) ++ l.drop (firstE l + 1)).length - 3) + 1 by omega, List.length_map, at0_wp h0, at0_wp h0, at0_wp h0]
      rfl
theorem cutUp_is {l : List C2} (g : GoodC l) : Kzq1.cutUp (l.map wp) = (cutI (l.length - 3) l).map fun t => t.map wp := by
  unfold Kzq1.cutUp
  rw [List.length_map]
  exact tri_cut _ l g (by omega)
theorem inside_is {ns : List Int} (h : figI ns = true) {p : List P} (hp : Cv p) : Kzq1.inside ((pairs ns).map wp) p = shF p (trisF ns) := by
  unfold Kzq1.inside
  rw [cutUp_is (fig_good h), inside_sh hp, trisF_is h, List.map_map]
  · rfl
  · intro t ht
    obtain ⟨u, hu, rfl⟩ := List.mem_map.mp ht
    have := cut_tri (fig_good h) (sm_far h) u hu
    exact ⟨this.v, this.l⟩
theorem within_is {ns : List Int} (h : figI ns = true) {p : List P} (hp : Cv p) : Kzq1.within ((pairs ns).map wp) p = (shF p (trisF ns) == Kzq1.size p) := by
  unfold Kzq1.within
  rw [inside_is h hp]
/-! ### two that have something in common -/
theorem shP_is {ps : List (List P)} (h : ∀ p ∈ ps, Cv p) {i j : Nat} (hi : i < ps.length) (hj : j < ps.length) : (!(meet (ps.getD i []) (ps.getD j [])).isEmpty) = shP ps i j := by
  have gd (k : Nat) (hk : k < ps.length) : Cv (ps.getD k []) := h _ (by rw [List.getD_eq_getElem?_getD, List.getElem?_eq_getElem hk]; exact List.getElem_mem hk)
  unfold shP
  have k := inB_none (gd i hi) (gd j hj)
  cases e : inB (ps.getD i []) (ps.getD j []) with
  | none => rw [k.mp e]; rfl
  | some r =>
    cases m : meet (ps.getD i []) (ps.getD j []) with
    | nil => rw [k.mpr m] at e; cases e
    | cons _ _ => rfl
def prs (n : Nat) : List (Nat × Nat) := (List.range n).flatMap fun i => (List.range n).map fun j => (i, j)
theorem prs_mem {n : Nat} {y : Nat × Nat} (h : y ∈ prs n) : y.1 < n ∧ y.2 < n := by
  unfold prs at h
  obtain ⟨i, hi, hy⟩ := List.mem_flatMap.mp h
  obtain ⟨j, hj, rfl⟩ := List.mem_map.mp hy
  exact ⟨List.mem_range.mp hi, List.mem_range.mp hj⟩
theorem prs_cut {n i j : Nat} (hi : i < n) (hj : j < n) : ∃ as bs, prs n = as ++ (i, j) :: bs ∧ ∀ y ∈ as, y.1 < n ∧ y.2 < n ∧ (y.1 < i ∨ (y.1 = i ∧ y.2 < j)) := by
  refine ⟨((List.range i).flatMap fun a => (List.range n).map fun b => (a, b)) ++ (List.range j).map fun b => (i, b), ((List.range (n - j - 1)).map (j + 1 + ·)).map (fun b => (i, b)) ++ ((List.range (n - i - 1)).map (i + 1 + ·)).flatMap (fun a => (List.range n).map fun b => (a, b)), ?_, ?_⟩
  · unfold prs
    rw [range_cut n i hi, List.flatMap_append, List.flatMap_cons, ← range_cut n i hi]
    have e : ((List.range n).map fun b => (i, b)) = (List.range j).map (fun b => (i, b)) ++ (i, j) :: ((List.range (n - j - 1)).map (j + 1 + ·)).map fun b => (i, b) := by
      rw [range_cut n j hj, List.map_append, List.map_cons]
    rw [e, List.append_assoc, List.append_assoc, List.cons_append]
  · intro y hy
    rcases List.mem_append.mp hy with q | q
    · obtain ⟨a, ha, hy⟩ := List.mem_flatMap.mp q
      obtain ⟨b, hb, rfl⟩ := List.mem_map.mp hy
      have ha := List.mem_range.mp ha
      have hb := List.mem_range.mp hb
      exact ⟨by show a < n; omega, hb, .inl ha⟩
    · obtain ⟨b, hb, rfl⟩ := List.mem_map.mp q
      have hb := List.mem_range.mp hb
      exact ⟨hi, by show b < n; omega, .inr ⟨rfl, hb⟩⟩
theorem twoIn_is {ps : List (List P)} (h : ∀ p ∈ ps, Cv p) : fshF ps = match Kzq3.twoIn ps with | some y => [(y.1 : Int), (y.2 : Int)] | none => [] := by
  have e : Kzq3.twoIn ps = (prs ps.length).find? fun y => decide (y.1 < y.2) && !(meet (ps.getD y.1 []) (ps.getD y.2 [])).isEmpty := rfl
  rw [e]
  unfold fshF
  cases hc : (List.range ps.length).any (shK ps) with
  | false =>
    rw [if_neg Bool.false_ne_true]
    have : ((prs ps.length).find? fun y => decide (y.1 < y.2) && !(meet (ps.getD y.1 []) (ps.getD y.2 [])).isEmpty) = none := by
      rw [List.find?_eq_none]
      intro y hy hf
      obtain ⟨h1, h2⟩ := prs_mem hy
      rw [shP_is h h1 h2, Bool.and_eq_true, decide_eq_true_iff] at hf
      rw [List.any_eq_false] at hc
      refine hc y.1 (List.mem_range.mpr h1) ?_
      unfold shK
      refine List.any_eq_true.mpr ⟨y.2 - (y.1 + 1), List.mem_range.mpr (by omega), ?_⟩
      rw [show y.1 + 1 + (y.2 - (y.1 + 1)) = y.2 by omega]
      exact hf.2
    rw [this]
  | true =>
    obtain ⟨n, x, h1, h2, h3⟩ := first_good hc
    obtain ⟨rfl, hn⟩ := range_get h1
    obtain ⟨n2, x2, k1, k2, k3⟩ := first_good h2
    obtain ⟨rfl, hn2⟩ := range_get k1
    have e1 : firstB (shK ps) ps.length = x := firstB_is hn h2 fun i hi => h3 i i hi (List.getElem?_range (by omega))
    have e2 : firstB (fun j => shP ps x (x + 1 + j)) (ps.length - (x + 1)) = x2 := firstB_is hn2 k2 fun i hi => k3 i i hi (List.getElem?_range (by omega))
    rw [if_pos rfl, e1]
    show [(x : Int), ((x + 1 + firstB (fun j => shP ps x (x + 1 + j)) (ps.length - (x + 1)) : Nat) : Int)] = _
    rw [e2]
    have hx2 : x + 1 + x2 < ps.length := by omega
    have : ((prs ps.length).find? fun y => decide (y.1 < y.2) && !(meet (ps.getD y.1 []) (ps.getD y.2 [])).isEmpty) = some (x, x + 1 + x2) := by
      obtain ⟨as, bs, c1, c2⟩ := prs_cut hn hx2
      rw [List.find?_eq_some_iff_append]
      refine ⟨?_, as, bs, c1, fun y hy => ?_⟩
      · rw [shP_is h hn hx2, decide_eq_true (show x < x + 1 + x2 by omega), k2]
        rfl
      · obtain ⟨d1, d2, d3⟩ := c2 y hy
        rw [shP_is h d1 d2, Bool.not_eq_true', Bool.and_eq_false_iff, decide_eq_false_iff_not]
        by_cases lt : y.1 < y.2
        · refine .inr ?_
          rcases d3 with d3 | ⟨d3, d4⟩
          · have q := h3 y.1 y.1 d3 (List.getElem?_range (by omega))
            unfold shK at q
            rw [List.any_eq_false] at q
            have q := q (y.2 - (y.1 + 1)) (List.mem_range.mpr (by omega))
            rw [show y.1 + 1 + (y.2 - (y.1 + 1)) = y.2 by omega] at q
            exact Bool.eq_false_iff.mpr q
          · have q := k3 (y.2 - (x + 1)) (y.2 - (x + 1)) (by omega) (List.getElem?_range (by omega))
            rw [show x + 1 + (y.2 - (x + 1)) = y.2 by omega] at q
            rw [d3]
            exact q
        · exact .inl lt
    rw [this]
end Rc
namespace Rc
open Kzq1 (Q P turn at0 sides cross clip onLine unlike straightened formed begunWith meet)
theorem fi_congr {α : Type} {f g : α → Bool} : ∀ {l : List α}, (∀ x ∈ l, f x = g x) → l.findIdx? f = l.findIdx? g
  | [], _ => rfl
  | a :: l, h => by rw [List.findIdx?_cons, List.findIdx?_cons, h a (by simp), fi_congr fun x hx => h x (List.mem_cons_of_mem _ hx)]
theorem fout_is {ns : List Int} (h : figI ns = true) {ps : List Kzq2.Part} {r : Kzq2.Part → List P} (hv : ∀ p ∈ ps, Cv (r p)) :
    foutF (trisF ns) (ps.map r) = match ps.findIdx? (fun p => !Kzq1.within ((pairs ns).map wp) (r p)) with | some k => (k : Int) | none => -1 := by
  unfold foutF
  rw [List.findIdx?_map]
  have : ps.findIdx? ((fun p => !(shF p (trisF ns) == Kzq1.size p)) ∘ r) = ps.findIdx? (fun p => !Kzq1.within ((pairs ns).map wp) (r p)) := fi_congr fun p hp => by
    show (!(shF (r p) (trisF ns) == Kzq1.size (r p))) = _
    rw [within_is h (hv p hp)]
  rw [this]
  all_goals (cases ps.findIdx? (fun p => !Kzq1.within ((pairs ns).map wp) (r p)) <;> rfl)
theorem what_is {f g : List Int} (hf : figI f = true) (hg : figI g = true) {ps : List Kzq2.Part} (ok : ∀ p ∈ ps, PtOk p) :
    whatF f g ps = match Kzq3.why ((pairs f).map wp) ((pairs g).map wp) ps with | none => [] | some y => [(y.k : Int), (y.i : Int), (y.j : Int)] := by
  have o1 := fout_is hf (ps := ps) (r := fun p => p.l) fun p hp => (ok p hp).v
  have o2 := fout_is hg (ps := ps) (r := goalF) fun p hp => (ok p hp).gl.v
  have o3 : ps.findIdx? (fun p => !Kzq1.within ((pairs g).map wp) (Kzq2.goes p.m p.l)) = ps.findIdx? (fun p => !Kzq1.within ((pairs g).map wp) (goalF p)) := fi_congr fun p hp => by rw [(ok p hp).goes]
  have o4 : (ps.map fun p => Kzq2.goes p.m p.l) = ps.map goalF := List.map_congr_left fun p hp => (ok p hp).goes
  have t1 := twoIn_is (ps := ps.map fun p => p.l) fun p hp => by
    obtain ⟨q, hq, rfl⟩ := List.mem_map.mp hp
    exact (ok q hq).v
  have t2 := twoIn_is (ps := ps.map goalF) fun p hp => by
    obtain ⟨q, hq, rfl⟩ := List.mem_map.mp hp
    exact (ok q hq).gl.v
  unfold whatF Kzq3.why
  rw [fsz_is, fsz_is, o3, o4, o1, o2, t1, t2]
  by_cases c1 : fszF f = fszF g
  · rw [if_neg (c := (!(fszF f == fszF g)) = true) (by rw [c1]; simp), if_neg (c := fszF f ≠ fszF g) (fun z => z c1)]
    cases e1 : ps.findIdx? (fun p => !Kzq1.within ((pairs f).map wp) p.l) with
    | some i =>
      show (if decide (0 ≤ ((i : Nat) : Int)) = true then [2, ((i : Nat) : Int), 0] else _) = _
      rw [if_pos (decide_eq_true (by omega))]
      rfl
    | none =>
      show (if decide ((0 : Int) ≤ -1) = true then _ else _) = _
      rw [if_neg (by decide)]
      cases e2 : ps.findIdx? (fun p => !Kzq1.within ((pairs g).map wp) (goalF p)) with
      | some i =>
        show (if decide (0 ≤ ((i : Nat) : Int)) = true then [3, ((i : Nat) : Int), 0] else _) = _
        rw [if_pos (decide_eq_true (by omega))]
        rfl
      | none =>
        show (if decide ((0 : Int) ≤ -1) = true then _ else _) = _
        rw [if_neg (by decide)]
        cases e3 : Kzq3.twoIn (ps.map fun p => p.l) with
        | some y => rfl
        | none =>
          cases e4 : Kzq3.twoIn (ps.map goalF) with
          | some y => rfl
          | none =>
            show (if (!(Kzq1.sum (ps.map fun p => Kzq1.size p.l) == fszF f)) = true then [6, 0, 0] else []) = match (if Kzq2.total ps = fszF f then none else some (⟨6, 0, 0⟩ : Kzq3.Why)) with | none => [] | some y => [(y.k : Int), (y.i : Int), (y.j : Int)]
            have e5 : Kzq2.total ps = Kzq1.sum (ps.map fun p => Kzq1.size p.l) := rfl
            rw [e5]
            by_cases c6 : Kzq1.sum (ps.map fun p => Kzq1.size p.l) = fszF f
            · rw [if_neg (by rw [c6]; simp), if_pos c6]
            · rw [if_pos (by simpa using c6), if_neg c6]
              rfl
  · rw [if_pos (c := (!(fszF f == fszF g)) = true) (by simpa using c1), if_pos (c := fszF f ≠ fszF g) c1]
    rfl
theorem why_is (f g c : List Int) (l1 : f.length ≤ 60) (l2 : g.length ≤ 60) (l3 : c.length ≤ 4000) (hb : ∀ x ∈ c, x.natAbs < 2 ^ 256) : PyKzq3.why f g c = whyF f g c := by
  have e : PyKzq3.why f g c = (let a := match Kzq1.readFigure f, Kzq1.readFigure g with
    | some F, some G => Kzq2.withCut c fun ps => match Kzq3.why F G ps with
      | none => Kzq1.say 1
      | some y => ⟨0, [(y.k : Int), (y.i : Int), (y.j : Int)]⟩
    | _, _ => Kzq1.say (-22)
    a.value :: a.nums) := rfl
  rw [e, readFig_is, readFig_is]
  unfold whyF
  by_cases hf : figI f = true
  · rw [if_pos hf]
    by_cases hg : figI g = true
    · rw [if_pos hg, hf, hg, if_neg (c := (!true || !true) = true) (by decide)]
      show (let a := Kzq2.withCut c fun ps => match Kzq3.why ((pairs f).map wp) ((pairs g).map wp) ps with
        | none => Kzq1.say 1
        | some y => ⟨0, [(y.k : Int), (y.i : Int), (y.j : Int)]⟩
        a.value :: a.nums) = _
      unfold Kzq2.withCut
      rw [← readOn_is]
      cases hR : readOn c.length c with
      | none => rfl
      | some ps =>
        have ok := readOn_ok hR hb
        show (let a := if Kzq2.mostParts < ps.length then Kzq1.say (-28) else match Kzq3.why ((pairs f).map wp) ((pairs g).map wp) ps with
          | none => Kzq1.say 1
          | some y => ⟨0, [(y.k : Int), (y.i : Int), (y.j : Int)]⟩
          a.value :: a.nums) = if 160 < ps.length then [-28] else if (whatF f g ps).isEmpty = true then [1] else [0] ++ whatF f g ps
        have em : Kzq2.mostParts = 160 := rfl
        rw [em]
        by_cases cl : 160 < ps.length
        · rw [if_pos cl, if_pos cl]; rfl
        · rw [if_neg cl, if_neg cl, what_is hf hg ok]
          cases Kzq3.why ((pairs f).map wp) ((pairs g).map wp) ps with
          | none => rfl
          | some y => rfl
    · have hg2 : figI g = false := by simpa using hg
      rw [if_neg hg, hf, hg2]
      rfl
  · have hf2 : figI f = false := by simpa using hf
    rw [if_neg hf, hf2]
    rfl
end Rc
namespace Rc
open PySem PySem.Spec PyProof.Rows L2 Evl
theorem in256 {x : Int} (h : PySem.W.Codec.inInt (-115792089237316195423570985008687907853269984665640564039457584007913129639935) 115792089237316195423570985008687907853269984665640564039457584007913129639935 x = true) : x.natAbs < 2 ^ 256 := by
  have h := PySem.W.Codec.inInt_iff.mp h
  omega
section
variable {K1 K2 : PySem.W.Frag}
theorem v_lookup {x : Addr} {c : Option Obj} (_ : K1.lookup x = c) (e : K2.lookup x = c) : K2.lookup x = c := e
theorem v_nsIn {x : Addr} {n : Str} {c : Option (Option Value)} (_ : PySem.W.nsIn K1 x n = c) (e : PySem.W.nsIn K2 x n = c) : PySem.W.nsIn K2 x n = c := e
theorem v_findIn {x : Value} {n : Str} {c : Option (Option Value)} (_ : PySem.W.findIn K1 x n = c) (e : PySem.W.findIn K2 x n = c) : PySem.W.findIn K2 x n = c := e
theorem v_isFn {x : Value} {c : Bool} (_ : PySem.W.isFn K1 x = c) (e : PySem.W.isFn K2 x = c) : PySem.W.isFn K2 x = c := e
theorem v_codeIn {x : Value} {n : Str} {c : Bool} (_ : PySem.W.codeIn K1 x n = c) (e : PySem.W.codeIn K2 x n = c) : PySem.W.codeIn K2 x n = c := e
theorem v_keepIn {x : Value} {c : Bool} (_ : PySem.W.keepIn K1 x = c) (e : PySem.W.keepIn K2 x = c) : PySem.W.keepIn K2 x = c := e
theorem v_plainGet {x : Addr} {n : Str} {c : Bool} (_ : PySem.W.plainGet K1 x n = c) (e : PySem.W.plainGet K2 x n = c) : PySem.W.plainGet K2 x n = c := e
theorem v_hasDictIn {x : Addr} {c : Bool} (_ : PySem.W.hasDictIn K1 x = c) (e : PySem.W.hasDictIn K2 x = c) : PySem.W.hasDictIn K2 x = c := e
theorem v_plainOver {x : Addr} {c : Bool} (_ : PySem.W.plainOver K1 x = c) (e : PySem.W.plainOver K2 x = c) : PySem.W.plainOver K2 x = c := e
theorem v_makesIn {x : Addr} {c : Bool} (_ : PySem.W.makesIn K1 x = c) (e : PySem.W.makesIn K2 x = c) : PySem.W.makesIn K2 x = c := e
end
def top (i : Nat) : Stmt := PySem.Challenge.pw_recutfigures_s02_why.main.body.getD i (.Pass ⟨0, 0, 0, 0⟩)
structure Txt (K : PySem.W.Frag) (mg : Str → Option Value) (CPiece CPart : Addr) : Prop where
  len : mg "len" = none
  abs : mg "abs" = none
  all : mg "all" = none
  any : mg "any" = none
  sum : mg "sum" = none
  range : mg "range" = none
  enumerate : mg "enumerate" = none
  int : mg "int" = none
  min : mg "min" = none
  max : mg "max" = none
  g_MOST_FAR : ∃ t, mg "MOST_FAR" = some (.int (50) t)
  g_MOST_CORNERS_figures : ∃ t, mg "MOST_CORNERS_figures" = some (.int (8) t)
  g_MOST_PARTS : ∃ t, mg "MOST_PARTS" = some (.int (160) t)
  g_NOT_AS_TOLD : ∃ t, mg "NOT_AS_TOLD" = some (.int (-22) t)
  g_TOO_MUCH : ∃ t, mg "TOO_MUCH" = some (.int (-28) t)
  g_LEAST_CORNERS : ∃ t, mg "LEAST_CORNERS" = some (.int (3) t)
  g_MOST_CORNERS_cuttings : ∃ t, mg "MOST_CORNERS_cuttings" = some (.int (40) t)
  g_MOVE_NUMBERS : ∃ t, mg "MOVE_NUMBERS" = some (.int (5) t)
  z_ZERO : ∃ a, mg "ZERO" = some (.ref a) ∧ ∀ H, (qR K Kzq1.zero).p (.ref a) H
  z_HALF : ∃ a, mg "HALF" = some (.ref a) ∧ ∀ H, (qR K Kzq1.half).p (.ref a) H
  cl_Piece : Cls K CPiece
  cl_Part : Cls K CPart
  n_corners : NoAttr K CPiece "corners"
  n_bounds : NoAttr K CPiece "bounds"
  n_piece : NoAttr K CPart "piece"
  n_move : NoAttr K CPart "move"
section
variable {P : Program} {w : World} {K : PySem.W.Frag} {mg : Str → Option Value} {base : Heap} {CPiece CPart : Addr}
abbrev s_common : Stmt := top 3
theorem sc_common : FnScope ["one", "other"] ["one", "other"] (defScope s_common) := ⟨rfl, rfl, rfl, by decide +kernel, rfl, by decide +kernel, by decide +kernel⟩
abbrev pre_common (K : PySem.W.Frag) : List Rp → Rp → Prop := p2 (fun a b : Int => 0 ≤ a ∧ 0 ≤ b) iR iR iR (fun a b => ((Nat.gcd a.toNat b.toNat : Nat) : Int))
theorem ok_common (A : Fa K mg "common" s_common ["one", "other"]) (T : Txt K mg CPiece CPart) : Cb P w K mg base "common" 40 ["one", "other"] (pre_common K) := by
  obtain ⟨f, fd, F, hm, hb⟩ := A.ex
  have nd := sc_common.nd
  refine ⟨f, fd, fn_ok F sc_common (fun rs r h => p2_len h) (fun cdv A outer s H E hr => ⟨_, (pss_cons (ps_while PassesOwn.never (pt_cmpR op_ne (pv 1) pe_int (nomark _)) (pss_one (ps_par (i := 0) (j := 1) rfl nd rfl rfl (by decide) rfl rfl (pa_cons (pv 1) (pa_cons (pe_op op_mod (pv 0) (pv 1)) pa_nil)) (by rfl))))
      (pss_one (ps_ret (pv 0)))), fun rs r h => ?_⟩), hm, F.kp, hb⟩
  obtain ⟨a, b, ⟨ha, hb⟩, rfl, rfl⟩ := h
  refine s_seq (s_while (fl := .nx [.r (iR ((Nat.gcd a.toNat b.toNat : Nat) : Int)), .no]) (α := Nat × Nat) (fun p => Nat.gcd p.1 p.2 = Nat.gcd a.toNat b.toNat) (fun p => [.r (iR (p.1 : Int)), .r (iR (p.2 : Int))]) (fun p => p.2) (a.toNat, b.toNat) rfl (Le.of ?_) ?_) (s_ret (er_var rfl))
  · show [Sl.r (iR a), Sl.r (iR b)] = [Sl.r (iR (a.toNat : Int)), Sl.r (iR (b.toNat : Int))]
    rw [Int.toNat_of_nonneg ha, Int.toNat_of_nonneg hb]
  · rintro ⟨x, y⟩ hg
    have hg : Nat.gcd x y = Nat.gcd a.toNat b.toNat := hg
    by_cases c : y = 0
    · subst c
      rw [Nat.gcd_zero_right] at hg
      refine .inr ⟨tr_eq (tr_test (er_neI (er_var rfl) er_c)) (by simp), _, rfl, ?_⟩
      rw [← hg]
      exact Le.no _ 1
    · have hy : 0 < y := Nat.pos_of_ne_zero c
      refine .inl ⟨tr_eq (tr_test (er_neI (er_var rfl) er_c)) (by simp; omega), .inl ⟨(y, x % y), ?_, Nat.mod_lt _ hy, ?_⟩⟩
      · show Nat.gcd y (x % y) = _
        rw [← hg, Nat.gcd_comm, ← Nat.gcd_rec, Nat.gcd_comm]
      · exact s_par (ar_cons (er_var rfl) (ar_cons (er_i (er_mod (er_var rfl) (er_var rfl) (by show (0 : Int) < (y : Int); omega)) (Int.natCast_emod x y).symm) ar_nil))
abbrev s_ratio : Stmt := top 4
theorem sc_ratio : FnScope ["top", "bottom", "share"] ["top", "bottom"] (defScope s_ratio) := ⟨rfl, rfl, rfl, by decide +kernel, rfl, by decide +kernel, by decide +kernel⟩
abbrev pre_ratio (K : PySem.W.Frag) : List Rp → Rp → Prop := p2 (fun (_ d : Int) => 0 < d) iR iR (qR K) (fun n d => Kzq1.mk n d.toNat)
theorem ok_ratio (A : Fa K mg "ratio" s_ratio ["top", "bottom"]) (T : Txt K mg CPiece CPart) (C_common : Cb P w K mg base "common" 40 ["one", "other"] (pre_common K)) (hB : Big P base) : Cb P w K mg base "ratio" 41 ["top", "bottom"] (pre_ratio K) := by
  obtain ⟨f, fd, F, hm, hb⟩ := A.ex
  have nd := sc_ratio.nd
  refine ⟨f, fd, fn_ok F sc_ratio (fun rs r h => p2_len h) (fun cdv A outer s H E hr => ⟨_, (pss_cons (ps_set (i := 2) nd rfl (by first | exact Or.inl rfl | exact Or.inr rfl) (pe_cb C_common (hr.mono (by decide)) rfl (pa_cons (pe_callB call_abs (by rfl) T.abs (by decide +kernel) (pa_cons (pv 0) pa_nil)) (pa_cons (pv 1) pa_nil))))
      (pss_one (ps_ret (pe_tup (pa_cons (pe_op (op_fdivP rfl sc_ratio.gen sc_ratio.co hB.ns hB.tr (Nat.lt_of_le_of_lt (Nat.add_le_add_left (by decide) _) hr.dp)) (pv 0) (pv 2)) (pa_cons (pe_op (op_fdivP rfl sc_ratio.gen sc_ratio.co hB.ns hB.tr (Nat.lt_of_le_of_lt (Nat.add_le_add_left (by decide) _) hr.dp)) (pv 1) (pv 2)) pa_nil)))))), fun rs r h => ?_⟩), hm, F.kp, hb⟩
  obtain ⟨n, d, hd, rfl, rfl⟩ := h
  have hd : 0 < d := hd
  have e1 : (if n < 0 then -n else n).toNat = n.natAbs := by split <;> omega
  have g0 : 0 < Nat.gcd n.natAbs d.toNat := Nat.gcd_pos_of_pos_right _ (by omega)
  refine s_seq (s_set (er_i (b := ((Nat.gcd n.natAbs d.toNat : Nat) : Int)) (er_c2 (er_callB (ar_cons (er_var rfl) ar_nil) cr_abs) (er_var rfl) ?_) ?_)) (s_ret (er_eq (er_tup (K := K) (ar_cons (er_fdiv (er_var rfl) (er_var rfl) ?_) (ar_cons (er_fdiv (er_var rfl) (er_var rfl) ?_) ar_nil))) ?_))
  · exact ⟨by split <;> omega, by omega⟩
  · rw [e1]
  · omega
  · omega
  · show tR K [iR (n / _), iR (d / _)] = qR K (Kzq1.mk n d.toNat)
    rw [mk_eq (by omega)]
    unfold qR
    rw [Int.natCast_ediv, Int.toNat_of_nonneg (by omega)]
abbrev s_plus : Stmt := top 5
theorem sc_plus : FnScope ["one", "other"] ["one", "other"] (defScope s_plus) := ⟨rfl, rfl, rfl, by decide +kernel, rfl, by decide +kernel, by decide +kernel⟩
abbrev pre_plus (K : PySem.W.Frag) : List Rp → Rp → Prop := p2 (fun a b => Bq a ∧ Bq b) (qR K) (qR K) (qR K) Kzq1.add
theorem ok_plus (A : Fa K mg "plus" s_plus ["one", "other"]) (T : Txt K mg CPiece CPart) (C_ratio : Cb P w K mg base "ratio" 41 ["top", "bottom"] (pre_ratio K)) : Cb P w K mg base "plus" 42 ["one", "other"] (pre_plus K) := by
  obtain ⟨f, fd, F, hm, hb⟩ := A.ex
  have nd := sc_plus.nd
  refine ⟨f, fd, fn_ok F sc_plus (fun rs r h => p2_len h) (fun cdv A outer s H E hr => ⟨_, (pss_one (ps_ret (pe_cb C_ratio (hr.mono (by decide)) rfl (pa_cons (pe_op op_add (pe_op op_mulX (pe_ix (ixT (K := K) rfl) (pv 0) pe_int (fun _ _ => rfl)) (pe_ix (ixT (K := K) rfl) (pv 1) pe_int (fun _ _ => rfl))) (pe_op op_mulX (pe_ix (ixT (K := K) rfl) (pv 1) pe_int (fun _ _ => rfl)) (pe_ix (ixT (K := K) rfl) (pv 0) pe_int (fun _ _ => rfl)))) (pa_cons (pe_op op_mulX (pe_ix (ixT (K := K) rfl) (pv 0) pe_int (fun _ _ => rfl)) (pe_ix (ixT (K := K) rfl) (pv 1) pe_int (fun _ _ => rfl))) pa_nil))))), fun rs r h => ?_⟩), hm, F.kp, hb⟩
  obtain ⟨a, b, ⟨ha, hb⟩, rfl, rfl⟩ := h
  refine s_ret (er_eq (er_c2 (er_add (er_mul (er_q0 (er_var rfl)) (er_q1 (er_var rfl)) ?_) (er_mul (er_q0 (er_var rfl)) (er_q1 (er_var rfl)) ?_)) (er_mul (er_q1 (er_var rfl)) (er_q1 (er_var rfl)) ?_) ?_) ?_)
  · exact ha.nd hb
  · exact hb.nd ha
  · exact ha.dd hb
  · exact pos_dd ha.pos hb.pos
  · exact congrArg (qR K) (add_is a b)
abbrev s_minus : Stmt := top 7
theorem sc_minus : FnScope ["one", "other"] ["one", "other"] (defScope s_minus) := ⟨rfl, rfl, rfl, by decide +kernel, rfl, by decide +kernel, by decide +kernel⟩
abbrev pre_minus (K : PySem.W.Frag) : List Rp → Rp → Prop := p2 (fun a b => Bq a ∧ Bq b) (qR K) (qR K) (qR K) Kzq1.sub
theorem ok_minus (A : Fa K mg "minus" s_minus ["one", "other"]) (T : Txt K mg CPiece CPart) (C_ratio : Cb P w K mg base "ratio" 41 ["top", "bottom"] (pre_ratio K)) : Cb P w K mg base "minus" 42 ["one", "other"] (pre_minus K) := by
  obtain ⟨f, fd, F, hm, hb⟩ := A.ex
  have nd := sc_minus.nd
  refine ⟨f, fd, fn_ok F sc_minus (fun rs r h => p2_len h) (fun cdv A outer s H E hr => ⟨_, (pss_one (ps_ret (pe_cb C_ratio (hr.mono (by decide)) rfl (pa_cons (pe_op op_sub (pe_op op_mulX (pe_ix (ixT (K := K) rfl) (pv 0) pe_int (fun _ _ => rfl)) (pe_ix (ixT (K := K) rfl) (pv 1) pe_int (fun _ _ => rfl))) (pe_op op_mulX (pe_ix (ixT (K := K) rfl) (pv 1) pe_int (fun _ _ => rfl)) (pe_ix (ixT (K := K) rfl) (pv 0) pe_int (fun _ _ => rfl)))) (pa_cons (pe_op op_mulX (pe_ix (ixT (K := K) rfl) (pv 0) pe_int (fun _ _ => rfl)) (pe_ix (ixT (K := K) rfl) (pv 1) pe_int (fun _ _ => rfl))) pa_nil))))), fun rs r h => ?_⟩), hm, F.kp, hb⟩
  obtain ⟨a, b, ⟨ha, hb⟩, rfl, rfl⟩ := h
  refine s_ret (er_eq (er_c2 (er_sub (er_mul (er_q0 (er_var rfl)) (er_q1 (er_var rfl)) ?_) (er_mul (er_q0 (er_var rfl)) (er_q1 (er_var rfl)) ?_)) (er_mul (er_q1 (er_var rfl)) (er_q1 (er_var rfl)) ?_) ?_) ?_)
  · exact ha.nd hb
  · exact hb.nd ha
  · exact ha.dd hb
  · exact pos_dd ha.pos hb.pos
  · exact congrArg (qR K) (sub_is a b)
abbrev s_times : Stmt := top 8
theorem sc_times : FnScope ["one", "other"] ["one", "other"] (defScope s_times) := ⟨rfl, rfl, rfl, by decide +kernel, rfl, by decide +kernel, by decide +kernel⟩
abbrev pre_times (K : PySem.W.Frag) : List Rp → Rp → Prop := p2 (fun a b => Bq a ∧ Bq b) (qR K) (qR K) (qR K) Kzq1.mul
theorem ok_times (A : Fa K mg "times" s_times ["one", "other"]) (T : Txt K mg CPiece CPart) (C_ratio : Cb P w K mg base "ratio" 41 ["top", "bottom"] (pre_ratio K)) : Cb P w K mg base "times" 42 ["one", "other"] (pre_times K) := by
  obtain ⟨f, fd, F, hm, hb⟩ := A.ex
  have nd := sc_times.nd
  refine ⟨f, fd, fn_ok F sc_times (fun rs r h => p2_len h) (fun cdv A outer s H E hr => ⟨_, (pss_one (ps_ret (pe_cb C_ratio (hr.mono (by decide)) rfl (pa_cons (pe_op op_mulX (pe_ix (ixT (K := K) rfl) (pv 0) pe_int (fun _ _ => rfl)) (pe_ix (ixT (K := K) rfl) (pv 1) pe_int (fun _ _ => rfl))) (pa_cons (pe_op op_mulX (pe_ix (ixT (K := K) rfl) (pv 0) pe_int (fun _ _ => rfl)) (pe_ix (ixT (K := K) rfl) (pv 1) pe_int (fun _ _ => rfl))) pa_nil))))), fun rs r h => ?_⟩), hm, F.kp, hb⟩
  obtain ⟨a, b, ⟨ha, hb⟩, rfl, rfl⟩ := h
  refine s_ret (er_eq (er_c2 (er_mul (er_q0 (er_var rfl)) (er_q0 (er_var rfl)) ?_) (er_mul (er_q1 (er_var rfl)) (er_q1 (er_var rfl)) ?_) ?_) ?_)
  · exact ha.nn hb
  · exact ha.dd hb
  · exact pos_dd ha.pos hb.pos
  · exact congrArg (qR K) (mul_is a b)
abbrev s_is_less : Stmt := top 10
theorem sc_is_less : FnScope ["one", "other"] ["one", "other"] (defScope s_is_less) := ⟨rfl, rfl, rfl, by decide +kernel, rfl, by decide +kernel, by decide +kernel⟩
abbrev pre_is_less (K : PySem.W.Frag) : List Rp → Rp → Prop := p2 (fun a b => Bq a ∧ Bq b) (qR K) (qR K) bR Kzq1.lt
theorem ok_is_less (A : Fa K mg "is_less" s_is_less ["one", "other"]) (T : Txt K mg CPiece CPart) : Cb P w K mg base "is_less" 42 ["one", "other"] (pre_is_less K) := by
  obtain ⟨f, fd, F, hm, hb⟩ := A.ex
  have nd := sc_is_less.nd
  refine ⟨f, fd, fn_ok F sc_is_less (fun rs r h => p2_len h) (fun cdv A outer s H E hr => ⟨_, (pss_one (ps_ret (pe_cmpR op_lt (pe_op op_mulX (pe_ix (ixT (K := K) rfl) (pv 0) pe_int (fun _ _ => rfl)) (pe_ix (ixT (K := K) rfl) (pv 1) pe_int (fun _ _ => rfl))) (pe_op op_mulX (pe_ix (ixT (K := K) rfl) (pv 1) pe_int (fun _ _ => rfl)) (pe_ix (ixT (K := K) rfl) (pv 0) pe_int (fun _ _ => rfl))) (nomark _)))), fun rs r h => ?_⟩), hm, F.kp, hb⟩
  obtain ⟨a, b, ⟨ha, hb⟩, rfl, rfl⟩ := h
  refine s_ret (er_eq (er_lt (er_mul (er_q0 (er_var rfl)) (er_q1 (er_var rfl)) ?_) (er_mul (er_q0 (er_var rfl)) (er_q1 (er_var rfl)) ?_)) ?_)
  · exact ha.nd hb
  · exact hb.nd ha
  · rfl
abbrev s_least : Stmt := top 11
theorem sc_least : FnScope ["some", "found", "one"] ["some"] (defScope s_least) := ⟨rfl, rfl, rfl, by decide +kernel, rfl, by decide +kernel, by decide +kernel⟩
abbrev pre_least (K : PySem.W.Frag) : List Rp → Rp → Prop := p1 (fun l : List Kzq1.Q => l ≠ [] ∧ ∀ q ∈ l, Bq q) (fun l => sR K (l.map (qR K))) (qR K) leastQ
theorem ok_least (A : Fa K mg "least" s_least ["some"]) (T : Txt K mg CPiece CPart) (C_is_less : Cb P w K mg base "is_less" 42 ["one", "other"] (pre_is_less K)) : Cb P w K mg base "least" 43 ["some"] (pre_least K) := by
  obtain ⟨f, fd, F, hm, hb⟩ := A.ex
  have nd := sc_least.nd
  refine ⟨f, fd, fn_ok F sc_least (fun rs r h => p1_len h) (fun cdv A outer s H E hr => ⟨_, (pss_cons (ps_set (i := 1) nd rfl (by first | exact Or.inl rfl | exact Or.inr rfl) (pe_ix (ixL (K := K) rfl) (pv 0) pe_int (fun _ _ => rfl)))
      (pss_cons (ps_for PassesOwn.never rfl (pi_list (pe_slice (slL (K := K) rfl) (pv 0) (po_some pe_int) po_none)) (pg_name (i := 2) nd rfl (by first | exact Or.inl rfl | exact Or.inr rfl)) (pss_one (ps_if (pt_val (pe_cb C_is_less (hr.mono (by decide)) rfl (pa_cons (pv 2) (pa_cons (pv 1) pa_nil)))) (pss_one (ps_set (i := 1) nd rfl (by first | exact Or.inl rfl | exact Or.inr rfl) (pv 2))) pss_nil)))
      (pss_one (ps_ret (pv 1))))), fun rs r h => ?_⟩), hm, F.kp, hb⟩
  obtain ⟨l, ⟨hl, hb⟩, rfl, rfl⟩ := h
  obtain ⟨x, xs, rfl⟩ : ∃ x xs, l = x :: xs := by
    cases l with
    | nil => exact absurd rfl hl
    | cons x xs => exact ⟨x, xs, rfl⟩
  have hx : Bq x := hb x List.mem_cons_self
  have hm : ∀ i, Bq ((xs.take i).foldl (fun m x => if Kzq1.lt x m = true then x else m) x) := by
    intro i
    induction i with
    | zero => exact hx
    | succ i ih =>
      cases e : xs[i]? with
      | none => rw [List.take_add_one, e]; exact (List.append_nil (xs.take i)).symm ▸ ih
      | some q =>
        rw [foldl_take e]
        split
        · exact hb q (List.mem_cons_of_mem _ (List.mem_of_getElem? e))
        · exact ih
  refine s_seq (s_set (r := qR K x) (er_ixl (er_var rfl) er_c (atI_mapS (atI_ofNat (j := 0) rfl rfl)))) (s_seq (s_for (fl := .nx [.r (sR K ((x :: xs).map (qR K))), .r (qR K (xs.foldl (fun m x => if Kzq1.lt x m = true then x else m) x)), .no]) (ir_list (er_ls (er_eq (rb := lR (xs.map (qR K))) (er_slice (er_var rfl) (or_some er_c) or_no) ?_)))
    xs.length (fun i => [.r (sR K ((x :: xs).map (qR K))), .r (qR K ((xs.take i).foldl (fun m x => if Kzq1.lt x m = true then x else m) x)), .no]) (Le.refl _) ?_ ?_ (.inl ⟨?_, _, rfl, ?_⟩)) (s_ret (er_var rfl)))
  · exact congrArg lR (cutA_from _ 1)
  · rw [List.length_map]; exact Nat.le_refl _
  · intro i r hi hr
    obtain ⟨q, hq, rfl⟩ := get_map hr
    refine ⟨[2], _, g_name, s_if (tr_B (er_c2 (er_var rfl) (er_var rfl) ?_)) (fun c => s_le2 (s_set (er_var rfl)) ?_) (fun c => s_le2 s_next ?_)⟩
    · exact ⟨hb q (List.mem_cons_of_mem _ (List.mem_of_getElem? hq)), hm i⟩
    · rw [foldl_take hq, if_pos c]
      exact Le.no _ 2
    · rw [foldl_take hq, if_neg (by rw [c]; exact Bool.false_ne_true)]
      exact Le.no _ 2
  · rw [List.length_map]
  · rw [List.take_length]
    exact Le.refl _
abbrev s_greatest : Stmt := top 12
theorem sc_greatest : FnScope ["some", "found", "one"] ["some"] (defScope s_greatest) := ⟨rfl, rfl, rfl, by decide +kernel, rfl, by decide +kernel, by decide +kernel⟩
abbrev pre_greatest (K : PySem.W.Frag) : List Rp → Rp → Prop := p1 (fun l : List Kzq1.Q => l ≠ [] ∧ ∀ q ∈ l, Bq q) (fun l => sR K (l.map (qR K))) (qR K) greatQ
theorem ok_greatest (A : Fa K mg "greatest" s_greatest ["some"]) (T : Txt K mg CPiece CPart) (C_is_less : Cb P w K mg base "is_less" 42 ["one", "other"] (pre_is_less K)) : Cb P w K mg base "greatest" 43 ["some"] (pre_greatest K) := by
  obtain ⟨f, fd, F, hm, hb⟩ := A.ex
  have nd := sc_greatest.nd
  refine ⟨f, fd, fn_ok F sc_greatest (fun rs r h => p1_len h) (fun cdv A outer s H E hr => ⟨_, (pss_cons (ps_set (i := 1) nd rfl (by first | exact Or.inl rfl | exact Or.inr rfl) (pe_ix (ixL (K := K) rfl) (pv 0) pe_int (fun _ _ => rfl)))
      (pss_cons (ps_for PassesOwn.never rfl (pi_list (pe_slice (slL (K := K) rfl) (pv 0) (po_some pe_int) po_none)) (pg_name (i := 2) nd rfl (by first | exact Or.inl rfl | exact Or.inr rfl)) (pss_one (ps_if (pt_val (pe_cb C_is_less (hr.mono (by decide)) rfl (pa_cons (pv 1) (pa_cons (pv 2) pa_nil)))) (pss_one (ps_set (i := 1) nd rfl (by first | exact Or.inl rfl | exact Or.inr rfl) (pv 2))) pss_nil)))
      (pss_one (ps_ret (pv 1))))), fun rs r h => ?_⟩), hm, F.kp, hb⟩
  obtain ⟨l, ⟨hl, hb⟩, rfl, rfl⟩ := h
  obtain ⟨x, xs, rfl⟩ : ∃ x xs, l = x :: xs := by
    cases l with
    | nil => exact absurd rfl hl
    | cons x xs => exact ⟨x, xs, rfl⟩
  have hx : Bq x := hb x List.mem_cons_self
  have hm : ∀ i, Bq ((xs.take i).foldl (fun m x => if Kzq1.lt m x = true then x else m) x) := by
    intro i
    induction i with
    | zero => exact hx
    | succ i ih =>
      cases e : xs[i]? with
      | none => rw [List.take_add_one, e]; exact (List.append_nil (xs.take i)).symm ▸ ih
      | some q =>
        rw [foldl_take e]
        split
        · exact hb q (List.mem_cons_of_mem _ (List.mem_of_getElem? e))
        · exact ih
  refine s_seq (s_set (r := qR K x) (er_ixl (er_var rfl) er_c (atI_mapS (atI_ofNat (j := 0) rfl rfl)))) (s_seq (s_for (fl := .nx [.r (sR K ((x :: xs).map (qR K))), .r (qR K (xs.foldl (fun m x => if Kzq1.lt m x = true then x else m) x)), .no]) (ir_list (er_ls (er_eq (rb := lR (xs.map (qR K))) (er_slice (er_var rfl) (or_some er_c) or_no) ?_)))
    xs.length (fun i => [.r (sR K ((x :: xs).map (qR K))), .r (qR K ((xs.take i).foldl (fun m x => if Kzq1.lt m x = true then x else m) x)), .no]) (Le.refl _) ?_ ?_ (.inl ⟨?_, _, rfl, ?_⟩)) (s_ret (er_var rfl)))
  · exact congrArg lR (cutA_from _ 1)
  · rw [List.length_map]; exact Nat.le_refl _
  · intro i r hi hr
    obtain ⟨q, hq, rfl⟩ := get_map hr
    refine ⟨[2], _, g_name, s_if (tr_B (er_c2 (er_var rfl) (er_var rfl) ?_)) (fun c => s_le2 (s_set (er_var rfl)) ?_) (fun c => s_le2 s_next ?_)⟩
    · exact ⟨hm i, hb q (List.mem_cons_of_mem _ (List.mem_of_getElem? hq))⟩
    · rw [foldl_take hq, if_pos c]
      exact Le.no _ 2
    · rw [foldl_take hq, if_neg (by rw [c]; exact Bool.false_ne_true)]
      exact Le.no _ 2
  · rw [List.length_map]
  · rw [List.take_length]
    exact Le.refl _
abbrev s_is_told : Stmt := top 14
theorem sc_is_told : FnScope ["top", "bottom"] ["top", "bottom"] (defScope s_is_told) := ⟨rfl, rfl, rfl, by decide +kernel, rfl, by decide +kernel, by decide +kernel⟩
abbrev pre_is_told (K : PySem.W.Frag) : List Rp → Rp → Prop := p2 (fun (_ _ : Int) => True) iR iR bR told2
theorem ok_is_told (A : Fa K mg "is_told" s_is_told ["top", "bottom"]) (T : Txt K mg CPiece CPart) (C_common : Cb P w K mg base "common" 40 ["one", "other"] (pre_common K)) : Cb P w K mg base "is_told" 41 ["top", "bottom"] (pre_is_told K) := by
  obtain ⟨f, fd, F, hm, hb⟩ := A.ex
  have nd := sc_is_told.nd
  refine ⟨f, fd, fn_ok F sc_is_told (fun rs r h => p2_len h) (fun cdv A outer s H E hr => ⟨_, (pss_one (ps_ret (pe_and (pe_cmpR op_ge (pv 1) pe_int (nomark _)) (pe_one (pe_cmpR op_eq (pe_cb C_common (hr.mono (by decide)) rfl (pa_cons (pe_callB call_abs (by rfl) T.abs (by decide +kernel) (pa_cons (pv 0) pa_nil)) (pa_cons (pv 1) pa_nil))) pe_int (nomark _)))))), fun rs r h => ?_⟩), hm, F.kp, hb⟩
  obtain ⟨n, d, _, rfl, rfl⟩ := h
  refine s_ret (er_eq (er_and (er_ge (er_var rfl) er_c) (fun hb => (er_eqI (er_c2 (er_callB (ar_cons (er_var rfl) ar_nil) cr_abs) (er_var rfl) ?_) er_c))) ?_)
  · have hb : 1 ≤ d := of_decide_eq_true hb
    exact ⟨by split <;> omega, by omega⟩
  · have e1 : (if n < 0 then -n else n).toNat = n.natAbs := by split <;> omega
    rw [e1]
    rfl
abbrev s_between : Stmt := top 16
theorem sc_between : FnScope ["one", "other"] ["one", "other"] (defScope s_between) := ⟨rfl, rfl, rfl, by decide +kernel, rfl, by decide +kernel, by decide +kernel⟩
abbrev pre_between (K : PySem.W.Frag) : List Rp → Rp → Prop := p2 (fun a b => Bp a ∧ Bp b) (pR K) (pR K) (pR K) (fun a b => Kzq1.less b a)
theorem ok_between (A : Fa K mg "between" s_between ["one", "other"]) (T : Txt K mg CPiece CPart) (C_minus : Cb P w K mg base "minus" 42 ["one", "other"] (pre_minus K)) : Cb P w K mg base "between" 43 ["one", "other"] (pre_between K) := by
  obtain ⟨f, fd, F, hm, hb⟩ := A.ex
  have nd := sc_between.nd
  refine ⟨f, fd, fn_ok F sc_between (fun rs r h => p2_len h) (fun cdv A outer s H E hr => ⟨_, (pss_one (ps_ret (pe_tup (pa_cons (pe_cb C_minus (hr.mono (by decide)) rfl (pa_cons (pe_ix (ixT (K := K) rfl) (pv 1) pe_int (fun _ _ => rfl)) (pa_cons (pe_ix (ixT (K := K) rfl) (pv 0) pe_int (fun _ _ => rfl)) pa_nil))) (pa_cons (pe_cb C_minus (hr.mono (by decide)) rfl (pa_cons (pe_ix (ixT (K := K) rfl) (pv 1) pe_int (fun _ _ => rfl)) (pa_cons (pe_ix (ixT (K := K) rfl) (pv 0) pe_int (fun _ _ => rfl)) pa_nil))) pa_nil))))), fun rs r h => ?_⟩), hm, F.kp, hb⟩
  obtain ⟨a, b, ⟨ha, hb⟩, rfl, rfl⟩ := h
  refine s_ret (er_tup (K := K) (ar_cons (er_c2 (er_p0 (er_var rfl)) (er_p0 (er_var rfl)) ?_) (ar_cons (er_c2 (er_p1 (er_var rfl)) (er_p1 (er_var rfl)) ?_) ar_nil)))
  · exact ⟨hb.x, ha.x⟩
  · exact ⟨hb.y, ha.y⟩
abbrev s_crossed : Stmt := top 19
theorem sc_crossed : FnScope ["one", "other"] ["one", "other"] (defScope s_crossed) := ⟨rfl, rfl, rfl, by decide +kernel, rfl, by decide +kernel, by decide +kernel⟩
abbrev pre_crossed (K : PySem.W.Frag) : List Rp → Rp → Prop := p2 (fun a b => Fp 16000000 a ∧ Fp 16000000 b) (pR K) (pR K) (qR K) Kzq1.cross
theorem ok_crossed (A : Fa K mg "crossed" s_crossed ["one", "other"]) (T : Txt K mg CPiece CPart) (C_minus : Cb P w K mg base "minus" 42 ["one", "other"] (pre_minus K)) (C_times : Cb P w K mg base "times" 42 ["one", "other"] (pre_times K)) : Cb P w K mg base "crossed" 43 ["one", "other"] (pre_crossed K) := by
  obtain ⟨f, fd, F, hm, hb⟩ := A.ex
  have nd := sc_crossed.nd
  refine ⟨f, fd, fn_ok F sc_crossed (fun rs r h => p2_len h) (fun cdv A outer s H E hr => ⟨_, (pss_one (ps_ret (pe_cb C_minus (hr.mono (by decide)) rfl (pa_cons (pe_cb C_times (hr.mono (by decide)) rfl (pa_cons (pe_ix (ixT (K := K) rfl) (pv 0) pe_int (fun _ _ => rfl)) (pa_cons (pe_ix (ixT (K := K) rfl) (pv 1) pe_int (fun _ _ => rfl)) pa_nil))) (pa_cons (pe_cb C_times (hr.mono (by decide)) rfl (pa_cons (pe_ix (ixT (K := K) rfl) (pv 0) pe_int (fun _ _ => rfl)) (pa_cons (pe_ix (ixT (K := K) rfl) (pv 1) pe_int (fun _ _ => rfl)) pa_nil))) pa_nil))))), fun rs r h => ?_⟩), hm, F.kp, hb⟩
  obtain ⟨a, b, ⟨ha, hb⟩, rfl, rfl⟩ := h
  refine s_ret (er_c2 (er_c2 (er_p0 (er_var rfl)) (er_p1 (er_var rfl)) ?_) (er_c2 (er_p1 (er_var rfl)) (er_p0 (er_var rfl)) ?_) ?_)
  · exact ⟨ha.x.b (by decide), hb.y.b (by decide)⟩
  · exact ⟨ha.y.b (by decide), hb.x.b (by decide)⟩
  · exact ⟨(ha.x.mul hb.y).b (by decide), (ha.y.mul hb.x).b (by decide)⟩
abbrev s_turning : Stmt := top 20
theorem sc_turning : FnScope ["a", "b", "c"] ["a", "b", "c"] (defScope s_turning) := ⟨rfl, rfl, rfl, by decide +kernel, rfl, by decide +kernel, by decide +kernel⟩
abbrev pre_turning (K : PySem.W.Frag) : List Rp → Rp → Prop := p3 (fun a b c => Fp 7000000 a ∧ Fp 7000000 b ∧ Fp 7000000 c) (pR K) (pR K) (pR K) (qR K) Kzq1.turn
theorem ok_turning (A : Fa K mg "turning" s_turning ["a", "b", "c"]) (T : Txt K mg CPiece CPart) (C_crossed : Cb P w K mg base "crossed" 43 ["one", "other"] (pre_crossed K)) (C_between : Cb P w K mg base "between" 43 ["one", "other"] (pre_between K)) : Cb P w K mg base "turning" 44 ["a", "b", "c"] (pre_turning K) := by
  obtain ⟨f, fd, F, hm, hb⟩ := A.ex
  have nd := sc_turning.nd
  refine ⟨f, fd, fn_ok F sc_turning (fun rs r h => p3_len h) (fun cdv A outer s H E hr => ⟨_, (pss_one (ps_ret (pe_cb C_crossed (hr.mono (by decide)) rfl (pa_cons (pe_cb C_between (hr.mono (by decide)) rfl (pa_cons (pv 0) (pa_cons (pv 1) pa_nil))) (pa_cons (pe_cb C_between (hr.mono (by decide)) rfl (pa_cons (pv 0) (pa_cons (pv 2) pa_nil))) pa_nil))))), fun rs r h => ?_⟩), hm, F.kp, hb⟩
  obtain ⟨a, b, c, ⟨ha, hb, hc⟩, rfl, rfl⟩ := h
  refine s_ret (er_c2 (er_c2 (er_var rfl) (er_var rfl) ?_) (er_c2 (er_var rfl) (er_var rfl) ?_) ?_)
  · exact ⟨ha.b (by decide), hb.b (by decide)⟩
  · exact ⟨ha.b (by decide), hc.b (by decide)⟩
  · exact ⟨(hb.less ha).mono (by decide), (hc.less ha).mono (by decide)⟩
abbrev s_Piece_init : Stmt := inClass (top 21) 0
theorem sc_Piece_init : FnScope ["self", "corners", "rights", "heights", "x", "y"] ["self", "corners"] (defScope s_Piece_init) := ⟨rfl, rfl, rfl, by decide +kernel, rfl, by decide +kernel, by decide +kernel⟩
abbrev pre_Piece_init (K : PySem.W.Frag) : List Rp → List (Str × Rp) → Prop := fun rs fs => ∃ l : List Kzq1.P, l ≠ [] ∧ BL LIM l ∧ l.length ≤ 40000 ∧ rs = [lR (l.map (pR K))] ∧ fs = pcF K l
theorem ok_Piece_init (A : Fm K CPiece "__init__" "Piece.__init__" s_Piece_init ["self", "corners"]) (hk : PySem.W.makesIn K CPiece = true ∧ PySem.W.keepIn K (.ref CPiece) = true ∧ mg "Piece" = some (.ref CPiece)) (T : Txt K mg CPiece CPart) (C_least : Cb P w K mg base "least" 43 ["some"] (pre_least K)) (C_greatest : Cb P w K mg base "greatest" 43 ["some"] (pre_greatest K)) : Ci P w K mg base "Piece" CPiece 44 ["self", "corners"] (pre_Piece_init K) := by
  obtain ⟨f, fd, F, hm, hfn, hb⟩ := A.ex
  have nd := sc_Piece_init.nd
  refine ⟨f, fd, ⟨hk.1, hm, hfn, hk.2.1⟩, fn_okI F sc_Piece_init (fun rs fs h => ?_) (fun cdv A outer s H E hr => ⟨_, (pss_cons (ps_fld (pv 0) (pv 1) rfl)
      (pss_cons (ps_par (i := 2) (j := 3) rfl nd rfl rfl (by decide) rfl rfl (pa_cons (pe_lc (own := [("x", 4), ("y", 5)]) (g := (gTup K 2 (gCons (gName 4) (gCons (gName 5) gNil)))) (tt := tYes) rfl nd (pi_list (pv 1)) (blkOk_by (own := [("x", 4), ("y", 5)]) (N := ["self", "corners", "rights", "heights", "x", "y"]) (sc := defScope s_Piece_init) (by decide +kernel)) (fun _ _ _ _ _ => (pg_tup rfl (pgs_cons (pg_name (i := 4) nd rfl (by first | exact Or.inl rfl | exact Or.inr rfl)) (pgs_cons (pg_name (i := 5) nd rfl (by first | exact Or.inl rfl | exact Or.inr rfl)) pgs_nil)))) (fun _ _ _ _ _ => pts_nil) (fun _ _ _ _ _ => (pv 4))) (pa_cons (pe_lc (own := [("x", 4), ("y", 5)]) (g := (gTup K 2 (gCons (gName 4) (gCons (gName 5) gNil)))) (tt := tYes) rfl nd (pi_list (pv 1)) (blkOk_by (own := [("x", 4), ("y", 5)]) (N := ["self", "corners", "rights", "heights", "x", "y"]) (sc := defScope s_Piece_init) (by decide +kernel)) (fun _ _ _ _ _ => (pg_tup rfl (pgs_cons (pg_name (i := 4) nd rfl (by first | exact Or.inl rfl | exact Or.inr rfl)) (pgs_cons (pg_name (i := 5) nd rfl (by first | exact Or.inl rfl | exact Or.inr rfl)) pgs_nil)))) (fun _ _ _ _ _ => pts_nil) (fun _ _ _ _ _ => (pv 5))) pa_nil)) (by rfl))
      (pss_one (ps_fld (pv 0) (pe_tup (pa_cons (pe_cb C_least (hr.mono (by decide)) rfl (pa_cons (pv 2) pa_nil)) (pa_cons (pe_cb C_greatest (hr.mono (by decide)) rfl (pa_cons (pv 2) pa_nil)) (pa_cons (pe_cb C_least (hr.mono (by decide)) rfl (pa_cons (pv 3) pa_nil)) (pa_cons (pe_cb C_greatest (hr.mono (by decide)) rfl (pa_cons (pv 3) pa_nil)) pa_nil))))) rfl)))), fun a rs fs h => ?_⟩), hk.2.2, hb⟩
  · obtain ⟨l, _, _, _, rfl, _⟩ := h
    rfl
  · obtain ⟨l, hl, hb, hz, rfl, rfl⟩ := h
    have hx : l.map Kzq1.P.x ≠ [] ∧ ∀ q ∈ l.map Kzq1.P.x, Bq q := ⟨fun z => hl (List.map_eq_nil_iff.mp z), fun q hq => by
      obtain ⟨z, hz, rfl⟩ := List.mem_map.mp hq
      exact (hb z hz).x⟩
    have hy : l.map Kzq1.P.y ≠ [] ∧ ∀ q ∈ l.map Kzq1.P.y, Bq q := ⟨fun z => hl (List.map_eq_nil_iff.mp z), fun q hq => by
      obtain ⟨z, hz, rfl⟩ := List.mem_map.mp hq
      exact (hb z hz).y⟩
    refine ⟨[.w (.i a CPiece (pcF K l)), .r (lR (l.map (pR K))), .r (lR ((l.map Kzq1.P.x).map (qR K))), .r (lR ((l.map Kzq1.P.y).map (qR K))), .no, .no], rfl, ?_⟩
    show S _ [.w (.i a CPiece []), .r (lR (l.map (pR K))), .no, .no, .no, .no] _
    refine s_seq (s_fldO (i := 0) rfl T.cl_Piece T.n_corners rfl (by decide) (er_var rfl)) (s_seq (s_par (r1 := lR ((l.map Kzq1.P.x).map (qR K))) (r2 := lR ((l.map Kzq1.P.y).map (qR K))) (ar_cons ?_ (ar_cons ?_ ar_nil))) (s_fldO (i := 0) (fs := [(("corners" : Str), lR (l.map (pR K)))]) (r := tR K ((box l).map (qR K))) rfl T.cl_Piece T.n_bounds rfl (by decide : 1 < 900) ?_))
    · rw [List.map_map]
      exact er_mapL (ra := pR K) (ir_list (er_ls (er_var rfl))) (by omega) fun i z hi => ⟨_, _, g_two, fun _ h => h, er_var rfl⟩
    · rw [List.map_map]
      exact er_mapL (ra := pR K) (ir_list (er_ls (er_var rfl))) (by omega) fun i z hi => ⟨_, _, g_two, fun _ h => h, er_var rfl⟩
    · refine er_eq (er_tup (K := K) (ar_cons (er_c1 (er_ls (er_var rfl)) ?_) (ar_cons (er_c1 (er_ls (er_var rfl)) ?_) (ar_cons (er_c1 (er_ls (er_var rfl)) ?_) (ar_cons (er_c1 (er_ls (er_var rfl)) ?_) ar_nil))))) rfl
      · exact hx
      · exact hx
      · exact hy
      · exact hy
abbrev s_is_ahead : Stmt := top 22
theorem sc_is_ahead : FnScope ["one", "other"] ["one", "other"] (defScope s_is_ahead) := ⟨rfl, rfl, rfl, by decide +kernel, rfl, by decide +kernel, by decide +kernel⟩
abbrev pre_is_ahead (K : PySem.W.Frag) : List Rp → Rp → Prop := p2 (fun a b => Bp a ∧ Bp b) (pR K) (pR K) bR Kzq1.before
theorem ok_is_ahead (A : Fa K mg "is_ahead" s_is_ahead ["one", "other"]) (T : Txt K mg CPiece CPart) (C_is_less : Cb P w K mg base "is_less" 42 ["one", "other"] (pre_is_less K)) : Cb P w K mg base "is_ahead" 43 ["one", "other"] (pre_is_ahead K) := by
  obtain ⟨f, fd, F, hm, hb⟩ := A.ex
  have nd := sc_is_ahead.nd
  refine ⟨f, fd, fn_ok F sc_is_ahead (fun rs r h => p2_len h) (fun cdv A outer s H E hr => ⟨_, (pss_one (ps_ret (pe_or (pe_cb C_is_less (hr.mono (by decide)) rfl (pa_cons (pe_ix (ixT (K := K) rfl) (pv 0) pe_int (fun _ _ => rfl)) (pa_cons (pe_ix (ixT (K := K) rfl) (pv 1) pe_int (fun _ _ => rfl)) pa_nil))) (pe_one (pe_and (pe_cmpR (opEqD (K := K) hr.units rfl) (pe_ix (ixT (K := K) rfl) (pv 0) pe_int (fun _ _ => rfl)) (pe_ix (ixT (K := K) rfl) (pv 1) pe_int (fun _ _ => rfl)) (nomark _)) (pe_one (pe_cb C_is_less (hr.mono (by decide)) rfl (pa_cons (pe_ix (ixT (K := K) rfl) (pv 0) pe_int (fun _ _ => rfl)) (pa_cons (pe_ix (ixT (K := K) rfl) (pv 1) pe_int (fun _ _ => rfl)) pa_nil))))))))), fun rs r h => ?_⟩), hm, F.kp, hb⟩
  obtain ⟨a, b, ⟨ha, hb⟩, rfl, rfl⟩ := h
  refine s_ret (er_eq (er_or (er_c2 (er_p0 (er_var rfl)) (er_p0 (er_var rfl)) ?_) (fun _ => er_and (er_eqQ (er_p0 (er_var rfl)) (er_p0 (er_var rfl))) (fun _ => (er_c2 (er_p1 (er_var rfl)) (er_p1 (er_var rfl)) ?_)))) ?_)
  · exact ⟨ha.x, hb.x⟩
  · exact ⟨ha.y, hb.y⟩
  · rfl
abbrev s_from_leftmost : Stmt := top 23
theorem sc_from_leftmost : FnScope ["corners", "at", "k", "corner"] ["corners"] (defScope s_from_leftmost) := ⟨rfl, rfl, rfl, by decide +kernel, rfl, by decide +kernel, by decide +kernel⟩
abbrev pre_from_leftmost (K : PySem.W.Frag) : List Rp → Rp → Prop := p1 (fun l : List Kzq1.P => l ≠ [] ∧ BL LIM l ∧ l.length ≤ 40000) (fun l => sR K (l.map (pR K))) (fun l => lR (l.map (pR K))) Kzq1.begunWith
theorem ok_from_leftmost (A : Fa K mg "from_leftmost" s_from_leftmost ["corners"]) (T : Txt K mg CPiece CPart) (C_is_ahead : Cb P w K mg base "is_ahead" 43 ["one", "other"] (pre_is_ahead K)) : Cb P w K mg base "from_leftmost" 44 ["corners"] (pre_from_leftmost K) := by
  obtain ⟨f, fd, F, hm, hb⟩ := A.ex
  have nd := sc_from_leftmost.nd
  refine ⟨f, fd, fn_ok F sc_from_leftmost (fun rs r h => p1_len h) (fun cdv A outer s H E hr => ⟨_, (pss_cons (ps_set (i := 1) nd rfl (by first | exact Or.inl rfl | exact Or.inr rfl) pe_int)
      (pss_cons (ps_for PassesOwn.never rfl (pi_enum (by rfl) T.enumerate (pa_cons (pv 0) pa_nil)) (pg_tup rfl (pgs_cons (pg_name (i := 2) nd rfl (by first | exact Or.inl rfl | exact Or.inr rfl)) (pgs_cons (pg_name (i := 3) nd rfl (by first | exact Or.inl rfl | exact Or.inr rfl)) pgs_nil))) (pss_one (ps_if (pt_val (pe_cb C_is_ahead (hr.mono (by decide)) rfl (pa_cons (pv 3) (pa_cons (pe_ix (ixL (K := K) rfl) (pv 0) (pv 1) (fun _ _ => rfl)) pa_nil)))) (pss_one (ps_set (i := 1) nd rfl (by first | exact Or.inl rfl | exact Or.inr rfl) (pv 2))) pss_nil)))
      (pss_one (ps_ret (pe_op op_cat (pe_slice (slL (K := K) rfl) (pv 0) (po_some (pv 1)) po_none) (pe_slice (slL (K := K) rfl) (pv 0) po_none (po_some (pv 1)))))))), fun rs r h => ?_⟩), hm, F.kp, hb⟩
  obtain ⟨l, ⟨hl, hb, hz⟩, rfl, rfl⟩ := h
  have h0 : 0 < l.length := by
    cases l with
    | nil => exact absurd rfl hl
    | cons x xs => exact Nat.succ_pos _
  refine s_seq (s_set er_c) (s_seq (s_for (fl := .nx [.r (sR K (l.map (pR K))), .r (iR (bestI l l.length : Nat)), .no, .no]) (ir_enum (ar_cons (er_var rfl) ar_nil)) l.length (fun i => [.r (sR K (l.map (pR K))), .r (iR (bestI l i : Nat)), .no, .no]) (Le.refl _) ?_ ?_ (.inl ⟨?_, _, rfl, Le.refl _⟩)) (s_ret (er_eq (er_op (er_slice (er_var rfl) (or_some (er_var rfl)) or_no) (er_slice (er_var rfl) or_no (or_some (er_var rfl))) (br_cat ?_)) ?_)))
  · rw [enR_len, List.length_map]; exact Nat.le_refl _
  · intro i r hi hr
    obtain ⟨x, hx, rfl⟩ := enR_get hr
    obtain ⟨z, hz, rfl⟩ := get_map hx
    obtain rfl := at0_of hz
    have hbi := bestI_lt l h0 i (by omega)
    have hbg : l[bestI l i]? = some (Kzq1.at0 l (bestI l i)) := by
      have := at0_get (l := l) (i := bestI l i) h0
      rw [Nat.mod_eq_of_lt hbi] at this
      exact this
    refine ⟨_, _, g_two, s_if (b := Kzq1.before (Kzq1.at0 l i) (Kzq1.at0 l (bestI l i))) (tr_B (er_c2 (er_var rfl) (er_ixl (er_var rfl) (er_var rfl) ?_) ?_)) (fun c => s_le2 (s_set (er_var rfl)) ?_) (fun c => s_le2 s_next ?_)⟩
    · exact atI_mapS (atI_ofNat rfl hbg)
    · exact ⟨hb _ (at0_mem h0), hb _ (at0_mem h0)⟩
    · rw [bestI_succ, if_pos c]
      exact (Le.no _ 2).trans (Le.no _ 3)
    · rw [bestI_succ, if_neg (by rw [c]; exact Bool.false_ne_true)]
      exact (Le.no _ 2).trans (Le.no _ 3)
  · rw [enR_len, List.length_map]
  · rw [cutA_from, cutA_to, List.length_drop, List.length_take, List.length_map]
    have := bestI_lt l h0 l.length (Nat.le_refl _)
    omega
  · rw [cutA_from, cutA_to, ← List.map_drop, ← List.map_take, ← List.map_append]
    rfl
abbrev s_sides_of : Stmt := top 27
theorem sc_sides_of : FnScope ["corners", "k", "corner"] ["corners"] (defScope s_sides_of) := ⟨rfl, rfl, rfl, by decide +kernel, rfl, by decide +kernel, by decide +kernel⟩
abbrev pre_sides_of (K : PySem.W.Frag) : List Rp → Rp → Prop := p1 (fun l : List Kzq1.P => l.length ≤ 40000) (fun l => sR K (l.map (pR K))) (fun s => lR (s.map (gR K))) Kzq1.sides
theorem ok_sides_of (A : Fa K mg "sides_of" s_sides_of ["corners"]) (T : Txt K mg CPiece CPart) : Cb P w K mg base "sides_of" 1 ["corners"] (pre_sides_of K) := by
  obtain ⟨f, fd, F, hm, hb⟩ := A.ex
  have nd := sc_sides_of.nd
  refine ⟨f, fd, fn_ok F sc_sides_of (fun rs r h => p1_len h) (fun cdv A outer s H E hr => ⟨_, (pss_one (ps_ret (pe_lc (own := [("k", 1), ("corner", 2)]) (g := (gTup K 2 (gCons (gName 1) (gCons (gName 2) gNil)))) (tt := tYes) rfl nd (pi_enum (by rfl) T.enumerate (pa_cons (pv 0) pa_nil)) (blkOk_by (own := [("k", 1), ("corner", 2)]) (N := ["corners", "k", "corner"]) (sc := defScope s_sides_of) (by decide +kernel)) (fun _ _ _ _ _ => (pg_tup rfl (pgs_cons (pg_name (i := 1) nd rfl (by first | exact Or.inl rfl | exact Or.inr rfl)) (pgs_cons (pg_name (i := 2) nd rfl (by first | exact Or.inl rfl | exact Or.inr rfl)) pgs_nil)))) (fun _ _ _ _ _ => pts_nil) (fun _ _ _ _ _ => (pe_tup (pa_cons (pv 2) (pa_cons (pe_ix (ixL (K := K) rfl) (pv 0) (pe_op op_mod (pe_op op_add (pv 1) pe_int) (pe_callB (cLen (K := K) rfl) (by rfl) T.len PySem.boot_len (pa_cons (pv 0) pa_nil))) (fun _ _ => rfl)) pa_nil))))))), fun rs r h => ?_⟩), hm, F.kp, hb⟩
  obtain ⟨l, hz, rfl, rfl⟩ := h
  have hz : l.length ≤ 40000 := hz
  refine s_ret (er_eq (er_map (ir_enum (ar_cons (er_var rfl) ar_nil)) (fun i => gR K (Kzq1.at0 l i, Kzq1.at0 l (i + 1))) (by rw [enR_len, List.length_map]; omega) ?_) ?_)
  · intro i r hr
    obtain ⟨x, hx, rfl⟩ := enR_get hr
    obtain ⟨z, hz, rfl⟩ := get_map hx
    obtain rfl := at0_of hz
    have hi : i < l.length := (List.getElem?_eq_some_iff.mp hz).1
    refine ⟨_, _, g_two, fun _ h => h, ?_⟩
    refine er_tup (K := K) (rs := [pR K (Kzq1.at0 l i), pR K (Kzq1.at0 l (i + 1))]) (ar_cons (er_var rfl) (ar_cons (er_ixl (er_var rfl) (er_mod (er_add (er_var rfl) er_c) (er_len (er_var rfl)) ?_) ?_) ar_nil))
    · rw [List.length_map]; omega
    · rw [List.length_map]
      exact atI_mapS (atI_next (by omega))
  · rw [enR_len, List.length_map]
    show _ = lR ((Kzq1.sides l).map (gR K))
    unfold Kzq1.sides
    rw [List.map_map]
    rfl
abbrev s_is_strict : Stmt := top 30
theorem sc_is_strict : FnScope ["corners", "one", "other", "left", "corner"] ["corners"] (defScope s_is_strict) := ⟨rfl, rfl, rfl, by decide +kernel, rfl, by decide +kernel, by decide +kernel⟩
abbrev pre_is_strict (K : PySem.W.Frag) : List Rp → Rp → Prop := p1 (fun l : List Kzq1.P => BL 7000000 l ∧ l.length ≤ 40000) (fun l => sR K (l.map (pR K))) bR strictB
theorem ok_is_strict (A : Fa K mg "is_strict" s_is_strict ["corners"]) (T : Txt K mg CPiece CPart) (C_sides_of : Cb P w K mg base "sides_of" 1 ["corners"] (pre_sides_of K)) (C_turning : Cb P w K mg base "turning" 44 ["a", "b", "c"] (pre_turning K)) : Cb P w K mg base "is_strict" 45 ["corners"] (pre_is_strict K) := by
  obtain ⟨f, fd, F, hm, hb⟩ := A.ex
  have nd := sc_is_strict.nd
  refine ⟨f, fd, fn_ok F sc_is_strict (fun rs r h => p1_len h) (fun cdv A outer s H E hr => ⟨_, (pss_cons (ps_for PassesOwn.never rfl (pi_list (pe_cb C_sides_of (hr.mono (by decide)) rfl (pa_cons (pv 0) pa_nil))) (pg_tup rfl (pgs_cons (pg_name (i := 1) nd rfl (by first | exact Or.inl rfl | exact Or.inr rfl)) (pgs_cons (pg_name (i := 2) nd rfl (by first | exact Or.inl rfl | exact Or.inr rfl)) pgs_nil))) (pss_cons (ps_setLc (i := 3) (own := [("corner", 4)]) (g := (gName 4)) rfl nd rfl rfl (sw_true rfl rfl rfl (by decide +kernel)) (pi_list (pv 0)) (blkOk_by (own := [("corner", 4)]) (N := ["corners", "one", "other", "left", "corner"]) (sc := defScope s_is_strict) (by decide +kernel)) (fun _ _ _ _ _ => (pg_name (i := 4) nd rfl (by first | exact Or.inl rfl | exact Or.inr rfl))) (fun _ _ _ _ _ => (pts_one (pt_cmpR op_gt (pe_ix (ixT (K := K) rfl) (pe_cb C_turning (hr.mono (by decide)) rfl (pa_cons (pv 1) (pa_cons (pv 2) (pa_cons (pv 4) pa_nil)))) pe_int (fun _ _ => rfl)) pe_int (nomark _)))) (fun _ _ _ _ _ => (pv 4)))
      (pss_one (ps_if (pt_cmpR op_ne (pe_callB (cLen (K := K) rfl) (by rfl) T.len PySem.boot_len (pa_cons (pv 3) pa_nil)) (pe_op op_sub (pe_callB (cLen (K := K) rfl) (by rfl) T.len PySem.boot_len (pa_cons (pv 0) pa_nil)) pe_int) (nomark _)) (pss_one (ps_ret pe_bl)) pss_nil))))
      (pss_one (ps_ret pe_bl))), fun rs r h => ?_⟩), hm, F.kp, hb⟩
  obtain ⟨l, ⟨hb, hz⟩, rfl, rfl⟩ := h
  have hsz : (Kzq1.sides l).length = l.length := by unfold Kzq1.sides; simp
  have hs : ∀ s ∈ Kzq1.sides l, Fp 7000000 s.1 ∧ Fp 7000000 s.2 := by
    intro s hm
    unfold Kzq1.sides at hm
    obtain ⟨i, hi, rfl⟩ := List.mem_map.mp hm
    have hi : i < l.length := by simpa using hi
    exact ⟨hb _ (at0_mem (by omega)), hb _ (at0_mem (by omega))⟩
  have vt : ∀ s, decide ((((leftOf l s).map (pR K)).length : Int) = ((l.map (pR K)).length : Int) - 2) = decide (((leftOf l s).length : Int) = (l.length : Int) - 2) := fun s => by rw [List.length_map, List.length_map]
  cases hc : strictB l with
  | true =>
    have ha : ∀ s ∈ Kzq1.sides l, decide (((leftOf l s).length : Int) = (l.length : Int) - 2) = true := List.all_eq_true.mp hc
    refine s_seq (s_for (fl := .nx [.r (sR K (l.map (pR K))), .no, .no, .no, .no]) (ir_list (er_ls (er_c1 (er_var rfl) ?_))) (Kzq1.sides l).length (fun i => [.r (sR K (l.map (pR K))), .no, .no, .no, .no]) (Le.refl _) ?_ ?_ (.inl ⟨?_, _, rfl, Le.refl _⟩)) (s_ret er_c)
    · exact hz
    · rw [List.length_map]; exact Nat.le_refl _
    · intro i r hi hr
      obtain ⟨s, hs', rfl⟩ := get_map hr
      have hm := List.mem_of_getElem? hs'
      obtain ⟨h1, h2⟩ := hs s hm
      refine ⟨_, _, g_two, s_seq (s_set (er_filtL (fun c => Kzq1.pos (Kzq1.turn s.1 s.2 c)) (ra := pR K) (rc := pR K) (ir_list (er_var rfl)) (by omega) fun j z hj => ⟨_, _, g_name, fun _ h => h, ?_, fun _ => er_var rfl⟩)) (s_ifF (tr_eq (tr_test (er_neI (er_len (er_ls (er_var rfl))) (er_sub (er_len (er_var rfl)) er_c))) ?_) (s_le2 s_next ?_))⟩
      · refine tr_eq (tr_test (er_gt (er_q0 (er_c3 (er_var rfl) (er_var rfl) (er_var rfl) ?_)) er_c)) rfl
        exact ⟨h1, h2, hb z (List.mem_of_getElem? hj)⟩
      · show (!decide ((((leftOf l s).map (pR K)).length : Int) = ((l.map (pR K)).length : Int) - 2)) = false
        rw [vt, ha s hm]
        rfl
      · exact ((Le.no _ 1).trans (Le.no _ 2)).trans (Le.no _ 3)
    · rw [List.length_map]
  | false =>
    obtain ⟨n, s, hs', hf, hg⟩ := first_bad hc
    have hm := List.mem_of_getElem? hs'
    obtain ⟨h1, h2⟩ := hs s hm
    refine s_seqR (s_for (fl := .rt (bR false)) (ir_list (er_ls (er_c1 (er_var rfl) ?_))) n (fun i => [.r (sR K (l.map (pR K))), .no, .no, .no, .no]) (Le.refl _) ?_ ?_ (.inr ⟨gR K s, bR false, _, _, ?_, rfl, g_two, ?_⟩))
    · exact hz
    · rw [List.length_map]; exact Nat.le_of_lt (List.getElem?_eq_some_iff.mp hs').1
    · intro i r hi hr
      obtain ⟨s, hs', rfl⟩ := get_map hr
      have hm := List.mem_of_getElem? hs'
      obtain ⟨h1, h2⟩ := hs s hm
      refine ⟨_, _, g_two, s_seq (s_set (er_filtL (fun c => Kzq1.pos (Kzq1.turn s.1 s.2 c)) (ra := pR K) (rc := pR K) (ir_list (er_var rfl)) (by omega) fun j z hj => ⟨_, _, g_name, fun _ h => h, ?_, fun _ => er_var rfl⟩)) (s_ifF (tr_eq (tr_test (er_neI (er_len (er_ls (er_var rfl))) (er_sub (er_len (er_var rfl)) er_c))) ?_) (s_le2 s_next ?_))⟩
      · refine tr_eq (tr_test (er_gt (er_q0 (er_c3 (er_var rfl) (er_var rfl) (er_var rfl) ?_)) er_c)) rfl
        exact ⟨h1, h2, hb z (List.mem_of_getElem? hj)⟩
      · show (!decide ((((leftOf l s).map (pR K)).length : Int) = ((l.map (pR K)).length : Int) - 2)) = false
        rw [vt, hg i s hi hs']
        rfl
      · exact ((Le.no _ 1).trans (Le.no _ 2)).trans (Le.no _ 3)
    · rw [List.getElem?_map, hs']; rfl
    · refine s_seq (s_set (er_filtL (fun c => Kzq1.pos (Kzq1.turn s.1 s.2 c)) (ra := pR K) (rc := pR K) (ir_list (er_var rfl)) (by omega) fun j z hj => ⟨_, _, g_name, fun _ h => h, ?_, fun _ => er_var rfl⟩)) (s_ifT (tr_eq (tr_test (er_neI (er_len (er_ls (er_var rfl))) (er_sub (er_len (er_var rfl)) er_c))) ?_) (s_ret er_c))
      · refine tr_eq (tr_test (er_gt (er_q0 (er_c3 (er_var rfl) (er_var rfl) (er_var rfl) ?_)) er_c)) rfl
        exact ⟨h1, h2, hb z (List.mem_of_getElem? hj)⟩
      · show (!decide ((((leftOf l s).map (pR K)).length : Int) = ((l.map (pR K)).length : Int) - 2)) = true
        rw [vt, hf]
        rfl
abbrev s_Part_init : Stmt := inClass (top 59) 0
theorem sc_Part_init : FnScope ["self", "piece", "move"] ["self", "piece", "move"] (defScope s_Part_init) := ⟨rfl, rfl, rfl, by decide +kernel, rfl, by decide +kernel, by decide +kernel⟩
abbrev pre_Part_init (K : PySem.W.Frag) : List Rp → List (Str × Rp) → Prop := fun rs fs => ∃ r1 r2 : Rp, rs = [r1, r2] ∧ fs = [(("piece" : Str), r1), (("move" : Str), r2)]
theorem ok_Part_init (A : Fm K CPart "__init__" "Part.__init__" s_Part_init ["self", "piece", "move"]) (hk : PySem.W.makesIn K CPart = true ∧ PySem.W.keepIn K (.ref CPart) = true ∧ mg "Part" = some (.ref CPart)) (T : Txt K mg CPiece CPart) : Ci P w K mg base "Part" CPart 1 ["self", "piece", "move"] (pre_Part_init K) := by
  obtain ⟨f, fd, F, hm, hfn, hb⟩ := A.ex
  have nd := sc_Part_init.nd
  refine ⟨f, fd, ⟨hk.1, hm, hfn, hk.2.1⟩, fn_okI F sc_Part_init (fun rs fs h => ?_) (fun cdv A outer s H E hr => ⟨_, (pss_cons (ps_fld (pv 0) (pv 1) rfl)
      (pss_one (ps_fld (pv 0) (pv 2) rfl))), fun a rs fs h => ?_⟩), hk.2.2, hb⟩
  · obtain ⟨r1, r2, rfl, _⟩ := h
    rfl
  · obtain ⟨r1, r2, rfl, rfl⟩ := h
    refine ⟨[.w (.i a CPart [(("piece" : Str), r1), (("move" : Str), r2)]), .r r1, .r r2], rfl, ?_⟩
    show S _ [.w (.i a CPart []), .r r1, .r r2] _
    exact s_seq (s_fldO (i := 0) rfl T.cl_Part T.n_piece rfl (by decide) (er_var rfl)) (s_fldO (i := 0) (fs := [(("piece" : Str), r1)]) rfl T.cl_Part T.n_move rfl (by decide : 1 < 900) (er_var rfl))
abbrev s_fractions_in : Stmt := top 71
theorem sc_fractions_in : FnScope ["numbers", "pairs", "k", "top", "bottom"] ["numbers"] (defScope s_fractions_in) := ⟨rfl, rfl, rfl, by decide +kernel, rfl, by decide +kernel, by decide +kernel⟩
abbrev pre_fractions_in (K : PySem.W.Frag) : List Rp → Rp → Prop := p1 (fun ns : List Int => ns.length ≤ 40000) (fun ns => sR K (ns.map iR)) (opR (fun qs => lR (qs.map (qR K)))) fracs
theorem ok_fractions_in (A : Fa K mg "fractions_in" s_fractions_in ["numbers"]) (T : Txt K mg CPiece CPart) (C_is_told : Cb P w K mg base "is_told" 41 ["top", "bottom"] (pre_is_told K)) : Cb P w K mg base "fractions_in" 42 ["numbers"] (pre_fractions_in K) := by
  obtain ⟨f, fd, F, hm, hb⟩ := A.ex
  have nd := sc_fractions_in.nd
  refine ⟨f, fd, fn_ok F sc_fractions_in (fun rs r h => p1_len h) (fun cdv A outer s H E hr => ⟨_, (pss_cons (ps_setLc (i := 1) (own := [("k", 2)]) (g := (gName 2)) (tt := tYes) rfl nd rfl rfl (sw_true rfl rfl rfl (by decide +kernel)) (pi_range1 (by rfl) T.range (pa_cons (pe_op op_fdiv (pe_callB (cLen (K := K) rfl) (by rfl) T.len PySem.boot_len (pa_cons (pv 0) pa_nil)) pe_int) pa_nil)) (blkOk_by (own := [("k", 2)]) (N := ["numbers", "pairs", "k", "top", "bottom"]) (sc := defScope s_fractions_in) (by decide +kernel)) (fun _ _ _ _ _ => (pg_name (i := 2) nd rfl (by first | exact Or.inl rfl | exact Or.inr rfl))) (fun _ _ _ _ _ => pts_nil) (fun _ _ _ _ _ => (pe_tup (pa_cons (pe_ix (ixL (K := K) rfl) (pv 0) (pe_op op_mulX pe_int (pv 2)) (fun _ _ => rfl)) (pa_cons (pe_ix (ixL (K := K) rfl) (pv 0) (pe_op op_add (pe_op op_mulX pe_int (pv 2)) pe_int) (fun _ _ => rfl)) pa_nil)))))
      (pss_cons (ps_if (pt_not (pt_val (pe_callB (cAll (K := K) rfl rfl) (by rfl) T.all (by decide +kernel) (pa_cons (pe_lc (own := [("top", 3), ("bottom", 4)]) (g := (gTup K 2 (gCons (gName 3) (gCons (gName 4) gNil)))) (tt := tYes) rfl nd (pi_list (pv 1)) (blkOk_by (own := [("top", 3), ("bottom", 4)]) (N := ["numbers", "pairs", "k", "top", "bottom"]) (sc := defScope s_fractions_in) (by decide +kernel)) (fun _ _ _ _ _ => (pg_tup rfl (pgs_cons (pg_name (i := 3) nd rfl (by first | exact Or.inl rfl | exact Or.inr rfl)) (pgs_cons (pg_name (i := 4) nd rfl (by first | exact Or.inl rfl | exact Or.inr rfl)) pgs_nil)))) (fun _ _ _ _ _ => pts_nil) (fun _ _ _ _ _ => (pe_cb C_is_told (hr.mono (by decide)) rfl (pa_cons (pv 3) (pa_cons (pv 4) pa_nil))))) pa_nil)))) (pss_one (ps_ret pe_non)) pss_nil)
      (pss_one (ps_ret (pv 1))))), fun rs r h => ?_⟩), hm, F.kp, hb⟩
  obtain ⟨ns, hz, rfl, rfl⟩ := h
  have hz : ns.length ≤ 40000 := hz
  have hpl : (pairs ns).length ≤ 50000 := by rw [pairs_len]; omega
  have nl : ((ns.map iR).length : Int) = (ns.length : Int) := by rw [List.length_map]
  have h2 : ((ns.map iR).length : Int) / 2 = ((ns.length / 2 : Nat) : Int) := by rw [nl]; omega
  have cond : ∀ (b : Bool), (pairs ns).all (fun p => told2 p.1 p.2) = b → (((pairs ns).map fun p => told2 p.1 p.2).all id) = b := fun b h => by rw [← h, List.all_map]; rfl
  have pw : ∀ (i : Nat), i < ns.length / 2 → atI (ns.map iR) (2 * (0 + (i : Int))) = some (iR (ns.getD (2 * i) 0)) ∧ atI (ns.map iR) (2 * (0 + (i : Int)) + 1) = some (iR (ns.getD (2 * i + 1) 0)) := fun i hi =>
    ⟨atI_mapS (atI_ofNat (j := 2 * i) (by omega) (getD_get (by omega))), atI_mapS (atI_ofNat (j := 2 * i + 1) (by omega) (getD_get (by omega)))⟩
  have el : lR ((List.range (rgR 0 (((ns.map iR).length : Int) / 2).toNat).length).map fun i => tR K [iR (ns.getD (2 * i) 0), iR (ns.getD (2 * i + 1) 0)]) = lR ((pairs ns).map fun p => tR K [iR p.1, iR p.2]) := by
    rw [rgR_len, h2, Int.toNat_natCast]
    unfold pairs
    rw [List.map_map]
    rfl
  cases hc : (pairs ns).all (fun p => told2 p.1 p.2) with
  | true =>
    rw [fracs_some hc]
    refine s_seq (s_set (r := lR ((pairs ns).map fun p => tR K [iR p.1, iR p.2])) (er_eq (er_map (ir_rng1 (ar_cons (er_half (er_len (er_var rfl))) ar_nil) (by rw [h2]; omega)) (fun i => tR K [iR (ns.getD (2 * i) 0), iR (ns.getD (2 * i + 1) 0)]) (by rw [rgR_len, h2]; omega) ?_) el))
      (s_seq (s_ifF (tr_eq (tr_not (tr_B (er_callB (ar_cons (er_ls (er_eq (er_mapL (xs := pairs ns) (ra := fun p => tR K [iR p.1, iR p.2]) (rc := fun p => bR (told2 p.1 p.2)) (ir_list (er_ls (er_var rfl))) hpl fun i p hp => ⟨_, _, g_two, fun _ h => h, (er_c2 (er_var rfl) (er_var rfl) ?_)⟩) (rb := lR (((pairs ns).map fun p => told2 p.1 p.2).map bR)) (by rw [List.map_map]; rfl))) ar_nil) cr_all))) ?_) s_next) (s_ret (er_eq (er_var rfl) ?_)))
    · intro i r hr
      obtain ⟨hi, rfl⟩ := rgR_get hr
      have hi : i < ns.length / 2 := by rw [h2] at hi; omega
      refine ⟨_, _, g_name, fun _ h => h, er_tup (K := K) (rs := [iR (ns.getD (2 * i) 0), iR (ns.getD (2 * i + 1) 0)]) (ar_cons (er_ixl (er_var rfl) (er_mul er_c (er_var rfl) ?_) ?_) (ar_cons (er_ixl (er_var rfl) (er_add (er_mul er_c (er_var rfl) ?_) er_c) ?_) ar_nil))⟩
      · exact mulSm (by decide) (by omega)
      · exact (pw i hi).1
      · exact mulSm (by decide) (by omega)
      · exact (pw i hi).2
    · exact trivial
    · rw [cond true hc]; rfl
    · show lR _ = lR (((pairs ns).map fun p => (⟨p.1, p.2.toNat⟩ : Kzq1.Q)).map (qR K))
      rw [pair_reps hc]
  | false =>
    rw [fracs_none hc]
    refine s_seq (s_set (r := lR ((pairs ns).map fun p => tR K [iR p.1, iR p.2])) (er_eq (er_map (ir_rng1 (ar_cons (er_half (er_len (er_var rfl))) ar_nil) (by rw [h2]; omega)) (fun i => tR K [iR (ns.getD (2 * i) 0), iR (ns.getD (2 * i + 1) 0)]) (by rw [rgR_len, h2]; omega) ?_) el))
      (s_seqR (s_ifT (tr_eq (tr_not (tr_B (er_callB (ar_cons (er_ls (er_eq (er_mapL (xs := pairs ns) (ra := fun p => tR K [iR p.1, iR p.2]) (rc := fun p => bR (told2 p.1 p.2)) (ir_list (er_ls (er_var rfl))) hpl fun i p hp => ⟨_, _, g_two, fun _ h => h, (er_c2 (er_var rfl) (er_var rfl) ?_)⟩) (rb := lR (((pairs ns).map fun p => told2 p.1 p.2).map bR)) (by rw [List.map_map]; rfl))) ar_nil) cr_all))) ?_) (s_ret er_c)))
    · intro i r hr
      obtain ⟨hi, rfl⟩ := rgR_get hr
      have hi : i < ns.length / 2 := by rw [h2] at hi; omega
      refine ⟨_, _, g_name, fun _ h => h, er_tup (K := K) (rs := [iR (ns.getD (2 * i) 0), iR (ns.getD (2 * i + 1) 0)]) (ar_cons (er_ixl (er_var rfl) (er_mul er_c (er_var rfl) ?_) ?_) (ar_cons (er_ixl (er_var rfl) (er_add (er_mul er_c (er_var rfl) ?_) er_c) ?_) ar_nil))⟩
      · exact mulSm (by decide) (by omega)
      · exact (pw i hi).1
      · exact mulSm (by decide) (by omega)
      · exact (pw i hi).2
    · exact trivial
    · rw [cond false hc]; rfl
abbrev s_part_of : Stmt := top 72
theorem sc_part_of : FnScope ["many", "numbers", "corners", "slides", "points", "k"] ["many", "numbers"] (defScope s_part_of) := ⟨rfl, rfl, rfl, by decide +kernel, rfl, by decide +kernel, by decide +kernel⟩
abbrev pre_part_of (K : PySem.W.Frag) (CPiece : Addr) (CPart : Addr) : List Rp → Rp → Prop := p2 (fun (n : Nat) (ns : List Int) => 3 ≤ n ∧ n ≤ 40 ∧ ns.length = 4 * n + 5 ∧ ∀ x ∈ ns, x.natAbs < 2 ^ 256) (fun n => iR (n : Int)) (fun ns => sR K (ns.map iR)) (opR (ptR K CPiece CPart)) partOf
theorem ok_part_of (A : Fa K mg "part_of" s_part_of ["many", "numbers"]) (T : Txt K mg CPiece CPart) (C_fractions_in : Cb P w K mg base "fractions_in" 42 ["numbers"] (pre_fractions_in K)) (C_Part : Ci P w K mg base "Part" CPart 1 ["self", "piece", "move"] (pre_Part_init K)) (C_is_strict : Cb P w K mg base "is_strict" 45 ["corners"] (pre_is_strict K)) (C_Piece : Ci P w K mg base "Piece" CPiece 44 ["self", "corners"] (pre_Piece_init K)) (C_from_leftmost : Cb P w K mg base "from_leftmost" 44 ["corners"] (pre_from_leftmost K)) : Cb P w K mg base "part_of" 46 ["many", "numbers"] (pre_part_of K CPiece CPart) := by
  obtain ⟨f, fd, F, hm, hb⟩ := A.ex
  have nd := sc_part_of.nd
  refine ⟨f, fd, fn_ok F sc_part_of (fun rs r h => p2_len h) (fun cdv A outer s H E hr => ⟨_, (pss_cons (ps_set (i := 2) nd rfl (by first | exact Or.inl rfl | exact Or.inr rfl) (pe_cb C_fractions_in (hr.mono (by decide)) rfl (pa_cons (pe_slice (slL (K := K) rfl) (pv 1) po_none (po_some (pe_op op_mulX pe_int (pv 0)))) pa_nil)))
      (pss_cons (ps_set (i := 3) nd rfl (by first | exact Or.inl rfl | exact Or.inr rfl) (pe_cb C_fractions_in (hr.mono (by decide)) rfl (pa_cons (pe_slice (slL (K := K) rfl) (pv 1) (po_some (pe_op op_add (pe_op op_mulX pe_int (pv 0)) pe_int)) po_none) pa_nil)))
      (pss_cons (ps_if (PW.pt (pw_or (pt_cmpR op_isN (pv 2) pe_non (nomark _)) (pw_or (pt_cmpR op_isN (pv 3) pe_non (nomark _)) (pw_or1 (pt_cmpR (opNi (K := K) rfl) (pe_ix (ixL (K := K) rfl) (pv 1) (pe_op op_mulX pe_int (pv 0)) (fun _ _ => rfl)) (pe_tup (pa_cons pe_int (pa_cons pe_int pa_nil))) (by with_unfolding_all rfl)))))) (pss_one (ps_ret pe_non)) pss_nil)
      (pss_cons (ps_setLc (i := 4) (own := [("k", 5)]) (g := (gName 5)) (tt := tYes) rfl nd rfl rfl (sw_true rfl rfl rfl (by decide +kernel)) (pi_range1 (by rfl) T.range (pa_cons (pv 0) pa_nil)) (blkOk_by (own := [("k", 5)]) (N := ["many", "numbers", "corners", "slides", "points", "k"]) (sc := defScope s_part_of) (by decide +kernel)) (fun _ _ _ _ _ => (pg_name (i := 5) nd rfl (by first | exact Or.inl rfl | exact Or.inr rfl))) (fun _ _ _ _ _ => pts_nil) (fun _ _ _ _ _ => (pe_tup (pa_cons (pe_ix (ixL (K := K) rfl) (pv 2) (pe_op op_mulX pe_int (pv 5)) (fun _ _ => rfl)) (pa_cons (pe_ix (ixL (K := K) rfl) (pv 2) (pe_op op_add (pe_op op_mulX pe_int (pv 5)) pe_int) (fun _ _ => rfl)) pa_nil)))))
      (pss_cons (ps_if (pt_not (pt_val (pe_cb C_is_strict (hr.mono (by decide)) rfl (pa_cons (pv 4) pa_nil)))) (pss_one (ps_ret pe_non)) pss_nil)
      (pss_one (ps_ret (pe_ci C_Part (hr.mono (by decide)) rfl (pa_cons (pe_ci C_Piece (hr.mono (by decide)) rfl (pa_cons (pe_cb C_from_leftmost (hr.mono (by decide)) rfl (pa_cons (pv 4) pa_nil)) pa_nil)) (pa_cons (pe_tup (pa_cons (pe_cmpR op_eq (pe_ix (ixL (K := K) rfl) (pv 1) (pe_op op_mulX pe_int (pv 0)) (fun _ _ => rfl)) pe_int (nomark _)) (pa_cons (pe_ix (ixL (K := K) rfl) (pv 3) pe_int (fun _ _ => rfl)) (pa_cons (pe_ix (ixL (K := K) rfl) (pv 3) pe_int (fun _ _ => rfl)) pa_nil)))) pa_nil)))))))))), fun rs r h => ?_⟩), hm, F.kp, hb⟩
  obtain ⟨n, ns, ⟨h3, h40, hlen, hb⟩, rfl, rfl⟩ := h
  have i4 : (4 : Int) * (n : Int) = ((4 * n : Nat) : Int) := by omega
  have i4' : ((4 * n : Nat) : Int) + 1 = ((4 * n + 1 : Nat) : Int) := by omega
  have m4 : IntMulOk 4 (n : Int) := mulSm (by decide) (by omega)
  have e1 : lR (cutA (ns.map iR) none (some ((4 * n : Nat) : Int))) = lR ((ns.take (4 * n)).map iR) := by rw [cutA_to, List.map_take]
  have e2 : lR (cutA (ns.map iR) (some ((4 * n + 1 : Nat) : Int)) none) = lR ((ns.drop (4 * n + 1)).map iR) := by rw [cutA_from, List.map_drop]
  have l1 : (ns.take (4 * n)).length = 4 * n := by rw [List.length_take]; omega
  have l2 : (ns.drop (4 * n + 1)).length = 4 := by rw [List.length_drop]; omega
  have at4 : atI (ns.map iR) (4 * (n : Int)) = some (iR (ns.getD (4 * n) 2)) := atI_mapS (atI_ofNat i4 (getD_get (by omega)))
  refine s_seq (s_set (r := opR (fun qs => lR (qs.map (qR K))) (fracs (ns.take (4 * n)))) (er_c1 (er_ls (er_eq (er_slice (er_var rfl) or_no (or_some (er_i (er_mul er_c (er_var rfl) m4) i4))) e1)) (by show _ ≤ _; omega)))
    (s_seq (s_set (r := opR (fun qs => lR (qs.map (qR K))) (fracs (ns.drop (4 * n + 1)))) (er_c1 (er_ls (er_eq (er_slice (er_var rfl) (or_some (er_i (er_add (er_i (er_mul er_c (er_var rfl) m4) i4) er_c) i4')) or_no) e2)) (by show _ ≤ _; omega))) ?_)
  cases c1 : fracs (ns.take (4 * n)) with
  | none =>
    have hp : partOf n ns = none := by unfold partOf; rw [c1]
    rw [hp]
    exact s_seqR (s_ifT (tr_or (a := true) (b := true) (tr_test (er_isT (er_var rfl))) fun z => nomatch z) (s_ret er_c))
  | some cs =>
    cases c2 : fracs (ns.drop (4 * n + 1)) with
    | none =>
      have hp : partOf n ns = none := by unfold partOf; rw [c1, c2]
      rw [hp]
      exact s_seqR (s_ifT (tr_eq (tr_or (a := false) (tr_test (er_isF (r := lR (cs.map (qR K))) (er_var rfl) nn_l)) fun _ => tr_or (a := true) (b := true) (tr_test (er_isT (er_var rfl))) fun z => nomatch z) rfl) (s_ret er_c))
    | some ss =>
      have q1 := fracs_fq c1 fun x hx => hb x (List.mem_of_mem_take hx)
      have q2 := fracs_fq c2 fun x hx => hb x (List.mem_of_mem_drop hx)
      have k1 : cs.length = 2 * n := by rw [fracs_len c1, l1]; omega
      have k2 : ss.length = 2 := by rw [fracs_len c2, l2]
      have test := fun (b : Bool) (hb : (!inV (.int (ns.getD (4 * n) 2)) [.int 0, .int 1]) = b) => tr_eq (ρ := [.r (iR (n : Int)), .r (sR K (ns.map iR)), .r (lR (cs.map (qR K))), .r (lR (ss.map (qR K))), .no, .no]) (tr_or (a := false) (tr_test (er_isF (r := lR (cs.map (qR K))) (er_var (n := 2) rfl) nn_l)) fun _ => tr_or (a := false) (tr_test (er_isF (r := lR (ss.map (qR K))) (er_var (n := 3) rfl) nn_l)) fun _ => tr_test (er_op (er_ixl (er_var (n := 1) rfl) (er_mul er_c (er_var (n := 0) rfl) m4) at4) (er_tup (K := K) (ar_cons er_c (ar_cons er_c ar_nil))) (br_niT (xs := [.int 0, .int 1]) rfl rfl))) hb
      by_cases cx : ns.getD (4 * n) 2 = 0 ∨ ns.getD (4 * n) 2 = 1
      · have tf : (!inV (.int (ns.getD (4 * n) 2)) [.int 0, .int 1]) = false := by rw [inV01]; rcases cx with c | c <;> rw [c] <;> rfl
        have ep : lR ((List.range (rgR 0 (n : Int).toNat).length).map fun i => pR K ⟨cs.getD (2 * i) Kzq1.zero, cs.getD (2 * i + 1) Kzq1.zero⟩) = lR ((ptsOf cs n).map (pR K)) := by
          rw [rgR_len, Int.toNat_natCast]
          unfold ptsOf
          rw [List.map_map]
          rfl
        have pts : BL 256 (ptsOf cs n) := ptsOf_bl q1 (by omega)
        have plen := ptsOf_len cs n
        refine s_seq (s_ifF (test false tf) s_next) (s_seq (s_set (r := lR ((ptsOf cs n).map (pR K))) (er_eq (er_map (ir_rng1 (ar_cons (er_var rfl) ar_nil) (by omega)) (fun i => pR K ⟨cs.getD (2 * i) Kzq1.zero, cs.getD (2 * i + 1) Kzq1.zero⟩) (by rw [rgR_len]; omega) ?_) ep)) ?_)
        · intro i r hr
          obtain ⟨hi, rfl⟩ := rgR_get hr
          have hi : i < n := by omega
          refine ⟨_, _, g_name, fun _ h => h, er_tup (K := K) (rs := [qR K (cs.getD (2 * i) Kzq1.zero), qR K (cs.getD (2 * i + 1) Kzq1.zero)]) (ar_cons (er_ixl (er_ls (er_var rfl)) (er_mul er_c (er_var rfl) ?_) ?_) (ar_cons (er_ixl (er_ls (er_var rfl)) (er_add (er_mul er_c (er_var rfl) ?_) er_c) ?_) ar_nil))⟩
          · exact mulSm (by decide) (by omega)
          · exact atI_mapS (atI_ofNat (j := 2 * i) (by omega) (getDq_get (by omega)))
          · exact mulSm (by decide) (by omega)
          · exact atI_mapS (atI_ofNat (j := 2 * i + 1) (by omega) (getDq_get (by omega)))
        · cases cs' : strictB (ptsOf cs n) with
          | false =>
            have hp : partOf n ns = none := by
              unfold partOf
              rw [c1, c2]
              show (if _ then _ else _) = _
              rw [if_pos cx, if_neg (by rw [cs']; exact Bool.false_ne_true)]
            rw [hp]
            refine s_seqR (s_ifT (tr_eq (tr_not (tr_B (er_b (er_c1 (er_ls (er_var rfl)) ?_) cs'))) rfl) (s_ret er_c))
            exact ⟨pts.mono (by decide), by omega⟩
          | true =>
            have hp : partOf n ns = some ⟨Kzq1.begunWith (ptsOf cs n), ⟨decide (ns.getD (4 * n) 2 = 1), ⟨ss.getD 0 Kzq1.zero, ss.getD 1 Kzq1.zero⟩⟩⟩ := by
              unfold partOf
              rw [c1, c2]
              show (if _ then _ else _) = _
              rw [if_pos cx, if_pos cs']
            rw [hp]
            refine s_seq (s_ifF (tr_eq (tr_not (tr_B (er_b (er_c1 (er_ls (er_var rfl)) ?_) cs'))) rfl) s_next) (s_ret (er_eq (er_make (ar_cons (er_make (ar_cons (er_c1 (er_ls (er_var rfl)) ?_) ar_nil) ?_) (ar_cons (er_tup (K := K) (rs := [bR (decide (ns.getD (4 * n) 2 = 1)), qR K (ss.getD 0 Kzq1.zero), qR K (ss.getD 1 Kzq1.zero)]) (ar_cons (er_eqI (er_ixl (er_var rfl) (er_mul er_c (er_var rfl) m4) at4) er_c) (ar_cons (er_ixl (er_ls (er_var rfl)) er_c ?_) (ar_cons (er_ixl (er_ls (er_var rfl)) er_c ?_) ar_nil)))) ar_nil)) ⟨_, _, rfl, rfl⟩) rfl))
            · exact ⟨pts.mono (by decide), by omega⟩
            · exact ⟨fun z => by rw [z] at plen; simp at plen; omega, pts.lim (by decide), by omega⟩
            · exact ⟨Kzq1.begunWith (ptsOf cs n), fun z => by have := begun_len (ptsOf cs n); rw [z] at this; simp at this; omega, (begun_bl pts).lim (by decide), by rw [begun_len]; omega, rfl, rfl⟩
            · exact atI_mapS (atI_ofNat (j := 0) rfl (getDq_get (by omega)))
            · exact atI_mapS (atI_ofNat (j := 1) rfl (getDq_get (by omega)))
      · have tt : (!inV (.int (ns.getD (4 * n) 2)) [.int 0, .int 1]) = true := by
          rw [inV01, decide_eq_false fun z => cx (.inl z), decide_eq_false fun z => cx (.inr z)]
          rfl
        have hp : partOf n ns = none := by
          unfold partOf
          rw [c1, c2]
          show (if _ then _ else _) = _
          rw [if_neg cx]
        rw [hp]
        exact s_seqR (s_ifT (test true tt) (s_ret er_c))
abbrev s_read_cutting : Stmt := top 73
theorem sc_read_cutting : FnScope ["row", "found", "at", "many", "end", "part"] ["row"] (defScope s_read_cutting) := ⟨rfl, rfl, rfl, by decide +kernel, rfl, by decide +kernel, by decide +kernel⟩
abbrev pre_read_cutting (K : PySem.W.Frag) (CPiece : Addr) (CPart : Addr) : List Rp → Rp → Prop := p1 (fun ns : List Int => ns.length ≤ 4000 ∧ ∀ x ∈ ns, x.natAbs < 2 ^ 256) (fun ns => sR K (ns.map iR)) (opR (fun ps => lR (ps.map (ptR K CPiece CPart)))) (fun ns => readOn ns.length ns)
theorem ok_read_cutting (A : Fa K mg "read_cutting" s_read_cutting ["row"]) (T : Txt K mg CPiece CPart) (C_part_of : Cb P w K mg base "part_of" 46 ["many", "numbers"] (pre_part_of K CPiece CPart)) : Cb P w K mg base "read_cutting" 47 ["row"] (pre_read_cutting K CPiece CPart) := by
  obtain ⟨f, fd, F, hm, hb⟩ := A.ex
  have nd := sc_read_cutting.nd
  refine ⟨f, fd, fn_ok F sc_read_cutting (fun rs r h => p1_len h) (fun cdv A outer s H E hr => ⟨_, (pss_cons (ps_set (i := 1) nd rfl (by first | exact Or.inl rfl | exact Or.inr rfl) (pe_lst pa_nil))
      (pss_cons (ps_set (i := 2) nd rfl (by first | exact Or.inl rfl | exact Or.inr rfl) pe_int)
      (pss_cons (ps_while PassesOwn.never (pt_cmpR op_lt (pv 2) (pe_callB (cLen (K := K) rfl) (by rfl) T.len PySem.boot_len (pa_cons (pv 0) pa_nil)) (nomark _)) (pss_cons (ps_set (i := 3) nd rfl (by first | exact Or.inl rfl | exact Or.inr rfl) (pe_ix (ixL (K := K) rfl) (pv 0) (pv 2) (fun _ _ => rfl)))
      (pss_cons (ps_if (pt_not (pt_chain op_le op_le (pe_gi rfl T.g_LEAST_CORNERS) (pv 3) (pe_gi rfl T.g_MOST_CORNERS_cuttings))) (pss_one (ps_ret pe_non)) pss_nil)
      (pss_cons (ps_set (i := 4) nd rfl (by first | exact Or.inl rfl | exact Or.inr rfl) (pe_op op_add (pe_op op_add (pe_op op_add (pv 2) pe_int) (pe_op op_mulX pe_int (pv 3))) (pe_gi rfl T.g_MOVE_NUMBERS)))
      (pss_cons (ps_if (pt_cmpR op_gt (pv 4) (pe_callB (cLen (K := K) rfl) (by rfl) T.len PySem.boot_len (pa_cons (pv 0) pa_nil)) (nomark _)) (pss_one (ps_ret pe_non)) pss_nil)
      (pss_cons (ps_set (i := 5) nd rfl (by first | exact Or.inl rfl | exact Or.inr rfl) (pe_cb C_part_of (hr.mono (by decide)) rfl (pa_cons (pv 3) (pa_cons (pe_slice (slL (K := K) rfl) (pv 0) (po_some (pe_op op_add (pv 2) pe_int)) (po_some (pv 4))) pa_nil))))
      (pss_cons (ps_if (pt_cmpR op_isN (pv 5) pe_non (nomark _)) (pss_one (ps_ret pe_non)) pss_nil)
      (pss_cons (ps_expr (pe_bm PySem.F.plainAttrs_list PySem.F.slot_list_append PySem.F.type_list_append mt_append (pv 1) (pa_cons (pv 5) pa_nil)))
      (pss_one (ps_set (i := 2) nd rfl (by first | exact Or.inl rfl | exact Or.inr rfl) (pv 4)))))))))))
      (pss_one (ps_ret (pv 1)))))), fun rs r h => ?_⟩), hm, F.kp, hb⟩
  obtain ⟨ns, ⟨hz, hb⟩, rfl, rfl⟩ := h
  have nl : ((ns.map iR).length : Int) = (ns.length : Int) := by rw [List.length_map]
  let env : Nat × List Kzq2.Part → List Sl := fun st => [.r (sR K (ns.map iR)), .l (st.2.map (ptR K CPiece CPart)), .r (iR (st.1 : Int)), .no, .no, .no]
  refine s_seq (s_own ar_nil) (s_seq (s_set er_c) ?_)
  show S _ (env (0, [])) _
  have item : ∀ (a : Nat), a < ns.length → atI (ns.map iR) (a : Int) = some (iR (ns.getD a 0)) := fun a h => atI_mapS (atI_ofNat rfl (getD_get h))
  refine s_seqF (fl1 := match readOn ns.length ns with | none => .rt nR | some qs => .nx [.r (sR K (ns.map iR)), .l (qs.map (ptR K CPiece CPart)), .no, .no, .no, .no]) (s_while (RI ns) env (fun st => ns.length - st.1) (0, []) (ri_start ns) (Le.refl _) ?_) ?_ ?_
  · rintro ⟨a, ps⟩ hI
    have hal : a ≤ ns.length := hI.1
    have hpa : ps.length ≤ a := hI.2.1
    by_cases hlt : a < ns.length
    · refine .inl ⟨tr_eq (tr_test (er_lt (er_var rfl) (er_len (er_var rfl)))) (by rw [nl]; simpa using hlt), ?_⟩
      have hdl : (ns.drop (a + 1)).length = ns.length - (a + 1) := List.length_drop
      by_cases c1 : 3 ≤ ns.getD a 0 ∧ ns.getD a 0 ≤ 40
      · have hx : ((ns.getD a 0).toNat : Int) = ns.getD a 0 := Int.toNat_of_nonneg (by omega)
        have m4 : IntMulOk 4 (ns.getD a 0) := mulSm (by decide) (by omega)
        have he : (a : Int) + 1 + 4 * ns.getD a 0 + 5 = ((a + 1 + (4 * (ns.getD a 0).toNat + 5) : Nat) : Int) := by omega
        have t1 : (!(decide (3 ≤ ns.getD a 0) && decide (ns.getD a 0 ≤ 40))) = false := by rw [decide_eq_true c1.1, decide_eq_true c1.2]; rfl
        by_cases c2 : (ns.drop (a + 1)).length < 4 * (ns.getD a 0).toNat + 5
        · rw [ri_bad hI hlt (.inr (.inr c2))]
          exact .inr ⟨nR, rfl, s_seq (s_set (er_ixl (er_var rfl) (er_var rfl) (item a hlt))) (s_seq (s_ifF (tr_eq (tr_not (tr_test (er_chain er_c (er_var rfl) br_I0 er_c br_I0))) t1) s_next) (s_seq (s_set (er_i (er_add (er_add (er_add (er_var rfl) er_c) (er_mul er_c (er_var rfl) m4)) er_c) he)) (s_seqR (s_ifT (tr_eq (tr_test (er_gt (er_var rfl) (er_len (er_var rfl)))) (decide_eq_true (by rw [nl]; omega))) (s_ret er_c)))))⟩
        · have hb2 : ¬ (ns.getD a 0 < 3 ∨ 40 < ns.getD a 0 ∨ (ns.drop (a + 1)).length < 4 * (ns.getD a 0).toNat + 5) := by omega
          have es : lR (cutA (ns.map iR) (some ((a + 1 : Nat) : Int)) (some ((a + 1 + (4 * (ns.getD a 0).toNat + 5) : Nat) : Int))) = lR (((ns.drop (a + 1)).take (4 * (ns.getD a 0).toNat + 5)).map iR) := by
            rw [cutA_ft _ _ _ (by rw [List.length_map]; omega), List.map_take, List.map_drop]
            congr 2
            omega
          have hc : 3 ≤ (ns.getD a 0).toNat ∧ (ns.getD a 0).toNat ≤ 40 ∧ ((ns.drop (a + 1)).take (4 * (ns.getD a 0).toNat + 5)).length = 4 * (ns.getD a 0).toNat + 5 ∧ ∀ x ∈ (ns.drop (a + 1)).take (4 * (ns.getD a 0).toNat + 5), x.natAbs < 2 ^ 256 :=
            ⟨by omega, by omega, by rw [List.length_take]; omega, fun x hx => hb x (List.mem_of_mem_drop (List.mem_of_mem_take hx))⟩
          cases c3 : partOf (ns.getD a 0).toNat ((ns.drop (a + 1)).take (4 * (ns.getD a 0).toNat + 5)) with
          | none =>
            rw [ri_part hI hlt hb2 c3]
            refine .inr ⟨nR, rfl, s_seq (s_set (er_ixl (er_var rfl) (er_var rfl) (item a hlt))) (s_seq (s_ifF (tr_eq (tr_not (tr_test (er_chain er_c (er_var rfl) br_I0 er_c br_I0))) t1) s_next) (s_seq (s_set (er_i (er_add (er_add (er_add (er_var rfl) er_c) (er_mul er_c (er_var rfl) m4)) er_c) he)) (s_seq (s_ifF (tr_eq (tr_test (er_gt (er_var rfl) (er_len (er_var rfl)))) (decide_eq_false (by rw [nl]; omega))) s_next)
              (s_seq (s_set (r := nR) (er_eq (er_c2 (er_i (er_var rfl) hx.symm) (er_ls (er_eq (er_slice (er_var rfl) (or_some (er_i (er_add (er_var rfl) er_c) rfl)) (or_some (er_var rfl))) es)) hc) (by rw [c3]; rfl)))
              (s_seqR (s_ifT (tr_test (er_isT (er_var rfl))) (s_ret er_c)))))))⟩
          | some p =>
            refine .inl ⟨_, ri_step hI hlt hb2 c3, by show _ - _ < ns.length - a; omega, ?_⟩
            refine s_seq (s_set (er_ixl (er_var rfl) (er_var rfl) (item a hlt))) (s_seq (s_ifF (tr_eq (tr_not (tr_test (er_chain er_c (er_var rfl) br_I0 er_c br_I0))) t1) s_next) (s_seq (s_set (er_i (er_add (er_add (er_add (er_var rfl) er_c) (er_mul er_c (er_var rfl) m4)) er_c) he)) (s_seq (s_ifF (tr_eq (tr_test (er_gt (er_var rfl) (er_len (er_var rfl)))) (decide_eq_false (by rw [nl]; omega))) s_next)
              (s_seq (s_set (r := ptR K CPiece CPart p) (er_eq (er_c2 (er_i (er_var rfl) hx.symm) (er_ls (er_eq (er_slice (er_var rfl) (or_some (er_i (er_add (er_var rfl) er_c) rfl)) (or_some (er_var rfl))) es)) hc) (by rw [c3]; rfl)))
              (s_seq (s_ifF (tr_test (er_isF (r := ptR K CPiece CPart p) (er_var rfl) nn_o)) s_next) (s_seq (s_app (i := 1) rfl (er_var rfl) (by show (ps.map _).length < _; rw [List.length_map]; omega)) (s_le2 (s_set (er_var rfl)) ?_)))))))
            show Le _ [.r (sR K (ns.map iR)), .l ((ps ++ [p]).map (ptR K CPiece CPart)), _, .no, .no, .no]
            rw [map_snoc]
            exact ((Le.no _ 3).trans (Le.no _ 4)).trans (Le.no _ 5)
      · have t1 : (!(decide (3 ≤ ns.getD a 0) && decide (ns.getD a 0 ≤ 40))) = true := by
          by_cases c : 3 ≤ ns.getD a 0
          · rw [decide_eq_true c, decide_eq_false fun z => c1 ⟨c, z⟩]; rfl
          · rw [decide_eq_false c]; rfl
        rw [ri_bad hI hlt (by show ns.getD a 0 < 3 ∨ 40 < ns.getD a 0 ∨ _; omega)]
        exact .inr ⟨nR, rfl, s_seq (s_set (er_ixl (er_var rfl) (er_var rfl) (item a hlt))) (s_seqR (s_ifT (tr_eq (tr_not (tr_test (er_chain er_c (er_var rfl) br_I0 er_c br_I0))) t1) (s_ret er_c)))⟩
    · rw [ri_end hI hlt]
      exact .inr ⟨tr_eq (tr_test (er_lt (er_var rfl) (er_len (er_var rfl)))) (by rw [nl]; simpa using hlt), _, rfl, Le.no _ 2⟩
  · intro ρ' e
    cases hR : readOn ns.length ns with
    | none => rw [hR] at e; cases e
    | some qs =>
      rw [hR] at e
      cases e
      exact s_freeze 1 rfl (s_ret (er_eq (er_var rfl) (by show _ = opR (fun ps => lR (ps.map (ptR K CPiece CPart))) (readOn ns.length ns); rw [hR]; rfl)))
  · intro r e
    cases hR : readOn ns.length ns with
    | none => rw [hR] at e; cases e; show Fl.rt (opR (fun ps => lR (ps.map (ptR K CPiece CPart))) (readOn ns.length ns)) = _; rw [hR]; rfl
    | some qs => rw [hR] at e; cases e
abbrev s_bad_cutting : Stmt := top 74
theorem sc_bad_cutting : FnScope ["cutting"] ["cutting"] (defScope s_bad_cutting) := ⟨rfl, rfl, rfl, by decide +kernel, rfl, by decide +kernel, by decide +kernel⟩
abbrev pre_bad_cutting (K : PySem.W.Frag) (CPiece : Addr) (CPart : Addr) : List Rp → Rp → Prop := p1 (fun o : Option (List Kzq2.Part) => ∀ ps, o = some ps → ps.length ≤ 100000) (opR (fun ps => lR (ps.map (ptR K CPiece CPart)))) iR badC
theorem ok_bad_cutting (A : Fa K mg "bad_cutting" s_bad_cutting ["cutting"]) (T : Txt K mg CPiece CPart) : Cb P w K mg base "bad_cutting" 1 ["cutting"] (pre_bad_cutting K CPiece CPart) := by
  obtain ⟨f, fd, F, hm, hb⟩ := A.ex
  have nd := sc_bad_cutting.nd
  refine ⟨f, fd, fn_ok F sc_bad_cutting (fun rs r h => p1_len h) (fun cdv A outer s H E hr => ⟨_, (pss_cons (ps_if (pt_cmpR op_isN (pv 0) pe_non (nomark _)) (pss_one (ps_ret (pe_gi rfl T.g_NOT_AS_TOLD))) pss_nil)
      (pss_cons (ps_if (pt_cmpR op_gt (pe_callB (cLen (K := K) rfl) (by rfl) T.len PySem.boot_len (pa_cons (pv 0) pa_nil)) (pe_gi rfl T.g_MOST_PARTS) (nomark _)) (pss_one (ps_ret (pe_gi rfl T.g_TOO_MUCH))) pss_nil)
      (pss_one (ps_ret pe_int)))), fun rs r h => ?_⟩), hm, F.kp, hb⟩
  obtain ⟨o, hz, rfl, rfl⟩ := h
  cases o with
  | none => exact s_seqR (s_ifT (tr_test (er_isT (er_var rfl))) (s_ret er_c))
  | some ps =>
    have hl : ((ps.map (ptR K CPiece CPart)).length : Int) = (ps.length : Int) := by rw [List.length_map]
    show S _ [.r (lR (ps.map (ptR K CPiece CPart)))] _
    by_cases c : 160 < ps.length
    · have e : badC (some ps) = -28 := if_pos c
      rw [e]
      exact s_seq (s_ifF (tr_test (er_isF (er_var rfl) nn_l)) s_next) (s_seqR (s_ifT (tr_eq (tr_test (er_gt (er_len (er_ls (er_var rfl))) er_c)) (by rw [hl]; simp; omega)) (s_ret er_c)))
    · have e : badC (some ps) = 0 := if_neg c
      rw [e]
      exact s_seq (s_ifF (tr_test (er_isF (er_var rfl) nn_l)) s_next) (s_seq (s_ifF (tr_eq (tr_test (er_gt (er_len (er_ls (er_var rfl))) er_c)) (by rw [hl]; simp; omega)) s_next) (s_ret er_c))
abbrev s_total : Stmt := top 13
theorem sc_total : FnScope ["some", "found", "one"] ["some"] (defScope s_total) := ⟨rfl, rfl, rfl, by decide +kernel, rfl, by decide +kernel, by decide +kernel⟩
abbrev pre_total (K : PySem.W.Frag) : List Rp → Rp → Prop := p1 (fun l : List Kzq1.Q => ∃ s, (∀ q ∈ l, Fq s q) ∧ 1 + l.length * (s + 1) ≤ 33000000) (fun l => sR K (l.map (qR K))) (qR K) Kzq1.sum
theorem ok_total (A : Fa K mg "total" s_total ["some"]) (T : Txt K mg CPiece CPart) (C_plus : Cb P w K mg base "plus" 42 ["one", "other"] (pre_plus K)) : Cb P w K mg base "total" 43 ["some"] (pre_total K) := by
  obtain ⟨f, fd, F, hm, hb⟩ := A.ex
  have nd := sc_total.nd
  obtain ⟨a_ZERO, g_ZERO, e_ZERO⟩ := T.z_ZERO
  refine ⟨f, fd, fn_ok F sc_total (fun rs r h => p1_len h) (fun cdv A outer s H E hr => ⟨_, (pss_cons (ps_set (i := 1) nd rfl (by first | exact Or.inl rfl | exact Or.inr rfl) (pe_gt rfl g_ZERO))
      (pss_cons (ps_for PassesOwn.never rfl (pi_list (pv 0)) (pg_name (i := 2) nd rfl (by first | exact Or.inl rfl | exact Or.inr rfl)) (pss_one (ps_set (i := 1) nd rfl (by first | exact Or.inl rfl | exact Or.inr rfl) (pe_cb C_plus (hr.mono (by decide)) rfl (pa_cons (pv 1) (pa_cons (pv 2) pa_nil))))))
      (pss_one (ps_ret (pv 1))))), fun rs r h => ?_⟩), hm, F.kp, hb⟩
  obtain ⟨l, ⟨s, hs, hz⟩, rfl, rfl⟩ := h
  have hm : ∀ i, i ≤ l.length → Fq (1 + i * (s + 1)) ((l.take i).foldl Kzq1.add Kzq1.zero) := by
    intro i
    induction i with
    | zero =>
      intro _
      show Fq (1 + 0 * (s + 1)) Kzq1.zero
      rw [Nat.zero_mul]
      exact ⟨by decide, by decide, by decide⟩
    | succ i ih =>
      intro hi
      have e : l[i]? = some l[i] := by simp [show i < l.length by omega]
      rw [foldl_take e]
      refine ((ih (by omega)).add (hs _ (List.mem_of_getElem? e))).mono ?_
      rw [Nat.succ_mul]
      omega
  refine s_seq (s_set (r := qR K Kzq1.zero) (er_g e_ZERO)) (s_seq (s_for (fl := .nx [.r (sR K (l.map (qR K))), .r (qR K (Kzq1.sum l)), .no]) (ir_list (er_var rfl)) l.length (fun i => [.r (sR K (l.map (qR K))), .r (qR K ((l.take i).foldl Kzq1.add Kzq1.zero)), .no]) (Le.refl _) ?_ ?_ (.inl ⟨?_, _, rfl, ?_⟩)) (s_ret (er_var rfl)))
  · rw [List.length_map]; exact Nat.le_refl _
  · intro i r hi hr
    obtain ⟨q, hq, rfl⟩ := get_map hr
    refine ⟨_, _, g_name, s_le2 (s_set (er_c2 (er_var rfl) (er_var rfl) ?_)) ?_⟩
    · have h1 := hm (i + 1) hi
      have h2 := hm i (by omega)
      have hle : (i + 1) * (s + 1) ≤ l.length * (s + 1) := Nat.mul_le_mul_right _ hi
      rw [Nat.succ_mul] at hle
      exact ⟨h2.b (by omega), (hs q (List.mem_of_getElem? hq)).b (by omega)⟩
    · show Le [.r (sR K (l.map (qR K))), .r (qR K _), .r (qR K q)] _
      rw [foldl_take hq]
      exact Le.no _ 2
  · rw [List.length_map]
  · rw [List.take_length]
    exact Le.refl _
abbrev s_area_of : Stmt := top 28
theorem sc_area_of : FnScope ["corners", "one", "other"] ["corners"] (defScope s_area_of) := ⟨rfl, rfl, rfl, by decide +kernel, rfl, by decide +kernel, by decide +kernel⟩
abbrev pre_area_of (K : PySem.W.Frag) : List Rp → Rp → Prop := p1 AreaOk (fun l => sR K (l.map (pR K))) (qR K) Kzq1.size
theorem ok_area_of (A : Fa K mg "area_of" s_area_of ["corners"]) (T : Txt K mg CPiece CPart) (C_times : Cb P w K mg base "times" 42 ["one", "other"] (pre_times K)) (C_total : Cb P w K mg base "total" 43 ["some"] (pre_total K)) (C_crossed : Cb P w K mg base "crossed" 43 ["one", "other"] (pre_crossed K)) (C_sides_of : Cb P w K mg base "sides_of" 1 ["corners"] (pre_sides_of K)) : Cb P w K mg base "area_of" 46 ["corners"] (pre_area_of K) := by
  obtain ⟨f, fd, F, hm, hb⟩ := A.ex
  have nd := sc_area_of.nd
  obtain ⟨a_HALF, g_HALF, e_HALF⟩ := T.z_HALF
  refine ⟨f, fd, fn_ok F sc_area_of (fun rs r h => p1_len h) (fun cdv A outer s H E hr => ⟨_, (pss_one (ps_ret (pe_cb C_times (hr.mono (by decide)) rfl (pa_cons (pe_cb C_total (hr.mono (by decide)) rfl (pa_cons (pe_lc (own := [("one", 1), ("other", 2)]) (g := (gTup K 2 (gCons (gName 1) (gCons (gName 2) gNil)))) (tt := tYes) rfl nd (pi_list (pe_cb C_sides_of (hr.mono (by decide)) rfl (pa_cons (pv 0) pa_nil))) (blkOk_by (own := [("one", 1), ("other", 2)]) (N := ["corners", "one", "other"]) (sc := defScope s_area_of) (by decide +kernel)) (fun _ _ _ _ _ => (pg_tup rfl (pgs_cons (pg_name (i := 1) nd rfl (by first | exact Or.inl rfl | exact Or.inr rfl)) (pgs_cons (pg_name (i := 2) nd rfl (by first | exact Or.inl rfl | exact Or.inr rfl)) pgs_nil)))) (fun _ _ _ _ _ => pts_nil) (fun _ _ _ _ _ => (pe_cb C_crossed (hr.mono (by decide)) rfl (pa_cons (pv 1) (pa_cons (pv 2) pa_nil))))) pa_nil)) (pa_cons (pe_gt rfl g_HALF) pa_nil))))), fun rs r h => ?_⟩), hm, F.kp, hb⟩
  obtain ⟨l, ⟨hz, s, hs, hb, hw⟩, rfl, rfl⟩ := h
  have hsz : (Kzq1.sides l).length = l.length := by unfold Kzq1.sides; simp
  have hsd : ∀ t ∈ Kzq1.sides l, Fp s t.1 ∧ Fp s t.2 := sides_bl hb
  refine s_ret (er_eq (er_c2 (er_c1 (a := (Kzq1.sides l).map fun t => Kzq1.cross t.1 t.2) (er_ls (er_eq (er_mapL (ra := gR K) (rc := fun t => qR K (Kzq1.cross t.1 t.2)) (ir_list (er_ls (er_c1 (er_var rfl) ?_))) (by omega) fun i t ht => ⟨_, _, g_two, fun _ h => h, (er_c2 (er_var rfl) (er_var rfl) ?_)⟩) ?_)) ?_) (b := Kzq1.half) (er_g e_HALF) ?_) ?_)
  · exact hz
  · exact ⟨(hsd t (List.mem_of_getElem? ht)).1.mono (by omega), (hsd t (List.mem_of_getElem? ht)).2.mono (by omega)⟩
  · rw [List.map_map]; rfl
  · refine ⟨4 * s + 1, fun q hq => ?_, by rw [List.length_map, hsz]; exact hw⟩
    obtain ⟨t, ht, rfl⟩ := List.mem_map.mp hq
    exact ((hsd t ht).1.cross (hsd t ht).2).mono (by omega)
  · refine ⟨(area_sum hb).b hw, half_fq.b (by decide)⟩
  · show qR K (Kzq1.mul _ Kzq1.half) = qR K (Kzq1.mul Kzq1.half _)
    rw [mul_comm2]
abbrev s_size : Stmt := top 29
theorem sc_size : FnScope ["piece"] ["piece"] (defScope s_size) := ⟨rfl, rfl, rfl, by decide +kernel, rfl, by decide +kernel, by decide +kernel⟩
abbrev pre_size (K : PySem.W.Frag) (CPiece : Addr) : List Rp → Rp → Prop := p1 AreaOk (pcR K CPiece) (qR K) Kzq1.size
theorem ok_size (A : Fa K mg "size" s_size ["piece"]) (T : Txt K mg CPiece CPart) (C_area_of : Cb P w K mg base "area_of" 46 ["corners"] (pre_area_of K)) : Cb P w K mg base "size" 47 ["piece"] (pre_size K CPiece) := by
  obtain ⟨f, fd, F, hm, hb⟩ := A.ex
  have nd := sc_size.nd
  refine ⟨f, fd, fn_ok F sc_size (fun rs r h => p1_len h) (fun cdv A outer s H E hr => ⟨_, (pss_one (ps_ret (pe_cb C_area_of (hr.mono (by decide)) rfl (pa_cons (peFld (K := K) (pv 0) rfl) pa_nil)))), fun rs r h => ?_⟩), hm, F.kp, hb⟩
  obtain ⟨l, hl, rfl, rfl⟩ := h
  refine s_ret (er_c1 (er_ls (er_fld (er_var rfl) T.cl_Piece T.n_corners rfl)) ?_)
  exact hl
abbrev s_over : Stmt := top 9
theorem sc_over : FnScope ["one", "other"] ["one", "other"] (defScope s_over) := ⟨rfl, rfl, rfl, by decide +kernel, rfl, by decide +kernel, by decide +kernel⟩
abbrev pre_over (K : PySem.W.Frag) : List Rp → Rp → Prop := p2 (fun a b => Bq a ∧ Bq b ∧ b.n ≠ 0) (qR K) (qR K) (qR K) Kzq1.div
theorem ok_over (A : Fa K mg "over" s_over ["one", "other"]) (T : Txt K mg CPiece CPart) (C_ratio : Cb P w K mg base "ratio" 41 ["top", "bottom"] (pre_ratio K)) : Cb P w K mg base "over" 42 ["one", "other"] (pre_over K) := by
  obtain ⟨f, fd, F, hm, hb⟩ := A.ex
  have nd := sc_over.nd
  refine ⟨f, fd, fn_ok F sc_over (fun rs r h => p2_len h) (fun cdv A outer s H E hr => ⟨_, (pss_cons (ps_if (pt_cmpR op_lt (pe_ix (ixT (K := K) rfl) (pv 1) pe_int (fun _ _ => rfl)) pe_int (nomark _)) (pss_one (ps_ret (pe_cb C_ratio (hr.mono (by decide)) rfl (pa_cons (pe_op op_mulX (pe_un un_neg (pe_ix (ixT (K := K) rfl) (pv 0) pe_int (fun _ _ => rfl))) (pe_ix (ixT (K := K) rfl) (pv 1) pe_int (fun _ _ => rfl))) (pa_cons (pe_op op_mulX (pe_un un_neg (pe_ix (ixT (K := K) rfl) (pv 0) pe_int (fun _ _ => rfl))) (pe_ix (ixT (K := K) rfl) (pv 1) pe_int (fun _ _ => rfl))) pa_nil))))) pss_nil)
      (pss_one (ps_ret (pe_cb C_ratio (hr.mono (by decide)) rfl (pa_cons (pe_op op_mulX (pe_ix (ixT (K := K) rfl) (pv 0) pe_int (fun _ _ => rfl)) (pe_ix (ixT (K := K) rfl) (pv 1) pe_int (fun _ _ => rfl))) (pa_cons (pe_op op_mulX (pe_ix (ixT (K := K) rfl) (pv 0) pe_int (fun _ _ => rfl)) (pe_ix (ixT (K := K) rfl) (pv 1) pe_int (fun _ _ => rfl))) pa_nil)))))), fun rs r h => ?_⟩), hm, F.kp, hb⟩
  obtain ⟨a, b, ⟨ha, hb, h0⟩, rfl, rfl⟩ := h
  by_cases c : b.n < 0
  · refine s_seqR (s_ifT (tr_eq (tr_test (er_lt (er_q0 (er_var rfl)) er_c)) (decide_eq_true c)) (s_ret (er_eq (er_c2 (er_mul (er_neg (er_q0 (er_var rfl))) (er_q1 (er_var rfl)) ?_) (er_mul (er_neg (er_q1 (er_var rfl))) (er_q0 (er_var rfl)) ?_) ?_) ?_)))
    · exact ha.neg_nd hb
    · exact ha.neg_dn hb
    · rw [Int.neg_mul, ← Int.mul_neg]; exact Int.mul_pos (by have := ha.pos; omega) (by omega)
    · exact congrArg (qR K) (div_neg_is ha.pos hb.pos c)
  · refine s_seq (s_ifF (tr_eq (tr_test (er_lt (er_q0 (er_var rfl)) er_c)) (decide_eq_false c)) s_next) (s_ret (er_eq (er_c2 (er_mul (er_q0 (er_var rfl)) (er_q1 (er_var rfl)) ?_) (er_mul (er_q1 (er_var rfl)) (er_q0 (er_var rfl)) ?_) ?_) ?_))
    · exact ha.nd hb
    · exact ha.dn hb
    · exact Int.mul_pos (by have := ha.pos; omega) (by omega)
    · exact congrArg (qR K) (div_pos_is ha.pos hb.pos (by omega))
abbrev s_together : Stmt := top 17
theorem sc_together : FnScope ["one", "other"] ["one", "other"] (defScope s_together) := ⟨rfl, rfl, rfl, by decide +kernel, rfl, by decide +kernel, by decide +kernel⟩
abbrev pre_together (K : PySem.W.Frag) : List Rp → Rp → Prop := p2 (fun a b => Bp a ∧ Bp b) (pR K) (pR K) (pR K) Kzq1.plus
theorem ok_together (A : Fa K mg "together" s_together ["one", "other"]) (T : Txt K mg CPiece CPart) (C_plus : Cb P w K mg base "plus" 42 ["one", "other"] (pre_plus K)) : Cb P w K mg base "together" 43 ["one", "other"] (pre_together K) := by
  obtain ⟨f, fd, F, hm, hb⟩ := A.ex
  have nd := sc_together.nd
  refine ⟨f, fd, fn_ok F sc_together (fun rs r h => p2_len h) (fun cdv A outer s H E hr => ⟨_, (pss_one (ps_ret (pe_tup (pa_cons (pe_cb C_plus (hr.mono (by decide)) rfl (pa_cons (pe_ix (ixT (K := K) rfl) (pv 0) pe_int (fun _ _ => rfl)) (pa_cons (pe_ix (ixT (K := K) rfl) (pv 1) pe_int (fun _ _ => rfl)) pa_nil))) (pa_cons (pe_cb C_plus (hr.mono (by decide)) rfl (pa_cons (pe_ix (ixT (K := K) rfl) (pv 0) pe_int (fun _ _ => rfl)) (pa_cons (pe_ix (ixT (K := K) rfl) (pv 1) pe_int (fun _ _ => rfl)) pa_nil))) pa_nil))))), fun rs r h => ?_⟩), hm, F.kp, hb⟩
  obtain ⟨a, b, ⟨ha, hb⟩, rfl, rfl⟩ := h
  refine s_ret (er_tup (K := K) (ar_cons (er_c2 (er_p0 (er_var rfl)) (er_p0 (er_var rfl)) ?_) (ar_cons (er_c2 (er_p1 (er_var rfl)) (er_p1 (er_var rfl)) ?_) ar_nil)))
  · exact ⟨ha.x, hb.x⟩
  · exact ⟨ha.y, hb.y⟩
abbrev s_stretched : Stmt := top 18
theorem sc_stretched : FnScope ["one", "number"] ["one", "number"] (defScope s_stretched) := ⟨rfl, rfl, rfl, by decide +kernel, rfl, by decide +kernel, by decide +kernel⟩
abbrev pre_stretched (K : PySem.W.Frag) : List Rp → Rp → Prop := p2 (fun a k => Bp a ∧ Bq k) (pR K) (qR K) (pR K) (fun a k => Kzq1.times k a)
theorem ok_stretched (A : Fa K mg "stretched" s_stretched ["one", "number"]) (T : Txt K mg CPiece CPart) (C_times : Cb P w K mg base "times" 42 ["one", "other"] (pre_times K)) : Cb P w K mg base "stretched" 43 ["one", "number"] (pre_stretched K) := by
  obtain ⟨f, fd, F, hm, hb⟩ := A.ex
  have nd := sc_stretched.nd
  refine ⟨f, fd, fn_ok F sc_stretched (fun rs r h => p2_len h) (fun cdv A outer s H E hr => ⟨_, (pss_one (ps_ret (pe_tup (pa_cons (pe_cb C_times (hr.mono (by decide)) rfl (pa_cons (pe_ix (ixT (K := K) rfl) (pv 0) pe_int (fun _ _ => rfl)) (pa_cons (pv 1) pa_nil))) (pa_cons (pe_cb C_times (hr.mono (by decide)) rfl (pa_cons (pe_ix (ixT (K := K) rfl) (pv 0) pe_int (fun _ _ => rfl)) (pa_cons (pv 1) pa_nil))) pa_nil))))), fun rs r h => ?_⟩), hm, F.kp, hb⟩
  obtain ⟨a, k, ⟨ha, hk⟩, rfl, rfl⟩ := h
  refine s_ret (er_eq (rb := pR K (Kzq1.times k a)) (er_tup (K := K) (ar_cons (er_c2 (er_p0 (er_var rfl)) (er_var rfl) ?_) (ar_cons (er_c2 (er_p1 (er_var rfl)) (er_var rfl) ?_) ar_nil))) ?_)
  · exact ⟨ha.x, hk⟩
  · exact ⟨ha.y, hk⟩
  · show tR K [qR K (Kzq1.mul a.x k), qR K (Kzq1.mul a.y k)] = tR K [qR K (Kzq1.mul k a.x), qR K (Kzq1.mul k a.y)]
    rw [mul_comm2 a.x, mul_comm2 a.y]
abbrev s_without_like : Stmt := top 24
theorem sc_without_like : FnScope ["corners", "k", "corner"] ["corners"] (defScope s_without_like) := ⟨rfl, rfl, rfl, by decide +kernel, rfl, by decide +kernel, by decide +kernel⟩
abbrev pre_without_like (K : PySem.W.Frag) : List Rp → Rp → Prop := p1 (fun l : List Kzq1.P => l.length ≤ 45000) (fun l => sR K (l.map (pR K))) (fun l => lR (l.map (pR K))) uq
theorem ok_without_like (A : Fa K mg "without_like" s_without_like ["corners"]) (T : Txt K mg CPiece CPart) : Cb P w K mg base "without_like" 1 ["corners"] (pre_without_like K) := by
  obtain ⟨f, fd, F, hm, hb⟩ := A.ex
  have nd := sc_without_like.nd
  refine ⟨f, fd, fn_ok F sc_without_like (fun rs r h => p1_len h) (fun cdv A outer s H E hr => ⟨_, (pss_one (ps_ret (pe_lc (own := [("k", 1), ("corner", 2)]) (g := (gTup K 2 (gCons (gName 1) (gCons (gName 2) gNil)))) rfl nd (pi_enum (by rfl) T.enumerate (pa_cons (pv 0) pa_nil)) (blkOk_by (own := [("k", 1), ("corner", 2)]) (N := ["corners", "k", "corner"]) (sc := defScope s_without_like) (by decide +kernel)) (fun _ _ _ _ _ => (pg_tup rfl (pgs_cons (pg_name (i := 1) nd rfl (by first | exact Or.inl rfl | exact Or.inr rfl)) (pgs_cons (pg_name (i := 2) nd rfl (by first | exact Or.inl rfl | exact Or.inr rfl)) pgs_nil)))) (fun _ _ _ _ _ => (pts_one (pt_cmpR (opNeD (K := K) hr.units rfl) (pv 2) (pe_ix (ixL (K := K) rfl) (pv 0) (pe_op op_sub (pv 1) pe_int) (fun _ _ => rfl)) (nomark _)))) (fun _ _ _ _ _ => (pv 2))))), fun rs r h => ?_⟩), hm, F.kp, hb⟩
  obtain ⟨l, hz, rfl, rfl⟩ := h
  have hz : l.length ≤ 45000 := hz
  refine s_ret (er_eq (er_lc (ir_enum (ar_cons (er_var rfl) ar_nil)) (fun i => !(Kzq1.at0 l i == Kzq1.at0 l (i + l.length - 1))) (fun i => pR K (Kzq1.at0 l i)) (by rw [enR_len, List.length_map]; omega) ?_) ?_)
  · intro i r hr
    obtain ⟨x, hx, rfl⟩ := enR_get hr
    obtain ⟨z, hz, rfl⟩ := get_map hx
    obtain rfl := at0_of hz
    have hi : i < l.length := (List.getElem?_eq_some_iff.mp hz).1
    refine ⟨_, _, g_two, fun _ h => h, tr_test (er_neP (er_var rfl) (er_ixl (er_var rfl) (er_sub (er_var rfl) er_c) ?_)), fun _ => er_var rfl⟩
    exact atI_mapS (atI_prev hi)
  · rw [enR_len, List.length_map, gv_fm, ← uq_is]
abbrev s_without_straight : Stmt := top 25
theorem sc_without_straight : FnScope ["corners", "found", "k", "corner"] ["corners"] (defScope s_without_straight) := ⟨rfl, rfl, rfl, by decide +kernel, rfl, by decide +kernel, by decide +kernel⟩
abbrev pre_without_straight (K : PySem.W.Frag) : List Rp → Rp → Prop := p1 (fun l : List Kzq1.P => l.length ≤ 45000 ∧ BL 7000000 l ∧ CL l) (fun l => sR K (l.map (pR K))) (fun l => lR (l.map (pR K))) Kzq1.straightened
theorem ok_without_straight (A : Fa K mg "without_straight" s_without_straight ["corners"]) (T : Txt K mg CPiece CPart) (C_turning : Cb P w K mg base "turning" 44 ["a", "b", "c"] (pre_turning K)) : Cb P w K mg base "without_straight" 45 ["corners"] (pre_without_straight K) := by
  obtain ⟨f, fd, F, hm, hb⟩ := A.ex
  have nd := sc_without_straight.nd
  obtain ⟨a_ZERO, g_ZERO, e_ZERO⟩ := T.z_ZERO
  refine ⟨f, fd, fn_ok F sc_without_straight (fun rs r h => p1_len h) (fun cdv A outer s H E hr => ⟨_, (pss_cons (ps_set (i := 1) nd rfl (by first | exact Or.inl rfl | exact Or.inr rfl) (pe_lst pa_nil))
      (pss_cons (ps_for PassesOwn.never rfl (pi_enum (by rfl) T.enumerate (pa_cons (pv 0) pa_nil)) (pg_tup rfl (pgs_cons (pg_name (i := 2) nd rfl (by first | exact Or.inl rfl | exact Or.inr rfl)) (pgs_cons (pg_name (i := 3) nd rfl (by first | exact Or.inl rfl | exact Or.inr rfl)) pgs_nil))) (pss_one (ps_if (pt_cmpR (opNeD (K := K) hr.units rfl) (pe_cb C_turning (hr.mono (by decide)) rfl (pa_cons (pe_ix (ixL (K := K) rfl) (pv 0) (pe_op op_sub (pv 2) pe_int) (fun _ _ => rfl)) (pa_cons (pv 3) (pa_cons (pe_ix (ixL (K := K) rfl) (pv 0) (pe_op op_mod (pe_op op_add (pv 2) pe_int) (pe_callB (cLen (K := K) rfl) (by rfl) T.len PySem.boot_len (pa_cons (pv 0) pa_nil))) (fun _ _ => rfl)) pa_nil)))) (pe_gt rfl g_ZERO) (nomark _)) (pss_one (ps_expr (pe_bm PySem.F.plainAttrs_list PySem.F.slot_list_append PySem.F.type_list_append mt_append (pv 1) (pa_cons (pv 3) pa_nil)))) pss_nil)))
      (pss_one (ps_ret (pv 1))))), fun rs r h => ?_⟩), hm, F.kp, hb⟩
  obtain ⟨l, ⟨hz, hb, hc⟩, rfl, rfl⟩ := h
  have nl : ((l.map (pR K)).length : Int) = (l.length : Int) := by rw [List.length_map]
  refine s_seq (s_own ar_nil) (s_seq (s_for (fl := .nx [.r (sR K (l.map (pR K))), .l ((Kzq1.straightened l).map (pR K)), .no, .no]) (ir_enum (ar_cons (er_var rfl) ar_nil)) l.length (fun i => [.r (sR K (l.map (pR K))), .l (((List.range i).filterMap (gS l)).map (pR K)), .no, .no]) (Le.refl _) ?_ ?_ (.inl ⟨?_, _, rfl, Le.refl _⟩)) (s_freeze 1 rfl (s_ret (er_var rfl))))
  · rw [enR_len, List.length_map]; exact Nat.le_refl _
  · intro i r hi hr
    obtain ⟨x, hx, rfl⟩ := enR_get hr
    obtain ⟨z, hz', rfl⟩ := get_map hx
    obtain rfl := at0_of hz'
    have h0 : 0 < l.length := by omega
    have m (j : Nat) : Kzq1.at0 l j ∈ l := at0_mem h0
    have hlen : ((List.range i).filterMap (gS l)).length ≤ i := Nat.le_trans (List.length_filterMap_le _ _) (by rw [List.length_range]; exact Nat.le_refl _)
    have ez := isZero_zero (can_turn (hc _ (m (i + l.length - 1))) (hc _ (m i)) (hc _ (m (i + 1))))
    refine ⟨_, _, g_two, s_if (b := !(Kzq1.turn (Kzq1.at0 l (i + l.length - 1)) (Kzq1.at0 l i) (Kzq1.at0 l (i + 1)) == Kzq1.zero)) (tr_test (er_neQ (er_c3 (er_ixl (er_var rfl) (er_sub (er_var rfl) er_c) ?_) (er_var rfl) (er_ixl (er_var rfl) (er_mod (er_add (er_var rfl) er_c) (er_len (er_var rfl)) ?_) ?_) ?_) (er_g e_ZERO))) (fun c => s_le2 (s_app (i := 1) rfl (er_var rfl) ?_) ?_) (fun c => s_le2 s_next ?_)⟩
    · exact atI_mapS (atI_prev hi)
    · rw [nl]; omega
    · rw [nl]; exact atI_mapS (atI_next h0)
    · exact ⟨hb _ (m _), hb _ (m _), hb _ (m _)⟩
    · rw [List.length_map]; omega
    · rw [ez] at c
      have : gS l i = some (Kzq1.at0 l i) := if_neg (by simpa using c)
      rw [fm_succ, this]
      show Le [_, .l (_ ++ [_]), _, _] _
      rw [← List.map_singleton, ← List.map_append]
      exact (Le.no _ 2).trans (Le.no _ 3)
    · rw [ez] at c
      have : gS l i = none := if_pos (by simpa using c)
      rw [fm_succ, this]
      show Le _ [_, .l ((_ ++ []).map _), _, _]
      rw [List.append_nil]
      exact (Le.no _ 2).trans (Le.no _ 3)
  · rw [enR_len, List.length_map]
abbrev s_crossing : Stmt := top 31
theorem sc_crossing : FnScope ["one", "other", "here", "there", "share"] ["one", "other", "here", "there"] (defScope s_crossing) := ⟨rfl, rfl, rfl, by decide +kernel, rfl, by decide +kernel, by decide +kernel⟩
abbrev pre_crossing (K : PySem.W.Frag) : List Rp → Rp → Prop := p4 (fun a b u v => Fp 3000000 a ∧ Fp 3000000 b ∧ Fq 3000000 u ∧ Fq 3000000 v ∧ (Kzq1.sub u v).n ≠ 0) (pR K) (pR K) (qR K) (qR K) (pR K) (fun a b u v => Kzq1.plus a (Kzq1.times (Kzq1.div u (Kzq1.sub u v)) (Kzq1.less b a)))
theorem ok_crossing (A : Fa K mg "crossing" s_crossing ["one", "other", "here", "there"]) (T : Txt K mg CPiece CPart) (C_over : Cb P w K mg base "over" 42 ["one", "other"] (pre_over K)) (C_together : Cb P w K mg base "together" 43 ["one", "other"] (pre_together K)) (C_minus : Cb P w K mg base "minus" 42 ["one", "other"] (pre_minus K)) (C_stretched : Cb P w K mg base "stretched" 43 ["one", "number"] (pre_stretched K)) (C_between : Cb P w K mg base "between" 43 ["one", "other"] (pre_between K)) : Cb P w K mg base "crossing" 44 ["one", "other", "here", "there"] (pre_crossing K) := by
  obtain ⟨f, fd, F, hm, hb⟩ := A.ex
  have nd := sc_crossing.nd
  refine ⟨f, fd, fn_ok F sc_crossing (fun rs r h => q4_len h) (fun cdv A outer s H E hr => ⟨_, (pss_cons (ps_set (i := 4) nd rfl (by first | exact Or.inl rfl | exact Or.inr rfl) (pe_cb C_over (hr.mono (by decide)) rfl (pa_cons (pv 2) (pa_cons (pe_cb C_minus (hr.mono (by decide)) rfl (pa_cons (pv 2) (pa_cons (pv 3) pa_nil))) pa_nil))))
      (pss_one (ps_ret (pe_cb C_together (hr.mono (by decide)) rfl (pa_cons (pv 0) (pa_cons (pe_cb C_stretched (hr.mono (by decide)) rfl (pa_cons (pe_cb C_between (hr.mono (by decide)) rfl (pa_cons (pv 0) (pa_cons (pv 1) pa_nil))) (pa_cons (pv 4) pa_nil))) pa_nil)))))), fun rs r h => ?_⟩), hm, F.kp, hb⟩
  obtain ⟨a, b, u, v, ⟨ha, hb, hu, hv, h0⟩, rfl, rfl⟩ := h
  refine s_seq (s_set (er_c2 (er_var rfl) (er_c2 (er_var rfl) (er_var rfl) ?_) ?_)) (s_ret (er_c2 (er_var rfl) (er_c2 (er_c2 (er_var rfl) (er_var rfl) ?_) (er_var rfl) ?_) ?_))
  · exact ⟨hu.b (by decide), hv.b (by decide)⟩
  · exact ⟨hu.b (by decide), (hu.sub hv).b (by decide), h0⟩
  · exact ⟨ha.b (by decide), hb.b (by decide)⟩
  · exact ⟨(hb.less ha).b (by decide), (hu.div (hu.sub hv) h0).b (by decide)⟩
  · exact ⟨ha.b (by decide), (Fp.times (hu.div (hu.sub hv) h0) (hb.less ha)).b (by decide)⟩
abbrev s_clipped : Stmt := top 32
theorem sc_clipped : FnScope ["corners", "a", "b", "lefts", "corner", "found", "k", "after"] ["corners", "a", "b"] (defScope s_clipped) := ⟨rfl, rfl, rfl, by decide +kernel, rfl, by decide +kernel, by decide +kernel⟩
abbrev pre_clipped (K : PySem.W.Frag) : List Rp → Rp → Prop := p3 (fun l a b => ∃ s, ClP s l a b) (fun l => sR K (l.map (pR K))) (pR K) (pR K) (fun l => lR (l.map (pR K))) (fun l a b => Kzq1.clip (a, b) l)
theorem ok_clipped (A : Fa K mg "clipped" s_clipped ["corners", "a", "b"]) (T : Txt K mg CPiece CPart) (C_turning : Cb P w K mg base "turning" 44 ["a", "b", "c"] (pre_turning K)) (C_crossing : Cb P w K mg base "crossing" 44 ["one", "other", "here", "there"] (pre_crossing K)) : Cb P w K mg base "clipped" 45 ["corners", "a", "b"] (pre_clipped K) := by
  obtain ⟨f, fd, F, hm, hb⟩ := A.ex
  have nd := sc_clipped.nd
  refine ⟨f, fd, fn_ok F sc_clipped (fun rs r h => p3_len h) (fun cdv A outer s H E hr => ⟨_, (pss_cons (ps_setLc (i := 3) (own := [("corner", 4)]) (g := (gName 4)) (tt := tYes) rfl nd rfl rfl (sw_true rfl rfl rfl (by decide +kernel)) (pi_list (pv 0)) (blkOk_by (own := [("corner", 4)]) (N := ["corners", "a", "b", "lefts", "corner", "found", "k", "after"]) (sc := defScope s_clipped) (by decide +kernel)) (fun _ _ _ _ _ => (pg_name (i := 4) nd rfl (by first | exact Or.inl rfl | exact Or.inr rfl))) (fun _ _ _ _ _ => pts_nil) (fun _ _ _ _ _ => (pe_cb C_turning (hr.mono (by decide)) rfl (pa_cons (pv 1) (pa_cons (pv 2) (pa_cons (pv 4) pa_nil))))))
      (pss_cons (ps_set (i := 5) nd rfl (by first | exact Or.inl rfl | exact Or.inr rfl) (pe_lst pa_nil))
      (pss_cons (ps_for PassesOwn.never rfl (pi_enum (by rfl) T.enumerate (pa_cons (pv 0) pa_nil)) (pg_tup rfl (pgs_cons (pg_name (i := 6) nd rfl (by first | exact Or.inl rfl | exact Or.inr rfl)) (pgs_cons (pg_name (i := 4) nd rfl (by first | exact Or.inl rfl | exact Or.inr rfl)) pgs_nil))) (pss_cons (ps_set (i := 7) nd rfl (by first | exact Or.inl rfl | exact Or.inr rfl) (pe_op op_mod (pe_op op_add (pv 6) pe_int) (pe_callB (cLen (K := K) rfl) (by rfl) T.len PySem.boot_len (pa_cons (pv 0) pa_nil))))
      (pss_cons (ps_if (pt_cmpR op_ge (pe_ix (ixT (K := K) rfl) (pe_ix (ixL (K := K) rfl) (pv 3) (pv 6) (fun _ _ => rfl)) pe_int (fun _ _ => rfl)) pe_int (nomark _)) (pss_one (ps_expr (pe_bm PySem.F.plainAttrs_list PySem.F.slot_list_append PySem.F.type_list_append mt_append (pv 5) (pa_cons (pv 4) pa_nil)))) pss_nil)
      (pss_one (ps_if (pt_cmpR op_lt (pe_op op_mulX (pe_ix (ixT (K := K) rfl) (pe_ix (ixL (K := K) rfl) (pv 3) (pv 6) (fun _ _ => rfl)) pe_int (fun _ _ => rfl)) (pe_ix (ixT (K := K) rfl) (pe_ix (ixL (K := K) rfl) (pv 3) (pv 7) (fun _ _ => rfl)) pe_int (fun _ _ => rfl))) pe_int (nomark _)) (pss_one (ps_expr (pe_bm PySem.F.plainAttrs_list PySem.F.slot_list_append PySem.F.type_list_append mt_append (pv 5) (pa_cons (pe_cb C_crossing (hr.mono (by decide)) rfl (pa_cons (pv 4) (pa_cons (pe_ix (ixL (K := K) rfl) (pv 0) (pv 7) (fun _ _ => rfl)) (pa_cons (pe_ix (ixL (K := K) rfl) (pv 3) (pv 6) (fun _ _ => rfl)) (pa_cons (pe_ix (ixL (K := K) rfl) (pv 3) (pv 7) (fun _ _ => rfl)) pa_nil))))) pa_nil)))) pss_nil)))))
      (pss_one (ps_ret (pv 5)))))), fun rs r h => ?_⟩), hm, F.kp, hb⟩
  obtain ⟨l, a, b, ⟨s, hs, hd, hl, hz⟩, rfl, rfl⟩ := h
  have nl : ((l.map (pR K)).length : Int) = (l.length : Int) := by rw [List.length_map]
  have fa : Fp 7000000 a := hd.f1.mono (by omega)
  have fb : Fp 7000000 b := hd.f2.mono (by omega)
  have fl : ∀ z ∈ l, Fp 10000 z := fun z hz => (hl.f z hz).mono (by omega)
  refine s_seq (s_set (r := lR (l.map fun z => qR K (Kzq1.turn a b z))) (er_mapL (ra := pR K) (rc := fun z => qR K (Kzq1.turn a b z)) (ir_list (er_var rfl)) (by omega) fun i z hzz => ⟨_, _, g_name, fun _ h => h, (er_c3 (er_var rfl) (er_var rfl) (er_var rfl) ?_)⟩))
    (s_seq (s_own ar_nil) (s_seq (s_for (fl := .nx [.r (sR K (l.map (pR K))), .r (pR K a), .r (pR K b), .r (lR (l.map fun z => qR K (Kzq1.turn a b z))), .no, .l ((Kzq1.clip (a, b) l).map (pR K)), .no, .no]) (ir_enum (ar_cons (er_var rfl) ar_nil)) l.length
      (fun i => [.r (sR K (l.map (pR K))), .r (pR K a), .r (pR K b), .r (lR (l.map fun z => qR K (Kzq1.turn a b z))), .no, .l (((List.range i).flatMap fun j => blk (a, b) (Kzq1.at0 l j) (Kzq1.at0 l (j + 1))).map (pR K)), .no, .no]) (Le.refl _) ?_ ?_ (.inl ⟨?_, _, rfl, Le.refl _⟩)) (s_freeze 5 rfl (s_ret (er_var rfl)))))
  · exact ⟨fa, fb, (fl z (List.mem_of_getElem? hzz)).mono (by decide)⟩
  · rw [enR_len, List.length_map]; exact Nat.le_refl _
  · intro i r hi hr
    obtain ⟨x, hx, rfl⟩ := enR_get hr
    obtain ⟨z, hz', rfl⟩ := get_map hx
    obtain rfl := at0_of hz'
    have h0 : 0 < l.length := by omega
    have m (j : Nat) : Kzq1.at0 l j ∈ l := at0_mem h0
    have ft (j : Nat) : Fq 3000000 (Kzq1.turn a b (Kzq1.at0 l j)) := ((hd.f1.mono (by omega : _ ≤ 10000)).turn (hd.f2.mono (by omega : _ ≤ 10000)) (fl _ (m j))).mono (by decide)
    have ti (j : Nat) (hj : j < l.length) : atI (l.map fun z => qR K (Kzq1.turn a b z)) (j : Int) = some (qR K (Kzq1.turn a b (Kzq1.at0 l j))) := by
      have g := at0_get (l := l) (i := j) h0
      rw [Nat.mod_eq_of_lt hj] at g
      exact atI_mapS (f := fun z => qR K (Kzq1.turn a b z)) (atI_ofNat rfl g)
    have tn : atI (l.map fun z => qR K (Kzq1.turn a b z)) (((i : Int) + 1) % ((l.map (pR K)).length : Int)) = some (qR K (Kzq1.turn a b (Kzq1.at0 l (i + 1)))) := by
      rw [nl]
      exact atI_mapS (f := fun z => qR K (Kzq1.turn a b z)) (atI_next h0)
    have hlen : ((List.range i).flatMap fun j => blk (a, b) (Kzq1.at0 l j) (Kzq1.at0 l (j + 1))).length ≤ 2 * i := by
      have q := flat_lenA (f := fun j => blk (a, b) (Kzq1.at0 l j) (Kzq1.at0 l (j + 1))) (List.range i) 2 fun j => ?_
      · rw [List.length_range] at q; exact q
      unfold blk ins
      rw [List.length_append]
      split <;> split <;> simp
    have e1 : Kzq1.lt (Kzq1.turn a b (Kzq1.at0 l i)) Kzq1.zero = decide ((Kzq1.turn a b (Kzq1.at0 l i)).n < 0) := lt_zero _
    have e2 := cuts_mul (a, b) (Kzq1.at0 l i) (Kzq1.at0 l (i + 1))
    generalize hF : ((List.range i).flatMap fun j => blk (a, b) (Kzq1.at0 l j) (Kzq1.at0 l (j + 1))) = F at hlen
    have hx : (List.range (i + 1)).flatMap (fun j => blk (a, b) (Kzq1.at0 l j) (Kzq1.at0 l (j + 1))) = F ++ blk (a, b) (Kzq1.at0 l i) (Kzq1.at0 l (i + 1)) := by rw [fl_succ, hF]
    let F1 := F ++ (if Kzq1.lt (Kzq1.turn a b (Kzq1.at0 l i)) Kzq1.zero = true then [] else [Kzq1.at0 l i])
    have hl1 : F1.length ≤ 2 * i + 1 := by
      show (F ++ _).length ≤ _
      rw [List.length_append]
      split <;> simp <;> omega
    refine ⟨_, _, g_two, s_seq (s_set (er_mod (er_add (er_var rfl) er_c) (er_len (er_var rfl)) ?_)) (s_seq (s_if (fl := .nx [.r (sR K (l.map (pR K))), .r (pR K a), .r (pR K b), .r (lR (l.map fun z => qR K (Kzq1.turn a b z))), .r (pR K (Kzq1.at0 l i)), .l (F1.map (pR K)), .r (iR (i : Int)), .r (iR (((i : Int) + 1) % ((l.map (pR K)).length : Int)))]) (b := decide (0 ≤ (Kzq1.turn a b (Kzq1.at0 l i)).n)) (tr_test (er_ge (er_q0 (q := Kzq1.turn a b (Kzq1.at0 l i)) (er_ixl (er_ls (er_var rfl)) (er_var rfl) ?_)) er_c)) (fun c => s_le2 (s_app (i := 5) rfl (er_var rfl) ?_) ?_) (fun c => s_le2 s_next ?_)) (s_if (b := decide ((Kzq1.turn a b (Kzq1.at0 l i)).n * (Kzq1.turn a b (Kzq1.at0 l (i + 1))).n < 0)) (tr_test (er_lt (er_mul (er_q0 (q := Kzq1.turn a b (Kzq1.at0 l i)) (er_ixl (er_ls (er_var rfl)) (er_var rfl) ?_)) (er_q0 (q := Kzq1.turn a b (Kzq1.at0 l (i + 1))) (er_ixl (er_ls (er_var rfl)) (er_var rfl) ?_)) ?_) er_c)) (fun c => s_le2 (s_app (i := 5) rfl (er_c4 (a := Kzq1.at0 l i) (b := Kzq1.at0 l (i + 1)) (c := Kzq1.turn a b (Kzq1.at0 l i)) (d := Kzq1.turn a b (Kzq1.at0 l (i + 1))) (er_var rfl) (er_ixl (er_var rfl) (er_var rfl) ?_) (er_ixl (er_ls (er_var rfl)) (er_var rfl) ?_) (er_ixl (er_ls (er_var rfl)) (er_var rfl) ?_) ?_) ?_) ?_) (fun c => s_le2 s_next ?_)))⟩
    · rw [nl]; omega
    · exact ti i hi
    · rw [List.length_map]; omega
    · have c : 0 ≤ (Kzq1.turn a b (Kzq1.at0 l i)).n := of_decide_eq_true c
      refine Le.of ?_
      show _ = [_, _, _, _, _, Sl.l ((F ++ if Kzq1.lt (Kzq1.turn a b (Kzq1.at0 l i)) Kzq1.zero = true then [] else [Kzq1.at0 l i]).map (pR K)), _, _]
      rw [if_neg (by rw [e1]; simpa using c), List.map_append]
      rfl
    · have c : ¬ 0 ≤ (Kzq1.turn a b (Kzq1.at0 l i)).n := of_decide_eq_false c
      refine Le.of ?_
      show _ = [_, _, _, _, _, Sl.l ((F ++ if Kzq1.lt (Kzq1.turn a b (Kzq1.at0 l i)) Kzq1.zero = true then [] else [Kzq1.at0 l i]).map (pR K)), _, _]
      rw [if_pos (by rw [e1]; simpa using c), List.append_nil]
      rfl
    · exact ti i hi
    · exact tn
    · exact mul_lim (by exact ((ft i).b (by decide)).n) ((ft (i + 1)).b (by decide)).n
    · rw [nl]; exact atI_mapS (atI_next h0)
    · exact ti i hi
    · exact tn
    · have c : cuts (a, b) (Kzq1.at0 l i) (Kzq1.at0 l (i + 1)) = true := by rw [← e2]; exact c
      have o := (cuts_is hd.cs (hl.c _ (m i)) (hl.c _ (m (i + 1)))).mp c
      refine ⟨(fl _ (m i)).mono (by decide), (fl _ (m (i + 1))).mono (by decide), ft i, ft (i + 1), fun q => ?_⟩
      have cu := can_turn hd.c1 hd.c2 (hl.c _ (m i))
      have cv := can_turn hd.c1 hd.c2 (hl.c _ (m (i + 1)))
      rw [vq_zero (can_sub cu.1 cv.1).1, vq_sub cu.1 cv.1, vq_turn hd.c1 hd.c2 (hl.c _ (m i)), vq_turn hd.c1 hd.c2 (hl.c _ (m (i + 1)))] at q
      unfold us at o
      grind
    · rw [List.length_map]; omega
    · have c : cuts (a, b) (Kzq1.at0 l i) (Kzq1.at0 l (i + 1)) = true := by rw [← e2]; exact c
      rw [hx]
      have : F ++ blk (a, b) (Kzq1.at0 l i) (Kzq1.at0 l (i + 1)) = F1 ++ [onLineP (a, b) (Kzq1.at0 l i) (Kzq1.at0 l (i + 1))] := by
        show F ++ (_ ++ ins _ _ _) = (F ++ _) ++ _
        have : ins (a, b) (Kzq1.at0 l i) (Kzq1.at0 l (i + 1)) = [onLineP (a, b) (Kzq1.at0 l i) (Kzq1.at0 l (i + 1))] := if_pos c
        rw [this, List.append_assoc]
      have e3 : (F1 ++ [onLineP (a, b) (Kzq1.at0 l i) (Kzq1.at0 l (i + 1))]).map (pR K) = F1.map (pR K) ++ [pR K (onLineP (a, b) (Kzq1.at0 l i) (Kzq1.at0 l (i + 1)))] := List.map_append
      rw [this, e3]
      exact ((Le.no _ 4).trans (Le.no _ 6)).trans (Le.no _ 7)
    · have c : ¬ cuts (a, b) (Kzq1.at0 l i) (Kzq1.at0 l (i + 1)) = true := by rw [← e2, c]; exact Bool.false_ne_true
      rw [hx]
      have : F ++ blk (a, b) (Kzq1.at0 l i) (Kzq1.at0 l (i + 1)) = F1 := by
        show F ++ (_ ++ ins _ _ _) = F ++ _
        have : ins (a, b) (Kzq1.at0 l i) (Kzq1.at0 l (i + 1)) = [] := if_neg c
        rw [this, List.append_nil]
      rw [this]
      exact ((Le.no _ 4).trans (Le.no _ 6)).trans (Le.no _ 7)
  · rw [enR_len, List.length_map]
abbrev s_piece_of : Stmt := top 26
theorem sc_piece_of : FnScope ["corners", "found"] ["corners"] (defScope s_piece_of) := ⟨rfl, rfl, rfl, by decide +kernel, rfl, by decide +kernel, by decide +kernel⟩
abbrev pre_piece_of (K : PySem.W.Frag) (CPiece : Addr) : List Rp → Rp → Prop := p1 (fun l : List Kzq1.P => l.length ≤ 40000 ∧ BL 7000000 l ∧ CL l) (fun l => sR K (l.map (pR K))) (opR (pcR K CPiece)) pcF2
theorem ok_piece_of (A : Fa K mg "piece_of" s_piece_of ["corners"]) (T : Txt K mg CPiece CPart) (C_without_straight : Cb P w K mg base "without_straight" 45 ["corners"] (pre_without_straight K)) (C_Piece : Ci P w K mg base "Piece" CPiece 44 ["self", "corners"] (pre_Piece_init K)) (C_without_like : Cb P w K mg base "without_like" 1 ["corners"] (pre_without_like K)) (C_from_leftmost : Cb P w K mg base "from_leftmost" 44 ["corners"] (pre_from_leftmost K)) : Cb P w K mg base "piece_of" 46 ["corners"] (pre_piece_of K CPiece) := by
  obtain ⟨f, fd, F, hm, hb⟩ := A.ex
  have nd := sc_piece_of.nd
  refine ⟨f, fd, fn_ok F sc_piece_of (fun rs r h => p1_len h) (fun cdv A outer s H E hr => ⟨_, (pss_cons (ps_set (i := 1) nd rfl (by first | exact Or.inl rfl | exact Or.inr rfl) (pe_cb C_without_straight (hr.mono (by decide)) rfl (pa_cons (pe_cb C_without_like (hr.mono (by decide)) rfl (pa_cons (pv 0) pa_nil)) pa_nil)))
      (pss_cons (ps_if (pt_cmpR op_lt (pe_callB (cLen (K := K) rfl) (by rfl) T.len PySem.boot_len (pa_cons (pv 1) pa_nil)) pe_int (nomark _)) (pss_one (ps_ret pe_non)) pss_nil)
      (pss_one (ps_ret (pe_ci C_Piece (hr.mono (by decide)) rfl (pa_cons (pe_cb C_from_leftmost (hr.mono (by decide)) rfl (pa_cons (pv 1) pa_nil)) pa_nil)))))), fun rs r h => ?_⟩), hm, F.kp, hb⟩
  obtain ⟨l, ⟨hz, hb, hc⟩, rfl, rfl⟩ := h
  have hu : ∀ z ∈ uq l, z ∈ l := fun z hz => (uq_sub l).subset hz
  have lu : (uq l).length ≤ l.length := (uq_sub l).length_le
  have hs : ∀ z ∈ Kzq1.straightened (uq l), z ∈ l := fun z hz => hu z ((straight_sub _).subset hz)
  have ls : (Kzq1.straightened (uq l)).length ≤ l.length := Nat.le_trans (straight_sub _).length_le lu
  refine s_seq (s_set (r := lR ((Kzq1.straightened (uq l)).map (pR K))) (er_c1 (er_ls (er_c1 (er_var rfl) ?_)) ?_)) ?_
  · show l.length ≤ 45000; omega
  · exact ⟨by omega, fun z hz => hb z (hu z hz), fun z hz => hc z (hu z hz)⟩
  unfold pcF2
  have ln : ((Kzq1.straightened (uq l)).map (pR K)).length = (Kzq1.straightened (uq l)).length := List.length_map _
  by_cases c : (Kzq1.straightened (uq l)).length < 3
  · rw [if_pos c]
    exact s_seqR (s_ifT (tr_eq (tr_test (er_lt (er_len (er_ls (er_var rfl))) er_c)) (decide_eq_true (by rw [ln]; omega))) (s_ret er_c))
  · rw [if_neg c]
    have ne : Kzq1.straightened (uq l) ≠ [] := fun e => c (by rw [e]; decide)
    refine s_seq (s_ifF (tr_eq (tr_test (er_lt (er_len (er_ls (er_var rfl))) er_c)) (decide_eq_false (by rw [ln]; omega))) s_next) (s_ret (er_make (ar_cons (er_c1 (a := Kzq1.straightened (uq l)) (er_ls (er_var rfl)) ?_) ar_nil) ?_))
    · exact ⟨ne, fun z hz => (hb z (hs z hz)).b (by decide), by omega⟩
    · refine ⟨_, ?_, fun z hz => (hb z (hs z (begun_mem hz))).b (by decide), by rw [begun_len]; omega, rfl, rfl⟩
      intro e
      have := begun_len (Kzq1.straightened (uq l))
      rw [e] at this
      exact c (by rw [← this]; decide)
abbrev s_are_apart : Stmt := top 33
theorem sc_are_apart : FnScope ["one", "other", "left", "right", "low", "high", "begin", "end", "below", "above"] ["one", "other"] (defScope s_are_apart) := ⟨rfl, rfl, rfl, by decide +kernel, rfl, by decide +kernel, by decide +kernel⟩
abbrev pre_are_apart (K : PySem.W.Frag) (CPiece : Addr) : List Rp → Rp → Prop := p2 (fun p q => p ≠ [] ∧ q ≠ [] ∧ BL LIM p ∧ BL LIM q) (pcR K CPiece) (pcR K CPiece) bR apart
theorem ok_are_apart (A : Fa K mg "are_apart" s_are_apart ["one", "other"]) (T : Txt K mg CPiece CPart) (C_is_less : Cb P w K mg base "is_less" 42 ["one", "other"] (pre_is_less K)) : Cb P w K mg base "are_apart" 43 ["one", "other"] (pre_are_apart K CPiece) := by
  obtain ⟨f, fd, F, hm, hb⟩ := A.ex
  have nd := sc_are_apart.nd
  refine ⟨f, fd, fn_ok F sc_are_apart (fun rs r h => p2_len h) (fun cdv A outer s H E hr => ⟨_, (pss_cons (ps_asg (peFld (K := K) (pv 0) rfl) (pg_tup rfl (pgs_cons (pg_name (i := 2) nd rfl (by first | exact Or.inl rfl | exact Or.inr rfl)) (pgs_cons (pg_name (i := 3) nd rfl (by first | exact Or.inl rfl | exact Or.inr rfl)) (pgs_cons (pg_name (i := 4) nd rfl (by first | exact Or.inl rfl | exact Or.inr rfl)) (pgs_cons (pg_name (i := 5) nd rfl (by first | exact Or.inl rfl | exact Or.inr rfl)) pgs_nil))))))
      (pss_cons (ps_asg (peFld (K := K) (pv 1) rfl) (pg_tup rfl (pgs_cons (pg_name (i := 6) nd rfl (by first | exact Or.inl rfl | exact Or.inr rfl)) (pgs_cons (pg_name (i := 7) nd rfl (by first | exact Or.inl rfl | exact Or.inr rfl)) (pgs_cons (pg_name (i := 8) nd rfl (by first | exact Or.inl rfl | exact Or.inr rfl)) (pgs_cons (pg_name (i := 9) nd rfl (by first | exact Or.inl rfl | exact Or.inr rfl)) pgs_nil))))))
      (pss_cons (ps_if (PW.pt (pw_or (pt_not (pt_val (pe_cb C_is_less (hr.mono (by decide)) rfl (pa_cons (pv 2) (pa_cons (pv 7) pa_nil))))) (pw_or1 (pt_not (pt_val (pe_cb C_is_less (hr.mono (by decide)) rfl (pa_cons (pv 6) (pa_cons (pv 3) pa_nil)))))))) (pss_one (ps_ret pe_bl)) pss_nil)
      (pss_one (ps_ret (pe_or (pe_not (pe_cb C_is_less (hr.mono (by decide)) rfl (pa_cons (pv 4) (pa_cons (pv 9) pa_nil)))) (pe_one (pe_not (pe_cb C_is_less (hr.mono (by decide)) rfl (pa_cons (pv 8) (pa_cons (pv 5) pa_nil))))))))))), fun rs r h => ?_⟩), hm, F.kp, hb⟩
  obtain ⟨p, q, ⟨np, nq, bp, bq⟩, rfl, rfl⟩ := h
  obtain ⟨p1, p2, p3, p4⟩ := box_bq np bp
  obtain ⟨q1, q2, q3, q4⟩ := box_bq nq bq
  refine s_seq (s_asg (r := tR K [qR K (leastQ (p.map (·.x))), qR K (greatQ (p.map (·.x))), qR K (leastQ (p.map (·.y))), qR K (greatQ (p.map (·.y)))]) (er_fld (er_var rfl) T.cl_Piece T.n_bounds rfl) (g_tup (gs_cons g_name (gs_cons g_name (gs_cons g_name (gs_cons g_name gs_nil))))))
    (s_seq (s_asg (r := tR K [qR K (leastQ (q.map (·.x))), qR K (greatQ (q.map (·.x))), qR K (leastQ (q.map (·.y))), qR K (greatQ (q.map (·.y)))]) (er_fld (er_var rfl) T.cl_Piece T.n_bounds rfl) (g_tup (gs_cons g_name (gs_cons g_name (gs_cons g_name (gs_cons g_name gs_nil)))))) ?_)
  unfold apart
  cases c : (!Kzq1.lt (leastQ (p.map (·.x))) (greatQ (q.map (·.x))) || !Kzq1.lt (leastQ (q.map (·.x))) (greatQ (p.map (·.x)))) with
  | true =>
    rw [Bool.true_or]
    refine s_seqR (s_ifT (tr_eq (tr_or (tr_not (tr_B (er_c2 (er_var rfl) (er_var rfl) ?_))) (fun hb => (tr_not (tr_B (er_c2 (er_var rfl) (er_var rfl) ?_))))) c) (s_ret er_c))
    · exact ⟨p1, q2⟩
    · exact ⟨q1, p2⟩
  | false =>
    rw [Bool.false_or]
    refine s_seq (s_ifF (tr_eq (tr_or (tr_not (tr_B (er_c2 (er_var rfl) (er_var rfl) ?_))) (fun hb => (tr_not (tr_B (er_c2 (er_var rfl) (er_var rfl) ?_))))) c) s_next) (s_ret (er_or (er_not (er_c2 (er_var rfl) (er_var rfl) ?_)) (fun hb => (er_not (er_c2 (er_var rfl) (er_var rfl) ?_)))))
    · exact ⟨p1, q2⟩
    · exact ⟨q1, p2⟩
    · exact ⟨p3, q4⟩
    · exact ⟨q3, p4⟩
abbrev s_in_both : Stmt := top 34
theorem sc_in_both : FnScope ["one", "other", "found", "a", "b"] ["one", "other"] (defScope s_in_both) := ⟨rfl, rfl, rfl, by decide +kernel, rfl, by decide +kernel, by decide +kernel⟩
abbrev pre_in_both (K : PySem.W.Frag) (CPiece : Addr) : List Rp → Rp → Prop := p2 (fun p q => ∃ s, InOk s p q) (pcR K CPiece) (pcR K CPiece) (opR (pcR K CPiece)) inB
theorem ok_in_both (A : Fa K mg "in_both" s_in_both ["one", "other"]) (T : Txt K mg CPiece CPart) (C_are_apart : Cb P w K mg base "are_apart" 43 ["one", "other"] (pre_are_apart K CPiece)) (C_sides_of : Cb P w K mg base "sides_of" 1 ["corners"] (pre_sides_of K)) (C_piece_of : Cb P w K mg base "piece_of" 46 ["corners"] (pre_piece_of K CPiece)) (C_clipped : Cb P w K mg base "clipped" 45 ["corners", "a", "b"] (pre_clipped K)) : Cb P w K mg base "in_both" 47 ["one", "other"] (pre_in_both K CPiece) := by
  obtain ⟨f, fd, F, hm, hb⟩ := A.ex
  have nd := sc_in_both.nd
  refine ⟨f, fd, fn_ok F sc_in_both (fun rs r h => p2_len h) (fun cdv A outer s H E hr => ⟨_, (pss_cons (ps_if (pt_val (pe_cb C_are_apart (hr.mono (by decide)) rfl (pa_cons (pv 0) (pa_cons (pv 1) pa_nil)))) (pss_one (ps_ret pe_non)) pss_nil)
      (pss_cons (ps_set (i := 2) nd rfl (by first | exact Or.inl rfl | exact Or.inr rfl) (peFld (K := K) (pv 0) rfl))
      (pss_cons (ps_for PassesOwn.never rfl (pi_list (pe_cb C_sides_of (hr.mono (by decide)) rfl (pa_cons (peFld (K := K) (pv 1) rfl) pa_nil))) (pg_tup rfl (pgs_cons (pg_name (i := 3) nd rfl (by first | exact Or.inl rfl | exact Or.inr rfl)) (pgs_cons (pg_name (i := 4) nd rfl (by first | exact Or.inl rfl | exact Or.inr rfl)) pgs_nil))) (pss_cons (ps_set (i := 2) nd rfl (by first | exact Or.inl rfl | exact Or.inr rfl) (pe_cb C_clipped (hr.mono (by decide)) rfl (pa_cons (pv 2) (pa_cons (pv 3) (pa_cons (pv 4) pa_nil)))))
      (pss_one (ps_if (pt_cmpR op_lt (pe_callB (cLen (K := K) rfl) (by rfl) T.len PySem.boot_len (pa_cons (pv 2) pa_nil)) pe_int (nomark _)) (pss_one (ps_ret pe_non)) pss_nil))))
      (pss_one (ps_ret (pe_cb C_piece_of (hr.mono (by decide)) rfl (pa_cons (pv 2) pa_nil))))))), fun rs r h => ?_⟩), hm, F.kp, hb⟩
  obtain ⟨p, q, ⟨s, ok⟩, rfl, rfl⟩ := h
  have lp := conv_len ok.cp.v
  have lq := conv_len ok.cq.v
  have np : p ≠ [] := by rintro rfl; simp at lp
  have nq : q ≠ [] := by rintro rfl; simp at lq
  have hz := ok.z
  have hsl := sides_len q
  have hlim := ok.h
  have hap : (p ≠ [] ∧ q ≠ [] ∧ BL LIM p ∧ BL LIM q) := ⟨np, nq, ok.bp.lim (by omega), ok.bq.lim (by omega)⟩
  have step : ∀ (i : Nat) (t : Kzq1.P × Kzq1.P), (Kzq1.sides q)[i]? = some t → ∃ s, ClP s (clipTo p (Kzq1.sides q) i) t.1 t.2 := fun i t ht => by
    have hi := (List.getElem?_eq_some_iff.mp ht).1
    obtain ⟨h1, h2⟩ := ok.at i (by omega)
    exact ⟨s, ok.h, cv_sd ok.cq ok.bq t (List.mem_of_getElem? ht), h1, by omega⟩
  unfold inB
  by_cases c : apart p q = true
  · rw [if_pos c]
    refine s_seqR (s_ifT (tr_eq (tr_B (er_c2 (er_var rfl) (er_var rfl) ?_)) c) (s_ret er_c))
    exact hap
  · rw [if_neg c]
    refine s_seq (s_ifF (tr_eq (tr_B (er_c2 (er_var rfl) (er_var rfl) ?_)) (by simpa using c)) s_next) (s_seq (s_set (er_fld (er_var rfl) T.cl_Piece T.n_corners rfl)) ?_)
    · exact hap
    have loop : ∀ {E' : XK} (i : Nat) (t : Kzq1.P × Kzq1.P), (Kzq1.sides q)[i]? = some t → ER (tCall (Pm (pre_clipped K)) [] E' (tCons (tVar 2) (tCons (tVar 3) (tCons (tVar 4) tNil)))) [.r (pcR K CPiece p), .r (pcR K CPiece q), .r (lR ((clipTo p (Kzq1.sides q) i).map (pR K))), .r (pR K t.1), .r (pR K t.2)] (lR ((clipTo p (Kzq1.sides q) (i + 1)).map (pR K))) := fun i t ht => by
      rw [clipTo_succ ht]
      exact (er_c3 (a := clipTo p (Kzq1.sides q) i) (b := t.1) (c := t.2) (er_ls (er_var (n := 2) rfl)) (er_var (n := 3) rfl) (er_var (n := 4) rfl) (step i t ht))
    rcases goOn_cases (Kzq1.sides q) p with ⟨h1, h2⟩ | ⟨h1, n, hn, h2, h3⟩
    · rw [h1]
      refine s_seq (s_for (fl := .nx [.r (pcR K CPiece p), .r (pcR K CPiece q), .r (lR ((clipTo p (Kzq1.sides q) (Kzq1.sides q).length).map (pR K))), .no, .no]) (ir_list (er_ls (er_c1 (er_ls (er_fld (er_var rfl) T.cl_Piece T.n_corners rfl)) ?_))) (Kzq1.sides q).length (fun i => [.r (pcR K CPiece p), .r (pcR K CPiece q), .r (lR ((clipTo p (Kzq1.sides q) i).map (pR K))), .no, .no]) (Le.refl _) ?_ ?_ (.inl ⟨?_, _, rfl, Le.refl _⟩)) (s_ret (er_c1 (er_ls (er_var rfl)) ?_))
      · show q.length ≤ 40000; omega
      · rw [List.length_map]; exact Nat.le_refl _
      · intro i r hi hr
        obtain ⟨t, ht, rfl⟩ := get_map hr
        refine ⟨_, _, g_two, s_seq (s_set (loop i t ht)) (s_ifF (tr_eq (tr_test (er_lt (er_len (er_ls (er_var rfl))) er_c)) (decide_eq_false ?_)) (s_le2 s_next ?_))⟩
        · rw [List.length_map]
          have := h2 i hi
          omega
        · exact (Le.no _ 3).trans (Le.no _ 4)
      · rw [List.length_map]
      · obtain ⟨g1, g2⟩ := ok.at (Kzq1.sides q).length (Nat.le_refl _)
        exact ⟨by omega, fun z hz => (g1.f z hz).mono (by omega), g1.c⟩
    · rw [h1]
      have e : (Kzq1.sides q)[n]? = some (Kzq1.sides q)[n] := List.getElem?_eq_getElem hn
      refine s_seqR (s_for (fl := .rt nR) (ir_list (er_ls (er_c1 (er_ls (er_fld (er_var rfl) T.cl_Piece T.n_corners rfl)) ?_))) n (fun i => [.r (pcR K CPiece p), .r (pcR K CPiece q), .r (lR ((clipTo p (Kzq1.sides q) i).map (pR K))), .no, .no]) (Le.refl _) ?_ ?_ (.inr ⟨gR K (Kzq1.sides q)[n], nR, _, _, ?_, rfl, g_two, ?_⟩))
      · show q.length ≤ 40000; omega
      · rw [List.length_map]; exact Nat.le_of_lt hn
      · intro i r hi hr
        obtain ⟨t, ht, rfl⟩ := get_map hr
        refine ⟨_, _, g_two, s_seq (s_set (loop i t ht)) (s_ifF (tr_eq (tr_test (er_lt (er_len (er_ls (er_var rfl))) er_c)) (decide_eq_false ?_)) (s_le2 s_next ?_))⟩
        · rw [List.length_map]
          have := h3 i hi
          omega
        · exact (Le.no _ 3).trans (Le.no _ 4)
      · rw [List.getElem?_map, e]; rfl
      · refine s_seq (s_set (loop n _ e)) (s_ifT (tr_eq (tr_test (er_lt (er_len (er_ls (er_var rfl))) er_c)) (decide_eq_true ?_)) (s_ret er_c))
        rw [List.length_map]
        omega
abbrev s_negative : Stmt := top 6
theorem sc_negative : FnScope ["one"] ["one"] (defScope s_negative) := ⟨rfl, rfl, rfl, by decide +kernel, rfl, by decide +kernel, by decide +kernel⟩
abbrev pre_negative (K : PySem.W.Frag) : List Rp → Rp → Prop := p1 (fun _ : Kzq1.Q => True) (qR K) (qR K) Kzq1.neg
theorem ok_negative (A : Fa K mg "negative" s_negative ["one"]) (T : Txt K mg CPiece CPart) : Cb P w K mg base "negative" 1 ["one"] (pre_negative K) := by
  obtain ⟨f, fd, F, hm, hb⟩ := A.ex
  have nd := sc_negative.nd
  refine ⟨f, fd, fn_ok F sc_negative (fun rs r h => p1_len h) (fun cdv A outer s H E hr => ⟨_, (pss_one (ps_ret (pe_tup (pa_cons (pe_un un_neg (pe_ix (ixT (K := K) rfl) (pv 0) pe_int (fun _ _ => rfl))) (pa_cons (pe_ix (ixT (K := K) rfl) (pv 0) pe_int (fun _ _ => rfl)) pa_nil))))), fun rs r h => ?_⟩), hm, F.kp, hb⟩
  obtain ⟨a, _, rfl, rfl⟩ := h
  exact s_ret (er_eq (er_tup (K := K) (ar_cons (er_neg (er_q0 (er_var rfl))) (ar_cons (er_q1 (er_var rfl)) ar_nil))) rfl)
abbrev s_moved_point : Stmt := top 35
theorem sc_moved_point : FnScope ["move", "point", "is_turned", "right", "up", "x", "y"] ["move", "point"] (defScope s_moved_point) := ⟨rfl, rfl, rfl, by decide +kernel, rfl, by decide +kernel, by decide +kernel⟩
abbrev pre_moved_point (K : PySem.W.Frag) : List Rp → Rp → Prop := p2 (fun m z => Bp z ∧ Bp m.t) (mvR K) (pR K) (pR K) Kzq2.go
theorem ok_moved_point (A : Fa K mg "moved_point" s_moved_point ["move", "point"]) (T : Txt K mg CPiece CPart) (C_plus : Cb P w K mg base "plus" 42 ["one", "other"] (pre_plus K)) (C_negative : Cb P w K mg base "negative" 1 ["one"] (pre_negative K)) : Cb P w K mg base "moved_point" 43 ["move", "point"] (pre_moved_point K) := by
  obtain ⟨f, fd, F, hm, hb⟩ := A.ex
  have nd := sc_moved_point.nd
  refine ⟨f, fd, fn_ok F sc_moved_point (fun rs r h => p2_len h) (fun cdv A outer s H E hr => ⟨_, (pss_cons (ps_asg (pv 0) (pg_tup rfl (pgs_cons (pg_name (i := 2) nd rfl (by first | exact Or.inl rfl | exact Or.inr rfl)) (pgs_cons (pg_name (i := 3) nd rfl (by first | exact Or.inl rfl | exact Or.inr rfl)) (pgs_cons (pg_name (i := 4) nd rfl (by first | exact Or.inl rfl | exact Or.inr rfl)) pgs_nil)))))
      (pss_cons (ps_asg (pv 1) (pg_tup rfl (pgs_cons (pg_name (i := 5) nd rfl (by first | exact Or.inl rfl | exact Or.inr rfl)) (pgs_cons (pg_name (i := 6) nd rfl (by first | exact Or.inl rfl | exact Or.inr rfl)) pgs_nil))))
      (pss_cons (ps_if (pt_val (pv 2)) (pss_one (ps_par (i := 5) (j := 6) rfl nd rfl rfl (by decide) rfl rfl (pa_cons (pe_cb C_negative (hr.mono (by decide)) rfl (pa_cons (pv 5) pa_nil)) (pa_cons (pe_cb C_negative (hr.mono (by decide)) rfl (pa_cons (pv 6) pa_nil)) pa_nil)) (by rfl))) pss_nil)
      (pss_one (ps_ret (pe_tup (pa_cons (pe_cb C_plus (hr.mono (by decide)) rfl (pa_cons (pv 5) (pa_cons (pv 3) pa_nil))) (pa_cons (pe_cb C_plus (hr.mono (by decide)) rfl (pa_cons (pv 6) (pa_cons (pv 4) pa_nil))) pa_nil)))))))), fun rs r h => ?_⟩), hm, F.kp, hb⟩
  obtain ⟨m, z, ⟨hz, hm⟩, rfl, rfl⟩ := h
  refine s_seq (s_asg (r := tR K [bR m.h, qR K m.t.x, qR K m.t.y]) (er_var rfl) g_three) (s_seq (s_asg (r := tR K [qR K z.x, qR K z.y]) (er_var rfl) g_two) (s_seq (s_if (b := m.h) (fl := .nx [.r (mvR K m), .r (pR K z), .r (bR m.h), .r (qR K m.t.x), .r (qR K m.t.y), .r (qR K (if m.h then Kzq2.opp z else z).x), .r (qR K (if m.h then Kzq2.opp z else z).y)]) (tr_B (er_var rfl)) (fun c => ?_) (fun c => ?_)) (s_ret ?_)))
  · refine s_le2 (s_par (ar_cons (er_c1 (er_var rfl) ?_) (ar_cons (er_c1 (er_var rfl) ?_) ar_nil))) (Le.of ?_)
    · exact trivial
    · exact trivial
    · rw [c]; rfl
  · refine s_le2 s_next (Le.of ?_)
    rw [c]; rfl
  · have hz' : Bp (if m.h then Kzq2.opp z else z) := by
      cases m.h with
      | true => exact ⟨hz.x.neg, hz.y.neg⟩
      | false => exact hz
    refine er_eq (er_tup (K := K) (ar_cons (er_c2 (er_var rfl) (er_var rfl) ?_) (ar_cons (er_c2 (er_var rfl) (er_var rfl) ?_) ar_nil))) rfl
    · exact ⟨hz'.x, hm.x⟩
    · exact ⟨hz'.y, hm.y⟩
abbrev s_moved : Stmt := top 36
theorem sc_moved : FnScope ["move", "piece", "corner"] ["move", "piece"] (defScope s_moved) := ⟨rfl, rfl, rfl, by decide +kernel, rfl, by decide +kernel, by decide +kernel⟩
abbrev pre_moved (K : PySem.W.Frag) (CPiece : Addr) : List Rp → Rp → Prop := p2 (fun m l => l ≠ [] ∧ l.length ≤ 40000 ∧ BL 1000000 l ∧ Fp 1000000 m.t) (mvR K) (pcR K CPiece) (pcR K CPiece) (fun m l => Kzq1.begunWith (l.map (Kzq2.go m)))
theorem ok_moved (A : Fa K mg "moved" s_moved ["move", "piece"]) (T : Txt K mg CPiece CPart) (C_Piece : Ci P w K mg base "Piece" CPiece 44 ["self", "corners"] (pre_Piece_init K)) (C_from_leftmost : Cb P w K mg base "from_leftmost" 44 ["corners"] (pre_from_leftmost K)) (C_moved_point : Cb P w K mg base "moved_point" 43 ["move", "point"] (pre_moved_point K)) : Cb P w K mg base "moved" 46 ["move", "piece"] (pre_moved K CPiece) := by
  obtain ⟨f, fd, F, hm, hb⟩ := A.ex
  have nd := sc_moved.nd
  refine ⟨f, fd, fn_ok F sc_moved (fun rs r h => p2_len h) (fun cdv A outer s H E hr => ⟨_, (pss_one (ps_ret (pe_ci C_Piece (hr.mono (by decide)) rfl (pa_cons (pe_cb C_from_leftmost (hr.mono (by decide)) rfl (pa_cons (pe_lc (own := [("corner", 2)]) (g := (gName 2)) (tt := tYes) rfl nd (pi_list (peFld (K := K) (pv 1) rfl)) (blkOk_by (own := [("corner", 2)]) (N := ["move", "piece", "corner"]) (sc := defScope s_moved) (by decide +kernel)) (fun _ _ _ _ _ => (pg_name (i := 2) nd rfl (by first | exact Or.inl rfl | exact Or.inr rfl))) (fun _ _ _ _ _ => pts_nil) (fun _ _ _ _ _ => (pe_cb C_moved_point (hr.mono (by decide)) rfl (pa_cons (pv 0) (pa_cons (pv 2) pa_nil))))) pa_nil)) pa_nil)))), fun rs r h => ?_⟩), hm, F.kp, hb⟩
  obtain ⟨m, l, ⟨hn, hz, hb, hm⟩, rfl, rfl⟩ := h
  have hg : BL 3000000 (l.map (Kzq2.go m)) := fun z hz => by
    obtain ⟨y, hy, rfl⟩ := List.mem_map.mp hz
    unfold Kzq2.go
    have fy := hb y hy
    cases m.h with
    | true => exact (Fp.plus (a := Kzq2.opp y) ⟨fy.x.neg, fy.y.neg⟩ hm).mono (by decide)
    | false => exact (Fp.plus fy hm).mono (by decide)
  have hn' : l.map (Kzq2.go m) ≠ [] := fun e => hn (List.map_eq_nil_iff.mp e)
  have ht : ∀ t ∈ [()], True := fun _ _ => trivial
  refine s_ret (er_make (ar_cons (er_c1 (a := l.map (Kzq2.go m)) (er_ls (er_eq (er_mapL (xs := l) (ra := pR K) (rc := fun z => pR K (Kzq2.go m z)) (ir_list (er_ls (er_fld (er_var rfl) T.cl_Piece T.n_corners rfl))) (by omega) fun i z hi => ⟨_, _, g_name, fun _ h => h, (er_c2 (er_var rfl) (er_var rfl) ?_)⟩) ?_)) ?_) ar_nil) ?_)
  · exact ⟨(hb z (List.mem_of_getElem? hi)).b (by decide), hm.b (by decide)⟩
  · rw [List.map_map]; rfl
  · exact ⟨hn', fun z hz => (hg z hz).b (by decide), by rw [List.length_map]; exact hz⟩
  · refine ⟨_, ?_, fun z hz => (hg z (begun_mem hz)).b (by decide), by rw [begun_len, List.length_map]; exact hz, rfl, rfl⟩
    intro e
    have := begun_len (l.map (Kzq2.go m))
    rw [e] at this
    exact hn' (List.length_eq_zero_iff.mp this.symm)
abbrev s_corners_of : Stmt := top 40
theorem sc_corners_of : FnScope ["row", "k"] ["row"] (defScope s_corners_of) := ⟨rfl, rfl, rfl, by decide +kernel, rfl, by decide +kernel, by decide +kernel⟩
abbrev pre_corners_of (K : PySem.W.Frag) : List Rp → Rp → Prop := p1 (fun ns : List Int => ns.length ≤ 4000) (fun ns => sR K (ns.map iR)) (fun l => lR (l.map (cR K))) pairs
theorem ok_corners_of (A : Fa K mg "corners_of" s_corners_of ["row"]) (T : Txt K mg CPiece CPart) : Cb P w K mg base "corners_of" 1 ["row"] (pre_corners_of K) := by
  obtain ⟨f, fd, F, hm, hb⟩ := A.ex
  have nd := sc_corners_of.nd
  refine ⟨f, fd, fn_ok F sc_corners_of (fun rs r h => p1_len h) (fun cdv A outer s H E hr => ⟨_, (pss_one (ps_ret (pe_lc (own := [("k", 1)]) (g := (gName 1)) (tt := tYes) rfl nd (pi_range1 (by rfl) T.range (pa_cons (pe_op op_fdiv (pe_callB (cLen (K := K) rfl) (by rfl) T.len PySem.boot_len (pa_cons (pv 0) pa_nil)) pe_int) pa_nil)) (blkOk_by (own := [("k", 1)]) (N := ["row", "k"]) (sc := defScope s_corners_of) (by decide +kernel)) (fun _ _ _ _ _ => (pg_name (i := 1) nd rfl (by first | exact Or.inl rfl | exact Or.inr rfl))) (fun _ _ _ _ _ => pts_nil) (fun _ _ _ _ _ => (pe_tup (pa_cons (pe_ix (ixL (K := K) rfl) (pv 0) (pe_op op_mulX pe_int (pv 1)) (fun _ _ => rfl)) (pa_cons (pe_ix (ixL (K := K) rfl) (pv 0) (pe_op op_add (pe_op op_mulX pe_int (pv 1)) pe_int) (fun _ _ => rfl)) pa_nil))))))), fun rs r h => ?_⟩), hm, F.kp, hb⟩
  obtain ⟨ns, hz, rfl, rfl⟩ := h
  have hz : ns.length ≤ 4000 := hz
  have nl : ((ns.map iR).length : Int) = (ns.length : Int) := by rw [List.length_map]
  have h2 : ((ns.map iR).length : Int) / 2 = ((ns.length / 2 : Nat) : Int) := by rw [nl]; omega
  have pw : ∀ (i : Nat), i < ns.length / 2 → atI (ns.map iR) (2 * (0 + (i : Int))) = some (iR (ns.getD (2 * i) 0)) ∧ atI (ns.map iR) (2 * (0 + (i : Int)) + 1) = some (iR (ns.getD (2 * i + 1) 0)) := fun i hi =>
    ⟨atI_mapS (atI_ofNat (j := 2 * i) (by omega) (getD_get (by omega))), atI_mapS (atI_ofNat (j := 2 * i + 1) (by omega) (getD_get (by omega)))⟩
  have el : lR ((List.range (rgR 0 (((ns.map iR).length : Int) / 2).toNat).length).map fun i => tR K [iR (ns.getD (2 * i) 0), iR (ns.getD (2 * i + 1) 0)]) = lR ((pairs ns).map fun p => tR K [iR p.1, iR p.2]) := by
    rw [rgR_len, h2, Int.toNat_natCast]
    unfold pairs
    rw [List.map_map]
    rfl
  refine s_ret (er_eq (er_map (ir_rng1 (ar_cons (er_half (er_len (er_var rfl))) ar_nil) (by rw [h2]; omega)) (fun i => tR K [iR (ns.getD (2 * i) 0), iR (ns.getD (2 * i + 1) 0)]) (by rw [rgR_len, h2]; omega) ?_) el)
  intro i r hr
  obtain ⟨hi, rfl⟩ := rgR_get hr
  have hi : i < ns.length / 2 := by rw [h2] at hi; omega
  refine ⟨_, _, g_name, fun _ h => h, er_tup (K := K) (rs := [iR (ns.getD (2 * i) 0), iR (ns.getD (2 * i + 1) 0)]) (ar_cons (er_ixl (er_var rfl) (er_mul er_c (er_var rfl) ?_) ?_) (ar_cons (er_ixl (er_var rfl) (er_add (er_mul er_c (er_var rfl) ?_) er_c) ?_) ar_nil))⟩
  · exact mulSm (by decide) (by omega)
  · exact (pw i hi).1
  · exact mulSm (by decide) (by omega)
  · exact (pw i hi).2
abbrev s_left_of : Stmt := top 41
theorem sc_left_of : FnScope ["a", "b", "c"] ["a", "b", "c"] (defScope s_left_of) := ⟨rfl, rfl, rfl, by decide +kernel, rfl, by decide +kernel, by decide +kernel⟩
abbrev pre_left_of (K : PySem.W.Frag) : List Rp → Rp → Prop := p3 (fun a b c => Sm a ∧ Sm b ∧ Sm c) (cR K) (cR K) (cR K) iR lefI
theorem ok_left_of (A : Fa K mg "left_of" s_left_of ["a", "b", "c"]) (T : Txt K mg CPiece CPart) : Cb P w K mg base "left_of" 1 ["a", "b", "c"] (pre_left_of K) := by
  obtain ⟨f, fd, F, hm, hb⟩ := A.ex
  have nd := sc_left_of.nd
  refine ⟨f, fd, fn_ok F sc_left_of (fun rs r h => p3_len h) (fun cdv A outer s H E hr => ⟨_, (pss_one (ps_ret (pe_op op_sub (pe_op op_mulX (pe_op op_sub (pe_ix (ixT (K := K) rfl) (pv 1) pe_int (fun _ _ => rfl)) (pe_ix (ixT (K := K) rfl) (pv 0) pe_int (fun _ _ => rfl))) (pe_op op_sub (pe_ix (ixT (K := K) rfl) (pv 2) pe_int (fun _ _ => rfl)) (pe_ix (ixT (K := K) rfl) (pv 0) pe_int (fun _ _ => rfl)))) (pe_op op_mulX (pe_op op_sub (pe_ix (ixT (K := K) rfl) (pv 1) pe_int (fun _ _ => rfl)) (pe_ix (ixT (K := K) rfl) (pv 0) pe_int (fun _ _ => rfl))) (pe_op op_sub (pe_ix (ixT (K := K) rfl) (pv 2) pe_int (fun _ _ => rfl)) (pe_ix (ixT (K := K) rfl) (pv 0) pe_int (fun _ _ => rfl))))))), fun rs r h => ?_⟩), hm, F.kp, hb⟩
  obtain ⟨a, b, c, ⟨ha, hb, hc⟩, rfl, rfl⟩ := h
  refine s_ret (er_sub (er_mul (er_sub (er_ixt (er_var rfl) er_c) (er_ixt (er_var rfl) er_c)) (er_sub (er_ixt (er_var rfl) er_c) (er_ixt (er_var rfl) er_c)) ?_) (er_mul (er_sub (er_ixt (er_var rfl) er_c) (er_ixt (er_var rfl) er_c)) (er_sub (er_ixt (er_var rfl) er_c) (er_ixt (er_var rfl) er_c)) ?_))
  · exact (Sm.m ha hb ha hc).1
  · exact (Sm.m ha hb ha hc).2
abbrev s_sign : Stmt := top 42
theorem sc_sign : FnScope ["number"] ["number"] (defScope s_sign) := ⟨rfl, rfl, rfl, by decide +kernel, rfl, by decide +kernel, by decide +kernel⟩
abbrev pre_sign (K : PySem.W.Frag) : List Rp → Rp → Prop := p1 (fun _ : Int => True) iR iR sgnI
theorem ok_sign (A : Fa K mg "sign" s_sign ["number"]) (T : Txt K mg CPiece CPart) : Cb P w K mg base "sign" 1 ["number"] (pre_sign K) := by
  obtain ⟨f, fd, F, hm, hb⟩ := A.ex
  have nd := sc_sign.nd
  refine ⟨f, fd, fn_ok F sc_sign (fun rs r h => p1_len h) (fun cdv A outer s H E hr => ⟨_, (pss_one (ps_ret (pe_op op_sub (pe_callTy call_int1 (by rfl) T.int (by decide +kernel) (pa_cons (pe_cmpR op_gt (pv 0) pe_int (nomark _)) pa_nil)) (pe_callTy call_int1 (by rfl) T.int (by decide +kernel) (pa_cons (pe_cmpR op_lt (pv 0) pe_int (nomark _)) pa_nil))))), fun rs r h => ?_⟩), hm, F.kp, hb⟩
  obtain ⟨n, _, rfl, rfl⟩ := h
  exact s_ret (er_sub (er_callB (ar_cons (er_gt (er_var rfl) er_c) ar_nil) cr_intB) (er_callB (ar_cons (er_lt (er_var rfl) er_c) ar_nil) cr_intB))
abbrev s_is_on : Stmt := top 43
theorem sc_is_on : FnScope ["a", "b", "c"] ["a", "b", "c"] (defScope s_is_on) := ⟨rfl, rfl, rfl, by decide +kernel, rfl, by decide +kernel, by decide +kernel⟩
abbrev pre_is_on (K : PySem.W.Frag) : List Rp → Rp → Prop := p3 (fun _ _ _ => True) (cR K) (cR K) (cR K) bR onI
theorem ok_is_on (A : Fa K mg "is_on" s_is_on ["a", "b", "c"]) (T : Txt K mg CPiece CPart) : Cb P w K mg base "is_on" 1 ["a", "b", "c"] (pre_is_on K) := by
  obtain ⟨f, fd, F, hm, hb⟩ := A.ex
  have nd := sc_is_on.nd
  refine ⟨f, fd, fn_ok F sc_is_on (fun rs r h => p3_len h) (fun cdv A outer s H E hr => ⟨_, (pss_one (ps_ret (pe_and (pe_chain op_le op_le (pe_callB (call_min2 rfl) (by rfl) T.min (by decide +kernel) (pa_cons (pe_ix (ixT (K := K) rfl) (pv 0) pe_int (fun _ _ => rfl)) (pa_cons (pe_ix (ixT (K := K) rfl) (pv 1) pe_int (fun _ _ => rfl)) pa_nil))) (pe_ix (ixT (K := K) rfl) (pv 2) pe_int (fun _ _ => rfl)) (pe_callB (call_max2 rfl) (by rfl) T.max (by decide +kernel) (pa_cons (pe_ix (ixT (K := K) rfl) (pv 0) pe_int (fun _ _ => rfl)) (pa_cons (pe_ix (ixT (K := K) rfl) (pv 1) pe_int (fun _ _ => rfl)) pa_nil)))) (pe_one (pe_chain op_le op_le (pe_callB (call_min2 rfl) (by rfl) T.min (by decide +kernel) (pa_cons (pe_ix (ixT (K := K) rfl) (pv 0) pe_int (fun _ _ => rfl)) (pa_cons (pe_ix (ixT (K := K) rfl) (pv 1) pe_int (fun _ _ => rfl)) pa_nil))) (pe_ix (ixT (K := K) rfl) (pv 2) pe_int (fun _ _ => rfl)) (pe_callB (call_max2 rfl) (by rfl) T.max (by decide +kernel) (pa_cons (pe_ix (ixT (K := K) rfl) (pv 0) pe_int (fun _ _ => rfl)) (pa_cons (pe_ix (ixT (K := K) rfl) (pv 1) pe_int (fun _ _ => rfl)) pa_nil)))))))), fun rs r h => ?_⟩), hm, F.kp, hb⟩
  obtain ⟨a, b, c, _, rfl, rfl⟩ := h
  exact s_ret (er_and (er_chain (er_callB (ar_cons (er_ixt (er_var rfl) er_c) (ar_cons (er_ixt (er_var rfl) er_c) ar_nil)) cr_min2) (er_ixt (er_var rfl) er_c) br_I0 (er_callB (ar_cons (er_ixt (er_var rfl) er_c) (ar_cons (er_ixt (er_var rfl) er_c) ar_nil)) cr_max2) br_I0) (fun hb => (er_chain (er_callB (ar_cons (er_ixt (er_var rfl) er_c) (ar_cons (er_ixt (er_var rfl) er_c) ar_nil)) cr_min2) (er_ixt (er_var rfl) er_c) br_I0 (er_callB (ar_cons (er_ixt (er_var rfl) er_c) (ar_cons (er_ixt (er_var rfl) er_c) ar_nil)) cr_max2) br_I0)))
abbrev s_do_meet : Stmt := top 44
theorem sc_do_meet : FnScope ["one", "other", "a", "b", "c", "d", "ends", "p", "q", "r"] ["one", "other"] (defScope s_do_meet) := ⟨rfl, rfl, rfl, by decide +kernel, rfl, by decide +kernel, by decide +kernel⟩
abbrev pre_do_meet (K : PySem.W.Frag) : List Rp → Rp → Prop := p2 (fun e f => Sm e.1 ∧ Sm e.2 ∧ Sm f.1 ∧ Sm f.2) (sgR K) (sgR K) bR meetI
theorem ok_do_meet (A : Fa K mg "do_meet" s_do_meet ["one", "other"]) (T : Txt K mg CPiece CPart) (C_sign : Cb P w K mg base "sign" 1 ["number"] (pre_sign K)) (C_is_on : Cb P w K mg base "is_on" 1 ["a", "b", "c"] (pre_is_on K)) (C_left_of : Cb P w K mg base "left_of" 1 ["a", "b", "c"] (pre_left_of K)) : Cb P w K mg base "do_meet" 2 ["one", "other"] (pre_do_meet K) := by
  obtain ⟨f, fd, F, hm, hb⟩ := A.ex
  have nd := sc_do_meet.nd
  refine ⟨f, fd, fn_ok F sc_do_meet (fun rs r h => p2_len h) (fun cdv A outer s H E hr => ⟨_, (pss_cons (ps_asg (pv 0) (pg_tup rfl (pgs_cons (pg_name (i := 2) nd rfl (by first | exact Or.inl rfl | exact Or.inr rfl)) (pgs_cons (pg_name (i := 3) nd rfl (by first | exact Or.inl rfl | exact Or.inr rfl)) pgs_nil))))
      (pss_cons (ps_asg (pv 1) (pg_tup rfl (pgs_cons (pg_name (i := 4) nd rfl (by first | exact Or.inl rfl | exact Or.inr rfl)) (pgs_cons (pg_name (i := 5) nd rfl (by first | exact Or.inl rfl | exact Or.inr rfl)) pgs_nil))))
      (pss_cons (ps_if (PW.pt (pw_and (pt_cmpR op_lt (pe_op op_mulX (pe_cb C_sign (hr.mono (by decide)) rfl (pa_cons (pe_cb C_left_of (hr.mono (by decide)) rfl (pa_cons (pv 2) (pa_cons (pv 3) (pa_cons (pv 4) pa_nil)))) pa_nil)) (pe_cb C_sign (hr.mono (by decide)) rfl (pa_cons (pe_cb C_left_of (hr.mono (by decide)) rfl (pa_cons (pv 2) (pa_cons (pv 3) (pa_cons (pv 5) pa_nil)))) pa_nil))) pe_int (nomark _)) (pw_and1 (pt_cmpR op_lt (pe_op op_mulX (pe_cb C_sign (hr.mono (by decide)) rfl (pa_cons (pe_cb C_left_of (hr.mono (by decide)) rfl (pa_cons (pv 4) (pa_cons (pv 5) (pa_cons (pv 2) pa_nil)))) pa_nil)) (pe_cb C_sign (hr.mono (by decide)) rfl (pa_cons (pe_cb C_left_of (hr.mono (by decide)) rfl (pa_cons (pv 4) (pa_cons (pv 5) (pa_cons (pv 3) pa_nil)))) pa_nil))) pe_int (nomark _))))) (pss_one (ps_ret pe_bl)) pss_nil)
      (pss_cons (ps_set (i := 6) nd rfl (by first | exact Or.inl rfl | exact Or.inr rfl) (pe_lst (pa_cons (pe_tup (pa_cons (pv 2) (pa_cons (pv 3) (pa_cons (pv 4) pa_nil)))) (pa_cons (pe_tup (pa_cons (pv 2) (pa_cons (pv 3) (pa_cons (pv 5) pa_nil)))) (pa_cons (pe_tup (pa_cons (pv 4) (pa_cons (pv 5) (pa_cons (pv 2) pa_nil)))) (pa_cons (pe_tup (pa_cons (pv 4) (pa_cons (pv 5) (pa_cons (pv 3) pa_nil)))) pa_nil))))))
      (pss_one (ps_ret (pe_callB (cAny (K := K) rfl rfl) (by rfl) T.any (by decide +kernel) (pa_cons (pe_lc (own := [("p", 7), ("q", 8), ("r", 9)]) (g := (gTup K 3 (gCons (gName 7) (gCons (gName 8) (gCons (gName 9) gNil))))) (tt := tYes) rfl nd (pi_list (pv 6)) (blkOk_by (own := [("p", 7), ("q", 8), ("r", 9)]) (N := ["one", "other", "a", "b", "c", "d", "ends", "p", "q", "r"]) (sc := defScope s_do_meet) (by decide +kernel)) (fun _ _ _ _ _ => (pg_tup rfl (pgs_cons (pg_name (i := 7) nd rfl (by first | exact Or.inl rfl | exact Or.inr rfl)) (pgs_cons (pg_name (i := 8) nd rfl (by first | exact Or.inl rfl | exact Or.inr rfl)) (pgs_cons (pg_name (i := 9) nd rfl (by first | exact Or.inl rfl | exact Or.inr rfl)) pgs_nil))))) (fun _ _ _ _ _ => pts_nil) (fun _ _ _ _ _ => (pe_and (pe_cmpR op_eq (pe_cb C_left_of (hr.mono (by decide)) rfl (pa_cons (pv 7) (pa_cons (pv 8) (pa_cons (pv 9) pa_nil)))) pe_int (nomark _)) (pe_one (pe_cb C_is_on (hr.mono (by decide)) rfl (pa_cons (pv 7) (pa_cons (pv 8) (pa_cons (pv 9) pa_nil)))))))) pa_nil)))))))), fun rs r h => ?_⟩), hm, F.kp, hb⟩
  obtain ⟨e, f, ⟨h1, h2, h3, h4⟩, rfl, rfl⟩ := h
  have smE : ∀ t ∈ endsC e f, Sm t.1 ∧ Sm t.2.1 ∧ Sm t.2.2 := fun t ht => by
    unfold endsC at ht
    simp only [List.mem_cons, List.not_mem_nil, or_false] at ht
    rcases ht with rfl | rfl | rfl | rfl
    · exact ⟨h1, h2, h3⟩
    · exact ⟨h1, h2, h4⟩
    · exact ⟨h3, h4, h1⟩
    · exact ⟨h3, h4, h2⟩
  unfold meetI
  refine s_seq (s_asg (r := tR K [cR K e.1, cR K e.2]) (er_var rfl) g_two) (s_seq (s_asg (r := tR K [cR K f.1, cR K f.2]) (er_var rfl) g_two) ?_)
  refine s_le (Le.of (show _ = [.r (sgR K e), .r (sgR K f), .r (cR K e.1), .r (cR K e.2), .r (cR K f.1), .r (cR K f.2), .no, .no, .no, .no] from rfl)) ?_
  have ep : propI e f = (decide (sgnI (lefI e.1 e.2 f.1) * sgnI (lefI e.1 e.2 f.2) < 0) && decide (sgnI (lefI f.1 f.2 e.1) * sgnI (lefI f.1 f.2 e.2) < 0)) := rfl
  rw [ep]
  by_cases hp : (decide (sgnI (lefI e.1 e.2 f.1) * sgnI (lefI e.1 e.2 f.2) < 0) && decide (sgnI (lefI f.1 f.2 e.1) * sgnI (lefI f.1 f.2 e.2) < 0)) = true
  · rw [if_pos hp]
    refine s_seqR (s_ifT (tr_eq (tr_and (tr_test (er_lt (er_mul (er_c1 (er_c3 (er_var rfl) (er_var rfl) (er_var rfl) ?_) ?_) (er_c1 (er_c3 (er_var rfl) (er_var rfl) (er_var rfl) ?_) ?_) ?_) er_c)) (fun hb => (tr_test (er_lt (er_mul (er_c1 (er_c3 (er_var rfl) (er_var rfl) (er_var rfl) ?_) ?_) (er_c1 (er_c3 (er_var rfl) (er_var rfl) (er_var rfl) ?_) ?_) ?_) er_c)))) hp) (s_ret er_c))
    · exact ⟨h1, h2, h3⟩
    · exact trivial
    · exact ⟨h1, h2, h4⟩
    · exact trivial
    · exact sgn_ok _ _
    · exact ⟨h3, h4, h1⟩
    · exact trivial
    · exact ⟨h3, h4, h2⟩
    · exact trivial
    · exact sgn_ok _ _
  · rw [if_neg hp]
    have ee : (endsC e f).map (fun t => tR K [cR K t.1, cR K t.2.1, cR K t.2.2]) = [tR K [cR K e.1, cR K e.2, cR K f.1], tR K [cR K e.1, cR K e.2, cR K f.2], tR K [cR K f.1, cR K f.2, cR K e.1], tR K [cR K f.1, cR K f.2, cR K e.2]] := by
      unfold endsC
      rw [List.map_cons, List.map_cons, List.map_cons, List.map_cons, List.map_nil]
    refine s_seq (s_ifF (tr_eq (tr_and (tr_test (er_lt (er_mul (er_c1 (er_c3 (er_var rfl) (er_var rfl) (er_var rfl) ?_) ?_) (er_c1 (er_c3 (er_var rfl) (er_var rfl) (er_var rfl) ?_) ?_) ?_) er_c)) (fun hb => (tr_test (er_lt (er_mul (er_c1 (er_c3 (er_var rfl) (er_var rfl) (er_var rfl) ?_) ?_) (er_c1 (er_c3 (er_var rfl) (er_var rfl) (er_var rfl) ?_) ?_) ?_) er_c)))) (Bool.eq_false_iff.mpr hp)) s_next) (s_seq (s_set (er_lst (rs := [tR K [cR K e.1, cR K e.2, cR K f.1], tR K [cR K e.1, cR K e.2, cR K f.2], tR K [cR K f.1, cR K f.2, cR K e.1], tR K [cR K f.1, cR K f.2, cR K e.2]]) (ar_cons (er_tup (K := K) (ar_cons (er_var rfl) (ar_cons (er_var rfl) (ar_cons (er_var rfl) ar_nil)))) (ar_cons (er_tup (K := K) (ar_cons (er_var rfl) (ar_cons (er_var rfl) (ar_cons (er_var rfl) ar_nil)))) (ar_cons (er_tup (K := K) (ar_cons (er_var rfl) (ar_cons (er_var rfl) (ar_cons (er_var rfl) ar_nil)))) (ar_cons (er_tup (K := K) (ar_cons (er_var rfl) (ar_cons (er_var rfl) (ar_cons (er_var rfl) ar_nil)))) ar_nil)))))) (s_ret (er_callB (ar_cons (er_ls (rs := ((endsC e f).map onT).map bR) ?_) ar_nil) cr_any)))
    · exact ⟨h1, h2, h3⟩
    · exact trivial
    · exact ⟨h1, h2, h4⟩
    · exact trivial
    · exact sgn_ok _ _
    · exact ⟨h3, h4, h1⟩
    · exact trivial
    · exact ⟨h3, h4, h2⟩
    · exact trivial
    · exact sgn_ok _ _
    · rw [← ee, List.map_map]
      refine er_mapL (xs := endsC e f) (ra := fun t => tR K [cR K t.1, cR K t.2.1, cR K t.2.2]) (rc := fun t => bR (onT t)) (ir_list (er_ls (er_var (n := 6) rfl))) (by unfold endsC; exact Nat.le_of_ble_eq_true rfl) fun i t ht => ⟨_, _, g_three, fun _ h => h, (er_and (er_eqI (er_c3 (er_var rfl) (er_var rfl) (er_var rfl) ?_) er_c) (fun hb => (er_c3 (er_var rfl) (er_var rfl) (er_var rfl) ?_)))⟩
      · exact smE t (List.mem_of_getElem? ht)
      · exact trivial
abbrev s_sides_round : Stmt := top 45
theorem sc_sides_round : FnScope ["corners", "k", "corner"] ["corners"] (defScope s_sides_round) := ⟨rfl, rfl, rfl, by decide +kernel, rfl, by decide +kernel, by decide +kernel⟩
abbrev pre_sides_round (K : PySem.W.Frag) : List Rp → Rp → Prop := p1 (fun l : List C2 => l.length ≤ 40000) (fun l => sR K (l.map (cR K))) (fun s => lR (s.map (sgR K))) sdC
theorem ok_sides_round (A : Fa K mg "sides_round" s_sides_round ["corners"]) (T : Txt K mg CPiece CPart) : Cb P w K mg base "sides_round" 1 ["corners"] (pre_sides_round K) := by
  obtain ⟨f, fd, F, hm, hb⟩ := A.ex
  have nd := sc_sides_round.nd
  refine ⟨f, fd, fn_ok F sc_sides_round (fun rs r h => p1_len h) (fun cdv A outer s H E hr => ⟨_, (pss_one (ps_ret (pe_lc (own := [("k", 1), ("corner", 2)]) (g := (gTup K 2 (gCons (gName 1) (gCons (gName 2) gNil)))) (tt := tYes) rfl nd (pi_enum (by rfl) T.enumerate (pa_cons (pv 0) pa_nil)) (blkOk_by (own := [("k", 1), ("corner", 2)]) (N := ["corners", "k", "corner"]) (sc := defScope s_sides_round) (by decide +kernel)) (fun _ _ _ _ _ => (pg_tup rfl (pgs_cons (pg_name (i := 1) nd rfl (by first | exact Or.inl rfl | exact Or.inr rfl)) (pgs_cons (pg_name (i := 2) nd rfl (by first | exact Or.inl rfl | exact Or.inr rfl)) pgs_nil)))) (fun _ _ _ _ _ => pts_nil) (fun _ _ _ _ _ => (pe_tup (pa_cons (pv 2) (pa_cons (pe_ix (ixL (K := K) rfl) (pv 0) (pe_op op_mod (pe_op op_add (pv 1) pe_int) (pe_callB (cLen (K := K) rfl) (by rfl) T.len PySem.boot_len (pa_cons (pv 0) pa_nil))) (fun _ _ => rfl)) pa_nil))))))), fun rs r h => ?_⟩), hm, F.kp, hb⟩
  obtain ⟨l, hz, rfl, rfl⟩ := h
  have hz : l.length ≤ 40000 := hz
  refine s_ret (er_eq (er_map (ir_enum (ar_cons (er_var rfl) ar_nil)) (fun i => sgR K (atC l i, atC l (i + 1))) (by rw [enR_len, List.length_map]; omega) ?_) ?_)
  · intro i r hr
    obtain ⟨x, hx, rfl⟩ := enR_get hr
    obtain ⟨z, hz, rfl⟩ := get_map hx
    obtain rfl := atC_of hz
    have hi : i < l.length := (List.getElem?_eq_some_iff.mp hz).1
    refine ⟨_, _, g_two, fun _ h => h, ?_⟩
    refine er_tup (K := K) (rs := [cR K (atC l i), cR K (atC l (i + 1))]) (ar_cons (er_var rfl) (ar_cons (er_ixl (er_var rfl) (er_mod (er_add (er_var rfl) er_c) (er_len (er_var rfl)) ?_) ?_) ar_nil))
    · rw [List.length_map]; omega
    · rw [List.length_map]
      exact atI_mapS (atIC_next (by omega))
  · rw [enR_len, List.length_map]
    show _ = lR ((sdC l).map (sgR K))
    unfold sdC
    rw [List.map_map]
    rfl
abbrev s_has_straight : Stmt := top 47
theorem sc_has_straight : FnScope ["corners", "many", "k"] ["corners"] (defScope s_has_straight) := ⟨rfl, rfl, rfl, by decide +kernel, rfl, by decide +kernel, by decide +kernel⟩
abbrev pre_has_straight (K : PySem.W.Frag) : List Rp → Rp → Prop := p1 (fun l : List C2 => l.length ≤ 40000 ∧ ∀ c ∈ l, Sm c) (fun l => sR K (l.map (cR K))) bR strC
theorem ok_has_straight (A : Fa K mg "has_straight" s_has_straight ["corners"]) (T : Txt K mg CPiece CPart) (C_left_of : Cb P w K mg base "left_of" 1 ["a", "b", "c"] (pre_left_of K)) : Cb P w K mg base "has_straight" 2 ["corners"] (pre_has_straight K) := by
  obtain ⟨f, fd, F, hm, hb⟩ := A.ex
  have nd := sc_has_straight.nd
  refine ⟨f, fd, fn_ok F sc_has_straight (fun rs r h => p1_len h) (fun cdv A outer s H E hr => ⟨_, (pss_cons (ps_set (i := 1) nd rfl (by first | exact Or.inl rfl | exact Or.inr rfl) (pe_callB (cLen (K := K) rfl) (by rfl) T.len PySem.boot_len (pa_cons (pv 0) pa_nil)))
      (pss_one (ps_ret (pe_callB (cAny (K := K) rfl rfl) (by rfl) T.any (by decide +kernel) (pa_cons (pe_lc (own := [("k", 2)]) (g := (gName 2)) (tt := tYes) rfl nd (pi_range1 (by rfl) T.range (pa_cons (pv 1) pa_nil)) (blkOk_by (own := [("k", 2)]) (N := ["corners", "many", "k"]) (sc := defScope s_has_straight) (by decide +kernel)) (fun _ _ _ _ _ => (pg_name (i := 2) nd rfl (by first | exact Or.inl rfl | exact Or.inr rfl))) (fun _ _ _ _ _ => pts_nil) (fun _ _ _ _ _ => (pe_cmpR op_eq (pe_cb C_left_of (hr.mono (by decide)) rfl (pa_cons (pe_ix (ixL (K := K) rfl) (pv 0) (pe_op op_sub (pv 2) pe_int) (fun _ _ => rfl)) (pa_cons (pe_ix (ixL (K := K) rfl) (pv 0) (pv 2) (fun _ _ => rfl)) (pa_cons (pe_ix (ixL (K := K) rfl) (pv 0) (pe_op op_mod (pe_op op_add (pv 2) pe_int) (pv 1)) (fun _ _ => rfl)) pa_nil)))) pe_int (nomark _)))) pa_nil))))), fun rs r h => ?_⟩), hm, F.kp, hb⟩
  obtain ⟨l, ⟨hz, hb⟩, rfl, rfl⟩ := h
  have nl : ((l.map (cR K)).length : Int) = (l.length : Int) := by rw [List.length_map]
  refine s_seq (s_set (er_i (er_len (er_var rfl)) nl)) (s_ret (er_eq (er_callB (ar_cons (er_ls (er_eq (er_map (ir_rng1 (ar_cons (er_var rfl) ar_nil) (by omega)) (fun i => bR (decide (lefI (atC l (i + l.length - 1)) (atC l i) (atC l (i + 1)) = 0))) (by rw [rgR_len]; omega) ?_) (rb := lR (((List.range l.length).map fun k => decide (lefI (atC l (k + l.length - 1)) (atC l k) (atC l (k + 1)) = 0)).map bR)) ?_)) ar_nil) cr_any) rfl))
  · intro i r hr
    obtain ⟨hi, rfl⟩ := rgR_get hr
    have hi : i < l.length := by omega
    have m (j : Nat) : Sm (atC l j) := hb _ (atC_mem (by omega))
    have e0 : (0 : Int) + (i : Int) = (i : Int) := by omega
    rw [e0]
    refine ⟨_, _, g_name, fun _ h => h, (er_eqI (er_c3 (er_ixl (er_var rfl) (er_sub (er_var rfl) er_c) ?_) (er_ixl (er_var rfl) (er_var rfl) ?_) (er_ixl (er_var rfl) (er_mod (er_add (er_var rfl) er_c) (er_var rfl) ?_) ?_) ?_) er_c)⟩
    · exact atI_mapS (atIC_prev hi)
    · exact atI_mapS (atI_ofNat rfl (by have := atC_get (l := l) (i := i) (by omega); rw [Nat.mod_eq_of_lt hi] at this; exact this))
    · omega
    · exact atI_mapS (atIC_next (by omega))
    · exact ⟨m _, m _, m _⟩
  · rw [rgR_len, Int.toNat_natCast, List.map_map]
    rfl
abbrev s_twice_size : Stmt := top 48
theorem sc_twice_size : FnScope ["corners", "a", "b"] ["corners"] (defScope s_twice_size) := ⟨rfl, rfl, rfl, by decide +kernel, rfl, by decide +kernel, by decide +kernel⟩
abbrev pre_twice_size (K : PySem.W.Frag) : List Rp → Rp → Prop := p1 (fun l : List C2 => l.length ≤ 40000 ∧ ∀ c ∈ l, Sm c) (fun l => sR K (l.map (cR K))) iR tsI
theorem ok_twice_size (A : Fa K mg "twice_size" s_twice_size ["corners"]) (T : Txt K mg CPiece CPart) (C_sides_round : Cb P w K mg base "sides_round" 1 ["corners"] (pre_sides_round K)) : Cb P w K mg base "twice_size" 2 ["corners"] (pre_twice_size K) := by
  obtain ⟨f, fd, F, hm, hb⟩ := A.ex
  have nd := sc_twice_size.nd
  refine ⟨f, fd, fn_ok F sc_twice_size (fun rs r h => p1_len h) (fun cdv A outer s H E hr => ⟨_, (pss_one (ps_ret (pe_callB (cSum (K := K) rfl rfl) (by rfl) T.sum (by decide +kernel) (pa_cons (pe_lc (own := [("a", 1), ("b", 2)]) (g := (gTup K 2 (gCons (gName 1) (gCons (gName 2) gNil)))) (tt := tYes) rfl nd (pi_list (pe_cb C_sides_round (hr.mono (by decide)) rfl (pa_cons (pv 0) pa_nil))) (blkOk_by (own := [("a", 1), ("b", 2)]) (N := ["corners", "a", "b"]) (sc := defScope s_twice_size) (by decide +kernel)) (fun _ _ _ _ _ => (pg_tup rfl (pgs_cons (pg_name (i := 1) nd rfl (by first | exact Or.inl rfl | exact Or.inr rfl)) (pgs_cons (pg_name (i := 2) nd rfl (by first | exact Or.inl rfl | exact Or.inr rfl)) pgs_nil)))) (fun _ _ _ _ _ => pts_nil) (fun _ _ _ _ _ => (pe_op op_sub (pe_op op_mulX (pe_ix (ixT (K := K) rfl) (pv 1) pe_int (fun _ _ => rfl)) (pe_ix (ixT (K := K) rfl) (pv 2) pe_int (fun _ _ => rfl))) (pe_op op_mulX (pe_ix (ixT (K := K) rfl) (pv 1) pe_int (fun _ _ => rfl)) (pe_ix (ixT (K := K) rfl) (pv 2) pe_int (fun _ _ => rfl)))))) pa_nil)))), fun rs r h => ?_⟩), hm, F.kp, hb⟩
  obtain ⟨l, ⟨hz, hb⟩, rfl, rfl⟩ := h
  have hl : (sdC l).length = l.length := by unfold sdC; simp
  have hs : ∀ s ∈ sdC l, Sm s.1 ∧ Sm s.2 := fun s hs => by
    unfold sdC at hs
    obtain ⟨i, hi, rfl⟩ := List.mem_map.mp hs
    have : 0 < l.length := by rw [List.mem_range] at hi; omega
    exact ⟨hb _ (atC_mem this), hb _ (atC_mem this)⟩
  refine s_ret (er_callB (ar_cons (er_ls (er_eq (er_mapL (xs := sdC l) (ra := sgR K) (rc := fun s => iR (s.1.1 * s.2.2 - s.1.2 * s.2.1)) (ir_list (er_ls (er_c1 (er_var rfl) ?_))) (by omega) fun i s hs' => ⟨_, _, g_two, fun _ h => h, (er_sub (er_mul (er_ixt (er_var rfl) er_c) (er_ixt (er_var rfl) er_c) ?_) (er_mul (er_ixt (er_var rfl) er_c) (er_ixt (er_var rfl) er_c) ?_))⟩) (rb := lR (((sdC l).map fun s => s.1.1 * s.2.2 - s.1.2 * s.2.1).map iR)) ?_)) ar_nil) cr_sum)
  · exact hz
  · exact (Sm.m2 (hs s (List.mem_of_getElem? hs')).1 (hs s (List.mem_of_getElem? hs')).2).1
  · exact (Sm.m2 (hs s (List.mem_of_getElem? hs')).1 (hs s (List.mem_of_getElem? hs')).2).2
  · rw [List.map_map]; rfl
abbrev s_is_in_triangle : Stmt := top 51
theorem sc_is_in_triangle : FnScope ["a", "b", "c", "point"] ["a", "b", "c", "point"] (defScope s_is_in_triangle) := ⟨rfl, rfl, rfl, by decide +kernel, rfl, by decide +kernel, by decide +kernel⟩
abbrev pre_is_in_triangle (K : PySem.W.Frag) : List Rp → Rp → Prop := p4 (fun a b c p => Sm a ∧ Sm b ∧ Sm c ∧ Sm p) (cR K) (cR K) (cR K) (cR K) bR triI
theorem ok_is_in_triangle (A : Fa K mg "is_in_triangle" s_is_in_triangle ["a", "b", "c", "point"]) (T : Txt K mg CPiece CPart) (C_left_of : Cb P w K mg base "left_of" 1 ["a", "b", "c"] (pre_left_of K)) : Cb P w K mg base "is_in_triangle" 2 ["a", "b", "c", "point"] (pre_is_in_triangle K) := by
  obtain ⟨f, fd, F, hm, hb⟩ := A.ex
  have nd := sc_is_in_triangle.nd
  refine ⟨f, fd, fn_ok F sc_is_in_triangle (fun rs r h => q4_len h) (fun cdv A outer s H E hr => ⟨_, (pss_one (ps_ret (pe_and (pe_cmpR op_ge (pe_cb C_left_of (hr.mono (by decide)) rfl (pa_cons (pv 0) (pa_cons (pv 1) (pa_cons (pv 3) pa_nil)))) pe_int (nomark _)) (pe_and (pe_cmpR op_ge (pe_cb C_left_of (hr.mono (by decide)) rfl (pa_cons (pv 1) (pa_cons (pv 2) (pa_cons (pv 3) pa_nil)))) pe_int (nomark _)) (pe_one (pe_cmpR op_ge (pe_cb C_left_of (hr.mono (by decide)) rfl (pa_cons (pv 2) (pa_cons (pv 0) (pa_cons (pv 3) pa_nil)))) pe_int (nomark _))))))), fun rs r h => ?_⟩), hm, F.kp, hb⟩
  obtain ⟨a, b, c, p, ⟨ka, kb, kc, kp⟩, rfl, rfl⟩ := h
  refine s_ret (er_and (er_ge (er_c3 (er_var rfl) (er_var rfl) (er_var rfl) ?_) er_c) (fun hb => (er_and (er_ge (er_c3 (er_var rfl) (er_var rfl) (er_var rfl) ?_) er_c) (fun hb => (er_ge (er_c3 (er_var rfl) (er_var rfl) (er_var rfl) ?_) er_c)))))
  · exact ⟨ka, kb, kp⟩
  · exact ⟨kb, kc, kp⟩
  · exact ⟨kc, ka, kp⟩
abbrev s_ear_at : Stmt := top 52
theorem sc_ear_at : FnScope ["corners", "k"] ["corners", "k"] (defScope s_ear_at) := ⟨rfl, rfl, rfl, by decide +kernel, rfl, by decide +kernel, by decide +kernel⟩
abbrev pre_ear_at (K : PySem.W.Frag) : List Rp → Rp → Prop := p2 (fun (l : List C2) (k : Nat) => l.length ≤ 40000 ∧ k < l.length) (fun l => sR K (l.map (cR K))) (fun k => iR (k : Int)) (fun l => lR (l.map (cR K))) eat
theorem ok_ear_at (A : Fa K mg "ear_at" s_ear_at ["corners", "k"]) (T : Txt K mg CPiece CPart) : Cb P w K mg base "ear_at" 1 ["corners", "k"] (pre_ear_at K) := by
  obtain ⟨f, fd, F, hm, hb⟩ := A.ex
  have nd := sc_ear_at.nd
  refine ⟨f, fd, fn_ok F sc_ear_at (fun rs r h => p2_len h) (fun cdv A outer s H E hr => ⟨_, (pss_one (ps_ret (pe_lst (pa_cons (pe_ix (ixL (K := K) rfl) (pv 0) (pe_op op_sub (pv 1) pe_int) (fun _ _ => rfl)) (pa_cons (pe_ix (ixL (K := K) rfl) (pv 0) (pv 1) (fun _ _ => rfl)) (pa_cons (pe_ix (ixL (K := K) rfl) (pv 0) (pe_op op_mod (pe_op op_add (pv 1) pe_int) (pe_callB (cLen (K := K) rfl) (by rfl) T.len PySem.boot_len (pa_cons (pv 0) pa_nil))) (fun _ _ => rfl)) pa_nil)))))), fun rs r h => ?_⟩), hm, F.kp, hb⟩
  obtain ⟨l, k, ⟨hz, hk⟩, rfl, rfl⟩ := h
  have nl : ((l.map (cR K)).length : Int) = (l.length : Int) := by rw [List.length_map]
  refine s_ret (er_eq (er_lst (ar_cons (er_ixl (er_var rfl) (er_sub (er_var rfl) er_c) ?_) (ar_cons (er_ixl (er_var rfl) (er_var rfl) ?_) (ar_cons (er_ixl (er_var rfl) (er_mod (er_add (er_var rfl) er_c) (er_len (er_var rfl)) ?_) ?_) ar_nil)))) (ra := lR [cR K (atC l (k + l.length - 1)), cR K (atC l k), cR K (atC l (k + 1))]) rfl)
  · exact atI_mapS (atIC_prev hk)
  · exact atI_mapS (atI_ofNat rfl (by have := atC_get (l := l) (i := k) (by omega); rw [Nat.mod_eq_of_lt hk] at this; exact this))
  · rw [nl]; omega
  · rw [nl]; exact atI_mapS (atIC_next (by omega))
abbrev s_is_ear : Stmt := top 53
theorem sc_is_ear : FnScope ["corners", "k", "a", "b", "c", "point"] ["corners", "k"] (defScope s_is_ear) := ⟨rfl, rfl, rfl, by decide +kernel, rfl, by decide +kernel, by decide +kernel⟩
abbrev pre_is_ear (K : PySem.W.Frag) : List Rp → Rp → Prop := p2 (fun (l : List C2) (k : Nat) => l.length ≤ 40000 ∧ k < l.length ∧ ∀ c ∈ l, Sm c) (fun l => sR K (l.map (cR K))) (fun k => iR (k : Int)) bR earC
theorem ok_is_ear (A : Fa K mg "is_ear" s_is_ear ["corners", "k"]) (T : Txt K mg CPiece CPart) (C_ear_at : Cb P w K mg base "ear_at" 1 ["corners", "k"] (pre_ear_at K)) (C_left_of : Cb P w K mg base "left_of" 1 ["a", "b", "c"] (pre_left_of K)) (C_is_in_triangle : Cb P w K mg base "is_in_triangle" 2 ["a", "b", "c", "point"] (pre_is_in_triangle K)) : Cb P w K mg base "is_ear" 3 ["corners", "k"] (pre_is_ear K) := by
  obtain ⟨f, fd, F, hm, hb⟩ := A.ex
  have nd := sc_is_ear.nd
  refine ⟨f, fd, fn_ok F sc_is_ear (fun rs r h => p2_len h) (fun cdv A outer s H E hr => ⟨_, (pss_cons (ps_asg (pe_cb C_ear_at (hr.mono (by decide)) rfl (pa_cons (pv 0) (pa_cons (pv 1) pa_nil))) (pgLst (K := K) rfl rfl (pgs_cons (pg_name (i := 2) nd rfl (by first | exact Or.inl rfl | exact Or.inr rfl)) (pgs_cons (pg_name (i := 3) nd rfl (by first | exact Or.inl rfl | exact Or.inr rfl)) (pgs_cons (pg_name (i := 4) nd rfl (by first | exact Or.inl rfl | exact Or.inr rfl)) pgs_nil)))))
      (pss_cons (ps_if (pt_cmpR op_le (pe_cb C_left_of (hr.mono (by decide)) rfl (pa_cons (pv 2) (pa_cons (pv 3) (pa_cons (pv 4) pa_nil)))) pe_int (nomark _)) (pss_one (ps_ret pe_bl)) pss_nil)
      (pss_one (ps_ret (pe_not (pe_callB (cAny (K := K) rfl rfl) (by rfl) T.any (by decide +kernel) (pa_cons (pe_lc (own := [("point", 5)]) (g := (gName 5)) rfl nd (pi_list (pv 0)) (blkOk_by (own := [("point", 5)]) (N := ["corners", "k", "a", "b", "c", "point"]) (sc := defScope s_is_ear) (by decide +kernel)) (fun _ _ _ _ _ => (pg_name (i := 5) nd rfl (by first | exact Or.inl rfl | exact Or.inr rfl))) (fun _ _ _ _ _ => (pts_one (pt_cmpR (opNiT (K := K) (units65 hr) rfl) (pv 5) (pe_tup (pa_cons (pv 2) (pa_cons (pv 3) (pa_cons (pv 4) pa_nil)))) (by with_unfolding_all rfl)))) (fun _ _ _ _ _ => (pe_cb C_is_in_triangle (hr.mono (by decide)) rfl (pa_cons (pv 2) (pa_cons (pv 3) (pa_cons (pv 4) (pa_cons (pv 5) pa_nil))))))) pa_nil))))))), fun rs r h => ?_⟩), hm, F.kp, hb⟩
  obtain ⟨l, k, ⟨hz, hk, hb⟩, rfl, rfl⟩ := h
  have m (j : Nat) : Sm (atC l j) := hb _ (atC_mem (by omega))
  unfold earC
  refine s_seq (s_asg (r := lR [cR K (atC l (k + l.length - 1)), cR K (atC l k), cR K (atC l (k + 1))]) (er_c2 (er_var rfl) (er_var rfl) ?_) (g_lstL (gs_cons g_name (gs_cons g_name (gs_cons g_name gs_nil))))) ?_
  · exact ⟨hz, hk⟩
  by_cases c : lefI (atC l (k + l.length - 1)) (atC l k) (atC l (k + 1)) ≤ 0
  · rw [if_pos c]
    refine s_seqR (s_ifT (tr_eq (tr_test (er_le (er_c3 (er_var rfl) (er_var rfl) (er_var rfl) ?_) er_c)) (decide_eq_true c)) (s_ret er_c))
    exact ⟨m _, m _, m _⟩
  · rw [if_neg c]
    refine s_seq (s_ifF (tr_eq (tr_test (er_le (er_c3 (er_var rfl) (er_var rfl) (er_var rfl) ?_) er_c)) (decide_eq_false c)) s_next) (s_ret (er_not (er_callB (ar_cons (er_ls (er_eq (er_filtL (xs := l) (ra := cR K) (rc := fun p => bR (triI (atC l (k + l.length - 1)) (atC l k) (atC l (k + 1)) p)) (outC (atC l (k + l.length - 1)) (atC l k) (atC l (k + 1))) (ir_list (er_var rfl)) (by omega) fun j p hp => ⟨_, _, g_name, fun _ h => h, tr_test (er_outC (er_var rfl) (er_tup (K := K) (ar_cons (er_var rfl) (ar_cons (er_var rfl) (ar_cons (er_var rfl) ar_nil))))), fun _ => (er_c4 (er_var rfl) (er_var rfl) (er_var rfl) (er_var rfl) ?_)⟩) ?_)) ar_nil) cr_any)))
    · exact ⟨m _, m _, m _⟩
    · exact ⟨m _, m _, m _, hb p (List.mem_of_getElem? hp)⟩
    · rw [List.map_map]; rfl
abbrev s_has_crossing : Stmt := top 46
theorem sc_has_crossing : FnScope ["corners", "sides", "many", "k", "j"] ["corners"] (defScope s_has_crossing) := ⟨rfl, rfl, rfl, by decide +kernel, rfl, by decide +kernel, by decide +kernel⟩
abbrev pre_has_crossing (K : PySem.W.Frag) : List Rp → Rp → Prop := p1 (fun l : List C2 => l.length ≤ 40000 ∧ ∀ c ∈ l, Sm c) (fun l => sR K (l.map (cR K))) bR crossI
theorem ok_has_crossing (A : Fa K mg "has_crossing" s_has_crossing ["corners"]) (T : Txt K mg CPiece CPart) (C_sides_round : Cb P w K mg base "sides_round" 1 ["corners"] (pre_sides_round K)) (C_do_meet : Cb P w K mg base "do_meet" 2 ["one", "other"] (pre_do_meet K)) : Cb P w K mg base "has_crossing" 3 ["corners"] (pre_has_crossing K) := by
  obtain ⟨f, fd, F, hm, hb⟩ := A.ex
  have nd := sc_has_crossing.nd
  refine ⟨f, fd, fn_ok F sc_has_crossing (fun rs r h => p1_len h) (fun cdv A outer s H E hr => ⟨_, (pss_cons (ps_set (i := 1) nd rfl (by first | exact Or.inl rfl | exact Or.inr rfl) (pe_cb C_sides_round (hr.mono (by decide)) rfl (pa_cons (pv 0) pa_nil)))
      (pss_cons (ps_set (i := 2) nd rfl (by first | exact Or.inl rfl | exact Or.inr rfl) (pe_callB (cLen (K := K) rfl) (by rfl) T.len PySem.boot_len (pa_cons (pv 1) pa_nil)))
      (pss_cons (ps_for PassesOwn.never rfl (pi_range1 (by rfl) T.range (pa_cons (pv 2) pa_nil)) (pg_name (i := 3) nd rfl (by first | exact Or.inl rfl | exact Or.inr rfl)) (pss_one (ps_for PassesOwn.never rfl (pi_range2 (by rfl) T.range (pa_cons (pe_op op_add (pv 3) pe_int) (pa_cons (pv 2) pa_nil))) (pg_name (i := 4) nd rfl (by first | exact Or.inl rfl | exact Or.inr rfl)) (pss_one (ps_if (PW.pt (pw_and (pt_cmpR op_ne (pe_op op_mod (pe_op op_add (pv 4) pe_int) (pv 2)) (pv 3) (nomark _)) (pw_and1 (pt_val (pe_cb C_do_meet (hr.mono (by decide)) rfl (pa_cons (pe_ix (ixL (K := K) rfl) (pv 1) (pv 3) (fun _ _ => rfl)) (pa_cons (pe_ix (ixL (K := K) rfl) (pv 1) (pv 4) (fun _ _ => rfl)) pa_nil))))))) (pss_one (ps_ret pe_bl)) pss_nil)))))
      (pss_one (ps_ret pe_bl))))), fun rs r h => ?_⟩), hm, F.kp, hb⟩
  obtain ⟨l, ⟨hz, hb⟩, rfl, rfl⟩ := h
  have hl : (sdC l).length = l.length := by unfold sdC; simp
  have nl : (((sdC l).map (sgR K)).length : Int) = (l.length : Int) := by rw [List.length_map, hl]
  have sd (i : Nat) (hi : i < l.length) : (sdC l)[i]? = some (atC l i, atC l (i + 1)) := by unfold sdC; rw [List.getElem?_map, List.getElem?_range hi]; rfl
  have m (i : Nat) (h0 : 0 < l.length) : Sm (atC l i) := hb _ (atC_mem h0)
  let env : List Sl := [.r (sR K (l.map (cR K))), .r (lR ((sdC l).map (sgR K))), .r (iR (l.length : Int)), .no, .no]
  have test : ∀ k j : Nat, k < l.length → j < l.length → TR (tAnd (tTest (tOp rNe (tOp (rI (fun _ j => 0 < j) fun i j => .int (i % j)) (tOp (rI0 fun i j => .int (i + j)) (tVar 4) (tC (.int 1))) (tVar 2)) (tVar 3))) (tB (tCall (Pm (pre_do_meet K)) [] E0 (tCons (tOp (rIxL K) (tVar 1) (tVar 3)) (tCons (tOp (rIxL K) (tVar 1) (tVar 4)) tNil)))))
      [.r (sR K (l.map (cR K))), .r (lR ((sdC l).map (sgR K))), .r (iR (l.length : Int)), .r (iR (k : Int)), .r (iR (j : Int))] (crKJ l k j) := fun k j hk hj => by
    unfold crKJ
    refine tr_and (tr_test (er_neI (er_mod (er_add (er_var rfl) er_c) (er_var rfl) ?_) (er_var rfl))) fun hb => tr_B (er_c2 (a := (atC l k, atC l (k + 1))) (b := (atC l j, atC l (j + 1))) (er_ixl (er_ls (er_var (n := 1) rfl)) (er_var (n := 3) rfl) ?_) (er_ixl (er_ls (er_var (n := 1) rfl)) (er_var (n := 4) rfl) ?_) ?_)
    · omega
    · exact atI_mapS (atI_ofNat rfl (sd k hk))
    · exact atI_mapS (atI_ofNat rfl (sd j hj))
    · exact ⟨m _ (by omega), m _ (by omega), m _ (by omega), m _ (by omega)⟩
  refine s_seq (s_set (er_c1 (er_var rfl) ?_)) (s_seq (s_set (er_i (er_len (er_ls (er_var rfl))) nl)) ?_)
  · exact hz
  refine s_le (Le.of (show _ = env from rfl)) ?_
  have ej (k i : Nat) : (k : Int) + 2 + (i : Int) = ((k + 2 + i : Nat) : Int) := by omega
  have rl (k : Nat) : (rgR ((k : Int) + 2) ((l.length : Int) - ((k : Int) + 2)).toNat).length = l.length - (k + 2) := by rw [rgR_len]; omega
  have e0 (i : Nat) : (0 : Int) + (i : Int) = (i : Int) := by omega
  have inner : ∀ (k : Nat), k < l.length → crK l k = false → S (tFor (iRng2 (tCons (tOp (rI0 fun i j => .int (i + j)) (tVar 3) (tC (.int 2))) (tCons (tVar 2) tNil))) (gName 4) (tIfS (tAnd (tTest (tOp rNe (tOp (rI (fun _ j => 0 < j) fun i j => .int (i % j)) (tOp (rI0 fun i j => .int (i + j)) (tVar 4) (tC (.int 1))) (tVar 2)) (tVar 3))) (tB (tCall (Pm (pre_do_meet K)) [] E0 (tCons (tOp (rIxL K) (tVar 1) (tVar 3)) (tCons (tOp (rIxL K) (tVar 1) (tVar 4)) tNil))))) (tRet (tC (.bl true))) tNext)) [.r (sR K (l.map (cR K))), .r (lR ((sdC l).map (sgR K))), .r (iR (l.length : Int)), .r (iR (k : Int)), .no] (.nx env) := fun k hk hf => by
    refine s_for (ir_rng2 (ar_cons (er_add (er_var rfl) er_c) (ar_cons (er_var rfl) ar_nil)) (by omega) (by omega)) (l.length - (k + 2)) (fun _ => [.r (sR K (l.map (cR K))), .r (lR ((sdC l).map (sgR K))), .r (iR (l.length : Int)), .r (iR (k : Int)), .no]) (Le.refl _) (by rw [rl]; exact Nat.le_refl _) ?_ (.inl ⟨(rl k).symm, _, rfl, Le.no _ 3⟩)
    intro i r hi hr
    obtain ⟨hi', rfl⟩ := rgR_get hr
    rw [ej]
    have : crKJ l k (k + 2 + i) = false := by
      unfold crK at hf
      rw [List.any_eq_false] at hf
      exact Bool.eq_false_iff.mpr (hf i (List.mem_range.mpr hi))
    exact ⟨_, _, g_name, s_ifF (tr_eq (test k (k + 2 + i) hk (by omega)) this) (s_le2 s_next (Le.no _ 4))⟩
  cases hc : crossI l with
  | false =>
    refine s_seq (s_for (fl := .nx env) (ir_rng1 (ar_cons (er_var rfl) ar_nil) (by omega)) l.length (fun _ => env) (Le.refl _) (by rw [rgR_len]; omega) ?_ (.inl ⟨by rw [rgR_len]; omega, _, rfl, Le.refl _⟩)) (s_ret er_c)
    intro i r hi hr
    obtain ⟨hi', rfl⟩ := rgR_get hr
    rw [e0]
    refine ⟨_, _, g_name, inner i hi ?_⟩
    unfold crossI at hc
    rw [List.any_eq_false] at hc
    exact Bool.eq_false_iff.mpr (hc i (List.mem_range.mpr hi))
  | true =>
    obtain ⟨n, x, h1, h2, h3⟩ := first_good hc
    obtain ⟨rfl, hn⟩ := range_get h1
    obtain ⟨n2, x2, k1, k2, k3⟩ := first_good h2
    obtain ⟨rfl, hn2⟩ := range_get k1
    refine s_seqR (s_for (fl := .rt (bR true)) (ir_rng1 (ar_cons (er_var rfl) ar_nil) (by omega)) x (fun _ => env) (Le.refl _) (by rw [rgR_len]; omega) ?_ (.inr ⟨iR (0 + (x : Int)), bR true, _, _, ?_, rfl, g_name, ?_⟩))
    · intro i r hi hr
      obtain ⟨hi', rfl⟩ := rgR_get hr
      rw [e0]
      exact ⟨_, _, g_name, inner i (by omega) (h3 i i hi (List.getElem?_range (by omega)))⟩
    · unfold rgR
      rw [List.getElem?_map, List.getElem?_range (by omega)]
      rfl
    · rw [e0]
      refine s_for (fl := .rt (bR true)) (ir_rng2 (ar_cons (er_add (er_var rfl) er_c) (ar_cons (er_var rfl) ar_nil)) (by omega) (by omega)) x2 (fun _ => [.r (sR K (l.map (cR K))), .r (lR ((sdC l).map (sgR K))), .r (iR (l.length : Int)), .r (iR (x : Int)), .no]) (Le.refl _) (by rw [rl]; omega) ?_ (.inr ⟨iR ((x : Int) + 2 + (x2 : Int)), bR true, _, _, ?_, rfl, g_name, ?_⟩)
      · intro i r hi hr
        obtain ⟨hi', rfl⟩ := rgR_get hr
        rw [ej]
        exact ⟨_, _, g_name, s_ifF (tr_eq (test x (x + 2 + i) hn (by omega)) (k3 i i hi (List.getElem?_range (by omega)))) (s_le2 s_next (Le.no _ 4))⟩
      · unfold rgR
        rw [List.getElem?_map, List.getElem?_range (by omega)]
        rfl
      · rw [ej]
        exact s_ifT (tr_eq (test x (x + 2 + x2) hn (by omega)) k2) (s_ret er_c)
abbrev s_is_figure : Stmt := top 49
theorem sc_is_figure : FnScope ["row", "number", "corners"] ["row"] (defScope s_is_figure) := ⟨rfl, rfl, rfl, by decide +kernel, rfl, by decide +kernel, by decide +kernel⟩
abbrev pre_is_figure (K : PySem.W.Frag) : List Rp → Rp → Prop := p1 (fun ns : List Int => ns.length ≤ 60) (fun ns => sR K (ns.map iR)) bR figI
theorem ok_is_figure (A : Fa K mg "is_figure" s_is_figure ["row"]) (T : Txt K mg CPiece CPart) (C_corners_of : Cb P w K mg base "corners_of" 1 ["row"] (pre_corners_of K)) (C_has_straight : Cb P w K mg base "has_straight" 2 ["corners"] (pre_has_straight K)) (C_has_crossing : Cb P w K mg base "has_crossing" 3 ["corners"] (pre_has_crossing K)) (C_twice_size : Cb P w K mg base "twice_size" 2 ["corners"] (pre_twice_size K)) : Cb P w K mg base "is_figure" 4 ["row"] (pre_is_figure K) := by
  obtain ⟨f, fd, F, hm, hb⟩ := A.ex
  have nd := sc_is_figure.nd
  refine ⟨f, fd, fn_ok F sc_is_figure (fun rs r h => p1_len h) (fun cdv A outer s H E hr => ⟨_, (pss_cons (ps_if (PW.pt (pw_or (pt_cmpR op_eq (pe_op op_mod (pe_callB (cLen (K := K) rfl) (by rfl) T.len PySem.boot_len (pa_cons (pv 0) pa_nil)) pe_int) pe_int (nomark _)) (pw_or1 (pt_not (pt_chain op_le op_le pe_int (pe_op op_fdiv (pe_callB (cLen (K := K) rfl) (by rfl) T.len PySem.boot_len (pa_cons (pv 0) pa_nil)) pe_int) (pe_gi rfl T.g_MOST_CORNERS_figures)))))) (pss_one (ps_ret pe_bl)) pss_nil)
      (pss_cons (ps_if (pt_not (pt_val (pe_callB (cAll (K := K) rfl rfl) (by rfl) T.all (by decide +kernel) (pa_cons (pe_lc (own := [("number", 1)]) (g := (gName 1)) (tt := tYes) rfl nd (pi_list (pv 0)) (blkOk_by (own := [("number", 1)]) (N := ["row", "number", "corners"]) (sc := defScope s_is_figure) (by decide +kernel)) (fun _ _ _ _ _ => (pg_name (i := 1) nd rfl (by first | exact Or.inl rfl | exact Or.inr rfl))) (fun _ _ _ _ _ => pts_nil) (fun _ _ _ _ _ => (pe_chain op_le op_le (pe_un un_neg (pe_gi rfl T.g_MOST_FAR)) (pv 1) (pe_gi rfl T.g_MOST_FAR)))) pa_nil)))) (pss_one (ps_ret pe_bl)) pss_nil)
      (pss_cons (ps_set (i := 2) nd rfl (by first | exact Or.inl rfl | exact Or.inr rfl) (pe_cb C_corners_of (hr.mono (by decide)) rfl (pa_cons (pv 0) pa_nil)))
      (pss_one (ps_ret (pe_and (pe_not (pe_cb C_has_straight (hr.mono (by decide)) rfl (pa_cons (pv 2) pa_nil))) (pe_and (pe_not (pe_cb C_has_crossing (hr.mono (by decide)) rfl (pa_cons (pv 2) pa_nil))) (pe_one (pe_cmpR op_gt (pe_cb C_twice_size (hr.mono (by decide)) rfl (pa_cons (pv 2) pa_nil)) pe_int (nomark _)))))))))), fun rs r h => ?_⟩), hm, F.kp, hb⟩
  obtain ⟨ns, hz, rfl, rfl⟩ := h
  have hz : ns.length ≤ 60 := hz
  have nl : ((ns.map iR).length : Int) = (ns.length : Int) := by rw [List.length_map]
  have hl : (pairs ns).length ≤ 40000 := by rw [pairs_len]; omega
  have c1 (b : Bool) (h : (decide ((ns.length : Int) % 2 = 1) || !(decide (3 ≤ (ns.length : Int) / 2) && decide ((ns.length : Int) / 2 ≤ 8))) = b) : (decide (((ns.map iR).length : Int) % 2 = 1) || !(decide (3 ≤ ((ns.map iR).length : Int) / 2) && decide (((ns.map iR).length : Int) / 2 ≤ 8))) = b := by rw [nl]; exact h
  have c2 : ∀ (b : Bool), (!(ns.map farI).all id) = b → TR (tNot (tB (tCB (rAll K) (tCons (tLc (iList K (tVar 0)) (gName 1) tYes (tChain (rI0 fun i j => .bl (decide (i ≤ j))) (rI0 fun i j => .bl (decide (i ≤ j))) (tUn (rU fun i => .int (-i)) (tC (.int 50))) (tVar 1) (tC (.int 50))) [1]) tNil)))) [.r (sR K (ns.map iR)), .no, .no] b := fun b h =>
    tr_eq (tr_not (tr_B (er_callB (ar_cons (er_ls (er_eq (er_mapL (xs := ns) (ra := iR) (rc := fun n => bR (farI n)) (ir_list (er_var rfl)) (by omega) fun i n hn => ⟨_, _, g_name, fun _ h => h, (er_chain (er_neg er_c) (er_var rfl) br_I0 er_c br_I0)⟩) (rb := lR ((ns.map farI).map bR)) (by rw [List.map_map]; rfl))) ar_nil) cr_all))) h
  unfold figI
  by_cases k1 : (decide ((ns.length : Int) % 2 = 1) || !(decide (3 ≤ (ns.length : Int) / 2) && decide ((ns.length : Int) / 2 ≤ 8))) = true
  · rw [if_pos k1]
    refine s_seqR (s_ifT (tr_eq (tr_or (tr_test (er_eqI (er_mod (er_len (er_var rfl)) er_c ?_) er_c)) (fun hb => (tr_not (tr_test (er_chain er_c (er_half (er_len (er_var rfl))) br_I0 er_c br_I0))))) (c1 _ k1)) (s_ret er_c))
    decide
  · rw [if_neg k1]
    refine s_seq (s_ifF (tr_eq (tr_or (tr_test (er_eqI (er_mod (er_len (er_var rfl)) er_c ?_) er_c)) (fun hb => (tr_not (tr_test (er_chain er_c (er_half (er_len (er_var rfl))) br_I0 er_c br_I0))))) (c1 _ (Bool.eq_false_iff.mpr k1))) s_next) ?_
    · decide
    by_cases k2 : (!(ns.map farI).all id) = true
    · rw [if_pos k2]
      exact s_seqR (s_ifT (c2 _ k2) (s_ret er_c))
    · rw [if_neg k2]
      have far : ∀ c ∈ pairs ns, Sm c := fun c hc => by
        rw [Bool.not_eq_true, Bool.not_eq_false', List.all_map, List.all_eq_true] at k2
        unfold pairs at hc
        obtain ⟨i, hi, rfl⟩ := List.mem_map.mp hc
        rw [List.mem_range] at hi
        have g (j : Nat) (hj : j < ns.length) : -50 ≤ ns.getD j 0 ∧ ns.getD j 0 ≤ 50 := by
          have := k2 _ (List.mem_of_getElem? (getD_get (d := 0) hj))
          have this : farI (ns.getD j 0) = true := this
          unfold farI at this
          simpa using this
        have h1 := g (2 * i) (by omega)
        have h2 := g (2 * i + 1) (by omega)
        unfold Sm
        exact ⟨by show (ns.getD (2 * i) 0).natAbs ≤ 50; omega, by show (ns.getD (2 * i + 1) 0).natAbs ≤ 50; omega⟩
      refine s_seq (s_ifF (c2 _ (Bool.eq_false_iff.mpr k2)) s_next) (s_seq (s_set (er_c1 (er_var rfl) ?_)) (s_ret (er_and (er_not (er_c1 (a := pairs ns) (er_ls (er_var rfl)) ?_)) fun hb => er_and (er_not (er_c1 (a := pairs ns) (er_ls (er_var rfl)) ?_)) fun hb => er_gt (er_c1 (a := pairs ns) (er_ls (er_var rfl)) ?_) er_c)))
      · show ns.length ≤ 4000; omega
      · exact ⟨hl, far⟩
      · exact ⟨hl, far⟩
      · exact ⟨hl, far⟩
abbrev s_figure_size : Stmt := top 50
theorem sc_figure_size : FnScope ["row"] ["row"] (defScope s_figure_size) := ⟨rfl, rfl, rfl, by decide +kernel, rfl, by decide +kernel, by decide +kernel⟩
abbrev pre_figure_size (K : PySem.W.Frag) : List Rp → Rp → Prop := p1 (fun ns : List Int => ns.length ≤ 60 ∧ figI ns = true) (fun ns => sR K (ns.map iR)) (qR K) fszF
theorem ok_figure_size (A : Fa K mg "figure_size" s_figure_size ["row"]) (T : Txt K mg CPiece CPart) (C_ratio : Cb P w K mg base "ratio" 41 ["top", "bottom"] (pre_ratio K)) (C_twice_size : Cb P w K mg base "twice_size" 2 ["corners"] (pre_twice_size K)) (C_corners_of : Cb P w K mg base "corners_of" 1 ["row"] (pre_corners_of K)) : Cb P w K mg base "figure_size" 42 ["row"] (pre_figure_size K) := by
  obtain ⟨f, fd, F, hm, hb⟩ := A.ex
  have nd := sc_figure_size.nd
  refine ⟨f, fd, fn_ok F sc_figure_size (fun rs r h => p1_len h) (fun cdv A outer s H E hr => ⟨_, (pss_one (ps_ret (pe_cb C_ratio (hr.mono (by decide)) rfl (pa_cons (pe_cb C_twice_size (hr.mono (by decide)) rfl (pa_cons (pe_cb C_corners_of (hr.mono (by decide)) rfl (pa_cons (pv 0) pa_nil)) pa_nil)) (pa_cons pe_int pa_nil))))), fun rs r h => ?_⟩), hm, F.kp, hb⟩
  obtain ⟨ns, ⟨hz, hf⟩, rfl, rfl⟩ := h
  refine s_ret (er_eq (er_c2 (er_c1 (er_ls (er_c1 (er_var rfl) ?_)) ?_) er_c ?_) rfl)
  · show ns.length ≤ 4000; omega
  · exact ⟨by rw [pairs_len]; omega, sm_far hf⟩
  · exact (by decide : (0 : Int) < 2)
abbrev s_cut_up : Stmt := top 54
theorem sc_cut_up : FnScope ["row", "left", "found", "turn", "ears", "k"] ["row"] (defScope s_cut_up) := ⟨rfl, rfl, rfl, by decide +kernel, rfl, by decide +kernel, by decide +kernel⟩
abbrev pre_cut_up (K : PySem.W.Frag) : List Rp → Rp → Prop := p1 (fun ns : List Int => ns.length ≤ 60 ∧ figI ns = true) (fun ns => sR K (ns.map iR)) (fun ts => lR (ts.map fun t => lR (t.map (cR K)))) (fun ns => cutI ((pairs ns).length - 3) (pairs ns))
theorem ok_cut_up (A : Fa K mg "cut_up" s_cut_up ["row"]) (T : Txt K mg CPiece CPart) (C_corners_of : Cb P w K mg base "corners_of" 1 ["row"] (pre_corners_of K)) (C_ear_at : Cb P w K mg base "ear_at" 1 ["corners", "k"] (pre_ear_at K)) (C_is_ear : Cb P w K mg base "is_ear" 3 ["corners", "k"] (pre_is_ear K)) : Cb P w K mg base "cut_up" 4 ["row"] (pre_cut_up K) := by
  obtain ⟨f, fd, F, hm, hb⟩ := A.ex
  have nd := sc_cut_up.nd
  refine ⟨f, fd, fn_ok F sc_cut_up (fun rs r h => p1_len h) (fun cdv A outer s H E hr => ⟨_, (pss_cons (ps_set (i := 1) nd rfl (by first | exact Or.inl rfl | exact Or.inr rfl) (pe_cb C_corners_of (hr.mono (by decide)) rfl (pa_cons (pv 0) pa_nil)))
      (pss_cons (ps_set (i := 2) nd rfl (by first | exact Or.inl rfl | exact Or.inr rfl) (pe_lst pa_nil))
      (pss_cons (ps_for PassesOwn.never rfl (pi_range1 (by rfl) T.range (pa_cons (pe_op op_sub (pe_callB (cLen (K := K) rfl) (by rfl) T.len PySem.boot_len (pa_cons (pv 1) pa_nil)) pe_int) pa_nil)) (pg_name (i := 3) nd rfl (by first | exact Or.inl rfl | exact Or.inr rfl)) (pss_cons (ps_setLc (i := 4) (own := [("k", 5)]) (g := (gName 5)) rfl nd rfl rfl (sw_true rfl rfl rfl (by decide +kernel)) (pi_range1 (by rfl) T.range (pa_cons (pe_callB (cLen (K := K) rfl) (by rfl) T.len PySem.boot_len (pa_cons (pv 1) pa_nil)) pa_nil)) (blkOk_by (own := [("k", 5)]) (N := ["row", "left", "found", "turn", "ears", "k"]) (sc := defScope s_cut_up) (by decide +kernel)) (fun _ _ _ _ _ => (pg_name (i := 5) nd rfl (by first | exact Or.inl rfl | exact Or.inr rfl))) (fun _ _ _ _ _ => (pts_one (pt_val (pe_cb C_is_ear (hr.mono (by decide)) rfl (pa_cons (pv 1) (pa_cons (pv 5) pa_nil)))))) (fun _ _ _ _ _ => (pv 5)))
      (pss_cons (ps_expr (pe_bm PySem.F.plainAttrs_list PySem.F.slot_list_append PySem.F.type_list_append mt_append (pv 2) (pa_cons (pe_cb C_ear_at (hr.mono (by decide)) rfl (pa_cons (pv 1) (pa_cons (pe_ix (ixL (K := K) rfl) (pv 4) pe_int (fun _ _ => rfl)) pa_nil))) pa_nil)))
      (pss_one (ps_set (i := 1) nd rfl (by first | exact Or.inl rfl | exact Or.inr rfl) (pe_op op_cat (pe_slice (slL (K := K) rfl) (pv 1) po_none (po_some (pe_ix (ixL (K := K) rfl) (pv 4) pe_int (fun _ _ => rfl)))) (pe_slice (slL (K := K) rfl) (pv 1) (po_some (pe_op op_add (pe_ix (ixL (K := K) rfl) (pv 4) pe_int (fun _ _ => rfl)) pe_int)) po_none)))))))
      (pss_one (ps_ret (pe_op op_cat (pv 2) (pe_lst (pa_cons (pv 1) pa_nil)))))))), fun rs r h => ?_⟩), hm, F.kp, hb⟩
  obtain ⟨ns, ⟨hz, hf⟩, rfl, rfl⟩ := h
  have g := fig_good hf
  have sm := sm_far hf
  have g3 := g.len
  have pl := pairs_len ns
  refine s_seq (s_set (er_c1 (er_var rfl) ?_)) (s_seq (s_own ar_nil) ?_)
  · show ns.length ≤ 4000; omega
  let env : Nat → List Sl := fun i => [.r (sR K (ns.map iR)), .r (lR ((lft (pairs ns) i).map (cR K))), .l ((fnd (pairs ns) i).map fun t => lR (t.map (cR K))), .no, .no, .no]
  refine s_le (Le.of (show _ = env 0 from rfl)) ?_
  have nl (i : Nat) : (((lft (pairs ns) i).map (cR K)).length : Int) = ((lft (pairs ns) i).length : Int) := by rw [List.length_map]
  have fl (i : Nat) : (fnd (pairs ns) i).length = i := by unfold fnd; simp
  refine s_seq (s_for (fl := .nx (env ((pairs ns).length - 3))) (ir_rng1 (ar_cons (er_sub (er_len (er_ls (er_var (n := 1) rfl))) er_c) ar_nil) (by rw [List.length_map]; show _ ∧ ((pairs ns).length : Int) - 3 ≤ _; omega)) ((pairs ns).length - 3) env (Le.refl _) (by rw [rgR_len, List.length_map]; show _ ≤ ((((pairs ns).length : Nat) : Int) - 3).toNat; omega) ?_ (.inl ⟨by rw [rgR_len, List.length_map]; show _ = ((((pairs ns).length : Nat) : Int) - 3).toNat; omega, _, rfl, Le.refl _⟩)) ?_
  · intro i r hi hr
    obtain ⟨_, rfl⟩ := rgR_get hr
    obtain ⟨k1, k2, k3⟩ := lft_good g i (by omega)
    obtain ⟨f1, f2, fr, f3⟩ := good_first k1
    have e1 : lR (gv ((lft (pairs ns) i).length) (fun j => earC (lft (pairs ns) i) j) (fun j => iR (j : Int))) = lR (iR (firstE (lft (pairs ns) i) : Int) :: fr.map fun j : Nat => iR (j : Int)) := by
      unfold gv
      show lR (((List.range _).filter (earC (lft (pairs ns) i))).map _) = _
      rw [f3, List.map_cons]
    have lz : (lft (pairs ns) i).length ≤ 40000 := by omega
    have at0 : atI (iR (firstE (lft (pairs ns) i) : Int) :: fr.map fun j : Nat => iR (j : Int)) 0 = some (iR (firstE (lft (pairs ns) i) : Int)) := atI_ofNat (j := 0) rfl rfl
    refine ⟨_, _, g_name, s_le (Le.of (show _ = [.r (sR K (ns.map iR)), .r (lR ((lft (pairs ns) i).map (cR K))), .l ((fnd (pairs ns) i).map fun t => lR (t.map (cR K))), .r (iR (0 + (i : Int))), .no, .no] from rfl)) (s_seq (s_set (er_eq (er_lc (ir_rng1 (ar_cons (er_i (er_len (er_ls (er_var (n := 1) rfl))) (nl i)) ar_nil) (by omega)) (fun j => earC (lft (pairs ns) i) j) (fun j => iR (j : Int)) (by rw [rgR_len]; omega) ?_) ((congrArg (fun n => lR (gv n (fun j => earC (lft (pairs ns) i) j) (fun j => iR (j : Int)))) (by rw [rgR_len, Int.toNat_natCast])).trans e1))) ?_)⟩
    · intro j r hr
      obtain ⟨hj, rfl⟩ := rgR_get hr
      have e0 : (0 : Int) + (j : Int) = (j : Int) := by omega
      rw [e0]
      refine ⟨_, _, g_name, fun _ h => h, tr_B (er_c2 (a := lft (pairs ns) i) (b := j) (er_ls (er_var (n := 1) rfl)) (er_var rfl) ?_), fun _ => er_var rfl⟩
      exact ⟨lz, by omega, fun c hc => sm c (k3 c hc)⟩
    · refine s_le (Le.of (show _ = [.r (sR K (ns.map iR)), .r (lR ((lft (pairs ns) i).map (cR K))), .l ((fnd (pairs ns) i).map fun t => lR (t.map (cR K))), .r (iR (0 + (i : Int))), .r (lR (iR (firstE (lft (pairs ns) i) : Int) :: fr.map fun j : Nat => iR (j : Int))), .no] from rfl)) (s_seq (s_app (i := 2) rfl (er_c2 (a := lft (pairs ns) i) (b := firstE (lft (pairs ns) i)) (er_ls (er_var (n := 1) rfl)) (er_ixl (er_ls (er_var (n := 4) rfl)) er_c at0) ?_) ?_) ?_)
      · exact ⟨lz, f1⟩
      · rw [List.length_map, fl]; omega
      · refine s_le2 (s_set (er_eq (er_op (er_eq (er_slice (er_ls (er_var (n := 1) rfl)) or_no (or_some (er_ixl (er_ls (er_var (n := 4) rfl)) er_c at0))) (congrArg lR (cutA_to _ _))) (er_eq (er_slice (er_ls (er_var (n := 1) rfl)) (or_some (er_i (er_add (er_ixl (er_ls (er_var (n := 4) rfl)) er_c at0) er_c) (show (firstE (lft (pairs ns) i) : Int) + 1 = ((firstE (lft (pairs ns) i) + 1 : Nat) : Int) by omega))) or_no) (congrArg lR (cutA_from _ _))) (br_cat ?_)) (rb := lR ((lft (pairs ns) (i + 1)).map (cR K))) ?_)) ?_
        · rw [List.length_take, List.length_drop, List.length_map]; omega
        · show _ = lR (((lft (pairs ns) i).take (firstE (lft (pairs ns) i)) ++ (lft (pairs ns) i).drop (firstE (lft (pairs ns) i) + 1)).map (cR K))
          rw [List.map_append, List.map_take, List.map_drop]
        · have ef : (fnd (pairs ns) (i + 1)).map (fun t => lR (t.map (cR K))) = (fnd (pairs ns) i).map (fun t => lR (t.map (cR K))) ++ [lR ((eat (lft (pairs ns) i) (firstE (lft (pairs ns) i))).map (cR K))] := by
            unfold fnd
            rw [List.range_succ, List.map_append, List.map_append]
            rfl
          show Le _ [_, _, .l ((fnd (pairs ns) (i + 1)).map fun t => lR (t.map (cR K))), _, _, _]
          rw [ef]
          exact (Le.no _ 3).trans (Le.no _ 4)
  · refine s_freeze 2 rfl (s_ret (er_eq (er_op (er_var (n := 2) rfl) (er_lst (ar_cons (er_var (n := 1) rfl) ar_nil)) (br_cat ?_)) ?_))
    · rw [List.length_map, fl]; simp; omega
    · show _ = lR ((cutI ((pairs ns).length - 3) (pairs ns)).map fun t => lR (t.map (cR K)))
      rw [cutI_is, List.map_append]
      rfl
abbrev s_point_of : Stmt := top 55
theorem sc_point_of : FnScope ["corner"] ["corner"] (defScope s_point_of) := ⟨rfl, rfl, rfl, by decide +kernel, rfl, by decide +kernel, by decide +kernel⟩
abbrev pre_point_of (K : PySem.W.Frag) : List Rp → Rp → Prop := p1 (fun _ : C2 => True) (cR K) (pR K) wp
theorem ok_point_of (A : Fa K mg "point_of" s_point_of ["corner"]) (T : Txt K mg CPiece CPart) : Cb P w K mg base "point_of" 1 ["corner"] (pre_point_of K) := by
  obtain ⟨f, fd, F, hm, hb⟩ := A.ex
  have nd := sc_point_of.nd
  refine ⟨f, fd, fn_ok F sc_point_of (fun rs r h => p1_len h) (fun cdv A outer s H E hr => ⟨_, (pss_one (ps_ret (pe_tup (pa_cons (pe_tup (pa_cons (pe_ix (ixT (K := K) rfl) (pv 0) pe_int (fun _ _ => rfl)) (pa_cons pe_int pa_nil))) (pa_cons (pe_tup (pa_cons (pe_ix (ixT (K := K) rfl) (pv 0) pe_int (fun _ _ => rfl)) (pa_cons pe_int pa_nil))) pa_nil))))), fun rs r h => ?_⟩), hm, F.kp, hb⟩
  obtain ⟨c, _, rfl, rfl⟩ := h
  exact s_ret (er_eq (er_tup (K := K) (ar_cons (er_tup (K := K) (ar_cons (er_ixt (er_var rfl) er_c) (ar_cons er_c ar_nil))) (ar_cons (er_tup (K := K) (ar_cons (er_ixt (er_var rfl) er_c) (ar_cons er_c ar_nil))) ar_nil))) rfl)
abbrev s_triangles_of : Stmt := top 56
theorem sc_triangles_of : FnScope ["row", "some", "corner", "triangle", "piece"] ["row"] (defScope s_triangles_of) := ⟨rfl, rfl, rfl, by decide +kernel, rfl, by decide +kernel, by decide +kernel⟩
abbrev pre_triangles_of (K : PySem.W.Frag) (CPiece : Addr) : List Rp → Rp → Prop := p1 (fun ns : List Int => ns.length ≤ 60 ∧ figI ns = true) (fun ns => sR K (ns.map iR)) (fun ts => lR (ts.map (pcR K CPiece))) trisF
theorem ok_triangles_of (A : Fa K mg "triangles_of" s_triangles_of ["row"]) (T : Txt K mg CPiece CPart) (C_piece_of : Cb P w K mg base "piece_of" 46 ["corners"] (pre_piece_of K CPiece)) (C_cut_up : Cb P w K mg base "cut_up" 4 ["row"] (pre_cut_up K)) (C_point_of : Cb P w K mg base "point_of" 1 ["corner"] (pre_point_of K)) : Cb P w K mg base "triangles_of" 47 ["row"] (pre_triangles_of K CPiece) := by
  obtain ⟨f, fd, F, hm, hb⟩ := A.ex
  have nd := sc_triangles_of.nd
  refine ⟨f, fd, fn_ok F sc_triangles_of (fun rs r h => p1_len h) (fun cdv A outer s H E hr => ⟨_, (pss_cons (ps_setLc (i := 1) (te := tCall (Pm (pre_piece_of K CPiece)) [] E0 (tCons (tLc (iList K (tVar 3)) (gName 2) tYes (tCall (Pm (pre_point_of K)) [] E0 (tCons (tVar 2) tNil)) [2]) tNil)) (own := [("triangle", 3)]) (g := (gName 3)) (tt := tYes) rfl nd rfl rfl (sw_true rfl rfl rfl (by decide +kernel)) (pi_list (pe_cb C_cut_up (hr.mono (by decide)) rfl (pa_cons (pv 0) pa_nil))) (blkOk_by (own := [("triangle", 3)]) (N := ["row", "some", "corner", "triangle", "piece"]) (sc := defScope s_triangles_of) (by decide +kernel)) (fun _ _ _ _ _ => (pg_name (i := 3) nd rfl (by first | exact Or.inl rfl | exact Or.inr rfl))) (fun _ _ _ _ _ => pts_nil) (fun _ _ _ _ _ => by (refine pe_cb C_piece_of (hr.mono (by decide)) rfl (pa_cons ?_ pa_nil); refine pe_lc (own := [("corner", 2)]) (g := (gName 2)) (tt := tYes) rfl nd ?_ ?_ ?_ ?_ ?_; (exact pi_list (pv 3)); (exact blkOk_by (own := [("corner", 2)]) (N := ["row", "some", "corner", "triangle", "piece"]) (sc := ({ kind := .function, names := [(".0", .local), ("triangle", .local), ("piece_of", .globalImplicit)], isGenerator := false, isCoroutine := false } : Scope)) (by decide +kernel)); (exact fun _ _ _ _ _ => (pg_name (i := 2) nd rfl (by first | exact Or.inl rfl | exact Or.inr rfl))); (exact fun _ _ _ _ _ => pts_nil); (exact (fun _ _ _ _ _ => (pe_cb C_point_of (hr.mono (by decide)) rfl (pa_cons (pv 2) pa_nil)))))))
      (pss_one (ps_ret (pe_lc (own := [("piece", 4)]) (g := (gName 4)) rfl nd (pi_list (pv 1)) (blkOk_by (own := [("piece", 4)]) (N := ["row", "some", "corner", "triangle", "piece"]) (sc := defScope s_triangles_of) (by decide +kernel)) (fun _ _ _ _ _ => (pg_name (i := 4) nd rfl (by first | exact Or.inl rfl | exact Or.inr rfl))) (fun _ _ _ _ _ => (pts_one (pt_cmpR op_notN (pv 4) pe_non (nomark _)))) (fun _ _ _ _ _ => (pv 4)))))), fun rs r h => ?_⟩), hm, F.kp, hb⟩
  obtain ⟨ns, ⟨hz, hf⟩, rfl, rfl⟩ := h
  have ct := cut_tri (fig_good hf) (sm_far hf)
  have cl : (cutI ((pairs ns).length - 3) (pairs ns)).length ≤ 50 := by rw [cutI_len, pairs_len]; omega
  refine s_seq (s_set (er_mapL (xs := cutI ((pairs ns).length - 3) (pairs ns)) (ra := fun t => lR (t.map (cR K))) (rc := fun t => opR (pcR K CPiece) (pcF2 (t.map wp))) (ir_list (er_ls (er_c1 (er_var rfl) ?_))) (by omega) fun i t ht => ⟨_, _, g_name, fun _ h => h, er_c1 (a := t.map wp) (er_ls (er_eq (er_mapL (xs := t) (ra := cR K) (rc := fun c => pR K (wp c)) (ir_list (er_ls (er_var rfl))) ?_ fun j c hc => ⟨_, _, g_name, fun _ h => h, (er_c1 (er_var rfl) ?_)⟩) ?_)) ?_⟩)) (s_ret (er_eq (er_filtL (xs := (cutI ((pairs ns).length - 3) (pairs ns)).map fun t => pcF2 (t.map wp)) (ra := opR (pcR K CPiece)) (rc := opR (pcR K CPiece)) Option.isSome (ir_list (er_ls (er_eq (er_var rfl) ?_))) (by rw [List.length_map]; omega) fun j o ho => ⟨_, _, g_name, fun _ h => h, tr_test (er_notO (fun _ => nn_o) (er_var rfl)), fun _ => er_var rfl⟩) ?_))
  · exact ⟨hz, hf⟩
  · have := (ct t (List.mem_of_getElem? ht)).l
    rw [List.length_map] at this
    omega
  · exact trivial
  · rw [List.map_map]; rfl
  · have k := ct t (List.mem_of_getElem? ht)
    exact ⟨by rw [k.l]; decide, fun z hz => (k.b z hz).mono (by decide), k.v.c⟩
  · rw [List.map_map]; rfl
  · rw [filter_some, List.filterMap_map]
    rfl
abbrev s_Part_goal : Stmt := inClass (top 59) 1
theorem sc_Part_goal : FnScope ["self"] ["self"] (defScope s_Part_goal) := ⟨rfl, rfl, rfl, by decide +kernel, rfl, by decide +kernel, by decide +kernel⟩
abbrev pre_Part_goal (K : PySem.W.Frag) (CPiece : Addr) (CPart : Addr) : List Rp → Rp → Prop := p1 (fun p : Kzq2.Part => p.l ≠ [] ∧ p.l.length ≤ 40000 ∧ BL 1000000 p.l ∧ Fp 1000000 p.m.t) (ptR K CPiece CPart) (pcR K CPiece) (fun p => Kzq1.begunWith (p.l.map (Kzq2.go p.m)))
theorem ok_Part_goal (A : Fm K CPart "goal" "Part.goal" s_Part_goal ["self"]) (T : Txt K mg CPiece CPart) (C_moved : Cb P w K mg base "moved" 46 ["move", "piece"] (pre_moved K CPiece)) : Cm P w K mg base CPart "goal" 47 ["self"] (pre_Part_goal K CPiece CPart) := by
  obtain ⟨f, fd, F, hm, hfn, hb⟩ := A.ex
  have nd := sc_Part_goal.nd
  refine ⟨f, fd, ⟨hm, hfn, F.kp⟩, fn_ok F sc_Part_goal (fun rs r h => p1_len h) (fun cdv A outer s H E hr => ⟨_, (pss_one (ps_ret (pe_cb C_moved (hr.mono (by decide)) rfl (pa_cons (peFld (K := K) (pv 0) rfl) (pa_cons (peFld (K := K) (pv 0) rfl) pa_nil))))), fun rs r h => ?_⟩), hb⟩
  obtain ⟨p, hp, rfl, rfl⟩ := h
  refine s_ret (er_c2 (a := p.m) (b := p.l) (er_fld (er_var rfl) T.cl_Part T.n_move rfl) (er_fld (er_var rfl) T.cl_Part T.n_piece rfl) ?_)
  exact hp
abbrev s_shared_size : Stmt := top 61
theorem sc_shared_size : FnScope ["piece", "some", "shared", "other", "one"] ["piece", "some"] (defScope s_shared_size) := ⟨rfl, rfl, rfl, by decide +kernel, rfl, by decide +kernel, by decide +kernel⟩
abbrev pre_shared_size (K : PySem.W.Frag) (CPiece : Addr) : List Rp → Rp → Prop := p2 (fun p ts => PcOk p ∧ (∀ t ∈ ts, Tri t) ∧ ts.length ≤ 6) (pcR K CPiece) (fun ts => lR (ts.map (pcR K CPiece))) (qR K) shF
theorem ok_shared_size (A : Fa K mg "shared_size" s_shared_size ["piece", "some"]) (T : Txt K mg CPiece CPart) (C_total : Cb P w K mg base "total" 43 ["some"] (pre_total K)) (C_in_both : Cb P w K mg base "in_both" 47 ["one", "other"] (pre_in_both K CPiece)) (C_size : Cb P w K mg base "size" 47 ["piece"] (pre_size K CPiece)) : Cb P w K mg base "shared_size" 48 ["piece", "some"] (pre_shared_size K CPiece) := by
  obtain ⟨f, fd, F, hm, hb⟩ := A.ex
  have nd := sc_shared_size.nd
  refine ⟨f, fd, fn_ok F sc_shared_size (fun rs r h => p2_len h) (fun cdv A outer s H E hr => ⟨_, (pss_cons (ps_setLc (i := 2) (own := [("other", 3)]) (g := (gName 3)) (tt := tYes) rfl nd rfl rfl (sw_true rfl rfl rfl (by decide +kernel)) (pi_list (pv 1)) (blkOk_by (own := [("other", 3)]) (N := ["piece", "some", "shared", "other", "one"]) (sc := defScope s_shared_size) (by decide +kernel)) (fun _ _ _ _ _ => (pg_name (i := 3) nd rfl (by first | exact Or.inl rfl | exact Or.inr rfl))) (fun _ _ _ _ _ => pts_nil) (fun _ _ _ _ _ => (pe_cb C_in_both (hr.mono (by decide)) rfl (pa_cons (pv 0) (pa_cons (pv 3) pa_nil)))))
      (pss_one (ps_ret (pe_cb C_total (hr.mono (by decide)) rfl (pa_cons (pe_lc (own := [("one", 4)]) (g := (gName 4)) rfl nd (pi_list (pv 2)) (blkOk_by (own := [("one", 4)]) (N := ["piece", "some", "shared", "other", "one"]) (sc := defScope s_shared_size) (by decide +kernel)) (fun _ _ _ _ _ => (pg_name (i := 4) nd rfl (by first | exact Or.inl rfl | exact Or.inr rfl))) (fun _ _ _ _ _ => (pts_one (pt_cmpR op_notN (pv 4) pe_non (nomark _)))) (fun _ _ _ _ _ => (pe_cb C_size (hr.mono (by decide)) rfl (pa_cons (pv 4) pa_nil)))) pa_nil))))), fun rs r h => ?_⟩), hm, F.kp, hb⟩
  obtain ⟨p, ts, ⟨hp, ht, hl⟩, rfl, rfl⟩ := h
  have each := sh_each hp ht
  have fl : (ts.filterMap (inB p)).length ≤ ts.length := List.length_filterMap_le _ _
  have key : ∀ xs : List (Option (List Kzq1.P)), (xs.filter Option.isSome).map (fun o => match o with | some r => qR K (Kzq1.size r) | none => nR) = ((xs.filterMap id).map Kzq1.size).map (qR K) := fun xs => by
    induction xs with
    | nil => rfl
    | cons o xs ih =>
      cases o with
      | none => rw [List.filter_cons, if_neg (by simp), List.filterMap_cons]; exact ih
      | some r => rw [List.filter_cons, if_pos (show (some r).isSome = true from rfl), List.filterMap_cons, List.map_cons, ih]; rfl
  refine s_seq (s_set (er_eq (er_mapL (xs := ts) (ra := pcR K CPiece) (rc := fun t => opR (pcR K CPiece) (inB p t)) (ir_list (er_ls (er_var rfl))) (by omega) fun i t h => ⟨_, _, g_name, fun _ h => h, (er_c2 (er_var rfl) (er_var rfl) ?_)⟩) (rb := lR ((ts.map (inB p)).map (opR (pcR K CPiece)))) ?_)) (s_ret (er_c1 (a := (ts.filterMap (inB p)).map Kzq1.size) (er_ls (er_eq (er_filtL (xs := ts.map (inB p)) (ra := opR (pcR K CPiece)) (rc := fun o => match o with | some r => qR K (Kzq1.size r) | none => nR) Option.isSome (ir_list (er_ls (er_var rfl))) (by rw [List.length_map]; omega) fun j o ho => ⟨_, _, g_name, fun _ h => h, tr_test (er_notO (fun _ => nn_o) (er_var rfl)), fun hs => ?_⟩) ?_)) ?_))
  · exact hp.inok (ht t (List.mem_of_getElem? h)).ok
  · rw [List.map_map]; rfl
  · cases o with
    | none => cases hs
    | some r =>
      have hm : r ∈ ts.filterMap (inB p) := by
        have := List.mem_of_getElem? ho
        obtain ⟨t, h1, h2⟩ := List.mem_map.mp this
        exact List.mem_filterMap.mpr ⟨t, h1, h2⟩
      exact er_c1 (a := r) (er_var rfl) (area_r (each r hm).1 (each r hm).2)
  · rw [key, List.filterMap_map]
    rfl
  · refine ⟨1153000, fun q hq => ?_, by rw [List.length_map]; omega⟩
    obtain ⟨r, hr, rfl⟩ := List.mem_map.mp hq
    exact size_fq (each r hr).1 (each r hr).2
abbrev s_first_outside : Stmt := top 62
theorem sc_first_outside : FnScope ["pieces", "row", "triangles", "k", "piece"] ["pieces", "row"] (defScope s_first_outside) := ⟨rfl, rfl, rfl, by decide +kernel, rfl, by decide +kernel, by decide +kernel⟩
abbrev pre_first_outside (K : PySem.W.Frag) (CPiece : Addr) : List Rp → Rp → Prop := p2 (fun ps ns => ns.length ≤ 60 ∧ figI ns = true ∧ ps.length ≤ 4000 ∧ ∀ p ∈ ps, PcOk p) (fun ps => sR K (ps.map (pcR K CPiece))) (fun ns => sR K (ns.map iR)) iR (fun ps ns => foutF (trisF ns) ps)
theorem ok_first_outside (A : Fa K mg "first_outside" s_first_outside ["pieces", "row"]) (T : Txt K mg CPiece CPart) (C_triangles_of : Cb P w K mg base "triangles_of" 47 ["row"] (pre_triangles_of K CPiece)) (C_shared_size : Cb P w K mg base "shared_size" 48 ["piece", "some"] (pre_shared_size K CPiece)) (C_size : Cb P w K mg base "size" 47 ["piece"] (pre_size K CPiece)) : Cb P w K mg base "first_outside" 49 ["pieces", "row"] (pre_first_outside K CPiece) := by
  obtain ⟨f, fd, F, hm, hb⟩ := A.ex
  have nd := sc_first_outside.nd
  refine ⟨f, fd, fn_ok F sc_first_outside (fun rs r h => p2_len h) (fun cdv A outer s H E hr => ⟨_, (pss_cons (ps_set (i := 2) nd rfl (by first | exact Or.inl rfl | exact Or.inr rfl) (pe_cb C_triangles_of (hr.mono (by decide)) rfl (pa_cons (pv 1) pa_nil)))
      (pss_cons (ps_for PassesOwn.never rfl (pi_enum (by rfl) T.enumerate (pa_cons (pv 0) pa_nil)) (pg_tup rfl (pgs_cons (pg_name (i := 3) nd rfl (by first | exact Or.inl rfl | exact Or.inr rfl)) (pgs_cons (pg_name (i := 4) nd rfl (by first | exact Or.inl rfl | exact Or.inr rfl)) pgs_nil))) (pss_one (ps_if (pt_cmpR (opNeD (K := K) hr.units rfl) (pe_cb C_shared_size (hr.mono (by decide)) rfl (pa_cons (pv 4) (pa_cons (pv 2) pa_nil))) (pe_cb C_size (hr.mono (by decide)) rfl (pa_cons (pv 4) pa_nil)) (nomark _)) (pss_one (ps_ret (pv 3))) pss_nil)))
      (pss_one (ps_ret (pe_un un_neg pe_int))))), fun rs r h => ?_⟩), hm, F.kp, hb⟩
  obtain ⟨ps, ns, ⟨hz, hf, hl, hp⟩, rfl, rfl⟩ := h
  obtain ⟨tt, tl⟩ := trisF_tri hf
  refine s_seq (s_set (er_c1 (er_var rfl) ?_)) ?_
  · exact ⟨hz, hf⟩
  let env : List Sl := [.r (sR K (ps.map (pcR K CPiece))), .r (sR K (ns.map iR)), .r (lR ((trisF ns).map (pcR K CPiece))), .no, .no]
  refine s_le (Le.of (show _ = env from rfl)) ?_
  have test : ∀ (k : Nat) (p : List Kzq1.P), p ∈ ps → TR (tTest (tOp (rNeD K) (tCall (Pm (pre_shared_size K CPiece)) [] E0 (tCons (tVar 4) (tCons (tVar 2) tNil))) (tCall (Pm (pre_size K CPiece)) [] E0 (tCons (tVar 4) tNil)))) [.r (sR K (ps.map (pcR K CPiece))), .r (sR K (ns.map iR)), .r (lR ((trisF ns).map (pcR K CPiece))), .r (iR (k : Int)), .r (pcR K CPiece p)] (!(shF p (trisF ns) == Kzq1.size p)) := fun k p hm => by
    refine tr_test (er_neQ (er_c2 (a := p) (b := trisF ns) (er_var (n := 4) rfl) (er_var (n := 2) rfl) ?_) (er_c1 (a := p) (er_var (n := 4) rfl) ?_))
    · exact ⟨hp p hm, tt, tl⟩
    · exact (size_pc (hp p hm)).1
  show S _ _ (.rt (iR (foutF (trisF ns) ps)))
  unfold foutF
  cases hc : ps.findIdx? (fun p => !(shF p (trisF ns) == Kzq1.size p)) with
  | none =>
    rw [List.findIdx?_eq_none_iff] at hc
    refine s_seq (s_for (fl := .nx env) (ir_enum (ar_cons (er_var (n := 0) rfl) ar_nil)) ps.length (fun _ => env) (Le.refl _) (by rw [enR_len, List.length_map]; exact Nat.le_refl _) ?_ (.inl ⟨by rw [enR_len, List.length_map], _, rfl, Le.refl _⟩)) (s_ret (er_neg er_c))
    intro i r hi hr
    obtain ⟨x, hx, rfl⟩ := enR_get hr
    obtain ⟨p, hp', rfl⟩ := get_map hx
    have hm := List.mem_of_getElem? hp'
    exact ⟨_, _, g_two, s_ifF (tr_eq (test i p hm) (hc p hm)) (s_le2 s_next ((Le.no _ 3).trans (Le.no _ 4)))⟩
  | some k =>
    rw [List.findIdx?_eq_some_iff_getElem] at hc
    obtain ⟨hk, h1, h2⟩ := hc
    have hg : ps[k]? = some ps[k] := List.getElem?_eq_getElem hk
    refine s_seqR (s_for (fl := .rt (iR (k : Int))) (ir_enum (ar_cons (er_var (n := 0) rfl) ar_nil)) k (fun _ => env) (Le.refl _) (by rw [enR_len, List.length_map]; omega) ?_ (.inr ⟨tR K [iR (k : Int), pcR K CPiece ps[k]], iR (k : Int), _, _, ?_, rfl, g_two, s_ifT (tr_eq (test k ps[k] (List.getElem_mem hk)) h1) (s_ret (er_var (n := 3) rfl))⟩))
    · intro i r hi hr
      obtain ⟨x, hx, rfl⟩ := enR_get hr
      obtain ⟨p, hp', rfl⟩ := get_map hx
      have hm := List.mem_of_getElem? hp'
      have e : ps[i] = p := by rw [List.getElem?_eq_getElem (by omega)] at hp'; exact Option.some.inj hp'
      exact ⟨_, _, g_two, s_ifF (tr_eq (test i p hm) (by have := h2 i hi; rw [e] at this; simpa using this)) (s_le2 s_next ((Le.no _ 3).trans (Le.no _ 4)))⟩
    · unfold enR
      rw [List.getElem?_map, List.getElem?_range (by rw [List.length_map]; exact hk)]
      show some (tR K [iR (k : Int), (ps.map (pcR K CPiece)).getD k nR]) = _
      rw [List.getD_eq_getElem?_getD, List.getElem?_map, hg]
      rfl
abbrev s_first_shared : Stmt := top 63
theorem sc_first_shared : FnScope ["pieces", "i", "one", "j"] ["pieces"] (defScope s_first_shared) := ⟨rfl, rfl, rfl, by decide +kernel, rfl, by decide +kernel, by decide +kernel⟩
abbrev pre_first_shared (K : PySem.W.Frag) (CPiece : Addr) : List Rp → Rp → Prop := p1 (fun ps : List (List Kzq1.P) => ps.length ≤ 4000 ∧ ∀ p ∈ ps, PcOk p) (fun ps => sR K (ps.map (pcR K CPiece))) (fun l : List Int => lR (l.map iR)) fshF
theorem ok_first_shared (A : Fa K mg "first_shared" s_first_shared ["pieces"]) (T : Txt K mg CPiece CPart) (C_in_both : Cb P w K mg base "in_both" 47 ["one", "other"] (pre_in_both K CPiece)) : Cb P w K mg base "first_shared" 48 ["pieces"] (pre_first_shared K CPiece) := by
  obtain ⟨f, fd, F, hm, hb⟩ := A.ex
  have nd := sc_first_shared.nd
  refine ⟨f, fd, fn_ok F sc_first_shared (fun rs r h => p1_len h) (fun cdv A outer s H E hr => ⟨_, (pss_cons (ps_for PassesOwn.never rfl (pi_enum (by rfl) T.enumerate (pa_cons (pv 0) pa_nil)) (pg_tup rfl (pgs_cons (pg_name (i := 1) nd rfl (by first | exact Or.inl rfl | exact Or.inr rfl)) (pgs_cons (pg_name (i := 2) nd rfl (by first | exact Or.inl rfl | exact Or.inr rfl)) pgs_nil))) (pss_one (ps_for PassesOwn.never rfl (pi_range2 (by rfl) T.range (pa_cons (pe_op op_add (pv 1) pe_int) (pa_cons (pe_callB (cLen (K := K) rfl) (by rfl) T.len PySem.boot_len (pa_cons (pv 0) pa_nil)) pa_nil))) (pg_name (i := 3) nd rfl (by first | exact Or.inl rfl | exact Or.inr rfl)) (pss_one (ps_if (pt_cmpR op_notN (pe_cb C_in_both (hr.mono (by decide)) rfl (pa_cons (pv 2) (pa_cons (pe_ix (ixL (K := K) rfl) (pv 0) (pv 3) (fun _ _ => rfl)) pa_nil))) pe_non (nomark _)) (pss_one (ps_ret (pe_lst (pa_cons (pv 1) (pa_cons (pv 3) pa_nil))))) pss_nil)))))
      (pss_one (ps_ret (pe_lst pa_nil)))), fun rs r h => ?_⟩), hm, F.kp, hb⟩
  obtain ⟨ps, ⟨hl, hp⟩, rfl, rfl⟩ := h
  let env : List Sl := [.r (sR K (ps.map (pcR K CPiece))), .no, .no, .no]
  refine s_le (Le.of (show _ = env from rfl)) ?_
  have nl : ((ps.map (pcR K CPiece)).length : Int) = (ps.length : Int) := by rw [List.length_map]
  have gd (i : Nat) (hi : i < ps.length) : ps[i]? = some (ps.getD i []) := by rw [List.getD_eq_getElem?_getD, List.getElem?_eq_getElem hi]; rfl
  have pk (i : Nat) (hi : i < ps.length) : PcOk (ps.getD i []) := hp _ (List.mem_of_getElem? (gd i hi))
  have test : ∀ i j : Nat, i < ps.length → j < ps.length → TR (tTest (tNotN (tCall (Pm (pre_in_both K CPiece)) [] E0 (tCons (tVar 2) (tCons (tOp (rIxL K) (tVar 0) (tVar 3)) tNil))))) [.r (sR K (ps.map (pcR K CPiece))), .r (iR (i : Int)), .r (pcR K CPiece (ps.getD i [])), .r (iR (j : Int))] (shP ps i j) := fun i j hi hj => by
    refine tr_test (er_notO (fun _ => nn_o) (er_c2 (a := ps.getD i []) (b := ps.getD j []) (er_var (n := 2) rfl) (er_ixl (er_var (n := 0) rfl) (er_var (n := 3) rfl) (atI_mapS (atI_ofNat rfl (gd j hj)))) ?_))
    exact (pk i hi).inok (pk j hj)
  have ej (k i : Nat) : (k : Int) + 1 + (i : Int) = ((k + 1 + i : Nat) : Int) := by omega
  have rl (k : Nat) : (rgR ((k : Int) + 1) ((ps.length : Int) - ((k : Int) + 1)).toNat).length = ps.length - (k + 1) := by rw [rgR_len]; omega
  have inner : ∀ (k : Nat), k < ps.length → shK ps k = false → S (tFor (iRng2 (tCons (tOp (rI0 fun i j => .int (i + j)) (tVar 1) (tC (.int 1))) (tCons (tLen K (tVar 0)) tNil))) (gName 3) (tIfS (tTest (tNotN (tCall (Pm (pre_in_both K CPiece)) [] E0 (tCons (tVar 2) (tCons (tOp (rIxL K) (tVar 0) (tVar 3)) tNil))))) (tRet (tLst (tCons (tVar 1) (tCons (tVar 3) tNil)))) tNext)) [.r (sR K (ps.map (pcR K CPiece))), .r (iR (k : Int)), .r (pcR K CPiece (ps.getD k [])), .no] (.nx env) := fun k hk hf => by
    refine s_for (ir_rng2 (ar_cons (er_add (er_var rfl) er_c) (ar_cons (er_i (er_len (er_var (n := 0) rfl)) nl) ar_nil)) (by omega) (by omega)) (ps.length - (k + 1)) (fun _ => [.r (sR K (ps.map (pcR K CPiece))), .r (iR (k : Int)), .r (pcR K CPiece (ps.getD k [])), .no]) (Le.refl _) (by rw [rl]; exact Nat.le_refl _) ?_ (.inl ⟨(rl k).symm, _, rfl, (Le.no _ 1).trans (Le.no _ 2)⟩)
    intro i r hi hr
    obtain ⟨hi', rfl⟩ := rgR_get hr
    rw [ej]
    have : shP ps k (k + 1 + i) = false := by
      unfold shK at hf
      rw [List.any_eq_false] at hf
      exact Bool.eq_false_iff.mpr (hf i (List.mem_range.mpr hi))
    exact ⟨_, _, g_name, s_ifF (tr_eq (test k (k + 1 + i) hk (by omega)) this) (s_le2 s_next (Le.no _ 3))⟩
  show S _ _ (.rt (lR ((fshF ps).map iR)))
  unfold fshF
  cases hc : (List.range ps.length).any (shK ps) with
  | false =>
    refine s_seq (s_for (fl := .nx env) (ir_enum (ar_cons (er_var (n := 0) rfl) ar_nil)) ps.length (fun _ => env) (Le.refl _) (by rw [enR_len, List.length_map]; exact Nat.le_refl _) ?_ (.inl ⟨by rw [enR_len, List.length_map], _, rfl, Le.refl _⟩)) (s_ret (er_lst ar_nil))
    intro i r hi hr
    obtain ⟨x, hx, rfl⟩ := enR_get hr
    obtain ⟨p, hp', rfl⟩ := get_map hx
    have e : p = ps.getD i [] := by have := gd i hi; rw [hp'] at this; exact Option.some.inj this
    subst e
    refine ⟨_, _, g_two, inner i hi ?_⟩
    rw [List.any_eq_false] at hc
    exact Bool.eq_false_iff.mpr (hc i (List.mem_range.mpr hi))
  | true =>
    obtain ⟨n, x, h1, h2, h3⟩ := first_good hc
    obtain ⟨rfl, hn⟩ := range_get h1
    obtain ⟨n2, x2, k1, k2, k3⟩ := first_good h2
    obtain ⟨rfl, hn2⟩ := range_get k1
    have e1 : firstB (shK ps) ps.length = x := firstB_is hn h2 fun i hi => h3 i i hi (List.getElem?_range (by omega))
    have e2 : firstB (fun j => shP ps x (x + 1 + j)) (ps.length - (x + 1)) = x2 := firstB_is hn2 k2 fun i hi => k3 i i hi (List.getElem?_range (by omega))
    rw [if_pos rfl, e1]
    show S _ _ (.rt (lR ([(x : Int), ((x + 1 + firstB (fun j => shP ps x (x + 1 + j)) (ps.length - (x + 1)) : Nat) : Int)].map iR)))
    rw [e2, List.map_cons, List.map_cons, List.map_nil]
    refine s_seqR (s_for (fl := .rt (lR [iR (x : Int), iR ((x + 1 + x2 : Nat) : Int)])) (ir_enum (ar_cons (er_var (n := 0) rfl) ar_nil)) x (fun _ => env) (Le.refl _) (by rw [enR_len, List.length_map]; omega) ?_ (.inr ⟨tR K [iR (x : Int), pcR K CPiece (ps.getD x [])], lR [iR (x : Int), iR ((x + 1 + x2 : Nat) : Int)], _, _, ?_, rfl, g_two, ?_⟩))
    · intro i r hi hr
      obtain ⟨y, hx, rfl⟩ := enR_get hr
      obtain ⟨p, hp', rfl⟩ := get_map hx
      have e : p = ps.getD i [] := by have := gd i (by omega); rw [hp'] at this; exact Option.some.inj this
      subst e
      exact ⟨_, _, g_two, inner i (by omega) (h3 i i hi (List.getElem?_range (by omega)))⟩
    · unfold enR
      rw [List.getElem?_map, List.getElem?_range (by rw [List.length_map]; exact hn)]
      show some (tR K [iR (x : Int), (ps.map (pcR K CPiece)).getD x nR]) = _
      rw [List.getD_eq_getElem?_getD, List.getElem?_map, gd x hn]
      rfl
    · refine s_for (fl := .rt (lR [iR (x : Int), iR ((x + 1 + x2 : Nat) : Int)])) (ir_rng2 (ar_cons (er_add (er_var (n := 1) rfl) er_c) (ar_cons (er_i (er_len (er_var (n := 0) rfl)) nl) ar_nil)) (by omega) (by omega)) x2 (fun _ => [.r (sR K (ps.map (pcR K CPiece))), .r (iR (x : Int)), .r (pcR K CPiece (ps.getD x [])), .no]) (Le.refl _) (by rw [rl]; omega) ?_ (.inr ⟨iR ((x : Int) + 1 + (x2 : Int)), _, _, _, ?_, rfl, g_name, ?_⟩)
      · intro i r hi hr
        obtain ⟨hi', rfl⟩ := rgR_get hr
        rw [ej]
        exact ⟨_, _, g_name, s_ifF (tr_eq (test x (x + 1 + i) hn (by omega)) (k3 i i hi (List.getElem?_range (by omega)))) (s_le2 s_next (Le.no _ 3))⟩
      · unfold rgR
        rw [List.getElem?_map, List.getElem?_range (by omega)]
        rfl
      · rw [ej]
        exact s_ifT (tr_eq (test x (x + 1 + x2) hn (by omega)) k2) (s_ret (er_lst (ar_cons (er_var (n := 1) rfl) (ar_cons (er_var (n := 3) rfl) ar_nil))))
abbrev s_what_is_wrong : Stmt := top 64
theorem sc_what_is_wrong : FnScope ["f", "g", "cutting", "pieces", "part", "goals", "outside", "shared", "piece"] ["f", "g", "cutting"] (defScope s_what_is_wrong) := ⟨rfl, rfl, rfl, by decide +kernel, rfl, by decide +kernel, by decide +kernel⟩
abbrev pre_what_is_wrong (K : PySem.W.Frag) (CPiece : Addr) (CPart : Addr) : List Rp → Rp → Prop := p3 (fun (f g : List Int) (ps : List Kzq2.Part) => f.length ≤ 60 ∧ figI f = true ∧ g.length ≤ 60 ∧ figI g = true ∧ ps.length ≤ 160 ∧ ∀ p ∈ ps, PtOk p) (fun ns => sR K (ns.map iR)) (fun ns => sR K (ns.map iR)) (fun ps => lR (ps.map (ptR K CPiece CPart))) (fun l : List Int => lR (l.map iR)) whatF
theorem ok_what_is_wrong (A : Fa K mg "what_is_wrong" s_what_is_wrong ["f", "g", "cutting"]) (T : Txt K mg CPiece CPart) (C_first_outside : Cb P w K mg base "first_outside" 49 ["pieces", "row"] (pre_first_outside K CPiece)) (C_first_shared : Cb P w K mg base "first_shared" 48 ["pieces"] (pre_first_shared K CPiece)) (C_figure_size : Cb P w K mg base "figure_size" 42 ["row"] (pre_figure_size K)) (C_goal : Cm P w K mg base CPart "goal" 47 ["self"] (pre_Part_goal K CPiece CPart)) (C_total : Cb P w K mg base "total" 43 ["some"] (pre_total K)) (C_size : Cb P w K mg base "size" 47 ["piece"] (pre_size K CPiece)) : Cb P w K mg base "what_is_wrong" 50 ["f", "g", "cutting"] (pre_what_is_wrong K CPiece CPart) := by
  obtain ⟨f, fd, F, hm, hb⟩ := A.ex
  have nd := sc_what_is_wrong.nd
  refine ⟨f, fd, fn_ok F sc_what_is_wrong (fun rs r h => p3_len h) (fun cdv A outer s H E hr => ⟨_, (pss_cons (ps_if (pt_cmpR (opNeD (K := K) hr.units rfl) (pe_cb C_figure_size (hr.mono (by decide)) rfl (pa_cons (pv 0) pa_nil)) (pe_cb C_figure_size (hr.mono (by decide)) rfl (pa_cons (pv 1) pa_nil)) (nomark _)) (pss_one (ps_ret (pe_lst (pa_cons pe_int (pa_cons pe_int (pa_cons pe_int pa_nil)))))) pss_nil)
      (pss_cons (ps_setLc (i := 3) (own := [("part", 4)]) (g := (gName 4)) (tt := tYes) rfl nd rfl rfl (sw_true rfl rfl rfl (by decide +kernel)) (pi_list (pv 2)) (blkOk_by (own := [("part", 4)]) (N := ["f", "g", "cutting", "pieces", "part", "goals", "outside", "shared", "piece"]) (sc := defScope s_what_is_wrong) (by decide +kernel)) (fun _ _ _ _ _ => (pg_name (i := 4) nd rfl (by first | exact Or.inl rfl | exact Or.inr rfl))) (fun _ _ _ _ _ => pts_nil) (fun _ _ _ _ _ => (peFld (K := K) (pv 4) rfl)))
      (pss_cons (ps_setLc (i := 5) (own := [("part", 4)]) (g := (gName 4)) (tt := tYes) rfl nd rfl rfl (sw_true rfl rfl rfl (by decide +kernel)) (pi_list (pv 2)) (blkOk_by (own := [("part", 4)]) (N := ["f", "g", "cutting", "pieces", "part", "goals", "outside", "shared", "piece"]) (sc := defScope s_what_is_wrong) (by decide +kernel)) (fun _ _ _ _ _ => (pg_name (i := 4) nd rfl (by first | exact Or.inl rfl | exact Or.inr rfl))) (fun _ _ _ _ _ => pts_nil) (fun _ _ _ _ _ => (pe_cm C_goal T.cl_Part (pv 4) (hr.mono (by decide)))))
      (pss_cons (ps_set (i := 6) nd rfl (by first | exact Or.inl rfl | exact Or.inr rfl) (pe_cb C_first_outside (hr.mono (by decide)) rfl (pa_cons (pv 3) (pa_cons (pv 0) pa_nil))))
      (pss_cons (ps_if (pt_cmpR op_ge (pv 6) pe_int (nomark _)) (pss_one (ps_ret (pe_lst (pa_cons pe_int (pa_cons (pv 6) (pa_cons pe_int pa_nil)))))) pss_nil)
      (pss_cons (ps_set (i := 6) nd rfl (by first | exact Or.inl rfl | exact Or.inr rfl) (pe_cb C_first_outside (hr.mono (by decide)) rfl (pa_cons (pv 5) (pa_cons (pv 1) pa_nil))))
      (pss_cons (ps_if (pt_cmpR op_ge (pv 6) pe_int (nomark _)) (pss_one (ps_ret (pe_lst (pa_cons pe_int (pa_cons (pv 6) (pa_cons pe_int pa_nil)))))) pss_nil)
      (pss_cons (ps_set (i := 7) nd rfl (by first | exact Or.inl rfl | exact Or.inr rfl) (pe_cb C_first_shared (hr.mono (by decide)) rfl (pa_cons (pv 3) pa_nil)))
      (pss_cons (ps_if (pt_cmpR (opNeD (K := K) hr.units rfl) (pv 7) (pe_lst pa_nil) (nomark _)) (pss_one (ps_ret (pe_op op_cat (pe_lst (pa_cons pe_int pa_nil)) (pv 7)))) pss_nil)
      (pss_cons (ps_set (i := 7) nd rfl (by first | exact Or.inl rfl | exact Or.inr rfl) (pe_cb C_first_shared (hr.mono (by decide)) rfl (pa_cons (pv 5) pa_nil)))
      (pss_cons (ps_if (pt_cmpR (opNeD (K := K) hr.units rfl) (pv 7) (pe_lst pa_nil) (nomark _)) (pss_one (ps_ret (pe_op op_cat (pe_lst (pa_cons pe_int pa_nil)) (pv 7)))) pss_nil)
      (pss_cons (ps_if (pt_cmpR (opNeD (K := K) hr.units rfl) (pe_cb C_total (hr.mono (by decide)) rfl (pa_cons (pe_lc (own := [("piece", 8)]) (g := (gName 8)) (tt := tYes) rfl nd (pi_list (pv 3)) (blkOk_by (own := [("piece", 8)]) (N := ["f", "g", "cutting", "pieces", "part", "goals", "outside", "shared", "piece"]) (sc := defScope s_what_is_wrong) (by decide +kernel)) (fun _ _ _ _ _ => (pg_name (i := 8) nd rfl (by first | exact Or.inl rfl | exact Or.inr rfl))) (fun _ _ _ _ _ => pts_nil) (fun _ _ _ _ _ => (pe_cb C_size (hr.mono (by decide)) rfl (pa_cons (pv 8) pa_nil)))) pa_nil)) (pe_cb C_figure_size (hr.mono (by decide)) rfl (pa_cons (pv 0) pa_nil)) (nomark _)) (pss_one (ps_ret (pe_lst (pa_cons pe_int (pa_cons pe_int (pa_cons pe_int pa_nil)))))) pss_nil)
      (pss_one (ps_ret (pe_lst pa_nil))))))))))))))), fun rs r h => ?_⟩), hm, F.kp, hb⟩
  obtain ⟨f, g, ps, ⟨fz, ff, gz, gf, hl, hp⟩, rfl, rfl⟩ := h
  have fo : f.length ≤ 60 ∧ figI f = true := ⟨fz, ff⟩
  have go : g.length ≤ 60 ∧ figI g = true := ⟨gz, gf⟩
  have pk : ∀ p ∈ ps.map (fun p => p.l), PcOk p := fun p h => by
    obtain ⟨q, hq, rfl⟩ := List.mem_map.mp h
    exact (hp q hq).pc
  have gk : ∀ p ∈ ps.map goalF, PcOk p := fun p h => by
    obtain ⟨q, hq, rfl⟩ := List.mem_map.mp h
    exact (hp q hq).gl
  have pl : (ps.map fun p => p.l).length ≤ 4000 := by rw [List.length_map]; omega
  have gl : (ps.map goalF).length ≤ 4000 := by rw [List.length_map]; omega
  show S _ _ (.rt (lR ((whatF f g ps).map iR)))
  unfold whatF
  have t1 : TR (tTest (tOp (rNeD K) (tCall (Pm (pre_figure_size K)) [] E0 (tCons (tVar 0) tNil)) (tCall (Pm (pre_figure_size K)) [] E0 (tCons (tVar 1) tNil)))) [.r (sR K (f.map iR)), .r (sR K (g.map iR)), .r (lR (ps.map (ptR K CPiece CPart))), .no, .no, .no, .no, .no, .no] (!(fszF f == fszF g)) := tr_test (er_neQ (er_c1 (a := f) (er_var (n := 0) rfl) fo) (er_c1 (a := g) (er_var (n := 1) rfl) go))
  cases c1 : (!(fszF f == fszF g)) with
  | true =>
    rw [if_pos rfl]
    exact s_seqR (s_ifT (tr_eq t1 c1) (s_ret (er_lst (ar_cons er_c (ar_cons er_c (ar_cons er_c ar_nil))))))
  | false =>
    rw [if_neg Bool.false_ne_true]
    refine s_seq (s_ifF (tr_eq t1 c1) s_next) ?_
    refine s_seq (s_set (er_eq (er_mapL (xs := ps) (ra := ptR K CPiece CPart) (rc := fun p => pcR K CPiece p.l) (ir_list (er_ls (er_var rfl))) (by omega) fun i z hi => ⟨_, _, g_name, fun _ h => h, (er_fld (er_var rfl) T.cl_Part T.n_piece rfl)⟩) (rb := lR ((ps.map fun p => p.l).map (pcR K CPiece))) (by rw [List.map_map]; rfl))) ?_
    refine s_seq (s_set (er_eq (er_mapL (xs := ps) (ra := ptR K CPiece CPart) (rc := fun p => pcR K CPiece (goalF p)) (ir_list (er_ls (er_var rfl))) (by omega) fun i z hi => ⟨_, _, g_name, fun _ h => h, er_meth0 (er_var rfl) rfl ⟨z, (hp z (List.mem_of_getElem? hi)).go, rfl, rfl⟩⟩) (rb := lR ((ps.map goalF).map (pcR K CPiece))) (by rw [List.map_map]; rfl))) ?_
    let e1 : Rp → List Sl := fun r => [.r (sR K (f.map iR)), .r (sR K (g.map iR)), .r (lR (ps.map (ptR K CPiece CPart))), .r (lR ((ps.map fun p => p.l).map (pcR K CPiece))), .no, .r (lR ((ps.map goalF).map (pcR K CPiece))), .r r, .no, .no]
    refine s_seq (s_set (er_c2 (a := ps.map fun p => p.l) (b := f) (er_ls (er_var (n := 3) rfl)) (er_var (n := 0) rfl) ⟨fz, ff, pl, pk⟩)) ?_
    refine s_le (Le.of (show _ = e1 (iR (foutF (trisF f) (ps.map fun p => p.l))) from rfl)) ?_
    cases c2 : decide (0 ≤ foutF (trisF f) (ps.map fun p => p.l)) with
    | true =>
      rw [if_pos rfl]
      exact s_seqR (s_ifT (tr_eq (tr_test (er_ge (er_var rfl) er_c)) c2) (s_ret (er_lst (ar_cons er_c (ar_cons (er_var rfl) (ar_cons er_c ar_nil))))))
    | false =>
      rw [if_neg Bool.false_ne_true]
      refine s_seq (s_ifF (tr_eq (tr_test (er_ge (er_var rfl) er_c)) c2) s_next) ?_
      refine s_seq (s_set (er_c2 (a := ps.map goalF) (b := g) (er_ls (er_var (n := 5) rfl)) (er_var (n := 1) rfl) ⟨gz, gf, gl, gk⟩)) ?_
      refine s_le (Le.of (show _ = e1 (iR (foutF (trisF g) (ps.map goalF))) from rfl)) ?_
      cases c3 : decide (0 ≤ foutF (trisF g) (ps.map goalF)) with
      | true =>
        rw [if_pos rfl]
        exact s_seqR (s_ifT (tr_eq (tr_test (er_ge (er_var rfl) er_c)) c3) (s_ret (er_lst (ar_cons er_c (ar_cons (er_var rfl) (ar_cons er_c ar_nil))))))
      | false =>
        rw [if_neg Bool.false_ne_true]
        refine s_seq (s_ifF (tr_eq (tr_test (er_ge (er_var rfl) er_c)) c3) s_next) ?_
        let e2 : List Int → List Sl := fun l => [.r (sR K (f.map iR)), .r (sR K (g.map iR)), .r (lR (ps.map (ptR K CPiece CPart))), .r (lR ((ps.map fun p => p.l).map (pcR K CPiece))), .no, .r (lR ((ps.map goalF).map (pcR K CPiece))), .no, .r (lR (l.map iR)), .no]
        refine s_seq (s_set (er_c1 (a := ps.map fun p => p.l) (er_ls (er_var (n := 3) rfl)) ⟨pl, pk⟩)) ?_
        refine s_le ((Le.no _ 6).trans (Le.of (show _ = e2 (fshF (ps.map fun p => p.l)) from rfl))) ?_
        have s4 := fsh_len (ps.map fun p => p.l)
        have s5 := fsh_len (ps.map goalF)
        have tE : ∀ l : List Int, l.length ≤ 2 → TR (tTest (tOp (rNeD K) (tVar 7) (tLst tNil))) (e2 l) (!l.isEmpty) := fun l h => tr_test (er_neNil (by omega) (er_var (n := 7) rfl) (er_lst ar_nil))
        have tA : ∀ (k : Int) (l : List Int), l.length ≤ 2 → ER (tOp rCat (tLst (tCons (tC (.int k)) tNil)) (tVar 7)) (e2 l) (lR (([k] ++ l).map iR)) := fun k l h => by
          rw [List.map_append]
          exact er_op (er_lst (ar_cons er_c ar_nil)) (er_var (n := 7) rfl) (br_cat (by rw [List.length_map]; show 1 + l.length ≤ _; omega))
        cases c4 : (!(fshF (ps.map fun p => p.l)).isEmpty) with
        | true =>
          rw [if_pos rfl]
          exact s_seqR (s_ifT (tr_eq (tE _ s4) c4) (s_ret (tA 4 _ s4)))
        | false =>
          rw [if_neg Bool.false_ne_true]
          refine s_seq (s_ifF (tr_eq (tE _ s4) c4) s_next) ?_
          refine s_seq (s_set (er_c1 (a := ps.map goalF) (er_ls (er_var (n := 5) rfl)) ⟨gl, gk⟩)) ?_
          refine s_le (Le.of (show _ = e2 (fshF (ps.map goalF)) from rfl)) ?_
          cases c5 : (!(fshF (ps.map goalF)).isEmpty) with
          | true =>
            rw [if_pos rfl]
            exact s_seqR (s_ifT (tr_eq (tE _ s5) c5) (s_ret (tA 5 _ s5)))
          | false =>
            rw [if_neg Bool.false_ne_true]
            refine s_seq (s_ifF (tr_eq (tE _ s5) c5) s_next) ?_
            have tot : ∀ l : List Int, ER (tCall (Pm (pre_total K)) [] E0 (tCons (tLc (iList K (tVar 3)) (gName 8) tYes (tCall (Pm (pre_size K CPiece)) [] E0 (tCons (tVar 8) tNil)) [8]) tNil)) (e2 l) (qR K (Kzq1.sum (ps.map fun p => Kzq1.size p.l))) := fun l => by
              have m1 : ER (tLc (iList K (tVar 3)) (gName 8) tYes (tCall (Pm (pre_size K CPiece)) [] E0 (tCons (tVar 8) tNil)) [8]) (e2 l) (lR ((ps.map fun p => p.l).map (fun p => qR K (Kzq1.size p)))) := by
                have v3 : ER (tVar 3) (e2 l) (lR ((ps.map fun p => p.l).map (pcR K CPiece))) := er_var (n := 3) rfl
                have i3 : IR (iList K (tVar 3)) (e2 l) ((ps.map fun p => p.l).map (pcR K CPiece)) := ir_list (er_ls v3)
                refine er_mapL (ra := pcR K CPiece) i3 ?_ ?_
                · rw [List.length_map]; omega
                · intro i z hi
                  have m0 : ER (tCall (Pm (pre_size K CPiece)) [] E0 (tCons (tVar 8) tNil)) ((e2 l).set 8 (.r (pcR K CPiece z))) (qR K (Kzq1.size z)) := er_c1 (a := z) (er_var (n := 8) rfl) (size_pc (pk z (List.mem_of_getElem? hi))).1
                  exact ⟨_, _, g_name, fun _ h => h, m0⟩
              have m2 : ER (tLc (iList K (tVar 3)) (gName 8) tYes (tCall (Pm (pre_size K CPiece)) [] E0 (tCons (tVar 8) tNil)) [8]) (e2 l) (lR ((ps.map fun p => Kzq1.size p.l).map (qR K))) := er_eq m1 (by rw [List.map_map, List.map_map]; rfl)
              have m3 := szs_ok hl hp
              have m6 : pre_total K [sR K ((ps.map fun p => Kzq1.size p.l).map (qR K))] (qR K (Kzq1.sum (ps.map fun p => Kzq1.size p.l))) := by
                refine ⟨ps.map fun p => Kzq1.size p.l, ?_, ?_, ?_⟩
                · exact m3
                · rfl
                · rfl
              exact er_call (ar_cons (er_ls m2) ar_nil) m6
            have t6 : ∀ l : List Int, TR (tTest (tOp (rNeD K) (tCall (Pm (pre_total K)) [] E0 (tCons (tLc (iList K (tVar 3)) (gName 8) tYes (tCall (Pm (pre_size K CPiece)) [] E0 (tCons (tVar 8) tNil)) [8]) tNil)) (tCall (Pm (pre_figure_size K)) [] E0 (tCons (tVar 0) tNil)))) (e2 l) (!(Kzq1.sum (ps.map fun p => Kzq1.size p.l) == fszF f)) := fun l => tr_test (er_neQ (tot l) (er_c1 (a := f) (er_var (n := 0) rfl) fo))
            cases c6 : (!(Kzq1.sum (ps.map fun p => Kzq1.size p.l) == fszF f)) with
            | true =>
              rw [if_pos rfl]
              exact s_seqR (s_ifT (tr_eq (t6 _) c6) (s_ret (er_lst (ar_cons er_c (ar_cons er_c (ar_cons er_c ar_nil))))))
            | false =>
              rw [if_neg Bool.false_ne_true]
              exact s_seq (s_ifF (tr_eq (t6 _) c6) s_next) (s_ret (er_lst ar_nil))
abbrev s_why : Stmt := top 75
theorem sc_why : FnScope ["f", "g", "c", "cutting", "refusal", "wrong"] ["f", "g", "c"] (defScope s_why) := ⟨rfl, rfl, rfl, by decide +kernel, rfl, by decide +kernel, by decide +kernel⟩
abbrev pre_why (K : PySem.W.Frag) : List Rp → Rp → Prop := p3 (fun (f g c : List Int) => f.length ≤ 60 ∧ g.length ≤ 60 ∧ c.length ≤ 4000 ∧ ∀ x ∈ c, x.natAbs < 2 ^ 256) (fun ns => sR K (ns.map iR)) (fun ns => sR K (ns.map iR)) (fun ns => sR K (ns.map iR)) (fun l : List Int => lR (l.map iR)) whyF
theorem ok_why {f : Addr} {fd : FuncData} (F : Fun K "why" "why" s_why f fd) (T : Txt K mg CPiece CPart) (C_read_cutting : Cb P w K mg base "read_cutting" 47 ["row"] (pre_read_cutting K CPiece CPart)) (C_bad_cutting : Cb P w K mg base "bad_cutting" 1 ["cutting"] (pre_bad_cutting K CPiece CPart)) (C_what_is_wrong : Cb P w K mg base "what_is_wrong" 50 ["f", "g", "cutting"] (pre_what_is_wrong K CPiece CPart)) (C_is_figure : Cb P w K mg base "is_figure" 4 ["row"] (pre_is_figure K)) : FnOk P w K mg base CX0 51 f fd ["f", "g", "c"] (Pm (pre_why K)) := by
  have nd := sc_why.nd
  refine fn_ok F sc_why (fun rs r h => p3_len h) (fun cdv A outer s H E hr => ⟨_, (pss_cons (ps_if (PW.pt (pw_or (pt_not (pt_val (pe_cb C_is_figure (hr.mono (by decide)) rfl (pa_cons (pv 0) pa_nil)))) (pw_or1 (pt_not (pt_val (pe_cb C_is_figure (hr.mono (by decide)) rfl (pa_cons (pv 1) pa_nil))))))) (pss_one (ps_ret (pe_lst (pa_cons (pe_gi rfl T.g_NOT_AS_TOLD) pa_nil)))) pss_nil)
      (pss_cons (ps_set (i := 3) nd rfl (by first | exact Or.inl rfl | exact Or.inr rfl) (pe_cb C_read_cutting (hr.mono (by decide)) rfl (pa_cons (pv 2) pa_nil)))
      (pss_cons (ps_set (i := 4) nd rfl (by first | exact Or.inl rfl | exact Or.inr rfl) (pe_cb C_bad_cutting (hr.mono (by decide)) rfl (pa_cons (pv 3) pa_nil)))
      (pss_cons (ps_if (pt_cmpR op_ne (pv 4) pe_int (nomark _)) (pss_one (ps_ret (pe_lst (pa_cons (pv 4) pa_nil)))) pss_nil)
      (pss_cons (ps_set (i := 5) nd rfl (by first | exact Or.inl rfl | exact Or.inr rfl) (pe_cb C_what_is_wrong (hr.mono (by decide)) rfl (pa_cons (pv 0) (pa_cons (pv 1) (pa_cons (pv 3) pa_nil)))))
      (pss_cons (ps_if (pt_cmpR (opEqD (K := K) hr.units rfl) (pv 5) (pe_lst pa_nil) (nomark _)) (pss_one (ps_ret (pe_lst (pa_cons pe_int pa_nil)))) pss_nil)
      (pss_one (ps_ret (pe_op op_cat (pe_lst (pa_cons pe_int pa_nil)) (pv 5)))))))))), fun rs r h => ?_⟩)
  obtain ⟨f, g, ns, ⟨fz, gz, hz, hb⟩, rfl, rfl⟩ := h
  have hq : ∀ ps, readOn ns.length ns = some ps → ps.length ≤ 100000 := fun ps h => by have := readOn_len h; omega
  show S _ _ (.rt (lR ((whyF f g ns).map iR)))
  unfold whyF
  have kf : TR (tTest (tCall (Pm (pre_is_figure K)) [] E0 (tCons (tVar 0) tNil))) [.r (sR K (f.map iR)), .r (sR K (g.map iR)), .r (sR K (ns.map iR)), .no, .no, .no] (figI f) := tr_B (er_c1 (a := f) (er_var (n := 0) rfl) fz)
  have kg : TR (tTest (tCall (Pm (pre_is_figure K)) [] E0 (tCons (tVar 1) tNil))) [.r (sR K (f.map iR)), .r (sR K (g.map iR)), .r (sR K (ns.map iR)), .no, .no, .no] (figI g) := tr_B (er_c1 (a := g) (er_var (n := 1) rfl) gz)
  cases c1 : (!figI f || !figI g) with
  | true =>
    rw [if_pos rfl]
    exact s_seqR (s_ifT (tr_eq (tr_or (tr_not kf) fun _ => tr_not kg) c1) (s_ret (er_lst (ar_cons er_c ar_nil))))
  | false =>
    rw [if_neg Bool.false_ne_true]
    have ff : figI f = true := by
      rw [Bool.or_eq_false_iff] at c1
      simpa using c1.1
    have gf : figI g = true := by
      rw [Bool.or_eq_false_iff] at c1
      simpa using c1.2
    refine s_seq (s_ifF (tr_eq (tr_or (tr_not kf) fun _ => tr_not kg) c1) s_next) ?_
    refine s_seq (s_set (er_c1 (a := ns) (er_var (n := 2) rfl) ⟨hz, hb⟩)) (s_seq (s_set (er_c1 (a := readOn ns.length ns) (er_var (n := 3) rfl) hq)) ?_)
    refine s_le (Le.of (show _ = [.r (sR K (f.map iR)), .r (sR K (g.map iR)), .r (sR K (ns.map iR)), .r (opR (fun ps => lR (ps.map (ptR K CPiece CPart))) (readOn ns.length ns)), .r (iR (badC (readOn ns.length ns))), .no] from rfl)) ?_
    cases hR : readOn ns.length ns with
    | none => exact s_seqR (s_ifT (tr_eq (tr_test (er_neI (er_var rfl) er_c)) rfl) (s_ret (er_lst (ar_cons (er_var rfl) ar_nil))))
    | some ps =>
      have hpl := hq ps hR
      have ok := readOn_ok hR hb
      by_cases c : 160 < ps.length
      · have e : badC (some ps) = -28 := if_pos c
        rw [e]
        show S _ _ (.rt (lR ((if 160 < ps.length then [-28] else _ : List Int).map iR)))
        rw [if_pos c]
        exact s_seqR (s_ifT (tr_eq (tr_test (er_neI (er_var rfl) er_c)) rfl) (s_ret (er_lst (ar_cons (er_var rfl) ar_nil))))
      · have e : badC (some ps) = 0 := if_neg c
        rw [e]
        show S _ _ (.rt (lR ((if 160 < ps.length then [-28] else _ : List Int).map iR)))
        rw [if_neg c]
        refine s_seq (s_ifF (tr_eq (tr_test (er_neI (er_var rfl) er_c)) rfl) s_next) ?_
        have wp : f.length ≤ 60 ∧ figI f = true ∧ g.length ≤ 60 ∧ figI g = true ∧ ps.length ≤ 160 ∧ ∀ p ∈ ps, PtOk p := ⟨fz, ff, gz, gf, by omega, ok⟩
        let env : List Sl := [.r (sR K (f.map iR)), .r (sR K (g.map iR)), .r (sR K (ns.map iR)), .r (lR (ps.map (ptR K CPiece CPart))), .r (iR 0), .r (lR ((whatF f g ps).map iR))]
        refine s_seq (s_set (er_c3 (a := f) (b := g) (c := ps) (er_var (n := 0) rfl) (er_var (n := 1) rfl) (er_var (n := 3) rfl) wp)) ?_
        refine s_le (Le.of (show _ = env from rfl)) ?_
        have wl := what_len f g ps
        have tE : TR (tTest (tOp (rEqD K) (tVar 5) (tLst tNil))) env (whatF f g ps).isEmpty := tr_test (er_eqNil wl (er_var (n := 5) rfl) (er_lst ar_nil))
        have tA : ER (tOp rCat (tLst (tCons (tC (.int 0)) tNil)) (tVar 5)) env (lR (([0] ++ whatF f g ps).map iR)) := by
          rw [List.map_append]
          exact er_op (er_lst (ar_cons er_c ar_nil)) (er_var (n := 5) rfl) (br_cat (by rw [List.length_map]; show 1 + (whatF f g ps).length ≤ _; omega))
        cases c6 : (whatF f g ps).isEmpty with
        | true =>
          rw [if_pos rfl]
          exact s_seqR (s_ifT (tr_eq tE c6) (s_ret (er_lst (ar_cons er_c ar_nil))))
        | false =>
          rw [if_neg Bool.false_ne_true]
          exact s_seq (s_ifF (tr_eq tE c6) s_next) (s_ret tA)
end
theorem all_mk {P : Program} {w : World} {K : PySem.W.Frag} {h : Heap} {mg : Str → Option Value} {fa CPiece CPart : Addr} (X : K.In h) (G : h.Ns mainGlobals mg) (hfa : mg "why" = some (.ref fa)) (hT : P.given.tree = none)
    {f1 : Addr} {od1 an1 : Option Addr} {sl1 : Array (Option Value)} {oc1 kV1 dc1 pm1 cd1 ct1 : Value}
    {f2 : Addr} {od2 an2 : Option Addr} {sl2 : Array (Option Value)} {oc2 kV2 dc2 pm2 cd2 ct2 : Value}
    {f3 : Addr} {od3 an3 : Option Addr} {sl3 : Array (Option Value)} {oc3 kV3 dc3 pm3 cd3 ct3 : Value}
    {f4 : Addr} {od4 an4 : Option Addr} {sl4 : Array (Option Value)} {oc4 kV4 dc4 pm4 cd4 ct4 : Value}
    {f5 : Addr} {od5 an5 : Option Addr} {sl5 : Array (Option Value)} {oc5 kV5 dc5 pm5 cd5 ct5 : Value}
    {f6 : Addr} {od6 an6 : Option Addr} {sl6 : Array (Option Value)} {oc6 kV6 dc6 pm6 cd6 ct6 : Value}
    {f7 : Addr} {od7 an7 : Option Addr} {sl7 : Array (Option Value)} {oc7 kV7 dc7 pm7 cd7 ct7 : Value}
    {f8 : Addr} {od8 an8 : Option Addr} {sl8 : Array (Option Value)} {oc8 kV8 dc8 pm8 cd8 ct8 : Value}
    {f9 : Addr} {od9 an9 : Option Addr} {sl9 : Array (Option Value)} {oc9 kV9 dc9 pm9 cd9 ct9 : Value}
    {f10 : Addr} {od10 an10 : Option Addr} {sl10 : Array (Option Value)} {oc10 kV10 dc10 pm10 cd10 ct10 : Value}
    {f11 : Addr} {od11 an11 : Option Addr} {sl11 : Array (Option Value)} {oc11 kV11 dc11 pm11 cd11 ct11 : Value}
    {f12 : Addr} {od12 an12 : Option Addr} {sl12 : Array (Option Value)} {oc12 kV12 dc12 pm12 cd12 ct12 : Value}
    {f13 : Addr} {od13 an13 : Option Addr} {sl13 : Array (Option Value)} {oc13 kV13 dc13 pm13 cd13 ct13 : Value}
    {f14 : Addr} {od14 an14 : Option Addr} {sl14 : Array (Option Value)} {oc14 kV14 dc14 pm14 cd14 ct14 : Value}
    {f15 : Addr} {od15 an15 : Option Addr} {sl15 : Array (Option Value)} {oc15 kV15 dc15 pm15 cd15 ct15 : Value}
    {f16 : Addr} {od16 an16 : Option Addr} {sl16 : Array (Option Value)} {oc16 kV16 dc16 pm16 cd16 ct16 : Value}
    {f17 : Addr} {od17 an17 : Option Addr} {sl17 : Array (Option Value)} {oc17 kV17 dc17 pm17 cd17 ct17 : Value}
    {f18 : Addr} {od18 an18 : Option Addr} {sl18 : Array (Option Value)} {oc18 kV18 dc18 pm18 cd18 ct18 : Value}
    {f19 : Addr} {od19 an19 : Option Addr} {sl19 : Array (Option Value)} {oc19 kV19 dc19 pm19 cd19 ct19 : Value}
    {f20 : Addr} {od20 an20 : Option Addr} {sl20 : Array (Option Value)} {oc20 kV20 dc20 pm20 cd20 ct20 : Value}
    {f21 : Addr} {od21 an21 : Option Addr} {sl21 : Array (Option Value)} {oc21 kV21 dc21 pm21 cd21 ct21 : Value}
    {f22 : Addr} {od22 an22 : Option Addr} {sl22 : Array (Option Value)} {oc22 kV22 dc22 pm22 cd22 ct22 : Value}
    {f23 : Addr} {od23 an23 : Option Addr} {sl23 : Array (Option Value)} {oc23 kV23 dc23 pm23 cd23 ct23 : Value}
    {f24 : Addr} {od24 an24 : Option Addr} {sl24 : Array (Option Value)} {oc24 kV24 dc24 pm24 cd24 ct24 : Value}
    {f25 : Addr} {od25 an25 : Option Addr} {sl25 : Array (Option Value)} {oc25 kV25 dc25 pm25 cd25 ct25 : Value}
    {f26 : Addr} {od26 an26 : Option Addr} {sl26 : Array (Option Value)} {oc26 kV26 dc26 pm26 cd26 ct26 : Value}
    {f27 : Addr} {od27 an27 : Option Addr} {sl27 : Array (Option Value)} {oc27 kV27 dc27 pm27 cd27 ct27 : Value}
    {f28 : Addr} {od28 an28 : Option Addr} {sl28 : Array (Option Value)} {oc28 kV28 dc28 pm28 cd28 ct28 : Value}
    {f29 : Addr} {od29 an29 : Option Addr} {sl29 : Array (Option Value)} {oc29 kV29 dc29 pm29 cd29 ct29 : Value}
    {f30 : Addr} {od30 an30 : Option Addr} {sl30 : Array (Option Value)} {oc30 kV30 dc30 pm30 cd30 ct30 : Value}
    {f31 : Addr} {od31 an31 : Option Addr} {sl31 : Array (Option Value)} {oc31 kV31 dc31 pm31 cd31 ct31 : Value}
    {f32 : Addr} {od32 an32 : Option Addr} {sl32 : Array (Option Value)} {oc32 kV32 dc32 pm32 cd32 ct32 : Value}
    {f33 : Addr} {od33 an33 : Option Addr} {sl33 : Array (Option Value)} {oc33 kV33 dc33 pm33 cd33 ct33 : Value}
    {f34 : Addr} {od34 an34 : Option Addr} {sl34 : Array (Option Value)} {oc34 kV34 dc34 pm34 cd34 ct34 : Value}
    {f35 : Addr} {od35 an35 : Option Addr} {sl35 : Array (Option Value)} {oc35 kV35 dc35 pm35 cd35 ct35 : Value}
    {f36 : Addr} {od36 an36 : Option Addr} {sl36 : Array (Option Value)} {oc36 kV36 dc36 pm36 cd36 ct36 : Value}
    {f37 : Addr} {od37 an37 : Option Addr} {sl37 : Array (Option Value)} {oc37 kV37 dc37 pm37 cd37 ct37 : Value}
    {f38 : Addr} {od38 an38 : Option Addr} {sl38 : Array (Option Value)} {oc38 kV38 dc38 pm38 cd38 ct38 : Value}
    {f39 : Addr} {od39 an39 : Option Addr} {sl39 : Array (Option Value)} {oc39 kV39 dc39 pm39 cd39 ct39 : Value}
    {f40 : Addr} {od40 an40 : Option Addr} {sl40 : Array (Option Value)} {oc40 kV40 dc40 pm40 cd40 ct40 : Value}
    {f41 : Addr} {od41 an41 : Option Addr} {sl41 : Array (Option Value)} {oc41 kV41 dc41 pm41 cd41 ct41 : Value}
    {f42 : Addr} {od42 an42 : Option Addr} {sl42 : Array (Option Value)} {oc42 kV42 dc42 pm42 cd42 ct42 : Value}
    {f43 : Addr} {od43 an43 : Option Addr} {sl43 : Array (Option Value)} {oc43 kV43 dc43 pm43 cd43 ct43 : Value}
    {f44 : Addr} {od44 an44 : Option Addr} {sl44 : Array (Option Value)} {oc44 kV44 dc44 pm44 cd44 ct44 : Value}
    {f45 : Addr} {od45 an45 : Option Addr} {sl45 : Array (Option Value)} {oc45 kV45 dc45 pm45 cd45 ct45 : Value}
    {f46 : Addr} {od46 an46 : Option Addr} {sl46 : Array (Option Value)} {oc46 kV46 dc46 pm46 cd46 ct46 : Value}
    {f47 : Addr} {od47 an47 : Option Addr} {sl47 : Array (Option Value)} {oc47 kV47 dc47 pm47 cd47 ct47 : Value}
    {f48 : Addr} {od48 an48 : Option Addr} {sl48 : Array (Option Value)} {oc48 kV48 dc48 pm48 cd48 ct48 : Value}
    {f49 : Addr} {od49 an49 : Option Addr} {sl49 : Array (Option Value)} {oc49 kV49 dc49 pm49 cd49 ct49 : Value}
    {f50 : Addr} {od50 an50 : Option Addr} {sl50 : Array (Option Value)} {oc50 kV50 dc50 pm50 cd50 ct50 : Value}
    {f51 : Addr} {od51 an51 : Option Addr} {sl51 : Array (Option Value)} {oc51 kV51 dc51 pm51 cd51 ct51 : Value}
    {f52 : Addr} {od52 an52 : Option Addr} {sl52 : Array (Option Value)} {oc52 kV52 dc52 pm52 cd52 ct52 : Value}
    {f53 : Addr} {od53 an53 : Option Addr} {sl53 : Array (Option Value)} {oc53 kV53 dc53 pm53 cd53 ct53 : Value}
    {f54 : Addr} {od54 an54 : Option Addr} {sl54 : Array (Option Value)} {oc54 kV54 dc54 pm54 cd54 ct54 : Value}
    {f55 : Addr} {od55 an55 : Option Addr} {sl55 : Array (Option Value)} {oc55 kV55 dc55 pm55 cd55 ct55 : Value}
    {f56 : Addr} {od56 an56 : Option Addr} {sl56 : Array (Option Value)} {oc56 kV56 dc56 pm56 cd56 ct56 : Value}
    {f57 : Addr} {od57 an57 : Option Addr} {sl57 : Array (Option Value)} {oc57 kV57 dc57 pm57 cd57 ct57 : Value}
    {f58 : Addr} {od58 an58 : Option Addr} {sl58 : Array (Option Value)} {oc58 kV58 dc58 pm58 cd58 ct58 : Value}
    {f59 : Addr} {od59 an59 : Option Addr} {sl59 : Array (Option Value)} {oc59 kV59 dc59 pm59 cd59 ct59 : Value}
    {f60 : Addr} {od60 an60 : Option Addr} {sl60 : Array (Option Value)} {oc60 kV60 dc60 pm60 cd60 ct60 : Value}
    {f61 : Addr} {od61 an61 : Option Addr} {sl61 : Array (Option Value)} {oc61 kV61 dc61 pm61 cd61 ct61 : Value}
    {t_MOST_FAR : Tok}
    {t_MOST_CORNERS_figures : Tok}
    {t_MOST_PARTS : Tok}
    {t_NOT_AS_TOLD : Tok}
    {t_TOO_MUCH : Tok}
    {t_LEAST_CORNERS : Tok}
    {t_MOST_CORNERS_cuttings : Tok}
    {t_MOVE_NUMBERS : Tok}
    {a_ZERO : Addr} {od_ZERO : Option Addr} {n_ZERO : Nat} {s_ZERO : Array (Option Value)} {t1_ZERO t2_ZERO : Tok}
    {a_HALF : Addr} {od_HALF : Option Addr} {n_HALF : Nat} {s_HALF : Array (Option Value)} {t1_HALF t2_HALF : Tok}
    (aC_Piece : PySem.W.nsIn K mainGlobals "Piece" = some (some (.ref CPiece)))
    (aC_Part : PySem.W.nsIn K mainGlobals "Part" = some (some (.ref CPart)))
    (a1 : PySem.W.nsIn K mainGlobals "common" = some (some (.ref f1)))
    (l1 : K.lookup f1 = some ⟨oc1, od1, .func (PySem.W.fnOf "common" "common" (defArgs s_common) (defBody s_common) (defScope s_common) .none kV1 dc1 pm1 an1 cd1 ct1), sl1⟩)
    (c1 : PySem.W.codeIn K cd1 "common" = true)
    (k1 : PySem.W.keepIn K (.ref f1) = true)
    (a2 : PySem.W.nsIn K mainGlobals "ratio" = some (some (.ref f2)))
    (l2 : K.lookup f2 = some ⟨oc2, od2, .func (PySem.W.fnOf "ratio" "ratio" (defArgs s_ratio) (defBody s_ratio) (defScope s_ratio) .none kV2 dc2 pm2 an2 cd2 ct2), sl2⟩)
    (c2 : PySem.W.codeIn K cd2 "ratio" = true)
    (k2 : PySem.W.keepIn K (.ref f2) = true)
    (a3 : PySem.W.nsIn K mainGlobals "plus" = some (some (.ref f3)))
    (l3 : K.lookup f3 = some ⟨oc3, od3, .func (PySem.W.fnOf "plus" "plus" (defArgs s_plus) (defBody s_plus) (defScope s_plus) .none kV3 dc3 pm3 an3 cd3 ct3), sl3⟩)
    (c3 : PySem.W.codeIn K cd3 "plus" = true)
    (k3 : PySem.W.keepIn K (.ref f3) = true)
    (a4 : PySem.W.nsIn K mainGlobals "minus" = some (some (.ref f4)))
    (l4 : K.lookup f4 = some ⟨oc4, od4, .func (PySem.W.fnOf "minus" "minus" (defArgs s_minus) (defBody s_minus) (defScope s_minus) .none kV4 dc4 pm4 an4 cd4 ct4), sl4⟩)
    (c4 : PySem.W.codeIn K cd4 "minus" = true)
    (k4 : PySem.W.keepIn K (.ref f4) = true)
    (a5 : PySem.W.nsIn K mainGlobals "times" = some (some (.ref f5)))
    (l5 : K.lookup f5 = some ⟨oc5, od5, .func (PySem.W.fnOf "times" "times" (defArgs s_times) (defBody s_times) (defScope s_times) .none kV5 dc5 pm5 an5 cd5 ct5), sl5⟩)
    (c5 : PySem.W.codeIn K cd5 "times" = true)
    (k5 : PySem.W.keepIn K (.ref f5) = true)
    (a6 : PySem.W.nsIn K mainGlobals "is_less" = some (some (.ref f6)))
    (l6 : K.lookup f6 = some ⟨oc6, od6, .func (PySem.W.fnOf "is_less" "is_less" (defArgs s_is_less) (defBody s_is_less) (defScope s_is_less) .none kV6 dc6 pm6 an6 cd6 ct6), sl6⟩)
    (c6 : PySem.W.codeIn K cd6 "is_less" = true)
    (k6 : PySem.W.keepIn K (.ref f6) = true)
    (a7 : PySem.W.nsIn K mainGlobals "least" = some (some (.ref f7)))
    (l7 : K.lookup f7 = some ⟨oc7, od7, .func (PySem.W.fnOf "least" "least" (defArgs s_least) (defBody s_least) (defScope s_least) .none kV7 dc7 pm7 an7 cd7 ct7), sl7⟩)
    (c7 : PySem.W.codeIn K cd7 "least" = true)
    (k7 : PySem.W.keepIn K (.ref f7) = true)
    (a8 : PySem.W.nsIn K mainGlobals "greatest" = some (some (.ref f8)))
    (l8 : K.lookup f8 = some ⟨oc8, od8, .func (PySem.W.fnOf "greatest" "greatest" (defArgs s_greatest) (defBody s_greatest) (defScope s_greatest) .none kV8 dc8 pm8 an8 cd8 ct8), sl8⟩)
    (c8 : PySem.W.codeIn K cd8 "greatest" = true)
    (k8 : PySem.W.keepIn K (.ref f8) = true)
    (a9 : PySem.W.nsIn K mainGlobals "is_told" = some (some (.ref f9)))
    (l9 : K.lookup f9 = some ⟨oc9, od9, .func (PySem.W.fnOf "is_told" "is_told" (defArgs s_is_told) (defBody s_is_told) (defScope s_is_told) .none kV9 dc9 pm9 an9 cd9 ct9), sl9⟩)
    (c9 : PySem.W.codeIn K cd9 "is_told" = true)
    (k9 : PySem.W.keepIn K (.ref f9) = true)
    (a10 : PySem.W.nsIn K mainGlobals "between" = some (some (.ref f10)))
    (l10 : K.lookup f10 = some ⟨oc10, od10, .func (PySem.W.fnOf "between" "between" (defArgs s_between) (defBody s_between) (defScope s_between) .none kV10 dc10 pm10 an10 cd10 ct10), sl10⟩)
    (c10 : PySem.W.codeIn K cd10 "between" = true)
    (k10 : PySem.W.keepIn K (.ref f10) = true)
    (a11 : PySem.W.nsIn K mainGlobals "crossed" = some (some (.ref f11)))
    (l11 : K.lookup f11 = some ⟨oc11, od11, .func (PySem.W.fnOf "crossed" "crossed" (defArgs s_crossed) (defBody s_crossed) (defScope s_crossed) .none kV11 dc11 pm11 an11 cd11 ct11), sl11⟩)
    (c11 : PySem.W.codeIn K cd11 "crossed" = true)
    (k11 : PySem.W.keepIn K (.ref f11) = true)
    (a12 : PySem.W.nsIn K mainGlobals "turning" = some (some (.ref f12)))
    (l12 : K.lookup f12 = some ⟨oc12, od12, .func (PySem.W.fnOf "turning" "turning" (defArgs s_turning) (defBody s_turning) (defScope s_turning) .none kV12 dc12 pm12 an12 cd12 ct12), sl12⟩)
    (c12 : PySem.W.codeIn K cd12 "turning" = true)
    (k12 : PySem.W.keepIn K (.ref f12) = true)
    (a13 : PySem.W.findIn K (.ref CPiece) "__init__" = some (some (.ref f13)))
    (i13 : PySem.W.isFn K (.ref f13) = true)
    (l13 : K.lookup f13 = some ⟨oc13, od13, .func (PySem.W.fnOf "__init__" "Piece.__init__" (defArgs s_Piece_init) (defBody s_Piece_init) (defScope s_Piece_init) .none kV13 dc13 pm13 an13 cd13 ct13), sl13⟩)
    (c13 : PySem.W.codeIn K cd13 "Piece.__init__" = true)
    (k13 : PySem.W.keepIn K (.ref f13) = true)
    (a14 : PySem.W.nsIn K mainGlobals "is_ahead" = some (some (.ref f14)))
    (l14 : K.lookup f14 = some ⟨oc14, od14, .func (PySem.W.fnOf "is_ahead" "is_ahead" (defArgs s_is_ahead) (defBody s_is_ahead) (defScope s_is_ahead) .none kV14 dc14 pm14 an14 cd14 ct14), sl14⟩)
    (c14 : PySem.W.codeIn K cd14 "is_ahead" = true)
    (k14 : PySem.W.keepIn K (.ref f14) = true)
    (a15 : PySem.W.nsIn K mainGlobals "from_leftmost" = some (some (.ref f15)))
    (l15 : K.lookup f15 = some ⟨oc15, od15, .func (PySem.W.fnOf "from_leftmost" "from_leftmost" (defArgs s_from_leftmost) (defBody s_from_leftmost) (defScope s_from_leftmost) .none kV15 dc15 pm15 an15 cd15 ct15), sl15⟩)
    (c15 : PySem.W.codeIn K cd15 "from_leftmost" = true)
    (k15 : PySem.W.keepIn K (.ref f15) = true)
    (a16 : PySem.W.nsIn K mainGlobals "sides_of" = some (some (.ref f16)))
    (l16 : K.lookup f16 = some ⟨oc16, od16, .func (PySem.W.fnOf "sides_of" "sides_of" (defArgs s_sides_of) (defBody s_sides_of) (defScope s_sides_of) .none kV16 dc16 pm16 an16 cd16 ct16), sl16⟩)
    (c16 : PySem.W.codeIn K cd16 "sides_of" = true)
    (k16 : PySem.W.keepIn K (.ref f16) = true)
    (a17 : PySem.W.nsIn K mainGlobals "is_strict" = some (some (.ref f17)))
    (l17 : K.lookup f17 = some ⟨oc17, od17, .func (PySem.W.fnOf "is_strict" "is_strict" (defArgs s_is_strict) (defBody s_is_strict) (defScope s_is_strict) .none kV17 dc17 pm17 an17 cd17 ct17), sl17⟩)
    (c17 : PySem.W.codeIn K cd17 "is_strict" = true)
    (k17 : PySem.W.keepIn K (.ref f17) = true)
    (a18 : PySem.W.findIn K (.ref CPart) "__init__" = some (some (.ref f18)))
    (i18 : PySem.W.isFn K (.ref f18) = true)
    (l18 : K.lookup f18 = some ⟨oc18, od18, .func (PySem.W.fnOf "__init__" "Part.__init__" (defArgs s_Part_init) (defBody s_Part_init) (defScope s_Part_init) .none kV18 dc18 pm18 an18 cd18 ct18), sl18⟩)
    (c18 : PySem.W.codeIn K cd18 "Part.__init__" = true)
    (k18 : PySem.W.keepIn K (.ref f18) = true)
    (a19 : PySem.W.nsIn K mainGlobals "fractions_in" = some (some (.ref f19)))
    (l19 : K.lookup f19 = some ⟨oc19, od19, .func (PySem.W.fnOf "fractions_in" "fractions_in" (defArgs s_fractions_in) (defBody s_fractions_in) (defScope s_fractions_in) .none kV19 dc19 pm19 an19 cd19 ct19), sl19⟩)
    (c19 : PySem.W.codeIn K cd19 "fractions_in" = true)
    (k19 : PySem.W.keepIn K (.ref f19) = true)
    (a20 : PySem.W.nsIn K mainGlobals "part_of" = some (some (.ref f20)))
    (l20 : K.lookup f20 = some ⟨oc20, od20, .func (PySem.W.fnOf "part_of" "part_of" (defArgs s_part_of) (defBody s_part_of) (defScope s_part_of) .none kV20 dc20 pm20 an20 cd20 ct20), sl20⟩)
    (c20 : PySem.W.codeIn K cd20 "part_of" = true)
    (k20 : PySem.W.keepIn K (.ref f20) = true)
    (a21 : PySem.W.nsIn K mainGlobals "read_cutting" = some (some (.ref f21)))
    (l21 : K.lookup f21 = some ⟨oc21, od21, .func (PySem.W.fnOf "read_cutting" "read_cutting" (defArgs s_read_cutting) (defBody s_read_cutting) (defScope s_read_cutting) .none kV21 dc21 pm21 an21 cd21 ct21), sl21⟩)
    (c21 : PySem.W.codeIn K cd21 "read_cutting" = true)
    (k21 : PySem.W.keepIn K (.ref f21) = true)
    (a22 : PySem.W.nsIn K mainGlobals "bad_cutting" = some (some (.ref f22)))
    (l22 : K.lookup f22 = some ⟨oc22, od22, .func (PySem.W.fnOf "bad_cutting" "bad_cutting" (defArgs s_bad_cutting) (defBody s_bad_cutting) (defScope s_bad_cutting) .none kV22 dc22 pm22 an22 cd22 ct22), sl22⟩)
    (c22 : PySem.W.codeIn K cd22 "bad_cutting" = true)
    (k22 : PySem.W.keepIn K (.ref f22) = true)
    (a23 : PySem.W.nsIn K mainGlobals "total" = some (some (.ref f23)))
    (l23 : K.lookup f23 = some ⟨oc23, od23, .func (PySem.W.fnOf "total" "total" (defArgs s_total) (defBody s_total) (defScope s_total) .none kV23 dc23 pm23 an23 cd23 ct23), sl23⟩)
    (c23 : PySem.W.codeIn K cd23 "total" = true)
    (k23 : PySem.W.keepIn K (.ref f23) = true)
    (a24 : PySem.W.nsIn K mainGlobals "area_of" = some (some (.ref f24)))
    (l24 : K.lookup f24 = some ⟨oc24, od24, .func (PySem.W.fnOf "area_of" "area_of" (defArgs s_area_of) (defBody s_area_of) (defScope s_area_of) .none kV24 dc24 pm24 an24 cd24 ct24), sl24⟩)
    (c24 : PySem.W.codeIn K cd24 "area_of" = true)
    (k24 : PySem.W.keepIn K (.ref f24) = true)
    (a25 : PySem.W.nsIn K mainGlobals "size" = some (some (.ref f25)))
    (l25 : K.lookup f25 = some ⟨oc25, od25, .func (PySem.W.fnOf "size" "size" (defArgs s_size) (defBody s_size) (defScope s_size) .none kV25 dc25 pm25 an25 cd25 ct25), sl25⟩)
    (c25 : PySem.W.codeIn K cd25 "size" = true)
    (k25 : PySem.W.keepIn K (.ref f25) = true)
    (a26 : PySem.W.nsIn K mainGlobals "over" = some (some (.ref f26)))
    (l26 : K.lookup f26 = some ⟨oc26, od26, .func (PySem.W.fnOf "over" "over" (defArgs s_over) (defBody s_over) (defScope s_over) .none kV26 dc26 pm26 an26 cd26 ct26), sl26⟩)
    (c26 : PySem.W.codeIn K cd26 "over" = true)
    (k26 : PySem.W.keepIn K (.ref f26) = true)
    (a27 : PySem.W.nsIn K mainGlobals "together" = some (some (.ref f27)))
    (l27 : K.lookup f27 = some ⟨oc27, od27, .func (PySem.W.fnOf "together" "together" (defArgs s_together) (defBody s_together) (defScope s_together) .none kV27 dc27 pm27 an27 cd27 ct27), sl27⟩)
    (c27 : PySem.W.codeIn K cd27 "together" = true)
    (k27 : PySem.W.keepIn K (.ref f27) = true)
    (a28 : PySem.W.nsIn K mainGlobals "stretched" = some (some (.ref f28)))
    (l28 : K.lookup f28 = some ⟨oc28, od28, .func (PySem.W.fnOf "stretched" "stretched" (defArgs s_stretched) (defBody s_stretched) (defScope s_stretched) .none kV28 dc28 pm28 an28 cd28 ct28), sl28⟩)
    (c28 : PySem.W.codeIn K cd28 "stretched" = true)
    (k28 : PySem.W.keepIn K (.ref f28) = true)
    (a29 : PySem.W.nsIn K mainGlobals "without_like" = some (some (.ref f29)))
    (l29 : K.lookup f29 = some ⟨oc29, od29, .func (PySem.W.fnOf "without_like" "without_like" (defArgs s_without_like) (defBody s_without_like) (defScope s_without_like) .none kV29 dc29 pm29 an29 cd29 ct29), sl29⟩)
    (c29 : PySem.W.codeIn K cd29 "without_like" = true)
    (k29 : PySem.W.keepIn K (.ref f29) = true)
    (a30 : PySem.W.nsIn K mainGlobals "without_straight" = some (some (.ref f30)))
    (l30 : K.lookup f30 = some ⟨oc30, od30, .func (PySem.W.fnOf "without_straight" "without_straight" (defArgs s_without_straight) (defBody s_without_straight) (defScope s_without_straight) .none kV30 dc30 pm30 an30 cd30 ct30), sl30⟩)
    (c30 : PySem.W.codeIn K cd30 "without_straight" = true)
    (k30 : PySem.W.keepIn K (.ref f30) = true)
    (a31 : PySem.W.nsIn K mainGlobals "crossing" = some (some (.ref f31)))
    (l31 : K.lookup f31 = some ⟨oc31, od31, .func (PySem.W.fnOf "crossing" "crossing" (defArgs s_crossing) (defBody s_crossing) (defScope s_crossing) .none kV31 dc31 pm31 an31 cd31 ct31), sl31⟩)
    (c31 : PySem.W.codeIn K cd31 "crossing" = true)
    (k31 : PySem.W.keepIn K (.ref f31) = true)
    (a32 : PySem.W.nsIn K mainGlobals "clipped" = some (some (.ref f32)))
    (l32 : K.lookup f32 = some ⟨oc32, od32, .func (PySem.W.fnOf "clipped" "clipped" (defArgs s_clipped) (defBody s_clipped) (defScope s_clipped) .none kV32 dc32 pm32 an32 cd32 ct32), sl32⟩)
    (c32 : PySem.W.codeIn K cd32 "clipped" = true)
    (k32 : PySem.W.keepIn K (.ref f32) = true)
    (a33 : PySem.W.nsIn K mainGlobals "piece_of" = some (some (.ref f33)))
    (l33 : K.lookup f33 = some ⟨oc33, od33, .func (PySem.W.fnOf "piece_of" "piece_of" (defArgs s_piece_of) (defBody s_piece_of) (defScope s_piece_of) .none kV33 dc33 pm33 an33 cd33 ct33), sl33⟩)
    (c33 : PySem.W.codeIn K cd33 "piece_of" = true)
    (k33 : PySem.W.keepIn K (.ref f33) = true)
    (a34 : PySem.W.nsIn K mainGlobals "are_apart" = some (some (.ref f34)))
    (l34 : K.lookup f34 = some ⟨oc34, od34, .func (PySem.W.fnOf "are_apart" "are_apart" (defArgs s_are_apart) (defBody s_are_apart) (defScope s_are_apart) .none kV34 dc34 pm34 an34 cd34 ct34), sl34⟩)
    (c34 : PySem.W.codeIn K cd34 "are_apart" = true)
    (k34 : PySem.W.keepIn K (.ref f34) = true)
    (a35 : PySem.W.nsIn K mainGlobals "in_both" = some (some (.ref f35)))
    (l35 : K.lookup f35 = some ⟨oc35, od35, .func (PySem.W.fnOf "in_both" "in_both" (defArgs s_in_both) (defBody s_in_both) (defScope s_in_both) .none kV35 dc35 pm35 an35 cd35 ct35), sl35⟩)
    (c35 : PySem.W.codeIn K cd35 "in_both" = true)
    (k35 : PySem.W.keepIn K (.ref f35) = true)
    (a36 : PySem.W.nsIn K mainGlobals "negative" = some (some (.ref f36)))
    (l36 : K.lookup f36 = some ⟨oc36, od36, .func (PySem.W.fnOf "negative" "negative" (defArgs s_negative) (defBody s_negative) (defScope s_negative) .none kV36 dc36 pm36 an36 cd36 ct36), sl36⟩)
    (c36 : PySem.W.codeIn K cd36 "negative" = true)
    (k36 : PySem.W.keepIn K (.ref f36) = true)
    (a37 : PySem.W.nsIn K mainGlobals "moved_point" = some (some (.ref f37)))
    (l37 : K.lookup f37 = some ⟨oc37, od37, .func (PySem.W.fnOf "moved_point" "moved_point" (defArgs s_moved_point) (defBody s_moved_point) (defScope s_moved_point) .none kV37 dc37 pm37 an37 cd37 ct37), sl37⟩)
    (c37 : PySem.W.codeIn K cd37 "moved_point" = true)
    (k37 : PySem.W.keepIn K (.ref f37) = true)
    (a38 : PySem.W.nsIn K mainGlobals "moved" = some (some (.ref f38)))
    (l38 : K.lookup f38 = some ⟨oc38, od38, .func (PySem.W.fnOf "moved" "moved" (defArgs s_moved) (defBody s_moved) (defScope s_moved) .none kV38 dc38 pm38 an38 cd38 ct38), sl38⟩)
    (c38 : PySem.W.codeIn K cd38 "moved" = true)
    (k38 : PySem.W.keepIn K (.ref f38) = true)
    (a39 : PySem.W.nsIn K mainGlobals "corners_of" = some (some (.ref f39)))
    (l39 : K.lookup f39 = some ⟨oc39, od39, .func (PySem.W.fnOf "corners_of" "corners_of" (defArgs s_corners_of) (defBody s_corners_of) (defScope s_corners_of) .none kV39 dc39 pm39 an39 cd39 ct39), sl39⟩)
    (c39 : PySem.W.codeIn K cd39 "corners_of" = true)
    (k39 : PySem.W.keepIn K (.ref f39) = true)
    (a40 : PySem.W.nsIn K mainGlobals "left_of" = some (some (.ref f40)))
    (l40 : K.lookup f40 = some ⟨oc40, od40, .func (PySem.W.fnOf "left_of" "left_of" (defArgs s_left_of) (defBody s_left_of) (defScope s_left_of) .none kV40 dc40 pm40 an40 cd40 ct40), sl40⟩)
    (c40 : PySem.W.codeIn K cd40 "left_of" = true)
    (k40 : PySem.W.keepIn K (.ref f40) = true)
    (a41 : PySem.W.nsIn K mainGlobals "sign" = some (some (.ref f41)))
    (l41 : K.lookup f41 = some ⟨oc41, od41, .func (PySem.W.fnOf "sign" "sign" (defArgs s_sign) (defBody s_sign) (defScope s_sign) .none kV41 dc41 pm41 an41 cd41 ct41), sl41⟩)
    (c41 : PySem.W.codeIn K cd41 "sign" = true)
    (k41 : PySem.W.keepIn K (.ref f41) = true)
    (a42 : PySem.W.nsIn K mainGlobals "is_on" = some (some (.ref f42)))
    (l42 : K.lookup f42 = some ⟨oc42, od42, .func (PySem.W.fnOf "is_on" "is_on" (defArgs s_is_on) (defBody s_is_on) (defScope s_is_on) .none kV42 dc42 pm42 an42 cd42 ct42), sl42⟩)
    (c42 : PySem.W.codeIn K cd42 "is_on" = true)
    (k42 : PySem.W.keepIn K (.ref f42) = true)
    (a43 : PySem.W.nsIn K mainGlobals "do_meet" = some (some (.ref f43)))
    (l43 : K.lookup f43 = some ⟨oc43, od43, .func (PySem.W.fnOf "do_meet" "do_meet" (defArgs s_do_meet) (defBody s_do_meet) (defScope s_do_meet) .none kV43 dc43 pm43 an43 cd43 ct43), sl43⟩)
    (c43 : PySem.W.codeIn K cd43 "do_meet" = true)
    (k43 : PySem.W.keepIn K (.ref f43) = true)
    (a44 : PySem.W.nsIn K mainGlobals "sides_round" = some (some (.ref f44)))
    (l44 : K.lookup f44 = some ⟨oc44, od44, .func (PySem.W.fnOf "sides_round" "sides_round" (defArgs s_sides_round) (defBody s_sides_round) (defScope s_sides_round) .none kV44 dc44 pm44 an44 cd44 ct44), sl44⟩)
    (c44 : PySem.W.codeIn K cd44 "sides_round" = true)
    (k44 : PySem.W.keepIn K (.ref f44) = true)
    (a45 : PySem.W.nsIn K mainGlobals "has_straight" = some (some (.ref f45)))
    (l45 : K.lookup f45 = some ⟨oc45, od45, .func (PySem.W.fnOf "has_straight" "has_straight" (defArgs s_has_straight) (defBody s_has_straight) (defScope s_has_straight) .none kV45 dc45 pm45 an45 cd45 ct45), sl45⟩)
    (c45 : PySem.W.codeIn K cd45 "has_straight" = true)
    (k45 : PySem.W.keepIn K (.ref f45) = true)
    (a46 : PySem.W.nsIn K mainGlobals "twice_size" = some (some (.ref f46)))
    (l46 : K.lookup f46 = some ⟨oc46, od46, .func (PySem.W.fnOf "twice_size" "twice_size" (defArgs s_twice_size) (defBody s_twice_size) (defScope s_twice_size) .none kV46 dc46 pm46 an46 cd46 ct46), sl46⟩)
    (c46 : PySem.W.codeIn K cd46 "twice_size" = true)
    (k46 : PySem.W.keepIn K (.ref f46) = true)
    (a47 : PySem.W.nsIn K mainGlobals "is_in_triangle" = some (some (.ref f47)))
    (l47 : K.lookup f47 = some ⟨oc47, od47, .func (PySem.W.fnOf "is_in_triangle" "is_in_triangle" (defArgs s_is_in_triangle) (defBody s_is_in_triangle) (defScope s_is_in_triangle) .none kV47 dc47 pm47 an47 cd47 ct47), sl47⟩)
    (c47 : PySem.W.codeIn K cd47 "is_in_triangle" = true)
    (k47 : PySem.W.keepIn K (.ref f47) = true)
    (a48 : PySem.W.nsIn K mainGlobals "ear_at" = some (some (.ref f48)))
    (l48 : K.lookup f48 = some ⟨oc48, od48, .func (PySem.W.fnOf "ear_at" "ear_at" (defArgs s_ear_at) (defBody s_ear_at) (defScope s_ear_at) .none kV48 dc48 pm48 an48 cd48 ct48), sl48⟩)
    (c48 : PySem.W.codeIn K cd48 "ear_at" = true)
    (k48 : PySem.W.keepIn K (.ref f48) = true)
    (a49 : PySem.W.nsIn K mainGlobals "is_ear" = some (some (.ref f49)))
    (l49 : K.lookup f49 = some ⟨oc49, od49, .func (PySem.W.fnOf "is_ear" "is_ear" (defArgs s_is_ear) (defBody s_is_ear) (defScope s_is_ear) .none kV49 dc49 pm49 an49 cd49 ct49), sl49⟩)
    (c49 : PySem.W.codeIn K cd49 "is_ear" = true)
    (k49 : PySem.W.keepIn K (.ref f49) = true)
    (a50 : PySem.W.nsIn K mainGlobals "has_crossing" = some (some (.ref f50)))
    (l50 : K.lookup f50 = some ⟨oc50, od50, .func (PySem.W.fnOf "has_crossing" "has_crossing" (defArgs s_has_crossing) (defBody s_has_crossing) (defScope s_has_crossing) .none kV50 dc50 pm50 an50 cd50 ct50), sl50⟩)
    (c50 : PySem.W.codeIn K cd50 "has_crossing" = true)
    (k50 : PySem.W.keepIn K (.ref f50) = true)
    (a51 : PySem.W.nsIn K mainGlobals "is_figure" = some (some (.ref f51)))
    (l51 : K.lookup f51 = some ⟨oc51, od51, .func (PySem.W.fnOf "is_figure" "is_figure" (defArgs s_is_figure) (defBody s_is_figure) (defScope s_is_figure) .none kV51 dc51 pm51 an51 cd51 ct51), sl51⟩)
    (c51 : PySem.W.codeIn K cd51 "is_figure" = true)
    (k51 : PySem.W.keepIn K (.ref f51) = true)
    (a52 : PySem.W.nsIn K mainGlobals "figure_size" = some (some (.ref f52)))
    (l52 : K.lookup f52 = some ⟨oc52, od52, .func (PySem.W.fnOf "figure_size" "figure_size" (defArgs s_figure_size) (defBody s_figure_size) (defScope s_figure_size) .none kV52 dc52 pm52 an52 cd52 ct52), sl52⟩)
    (c52 : PySem.W.codeIn K cd52 "figure_size" = true)
    (k52 : PySem.W.keepIn K (.ref f52) = true)
    (a53 : PySem.W.nsIn K mainGlobals "cut_up" = some (some (.ref f53)))
    (l53 : K.lookup f53 = some ⟨oc53, od53, .func (PySem.W.fnOf "cut_up" "cut_up" (defArgs s_cut_up) (defBody s_cut_up) (defScope s_cut_up) .none kV53 dc53 pm53 an53 cd53 ct53), sl53⟩)
    (c53 : PySem.W.codeIn K cd53 "cut_up" = true)
    (k53 : PySem.W.keepIn K (.ref f53) = true)
    (a54 : PySem.W.nsIn K mainGlobals "point_of" = some (some (.ref f54)))
    (l54 : K.lookup f54 = some ⟨oc54, od54, .func (PySem.W.fnOf "point_of" "point_of" (defArgs s_point_of) (defBody s_point_of) (defScope s_point_of) .none kV54 dc54 pm54 an54 cd54 ct54), sl54⟩)
    (c54 : PySem.W.codeIn K cd54 "point_of" = true)
    (k54 : PySem.W.keepIn K (.ref f54) = true)
    (a55 : PySem.W.nsIn K mainGlobals "triangles_of" = some (some (.ref f55)))
    (l55 : K.lookup f55 = some ⟨oc55, od55, .func (PySem.W.fnOf "triangles_of" "triangles_of" (defArgs s_triangles_of) (defBody s_triangles_of) (defScope s_triangles_of) .none kV55 dc55 pm55 an55 cd55 ct55), sl55⟩)
    (c55 : PySem.W.codeIn K cd55 "triangles_of" = true)
    (k55 : PySem.W.keepIn K (.ref f55) = true)
    (a56 : PySem.W.findIn K (.ref CPart) "goal" = some (some (.ref f56)))
    (i56 : PySem.W.isFn K (.ref f56) = true)
    (l56 : K.lookup f56 = some ⟨oc56, od56, .func (PySem.W.fnOf "goal" "Part.goal" (defArgs s_Part_goal) (defBody s_Part_goal) (defScope s_Part_goal) .none kV56 dc56 pm56 an56 cd56 ct56), sl56⟩)
    (c56 : PySem.W.codeIn K cd56 "Part.goal" = true)
    (k56 : PySem.W.keepIn K (.ref f56) = true)
    (a57 : PySem.W.nsIn K mainGlobals "shared_size" = some (some (.ref f57)))
    (l57 : K.lookup f57 = some ⟨oc57, od57, .func (PySem.W.fnOf "shared_size" "shared_size" (defArgs s_shared_size) (defBody s_shared_size) (defScope s_shared_size) .none kV57 dc57 pm57 an57 cd57 ct57), sl57⟩)
    (c57 : PySem.W.codeIn K cd57 "shared_size" = true)
    (k57 : PySem.W.keepIn K (.ref f57) = true)
    (a58 : PySem.W.nsIn K mainGlobals "first_outside" = some (some (.ref f58)))
    (l58 : K.lookup f58 = some ⟨oc58, od58, .func (PySem.W.fnOf "first_outside" "first_outside" (defArgs s_first_outside) (defBody s_first_outside) (defScope s_first_outside) .none kV58 dc58 pm58 an58 cd58 ct58), sl58⟩)
    (c58 : PySem.W.codeIn K cd58 "first_outside" = true)
    (k58 : PySem.W.keepIn K (.ref f58) = true)
    (a59 : PySem.W.nsIn K mainGlobals "first_shared" = some (some (.ref f59)))
    (l59 : K.lookup f59 = some ⟨oc59, od59, .func (PySem.W.fnOf "first_shared" "first_shared" (defArgs s_first_shared) (defBody s_first_shared) (defScope s_first_shared) .none kV59 dc59 pm59 an59 cd59 ct59), sl59⟩)
    (c59 : PySem.W.codeIn K cd59 "first_shared" = true)
    (k59 : PySem.W.keepIn K (.ref f59) = true)
    (a60 : PySem.W.nsIn K mainGlobals "what_is_wrong" = some (some (.ref f60)))
    (l60 : K.lookup f60 = some ⟨oc60, od60, .func (PySem.W.fnOf "what_is_wrong" "what_is_wrong" (defArgs s_what_is_wrong) (defBody s_what_is_wrong) (defScope s_what_is_wrong) .none kV60 dc60 pm60 an60 cd60 ct60), sl60⟩)
    (c60 : PySem.W.codeIn K cd60 "what_is_wrong" = true)
    (k60 : PySem.W.keepIn K (.ref f60) = true)
    (a61 : PySem.W.nsIn K mainGlobals "why" = some (some (.ref f61)))
    (l61 : K.lookup f61 = some ⟨oc61, od61, .func (PySem.W.fnOf "why" "why" (defArgs s_why) (defBody s_why) (defScope s_why) .none kV61 dc61 pm61 an61 cd61 ct61), sl61⟩)
    (c61 : PySem.W.codeIn K cd61 "why" = true)
    (k61 : PySem.W.keepIn K (.ref f61) = true)
    (pg_Piece : PySem.W.plainGet K CPiece Str.empty = true)
    (hd_Piece : PySem.W.hasDictIn K CPiece = true)
    (po_Piece : PySem.W.plainOver K CPiece = true)
    (sa_Piece : PySem.W.findIn K (.ref CPiece) "__setattr__" = some (some (.builtin "object.__setattr__")))
    (mk_Piece : PySem.W.makesIn K CPiece = true)
    (kc_Piece : PySem.W.keepIn K (.ref CPiece) = true)
    (pg_Part : PySem.W.plainGet K CPart Str.empty = true)
    (hd_Part : PySem.W.hasDictIn K CPart = true)
    (po_Part : PySem.W.plainOver K CPart = true)
    (sa_Part : PySem.W.findIn K (.ref CPart) "__setattr__" = some (some (.builtin "object.__setattr__")))
    (mk_Part : PySem.W.makesIn K CPart = true)
    (kc_Part : PySem.W.keepIn K (.ref CPart) = true)
    (n_corners : PySem.W.findIn K (.ref CPiece) "corners" = some none)
    (n_bounds : PySem.W.findIn K (.ref CPiece) "bounds" = some none)
    (n_piece : PySem.W.findIn K (.ref CPart) "piece" = some none)
    (n_move : PySem.W.findIn K (.ref CPart) "move" = some none)
    (b_len : PySem.W.nsIn K mainGlobals "len" = some none)
    (b_abs : PySem.W.nsIn K mainGlobals "abs" = some none)
    (b_all : PySem.W.nsIn K mainGlobals "all" = some none)
    (b_any : PySem.W.nsIn K mainGlobals "any" = some none)
    (b_sum : PySem.W.nsIn K mainGlobals "sum" = some none)
    (b_range : PySem.W.nsIn K mainGlobals "range" = some none)
    (b_enumerate : PySem.W.nsIn K mainGlobals "enumerate" = some none)
    (b_int : PySem.W.nsIn K mainGlobals "int" = some none)
    (b_min : PySem.W.nsIn K mainGlobals "min" = some none)
    (b_max : PySem.W.nsIn K mainGlobals "max" = some none)
    (v_MOST_FAR : PySem.W.nsIn K mainGlobals "MOST_FAR" = some (some (.int (50) t_MOST_FAR)))
    (v_MOST_CORNERS_figures : PySem.W.nsIn K mainGlobals "MOST_CORNERS_figures" = some (some (.int (8) t_MOST_CORNERS_figures)))
    (v_MOST_PARTS : PySem.W.nsIn K mainGlobals "MOST_PARTS" = some (some (.int (160) t_MOST_PARTS)))
    (v_NOT_AS_TOLD : PySem.W.nsIn K mainGlobals "NOT_AS_TOLD" = some (some (.int (-22) t_NOT_AS_TOLD)))
    (v_TOO_MUCH : PySem.W.nsIn K mainGlobals "TOO_MUCH" = some (some (.int (-28) t_TOO_MUCH)))
    (v_LEAST_CORNERS : PySem.W.nsIn K mainGlobals "LEAST_CORNERS" = some (some (.int (3) t_LEAST_CORNERS)))
    (v_MOST_CORNERS_cuttings : PySem.W.nsIn K mainGlobals "MOST_CORNERS_cuttings" = some (some (.int (40) t_MOST_CORNERS_cuttings)))
    (v_MOVE_NUMBERS : PySem.W.nsIn K mainGlobals "MOVE_NUMBERS" = some (some (.int (5) t_MOVE_NUMBERS)))
    (v_ZERO : PySem.W.nsIn K mainGlobals "ZERO" = some (some (.ref a_ZERO)))
    (l_ZERO : K.lookup a_ZERO = some ⟨.type "tuple", od_ZERO, .seq #[.int 0 t1_ZERO, .int 1 t2_ZERO] n_ZERO, s_ZERO⟩)
    (v_HALF : PySem.W.nsIn K mainGlobals "HALF" = some (some (.ref a_HALF)))
    (l_HALF : K.lookup a_HALF = some ⟨.type "tuple", od_HALF, .seq #[.int 1 t1_HALF, .int 2 t2_HALF] n_HALF, s_HALF⟩) :
    ∃ fd : FuncData, (∀ (s : Shared) (us : List Value), us.length = (["f", "g", "c"] : List Str).length → BindsTo s fd ⟨us, []⟩ ((["f", "g", "c"] : List Str).zip us)) ∧ ∀ base : Heap, K.In base → base.NoSeer → base.Ns mainGlobals mg → FnOk P w K mg base CX0 51 fa fd ["f", "g", "c"] (Pm (pre_why K)) := by
  have e := hfa.symm.trans (PySem.W.mg_of X G a61)
  cases e
  have T : Txt K mg CPiece CPart := ⟨PySem.W.mg_none_of X G b_len, PySem.W.mg_none_of X G b_abs, PySem.W.mg_none_of X G b_all, PySem.W.mg_none_of X G b_any, PySem.W.mg_none_of X G b_sum, PySem.W.mg_none_of X G b_range, PySem.W.mg_none_of X G b_enumerate, PySem.W.mg_none_of X G b_int, PySem.W.mg_none_of X G b_min, PySem.W.mg_none_of X G b_max, ⟨_, PySem.W.mg_of X G v_MOST_FAR⟩, ⟨_, PySem.W.mg_of X G v_MOST_CORNERS_figures⟩, ⟨_, PySem.W.mg_of X G v_MOST_PARTS⟩, ⟨_, PySem.W.mg_of X G v_NOT_AS_TOLD⟩, ⟨_, PySem.W.mg_of X G v_TOO_MUCH⟩, ⟨_, PySem.W.mg_of X G v_LEAST_CORNERS⟩, ⟨_, PySem.W.mg_of X G v_MOST_CORNERS_cuttings⟩, ⟨_, PySem.W.mg_of X G v_MOVE_NUMBERS⟩, ⟨_, PySem.W.mg_of X G v_ZERO, fun H => q_lit l_ZERO⟩, ⟨_, PySem.W.mg_of X G v_HALF, fun H => q_lit l_HALF⟩, ⟨pg_Piece, hd_Piece, po_Piece, sa_Piece⟩, ⟨pg_Part, hd_Part, po_Part, sa_Part⟩, n_corners, n_bounds, n_piece, n_move⟩
  have F1 := fun_mk (st := s_common) l1 c1 k1
  have b1 := F1.binds (ps := ["one", "other"]) fun _ _ _ _ _ _ us hl => match us, hl with | [_, _], _ => rfl
  have A_common : Fa K mg "common" s_common ["one", "other"] := ⟨_, _, F1, PySem.W.mg_of X G a1, b1⟩
  have F2 := fun_mk (st := s_ratio) l2 c2 k2
  have b2 := F2.binds (ps := ["top", "bottom"]) fun _ _ _ _ _ _ us hl => match us, hl with | [_, _], _ => rfl
  have A_ratio : Fa K mg "ratio" s_ratio ["top", "bottom"] := ⟨_, _, F2, PySem.W.mg_of X G a2, b2⟩
  have F3 := fun_mk (st := s_plus) l3 c3 k3
  have b3 := F3.binds (ps := ["one", "other"]) fun _ _ _ _ _ _ us hl => match us, hl with | [_, _], _ => rfl
  have A_plus : Fa K mg "plus" s_plus ["one", "other"] := ⟨_, _, F3, PySem.W.mg_of X G a3, b3⟩
  have F4 := fun_mk (st := s_minus) l4 c4 k4
  have b4 := F4.binds (ps := ["one", "other"]) fun _ _ _ _ _ _ us hl => match us, hl with | [_, _], _ => rfl
  have A_minus : Fa K mg "minus" s_minus ["one", "other"] := ⟨_, _, F4, PySem.W.mg_of X G a4, b4⟩
  have F5 := fun_mk (st := s_times) l5 c5 k5
  have b5 := F5.binds (ps := ["one", "other"]) fun _ _ _ _ _ _ us hl => match us, hl with | [_, _], _ => rfl
  have A_times : Fa K mg "times" s_times ["one", "other"] := ⟨_, _, F5, PySem.W.mg_of X G a5, b5⟩
  have F6 := fun_mk (st := s_is_less) l6 c6 k6
  have b6 := F6.binds (ps := ["one", "other"]) fun _ _ _ _ _ _ us hl => match us, hl with | [_, _], _ => rfl
  have A_is_less : Fa K mg "is_less" s_is_less ["one", "other"] := ⟨_, _, F6, PySem.W.mg_of X G a6, b6⟩
  have F7 := fun_mk (st := s_least) l7 c7 k7
  have b7 := F7.binds (ps := ["some"]) fun _ _ _ _ _ _ us hl => match us, hl with | [_], _ => rfl
  have A_least : Fa K mg "least" s_least ["some"] := ⟨_, _, F7, PySem.W.mg_of X G a7, b7⟩
  have F8 := fun_mk (st := s_greatest) l8 c8 k8
  have b8 := F8.binds (ps := ["some"]) fun _ _ _ _ _ _ us hl => match us, hl with | [_], _ => rfl
  have A_greatest : Fa K mg "greatest" s_greatest ["some"] := ⟨_, _, F8, PySem.W.mg_of X G a8, b8⟩
  have F9 := fun_mk (st := s_is_told) l9 c9 k9
  have b9 := F9.binds (ps := ["top", "bottom"]) fun _ _ _ _ _ _ us hl => match us, hl with | [_, _], _ => rfl
  have A_is_told : Fa K mg "is_told" s_is_told ["top", "bottom"] := ⟨_, _, F9, PySem.W.mg_of X G a9, b9⟩
  have F10 := fun_mk (st := s_between) l10 c10 k10
  have b10 := F10.binds (ps := ["one", "other"]) fun _ _ _ _ _ _ us hl => match us, hl with | [_, _], _ => rfl
  have A_between : Fa K mg "between" s_between ["one", "other"] := ⟨_, _, F10, PySem.W.mg_of X G a10, b10⟩
  have F11 := fun_mk (st := s_crossed) l11 c11 k11
  have b11 := F11.binds (ps := ["one", "other"]) fun _ _ _ _ _ _ us hl => match us, hl with | [_, _], _ => rfl
  have A_crossed : Fa K mg "crossed" s_crossed ["one", "other"] := ⟨_, _, F11, PySem.W.mg_of X G a11, b11⟩
  have F12 := fun_mk (st := s_turning) l12 c12 k12
  have b12 := F12.binds (ps := ["a", "b", "c"]) fun _ _ _ _ _ _ us hl => match us, hl with | [_, _, _], _ => rfl
  have A_turning : Fa K mg "turning" s_turning ["a", "b", "c"] := ⟨_, _, F12, PySem.W.mg_of X G a12, b12⟩
  have F13 := fun_mk (st := s_Piece_init) l13 c13 k13
  have b13 := F13.binds (ps := ["self", "corners"]) fun _ _ _ _ _ _ us hl => match us, hl with | [_, _], _ => rfl
  have A_Piece_init : Fm K CPiece "__init__" "Piece.__init__" s_Piece_init ["self", "corners"] := ⟨_, _, F13, a13, i13, b13⟩
  have F14 := fun_mk (st := s_is_ahead) l14 c14 k14
  have b14 := F14.binds (ps := ["one", "other"]) fun _ _ _ _ _ _ us hl => match us, hl with | [_, _], _ => rfl
  have A_is_ahead : Fa K mg "is_ahead" s_is_ahead ["one", "other"] := ⟨_, _, F14, PySem.W.mg_of X G a14, b14⟩
  have F15 := fun_mk (st := s_from_leftmost) l15 c15 k15
  have b15 := F15.binds (ps := ["corners"]) fun _ _ _ _ _ _ us hl => match us, hl with | [_], _ => rfl
  have A_from_leftmost : Fa K mg "from_leftmost" s_from_leftmost ["corners"] := ⟨_, _, F15, PySem.W.mg_of X G a15, b15⟩
  have F16 := fun_mk (st := s_sides_of) l16 c16 k16
  have b16 := F16.binds (ps := ["corners"]) fun _ _ _ _ _ _ us hl => match us, hl with | [_], _ => rfl
  have A_sides_of : Fa K mg "sides_of" s_sides_of ["corners"] := ⟨_, _, F16, PySem.W.mg_of X G a16, b16⟩
  have F17 := fun_mk (st := s_is_strict) l17 c17 k17
  have b17 := F17.binds (ps := ["corners"]) fun _ _ _ _ _ _ us hl => match us, hl with | [_], _ => rfl
  have A_is_strict : Fa K mg "is_strict" s_is_strict ["corners"] := ⟨_, _, F17, PySem.W.mg_of X G a17, b17⟩
  have F18 := fun_mk (st := s_Part_init) l18 c18 k18
  have b18 := F18.binds (ps := ["self", "piece", "move"]) fun _ _ _ _ _ _ us hl => match us, hl with | [_, _, _], _ => rfl
  have A_Part_init : Fm K CPart "__init__" "Part.__init__" s_Part_init ["self", "piece", "move"] := ⟨_, _, F18, a18, i18, b18⟩
  have F19 := fun_mk (st := s_fractions_in) l19 c19 k19
  have b19 := F19.binds (ps := ["numbers"]) fun _ _ _ _ _ _ us hl => match us, hl with | [_], _ => rfl
  have A_fractions_in : Fa K mg "fractions_in" s_fractions_in ["numbers"] := ⟨_, _, F19, PySem.W.mg_of X G a19, b19⟩
  have F20 := fun_mk (st := s_part_of) l20 c20 k20
  have b20 := F20.binds (ps := ["many", "numbers"]) fun _ _ _ _ _ _ us hl => match us, hl with | [_, _], _ => rfl
  have A_part_of : Fa K mg "part_of" s_part_of ["many", "numbers"] := ⟨_, _, F20, PySem.W.mg_of X G a20, b20⟩
  have F21 := fun_mk (st := s_read_cutting) l21 c21 k21
  have b21 := F21.binds (ps := ["row"]) fun _ _ _ _ _ _ us hl => match us, hl with | [_], _ => rfl
  have A_read_cutting : Fa K mg "read_cutting" s_read_cutting ["row"] := ⟨_, _, F21, PySem.W.mg_of X G a21, b21⟩
  have F22 := fun_mk (st := s_bad_cutting) l22 c22 k22
  have b22 := F22.binds (ps := ["cutting"]) fun _ _ _ _ _ _ us hl => match us, hl with | [_], _ => rfl
  have A_bad_cutting : Fa K mg "bad_cutting" s_bad_cutting ["cutting"] := ⟨_, _, F22, PySem.W.mg_of X G a22, b22⟩
  have F23 := fun_mk (st := s_total) l23 c23 k23
  have b23 := F23.binds (ps := ["some"]) fun _ _ _ _ _ _ us hl => match us, hl with | [_], _ => rfl
  have A_total : Fa K mg "total" s_total ["some"] := ⟨_, _, F23, PySem.W.mg_of X G a23, b23⟩
  have F24 := fun_mk (st := s_area_of) l24 c24 k24
  have b24 := F24.binds (ps := ["corners"]) fun _ _ _ _ _ _ us hl => match us, hl with | [_], _ => rfl
  have A_area_of : Fa K mg "area_of" s_area_of ["corners"] := ⟨_, _, F24, PySem.W.mg_of X G a24, b24⟩
  have F25 := fun_mk (st := s_size) l25 c25 k25
  have b25 := F25.binds (ps := ["piece"]) fun _ _ _ _ _ _ us hl => match us, hl with | [_], _ => rfl
  have A_size : Fa K mg "size" s_size ["piece"] := ⟨_, _, F25, PySem.W.mg_of X G a25, b25⟩
  have F26 := fun_mk (st := s_over) l26 c26 k26
  have b26 := F26.binds (ps := ["one", "other"]) fun _ _ _ _ _ _ us hl => match us, hl with | [_, _], _ => rfl
  have A_over : Fa K mg "over" s_over ["one", "other"] := ⟨_, _, F26, PySem.W.mg_of X G a26, b26⟩
  have F27 := fun_mk (st := s_together) l27 c27 k27
  have b27 := F27.binds (ps := ["one", "other"]) fun _ _ _ _ _ _ us hl => match us, hl with | [_, _], _ => rfl
  have A_together : Fa K mg "together" s_together ["one", "other"] := ⟨_, _, F27, PySem.W.mg_of X G a27, b27⟩
  have F28 := fun_mk (st := s_stretched) l28 c28 k28
  have b28 := F28.binds (ps := ["one", "number"]) fun _ _ _ _ _ _ us hl => match us, hl with | [_, _], _ => rfl
  have A_stretched : Fa K mg "stretched" s_stretched ["one", "number"] := ⟨_, _, F28, PySem.W.mg_of X G a28, b28⟩
  have F29 := fun_mk (st := s_without_like) l29 c29 k29
  have b29 := F29.binds (ps := ["corners"]) fun _ _ _ _ _ _ us hl => match us, hl with | [_], _ => rfl
  have A_without_like : Fa K mg "without_like" s_without_like ["corners"] := ⟨_, _, F29, PySem.W.mg_of X G a29, b29⟩
  have F30 := fun_mk (st := s_without_straight) l30 c30 k30
  have b30 := F30.binds (ps := ["corners"]) fun _ _ _ _ _ _ us hl => match us, hl with | [_], _ => rfl
  have A_without_straight : Fa K mg "without_straight" s_without_straight ["corners"] := ⟨_, _, F30, PySem.W.mg_of X G a30, b30⟩
  have F31 := fun_mk (st := s_crossing) l31 c31 k31
  have b31 := F31.binds (ps := ["one", "other", "here", "there"]) fun _ _ _ _ _ _ us hl => match us, hl with | [_, _, _, _], _ => rfl
  have A_crossing : Fa K mg "crossing" s_crossing ["one", "other", "here", "there"] := ⟨_, _, F31, PySem.W.mg_of X G a31, b31⟩
  have F32 := fun_mk (st := s_clipped) l32 c32 k32
  have b32 := F32.binds (ps := ["corners", "a", "b"]) fun _ _ _ _ _ _ us hl => match us, hl with | [_, _, _], _ => rfl
  have A_clipped : Fa K mg "clipped" s_clipped ["corners", "a", "b"] := ⟨_, _, F32, PySem.W.mg_of X G a32, b32⟩
  have F33 := fun_mk (st := s_piece_of) l33 c33 k33
  have b33 := F33.binds (ps := ["corners"]) fun _ _ _ _ _ _ us hl => match us, hl with | [_], _ => rfl
  have A_piece_of : Fa K mg "piece_of" s_piece_of ["corners"] := ⟨_, _, F33, PySem.W.mg_of X G a33, b33⟩
  have F34 := fun_mk (st := s_are_apart) l34 c34 k34
  have b34 := F34.binds (ps := ["one", "other"]) fun _ _ _ _ _ _ us hl => match us, hl with | [_, _], _ => rfl
  have A_are_apart : Fa K mg "are_apart" s_are_apart ["one", "other"] := ⟨_, _, F34, PySem.W.mg_of X G a34, b34⟩
  have F35 := fun_mk (st := s_in_both) l35 c35 k35
  have b35 := F35.binds (ps := ["one", "other"]) fun _ _ _ _ _ _ us hl => match us, hl with | [_, _], _ => rfl
  have A_in_both : Fa K mg "in_both" s_in_both ["one", "other"] := ⟨_, _, F35, PySem.W.mg_of X G a35, b35⟩
  have F36 := fun_mk (st := s_negative) l36 c36 k36
  have b36 := F36.binds (ps := ["one"]) fun _ _ _ _ _ _ us hl => match us, hl with | [_], _ => rfl
  have A_negative : Fa K mg "negative" s_negative ["one"] := ⟨_, _, F36, PySem.W.mg_of X G a36, b36⟩
  have F37 := fun_mk (st := s_moved_point) l37 c37 k37
  have b37 := F37.binds (ps := ["move", "point"]) fun _ _ _ _ _ _ us hl => match us, hl with | [_, _], _ => rfl
  have A_moved_point : Fa K mg "moved_point" s_moved_point ["move", "point"] := ⟨_, _, F37, PySem.W.mg_of X G a37, b37⟩
  have F38 := fun_mk (st := s_moved) l38 c38 k38
  have b38 := F38.binds (ps := ["move", "piece"]) fun _ _ _ _ _ _ us hl => match us, hl with | [_, _], _ => rfl
  have A_moved : Fa K mg "moved" s_moved ["move", "piece"] := ⟨_, _, F38, PySem.W.mg_of X G a38, b38⟩
  have F39 := fun_mk (st := s_corners_of) l39 c39 k39
  have b39 := F39.binds (ps := ["row"]) fun _ _ _ _ _ _ us hl => match us, hl with | [_], _ => rfl
  have A_corners_of : Fa K mg "corners_of" s_corners_of ["row"] := ⟨_, _, F39, PySem.W.mg_of X G a39, b39⟩
  have F40 := fun_mk (st := s_left_of) l40 c40 k40
  have b40 := F40.binds (ps := ["a", "b", "c"]) fun _ _ _ _ _ _ us hl => match us, hl with | [_, _, _], _ => rfl
  have A_left_of : Fa K mg "left_of" s_left_of ["a", "b", "c"] := ⟨_, _, F40, PySem.W.mg_of X G a40, b40⟩
  have F41 := fun_mk (st := s_sign) l41 c41 k41
  have b41 := F41.binds (ps := ["number"]) fun _ _ _ _ _ _ us hl => match us, hl with | [_], _ => rfl
  have A_sign : Fa K mg "sign" s_sign ["number"] := ⟨_, _, F41, PySem.W.mg_of X G a41, b41⟩
  have F42 := fun_mk (st := s_is_on) l42 c42 k42
  have b42 := F42.binds (ps := ["a", "b", "c"]) fun _ _ _ _ _ _ us hl => match us, hl with | [_, _, _], _ => rfl
  have A_is_on : Fa K mg "is_on" s_is_on ["a", "b", "c"] := ⟨_, _, F42, PySem.W.mg_of X G a42, b42⟩
  have F43 := fun_mk (st := s_do_meet) l43 c43 k43
  have b43 := F43.binds (ps := ["one", "other"]) fun _ _ _ _ _ _ us hl => match us, hl with | [_, _], _ => rfl
  have A_do_meet : Fa K mg "do_meet" s_do_meet ["one", "other"] := ⟨_, _, F43, PySem.W.mg_of X G a43, b43⟩
  have F44 := fun_mk (st := s_sides_round) l44 c44 k44
  have b44 := F44.binds (ps := ["corners"]) fun _ _ _ _ _ _ us hl => match us, hl with | [_], _ => rfl
  have A_sides_round : Fa K mg "sides_round" s_sides_round ["corners"] := ⟨_, _, F44, PySem.W.mg_of X G a44, b44⟩
  have F45 := fun_mk (st := s_has_straight) l45 c45 k45
  have b45 := F45.binds (ps := ["corners"]) fun _ _ _ _ _ _ us hl => match us, hl with | [_], _ => rfl
  have A_has_straight : Fa K mg "has_straight" s_has_straight ["corners"] := ⟨_, _, F45, PySem.W.mg_of X G a45, b45⟩
  have F46 := fun_mk (st := s_twice_size) l46 c46 k46
  have b46 := F46.binds (ps := ["corners"]) fun _ _ _ _ _ _ us hl => match us, hl with | [_], _ => rfl
  have A_twice_size : Fa K mg "twice_size" s_twice_size ["corners"] := ⟨_, _, F46, PySem.W.mg_of X G a46, b46⟩
  have F47 := fun_mk (st := s_is_in_triangle) l47 c47 k47
  have b47 := F47.binds (ps := ["a", "b", "c", "point"]) fun _ _ _ _ _ _ us hl => match us, hl with | [_, _, _, _], _ => rfl
  have A_is_in_triangle : Fa K mg "is_in_triangle" s_is_in_triangle ["a", "b", "c", "point"] := ⟨_, _, F47, PySem.W.mg_of X G a47, b47⟩
  have F48 := fun_mk (st := s_ear_at) l48 c48 k48
  have b48 := F48.binds (ps := ["corners", "k"]) fun _ _ _ _ _ _ us hl => match us, hl with | [_, _], _ => rfl
  have A_ear_at : Fa K mg "ear_at" s_ear_at ["corners", "k"] := ⟨_, _, F48, PySem.W.mg_of X G a48, b48⟩
  have F49 := fun_mk (st := s_is_ear) l49 c49 k49
  have b49 := F49.binds (ps := ["corners", "k"]) fun _ _ _ _ _ _ us hl => match us, hl with | [_, _], _ => rfl
  have A_is_ear : Fa K mg "is_ear" s_is_ear ["corners", "k"] := ⟨_, _, F49, PySem.W.mg_of X G a49, b49⟩
  have F50 := fun_mk (st := s_has_crossing) l50 c50 k50
  have b50 := F50.binds (ps := ["corners"]) fun _ _ _ _ _ _ us hl => match us, hl with | [_], _ => rfl
  have A_has_crossing : Fa K mg "has_crossing" s_has_crossing ["corners"] := ⟨_, _, F50, PySem.W.mg_of X G a50, b50⟩
  have F51 := fun_mk (st := s_is_figure) l51 c51 k51
  have b51 := F51.binds (ps := ["row"]) fun _ _ _ _ _ _ us hl => match us, hl with | [_], _ => rfl
  have A_is_figure : Fa K mg "is_figure" s_is_figure ["row"] := ⟨_, _, F51, PySem.W.mg_of X G a51, b51⟩
  have F52 := fun_mk (st := s_figure_size) l52 c52 k52
  have b52 := F52.binds (ps := ["row"]) fun _ _ _ _ _ _ us hl => match us, hl with | [_], _ => rfl
  have A_figure_size : Fa K mg "figure_size" s_figure_size ["row"] := ⟨_, _, F52, PySem.W.mg_of X G a52, b52⟩
  have F53 := fun_mk (st := s_cut_up) l53 c53 k53
  have b53 := F53.binds (ps := ["row"]) fun _ _ _ _ _ _ us hl => match us, hl with | [_], _ => rfl
  have A_cut_up : Fa K mg "cut_up" s_cut_up ["row"] := ⟨_, _, F53, PySem.W.mg_of X G a53, b53⟩
  have F54 := fun_mk (st := s_point_of) l54 c54 k54
  have b54 := F54.binds (ps := ["corner"]) fun _ _ _ _ _ _ us hl => match us, hl with | [_], _ => rfl
  have A_point_of : Fa K mg "point_of" s_point_of ["corner"] := ⟨_, _, F54, PySem.W.mg_of X G a54, b54⟩
  have F55 := fun_mk (st := s_triangles_of) l55 c55 k55
  have b55 := F55.binds (ps := ["row"]) fun _ _ _ _ _ _ us hl => match us, hl with | [_], _ => rfl
  have A_triangles_of : Fa K mg "triangles_of" s_triangles_of ["row"] := ⟨_, _, F55, PySem.W.mg_of X G a55, b55⟩
  have F56 := fun_mk (st := s_Part_goal) l56 c56 k56
  have b56 := F56.binds (ps := ["self"]) fun _ _ _ _ _ _ us hl => match us, hl with | [_], _ => rfl
  have A_Part_goal : Fm K CPart "goal" "Part.goal" s_Part_goal ["self"] := ⟨_, _, F56, a56, i56, b56⟩
  have F57 := fun_mk (st := s_shared_size) l57 c57 k57
  have b57 := F57.binds (ps := ["piece", "some"]) fun _ _ _ _ _ _ us hl => match us, hl with | [_, _], _ => rfl
  have A_shared_size : Fa K mg "shared_size" s_shared_size ["piece", "some"] := ⟨_, _, F57, PySem.W.mg_of X G a57, b57⟩
  have F58 := fun_mk (st := s_first_outside) l58 c58 k58
  have b58 := F58.binds (ps := ["pieces", "row"]) fun _ _ _ _ _ _ us hl => match us, hl with | [_, _], _ => rfl
  have A_first_outside : Fa K mg "first_outside" s_first_outside ["pieces", "row"] := ⟨_, _, F58, PySem.W.mg_of X G a58, b58⟩
  have F59 := fun_mk (st := s_first_shared) l59 c59 k59
  have b59 := F59.binds (ps := ["pieces"]) fun _ _ _ _ _ _ us hl => match us, hl with | [_], _ => rfl
  have A_first_shared : Fa K mg "first_shared" s_first_shared ["pieces"] := ⟨_, _, F59, PySem.W.mg_of X G a59, b59⟩
  have F60 := fun_mk (st := s_what_is_wrong) l60 c60 k60
  have b60 := F60.binds (ps := ["f", "g", "cutting"]) fun _ _ _ _ _ _ us hl => match us, hl with | [_, _, _], _ => rfl
  have A_what_is_wrong : Fa K mg "what_is_wrong" s_what_is_wrong ["f", "g", "cutting"] := ⟨_, _, F60, PySem.W.mg_of X G a60, b60⟩
  have F61 := fun_mk (st := s_why) l61 c61 k61
  have b61 := F61.binds (ps := ["f", "g", "c"]) fun _ _ _ _ _ _ us hl => match us, hl with | [_, _, _], _ => rfl
  have A_why : Fa K mg "why" s_why ["f", "g", "c"] := ⟨_, _, F61, PySem.W.mg_of X G a61, b61⟩
  refine ⟨PySem.W.fnOf "why" "why" (defArgs s_why) (defBody s_why) (defScope s_why) .none kV61 dc61 pm61 an61 cd61 ct61, fun s us hu => match us, hu with | [_, _, _], _ => .of_eq rfl, fun base hK hN hG => ?_⟩
  have hB : Big P base := ⟨hN, hT⟩
  have C_common := ok_common (P := P) (w := w) (base := base) A_common T 
  have C_ratio := ok_ratio (P := P) (w := w) (base := base) A_ratio T C_common hB
  have C_plus := ok_plus (P := P) (w := w) (base := base) A_plus T C_ratio
  have C_minus := ok_minus (P := P) (w := w) (base := base) A_minus T C_ratio
  have C_times := ok_times (P := P) (w := w) (base := base) A_times T C_ratio
  have C_is_less := ok_is_less (P := P) (w := w) (base := base) A_is_less T 
  have C_least := ok_least (P := P) (w := w) (base := base) A_least T C_is_less
  have C_greatest := ok_greatest (P := P) (w := w) (base := base) A_greatest T C_is_less
  have C_is_told := ok_is_told (P := P) (w := w) (base := base) A_is_told T C_common
  have C_between := ok_between (P := P) (w := w) (base := base) A_between T C_minus
  have C_crossed := ok_crossed (P := P) (w := w) (base := base) A_crossed T C_minus C_times
  have C_turning := ok_turning (P := P) (w := w) (base := base) A_turning T C_crossed C_between
  have C_Piece := ok_Piece_init (P := P) (w := w) (base := base) A_Piece_init ⟨mk_Piece, kc_Piece, PySem.W.mg_of X G aC_Piece⟩ T C_least C_greatest
  have C_is_ahead := ok_is_ahead (P := P) (w := w) (base := base) A_is_ahead T C_is_less
  have C_from_leftmost := ok_from_leftmost (P := P) (w := w) (base := base) A_from_leftmost T C_is_ahead
  have C_sides_of := ok_sides_of (P := P) (w := w) (base := base) A_sides_of T 
  have C_is_strict := ok_is_strict (P := P) (w := w) (base := base) A_is_strict T C_sides_of C_turning
  have C_Part := ok_Part_init (P := P) (w := w) (base := base) A_Part_init ⟨mk_Part, kc_Part, PySem.W.mg_of X G aC_Part⟩ T 
  have C_fractions_in := ok_fractions_in (P := P) (w := w) (base := base) A_fractions_in T C_is_told
  have C_part_of := ok_part_of (P := P) (w := w) (base := base) A_part_of T C_fractions_in C_Part C_is_strict C_Piece C_from_leftmost
  have C_read_cutting := ok_read_cutting (P := P) (w := w) (base := base) A_read_cutting T C_part_of
  have C_bad_cutting := ok_bad_cutting (P := P) (w := w) (base := base) A_bad_cutting T 
  have C_total := ok_total (P := P) (w := w) (base := base) A_total T C_plus
  have C_area_of := ok_area_of (P := P) (w := w) (base := base) A_area_of T C_times C_total C_crossed C_sides_of
  have C_size := ok_size (P := P) (w := w) (base := base) A_size T C_area_of
  have C_over := ok_over (P := P) (w := w) (base := base) A_over T C_ratio
  have C_together := ok_together (P := P) (w := w) (base := base) A_together T C_plus
  have C_stretched := ok_stretched (P := P) (w := w) (base := base) A_stretched T C_times
  have C_without_like := ok_without_like (P := P) (w := w) (base := base) A_without_like T 
  have C_without_straight := ok_without_straight (P := P) (w := w) (base := base) A_without_straight T C_turning
  have C_crossing := ok_crossing (P := P) (w := w) (base := base) A_crossing T C_over C_together C_minus C_stretched C_between
  have C_clipped := ok_clipped (P := P) (w := w) (base := base) A_clipped T C_turning C_crossing
  have C_piece_of := ok_piece_of (P := P) (w := w) (base := base) A_piece_of T C_without_straight C_Piece C_without_like C_from_leftmost
  have C_are_apart := ok_are_apart (P := P) (w := w) (base := base) A_are_apart T C_is_less
  have C_in_both := ok_in_both (P := P) (w := w) (base := base) A_in_both T C_are_apart C_sides_of C_piece_of C_clipped
  have C_negative := ok_negative (P := P) (w := w) (base := base) A_negative T 
  have C_moved_point := ok_moved_point (P := P) (w := w) (base := base) A_moved_point T C_plus C_negative
  have C_moved := ok_moved (P := P) (w := w) (base := base) A_moved T C_Piece C_from_leftmost C_moved_point
  have C_corners_of := ok_corners_of (P := P) (w := w) (base := base) A_corners_of T 
  have C_left_of := ok_left_of (P := P) (w := w) (base := base) A_left_of T 
  have C_sign := ok_sign (P := P) (w := w) (base := base) A_sign T 
  have C_is_on := ok_is_on (P := P) (w := w) (base := base) A_is_on T 
  have C_do_meet := ok_do_meet (P := P) (w := w) (base := base) A_do_meet T C_sign C_is_on C_left_of
  have C_sides_round := ok_sides_round (P := P) (w := w) (base := base) A_sides_round T 
  have C_has_straight := ok_has_straight (P := P) (w := w) (base := base) A_has_straight T C_left_of
  have C_twice_size := ok_twice_size (P := P) (w := w) (base := base) A_twice_size T C_sides_round
  have C_is_in_triangle := ok_is_in_triangle (P := P) (w := w) (base := base) A_is_in_triangle T C_left_of
  have C_ear_at := ok_ear_at (P := P) (w := w) (base := base) A_ear_at T 
  have C_is_ear := ok_is_ear (P := P) (w := w) (base := base) A_is_ear T C_ear_at C_left_of C_is_in_triangle
  have C_has_crossing := ok_has_crossing (P := P) (w := w) (base := base) A_has_crossing T C_sides_round C_do_meet
  have C_is_figure := ok_is_figure (P := P) (w := w) (base := base) A_is_figure T C_corners_of C_has_straight C_has_crossing C_twice_size
  have C_figure_size := ok_figure_size (P := P) (w := w) (base := base) A_figure_size T C_ratio C_twice_size C_corners_of
  have C_cut_up := ok_cut_up (P := P) (w := w) (base := base) A_cut_up T C_corners_of C_ear_at C_is_ear
  have C_point_of := ok_point_of (P := P) (w := w) (base := base) A_point_of T 
  have C_triangles_of := ok_triangles_of (P := P) (w := w) (base := base) A_triangles_of T C_piece_of C_cut_up C_point_of
  have C_goal := ok_Part_goal (P := P) (w := w) (base := base) A_Part_goal T C_moved
  have C_shared_size := ok_shared_size (P := P) (w := w) (base := base) A_shared_size T C_total C_in_both C_size
  have C_first_outside := ok_first_outside (P := P) (w := w) (base := base) A_first_outside T C_triangles_of C_shared_size C_size
  have C_first_shared := ok_first_shared (P := P) (w := w) (base := base) A_first_shared T C_in_both
  have C_what_is_wrong := ok_what_is_wrong (P := P) (w := w) (base := base) A_what_is_wrong T C_first_outside C_first_shared C_figure_size C_goal C_total C_size
  exact ok_why F61 T C_read_cutting C_bad_cutting C_what_is_wrong C_is_figure
end Rc
open PySem PySem.W PyProof.Rows
set_option maxRecDepth 100000 in
set_option maxHeartbeats 0 in
theorem PySem.Challenge.cw_recutfigures_s02_why_holds : PySem.Challenge.rw_recutfigures_s02_why.Holds := by
  w_on; k_headS; (case hw => exact ⟨[.list [], .list [], .list []], by decide +kernel, by decide +kernel⟩)
  k_fillS
  intro w s₀ s₁ mg mb G Y
  have KX := PySem.W.kIn_of Y
  obtain ⟨E, hE, hS⟩ := Rc.seer_frag (G.T.seer rfl)
  refine (L2.walk_specK (r := PySem.Challenge.rw_recutfigures_s02_why) (k := 51) (K := fun _ => PySem.Challenge.cw_recutfigures_s02_why_holds.heap_1 w.params ++ E) (YP := fun w2 h2 => w = w2 ∧ s₁.heap = h2) (CX := L2.CX0) (ps := ["f", "g", "c"]) (sp := fun K => Rc.Pm (Rc.pre_why K)) (by decide +kernel) rfl rfl ⟨rfl, by decide, by decide⟩ ?hY ?F ?S (fun _ _ _ _ z => z)) w s₀ s₁ mg mb G ⟨rfl, rfl⟩
  case hY =>
    rintro _ _ ⟨rfl, rfl⟩
    exact Rc.frag_app KX hE
  case F =>
    rintro _ mg2 fa h ⟨rfl, rfl⟩ KX2 G2 hmg
    obtain ⟨fd, h1, h2⟩ : ∃ fd : FuncData, (∀ (s : Shared) (us : List Value), us.length = (["f", "g", "c"] : List Str).length → BindsTo s fd ⟨us, []⟩ ((["f", "g", "c"] : List Str).zip us)) ∧ ∀ base : Heap, Frag.In (PySem.Challenge.cw_recutfigures_s02_why_holds.heap_1 w.params ++ E) base → base.NoSeer → base.Ns mainGlobals mg2 → L2.FnOk PySem.Challenge.pw_recutfigures_s02_why w (PySem.Challenge.cw_recutfigures_s02_why_holds.heap_1 w.params ++ E) mg2 base L2.CX0 51 fa fd ["f", "g", "c"] (Rc.Pm (Rc.pre_why (PySem.Challenge.cw_recutfigures_s02_why_holds.heap_1 w.params ++ E))) := by
      refine' Rc.all_mk KX2 G2 hmg rfl ?aC_Piece ?aC_Part ?a1 ?l1 ?c1 ?k1 ?a2 ?l2 ?c2 ?k2 ?a3 ?l3 ?c3 ?k3 ?a4 ?l4 ?c4 ?k4 ?a5 ?l5 ?c5 ?k5 ?a6 ?l6 ?c6 ?k6 ?a7 ?l7 ?c7 ?k7 ?a8 ?l8 ?c8 ?k8 ?a9 ?l9 ?c9 ?k9 ?a10 ?l10 ?c10 ?k10 ?a11 ?l11 ?c11 ?k11 ?a12 ?l12 ?c12 ?k12 ?a13 ?i13 ?l13 ?c13 ?k13 ?a14 ?l14 ?c14 ?k14 ?a15 ?l15 ?c15 ?k15 ?a16 ?l16 ?c16 ?k16 ?a17 ?l17 ?c17 ?k17 ?a18 ?i18 ?l18 ?c18 ?k18 ?a19 ?l19 ?c19 ?k19 ?a20 ?l20 ?c20 ?k20 ?a21 ?l21 ?c21 ?k21 ?a22 ?l22 ?c22 ?k22 ?a23 ?l23 ?c23 ?k23 ?a24 ?l24 ?c24 ?k24 ?a25 ?l25 ?c25 ?k25 ?a26 ?l26 ?c26 ?k26 ?a27 ?l27 ?c27 ?k27 ?a28 ?l28 ?c28 ?k28 ?a29 ?l29 ?c29 ?k29 ?a30 ?l30 ?c30 ?k30 ?a31 ?l31 ?c31 ?k31 ?a32 ?l32 ?c32 ?k32 ?a33 ?l33 ?c33 ?k33 ?a34 ?l34 ?c34 ?k34 ?a35 ?l35 ?c35 ?k35 ?a36 ?l36 ?c36 ?k36 ?a37 ?l37 ?c37 ?k37 ?a38 ?l38 ?c38 ?k38 ?a39 ?l39 ?c39 ?k39 ?a40 ?l40 ?c40 ?k40 ?a41 ?l41 ?c41 ?k41 ?a42 ?l42 ?c42 ?k42 ?a43 ?l43 ?c43 ?k43 ?a44 ?l44 ?c44 ?k44 ?a45 ?l45 ?c45 ?k45 ?a46 ?l46 ?c46 ?k46 ?a47 ?l47 ?c47 ?k47 ?a48 ?l48 ?c48 ?k48 ?a49 ?l49 ?c49 ?k49 ?a50 ?l50 ?c50 ?k50 ?a51 ?l51 ?c51 ?k51 ?a52 ?l52 ?c52 ?k52 ?a53 ?l53 ?c53 ?k53 ?a54 ?l54 ?c54 ?k54 ?a55 ?l55 ?c55 ?k55 ?a56 ?i56 ?l56 ?c56 ?k56 ?a57 ?l57 ?c57 ?k57 ?a58 ?l58 ?c58 ?k58 ?a59 ?l59 ?c59 ?k59 ?a60 ?l60 ?c60 ?k60 ?a61 ?l61 ?c61 ?k61 ?pg_Piece ?hd_Piece ?po_Piece ?sa_Piece ?mk_Piece ?kc_Piece ?pg_Part ?hd_Part ?po_Part ?sa_Part ?mk_Part ?kc_Part ?n_corners ?n_bounds ?n_piece ?n_move ?b_len ?b_abs ?b_all ?b_any ?b_sum ?b_range ?b_enumerate ?b_int ?b_min ?b_max ?v_MOST_FAR ?v_MOST_CORNERS_figures ?v_MOST_PARTS ?v_NOT_AS_TOLD ?v_TOO_MUCH ?v_LEAST_CORNERS ?v_MOST_CORNERS_cuttings ?v_MOVE_NUMBERS ?v_ZERO ?l_ZERO ?v_HALF ?l_HALF
      (case aC_Piece => (refine Rc.v_nsIn (K1 := PySem.Challenge.cw_recutfigures_s02_why_holds.heap_1 w.params) ?_ ?_; k_is; kernel_rfl))
      (case aC_Part => (refine Rc.v_nsIn (K1 := PySem.Challenge.cw_recutfigures_s02_why_holds.heap_1 w.params) ?_ ?_; k_is; kernel_rfl))
      (case a1 => (refine Rc.v_nsIn (K1 := PySem.Challenge.cw_recutfigures_s02_why_holds.heap_1 w.params) ?_ ?_; k_is; kernel_rfl))
      (case l1 => (refine Rc.v_lookup (K1 := PySem.Challenge.cw_recutfigures_s02_why_holds.heap_1 w.params) ?_ ?_; k_is; kernel_rfl))
      (case c1 => (refine Rc.v_codeIn (K1 := PySem.Challenge.cw_recutfigures_s02_why_holds.heap_1 w.params) ?_ ?_; k_is; kernel_rfl))
      (case k1 => (refine Rc.v_keepIn (K1 := PySem.Challenge.cw_recutfigures_s02_why_holds.heap_1 w.params) ?_ ?_; k_is; kernel_rfl))
      (case a2 => (refine Rc.v_nsIn (K1 := PySem.Challenge.cw_recutfigures_s02_why_holds.heap_1 w.params) ?_ ?_; k_is; kernel_rfl))
      (case l2 => (refine Rc.v_lookup (K1 := PySem.Challenge.cw_recutfigures_s02_why_holds.heap_1 w.params) ?_ ?_; k_is; kernel_rfl))
      (case c2 => (refine Rc.v_codeIn (K1 := PySem.Challenge.cw_recutfigures_s02_why_holds.heap_1 w.params) ?_ ?_; k_is; kernel_rfl))
      (case k2 => (refine Rc.v_keepIn (K1 := PySem.Challenge.cw_recutfigures_s02_why_holds.heap_1 w.params) ?_ ?_; k_is; kernel_rfl))
      (case a3 => (refine Rc.v_nsIn (K1 := PySem.Challenge.cw_recutfigures_s02_why_holds.heap_1 w.params) ?_ ?_; k_is; kernel_rfl))
      (case l3 => (refine Rc.v_lookup (K1 := PySem.Challenge.cw_recutfigures_s02_why_holds.heap_1 w.params) ?_ ?_; k_is; kernel_rfl))
      (case c3 => (refine Rc.v_codeIn (K1 := PySem.Challenge.cw_recutfigures_s02_why_holds.heap_1 w.params) ?_ ?_; k_is; kernel_rfl))
      (case k3 => (refine Rc.v_keepIn (K1 := PySem.Challenge.cw_recutfigures_s02_why_holds.heap_1 w.params) ?_ ?_; k_is; kernel_rfl))
      (case a4 => (refine Rc.v_nsIn (K1 := PySem.Challenge.cw_recutfigures_s02_why_holds.heap_1 w.params) ?_ ?_; k_is; kernel_rfl))
      (case l4 => (refine Rc.v_lookup (K1 := PySem.Challenge.cw_recutfigures_s02_why_holds.heap_1 w.params) ?_ ?_; k_is; kernel_rfl))
      (case c4 => (refine Rc.v_codeIn (K1 := PySem.Challenge.cw_recutfigures_s02_why_holds.heap_1 w.params) ?_ ?_; k_is; kernel_rfl))
      (case k4 => (refine Rc.v_keepIn (K1 := PySem.Challenge.cw_recutfigures_s02_why_holds.heap_1 w.params) ?_ ?_; k_is; kernel_rfl))
      (case a5 => (refine Rc.v_nsIn (K1 := PySem.Challenge.cw_recutfigures_s02_why_holds.heap_1 w.params) ?_ ?_; k_is; kernel_rfl))
      (case l5 => (refine Rc.v_lookup (K1 := PySem.Challenge.cw_recutfigures_s02_why_holds.heap_1 w.params) ?_ ?_; k_is; kernel_rfl))
      (case c5 => (refine Rc.v_codeIn (K1 := PySem.Challenge.cw_recutfigures_s02_why_holds.heap_1 w.params) ?_ ?_; k_is; kernel_rfl))
      (case k5 => (refine Rc.v_keepIn (K1 := PySem.Challenge.cw_recutfigures_s02_why_holds.heap_1 w.params) ?_ ?_; k_is; kernel_rfl))
      (case a6 => (refine Rc.v_nsIn (K1 := PySem.Challenge.cw_recutfigures_s02_why_holds.heap_1 w.params) ?_ ?_; k_is; kernel_rfl))
      (case l6 => (refine Rc.v_lookup (K1 := PySem.Challenge.cw_recutfigures_s02_why_holds.heap_1 w.params) ?_ ?_; k_is; kernel_rfl))
      (case c6 => (refine Rc.v_codeIn (K1 := PySem.Challenge.cw_recutfigures_s02_why_holds.heap_1 w.params) ?_ ?_; k_is; kernel_rfl))
      (case k6 => (refine Rc.v_keepIn (K1 := PySem.Challenge.cw_recutfigures_s02_why_holds.heap_1 w.params) ?_ ?_; k_is; kernel_rfl))
      (case a7 => (refine Rc.v_nsIn (K1 := PySem.Challenge.cw_recutfigures_s02_why_holds.heap_1 w.params) ?_ ?_; k_is; kernel_rfl))
      (case l7 => (refine Rc.v_lookup (K1 := PySem.Challenge.cw_recutfigures_s02_why_holds.heap_1 w.params) ?_ ?_; k_is; kernel_rfl))
      (case c7 => (refine Rc.v_codeIn (K1 := PySem.Challenge.cw_recutfigures_s02_why_holds.heap_1 w.params) ?_ ?_; k_is; kernel_rfl))
      (case k7 => (refine Rc.v_keepIn (K1 := PySem.Challenge.cw_recutfigures_s02_why_holds.heap_1 w.params) ?_ ?_; k_is; kernel_rfl))
      (case a8 => (refine Rc.v_nsIn (K1 := PySem.Challenge.cw_recutfigures_s02_why_holds.heap_1 w.params) ?_ ?_; k_is; kernel_rfl))
      (case l8 => (refine Rc.v_lookup (K1 := PySem.Challenge.cw_recutfigures_s02_why_holds.heap_1 w.params) ?_ ?_; k_is; kernel_rfl))
      (case c8 => (refine Rc.v_codeIn (K1 := PySem.Challenge.cw_recutfigures_s02_why_holds.heap_1 w.params) ?_ ?_; k_is; kernel_rfl))
      (case k8 => (refine Rc.v_keepIn (K1 := PySem.Challenge.cw_recutfigures_s02_why_holds.heap_1 w.params) ?_ ?_; k_is; kernel_rfl))
      (case a9 => (refine Rc.v_nsIn (K1 := PySem.Challenge.cw_recutfigures_s02_why_holds.heap_1 w.params) ?_ ?_; k_is; kernel_rfl))
      (case l9 => (refine Rc.v_lookup (K1 := PySem.Challenge.cw_recutfigures_s02_why_holds.heap_1 w.params) ?_ ?_; k_is; kernel_rfl))
      (case c9 => (refine Rc.v_codeIn (K1 := PySem.Challenge.cw_recutfigures_s02_why_holds.heap_1 w.params) ?_ ?_; k_is; kernel_rfl))
      (case k9 => (refine Rc.v_keepIn (K1 := PySem.Challenge.cw_recutfigures_s02_why_holds.heap_1 w.params) ?_ ?_; k_is; kernel_rfl))
      (case a10 => (refine Rc.v_nsIn (K1 := PySem.Challenge.cw_recutfigures_s02_why_holds.heap_1 w.params) ?_ ?_; k_is; kernel_rfl))
      (case l10 => (refine Rc.v_lookup (K1 := PySem.Challenge.cw_recutfigures_s02_why_holds.heap_1 w.params) ?_ ?_; k_is; kernel_rfl))
      (case c10 => (refine Rc.v_codeIn (K1 := PySem.Challenge.cw_recutfigures_s02_why_holds.heap_1 w.params) ?_ ?_; k_is; kernel_rfl))
      (case k10 => (refine Rc.v_keepIn (K1 := PySem.Challenge.cw_recutfigures_s02_why_holds.heap_1 w.params) ?_ ?_; k_is; kernel_rfl))
      (case a11 => (refine Rc.v_nsIn (K1 := PySem.Challenge.cw_recutfigures_s02_why_holds.heap_1 w.params) ?_ ?_; k_is; kernel_rfl))
      (case l11 => (refine Rc.v_lookup (K1 := PySem.Challenge.cw_recutfigures_s02_why_holds.heap_1 w.params) ?_ ?_; k_is; kernel_rfl))
      (case c11 => (refine Rc.v_codeIn (K1 := PySem.Challenge.cw_recutfigures_s02_why_holds.heap_1 w.params) ?_ ?_; k_is; kernel_rfl))
      (case k11 => (refine Rc.v_keepIn (K1 := PySem.Challenge.cw_recutfigures_s02_why_holds.heap_1 w.params) ?_ ?_; k_is; kernel_rfl))
      (case a12 => (refine Rc.v_nsIn (K1 := PySem.Challenge.cw_recutfigures_s02_why_holds.heap_1 w.params) ?_ ?_; k_is; kernel_rfl))
      (case l12 => (refine Rc.v_lookup (K1 := PySem.Challenge.cw_recutfigures_s02_why_holds.heap_1 w.params) ?_ ?_; k_is; kernel_rfl))
      (case c12 => (refine Rc.v_codeIn (K1 := PySem.Challenge.cw_recutfigures_s02_why_holds.heap_1 w.params) ?_ ?_; k_is; kernel_rfl))
      (case k12 => (refine Rc.v_keepIn (K1 := PySem.Challenge.cw_recutfigures_s02_why_holds.heap_1 w.params) ?_ ?_; k_is; kernel_rfl))
      (case a13 => (refine Rc.v_findIn (K1 := PySem.Challenge.cw_recutfigures_s02_why_holds.heap_1 w.params) ?_ ?_; k_is; kernel_rfl))
      (case i13 => (refine Rc.v_isFn (K1 := PySem.Challenge.cw_recutfigures_s02_why_holds.heap_1 w.params) ?_ ?_; k_is; kernel_rfl))
      (case l13 => (refine Rc.v_lookup (K1 := PySem.Challenge.cw_recutfigures_s02_why_holds.heap_1 w.params) ?_ ?_; k_is; kernel_rfl))
      (case c13 => (refine Rc.v_codeIn (K1 := PySem.Challenge.cw_recutfigures_s02_why_holds.heap_1 w.params) ?_ ?_; k_is; kernel_rfl))
      (case k13 => (refine Rc.v_keepIn (K1 := PySem.Challenge.cw_recutfigures_s02_why_holds.heap_1 w.params) ?_ ?_; k_is; kernel_rfl))
      (case a14 => (refine Rc.v_nsIn (K1 := PySem.Challenge.cw_recutfigures_s02_why_holds.heap_1 w.params) ?_ ?_; k_is; kernel_rfl))
      (case l14 => (refine Rc.v_lookup (K1 := PySem.Challenge.cw_recutfigures_s02_why_holds.heap_1 w.params) ?_ ?_; k_is; kernel_rfl))
      (case c14 => (refine Rc.v_codeIn (K1 := PySem.Challenge.cw_recutfigures_s02_why_holds.heap_1 w.params) ?_ ?_; k_is; kernel_rfl))
      (case k14 => (refine Rc.v_keepIn (K1 := PySem.Challenge.cw_recutfigures_s02_why_holds.heap_1 w.params) ?_ ?_; k_is; kernel_rfl))
      (case a15 => (refine Rc.v_nsIn (K1 := PySem.Challenge.cw_recutfigures_s02_why_holds.heap_1 w.params) ?_ ?_; k_is; kernel_rfl))
      (case l15 => (refine Rc.v_lookup (K1 := PySem.Challenge.cw_recutfigures_s02_why_holds.heap_1 w.params) ?_ ?_; k_is; kernel_rfl))
      (case c15 => (refine Rc.v_codeIn (K1 := PySem.Challenge.cw_recutfigures_s02_why_holds.heap_1 w.params) ?_ ?_; k_is; kernel_rfl))
      (case k15 => (refine Rc.v_keepIn (K1 := PySem.Challenge.cw_recutfigures_s02_why_holds.heap_1 w.params) ?_ ?_; k_is; kernel_rfl))
      (case a16 => (refine Rc.v_nsIn (K1 := PySem.Challenge.cw_recutfigures_s02_why_holds.heap_1 w.params) ?_ ?_; k_is; kernel_rfl))
      (case l16 => (refine Rc.v_lookup (K1 := PySem.Challenge.cw_recutfigures_s02_why_holds.heap_1 w.params) ?_ ?_; k_is; kernel_rfl))
      (case c16 => (refine Rc.v_codeIn (K1 := PySem.Challenge.cw_recutfigures_s02_why_holds.heap_1 w.params) ?_ ?_; k_is; kernel_rfl))
      (case k16 => (refine Rc.v_keepIn (K1 := PySem.Challenge.cw_recutfigures_s02_why_holds.heap_1 w.params) ?_ ?_; k_is; kernel_rfl))
      (case a17 => (refine Rc.v_nsIn (K1 := PySem.Challenge.cw_recutfigures_s02_why_holds.heap_1 w.params) ?_ ?_; k_is; kernel_rfl))
      (case l17 => (refine Rc.v_lookup (K1 := PySem.Challenge.cw_recutfigures_s02_why_holds.heap_1 w.params) ?_ ?_; k_is; kernel_rfl))
      (case c17 => (refine Rc.v_codeIn (K1 := PySem.Challenge.cw_recutfigures_s02_why_holds.heap_1 w.params) ?_ ?_; k_is; kernel_rfl))
      (case k17 => (refine Rc.v_keepIn (K1 := PySem.Challenge.cw_recutfigures_s02_why_holds.heap_1 w.params) ?_ ?_; k_is; kernel_rfl))
      (case a18 => (refine Rc.v_findIn (K1 := PySem.Challenge.cw_recutfigures_s02_why_holds.heap_1 w.params) ?_ ?_; k_is; kernel_rfl))
      (case i18 => (refine Rc.v_isFn (K1 := PySem.Challenge.cw_recutfigures_s02_why_holds.heap_1 w.params) ?_ ?_; k_is; kernel_rfl))
      (case l18 => (refine Rc.v_lookup (K1 := PySem.Challenge.cw_recutfigures_s02_why_holds.heap_1 w.params) ?_ ?_; k_is; kernel_rfl))
      (case c18 => (refine Rc.v_codeIn (K1 := PySem.Challenge.cw_recutfigures_s02_why_holds.heap_1 w.params) ?_ ?_; k_is; kernel_rfl))
      (case k18 => (refine Rc.v_keepIn (K1 := PySem.Challenge.cw_recutfigures_s02_why_holds.heap_1 w.params) ?_ ?_; k_is; kernel_rfl))
      (case a19 => (refine Rc.v_nsIn (K1 := PySem.Challenge.cw_recutfigures_s02_why_holds.heap_1 w.params) ?_ ?_; k_is; kernel_rfl))
      (case l19 => (refine Rc.v_lookup (K1 := PySem.Challenge.cw_recutfigures_s02_why_holds.heap_1 w.params) ?_ ?_; k_is; kernel_rfl))
      (case c19 => (refine Rc.v_codeIn (K1 := PySem.Challenge.cw_recutfigures_s02_why_holds.heap_1 w.params) ?_ ?_; k_is; kernel_rfl))
      (case k19 => (refine Rc.v_keepIn (K1 := PySem.Challenge.cw_recutfigures_s02_why_holds.heap_1 w.params) ?_ ?_; k_is; kernel_rfl))
      (case a20 => (refine Rc.v_nsIn (K1 := PySem.Challenge.cw_recutfigures_s02_why_holds.heap_1 w.params) ?_ ?_; k_is; kernel_rfl))
      (case l20 => (refine Rc.v_lookup (K1 := PySem.Challenge.cw_recutfigures_s02_why_holds.heap_1 w.params) ?_ ?_; k_is; kernel_rfl))
      (case c20 => (refine Rc.v_codeIn (K1 := PySem.Challenge.cw_recutfigures_s02_why_holds.heap_1 w.params) ?_ ?_; k_is; kernel_rfl))
      (case k20 => (refine Rc.v_keepIn (K1 := PySem.Challenge.cw_recutfigures_s02_why_holds.heap_1 w.params) ?_ ?_; k_is; kernel_rfl))
      (case a21 => (refine Rc.v_nsIn (K1 := PySem.Challenge.cw_recutfigures_s02_why_holds.heap_1 w.params) ?_ ?_; k_is; kernel_rfl))
      (case l21 => (refine Rc.v_lookup (K1 := PySem.Challenge.cw_recutfigures_s02_why_holds.heap_1 w.params) ?_ ?_; k_is; kernel_rfl))
      (case c21 => (refine Rc.v_codeIn (K1 := PySem.Challenge.cw_recutfigures_s02_why_holds.heap_1 w.params) ?_ ?_; k_is; kernel_rfl))
      (case k21 => (refine Rc.v_keepIn (K1 := PySem.Challenge.cw_recutfigures_s02_why_holds.heap_1 w.params) ?_ ?_; k_is; kernel_rfl))
      (case a22 => (refine Rc.v_nsIn (K1 := PySem.Challenge.cw_recutfigures_s02_why_holds.heap_1 w.params) ?_ ?_; k_is; kernel_rfl))
      (case l22 => (refine Rc.v_lookup (K1 := PySem.Challenge.cw_recutfigures_s02_why_holds.heap_1 w.params) ?_ ?_; k_is; kernel_rfl))
      (case c22 => (refine Rc.v_codeIn (K1 := PySem.Challenge.cw_recutfigures_s02_why_holds.heap_1 w.params) ?_ ?_; k_is; kernel_rfl))
      (case k22 => (refine Rc.v_keepIn (K1 := PySem.Challenge.cw_recutfigures_s02_why_holds.heap_1 w.params) ?_ ?_; k_is; kernel_rfl))
      (case a23 => (refine Rc.v_nsIn (K1 := PySem.Challenge.cw_recutfigures_s02_why_holds.heap_1 w.params) ?_ ?_; k_is; kernel_rfl))
      (case l23 => (refine Rc.v_lookup (K1 := PySem.Challenge.cw_recutfigures_s02_why_holds.heap_1 w.params) ?_ ?_; k_is; kernel_rfl))
      (case c23 => (refine Rc.v_codeIn (K1 := PySem.Challenge.cw_recutfigures_s02_why_holds.heap_1 w.params) ?_ ?_; k_is; kernel_rfl))
      (case k23 => (refine Rc.v_keepIn (K1 := PySem.Challenge.cw_recutfigures_s02_why_holds.heap_1 w.params) ?_ ?_; k_is; kernel_rfl))
      (case a24 => (refine Rc.v_nsIn (K1 := PySem.Challenge.cw_recutfigures_s02_why_holds.heap_1 w.params) ?_ ?_; k_is; kernel_rfl))
      (case l24 => (refine Rc.v_lookup (K1 := PySem.Challenge.cw_recutfigures_s02_why_holds.heap_1 w.params) ?_ ?_; k_is; kernel_rfl))
      (case c24 => (refine Rc.v_codeIn (K1 := PySem.Challenge.cw_recutfigures_s02_why_holds.heap_1 w.params) ?_ ?_; k_is; kernel_rfl))
      (case k24 => (refine Rc.v_keepIn (K1 := PySem.Challenge.cw_recutfigures_s02_why_holds.heap_1 w.params) ?_ ?_; k_is; kernel_rfl))
      (case a25 => (refine Rc.v_nsIn (K1 := PySem.Challenge.cw_recutfigures_s02_why_holds.heap_1 w.params) ?_ ?_; k_is; kernel_rfl))
      (case l25 => (refine Rc.v_lookup (K1 := PySem.Challenge.cw_recutfigures_s02_why_holds.heap_1 w.params) ?_ ?_; k_is; kernel_rfl))
      (case c25 => (refine Rc.v_codeIn (K1 := PySem.Challenge.cw_recutfigures_s02_why_holds.heap_1 w.params) ?_ ?_; k_is; kernel_rfl))
      (case k25 => (refine Rc.v_keepIn (K1 := PySem.Challenge.cw_recutfigures_s02_why_holds.heap_1 w.params) ?_ ?_; k_is; kernel_rfl))
      (case a26 => (refine Rc.v_nsIn (K1 := PySem.Challenge.cw_recutfigures_s02_why_holds.heap_1 w.params) ?_ ?_; k_is; kernel_rfl))
      (case l26 => (refine Rc.v_lookup (K1 := PySem.Challenge.cw_recutfigures_s02_why_holds.heap_1 w.params) ?_ ?_; k_is; kernel_rfl))
      (case c26 => (refine Rc.v_codeIn (K1 := PySem.Challenge.cw_recutfigures_s02_why_holds.heap_1 w.params) ?_ ?_; k_is; kernel_rfl))
      (case k26 => (refine Rc.v_keepIn (K1 := PySem.Challenge.cw_recutfigures_s02_why_holds.heap_1 w.params) ?_ ?_; k_is; kernel_rfl))
      (case a27 => (refine Rc.v_nsIn (K1 := PySem.Challenge.cw_recutfigures_s02_why_holds.heap_1 w.params) ?_ ?_; k_is; kernel_rfl))
      (case l27 => (refine Rc.v_lookup (K1 := PySem.Challenge.cw_recutfigures_s02_why_holds.heap_1 w.params) ?_ ?_; k_is; kernel_rfl))
      (case c27 => (refine Rc.v_codeIn (K1 := PySem.Challenge.cw_recutfigures_s02_why_holds.heap_1 w.params) ?_ ?_; k_is; kernel_rfl))
      (case k27 => (refine Rc.v_keepIn (K1 := PySem.Challenge.cw_recutfigures_s02_why_holds.heap_1 w.params) ?_ ?_; k_is; kernel_rfl))
      (case a28 => (refine Rc.v_nsIn (K1 := PySem.Challenge.cw_recutfigures_s02_why_holds.heap_1 w.params) ?_ ?_; k_is; kernel_rfl))
      (case l28 => (refine Rc.v_lookup (K1 := PySem.Challenge.cw_recutfigures_s02_why_holds.heap_1 w.params) ?_ ?_; k_is; kernel_rfl))
      (case c28 => (refine Rc.v_codeIn (K1 := PySem.Challenge.cw_recutfigures_s02_why_holds.heap_1 w.params) ?_ ?_; k_is; kernel_rfl))
      (case k28 => (refine Rc.v_keepIn (K1 := PySem.Challenge.cw_recutfigures_s02_why_holds.heap_1 w.params) ?_ ?_; k_is; kernel_rfl))
      (case a29 => (refine Rc.v_nsIn (K1 := PySem.Challenge.cw_recutfigures_s02_why_holds.heap_1 w.params) ?_ ?_; k_is; kernel_rfl))
      (case l29 => (refine Rc.v_lookup (K1 := PySem.Challenge.cw_recutfigures_s02_why_holds.heap_1 w.params) ?_ ?_; k_is; kernel_rfl))
      (case c29 => (refine Rc.v_codeIn (K1 := PySem.Challenge.cw_recutfigures_s02_why_holds.heap_1 w.params) ?_ ?_; k_is; kernel_rfl))
      (case k29 => (refine Rc.v_keepIn (K1 := PySem.Challenge.cw_recutfigures_s02_why_holds.heap_1 w.params) ?_ ?_; k_is; kernel_rfl))
      (case a30 => (refine Rc.v_nsIn (K1 := PySem.Challenge.cw_recutfigures_s02_why_holds.heap_1 w.params) ?_ ?_; k_is; kernel_rfl))
      (case l30 => (refine Rc.v_lookup (K1 := PySem.Challenge.cw_recutfigures_s02_why_holds.heap_1 w.params) ?_ ?_; k_is; kernel_rfl))
      (case c30 => (refine Rc.v_codeIn (K1 := PySem.Challenge.cw_recutfigures_s02_why_holds.heap_1 w.params) ?_ ?_; k_is; kernel_rfl))
      (case k30 => (refine Rc.v_keepIn (K1 := PySem.Challenge.cw_recutfigures_s02_why_holds.heap_1 w.params) ?_ ?_; k_is; kernel_rfl))
      (case a31 => (refine Rc.v_nsIn (K1 := PySem.Challenge.cw_recutfigures_s02_why_holds.heap_1 w.params) ?_ ?_; k_is; kernel_rfl))
      (case l31 => (refine Rc.v_lookup (K1 := PySem.Challenge.cw_recutfigures_s02_why_holds.heap_1 w.params) ?_ ?_; k_is; kernel_rfl))
      (case c31 => (refine Rc.v_codeIn (K1 := PySem.Challenge.cw_recutfigures_s02_why_holds.heap_1 w.params) ?_ ?_; k_is; kernel_rfl))
      (case k31 => (refine Rc.v_keepIn (K1 := PySem.Challenge.cw_recutfigures_s02_why_holds.heap_1 w.params) ?_ ?_; k_is; kernel_rfl))
      (case a32 => (refine Rc.v_nsIn (K1 := PySem.Challenge.cw_recutfigures_s02_why_holds.heap_1 w.params) ?_ ?_; k_is; kernel_rfl))
      (case l32 => (refine Rc.v_lookup (K1 := PySem.Challenge.cw_recutfigures_s02_why_holds.heap_1 w.params) ?_ ?_; k_is; kernel_rfl))
      (case c32 => (refine Rc.v_codeIn (K1 := PySem.Challenge.cw_recutfigures_s02_why_holds.heap_1 w.params) ?_ ?_; k_is; kernel_rfl))
      (case k32 => (refine Rc.v_keepIn (K1 := PySem.Challenge.cw_recutfigures_s02_why_holds.heap_1 w.params) ?_ ?_; k_is; kernel_rfl))
      (case a33 => (refine Rc.v_nsIn (K1 := PySem.Challenge.cw_recutfigures_s02_why_holds.heap_1 w.params) ?_ ?_; k_is; kernel_rfl))
      (case l33 => (refine Rc.v_lookup (K1 := PySem.Challenge.cw_recutfigures_s02_why_holds.heap_1 w.params) ?_ ?_; k_is; kernel_rfl))
      (case c33 => (refine Rc.v_codeIn (K1 := PySem.Challenge.cw_recutfigures_s02_why_holds.heap_1 w.params) ?_ ?_; k_is; kernel_rfl))
      (case k33 => (refine Rc.v_keepIn (K1 := PySem.Challenge.cw_recutfigures_s02_why_holds.heap_1 w.params) ?_ ?_; k_is; kernel_rfl))
      (case a34 => (refine Rc.v_nsIn (K1 := PySem.Challenge.cw_recutfigures_s02_why_holds.heap_1 w.params) ?_ ?_; k_is; kernel_rfl))
      (case l34 => (refine Rc.v_lookup (K1 := PySem.Challenge.cw_recutfigures_s02_why_holds.heap_1 w.params) ?_ ?_; k_is; kernel_rfl))
      (case c34 => (refine Rc.v_codeIn (K1 := PySem.Challenge.cw_recutfigures_s02_why_holds.heap_1 w.params) ?_ ?_; k_is; kernel_rfl))
      (case k34 => (refine Rc.v_keepIn (K1 := PySem.Challenge.cw_recutfigures_s02_why_holds.heap_1 w.params) ?_ ?_; k_is; kernel_rfl))
      (case a35 => (refine Rc.v_nsIn (K1 := PySem.Challenge.cw_recutfigures_s02_why_holds.heap_1 w.params) ?_ ?_; k_is; kernel_rfl))
      (case l35 => (refine Rc.v_lookup (K1 := PySem.Challenge.cw_recutfigures_s02_why_holds.heap_1 w.params) ?_ ?_; k_is; kernel_rfl))
      (case c35 => (refine Rc.v_codeIn (K1 := PySem.Challenge.cw_recutfigures_s02_why_holds.heap_1 w.params) ?_ ?_; k_is; kernel_rfl))
      (case k35 => (refine Rc.v_keepIn (K1 := PySem.Challenge.cw_recutfigures_s02_why_holds.heap_1 w.params) ?_ ?_; k_is; kernel_rfl))
      (case a36 => (refine Rc.v_nsIn (K1 := PySem.Challenge.cw_recutfigures_s02_why_holds.heap_1 w.params) ?_ ?_; k_is; kernel_rfl))
      (case l36 => (refine Rc.v_lookup (K1 := PySem.Challenge.cw_recutfigures_s02_why_holds.heap_1 w.params) ?_ ?_; k_is; kernel_rfl))
      (case c36 => (refine Rc.v_codeIn (K1 := PySem.Challenge.cw_recutfigures_s02_why_holds.heap_1 w.params) ?_ ?_; k_is; kernel_rfl))
      (case k36 => (refine Rc.v_keepIn (K1 := PySem.Challenge.cw_recutfigures_s02_why_holds.heap_1 w.params) ?_ ?_; k_is; kernel_rfl))
      (case a37 => (refine Rc.v_nsIn (K1 := PySem.Challenge.cw_recutfigures_s02_why_holds.heap_1 w.params) ?_ ?_; k_is; kernel_rfl))
      (case l37 => (refine Rc.v_lookup (K1 := PySem.Challenge.cw_recutfigures_s02_why_holds.heap_1 w.params) ?_ ?_; k_is; kernel_rfl))
      (case c37 => (refine Rc.v_codeIn (K1 := PySem.Challenge.cw_recutfigures_s02_why_holds.heap_1 w.params) ?_ ?_; k_is; kernel_rfl))
      (case k37 => (refine Rc.v_keepIn (K1 := PySem.Challenge.cw_recutfigures_s02_why_holds.heap_1 w.params) ?_ ?_; k_is; kernel_rfl))
      (case a38 => (refine Rc.v_nsIn (K1 := PySem.Challenge.cw_recutfigures_s02_why_holds.heap_1 w.params) ?_ ?_; k_is; kernel_rfl))
      (case l38 => (refine Rc.v_lookup (K1 := PySem.Challenge.cw_recutfigures_s02_why_holds.heap_1 w.params) ?_ ?_; k_is; kernel_rfl))
      (case c38 => (refine Rc.v_codeIn (K1 := PySem.Challenge.cw_recutfigures_s02_why_holds.heap_1 w.params) ?_ ?_; k_is; kernel_rfl))
      (case k38 => (refine Rc.v_keepIn (K1 := PySem.Challenge.cw_recutfigures_s02_why_holds.heap_1 w.params) ?_ ?_; k_is; kernel_rfl))
      (case a39 => (refine Rc.v_nsIn (K1 := PySem.Challenge.cw_recutfigures_s02_why_holds.heap_1 w.params) ?_ ?_; k_is; kernel_rfl))
      (case l39 => (refine Rc.v_lookup (K1 := PySem.Challenge.cw_recutfigures_s02_why_holds.heap_1 w.params) ?_ ?_; k_is; kernel_rfl))
      (case c39 => (refine Rc.v_codeIn (K1 := PySem.Challenge.cw_recutfigures_s02_why_holds.heap_1 w.params) ?_ ?_; k_is; kernel_rfl))
      (case k39 => (refine Rc.v_keepIn (K1 := PySem.Challenge.cw_recutfigures_s02_why_holds.heap_1 w.params) ?_ ?_; k_is; kernel_rfl))
      (case a40 => (refine Rc.v_nsIn (K1 := PySem.Challenge.cw_recutfigures_s02_why_holds.heap_1 w.params) ?_ ?_; k_is; kernel_rfl))
      (case l40 => (refine Rc.v_lookup (K1 := PySem.Challenge.cw_recutfigures_s02_why_holds.heap_1 w.params) ?_ ?_; k_is; kernel_rfl))
      (case c40 => (refine Rc.v_codeIn (K1 := PySem.Challenge.cw_recutfigures_s02_why_holds.heap_1 w.params) ?_ ?_; k_is; kernel_rfl))
      (case k40 => (refine Rc.v_keepIn (K1 := PySem.Challenge.cw_recutfigures_s02_why_holds.heap_1 w.params) ?_ ?_; k_is; kernel_rfl))
      (case a41 => (refine Rc.v_nsIn (K1 := PySem.Challenge.cw_recutfigures_s02_why_holds.heap_1 w.params) ?_ ?_; k_is; kernel_rfl))
      (case l41 => (refine Rc.v_lookup (K1 := PySem.Challenge.cw_recutfigures_s02_why_holds.heap_1 w.params) ?_ ?_; k_is; kernel_rfl))
      (case c41 => (refine Rc.v_codeIn (K1 := PySem.Challenge.cw_recutfigures_s02_why_holds.heap_1 w.params) ?_ ?_; k_is; kernel_rfl))
      (case k41 => (refine Rc.v_keepIn (K1 := PySem.Challenge.cw_recutfigures_s02_why_holds.heap_1 w.params) ?_ ?_; k_is; kernel_rfl))
      (case a42 => (refine Rc.v_nsIn (K1 := PySem.Challenge.cw_recutfigures_s02_why_holds.heap_1 w.params) ?_ ?_; k_is; kernel_rfl))
      (case l42 => (refine Rc.v_lookup (K1 := PySem.Challenge.cw_recutfigures_s02_why_holds.heap_1 w.params) ?_ ?_; k_is; kernel_rfl))
      (case c42 => (refine Rc.v_codeIn (K1 := PySem.Challenge.cw_recutfigures_s02_why_holds.heap_1 w.params) ?_ ?_; k_is; kernel_rfl))
      (case k42 => (refine Rc.v_keepIn (K1 := PySem.Challenge.cw_recutfigures_s02_why_holds.heap_1 w.params) ?_ ?_; k_is; kernel_rfl))
      (case a43 => (refine Rc.v_nsIn (K1 := PySem.Challenge.cw_recutfigures_s02_why_holds.heap_1 w.params) ?_ ?_; k_is; kernel_rfl))
      (case l43 => (refine Rc.v_lookup (K1 := PySem.Challenge.cw_recutfigures_s02_why_holds.heap_1 w.params) ?_ ?_; k_is; kernel_rfl))
      (case c43 => (refine Rc.v_codeIn (K1 := PySem.Challenge.cw_recutfigures_s02_why_holds.heap_1 w.params) ?_ ?_; k_is; kernel_rfl))
      (case k43 => (refine Rc.v_keepIn (K1 := PySem.Challenge.cw_recutfigures_s02_why_holds.heap_1 w.params) ?_ ?_; k_is; kernel_rfl))
      (case a44 => (refine Rc.v_nsIn (K1 := PySem.Challenge.cw_recutfigures_s02_why_holds.heap_1 w.params) ?_ ?_; k_is; kernel_rfl))
      (case l44 => (refine Rc.v_lookup (K1 := PySem.Challenge.cw_recutfigures_s02_why_holds.heap_1 w.params) ?_ ?_; k_is; kernel_rfl))
      (case c44 => (refine Rc.v_codeIn (K1 := PySem.Challenge.cw_recutfigures_s02_why_holds.heap_1 w.params) ?_ ?_; k_is; kernel_rfl))
      (case k44 => (refine Rc.v_keepIn (K1 := PySem.Challenge.cw_recutfigures_s02_why_holds.heap_1 w.params) ?_ ?_; k_is; kernel_rfl))
      (case a45 => (refine Rc.v_nsIn (K1 := PySem.Challenge.cw_recutfigures_s02_why_holds.heap_1 w.params) ?_ ?_; k_is; kernel_rfl))
      (case l45 => (refine Rc.v_lookup (K1 := PySem.Challenge.cw_recutfigures_s02_why_holds.heap_1 w.params) ?_ ?_; k_is; kernel_rfl))
      (case c45 => (refine Rc.v_codeIn (K1 := PySem.Challenge.cw_recutfigures_s02_why_holds.heap_1 w.params) ?_ ?_; k_is; kernel_rfl))
      (case k45 => (refine Rc.v_keepIn (K1 := PySem.Challenge.cw_recutfigures_s02_why_holds.heap_1 w.params) ?_ ?_; k_is; kernel_rfl))
      (case a46 => (refine Rc.v_nsIn (K1 := PySem.Challenge.cw_recutfigures_s02_why_holds.heap_1 w.params) ?_ ?_; k_is; kernel_rfl))
      (case l46 => (refine Rc.v_lookup (K1 := PySem.Challenge.cw_recutfigures_s02_why_holds.heap_1 w.params) ?_ ?_; k_is; kernel_rfl))
      (case c46 => (refine Rc.v_codeIn (K1 := PySem.Challenge.cw_recutfigures_s02_why_holds.heap_1 w.params) ?_ ?_; k_is; kernel_rfl))
      (case k46 => (refine Rc.v_keepIn (K1 := PySem.Challenge.cw_recutfigures_s02_why_holds.heap_1 w.params) ?_ ?_; k_is; kernel_rfl))
      (case a47 => (refine Rc.v_nsIn (K1 := PySem.Challenge.cw_recutfigures_s02_why_holds.heap_1 w.params) ?_ ?_; k_is; kernel_rfl))
      (case l47 => (refine Rc.v_lookup (K1 := PySem.Challenge.cw_recutfigures_s02_why_holds.heap_1 w.params) ?_ ?_; k_is; kernel_rfl))
      (case c47 => (refine Rc.v_codeIn (K1 := PySem.Challenge.cw_recutfigures_s02_why_holds.heap_1 w.params) ?_ ?_; k_is; kernel_rfl))
      (case k47 => (refine Rc.v_keepIn (K1 := PySem.Challenge.cw_recutfigures_s02_why_holds.heap_1 w.params) ?_ ?_; k_is; kernel_rfl))
      (case a48 => (refine Rc.v_nsIn (K1 := PySem.Challenge.cw_recutfigures_s02_why_holds.heap_1 w.params) ?_ ?_; k_is; kernel_rfl))
      (case l48 => (refine Rc.v_lookup (K1 := PySem.Challenge.cw_recutfigures_s02_why_holds.heap_1 w.params) ?_ ?_; k_is; kernel_rfl))
      (case c48 => (refine Rc.v_codeIn (K1 := PySem.Challenge.cw_recutfigures_s02_why_holds.heap_1 w.params) ?_ ?_; k_is; kernel_rfl))
      (case k48 => (refine Rc.v_keepIn (K1 := PySem.Challenge.cw_recutfigures_s02_why_holds.heap_1 w.params) ?_ ?_; k_is; kernel_rfl))
      (case a49 => (refine Rc.v_nsIn (K1 := PySem.Challenge.cw_recutfigures_s02_why_holds.heap_1 w.params) ?_ ?_; k_is; kernel_rfl))
      (case l49 => (refine Rc.v_lookup (K1 := PySem.Challenge.cw_recutfigures_s02_why_holds.heap_1 w.params) ?_ ?_; k_is; kernel_rfl))
      (case c49 => (refine Rc.v_codeIn (K1 := PySem.Challenge.cw_recutfigures_s02_why_holds.heap_1 w.params) ?_ ?_; k_is; kernel_rfl))
      (case k49 => (refine Rc.v_keepIn (K1 := PySem.Challenge.cw_recutfigures_s02_why_holds.heap_1 w.params) ?_ ?_; k_is; kernel_rfl))
      (case a50 => (refine Rc.v_nsIn (K1 := PySem.Challenge.cw_recutfigures_s02_why_holds.heap_1 w.params) ?_ ?_; k_is; kernel_rfl))
      (case l50 => (refine Rc.v_lookup (K1 := PySem.Challenge.cw_recutfigures_s02_why_holds.heap_1 w.params) ?_ ?_; k_is; kernel_rfl))
      (case c50 => (refine Rc.v_codeIn (K1 := PySem.Challenge.cw_recutfigures_s02_why_holds.heap_1 w.params) ?_ ?_; k_is; kernel_rfl))
      (case k50 => (refine Rc.v_keepIn (K1 := PySem.Challenge.cw_recutfigures_s02_why_holds.heap_1 w.params) ?_ ?_; k_is; kernel_rfl))
      (case a51 => (refine Rc.v_nsIn (K1 := PySem.Challenge.cw_recutfigures_s02_why_holds.heap_1 w.params) ?_ ?_; k_is; kernel_rfl))
      (case l51 => (refine Rc.v_lookup (K1 := PySem.Challenge.cw_recutfigures_s02_why_holds.heap_1 w.params) ?_ ?_; k_is; kernel_rfl))
      (case c51 => (refine Rc.v_codeIn (K1 := PySem.Challenge.cw_recutfigures_s02_why_holds.heap_1 w.params) ?_ ?_; k_is; kernel_rfl))
      (case k51 => (refine Rc.v_keepIn (K1 := PySem.Challenge.cw_recutfigures_s02_why_holds.heap_1 w.params) ?_ ?_; k_is; kernel_rfl))
      (case a52 => (refine Rc.v_nsIn (K1 := PySem.Challenge.cw_recutfigures_s02_why_holds.heap_1 w.params) ?_ ?_; k_is; kernel_rfl))
      (case l52 => (refine Rc.v_lookup (K1 := PySem.Challenge.cw_recutfigures_s02_why_holds.heap_1 w.params) ?_ ?_; k_is; kernel_rfl))
      (case c52 => (refine Rc.v_codeIn (K1 := PySem.Challenge.cw_recutfigures_s02_why_holds.heap_1 w.params) ?_ ?_; k_is; kernel_rfl))
      (case k52 => (refine Rc.v_keepIn (K1 := PySem.Challenge.cw_recutfigures_s02_why_holds.heap_1 w.params) ?_ ?_; k_is; kernel_rfl))
      (case a53 => (refine Rc.v_nsIn (K1 := PySem.Challenge.cw_recutfigures_s02_why_holds.heap_1 w.params) ?_ ?_; k_is; kernel_rfl))
      (case l53 => (refine Rc.v_lookup (K1 := PySem.Challenge.cw_recutfigures_s02_why_holds.heap_1 w.params) ?_ ?_; k_is; kernel_rfl))
      (case c53 => (refine Rc.v_codeIn (K1 := PySem.Challenge.cw_recutfigures_s02_why_holds.heap_1 w.params) ?_ ?_; k_is; kernel_rfl))
      (case k53 => (refine Rc.v_keepIn (K1 := PySem.Challenge.cw_recutfigures_s02_why_holds.heap_1 w.params) ?_ ?_; k_is; kernel_rfl))
      (case a54 => (refine Rc.v_nsIn (K1 := PySem.Challenge.cw_recutfigures_s02_why_holds.heap_1 w.params) ?_ ?_; k_is; kernel_rfl))
      (case l54 => (refine Rc.v_lookup (K1 := PySem.Challenge.cw_recutfigures_s02_why_holds.heap_1 w.params) ?_ ?_; k_is; kernel_rfl))
      (case c54 => (refine Rc.v_codeIn (K1 := PySem.Challenge.cw_recutfigures_s02_why_holds.heap_1 w.params) ?_ ?_; k_is; kernel_rfl))
      (case k54 => (refine Rc.v_keepIn (K1 := PySem.Challenge.cw_recutfigures_s02_why_holds.heap_1 w.params) ?_ ?_; k_is; kernel_rfl))
      (case a55 => (refine Rc.v_nsIn (K1 := PySem.Challenge.cw_recutfigures_s02_why_holds.heap_1 w.params) ?_ ?_; k_is; kernel_rfl))
      (case l55 => (refine Rc.v_lookup (K1 := PySem.Challenge.cw_recutfigures_s02_why_holds.heap_1 w.params) ?_ ?_; k_is; kernel_rfl))
      (case c55 => (refine Rc.v_codeIn (K1 := PySem.Challenge.cw_recutfigures_s02_why_holds.heap_1 w.params) ?_ ?_; k_is; kernel_rfl))
      (case k55 => (refine Rc.v_keepIn (K1 := PySem.Challenge.cw_recutfigures_s02_why_holds.heap_1 w.params) ?_ ?_; k_is; kernel_rfl))
      (case a56 => (refine Rc.v_findIn (K1 := PySem.Challenge.cw_recutfigures_s02_why_holds.heap_1 w.params) ?_ ?_; k_is; kernel_rfl))
      (case i56 => (refine Rc.v_isFn (K1 := PySem.Challenge.cw_recutfigures_s02_why_holds.heap_1 w.params) ?_ ?_; k_is; kernel_rfl))
      (case l56 => (refine Rc.v_lookup (K1 := PySem.Challenge.cw_recutfigures_s02_why_holds.heap_1 w.params) ?_ ?_; k_is; kernel_rfl))
      (case c56 => (refine Rc.v_codeIn (K1 := PySem.Challenge.cw_recutfigures_s02_why_holds.heap_1 w.params) ?_ ?_; k_is; kernel_rfl))
      (case k56 => (refine Rc.v_keepIn (K1 := PySem.Challenge.cw_recutfigures_s02_why_holds.heap_1 w.params) ?_ ?_; k_is; kernel_rfl))
      (case a57 => (refine Rc.v_nsIn (K1 := PySem.Challenge.cw_recutfigures_s02_why_holds.heap_1 w.params) ?_ ?_; k_is; kernel_rfl))
      (case l57 => (refine Rc.v_lookup (K1 := PySem.Challenge.cw_recutfigures_s02_why_holds.heap_1 w.params) ?_ ?_; k_is; kernel_rfl))
      (case c57 => (refine Rc.v_codeIn (K1 := PySem.Challenge.cw_recutfigures_s02_why_holds.heap_1 w.params) ?_ ?_; k_is; kernel_rfl))
      (case k57 => (refine Rc.v_keepIn (K1 := PySem.Challenge.cw_recutfigures_s02_why_holds.heap_1 w.params) ?_ ?_; k_is; kernel_rfl))
      (case a58 => (refine Rc.v_nsIn (K1 := PySem.Challenge.cw_recutfigures_s02_why_holds.heap_1 w.params) ?_ ?_; k_is; kernel_rfl))
      (case l58 => (refine Rc.v_lookup (K1 := PySem.Challenge.cw_recutfigures_s02_why_holds.heap_1 w.params) ?_ ?_; k_is; kernel_rfl))
      (case c58 => (refine Rc.v_codeIn (K1 := PySem.Challenge.cw_recutfigures_s02_why_holds.heap_1 w.params) ?_ ?_; k_is; kernel_rfl))
      (case k58 => (refine Rc.v_keepIn (K1 := PySem.Challenge.cw_recutfigures_s02_why_holds.heap_1 w.params) ?_ ?_; k_is; kernel_rfl))
      (case a59 => (refine Rc.v_nsIn (K1 := PySem.Challenge.cw_recutfigures_s02_why_holds.heap_1 w.params) ?_ ?_; k_is; kernel_rfl))
      (case l59 => (refine Rc.v_lookup (K1 := PySem.Challenge.cw_recutfigures_s02_why_holds.heap_1 w.params) ?_ ?_; k_is; kernel_rfl))
      (case c59 => (refine Rc.v_codeIn (K1 := PySem.Challenge.cw_recutfigures_s02_why_holds.heap_1 w.params) ?_ ?_; k_is; kernel_rfl))
      (case k59 => (refine Rc.v_keepIn (K1 := PySem.Challenge.cw_recutfigures_s02_why_holds.heap_1 w.params) ?_ ?_; k_is; kernel_rfl))
      (case a60 => (refine Rc.v_nsIn (K1 := PySem.Challenge.cw_recutfigures_s02_why_holds.heap_1 w.params) ?_ ?_; k_is; kernel_rfl))
      (case l60 => (refine Rc.v_lookup (K1 := PySem.Challenge.cw_recutfigures_s02_why_holds.heap_1 w.params) ?_ ?_; k_is; kernel_rfl))
      (case c60 => (refine Rc.v_codeIn (K1 := PySem.Challenge.cw_recutfigures_s02_why_holds.heap_1 w.params) ?_ ?_; k_is; kernel_rfl))
      (case k60 => (refine Rc.v_keepIn (K1 := PySem.Challenge.cw_recutfigures_s02_why_holds.heap_1 w.params) ?_ ?_; k_is; kernel_rfl))
      (case a61 => (refine Rc.v_nsIn (K1 := PySem.Challenge.cw_recutfigures_s02_why_holds.heap_1 w.params) ?_ ?_; k_is; kernel_rfl))
      (case l61 => (refine Rc.v_lookup (K1 := PySem.Challenge.cw_recutfigures_s02_why_holds.heap_1 w.params) ?_ ?_; k_is; kernel_rfl))
      (case c61 => (refine Rc.v_codeIn (K1 := PySem.Challenge.cw_recutfigures_s02_why_holds.heap_1 w.params) ?_ ?_; k_is; kernel_rfl))
      (case k61 => (refine Rc.v_keepIn (K1 := PySem.Challenge.cw_recutfigures_s02_why_holds.heap_1 w.params) ?_ ?_; k_is; kernel_rfl))
      (case pg_Piece => (refine Rc.v_plainGet (K1 := PySem.Challenge.cw_recutfigures_s02_why_holds.heap_1 w.params) ?_ ?_; k_is; kernel_rfl))
      (case hd_Piece => (refine Rc.v_hasDictIn (K1 := PySem.Challenge.cw_recutfigures_s02_why_holds.heap_1 w.params) ?_ ?_; k_is; kernel_rfl))
      (case po_Piece => (refine Rc.v_plainOver (K1 := PySem.Challenge.cw_recutfigures_s02_why_holds.heap_1 w.params) ?_ ?_; k_is; kernel_rfl))
      (case sa_Piece => (refine Rc.v_findIn (K1 := PySem.Challenge.cw_recutfigures_s02_why_holds.heap_1 w.params) ?_ ?_; k_is; kernel_rfl))
      (case mk_Piece => (refine Rc.v_makesIn (K1 := PySem.Challenge.cw_recutfigures_s02_why_holds.heap_1 w.params) ?_ ?_; k_is; kernel_rfl))
      (case kc_Piece => (refine Rc.v_keepIn (K1 := PySem.Challenge.cw_recutfigures_s02_why_holds.heap_1 w.params) ?_ ?_; k_is; kernel_rfl))
      (case pg_Part => (refine Rc.v_plainGet (K1 := PySem.Challenge.cw_recutfigures_s02_why_holds.heap_1 w.params) ?_ ?_; k_is; kernel_rfl))
      (case hd_Part => (refine Rc.v_hasDictIn (K1 := PySem.Challenge.cw_recutfigures_s02_why_holds.heap_1 w.params) ?_ ?_; k_is; kernel_rfl))
      (case po_Part => (refine Rc.v_plainOver (K1 := PySem.Challenge.cw_recutfigures_s02_why_holds.heap_1 w.params) ?_ ?_; k_is; kernel_rfl))
      (case sa_Part => (refine Rc.v_findIn (K1 := PySem.Challenge.cw_recutfigures_s02_why_holds.heap_1 w.params) ?_ ?_; k_is; kernel_rfl))
      (case mk_Part => (refine Rc.v_makesIn (K1 := PySem.Challenge.cw_recutfigures_s02_why_holds.heap_1 w.params) ?_ ?_; k_is; kernel_rfl))
      (case kc_Part => (refine Rc.v_keepIn (K1 := PySem.Challenge.cw_recutfigures_s02_why_holds.heap_1 w.params) ?_ ?_; k_is; kernel_rfl))
      (case n_corners => (refine Rc.v_findIn (K1 := PySem.Challenge.cw_recutfigures_s02_why_holds.heap_1 w.params) ?_ ?_; k_is; kernel_rfl))
      (case n_bounds => (refine Rc.v_findIn (K1 := PySem.Challenge.cw_recutfigures_s02_why_holds.heap_1 w.params) ?_ ?_; k_is; kernel_rfl))
      (case n_piece => (refine Rc.v_findIn (K1 := PySem.Challenge.cw_recutfigures_s02_why_holds.heap_1 w.params) ?_ ?_; k_is; kernel_rfl))
      (case n_move => (refine Rc.v_findIn (K1 := PySem.Challenge.cw_recutfigures_s02_why_holds.heap_1 w.params) ?_ ?_; k_is; kernel_rfl))
      (case b_len => (refine Rc.v_nsIn (K1 := PySem.Challenge.cw_recutfigures_s02_why_holds.heap_1 w.params) ?_ ?_; k_is; kernel_rfl))
      (case b_abs => (refine Rc.v_nsIn (K1 := PySem.Challenge.cw_recutfigures_s02_why_holds.heap_1 w.params) ?_ ?_; k_is; kernel_rfl))
      (case b_all => (refine Rc.v_nsIn (K1 := PySem.Challenge.cw_recutfigures_s02_why_holds.heap_1 w.params) ?_ ?_; k_is; kernel_rfl))
      (case b_any => (refine Rc.v_nsIn (K1 := PySem.Challenge.cw_recutfigures_s02_why_holds.heap_1 w.params) ?_ ?_; k_is; kernel_rfl))
      (case b_sum => (refine Rc.v_nsIn (K1 := PySem.Challenge.cw_recutfigures_s02_why_holds.heap_1 w.params) ?_ ?_; k_is; kernel_rfl))
      (case b_range => (refine Rc.v_nsIn (K1 := PySem.Challenge.cw_recutfigures_s02_why_holds.heap_1 w.params) ?_ ?_; k_is; kernel_rfl))
      (case b_enumerate => (refine Rc.v_nsIn (K1 := PySem.Challenge.cw_recutfigures_s02_why_holds.heap_1 w.params) ?_ ?_; k_is; kernel_rfl))
      (case b_int => (refine Rc.v_nsIn (K1 := PySem.Challenge.cw_recutfigures_s02_why_holds.heap_1 w.params) ?_ ?_; k_is; kernel_rfl))
      (case b_min => (refine Rc.v_nsIn (K1 := PySem.Challenge.cw_recutfigures_s02_why_holds.heap_1 w.params) ?_ ?_; k_is; kernel_rfl))
      (case b_max => (refine Rc.v_nsIn (K1 := PySem.Challenge.cw_recutfigures_s02_why_holds.heap_1 w.params) ?_ ?_; k_is; kernel_rfl))
      (case v_MOST_FAR => (refine Rc.v_nsIn (K1 := PySem.Challenge.cw_recutfigures_s02_why_holds.heap_1 w.params) ?_ ?_; k_is; kernel_rfl))
      (case v_MOST_CORNERS_figures => (refine Rc.v_nsIn (K1 := PySem.Challenge.cw_recutfigures_s02_why_holds.heap_1 w.params) ?_ ?_; k_is; kernel_rfl))
      (case v_MOST_PARTS => (refine Rc.v_nsIn (K1 := PySem.Challenge.cw_recutfigures_s02_why_holds.heap_1 w.params) ?_ ?_; k_is; kernel_rfl))
      (case v_NOT_AS_TOLD => (refine Rc.v_nsIn (K1 := PySem.Challenge.cw_recutfigures_s02_why_holds.heap_1 w.params) ?_ ?_; k_is; kernel_rfl))
      (case v_TOO_MUCH => (refine Rc.v_nsIn (K1 := PySem.Challenge.cw_recutfigures_s02_why_holds.heap_1 w.params) ?_ ?_; k_is; kernel_rfl))
      (case v_LEAST_CORNERS => (refine Rc.v_nsIn (K1 := PySem.Challenge.cw_recutfigures_s02_why_holds.heap_1 w.params) ?_ ?_; k_is; kernel_rfl))
      (case v_MOST_CORNERS_cuttings => (refine Rc.v_nsIn (K1 := PySem.Challenge.cw_recutfigures_s02_why_holds.heap_1 w.params) ?_ ?_; k_is; kernel_rfl))
      (case v_MOVE_NUMBERS => (refine Rc.v_nsIn (K1 := PySem.Challenge.cw_recutfigures_s02_why_holds.heap_1 w.params) ?_ ?_; k_is; kernel_rfl))
      (case v_ZERO => (refine Rc.v_nsIn (K1 := PySem.Challenge.cw_recutfigures_s02_why_holds.heap_1 w.params) ?_ ?_; k_is; kernel_rfl))
      (case l_ZERO => (refine Rc.v_lookup (K1 := PySem.Challenge.cw_recutfigures_s02_why_holds.heap_1 w.params) ?_ ?_; k_is; kernel_rfl))
      (case v_HALF => (refine Rc.v_nsIn (K1 := PySem.Challenge.cw_recutfigures_s02_why_holds.heap_1 w.params) ?_ ?_; k_is; kernel_rfl))
      (case l_HALF => (refine Rc.v_lookup (K1 := PySem.Challenge.cw_recutfigures_s02_why_holds.heap_1 w.params) ?_ ?_; k_is; kernel_rfl))
    exact ⟨fd, h1, fun base hK hG => h2 base hK (hS _ base KX hK) hG⟩
  case S =>
    intro K H xs a hO hwi hask hx
    cases hx with
    | cons h1 k1 =>
    cases k1 with
    | cons h2 k2 =>
    cases k2 with
    | cons h3 k3 =>
      cases k3
      cases h1 with
      | lst s1 b1 =>
      cases h2 with
      | lst s2 b2 =>
      cases h3 with
      | lst s3 b3 =>
        have e1 := L2.ints_dw a.1 _ b1
        subst e1
        have e2 := L2.ints_dw a.2.1 _ b2
        subst e2
        have e3 := L2.ints_dw a.2.2.1 _ b3
        subst e3
        have q : ((Codec.inLen 0 60 a.1 && a.1.all (Codec.inInt (-115792089237316195423570985008687907853269984665640564039457584007913129639935) 115792089237316195423570985008687907853269984665640564039457584007913129639935)) && ((Codec.inLen 0 60 a.2.1 && a.2.1.all (Codec.inInt (-115792089237316195423570985008687907853269984665640564039457584007913129639935) 115792089237316195423570985008687907853269984665640564039457584007913129639935)) && ((Codec.inLen 0 4000 a.2.2.1 && a.2.2.1.all (Codec.inInt (-115792089237316195423570985008687907853269984665640564039457584007913129639935) 115792089237316195423570985008687907853269984665640564039457584007913129639935)) && true))) = true := hwi
        rw [Bool.and_eq_true, Bool.and_eq_true, Bool.and_eq_true, Bool.and_eq_true, Bool.and_eq_true, Bool.and_eq_true] at q
        have l1 : a.1.length ≤ 60 := (Codec.inNat_iff.mp q.1.1).2
        have l2 : a.2.1.length ≤ 60 := (Codec.inNat_iff.mp q.2.1.1).2
        have l3 : a.2.2.1.length ≤ 4000 := (Codec.inNat_iff.mp q.2.2.1.1).2
        have hb : ∀ x ∈ a.2.2.1, x.natAbs < 2 ^ 256 := fun x hx => Rc.in256 (List.all_eq_true.mp q.2.2.1.2 x hx)
        refine ⟨_, _, H, ⟨a.1, a.2.1, a.2.2.1, ⟨l1, l2, l3, hb⟩, rfl, rfl⟩, fun _ _ h => h, ⟨⟨_, _, rfl, s1, Rc.Al.map (fun _ => rfl) _⟩, ⟨_, _, rfl, s2, Rc.Al.map (fun _ => rfl) _⟩, ⟨_, _, rfl, s3, Rc.Al.map (fun _ => rfl) _⟩, trivial⟩, fun v G2 H2 st hv => ?_⟩
        obtain ⟨p, vs, rfl, hp, al⟩ := hv
        have ev := Rc.al_int al
        subst ev
        have e : PyKzq3.why a.1 a.2.1 a.2.2.1 = Rc.whyF a.1 a.2.1 a.2.2.1 := Rc.why_is a.1 a.2.1 a.2.2.1 l1 l2 l3 hb
        show L2.Dw K H2 (.ref p) (WData.list ((PyKzq3.why a.1 a.2.1 a.2.2.1).map WData.int))
        rw [e]
        exact .lst (L2.SqL.of (st.i p _ hp)) (L2.dw_ints _)
#print axioms PySem.Challenge.cw_recutfigures_s02_why_holds

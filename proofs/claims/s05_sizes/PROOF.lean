import PyProof.Rows.All
import Wide.All
import OpenK.AllK
import Wide.FinOn
import Open.SpecLaws
import KE.OsGo
import HandS.ForSpec
import HandS.Comp
import HandS.Iter
import HandS.Evl
import HandS.Wide
import PySem.Challenge.RW_recutfigures_s05_sizes
set_option Elab.async false
set_option linter.all false
set_option maxRecDepth 100000
set_option maxHeartbeats 4000000
namespace Rc
open PySem L2 Evl

/-! ### descriptions that stay -/
structure Rp where
  p : V → Hp → Prop
  mono : ∀ {v : V} {H H' : Hp}, Ex H H' → p v H → p v H'
def Al : List Rp → List V → Hp → Prop
  | [], [], _ => True
  | r :: rs, v :: vs, H => r.p v H ∧ Al rs vs H
  | [], _ :: _, _ => False
  | _ :: _, [], _ => False
theorem Al.mono {H H' : Hp} (e : Ex H H') : ∀ {rs : List Rp} {vs : List V}, Al rs vs H → Al rs vs H'
  | [], [], _ => trivial
  | r :: _, _ :: _, h => ⟨r.mono e h.1, Al.mono e h.2⟩
theorem Al.len {H : Hp} : ∀ {rs : List Rp} {vs : List V}, Al rs vs H → rs.length = vs.length
  | [], [], _ => rfl
  | _ :: _, _ :: _, h => congrArg (· + 1) (Al.len h.2)
theorem Al.get {H : Hp} : ∀ {rs : List Rp} {vs : List V} {i : Nat} {r : Rp}, Al rs vs H → rs[i]? = some r → ∃ v, vs[i]? = some v ∧ r.p v H
  | r :: rs, v :: vs, 0, x, h, e => by
    have e : r = x := Option.some.inj e
    subst e
    exact ⟨v, rfl, h.1⟩
  | r :: rs, v :: vs, i + 1, x, h, e => Al.get (rs := rs) (vs := vs) (i := i) h.2 e
  | [], [], i, x, h, e => by simp at e
theorem Al.app {H : Hp} : ∀ {rs : List Rp} {vs : List V} {rs' : List Rp} {vs' : List V}, Al rs vs H → Al rs' vs' H → Al (rs ++ rs') (vs ++ vs') H
  | [], [], _, _, _, h => h
  | _ :: _, _ :: _, _, _, h, h' => ⟨h.1, Al.app h.2 h'⟩
theorem Al.take {H : Hp} : ∀ {rs : List Rp} {vs : List V} (n : Nat), Al rs vs H → Al (rs.take n) (vs.take n) H
  | [], [], n, _ => by
    rw [List.take_nil, List.take_nil]
    trivial
  | _ :: _, _ :: _, 0, _ => trivial
  | _ :: _, _ :: _, n + 1, h => ⟨h.1, Al.take n h.2⟩
theorem Al.drop {H : Hp} : ∀ {rs : List Rp} {vs : List V} (n : Nat), Al rs vs H → Al (rs.drop n) (vs.drop n) H
  | [], [], n, _ => by
    rw [List.drop_nil, List.drop_nil]
    trivial
  | _ :: _, _ :: _, 0, h => h
  | _ :: _, _ :: _, n + 1, h => Al.drop n h.2
theorem Al.snoc {H : Hp} {rs : List Rp} {vs : List V} {r : Rp} {v : V} (h : Al rs vs H) (k : r.p v H) : Al (rs ++ [r]) (vs ++ [v]) H := h.app ⟨k, trivial⟩
theorem Al.at {H : Hp} {rs : List Rp} {vs : List V} {i : Int} {r : Rp} (h : Al rs vs H) (e : atI rs i = some r) : ∃ v, atI vs i = some v ∧ r.p v H := by
  unfold atI at e ⊢
  rw [← h.len]
  cases q : ixN rs.length i with
  | none => rw [q] at e; cases e
  | some j =>
    rw [q] at e
    exact h.get e
theorem al0 {H : Hp} {vs : List V} (h : Al [] vs H) : vs = [] := by
  cases vs with
  | nil => rfl
  | cons _ _ => exact h.elim
theorem alc {H : Hp} {r : Rp} {rs : List Rp} {vs : List V} (h : Al (r :: rs) vs H) : ∃ v ws, vs = v :: ws ∧ r.p v H ∧ Al rs ws H := by
  cases vs with
  | nil => exact h.elim
  | cons v ws => exact ⟨v, ws, rfl, h.1, h.2⟩
theorem al1 {H : Hp} {r : Rp} {vs : List V} (h : Al [r] vs H) : ∃ v, vs = [v] ∧ r.p v H := by
  obtain ⟨v, ws, e, p, q⟩ := alc h
  obtain rfl := al0 q
  exact ⟨v, e, p⟩
theorem al2 {H : Hp} {r s : Rp} {vs : List V} (h : Al [r, s] vs H) : ∃ v w, vs = [v, w] ∧ r.p v H ∧ s.p w H := by
  obtain ⟨v, ws, e, p, q⟩ := alc h
  obtain ⟨w, e2, p2⟩ := al1 q
  subst e2
  exact ⟨v, w, e, p, p2⟩
theorem al3 {H : Hp} {r s t : Rp} {vs : List V} (h : Al [r, s, t] vs H) : ∃ v w x, vs = [v, w, x] ∧ r.p v H ∧ s.p w H ∧ t.p x H := by
  obtain ⟨v, ws, e, p, q⟩ := alc h
  obtain ⟨w, x, e2, p2, p3⟩ := al2 q
  subst e2
  exact ⟨v, w, x, e, p, p2, p3⟩
def cutA {α : Type} (xs : List α) (lo hi : Option Int) : List α := (xs.drop (HT.sIx xs.length 0 lo)).take (HT.sIx xs.length xs.length hi - HT.sIx xs.length 0 lo)
theorem Al.cut {H : Hp} {rs : List Rp} {vs : List V} (h : Al rs vs H) (lo hi : Option Int) : Al (cutA rs lo hi) (cutV vs lo hi) H := by
  unfold cutA cutV
  rw [← h.len]
  exact (h.drop _).take _
theorem Al.map {α : Type} {H : Hp} {ra : α → Rp} {f : α → V} (h : ∀ a, (ra a).p (f a) H) : ∀ (xs : List α), Al (xs.map ra) (xs.map f) H
  | [] => trivial
  | a :: r => ⟨h a, Al.map h r⟩

/-! ### the kinds of values -/
def vR (x : V) : Rp := ⟨fun v _ => v = x, fun _ h => h⟩
abbrev iR (i : Int) : Rp := vR (.int i)
abbrev bR (b : Bool) : Rp := vR (.bl b)
abbrev nR : Rp := vR .non
section
variable (K : PySem.W.Frag)
def tR (rs : List Rp) : Rp := ⟨fun v H => ∃ p vs, v = .ref p ∧ SqT K H p vs ∧ Al rs vs H, fun e h => by
  obtain ⟨p, vs, e1, h1, h2⟩ := h
  exact ⟨p, vs, e1, ex_t e h1, h2.mono e⟩⟩
/-- a list that is read, of whatever origin -/
def sR (rs : List Rp) : Rp := ⟨fun v H => ∃ p vs, v = .ref p ∧ SqL K H p vs ∧ Al rs vs H, fun e h => by
  obtain ⟨p, vs, e1, h1, h2⟩ := h
  exact ⟨p, vs, e1, ex_l e h1, h2.mono e⟩⟩
end
/-- a list of our own -/
def lR (rs : List Rp) : Rp := ⟨fun v H => ∃ p vs, v = .ref p ∧ H p = some (.lst vs) ∧ Al rs vs H, fun e h => by
  obtain ⟨p, vs, e1, h1, h2⟩ := h
  exact ⟨p, vs, e1, e p _ h1, h2.mono e⟩⟩
def AlF (fs : List (Str × Rp)) (kvs : List (Str × V)) (H : Hp) : Prop := kvs.map (·.1) = fs.map (·.1) ∧ Al (fs.map (·.2)) (kvs.map (·.2)) H
theorem AlF.lookup {H : Hp} {f : Str} {r : Rp} : ∀ {fs : List (Str × Rp)} {kvs : List (Str × V)}, AlF fs kvs H → fs.lookup f = some r → ∃ v, kvs.lookup f = some v ∧ r.p v H
  | [], [], _, e => by simp [List.lookup] at e
  | [], _ :: _, h, _ => h.2.elim
  | _ :: _, [], h, _ => h.2.elim
  | (g, r') :: fs, (k, v) :: kvs, h, e => by
    obtain ⟨h1, h2, h3⟩ := h
    have hk : k = g := (List.cons.inj h1).1
    subst hk
    by_cases c : (f == k) = true
    · simp only [List.lookup, c] at e ⊢
      cases e
      exact ⟨v, rfl, h2⟩
    · have c : (f == k) = false := by simpa using c
      simp only [List.lookup, c] at e ⊢
      exact AlF.lookup ⟨(List.cons.inj h1).2, h3⟩ e
theorem AlF.lookup_none {H : Hp} {f : Str} : ∀ {fs : List (Str × Rp)} {kvs : List (Str × V)}, AlF fs kvs H → fs.lookup f = none → kvs.lookup f = none
  | [], [], _, e => rfl
  | [], _ :: _, h, _ => h.2.elim
  | _ :: _, [], h, _ => h.2.elim
  | (g, r') :: fs, (k, v) :: kvs, h, e => by
    obtain ⟨h1, h2, h3⟩ := h
    have hk : k = g := (List.cons.inj h1).1
    subst hk
    by_cases c : (f == k) = true
    · simp only [List.lookup, c] at e
      cases e
    · have c : (f == k) = false := by simpa using c
      simp only [List.lookup, c] at e ⊢
      exact AlF.lookup_none ⟨(List.cons.inj h1).2, h3⟩ e
/-- an instance that nobody changes any more -/
def oR (C : Addr) (fs : List (Str × Rp)) : Rp := ⟨fun v H => ∃ a dx kvs, v = .ref a ∧ H a = some (.ins C dx kvs) ∧ AlF fs kvs H, fun e h => by
  obtain ⟨a, dx, kvs, e1, h1, h2, h3⟩ := h
  exact ⟨a, dx, kvs, e1, e a _ h1, h2, h3.mono e⟩⟩
theorem lR_s {K : PySem.W.Frag} {rs : List Rp} {v : V} {H : Hp} (h : (lR rs).p v H) : (sR K rs).p v H := by
  obtain ⟨p, vs, e1, h1, h2⟩ := h
  exact ⟨p, vs, e1, SqL.of h1, h2⟩

/-! ### the state: slots, the part that stays, the heap -/
/-- what is our own, and may be changed: a list, an instance -/
inductive Ow where
  | l (rs : List Rp)
  | i (x C : Addr) (fs : List (Str × Rp))
def Ow.P : Ow → Addr → HO → Hp → Prop
  | .l rs, _, h, G => ∃ vs, h = .lst vs ∧ Al rs vs G
  | .i x C fs, p, h, G => p = x ∧ ∃ dx kvs, h = .ins C dx kvs ∧ AlF fs kvs G
theorem Ow.mono {H H' : Hp} (e : Ex H H') {o : Ow} {a : Addr} {h : HO} (p : o.P a h H) : o.P a h H' := by
  cases o with
  | l rs =>
    obtain ⟨vs, e1, a⟩ := p
    exact ⟨vs, e1, a.mono e⟩
  | i x C fs =>
    obtain ⟨ex, dx, kvs, e1, a, b⟩ := p
    exact ⟨ex, dx, kvs, e1, a, b.mono e⟩
/-- the same, told as what stays -/
def Ow.R : Ow → Rp
  | .l rs => lR rs
  | .i _ C fs => oR C fs
theorem Ow.P.R {o : Ow} {h : HO} {G : Hp} {p : Addr} (q : o.P p h G) (e : G p = some h) : o.R.p (.ref p) G := by
  cases o with
  | l rs =>
    obtain ⟨vs, e1, a⟩ := q
    exact ⟨p, vs, rfl, by rw [e, e1], a⟩
  | i x C fs =>
    obtain ⟨_, dx, kvs, e1, a⟩ := q
    exact ⟨p, dx, kvs, rfl, by rw [e, e1], a⟩
inductive Sl where
  | no
  | r (x : Rp)
  | w (o : Ow)
abbrev Sl.l (rs : List Rp) : Sl := .w (.l rs)
structure Step (G H G' H' : Hp) : Prop where
  g : Ex G G'
  h : Ex H H'
  i : Ex G' H'
  n : ∀ a, H a ≠ none → G a = none → G' a = none
theorem Step.refl {G H : Hp} (e : Ex G H) : Step G H G H := ⟨Ex.refl G, Ex.refl H, e, fun _ _ h => h⟩
theorem Ex.some {H H' : Hp} (e : Ex H H') {a : Addr} (h : H a ≠ none) : H' a ≠ none := by
  cases q : H a with
  | none => exact absurd q h
  | some o =>
    rw [e a o q]
    exact fun z => nomatch z
theorem Step.trans {G H G1 H1 G2 H2 : Hp} (a : Step G H G1 H1) (b : Step G1 H1 G2 H2) : Step G H G2 H2 :=
  ⟨a.g.trans b.g, a.h.trans b.h, b.i, fun x h1 h2 => b.n x (Ex.some a.h h1) (a.n x h1 h2)⟩
/-- a new thing, laid in both parts -/
theorem Step.new {G H : Hp} (e : Ex G H) {p : Addr} {o : HO} (hp : H p = none) : Step G H (upd G p o) (upd H p o) := by
  have hg : G p = none := fresh_back e hp
  refine ⟨Ex.new hg, Ex.new hp, fun a u h => ?_, fun a h1 h2 => ?_⟩
  · by_cases c : a = p
    · subst c
      rw [upd_same] at h ⊢
      exact h
    · rw [upd_ne c] at h ⊢
      exact e a u h
  · have c : a ≠ p := fun z => h1 (by rw [z]; exact hp)
    rw [upd_ne c]
    exact h2
structure En (H0 : Hp) (ρ : List Sl) (σ : L2.St) (G H : Hp) : Prop where
  len : σ.length = ρ.length
  rd : ∀ (i : Nat) (x : Rp), ρ[i]? = some (.r x) → ∃ v, σ[i]? = some (some v) ∧ x.p v G
  ow : ∀ (i : Nat) (o : Ow), ρ[i]? = some (.w o) → ∃ p h, σ[i]? = some (some (.ref p)) ∧ H p = some h ∧ o.P p h G ∧ G p = none ∧ H0 p = none
  ne : ∀ (i j : Nat) (rs rs' : Ow) (p : Addr), i ≠ j → ρ[i]? = some (.w rs) → ρ[j]? = some (.w rs') → σ[i]? = some (some (.ref p)) → σ[j]? ≠ some (some (.ref p))
section
variable {H0 G H G1 H1 G2 H2 : Hp} {ρ ρ' : List Sl} {σ σ' : L2.St}
theorem En.step (e : En H0 ρ σ G H) (s : Step G H G1 H1) : En H0 ρ σ G1 H1 where
  len := e.len
  rd := fun i x h => let ⟨v, a, b⟩ := e.rd i x h; ⟨v, a, x.mono s.g b⟩
  ow := fun i rs h => by
    obtain ⟨p, vs, a, b, c, d, f⟩ := e.ow i rs h
    exact ⟨p, vs, a, s.h p _ b, Ow.mono s.g c, s.n p (by rw [b]; exact fun z => nomatch z) d, f⟩
  ne := e.ne
theorem get_set {α : Type} {l : List α} {i j : Nat} {x y : α} (h : (l.set i x)[j]? = some y) : (j = i ∧ y = x) ∨ (j ≠ i ∧ l[j]? = some y) := by
  by_cases c : i = j
  · subst c
    by_cases hl : i < l.length
    · rw [List.getElem?_set_self hl] at h
      exact .inl ⟨rfl, (Option.some.inj h).symm⟩
    · rw [List.getElem?_eq_none (by simpa using hl)] at h
      cases h
  · rw [List.getElem?_set_ne c] at h
    exact .inr ⟨fun z => c z.symm, h⟩
theorem En.set (e : En H0 ρ σ G H) {x : Rp} {v : V} (h : x.p v G) (i : Nat) : En H0 (ρ.set i (.r x)) (σ.set i (some v)) G H where
  len := by rw [List.length_set, List.length_set]; exact e.len
  rd := fun j y hj => by
    rcases get_set hj with ⟨rfl, q⟩ | ⟨n, q⟩
    · cases q
      have hl : j < (ρ.set j (.r x)).length := (List.getElem?_eq_some_iff.mp hj).1
      rw [List.length_set, ← e.len] at hl
      exact ⟨v, List.getElem?_set_self hl, h⟩
    · rw [List.getElem?_set_ne (Ne.symm n)]
      exact e.rd j y q
  ow := fun j rs hj => by
    rcases get_set hj with ⟨rfl, q⟩ | ⟨n, q⟩
    · cases q
    · rw [List.getElem?_set_ne (Ne.symm n)]
      exact e.ow j rs q
  ne := fun j k rs rs' p hn hj hk hs => by
    rcases get_set hj with ⟨rfl, q⟩ | ⟨n, q⟩
    · cases q
    · rcases get_set hk with ⟨rfl, q2⟩ | ⟨n2, q2⟩
      · cases q2
      · rw [List.getElem?_set_ne (Ne.symm n)] at hs
        rw [List.getElem?_set_ne (Ne.symm n2)]
        exact e.ne j k rs rs' p hn q q2 hs
/-- a slot is forgotten -/
theorem En.forget (e : En H0 ρ σ G H) (i : Nat) : En H0 (ρ.set i .no) σ G H where
  len := by rw [List.length_set]; exact e.len
  rd := fun j y hj => by
    rcases get_set hj with ⟨rfl, q⟩ | ⟨n, q⟩
    · cases q
    · exact e.rd j y q
  ow := fun j rs hj => by
    rcases get_set hj with ⟨rfl, q⟩ | ⟨n, q⟩
    · cases q
    · exact e.ow j rs q
  ne := fun j k rs rs' p hn hj hk hs => by
    rcases get_set hj with ⟨rfl, q⟩ | ⟨n, q⟩
    · cases q
    · rcases get_set hk with ⟨rfl, q2⟩ | ⟨n2, q2⟩
      · cases q2
      · exact e.ne j k rs rs' p hn q q2 hs
theorem En.wipe1 (e : En H0 ρ σ G H) (i : Nat) : En H0 (ρ.set i .no) (σ.set i none) G H where
  len := by rw [List.length_set, List.length_set]; exact e.len
  rd := fun j y hj => by
    rcases get_set hj with ⟨rfl, q⟩ | ⟨n, q⟩
    · cases q
    · rw [List.getElem?_set_ne (Ne.symm n)]
      exact e.rd j y q
  ow := fun j rs hj => by
    rcases get_set hj with ⟨rfl, q⟩ | ⟨n, q⟩
    · cases q
    · rw [List.getElem?_set_ne (Ne.symm n)]
      exact e.ow j rs q
  ne := fun j k rs rs' p hn hj hk hs => by
    rcases get_set hj with ⟨rfl, q⟩ | ⟨n, q⟩
    · cases q
    · rcases get_set hk with ⟨rfl, q2⟩ | ⟨n2, q2⟩
      · cases q2
      · rw [List.getElem?_set_ne (Ne.symm n)] at hs
        rw [List.getElem?_set_ne (Ne.symm n2)]
        exact e.ne j k rs rs' p hn q q2 hs
def wipeS (ρ : List Sl) : List Nat → List Sl
  | [] => ρ
  | v :: vs => (wipeS ρ vs).set v .no
theorem En.wipe (e : En H0 ρ σ G H) : ∀ vs : List Nat, En H0 (wipeS ρ vs) (L2.wipe σ vs) G H
  | [] => e
  | v :: vs => (En.wipe e vs).wipe1 v
/-- a new own list at slot i -/
theorem En.own (e : En H0 ρ σ G H) (ex : Ex G H) (hh : Ex H0 H) {p : Addr} {vs : HO} {rs : Ow} (hp : H p = none) (ha : rs.P p vs G) (i : Nat) :
    En H0 (ρ.set i (.w rs)) (σ.set i (some (.ref p))) G (upd H p vs) where
  len := by rw [List.length_set, List.length_set]; exact e.len
  rd := fun j y hj => by
    rcases get_set hj with ⟨rfl, q⟩ | ⟨n, q⟩
    · cases q
    · rw [List.getElem?_set_ne (Ne.symm n)]
      exact e.rd j y q
  ow := fun j rs2 hj => by
    rcases get_set hj with ⟨rfl, q⟩ | ⟨n, q⟩
    · cases q
      have hl : j < (ρ.set j (.w rs)).length := (List.getElem?_eq_some_iff.mp hj).1
      rw [List.length_set, ← e.len] at hl
      exact ⟨p, vs, List.getElem?_set_self hl, upd_same, ha, fresh_back ex hp, fresh_back hh hp⟩
    · rw [List.getElem?_set_ne (Ne.symm n)]
      obtain ⟨p', vs', a, b, c⟩ := e.ow j rs2 q
      exact ⟨p', vs', a, by rw [upd_ne (ne_of_none b hp)]; exact b, c⟩
  ne := fun j k rs1 rs2 p' hn hj hk hs => by
    rcases get_set hj with ⟨rfl, q⟩ | ⟨n, q⟩
    · have hl : j < (ρ.set j (.w rs)).length := (List.getElem?_eq_some_iff.mp hj).1
      rw [List.length_set, ← e.len] at hl
      rw [List.getElem?_set_self hl] at hs
      cases hs
      rcases get_set hk with ⟨rfl, q2⟩ | ⟨n2, q2⟩
      · exact absurd rfl hn
      · rw [List.getElem?_set_ne (Ne.symm n2)]
        intro z
        obtain ⟨p', vs', a, b, c⟩ := e.ow k rs2 q2
        rw [a] at z
        cases z
        rw [hp] at b
        cases b
    · rw [List.getElem?_set_ne (Ne.symm n)] at hs
      rcases get_set hk with ⟨rfl, q2⟩ | ⟨n2, q2⟩
      · have hl : k < (ρ.set k (.w rs)).length := (List.getElem?_eq_some_iff.mp hk).1
        rw [List.length_set, ← e.len] at hl
        rw [List.getElem?_set_self hl]
        intro z
        cases z
        obtain ⟨p', vs', a, b, c⟩ := e.ow j rs1 q
        rw [a] at hs
        cases hs
        rw [hp] at b
        cases b
      · rw [List.getElem?_set_ne (Ne.symm n2)]
        exact e.ne j k rs1 rs2 p' hn q q2 hs
/-- the own list at slot i is written -/
theorem En.put (e : En H0 ρ σ G H) {p : Addr} {vs' : HO} {rs rs' : Ow} {i : Nat} (hi : ρ[i]? = some (.w rs)) (hs : σ[i]? = some (some (.ref p))) (ha : rs'.P p vs' G) :
    En H0 (ρ.set i (.w rs')) σ G (upd H p vs') where
  len := by rw [List.length_set]; exact e.len
  rd := fun j y hj => by
    rcases get_set hj with ⟨rfl, q⟩ | ⟨n, q⟩
    · cases q
    · exact e.rd j y q
  ow := fun j rs2 hj => by
    rcases get_set hj with ⟨rfl, q⟩ | ⟨n, q⟩
    · cases q
      obtain ⟨p', vs, a, b, c, d, f⟩ := e.ow j rs hi
      rw [hs] at a
      cases a
      exact ⟨p, vs', hs, upd_same, ha, d, f⟩
    · obtain ⟨p', vs, a, b, c⟩ := e.ow j rs2 q
      have hne : p' ≠ p := fun z => e.ne i j rs rs2 p (Ne.symm n) hi q hs (by rw [← z]; exact a)
      exact ⟨p', vs, a, by rw [upd_ne hne]; exact b, c⟩
  ne := fun j k rs1 rs2 p' hn hj hk hs => by
    have f : ∀ {j : Nat} {rs1 : Ow}, (ρ.set i (.w rs'))[j]? = some (.w rs1) → ∃ rs3, ρ[j]? = some (.w rs3) := fun {j rs1} hj => by
      rcases get_set hj with ⟨rfl, q⟩ | ⟨n, q⟩
      · exact ⟨_, hi⟩
      · exact ⟨_, q⟩
    obtain ⟨r3, q⟩ := f hj
    obtain ⟨r4, q2⟩ := f hk
    exact e.ne j k r3 r4 p' hn q q2 hs
/-- the own list at slot i is told among what stays -/
theorem En.freeze (e : En H0 ρ σ G H) {rs : Ow} {i : Nat} (hi : ρ[i]? = some (.w rs)) (ex : Ex G H) : ∃ p vs, σ[i]? = some (some (.ref p)) ∧ H0 p = none ∧ G p = none ∧ H p = some vs ∧ rs.P p vs G ∧ En H0 (ρ.set i (.r rs.R)) σ (upd G p vs) H := by
  obtain ⟨p, vs, a, b, c, d, f⟩ := e.ow i rs hi
  have eg : Ex G (upd G p vs) := Ex.new d
  refine ⟨p, vs, a, f, d, b, c, by rw [List.length_set]; exact e.len, fun j y hj => ?_, fun j rs2 hj => ?_, fun j k rs1 rs2 p' hn hj hk hs => ?_⟩
  · rcases get_set hj with ⟨rfl, q⟩ | ⟨n, q⟩
    · cases q
      exact ⟨_, a, Ow.P.R (Ow.mono eg c) upd_same⟩
    · obtain ⟨v, h1, h2⟩ := e.rd j y q
      exact ⟨v, h1, y.mono eg h2⟩
  · rcases get_set hj with ⟨rfl, q⟩ | ⟨n, q⟩
    · cases q
    · obtain ⟨p', vs', a', b', c', d', f'⟩ := e.ow j rs2 q
      have hne : p' ≠ p := fun z => e.ne i j rs rs2 p (Ne.symm n) hi q a (by rw [← z]; exact a')
      exact ⟨p', vs', a', b', Ow.mono eg c', by rw [upd_ne hne]; exact d', f'⟩
  · rcases get_set hj with ⟨rfl, q⟩ | ⟨n, q⟩
    · cases q
    · rcases get_set hk with ⟨rfl, q2⟩ | ⟨n2, q2⟩
      · cases q2
      · exact e.ne j k rs1 rs2 p' hn q q2 hs
end

/-! ### judgements -/
def ER (te : TE) (ρ : List Sl) (r : Rp) : Prop := ∀ (H0 : Hp) (σ : L2.St) (G H : Hp), Ex H0 H → Ex G H → En H0 ρ σ G H → ∀ Q : VK, (∀ v G2 H2, Step G H G2 H2 → r.p v G2 → Q v H2) → te σ H Q
def TR (tt : TT) (ρ : List Sl) (b : Bool) : Prop := ∀ (H0 : Hp) (σ : L2.St) (G H : Hp), Ex H0 H → Ex G H → En H0 ρ σ G H → ∀ Q : Bool → Hp → Prop, (∀ G2 H2, Step G H G2 H2 → Q b H2) → tt σ H Q
def AR (ta : TA) (ρ : List Sl) (rs : List Rp) : Prop := ∀ (H0 : Hp) (σ : L2.St) (G H : Hp), Ex H0 H → Ex G H → En H0 ρ σ G H → ∀ Q : List V → Hp → Prop, (∀ vs G2 H2, Step G H G2 H2 → Al rs vs G2 → Q vs H2) → ta σ H Q
def OR (to : TO) (ρ : List Sl) (o : Option Int) : Prop := ∀ (H0 : Hp) (σ : L2.St) (G H : Hp), Ex H0 H → Ex G H → En H0 ρ σ G H → ∀ Q : Option Int → Hp → Prop, (∀ G2 H2, Step G H G2 H2 → Q o H2) → to σ H Q
/-- a two-place operation on values; a call on values -/
def BR (f : R2) (ra rb rc : Rp) : Prop := ∀ (x y : V) (G H : Hp), Ex G H → ra.p x G → rb.p y G → ∀ Q : VK, (∀ v G2 H2, Step G H G2 H2 → rc.p v G2 → Q v H2) → f x y H Q
def UR (f : V → Hp → VK → Prop) (ra rc : Rp) : Prop := ∀ (x : V) (G H : Hp), Ex G H → ra.p x G → ∀ Q : VK, (∀ v G2 H2, Step G H G2 H2 → rc.p v G2 → Q v H2) → f x H Q
def CR (f : List V → Hp → VK → Prop) (rs : List Rp) (rc : Rp) : Prop := ∀ (vs : List V) (G H : Hp), Ex G H → Al rs vs G → ∀ Q : VK, (∀ v G2 H2, Step G H G2 H2 → rc.p v G2 → Q v H2) → f vs H Q

section
variable {K : PySem.W.Frag} {ρ ρ' : List Sl} {ta tb tc te : TE} {t u : TT} {ra rb rc r : Rp} {rs : List Rp} {f : R2} {i j : Int}
theorem er_eq (h : ER te ρ ra) (e : ra = rb) : ER te ρ rb := e ▸ h
theorem er_imp (h : ER te ρ ra) (k : ∀ v G, ra.p v G → rb.p v G) : ER te ρ rb := fun H0 σ G H z e n Q q => h H0 σ G H z e n Q fun v G2 H2 s p => q v G2 H2 s (k v G2 p)
theorem er_ls (h : ER te ρ (lR rs)) : ER te ρ (sR K rs) := er_imp h fun _ _ p => lR_s p
theorem er_var {n : Nat} (h : ρ[n]? = some (.r r)) : ER (tVar n) ρ r := fun H0 σ G H z e n Q q => by
  obtain ⟨v, a, b⟩ := n.rd _ _ h
  exact ⟨v, a, q v G H (Step.refl e) b⟩
theorem er_c {x : V} : ER (tC x) ρ (vR x) := fun H0 σ G H z e n Q q => q x G H (Step.refl e) rfl
theorem er_op (ha : ER ta ρ ra) (hb : ER tb ρ rb) (hf : BR f ra rb rc) : ER (tOp f ta tb) ρ rc := fun H0 σ G H z e n Q q =>
  ha H0 σ G H z e n _ fun x G1 H1 s1 px => hb H0 σ G1 H1 (z.trans s1.h) s1.i (n.step s1) _ fun y G2 H2 s2 py =>
    hf x y G2 H2 s2.i (ra.mono s2.g px) py Q fun v G3 H3 s3 pv => q v G3 H3 ((s1.trans s2).trans s3) pv
theorem er_un {f : V → Hp → VK → Prop} (ha : ER ta ρ ra) (hf : UR f ra rc) : ER (tUn f ta) ρ rc := fun H0 σ G H z e n Q q =>
  ha H0 σ G H z e n _ fun x G1 H1 s1 px => hf x G1 H1 s1.i px Q fun v G3 H3 s3 pv => q v G3 H3 (s1.trans s3) pv
theorem br_I0 {g : Int → Int → V} : BR (rI0 g) (iR i) (iR j) (vR (g i j)) := fun x y G H e hx hy Q q => ⟨i, j, hx, hy, q _ G H (Step.refl e) rfl⟩
theorem br_I {C : Int → Int → Prop} {g : Int → Int → V} (hc : C i j) : BR (rI C g) (iR i) (iR j) (vR (g i j)) := fun x y G H e hx hy Q q => ⟨i, j, hx, hy, hc, q _ G H (Step.refl e) rfl⟩
theorem ur_I {g : Int → V} : UR (rU g) (iR i) (vR (g i)) := fun x G H e hx Q q => ⟨i, hx, q _ G H (Step.refl e) rfl⟩
theorem br_ixT {x : Rp} (h : atI rs i = some x) : BR (rIxT K) (tR K rs) (iR i) x := fun a y G H e ha hy Q q => by
  obtain ⟨p, vs, e1, h1, h2⟩ := ha
  obtain ⟨v, e2, hv⟩ := h2.at h
  exact ⟨p, vs, i, v, e1, hy, ex_t e h1, e2, q v G H (Step.refl e) hv⟩
theorem br_ixL {x : Rp} (h : atI rs i = some x) : BR (rIxL K) (sR K rs) (iR i) x := fun a y G H e ha hy Q q => by
  obtain ⟨p, vs, e1, h1, h2⟩ := ha
  obtain ⟨v, e2, hv⟩ := h2.at h
  exact ⟨p, vs, i, v, e1, hy, ex_l e h1, e2, q v G H (Step.refl e) hv⟩
theorem br_isN {x : V} : BR (fun x y H Q => y = .non ∧ Q (.bl (decide (x = .non))) H) (vR x) nR (bR (decide (x = .non))) := fun a y G H e ha hy Q q => by
  cases ha
  exact ⟨hy, q _ G H (Step.refl e) rfl⟩
/-- what isn't None -/
def NN (r : Rp) : Prop := ∀ v H, r.p v H → v ≠ .non
theorem br_isNf (hr : NN ra) : BR (fun x y H Q => y = .non ∧ Q (.bl (decide (x = .non))) H) ra nR (bR false) := fun a y G H e ha hy Q q =>
  ⟨hy, q _ G H (Step.refl e) (congrArg V.bl (decide_eq_false (hr _ _ ha)))⟩
theorem br_notNt (hr : NN ra) : BR (fun x y H Q => y = .non ∧ Q (.bl (!decide (x = .non))) H) ra nR (bR true) := fun a y G H e ha hy Q q =>
  ⟨hy, q _ G H (Step.refl e) (by rw [decide_eq_false (hr _ _ ha)]; rfl)⟩
theorem nn_t : NN (tR K rs) := fun v H ⟨p, vs, e, _⟩ z => by rw [e] at z; cases z
theorem nn_s : NN (sR K rs) := fun v H ⟨p, vs, e, _⟩ z => by rw [e] at z; cases z
theorem nn_l : NN (lR rs) := fun v H ⟨p, vs, e, _⟩ z => by rw [e] at z; cases z
theorem nn_o {C : Addr} {fs : List (Str × Rp)} : NN (oR C fs) := fun v H ⟨p, dx, vs, e, _⟩ z => by rw [e] at z; cases z
/-- lists glued -/
theorem br_cat {rs' : List Rp} (hl : rs.length + rs'.length ≤ 100000) : BR rCat (lR rs) (lR rs') (lR (rs ++ rs')) := fun a y G H e ha hy Q q => by
  obtain ⟨p, vs, e1, h1, h2⟩ := ha
  obtain ⟨p', vs', e1', h1', h2'⟩ := hy
  refine ⟨p, p', vs, vs', e1, e1', e p _ h1, e p' _ h1', by rw [← h2.len, ← h2'.len]; exact sz_of hl, fun l hn => ?_⟩
  have s := Step.new (o := .lst (vs ++ vs')) e hn
  exact q _ _ _ s ⟨l, _, rfl, upd_same, (h2.app h2').mono s.g⟩
/-- none, or one of flat things -/
theorem br_niT {x : V} {xs : List V} (hx : flatV x = true) (ha : xs.all flatV = true) : BR (rIn K true) (vR x) (tR K (xs.map vR)) (bR (!inV x xs)) := fun a y G H e hy hz Q q => by
  cases hy
  obtain ⟨p, vs, e1, h1, h2⟩ := hz
  have ev : ∀ {xs vs : List V}, Al (xs.map vR) vs G → vs = xs := by
    intro xs
    induction xs with
    | nil =>
      intro vs h
      cases vs with
      | nil => rfl
      | cons _ _ => exact h.elim
    | cons a r ih =>
      intro vs h
      cases vs with
      | nil => exact h.elim
      | cons v vs =>
        obtain ⟨h1, h2⟩ := h
        have h1 : v = a := h1
        rw [h1, ih h2]
  rw [ev h2] at h1
  exact ⟨p, xs, e1, .inr (ex_t e h1), hx, ha, q _ G H (Step.refl e) rfl⟩
/-! arguments, displays, calls -/
theorem ar_nil : AR tNil ρ [] := fun H0 σ G H z e n Q q => q [] G H (Step.refl e) trivial
theorem ar_cons {tr : TA} (h : ER ta ρ ra) (hr : AR tr ρ rs) : AR (tCons ta tr) ρ (ra :: rs) := fun H0 σ G H z e n Q q =>
  h H0 σ G H z e n _ fun x G1 H1 s1 px => hr H0 σ G1 H1 (z.trans s1.h) s1.i (n.step s1) _ fun vs G2 H2 s2 pv => q _ G2 H2 (s1.trans s2) ⟨ra.mono s2.g px, pv⟩
theorem er_tup {ta : TA} (h : AR ta ρ rs) (hl : rs.length ≤ 100000 := by exact Nat.le_of_ble_eq_true rfl) : ER (tTup ta) ρ (tR K rs) := fun H0 σ G H z e n Q q =>
  h H0 σ G H z e n _ fun vs G1 H1 s1 pv => ⟨by rw [← pv.len]; exact sz_of hl, fun p hp => by
    have s := Step.new (o := .tup vs) s1.i hp
    exact q _ _ _ (s1.trans s) ⟨p, vs, rfl, st_of upd_same, pv.mono s.g⟩⟩
theorem er_lst {ta : TA} (h : AR ta ρ rs) (hl : rs.length ≤ 100000 := by exact Nat.le_of_ble_eq_true rfl) : ER (tLst ta) ρ (lR rs) := fun H0 σ G H z e n Q q =>
  h H0 σ G H z e n _ fun vs G1 H1 s1 pv => ⟨by rw [← pv.len]; exact sz_of hl, fun p hp => by
    have s := Step.new (o := .lst vs) s1.i hp
    exact q _ _ _ (s1.trans s) ⟨p, vs, rfl, upd_same, pv.mono s.g⟩⟩
theorem er_callB {f : List V → Hp → VK → Prop} {ta : TA} (h : AR ta ρ rs) (hf : CR f rs rc) : ER (tCB f ta) ρ rc := fun H0 σ G H z e n Q q =>
  h H0 σ G H z e n _ fun vs G1 H1 s1 pv => hf vs G1 H1 s1.i pv Q fun v G2 H2 s2 p => q v G2 H2 (s1.trans s2) p
theorem cr_len : CR (fun xs H Q => ∃ p ys, xs = [.ref p] ∧ (SqL K H p ys ∨ SqT K H p ys) ∧ Q (.int ys.length) H) [sR K rs] (iR rs.length) := fun vs G H e hv Q q => by
    obtain ⟨v, e0, p, xs, e1, h1, h2⟩ := al1 hv
    subst e0
    subst e1
    refine ⟨p, xs, rfl, .inl (ex_l e h1), ?_⟩
    rw [← h2.len]
    exact q _ G H (Step.refl e) rfl
theorem cr_abs : CR (fun xs H Q => ∃ i, xs = [.int i] ∧ Q (.int (if i < 0 then -i else i)) H) [iR i] (iR (if i < 0 then -i else i)) := fun vs G H e hv Q q => by
    obtain ⟨v, e0, h1⟩ := al1 hv
    have h1 : v = .int i := h1
    subst e0
    subst h1
    exact ⟨i, rfl, q _ G H (Step.refl e) rfl⟩
theorem al_vR {G : Hp} : ∀ {xs vs : List V}, Al (xs.map vR) vs G → vs = xs
  | [], [], _ => rfl
  | [], _ :: _, h => h.elim
  | _ :: _, [], h => h.elim
  | a :: r, v :: vs, h => by
    have h1 : v = a := h.1
    rw [h1, al_vR h.2]
theorem al_bl {G : Hp} {bs : List Bool} {vs : List V} (h : Al (bs.map bR) vs G) : vs = bs.map V.bl := by
  have h : Al ((bs.map V.bl).map vR) vs G := by rw [List.map_map]; exact h
  exact al_vR h
theorem al_int {G : Hp} {ns : List Int} {vs : List V} (h : Al (ns.map iR) vs G) : vs = ns.map V.int := by
  have h : Al ((ns.map V.int).map vR) vs G := by rw [List.map_map]; exact h
  exact al_vR h
theorem cr_all {bs : List Bool} : CR (rAll K) [sR K (bs.map bR)] (bR (bs.all id)) := fun vs G H e hv Q q => by
    obtain ⟨v, e0, p, xs, e1, h1, h2⟩ := al1 hv
    subst e0
    subst e1
    rw [al_bl h2] at h1
    exact ⟨p, bs, rfl, ex_l e h1, q _ G H (Step.refl e) rfl⟩
theorem cr_any {bs : List Bool} : CR (rAny K) [sR K (bs.map bR)] (bR (bs.any id)) := fun vs G H e hv Q q => by
    obtain ⟨v, e0, p, xs, e1, h1, h2⟩ := al1 hv
    subst e0
    subst e1
    rw [al_bl h2] at h1
    exact ⟨p, bs, rfl, ex_l e h1, q _ G H (Step.refl e) rfl⟩
theorem cr_sum {ns : List Int} : CR (rSum K) [sR K (ns.map iR)] (iR ns.sum) := fun vs G H e hv Q q => by
    obtain ⟨v, e0, p, xs, e1, h1, h2⟩ := al1 hv
    subst e0
    subst e1
    rw [al_int h2] at h1
    exact ⟨p, ns, rfl, ex_l e h1, q _ G H (Step.refl e) rfl⟩
/-- list(a list), list(a tuple) -/
theorem cr_listT : CR (fun xs H Q => ∃ p ys, xs = [.ref p] ∧ (SqL K H p ys ∨ SqT K H p ys) ∧ ∀ l, H l = none → Q (.ref l) (upd H l (.lst ys))) [tR K rs] (lR rs) := fun vs G H e hv Q q => by
    obtain ⟨v, e0, p, xs, e1, h1, h2⟩ := al1 hv
    subst e0
    subst e1
    refine ⟨p, xs, rfl, .inr (ex_t e h1), fun l hl => ?_⟩
    have s := Step.new (o := .lst xs) e hl
    exact q _ _ _ s ⟨l, xs, rfl, upd_same, h2.mono s.g⟩
theorem cr_listL : CR (fun xs H Q => ∃ p ys, xs = [.ref p] ∧ (SqL K H p ys ∨ SqT K H p ys) ∧ ∀ l, H l = none → Q (.ref l) (upd H l (.lst ys))) [sR K rs] (lR rs) := fun vs G H e hv Q q => by
    obtain ⟨v, e0, p, xs, e1, h1, h2⟩ := al1 hv
    subst e0
    subst e1
    refine ⟨p, xs, rfl, .inl (ex_l e h1), fun l hl => ?_⟩
    have s := Step.new (o := .lst xs) e hl
    exact q _ _ _ s ⟨l, xs, rfl, upd_same, h2.mono s.g⟩
/-! slices -/
theorem or_no : OR tNoPart ρ none := fun H0 σ G H z e n Q q => q G H (Step.refl e)
theorem or_some (h : ER te ρ (iR i)) : OR (tPart te) ρ (some i) := fun H0 σ G H z e n Q q => h H0 σ G H z e n _ fun v G1 H1 s1 pv => ⟨i, pv, q G1 H1 s1⟩
theorem er_slice {tl th : TO} {lo hi : Option Int} (h : ER te ρ (sR K rs)) (hl : OR tl ρ lo) (hh : OR th ρ hi) : ER (tSl (rSlL K) te tl th) ρ (lR (cutA rs lo hi)) := fun H0 σ G H z e n Q q =>
  h H0 σ G H z e n _ fun v G1 H1 s1 ⟨p, vs, e1, h1, h2⟩ => hl H0 σ G1 H1 (z.trans s1.h) s1.i (n.step s1) _ fun G2 H2 s2 => hh H0 σ G2 H2 ((z.trans s1.h).trans s2.h) s2.i ((n.step s1).step s2) _ fun G3 H3 s3 =>
    ⟨p, vs, e1, ex_l ((s2.g.trans s3.g).trans s3.i) h1, fun l hn => by
      have s := Step.new (o := .lst (cutV vs lo hi)) s3.i hn
      exact q _ _ _ (((s1.trans s2).trans s3).trans s) ⟨l, _, rfl, upd_same, (h2.cut lo hi).mono ((s2.g.trans s3.g).trans s.g)⟩⟩
/-! fields -/
theorem er_fld {C : Addr} {fs : List (Str × Rp)} {g : Str} (h : ER te ρ (oR C fs)) (hc : Cls K C) (hn : NoAttr K C g) (hl : fs.lookup g = some r) : ER (tFld K te g) ρ r := fun H0 σ G H z e n Q q =>
  h H0 σ G H z e n _ fun v G1 H1 s1 ⟨a, dx, kvs, e1, h1, h2⟩ => by
    obtain ⟨x, h3, h4⟩ := h2.lookup hl
    exact ⟨a, C, dx, kvs, x, e1, s1.i a _ h1, hc, hn, h3, q x G1 H1 s1 h4⟩
/-! truth -/
theorem er_b {b b' : Bool} (h : ER te ρ (bR b)) (e : b = b') : ER te ρ (bR b') := e ▸ h
theorem er_i {a b : Int} (h : ER te ρ (iR a)) (e : a = b) : ER te ρ (iR b) := e ▸ h
theorem tr_eq {b b' : Bool} (h : TR t ρ b) (e : b = b') : TR t ρ b' := e ▸ h
theorem tr_test {b : Bool} (h : ER te ρ (bR b)) : TR (tTest te) ρ b := fun H0 σ G H z e n Q q => h H0 σ G H z e n _ fun v G1 H1 s1 pv => ⟨b, pv, q G1 H1 s1⟩
theorem tr_B {b : Bool} (h : ER te ρ (bR b)) : TR (tB te) ρ b := fun H0 σ G H z e n Q q => h H0 σ G H z e n _ fun v G1 H1 s1 pv => ⟨b, pv, q G1 H1 s1⟩
theorem tr_and {a b : Bool} (h1 : TR t ρ a) (h2 : a = true → TR u ρ b) : TR (tAnd t u) ρ (a && b) := fun H0 σ G H z e n Q q => h1 H0 σ G H z e n _ fun G1 H1 s1 => by
  cases a with
  | true =>
    show u σ H1 Q
    exact h2 rfl H0 σ G1 H1 (z.trans s1.h) s1.i (n.step s1) Q fun G2 H2 s2 => q G2 H2 (s1.trans s2)
  | false =>
    show Q false H1
    exact q G1 H1 s1
theorem tr_or {a b : Bool} (h1 : TR t ρ a) (h2 : a = false → TR u ρ b) : TR (tOr t u) ρ (a || b) := fun H0 σ G H z e n Q q => h1 H0 σ G H z e n _ fun G1 H1 s1 => by
  cases a with
  | false =>
    show u σ H1 Q
    exact h2 rfl H0 σ G1 H1 (z.trans s1.h) s1.i (n.step s1) Q fun G2 H2 s2 => q G2 H2 (s1.trans s2)
  | true =>
    show Q true H1
    exact q G1 H1 s1
theorem tr_not {a : Bool} (h1 : TR t ρ a) : TR (tNot t) ρ (!a) := fun H0 σ G H z e n Q q => h1 H0 σ G H z e n _ fun G1 H1 s1 => q G1 H1 s1
theorem tr_yes : TR tYes ρ true := fun H0 σ G H z e n Q q => q G H (Step.refl e)
theorem er_and {a b : Bool} (h1 : ER ta ρ (bR a)) (h2 : a = true → ER tb ρ (bR b)) : ER (tAndV ta tb) ρ (bR (a && b)) := fun H0 σ G H z e n Q q => h1 H0 σ G H z e n _ fun v G1 H1 s1 pv => ⟨a, pv, by
  cases a with
  | true =>
    show tb σ H1 Q
    exact h2 rfl H0 σ G1 H1 (z.trans s1.h) s1.i (n.step s1) Q fun v G2 H2 s2 p => q v G2 H2 (s1.trans s2) p
  | false =>
    show Q (.bl false) H1
    exact q _ G1 H1 s1 rfl⟩
theorem er_or {a b : Bool} (h1 : ER ta ρ (bR a)) (h2 : a = false → ER tb ρ (bR b)) : ER (tOrV ta tb) ρ (bR (a || b)) := fun H0 σ G H z e n Q q => h1 H0 σ G H z e n _ fun v G1 H1 s1 pv => ⟨a, pv, by
  cases a with
  | false =>
    show tb σ H1 Q
    exact h2 rfl H0 σ G1 H1 (z.trans s1.h) s1.i (n.step s1) Q fun v G2 H2 s2 p => q v G2 H2 (s1.trans s2) p
  | true =>
    show Q (.bl true) H1
    exact q _ G1 H1 s1 rfl⟩
theorem er_not {a : Bool} (h1 : ER ta ρ (bR a)) : ER (tNotV ta) ρ (bR (!a)) := fun H0 σ G H z e n Q q => h1 H0 σ G H z e n _ fun v G1 H1 s1 pv => ⟨a, pv, q _ G1 H1 s1 rfl⟩
theorem er_chain {f g : R2} {a b : Bool} (ha : ER ta ρ ra) (hb : ER tb ρ rb) (h1 : BR f ra rb (bR a)) (hc : ER tc ρ rc) (h2 : BR g rb rc (bR b)) : ER (tChain f g ta tb tc) ρ (bR (a && b)) := fun H0 σ G H z e n Q q =>
  ha H0 σ G H z e n _ fun x G1 H1 s1 px => hb H0 σ G1 H1 (z.trans s1.h) s1.i (n.step s1) _ fun y G2 H2 s2 py =>
    h1 x y G2 H2 s2.i (ra.mono s2.g px) py _ fun v G3 H3 s3 pv => ⟨a, pv, by
      cases a with
      | true =>
        show tc σ H3 fun w H4 => g y w H4 Q
        exact hc H0 σ G3 H3 (((z.trans s1.h).trans s2.h).trans s3.h) s3.i (((n.step s1).step s2).step s3) _ fun w G4 H4 s4 pw =>
          h2 y w G4 H4 s4.i (rb.mono (s3.g.trans s4.g) py) pw Q fun v G5 H5 s5 p => q v G5 H5 ((((s1.trans s2).trans s3).trans s4).trans s5) p
      | false =>
        show Q (.bl false) H3
        exact q _ G3 H3 ((s1.trans s2).trans s3) rfl⟩
end
end Rc
namespace Rc
open PySem PySem.Spec PyProof.Rows L2 Evl

/-! ### statements -/
inductive Fl where
  | nx (ρ : List Sl)
  | rt (r : Rp)
def Wt (D : Ends) (G0 H0 G : Hp) : Fl → Prop
  | .nx ρ => ∀ (σ' : L2.St) (G' H' : Hp), Ex G G' → Step G0 H0 G' H' → En H0 ρ σ' G' H' → D.nx σ' H'
  | .rt r => ∀ (v : V) (G' H' : Hp), Step G0 H0 G' H' → r.p v G' → D.rt v H'
def S (t : TS) (ρ : List Sl) (fl : Fl) : Prop := ∀ (G0 H0 : Hp) (σ : L2.St) (G H : Hp), Step G0 H0 G H → En H0 ρ σ G H → ∀ D : Ends, Wt D G0 H0 G fl → t D σ H
def Le (ρ ρ' : List Sl) : Prop := ∀ (H0 : Hp) (σ : L2.St) (G H : Hp), En H0 ρ σ G H → En H0 ρ' σ G H
theorem Le.refl (ρ : List Sl) : Le ρ ρ := fun _ _ _ _ h => h
theorem Le.trans {ρ ρ1 ρ2 : List Sl} (a : Le ρ ρ1) (b : Le ρ1 ρ2) : Le ρ ρ2 := fun H0 σ G H h => b H0 σ G H (a H0 σ G H h)
theorem Le.no (ρ : List Sl) (i : Nat) : Le ρ (ρ.set i .no) := fun _ _ _ _ h => h.forget i
theorem Le.of {ρ ρ' : List Sl} (h : ρ = ρ') : Le ρ ρ' := h ▸ Le.refl ρ
theorem Wt.mono {D : Ends} {G0 H0 G G' : Hp} {fl : Fl} (e : Ex G G') (w : Wt D G0 H0 G fl) : Wt D G0 H0 G' fl := by
  cases fl with
  | nx ρ => exact fun σ2 G2 H2 e2 s n => w σ2 G2 H2 (e.trans e2) s n
  | rt r => exact w
section
variable {K : PySem.W.Frag} {ρ ρ1 ρ2 : List Sl} {fl : Fl} {t u : TS} {c : TT} {te : TE} {r : Rp}
theorem s_le (h : Le ρ ρ1) (k : S t ρ1 fl) : S t ρ fl := fun G0 H0 σ G H s n D w => k G0 H0 σ G H s (h _ _ _ _ n) D w
theorem s_le2 (k : S t ρ (.nx ρ1)) (h : Le ρ1 ρ2) : S t ρ (.nx ρ2) := fun G0 H0 σ G H s n D w => k G0 H0 σ G H s n D fun σ2 G2 H2 e s2 n2 => w σ2 G2 H2 e s2 (h _ _ _ _ n2)
theorem s_next : S tNext ρ (.nx ρ) := fun G0 H0 σ G H s n D w => w σ G H (Ex.refl G) s n
theorem s_ret (h : ER te ρ r) : S (tRet te) ρ (.rt r) := fun G0 H0 σ G H s n D w => h H0 σ G H s.h s.i n D.rt fun v G2 H2 s2 p => w v G2 H2 (s.trans s2) p
theorem s_retN : S tRetN ρ (.rt nR) := fun G0 H0 σ G H s n D w => w .non G H s rfl
theorem s_seq (h : S t ρ (.nx ρ1)) (k : S u ρ1 fl) : S (tSeq t u) ρ fl := fun G0 H0 σ G H s n D w =>
  h G0 H0 σ G H s n { D with nx := u D } fun σ2 G2 H2 e s2 n2 => k G0 H0 σ2 G2 H2 s2 n2 D (w.mono e)
theorem s_seqR (h : S t ρ (.rt r)) : S (tSeq t u) ρ (.rt r) := fun G0 H0 σ G H s n D w => h G0 H0 σ G H s n { D with nx := u D } w
theorem s_drop (h : ER te ρ r) : S (tDrop te) ρ (.nx ρ) := fun G0 H0 σ G H s n D w => h H0 σ G H s.h s.i n _ fun v G2 H2 s2 p => w σ G2 H2 s2.g (s.trans s2) (n.step s2)
theorem s_if {b : Bool} (h : TR c ρ b) (h1 : b = true → S t ρ fl) (h2 : b = false → S u ρ fl) : S (tIfS c t u) ρ fl := fun G0 H0 σ G H s n D w =>
  h H0 σ G H s.h s.i n _ fun G2 H2 s2 => by
    cases b with
    | true =>
      show t D σ H2
      exact h1 rfl G0 H0 σ G2 H2 (s.trans s2) (n.step s2) D (w.mono s2.g)
    | false =>
      show u D σ H2
      exact h2 rfl G0 H0 σ G2 H2 (s.trans s2) (n.step s2) D (w.mono s2.g)
theorem s_ifT (h : TR c ρ true) (h1 : S t ρ fl) : S (tIfS c t u) ρ fl := s_if h (fun _ => h1) fun z => nomatch z
theorem s_ifF (h : TR c ρ false) (h1 : S u ρ fl) : S (tIfS c t u) ρ fl := s_if h (fun z => nomatch z) fun _ => h1
/-! targets: is are the slots that are written -/
def GR (g : TG) (is : List Nat) (r : Rp) (ρ ρ' : List Sl) : Prop := ∀ (H0 : Hp) (σ : L2.St) (G H : Hp) (v : V), Ex G H → En H0 ρ σ G H → r.p v G →
  ∀ Q : L2.St → Hp → Prop, (∀ σ', En H0 ρ' σ' G H → (∀ vs : List Nat, (∀ i ∈ is, i ∈ vs) → wipe σ' vs = wipe σ vs) → Q σ' H) → g v σ H Q
def GsR (g : TGs) (is : List Nat) (rs : List Rp) (ρ ρ' : List Sl) : Prop := ∀ (H0 : Hp) (σ : L2.St) (G H : Hp) (vs : List V), Ex G H → En H0 ρ σ G H → Al rs vs G →
  ∀ Q : L2.St → Hp → Prop, (∀ σ', En H0 ρ' σ' G H → (∀ vs : List Nat, (∀ i ∈ is, i ∈ vs) → wipe σ' vs = wipe σ vs) → Q σ' H) → g vs σ H Q
theorem wipe_set {σ : L2.St} {i : Nat} {x : Option V} : ∀ {vs : List Nat}, i ∈ vs → wipe (σ.set i x) vs = wipe σ vs
  | v :: vs, h => by
    show (wipe (σ.set i x) vs).set v none = (wipe σ vs).set v none
    by_cases c : i ∈ vs
    · rw [wipe_set c]
    · have e : i = v := by
        rcases List.mem_cons.mp h with z | z
        · exact z
        · exact absurd z c
      subst e
      apply List.ext_getElem?
      intro j
      by_cases hj : i = j
      · subst hj
        rw [List.getElem?_set_self', List.getElem?_set_self']
        have f : ∀ (ws : List Nat), i ∉ ws → (wipe (σ.set i x) ws)[i]?.isSome = (wipe σ ws)[i]?.isSome := fun ws hw => by
          rw [wipe_out hw, wipe_out hw, List.getElem?_set_self']
          cases σ[i]? <;> rfl
        have f := f vs c
        cases h1 : (wipe (σ.set i x) vs)[i]? <;> cases h2 : (wipe σ vs)[i]? <;> simp [h1, h2] at f ⊢
      · rw [List.getElem?_set_ne hj, List.getElem?_set_ne hj]
        by_cases hv : j ∈ vs
        · have g : ∀ (τ : L2.St) (ws : List Nat), j ∈ ws → (wipe τ ws)[j]? = if j < τ.length then some none else none := by
            intro τ ws
            induction ws with
            | nil => intro z; cases z
            | cons w ws ih =>
              intro z
              show ((wipe τ ws).set w none)[j]? = _
              by_cases cw : w = j
              · subst cw
                rw [List.getElem?_set_self']
                by_cases hl : w < τ.length
                · rw [if_pos hl, List.getElem?_eq_getElem (by rw [wipe_length]; exact hl)]
                  rfl
                · rw [if_neg hl, List.getElem?_eq_none (by rw [wipe_length]; omega)]
                  rfl
              · rw [List.getElem?_set_ne cw]
                rcases List.mem_cons.mp z with q | q
                · exact absurd q.symm cw
                · exact ih q
          rw [g _ _ hv, g _ _ hv, List.length_set]
        · rw [wipe_out hv, wipe_out hv, List.getElem?_set_ne hj]
theorem wipe_wipe (σ : L2.St) (vs : List Nat) : wipe (wipe σ vs) vs = wipe σ vs := by
  have h : ∀ (ws : List Nat), (∀ i ∈ ws, i ∈ vs) → wipe (wipe σ ws) vs = wipe σ vs := by
    intro ws
    induction ws with
    | nil => intro _; rfl
    | cons w ws ih =>
      intro h
      show wipe ((wipe σ ws).set w none) vs = _
      rw [wipe_set (h w List.mem_cons_self)]
      exact ih fun i hi => h i (List.mem_cons_of_mem _ hi)
  exact h vs fun _ h => h
theorem g_name {i : Nat} : GR (gName i) [i] r ρ (ρ.set i (.r r)) := fun H0 σ G H v e n p Q q => q _ (n.set p i) fun vs h => wipe_set (h i List.mem_cons_self)
theorem gs_nil : GsR gNil [] [] ρ ρ := fun H0 σ G H vs e n p Q q => ⟨al0 p, q _ n fun _ _ => rfl⟩
theorem gs_cons {g : TG} {gs : TGs} {is js : List Nat} {rs : List Rp} (h : GR g is r ρ ρ1) (k : GsR gs js rs ρ1 ρ2) : GsR (gCons g gs) (is ++ js) (r :: rs) ρ ρ2 := fun H0 σ G H vs e n p Q q => by
  obtain ⟨v, ws, e1, p1, p2⟩ := alc p
  exact ⟨v, ws, e1, h H0 σ G H v e n p1 _ fun σ1 n1 w1 => k H0 σ1 G H ws e n1 p2 _ fun σ2 n2 w2 => q σ2 n2 fun vs hv => by
    rw [w2 vs fun i hi => hv i (List.mem_append_right _ hi), w1 vs fun i hi => hv i (List.mem_append_left _ hi)]⟩
theorem g_tup {gs : TGs} {is : List Nat} {rs : List Rp} {n : Nat} (h : GsR gs is rs ρ ρ1) (hl : rs.length = n := by rfl) : GR (gTup K n gs) is (tR K rs) ρ ρ1 := fun H0 σ G H v e en p Q q => by
  obtain ⟨a, vs, e1, h1, h2⟩ := p
  exact ⟨a, vs, e1, ex_t e h1, by rw [← h2.len]; exact hl, h H0 σ G H vs e en h2 Q q⟩
theorem g_two {i j : Nat} {r1 r2 : Rp} : GR (gTup K 2 (gCons (gName i) (gCons (gName j) gNil))) [i, j] (tR K [r1, r2]) ρ ((ρ.set i (.r r1)).set j (.r r2)) := g_tup (gs_cons g_name (gs_cons g_name gs_nil))
theorem g_three {i j k : Nat} {r1 r2 r3 : Rp} : GR (gTup K 3 (gCons (gName i) (gCons (gName j) (gCons (gName k) gNil)))) [i, j, k] (tR K [r1, r2, r3]) ρ (((ρ.set i (.r r1)).set j (.r r2)).set k (.r r3)) := g_tup (gs_cons g_name (gs_cons g_name (gs_cons g_name gs_nil)))
theorem s_asg {g : TG} {is : List Nat} (h : ER te ρ r) (k : GR g is r ρ ρ1) : S (tAsg te g) ρ (.nx ρ1) := fun G0 H0 σ G H s n D w =>
  h H0 σ G H s.h s.i n _ fun v G2 H2 s2 p => k H0 σ G2 H2 v s2.i (n.step s2) p _ fun σ' n' _ => w σ' G2 H2 s2.g (s.trans s2) n'
theorem s_set {i : Nat} (h : ER te ρ r) : S (tAsg te (gName i)) ρ (.nx (ρ.set i (.r r))) := s_asg h g_name
theorem s_par {i j : Nat} {ta : TA} {r1 r2 : Rp} (h : AR ta ρ [r1, r2]) : S (tPar i j ta) ρ (.nx ((ρ.set i (.r r1)).set j (.r r2))) := fun G0 H0 σ G H s n D w =>
  h H0 σ G H s.h s.i n _ fun vs G2 H2 s2 p => by
    obtain ⟨v, x, e, p1, p2⟩ := al2 p
    exact ⟨v, x, e, w _ G2 H2 s2.g (s.trans s2) (((n.step s2).set p1 i).set p2 j)⟩
/-! own lists -/
/-- a display [..] that will be changed -/
theorem s_own {i : Nat} {ta : TA} {rs : List Rp} (h : AR ta ρ rs) (hl : rs.length ≤ 100000 := by exact Nat.le_of_ble_eq_true rfl) : S (tAsg (tLst ta) (gName i)) ρ (.nx (ρ.set i (.l rs))) := fun G0 H0 σ G H s n D w =>
  h H0 σ G H s.h s.i n _ fun vs G2 H2 s2 p => ⟨by rw [← p.len]; exact sz_of hl, fun a ha => by
    have st : Step G0 H0 G2 H2 := s.trans s2
    have ex : Ex H2 (upd H2 a (.lst vs)) := Ex.new ha
    exact w _ G2 _ s2.g ⟨st.g, st.h.trans ex, st.i.trans ex, st.n⟩ ((n.step s2).own (rs := .l rs) (vs := .lst vs) s2.i st.h ha ⟨vs, rfl, p⟩ i)⟩
theorem Step.mut {G0 H0 G H : Hp} {p : Addr} {o : HO} (s : Step G0 H0 G H) (h0 : H0 p = none) (hg : G p = none) : Step G0 H0 G (upd H p o) :=
  ⟨s.g, Ex.mut s.h h0, Ex.mut s.i hg, s.n⟩
theorem s_app {i : Nat} {rs : List Rp} (hi : ρ[i]? = some (.l rs)) (h : ER te ρ r) (hz : rs.length < 100000) :
    S (tDrop (tBM K "list" rAppend (tVar i) (tCons te tNil))) ρ (.nx (ρ.set i (.l (rs ++ [r])))) := fun G0 H0 σ G H s n D w => by
  obtain ⟨p, _, e1, e2, ⟨vs, rfl, e3⟩, e4, e5⟩ := n.ow i (.l rs) hi
  refine ⟨.ref p, e1, Or.inl ⟨rfl, vs, SqL.of e2⟩, ?_⟩
  refine h H0 σ G H s.h s.i n _ fun v G2 H2 s2 pv => ?_
  have n2 := n.step s2
  obtain ⟨p', _, f1, f2, ⟨vs', rfl, f3⟩, f4, f5⟩ := n2.ow i (.l rs) hi
  rw [e1] at f1
  cases f1
  refine ⟨p, vs', v, rfl, rfl, f2, by rw [← f3.len]; exact sz_lt hz, ?_⟩
  exact w σ G2 _ s2.g ((s.trans s2).mut f5 f4) (n2.put hi e1 ⟨_, rfl, f3.snoc pv⟩)
theorem s_ext {i : Nat} {rs rs' : List Rp} (hi : ρ[i]? = some (.l rs)) (h : ER te ρ (lR rs')) (hz : rs.length + rs'.length ≤ 100000) :
    S (tDrop (tBM K "list" rExtend (tVar i) (tCons te tNil))) ρ (.nx (ρ.set i (.l (rs ++ rs')))) := fun G0 H0 σ G H s n D w => by
  obtain ⟨p, _, e1, e2, ⟨vs, rfl, e3⟩, e4, e5⟩ := n.ow i (.l rs) hi
  refine ⟨.ref p, e1, Or.inl ⟨rfl, vs, SqL.of e2⟩, ?_⟩
  refine h H0 σ G H s.h s.i n _ fun v G2 H2 s2 ⟨b, ws, eb, hb, ab⟩ => ?_
  have n2 := n.step s2
  obtain ⟨p', _, f1, f2, ⟨vs', rfl, f3⟩, f4, f5⟩ := n2.ow i (.l rs) hi
  rw [e1] at f1
  cases f1
  subst eb
  refine ⟨p, b, vs', ws, rfl, rfl, f2, s2.i b _ hb, by rw [← f3.len, ← ab.len]; exact sz_of hz, ?_⟩
  exact w σ G2 _ s2.g ((s.trans s2).mut f5 f4) (n2.put hi e1 ⟨_, rfl, f3.app ab⟩)
/-- an own list isn't changed any more -/
theorem s_freezeO {o : Ow} (i : Nat) (hi : ρ[i]? = some (.w o)) (k : S t (ρ.set i (.r o.R)) fl) : S t ρ fl := fun G0 H0 σ G H s n D w => by
  obtain ⟨p, vs, e1, h0, hg, hh, _, n2⟩ := n.freeze hi s.i
  have ex : Ex G (upd G p vs) := Ex.new hg
  refine k G0 H0 σ _ H ⟨s.g.trans ex, s.h, fun a o q => ?_, fun a q1 q2 => ?_⟩ n2 D (w.mono ex)
  · by_cases c : a = p
    · subst c
      rw [upd_same] at q
      cases q
      exact hh
    · rw [upd_ne c] at q
      exact s.i a o q
  · have c : a ≠ p := fun z => q1 (by rw [z]; exact h0)
    rw [upd_ne c]
    exact s.n a q1 q2
theorem s_freeze {rs : List Rp} (i : Nat) (hi : ρ[i]? = some (.l rs)) (k : S t (ρ.set i (.r (lR rs))) fl) : S t ρ fl := s_freezeO i hi k
/-- a field of an own instance is stored -/
theorem AlF.put {H : Hp} {f : Str} {r : Rp} {v : V} (hv : r.p v H) : ∀ {fs : List (Str × Rp)} {kvs : List (Str × V)}, AlF fs kvs H → fs.lookup f = none → AlF (fs ++ [(f, r)]) (putF f v kvs) H
  | [], [], _, _ => ⟨rfl, hv, trivial⟩
  | [], _ :: _, h, _ => h.2.elim
  | _ :: _, [], h, _ => h.2.elim
  | (g, r') :: fs, (k, x) :: kvs, h, e => by
    obtain ⟨h1, h2, h3⟩ := h
    have hk : k = g := (List.cons.inj h1).1
    subst hk
    have c : (f == k) = false := by
      cases c : f == k
      · rfl
      · simp only [List.lookup, c] at e
        cases e
    have ne : ¬ k = f := fun z => by
      rw [z, beq_self_eq_true] at c
      cases c
    simp only [List.lookup, c] at e
    obtain ⟨i1, i2⟩ := AlF.put hv (fs := fs) (kvs := kvs) ⟨(List.cons.inj h1).2, h3⟩ e
    have q : putF f v ((k, x) :: kvs) = (k, x) :: putF f v kvs := if_neg ne
    rw [q]
    exact ⟨congrArg (k :: ·) i1, h2, i2⟩
theorem AlF.len {H : Hp} {fs : List (Str × Rp)} {kvs : List (Str × V)} (h : AlF fs kvs H) : kvs.length = fs.length := by
  have := congrArg List.length h.1
  simpa using this
theorem s_fldO {i : Nat} {a C : Addr} {f : Str} {fs : List (Str × Rp)} (hi : ρ[i]? = some (.w (.i a C fs))) (hc : Cls K C) (hn : NoAttr K C f) (hf : fs.lookup f = none) (hl : fs.length < 900) (h : ER te ρ r) :
    S (sFld K (tVar i) te f) ρ (.nx (ρ.set i (.w (.i a C (fs ++ [(f, r)]))))) := fun G0 H0 σ G H s n D w =>
  h H0 σ G H s.h s.i n _ fun v G2 H2 s2 pv => by
  have n2 := n.step s2
  obtain ⟨p, _, f1, f2, ⟨rfl, dx, kvs, rfl, f3⟩, f4, f5⟩ := n2.ow i _ hi
  refine ⟨.ref p, f1, p, C, dx, kvs, rfl, f2, hc, hn, by rw [f3.len]; omega, ?_⟩
  exact w σ G2 _ s2.g ((s.trans s2).mut f5 f4) (n2.put hi f1 ⟨rfl, dx, _, rfl, f3.put pv hf⟩)
/-- len, item of an own list -/
theorem er_ownLen {i : Nat} {rs : List Rp} (hi : ρ[i]? = some (.l rs)) : ER (tCB (fun xs H Q => ∃ p ys, xs = [.ref p] ∧ (SqL K H p ys ∨ SqT K H p ys) ∧ Q (.int ys.length) H) (tCons (tVar i) tNil)) ρ (iR rs.length) := fun H0 σ G H z e n Q q => by
  obtain ⟨p, _, e1, e2, ⟨vs, rfl, e3⟩, e4, e5⟩ := n.ow i (.l rs) hi
  refine ⟨.ref p, e1, p, vs, rfl, .inl (SqL.of e2), ?_⟩
  rw [← e3.len]
  exact q _ G H (Step.refl e) rfl
theorem er_ownIx {i : Nat} {rs : List Rp} {j : Int} (hi : ρ[i]? = some (.l rs)) (h : ER te ρ (iR j)) (ha : atI rs j = some r) : ER (tOp (rIxL K) (tVar i) te) ρ r := fun H0 σ G H z e n Q q => by
  obtain ⟨p, _, e1, e2, ⟨vs, rfl, e3⟩, e4, e5⟩ := n.ow i (.l rs) hi
  refine ⟨.ref p, e1, h H0 σ G H z e n _ fun v G1 H1 s1 pv => ?_⟩
  obtain ⟨x, e6, hx⟩ := e3.at ha
  exact ⟨p, vs, j, x, rfl, pv, SqL.of (s1.h p _ e2), e6, q x G1 H1 s1 (r.mono s1.g hx)⟩
/-! ### while -/
theorem s_while {α : Type} (I : α → Prop) (env : α → List Sl) (m : α → Nat) (a0 : α) (ha : I a0) (h0 : Le ρ (env a0)) (hs : ∀ a, I a →
    (TR c (env a) true ∧ ((∃ a', I a' ∧ m a' < m a ∧ S t (env a) (.nx (env a'))) ∨ (∃ r, fl = .rt r ∧ S t (env a) (.rt r)))) ∨ (TR c (env a) false ∧ ∃ ρ', fl = .nx ρ' ∧ Le (env a) ρ')) : S (tWhile c t) ρ fl := fun G0 H0 σ G H s n D w => by
  refine ⟨fun k σ' H' => ∃ a G', I a ∧ m a = k ∧ Ex G G' ∧ Step G0 H0 G' H' ∧ En H0 (env a) σ' G' H', ⟨m a0, a0, G, ha, rfl, Ex.refl G, s, h0 _ _ _ _ n⟩, ?_⟩
  rintro k σ1 H1 ⟨a, G1, ia, rfl, eg, s1, n1⟩
  rcases hs a ia with ⟨hc, hb⟩ | ⟨hc, ρ', e, le⟩
  · refine hc H0 σ1 G1 H1 s1.h s1.i n1 _ fun G2 H2 s2 => ?_
    rw [if_pos rfl]
    rcases hb with ⟨a', ia', lt, k⟩ | ⟨r, e, k⟩
    · refine ⟨fun σ' H' => ∃ G', Ex G G' ∧ Step G0 H0 G' H' ∧ En H0 (env a') σ' G' H', fun σ' H' ⟨G', x1, x2, x3⟩ => ⟨m a', lt, a', G', ia', rfl, x1, x2, x3⟩, ?_⟩
      exact k G0 H0 σ1 G2 H2 (s1.trans s2) (n1.step s2) _ fun σ3 G3 H3 e3 s3 n3 => ⟨G3, (eg.trans s2.g).trans e3, s3, n3⟩
    · subst e
      refine ⟨fun _ _ => False, fun _ _ z => z.elim, ?_⟩
      exact k G0 H0 σ1 G2 H2 (s1.trans s2) (n1.step s2) _ w
  · subst e
    refine hc H0 σ1 G1 H1 s1.h s1.i n1 _ fun G2 H2 s2 => ?_
    rw [if_neg Bool.false_ne_true]
    exact w σ1 G2 H2 (eg.trans s2.g) (s1.trans s2) (le _ _ _ _ (n1.step s2))
/-! ### what is walked -/
structure Wk (J : It) (G1 : Hp) (rs : List Rp) : Prop where
  go : ∀ (i : Nat) (G H : Hp), Ex G1 G → Ex G H → i < rs.length → J.go i H
  yl : ∀ (i : Nat) (G H : Hp) (x : V) (H2 : Hp), Ex G1 G → Ex G H → J.yld i H x H2 → ∀ r, rs[i]? = some r → ∃ G2, Step G H G2 H2 ∧ r.p x G2
  st : ∀ (G H : Hp), Ex G1 G → Ex G H → J.stop rs.length H
def IR (wi : TI) (ρ : List Sl) (rs : List Rp) : Prop := ∀ (H0 : Hp) (σ : L2.St) (G H : Hp), Ex H0 H → Ex G H → En H0 ρ σ G H → ∀ R : It → Hp → Prop, (∀ J G1 H1, Step G H G1 H1 → Wk J G1 rs → R J H1) → wi σ H R
theorem ir_list {rs : List Rp} (h : ER te ρ (sR K rs)) : IR (iList K te) ρ rs := fun H0 σ G H z e n R q => h H0 σ G H z e n _ fun v G1 H1 s1 ⟨a, vs, e1, h1, h2⟩ => by
  refine ⟨a, e1, ⟨vs, ex_l s1.i h1⟩, q _ G1 H1 s1 ⟨fun i G' H' x1 x2 hi => ?_, fun i G' H' x H2 x1 x2 y r hr => ?_, fun G' H' x1 x2 => ?_⟩⟩
  · have hv : i < vs.length := by rw [← h2.len]; exact hi
    exact ⟨vs, vs[i], ex_l (x1.trans x2) h1, by simp [hv]⟩
  · obtain ⟨e2, y⟩ := y
    subst e2
    obtain ⟨v', e3, pv⟩ := h2.get hr
    have := y vs (ex_l (x1.trans x2) h1)
    rw [e3] at this
    cases this
    exact ⟨G', Step.refl x2, r.mono x1 pv⟩
  · exact ⟨vs, ex_l (x1.trans x2) h1, by rw [← h2.len]; exact Nat.le_refl _⟩
theorem ir_tup {rs : List Rp} (h : ER te ρ (tR K rs)) : IR (iTup K te) ρ rs := fun H0 σ G H z e n R q => h H0 σ G H z e n _ fun v G1 H1 s1 ⟨a, vs, e1, h1, h2⟩ => by
  refine ⟨a, e1, ⟨vs, ex_t s1.i h1⟩, q _ G1 H1 s1 ⟨fun i G' H' x1 x2 hi => ?_, fun i G' H' x H2 x1 x2 y r hr => ?_, fun G' H' x1 x2 => ?_⟩⟩
  · have hv : i < vs.length := by rw [← h2.len]; exact hi
    exact ⟨vs, vs[i], ex_t (x1.trans x2) h1, by simp [hv]⟩
  · obtain ⟨e2, y⟩ := y
    subst e2
    obtain ⟨v', e3, pv⟩ := h2.get hr
    have := y vs (ex_t (x1.trans x2) h1)
    rw [e3] at this
    cases this
    exact ⟨G', Step.refl x2, r.mono x1 pv⟩
  · exact ⟨vs, ex_t (x1.trans x2) h1, by rw [← h2.len]; exact Nat.le_refl _⟩
def rgR (lo : Int) (n : Nat) : List Rp := (List.range n).map fun i : Nat => iR (lo + (i : Int))
theorem rgR_len (lo : Int) (n : Nat) : (rgR lo n).length = n := by unfold rgR; simp
theorem rgR_get {lo : Int} {n i : Nat} {r : Rp} (h : (rgR lo n)[i]? = some r) : i < n ∧ r = iR (lo + (i : Int)) := by
  unfold rgR at h
  have hi : i < n := by
    have := (List.getElem?_eq_some_iff.mp h).1
    simpa using this
  rw [List.getElem?_map, List.getElem?_range hi] at h
  exact ⟨hi, (Option.some.inj h).symm⟩
theorem wk_rng {G1 : Hp} (lo : Int) (n : Nat) : Wk (Itr lo n) G1 (rgR lo n) := ⟨fun i G H x1 x2 hi => by rw [rgR_len] at hi; exact hi, fun i G H x H2 x1 x2 y r hr => by
  obtain ⟨e1, e2⟩ := y
  subst e1
  obtain ⟨hi, er⟩ := rgR_get hr
  subst er
  exact ⟨G, Step.refl x2, e2⟩, fun G H x1 x2 => by rw [rgR_len]; exact Nat.le_refl n⟩
theorem ir_rng1 {ta : TA} {n : Int} (h : AR ta ρ [iR n]) (hn : -1000000 ≤ n ∧ n ≤ 1000000) : IR (iRng1 ta) ρ (rgR 0 n.toNat) := fun H0 σ G H z e en R q => h H0 σ G H z e en _ fun vs G1 H1 s1 p => by
  obtain ⟨v, e1, p⟩ := al1 p
  have p : v = .int n := p
  subst p
  exact ⟨n, e1, by omega, by omega, q _ G1 H1 s1 (wk_rng 0 _)⟩
theorem ir_rng2 {ta : TA} {i n : Int} (h : AR ta ρ [iR i, iR n]) (hi : -1000000 ≤ i ∧ i ≤ 1000000) (hn : -1000000 ≤ n ∧ n ≤ 1000000) : IR (iRng2 ta) ρ (rgR i (n - i).toNat) := fun H0 σ G H z e en R q => h H0 σ G H z e en _ fun vs G1 H1 s1 p => by
  obtain ⟨v, v', e1, p, p'⟩ := al2 p
  have p : v = .int i := p
  have p' : v' = .int n := p'
  subst p
  subst p'
  exact ⟨i, n, e1, by omega, q _ G1 H1 s1 (wk_rng i _)⟩
section
variable (K : PySem.W.Frag)
def enR (rs : List Rp) : List Rp := (List.range rs.length).map fun i : Nat => tR K [iR (i : Int), rs.getD i nR]
end
theorem enR_len (rs : List Rp) : (enR K rs).length = rs.length := by unfold enR; simp
theorem enR_get {rs : List Rp} {i : Nat} {r : Rp} (h : (enR K rs)[i]? = some r) : ∃ x, rs[i]? = some x ∧ r = tR K [iR (i : Int), x] := by
  have hi : i < rs.length := by
    have := (List.getElem?_eq_some_iff.mp h).1
    rw [enR_len] at this
    exact this
  unfold enR at h
  rw [List.getElem?_map, List.getElem?_range hi] at h
  refine ⟨rs[i], by simp [hi], ?_⟩
  rw [← Option.some.inj h]
  simp [hi]
theorem ir_enum {ta : TA} {rs : List Rp} (h : AR ta ρ [sR K rs]) : IR (iEnum K ta) ρ (enR K rs) := fun H0 σ G H z e n R q => h H0 σ G H z e n _ fun vs0 G1 H1 s1 p => by
  obtain ⟨v, e0, a, vs, e1, h1, h2⟩ := al1 p
  subst e1
  refine ⟨a, vs, e0, ex_l s1.i h1, q _ G1 H1 s1 ⟨fun i G' H' x1 x2 hi => ?_, fun i G' H' x H2 x1 x2 y r hr => ?_, fun G' H' x1 x2 => ?_⟩⟩
  · have hv : i < vs.length := by rw [← h2.len, ← enR_len (K := K)]; exact hi
    exact ⟨vs, vs[i], ex_l (x1.trans x2) h1, by simp [hv]⟩
  · obtain ⟨T, x', e2, hT, e3, y⟩ := y
    subst e2 e3
    obtain ⟨rx, er, erp⟩ := enR_get hr
    subst erp
    obtain ⟨v', e4, pv⟩ := h2.get er
    have hx := y vs (ex_l (x1.trans x2) h1)
    rw [e4] at hx
    cases hx
    have s := Step.new (o := .tup [.int (i : Nat), x']) x2 hT
    exact ⟨_, s, T, _, rfl, st_of upd_same, rfl, rx.mono (x1.trans s.g) pv, trivial⟩
  · exact ⟨vs, ex_l (x1.trans x2) h1, by rw [← h2.len, enR_len]; exact Nat.le_refl _⟩
theorem s_for {wi : TI} {g : TG} {rs : List Rp} (hi : IR wi ρ rs) (n : Nat) (ρs : Nat → List Sl) (h0 : Le ρ (ρs 0)) (hn : n ≤ rs.length)
    (hs : ∀ (i : Nat) (r : Rp), i < n → rs[i]? = some r → ∃ is ρ', GR g is r (ρs i) ρ' ∧ S t ρ' (.nx (ρs (i + 1))))
    (hd : (n = rs.length ∧ ∃ ρ', fl = .nx ρ' ∧ Le (ρs n) ρ') ∨ ∃ rn r is ρ', rs[n]? = some rn ∧ fl = .rt r ∧ GR g is rn (ρs n) ρ' ∧ S t ρ' (.rt r)) : S (tFor wi g t) ρ fl := fun G0 H0 σ G H s en D w =>
  hi H0 σ G H s.h s.i en _ fun J G1 H1 s1 wk => by
  refine ⟨fun i m σ' H' => m = rs.length - i ∧ i ≤ n ∧ ∃ G', Ex G1 G' ∧ Step G0 H0 G' H' ∧ En H0 (ρs i) σ' G' H', ⟨rs.length - 0, rfl, Nat.zero_le _, G1, Ex.refl G1, s.trans s1, h0 _ _ _ _ (en.step s1)⟩, ?_⟩
  rintro i m σ1 H2 ⟨rfl, hin, G2, x2, s2, n2⟩
  by_cases hlt : i < n
  · have hil : i < rs.length := Nat.lt_of_lt_of_le hlt hn
    refine .inr ⟨wk.go i G2 H2 x2 s2.i hil, fun σ' H' => ∃ G', Ex G1 G' ∧ Step G0 H0 G' H' ∧ En H0 (ρs (i + 1)) σ' G' H', fun σ' H' q => ⟨rs.length - (i + 1), by omega, rfl, hlt, q⟩, fun x H3 y => ?_⟩
    obtain ⟨is, ρ', hg, hb⟩ := hs i rs[i] hlt (by simp [hil])
    obtain ⟨G3, s3, p3⟩ := wk.yl i G2 H2 x H3 x2 s2.i y rs[i] (by simp [hil])
    refine hg H0 σ1 G3 H3 x s3.i (n2.step s3) p3 _ fun σ4 n4 _ => ?_
    exact hb G0 H0 σ4 G3 H3 (s2.trans s3) n4 _ fun σ5 G5 H5 x5 s5 n5 => ⟨G5, (x2.trans s3.g).trans x5, s5, n5⟩
  · have e : i = n := by omega
    subst e
    rcases hd with ⟨e, ρ', e2, le⟩ | ⟨rn, r, is, ρ', hr, e2, hg, hb⟩
    · subst e2
      refine .inl ⟨by rw [e]; exact wk.st G2 H2 x2 s2.i, w σ1 G2 H2 (s1.g.trans x2) s2 (le _ _ _ _ n2)⟩
    · subst e2
      have hil : i < rs.length := (List.getElem?_eq_some_iff.mp hr).1
      refine .inr ⟨wk.go i G2 H2 x2 s2.i hil, fun _ _ => False, fun _ _ z => z.elim, fun x H3 y => ?_⟩
      obtain ⟨G3, s3, p3⟩ := wk.yl i G2 H2 x H3 x2 s2.i y rn hr
      refine hg H0 σ1 G3 H3 x s3.i (n2.step s3) p3 _ fun σ4 n4 _ => ?_
      exact hb G0 H0 σ4 G3 H3 (s2.trans s3) n4 _ w
/-! ### comprehensions -/
def gv (n : Nat) (b : Nat → Bool) (f : Nat → Rp) : List Rp := ((List.range n).filter b).map f
theorem gv_yes {n : Nat} {b : Nat → Bool} {f : Nat → Rp} (h : b n = true) : gv (n + 1) b f = gv n b f ++ [f n] := by
  unfold gv
  rw [List.range_succ, List.filter_append, List.map_append, List.filter_cons, if_pos h]
  rfl
theorem gv_no {n : Nat} {b : Nat → Bool} {f : Nat → Rp} (h : b n = false) : gv (n + 1) b f = gv n b f := by
  unfold gv
  rw [List.range_succ, List.filter_append, List.map_append, List.filter_cons, if_neg (by rw [h]; decide)]
  show _ ++ [] = _
  rw [List.append_nil]
theorem gv_len (n : Nat) (b : Nat → Bool) (f : Nat → Rp) : (gv n b f).length ≤ n := by
  unfold gv
  rw [List.length_map]
  have h := List.length_filter_le b (List.range n)
  rw [List.length_range] at h
  exact h
theorem er_lc {wi : TI} {g : TG} {tt : TT} {vs : List Nat} {rs : List Rp} (hi : IR wi ρ rs) (b : Nat → Bool) (f : Nat → Rp) (hz : rs.length ≤ 50000)
    (hs : ∀ (i : Nat) (r : Rp), rs[i]? = some r → ∃ is ρ', GR g is r (wipeS ρ vs) ρ' ∧ (∀ j ∈ is, j ∈ vs) ∧ TR tt ρ' (b i) ∧ (b i = true → ER te ρ' (f i))) :
    ER (tLc wi g tt te vs) ρ (lR (gv rs.length b f)) := fun H0 σ G H z e en Q q => hi H0 σ G H z e en _ fun J G1 H1 s1 wk D hD => by
  have hg1 : G1 D = none := fresh_back s1.i hD
  refine ⟨fun i m H' => m = rs.length - i ∧ i ≤ rs.length ∧ ∃ G' acc, Step G1 H1 G' H' ∧ G' D = none ∧ H' D = some (.lst acc) ∧ Al (gv i b f) acc G', ⟨rs.length - 0, rfl, Nat.zero_le _, G1, [], ?_, hg1, upd_same, trivial⟩, ?_⟩
  · exact ⟨Ex.refl _, Ex.new hD, s1.i.trans (Ex.new hD), fun _ _ h => h⟩
  rintro i m H2 ⟨rfl, hil, G2, acc, s2, hg2, hh2, al⟩
  by_cases hlt : i < rs.length
  · refine .inr ⟨wk.go i G2 H2 s2.g s2.i hlt, fun H' => ∃ G' acc, Step G1 H1 G' H' ∧ G' D = none ∧ H' D = some (.lst acc) ∧ Al (gv (i + 1) b f) acc G', fun H' p => ⟨rs.length - (i + 1), by omega, rfl, hlt, p⟩, fun x H3 y => ?_⟩
    have hri : rs[i]? = some rs[i] := by simp [hlt]
    obtain ⟨is, ρ', hg, his, ht, hb⟩ := hs i rs[i] hri
    obtain ⟨G3, s3, p3⟩ := wk.yl i G2 H2 x H3 s2.g s2.i y rs[i] hri
    have n3 : En H0 (wipeS ρ vs) (wipe σ vs) G3 H3 := (((en.step s1).step s2).step s3).wipe vs
    refine hg H0 (wipe σ vs) G3 H3 x s3.i n3 p3 _ fun σ4 n4 w4 => ⟨by rw [w4 vs his, wipe_wipe], ?_⟩
    have z3 : Ex H0 H3 := ((z.trans s1.h).trans s2.h).trans s3.h
    refine ht H0 σ4 G3 H3 z3 s3.i n4 _ fun G4 H4 s4 => ?_
    have hD3 : G3 D = none := s3.n D (by rw [hh2]; exact fun z => nomatch z) hg2
    have hh3 : H3 D = some (.lst acc) := s3.h D _ hh2
    have hD4 : G4 D = none := s4.n D (by rw [hh3]; exact fun z => nomatch z) hD3
    have hh4 : H4 D = some (.lst acc) := s4.h D _ hh3
    cases hbi : b i with
    | false =>
      rw [if_neg Bool.false_ne_true]
      exact ⟨G4, acc, (s2.trans s3).trans s4, hD4, hh4, by rw [gv_no hbi]; exact al.mono (s3.g.trans s4.g)⟩
    | true =>
      rw [if_pos rfl]
      refine hb hbi H0 σ4 G4 H4 (z3.trans s4.h) s4.i (n4.step s4) _ fun v G5 H5 s5 pv => ?_
      have hh5 : H5 D = some (.lst acc) := s5.h D _ hh4
      have hD5 : G5 D = none := s5.n D (by rw [hh4]; exact fun z => nomatch z) hD4
      have s15 : Step G1 H1 G5 H5 := ((s2.trans s3).trans s4).trans s5
      refine ⟨acc, hh5, by rw [← al.len]; exact sz_lt (by have := gv_len i b f; omega), G5, acc ++ [v], s15.mut hD hD5, hD5, upd_same, ?_⟩
      rw [gv_yes hbi]
      exact (al.mono ((s3.g.trans s4.g).trans s5.g)).snoc pv
  · have ei : i = rs.length := by omega
    subst ei
    refine .inl ⟨wk.st G2 H2 s2.g s2.i, ?_⟩
    have ex : Ex G2 (upd G2 D (.lst acc)) := Ex.new hg2
    have sf : Step G1 H1 (upd G2 D (.lst acc)) H2 := by
      refine ⟨s2.g.trans ex, s2.h, fun a o h => ?_, fun a h1 h2 => ?_⟩
      · by_cases c : a = D
        · subst c
          rw [upd_same] at h
          cases h
          exact hh2
        · rw [upd_ne c] at h
          exact s2.i a o h
      · have c : a ≠ D := fun q => h1 (by rw [q]; exact hD)
        rw [upd_ne c]
        exact s2.n a h1 h2
    exact q _ _ _ (s1.trans sf) ⟨D, acc, rfl, upd_same, al.mono ex⟩
/-- all are kept -/
theorem er_map {wi : TI} {g : TG} {vs : List Nat} {rs : List Rp} (hi : IR wi ρ rs) (f : Nat → Rp) (hz : rs.length ≤ 50000)
    (hs : ∀ (i : Nat) (r : Rp), rs[i]? = some r → ∃ is ρ', GR g is r (wipeS ρ vs) ρ' ∧ (∀ j ∈ is, j ∈ vs) ∧ ER te ρ' (f i)) :
    ER (tLc wi g tYes te vs) ρ (lR ((List.range rs.length).map f)) := by
  have h := er_lc (te := te) (tt := tYes) hi (fun _ => true) f hz fun i r hr => by
    obtain ⟨is, ρ', a, b, c⟩ := hs i r hr
    exact ⟨is, ρ', a, b, tr_yes, fun _ => c⟩
  refine er_eq h (congrArg lR ?_)
  unfold gv
  rw [List.filter_eq_self.mpr fun _ _ => rfl]
end

/-! ### promises -/
def Pm (pre : List Rp → Rp → Prop) : Sp := fun vs H Q _ => ∃ rs r G, pre rs r ∧ Ex G H ∧ Al rs vs G ∧ ∀ v G2 H2, Step G H G2 H2 → r.p v G2 → Q v H2
section
variable {K : PySem.W.Frag} {ρ : List Sl} {ta tb tc : TE} {r : Rp} {rs : List Rp} {pre : List Rp → Rp → Prop} {E : XK}
theorem er_call {t : TA} (h : AR t ρ rs) (hp : pre rs r) : ER (tCall (Pm pre) [] E t) ρ r := fun H0 σ G H z e n Q q => h H0 σ G H z e n _ fun vs G1 H1 s1 pv => by
  show Pm pre (vs ++ []) H1 Q E
  rw [List.append_nil]
  exact ⟨rs, r, G1, hp, s1.i, pv, fun v G2 H2 s2 p => q v G2 H2 (s1.trans s2) p⟩
def sls (N : List Str) (rs : List Rp) : List Sl := rs.map Sl.r ++ List.replicate (N.length - rs.length) .no
theorem al_len_le {N : Nat} {rs : List Rp} (h : rs.length = N) {M : Nat} (k : N ≤ M) : rs.length ≤ M := h ▸ k
theorem en_start {N : List Str} {rs : List Rp} {vs : List V} {G H : Hp} (hN : rs.length ≤ N.length) (h : Al rs vs G) : En H (sls N rs) (L2.start N vs) G H := by
  have hl := h.len
  have own : ∀ (i : Nat) (ws : Ow), (sls N rs)[i]? ≠ some (.w ws) := fun i ws q => by
    unfold sls at q
    by_cases hi : i < rs.length
    · rw [List.getElem?_append_left (by simpa using hi), List.getElem?_map] at q
      cases h1 : rs[i]? <;> rw [h1] at q <;> cases q
    · rw [List.getElem?_append_right (by simpa using hi), List.getElem?_replicate] at q
      split at q <;> cases q
  refine ⟨?_, fun i x hi => ?_, fun i ws q => absurd q (own i ws), fun i j ws _ _ _ q => absurd q (own i ws)⟩
  · unfold sls L2.start
    rw [List.length_append, List.length_map, List.length_replicate, List.length_append, List.length_map, List.length_replicate, hl]
  · unfold sls at hi
    by_cases hr : i < rs.length
    · rw [List.getElem?_append_left (by simpa using hr), List.getElem?_map] at hi
      cases h1 : rs[i]? with
      | none => rw [h1] at hi; cases hi
      | some y =>
        rw [h1] at hi
        cases hi
        obtain ⟨v, e, p⟩ := h.get h1
        refine ⟨v, ?_, p⟩
        unfold L2.start
        rw [List.getElem?_append_left (by rw [List.length_map, ← hl]; exact hr), List.getElem?_map, e]
        rfl
    · rw [List.getElem?_append_right (by simpa using hr), List.getElem?_replicate] at hi
      split at hi <;> cases hi
end
/-! ### instances are made -/
def less (H : Hp) (x : Addr) : Hp := fun b => if b = x then none else H b
theorem less_ex (H : Hp) (x : Addr) : Ex (less H x) H := fun a o h => by
  unfold less at h
  split at h
  · cases h
  · exact h
theorem less_ne {H : Hp} {x b : Addr} (h : b ≠ x) : less H x b = H b := if_neg h
theorem less_self {H : Hp} {x : Addr} : less H x x = none := if_pos rfl
def PmI (C : Addr) (pre : List Rp → List (Str × Rp) → Prop) : Sp := fun vs H Q _ => ∃ x dx ws rs fs G, vs = .ref x :: ws ∧ H x = some (.ins C dx []) ∧ G x = none ∧ Ex G H ∧ Al rs ws G ∧ pre rs fs ∧
  ∀ G' H' h, Step G (less H x) G' H' → H' x = some h → (Ow.i x C fs).P x h G' → G' x = none → Q .non H'
section
variable {K : PySem.W.Frag} {ρ : List Sl} {r : Rp} {rs : List Rp} {E : XK}
theorem er_make {C : Addr} {fs : List (Str × Rp)} {pre : List Rp → List (Str × Rp) → Prop} {t : TA} (h : AR t ρ rs) (hp : pre rs fs) : ER (tMake C (PmI C pre) [] E t) ρ (oR C fs) := fun H0 σ G H z e n Q q => h H0 σ G H z e n _ fun ws G1 H1 s1 pv x dx hx hdx hne => by
  have gx : G1 x = none := fresh_back s1.i hx
  have ex1 : Ex H1 (upd (upd H1 dx (.own x)) x (.ins C dx [])) := fun a o ha => by
    rw [upd_ne (ne_of_none ha hx), upd_ne (ne_of_none ha hdx)]
    exact ha
  refine ⟨x, dx, ws, rs, fs, G1, by rw [List.append_nil], upd_same, gx, s1.i.trans ex1, pv, hp, fun G' H' h' st hh ow gx' => ⟨rfl, ?_⟩⟩
  have ex : Ex G' (upd G' x h') := Ex.new gx'
  have eh : Ex H1 H' := fun a o ha => st.h a o (by
    have na : a ≠ x := ne_of_none ha hx
    rw [less_ne na]
    exact ex1 a o ha)
  have stf : Step G1 H1 (upd G' x h') H' := by
    refine ⟨st.g.trans ex, eh, fun a o ha => ?_, fun a h1 h2 => ?_⟩
    · by_cases c : a = x
      · subst c
        rw [upd_same] at ha
        cases ha
        exact hh
      · rw [upd_ne c] at ha
        exact st.i a o ha
    · have c : a ≠ x := fun q => h1 (by rw [q]; exact hx)
      rw [upd_ne c]
      refine st.n a ?_ h2
      rw [less_ne c]
      exact Ex.some ex1 h1
  exact q _ _ _ (s1.trans stf) (Ow.P.R (Ow.mono ex ow) upd_same)
theorem er_meth0 {C : Addr} {m : Str} {fs : List (Str × Rp)} {pre : List Rp → Rp → Prop} {te : TE} (h : ER te ρ (oR C fs)) (hl : fs.lookup m = none) (hp : pre [oR C fs] r) : ER (tMeth C m (Pm pre) [] E te tNil) ρ r := fun H0 σ G H z e n Q q =>
  h H0 σ G H z e n _ fun v G1 H1 s1 ⟨a, dx, kvs, e1, h1, h2⟩ => by
    refine ⟨a, dx, kvs, e1, s1.i a _ h1, h2.lookup_none hl, [oR C fs], r, G1, hp, s1.i, ⟨⟨a, dx, kvs, e1, h1, h2⟩, trivial⟩, fun v2 G2 H2 s2 p => q v2 G2 H2 (s1.trans s2) p⟩
end
section
variable {P : Program} {w : World} {K : PySem.W.Frag} {mg : Str → Option Value} {base : Heap}
/-- a def keeps its promise -/
theorem fn_ok {x qual : Str} {st : Stmt} {f : Addr} {fd : FuncData} {N ps : List Str} {k : Nat} {pre : List Rp → Rp → Prop} (F : Fun K x qual st f fd) (sc : FnScope N ps (defScope st)) (len : ∀ rs r, pre rs r → rs.length = ps.length)
    (hb : ∀ (cdv : Value) (A : Around) (outer : List Env) (s : Shared) (H : Hp) (E : XK), Room k (A.deeper (envOfC qual (defScope st) s.heap.objs.size f cdv)) →
      ∃ t, PSs (cxOf CX0 P w K mg base N qual (defScope st) f cdv A outer s H E).nox (defBody st) t ∧ ∀ rs r, pre rs r → S t (sls N rs) (.rt r)) : FnOk P w K mg base CX0 (k + 1) f fd ps (Pm pre) := by
  have hpl : ps.length ≤ N.length := by have := congrArg List.length sc.pre; rw [List.length_take] at this; omega
  refine F.ok sc (fun vs H Q E h => ?_) (fun cdv A outer s H vs Q E hr h => ?_)
  · obtain ⟨rs, r, G, hp, _, al, _⟩ := h
    rw [← al.len]
    exact len rs r hp
  · obtain ⟨rs, r, G, hp, ex, al, k⟩ := h
    obtain ⟨t, d, q⟩ := hb cdv A outer s H E hr
    exact ⟨t, d, q rs r hp G H _ G H (Step.refl ex) (en_start (by rw [len rs r hp]; exact hpl) al) _ fun v G2 H2 s2 p => k v G2 H2 s2 p⟩
/-- an __init__ -/
theorem fn_okI {C : Addr} {x qual : Str} {st : Stmt} {f : Addr} {fd : FuncData} {N ps : List Str} {k : Nat} {pre : List Rp → List (Str × Rp) → Prop} (F : Fun K x qual st f fd) (sc : FnScope N ps (defScope st)) (len : ∀ rs fs, pre rs fs → rs.length + 1 = ps.length)
    (hb : ∀ (cdv : Value) (A : Around) (outer : List Env) (s : Shared) (H : Hp) (E : XK), Room k (A.deeper (envOfC qual (defScope st) s.heap.objs.size f cdv)) →
      ∃ t, PSs (cxOf CX0 P w K mg base N qual (defScope st) f cdv A outer s H E).nox (defBody st) t ∧ ∀ a rs fs, pre rs fs → ∃ ρ', ρ'[0]? = some (.w (.i a C fs)) ∧ S t (.w (.i a C []) :: rs.map Sl.r ++ List.replicate (N.length - (rs.length + 1)) .no) (.nx ρ')) :
    FnOk P w K mg base CX0 (k + 1) f fd ps (PmI C pre) := by
  have hpl : ps.length ≤ N.length := by have := congrArg List.length sc.pre; rw [List.length_take] at this; omega
  refine F.ok sc (fun vs H Q E h => ?_) (fun cdv A outer s H vs Q E hr h => ?_)
  · obtain ⟨a, dx, ws, rs, fs, G, e1, _, _, _, al, hp, _⟩ := h
    rw [e1, List.length_cons, ← al.len]
    exact len rs fs hp
  · obtain ⟨a, dx, ws, rs, fs, G, e1, hx, gx, ex, al, hp, k⟩ := h
    obtain ⟨t, d, q⟩ := hb cdv A outer s H E hr
    obtain ⟨ρ', h0, q⟩ := q a rs fs hp
    subst e1
    refine ⟨t, d, q G (less H a) _ G H ⟨Ex.refl G, less_ex H a, ex, fun _ _ z => z⟩ ?_ _ fun σ' G' H' e2 s2 n2 => ?_⟩
    · have n0 : En H (sls N (nR :: rs)) (L2.start N (.non :: ws)) G H := en_start (by rw [List.length_cons, len rs fs hp]; exact hpl) ⟨rfl, al⟩
      have own : ∀ (i : Nat) (ws : Ow), (sls N (nR :: rs))[i]? ≠ some (.w ws) := fun i ws z => by
        unfold sls at z
        by_cases hi : i < (nR :: rs).length
        · rw [List.getElem?_append_left (by simpa using hi), List.getElem?_map] at z
          cases h1 : (nR :: rs)[i]? <;> rw [h1] at z <;> cases z
        · rw [List.getElem?_append_right (by simpa using hi), List.getElem?_replicate] at z
          split at z <;> cases z
      refine ⟨n0.len, fun i x hi => ?_, fun i o hi => ?_, fun i j o o' p hn hi hj => ?_⟩
      · match i with
        | 0 => cases hi
        | i + 1 => exact n0.rd (i + 1) x hi
      · match i with
        | 0 =>
          cases hi
          exact ⟨a, _, rfl, hx, ⟨rfl, dx, [], rfl, rfl, trivial⟩, gx, less_self⟩
        | i + 1 => exact absurd hi (own (i + 1) o)
      · match i, j with
        | 0, 0 => exact absurd rfl hn
        | 0, j + 1 => exact absurd hj (own (j + 1) o')
        | i + 1, _ => exact absurd hi (own (i + 1) o)
    · obtain ⟨p, h, _, hh, ow, gp, _⟩ := n2.ow 0 _ h0
      have e : p = a := ow.1
      subst e
      exact k G' H' h s2 hh ow gp
/-- a def that may be called by its name -/
structure Cb (P : Program) (w : World) (K : PySem.W.Frag) (mg : Str → Option Value) (base : Heap) (x : Str) (k : Nat) (ps : List Str) (pre : List Rp → Rp → Prop) : Prop where
  ex : ∃ f fd, FnOk P w K mg base CX0 k f fd ps (Pm pre) ∧ mg x = some (.ref f) ∧ PySem.W.keepIn K (.ref f) = true ∧ Binds K fd ps []
theorem pe_cb {X : Cx} {x : Str} {k : Nat} {ps : List Str} {pre : List Rp → Rp → Prop} {p pos : Pos} {e : Expr} {es : List Expr} {t : TA} (c : Cb X.prog X.w X.K X.mg X.base x k ps pre) (hr : Room k X.A) (hg : Gl X x) (ha : PA X (e :: es) t)
    (hdb : (x == ("__debug__" : Str)) = false := by decide) (he : starEach (e :: es) X.env = (false, eval e X.env) :: starEach es X.env := by rfl) (hpl : (backTo pos (starEach es X.env)).any (·.1) = false := by rfl) :
    PE X (.Call (.Name x p) (e :: es) [] pos) (tCall (Pm pre) [] E0 t) := by
  obtain ⟨f, fd, h1, h2, h3, h4⟩ := c.ex
  exact pe_call h1 hr hg h2 h3 h4 .nil pass0 ha hdb he hpl
end
end Rc
namespace Rc
open PySem PySem.Spec PyProof.Rows L2 Evl

/-! ### promises by plain functions -/
def p1 {α γ : Type} (C : α → Prop) (ra : α → Rp) (rc : γ → Rp) (f : α → γ) : List Rp → Rp → Prop := fun rs r => ∃ a, C a ∧ rs = [ra a] ∧ r = rc (f a)
def p2 {α β γ : Type} (C : α → β → Prop) (ra : α → Rp) (rb : β → Rp) (rc : γ → Rp) (f : α → β → γ) : List Rp → Rp → Prop := fun rs r => ∃ a b, C a b ∧ rs = [ra a, rb b] ∧ r = rc (f a b)
def p3 {α β γ δ : Type} (C : α → β → γ → Prop) (ra : α → Rp) (rb : β → Rp) (rc : γ → Rp) (rd : δ → Rp) (f : α → β → γ → δ) : List Rp → Rp → Prop := fun rs r => ∃ a b c, C a b c ∧ rs = [ra a, rb b, rc c] ∧ r = rd (f a b c)
section
variable {ρ : List Sl} {ta tb tc : TE} {E : XK}
theorem er_c1 {α γ : Type} {C : α → Prop} {ra : α → Rp} {rc : γ → Rp} {f : α → γ} {a : α} (h : ER ta ρ (ra a)) (hc : C a) : ER (tCall (Pm (p1 C ra rc f)) [] E (tCons ta tNil)) ρ (rc (f a)) := er_call (ar_cons h ar_nil) ⟨a, hc, rfl, rfl⟩
theorem er_c2 {α β γ : Type} {C : α → β → Prop} {ra : α → Rp} {rb : β → Rp} {rc : γ → Rp} {f : α → β → γ} {a : α} {b : β} (h : ER ta ρ (ra a)) (k : ER tb ρ (rb b)) (hc : C a b) :
    ER (tCall (Pm (p2 C ra rb rc f)) [] E (tCons ta (tCons tb tNil))) ρ (rc (f a b)) := er_call (ar_cons h (ar_cons k ar_nil)) ⟨a, b, hc, rfl, rfl⟩
theorem er_c3 {α β γ δ : Type} {C : α → β → γ → Prop} {ra : α → Rp} {rb : β → Rp} {rc : γ → Rp} {rd : δ → Rp} {f : α → β → γ → δ} {a : α} {b : β} {c : γ} (h : ER ta ρ (ra a)) (k : ER tb ρ (rb b)) (l : ER tc ρ (rc c)) (hc : C a b c) :
    ER (tCall (Pm (p3 C ra rb rc rd f)) [] E (tCons ta (tCons tb (tCons tc tNil)))) ρ (rd (f a b c)) := er_call (ar_cons h (ar_cons k (ar_cons l ar_nil))) ⟨a, b, c, hc, rfl, rfl⟩
end
theorem p1_len {α γ : Type} {C : α → Prop} {ra : α → Rp} {rc : γ → Rp} {f : α → γ} {rs : List Rp} {r : Rp} (h : p1 C ra rc f rs r) : rs.length = 1 := by
  obtain ⟨a, _, rfl, _⟩ := h
  rfl
theorem p2_len {α β γ : Type} {C : α → β → Prop} {ra : α → Rp} {rb : β → Rp} {rc : γ → Rp} {f : α → β → γ} {rs : List Rp} {r : Rp} (h : p2 C ra rb rc f rs r) : rs.length = 2 := by
  obtain ⟨a, b, _, rfl, _⟩ := h
  rfl
theorem p3_len {α β γ δ : Type} {C : α → β → γ → Prop} {ra : α → Rp} {rb : β → Rp} {rc : γ → Rp} {rd : δ → Rp} {f : α → β → γ → δ} {rs : List Rp} {r : Rp} (h : p3 C ra rb rc rd f rs r) : rs.length = 3 := by
  obtain ⟨a, b, c, _, rfl, _⟩ := h
  rfl

/-! ### small words -/
section
variable {K : PySem.W.Frag} {ρ : List Sl} {ta tb te : TE} {i j : Int} {r : Rp} {rs : List Rp}
theorem er_add (ha : ER ta ρ (iR i)) (hb : ER tb ρ (iR j)) : ER (tOp (rI0 fun i j => .int (i + j)) ta tb) ρ (iR (i + j)) := er_op ha hb br_I0
theorem er_sub (ha : ER ta ρ (iR i)) (hb : ER tb ρ (iR j)) : ER (tOp (rI0 fun i j => .int (i - j)) ta tb) ρ (iR (i - j)) := er_op ha hb br_I0
theorem er_mul (ha : ER ta ρ (iR i)) (hb : ER tb ρ (iR j)) (hc : IntMulOk i j) : ER (tOp (rI IntMulOk fun i j => .int (i * j)) ta tb) ρ (iR (i * j)) := er_op ha hb (br_I hc)
theorem er_mod (ha : ER ta ρ (iR i)) (hb : ER tb ρ (iR j)) (hc : 0 < j) : ER (tOp (rI (fun _ j => 0 < j) fun i j => .int (i % j)) ta tb) ρ (iR (i % j)) := er_op ha hb (br_I hc)
theorem er_fdiv (ha : ER ta ρ (iR i)) (hb : ER tb ρ (iR j)) (hc : 0 < j) : ER (tOp (rI (fun _ j => 0 < j) fun i j => .int (i / j)) ta tb) ρ (iR (i / j)) := er_op ha hb (br_I hc)
theorem er_half (ha : ER ta ρ (iR i)) : ER (tOp (rI CDiv fun i j => .int (i / j)) ta (tC (.int 2))) ρ (iR (i / 2)) := er_op ha er_c (br_I ⟨by decide, by decide⟩)
theorem er_neg (ha : ER ta ρ (iR i)) : ER (tUn (rU fun i => .int (-i)) ta) ρ (iR (-i)) := er_un ha ur_I
theorem er_lt (ha : ER ta ρ (iR i)) (hb : ER tb ρ (iR j)) : ER (tOp (rI0 fun i j => .bl (decide (i < j))) ta tb) ρ (bR (decide (i < j))) := er_op ha hb br_I0
theorem er_le (ha : ER ta ρ (iR i)) (hb : ER tb ρ (iR j)) : ER (tOp (rI0 fun i j => .bl (decide (i ≤ j))) ta tb) ρ (bR (decide (i ≤ j))) := er_op ha hb br_I0
theorem er_gt (ha : ER ta ρ (iR i)) (hb : ER tb ρ (iR j)) : ER (tOp (rI0 fun i j => .bl (decide (j < i))) ta tb) ρ (bR (decide (j < i))) := er_op ha hb br_I0
theorem er_ge (ha : ER ta ρ (iR i)) (hb : ER tb ρ (iR j)) : ER (tOp (rI0 fun i j => .bl (decide (j ≤ i))) ta tb) ρ (bR (decide (j ≤ i))) := er_op ha hb br_I0
theorem br_eqV {x y : V} (h : scal x y = true) : BR rEq (vR x) (vR y) (bR (decide (x = y))) := fun a b G H e ha hb Q q => by
  cases ha
  cases hb
  exact ⟨h, q _ G H (Step.refl e) rfl⟩
theorem br_neV {x y : V} (h : scal x y = true) : BR rNe (vR x) (vR y) (bR (!decide (x = y))) := fun a b G H e ha hb Q q => by
  cases ha
  cases hb
  exact ⟨h, q _ G H (Step.refl e) rfl⟩
theorem er_eqI (ha : ER ta ρ (iR i)) (hb : ER tb ρ (iR j)) : ER (tOp rEq ta tb) ρ (bR (decide (i = j))) := er_b (er_op ha hb (br_eqV rfl)) (by
  by_cases h : i = j
  · subst h; simp
  · rw [decide_eq_false h, decide_eq_false fun z => h (V.int.inj z)])
theorem er_neI (ha : ER ta ρ (iR i)) (hb : ER tb ρ (iR j)) : ER (tOp rNe ta tb) ρ (bR (!decide (i = j))) := er_b (er_op ha hb (br_neV rfl)) (by
  by_cases h : i = j
  · subst h; simp
  · rw [decide_eq_false h, decide_eq_false fun z => h (V.int.inj z)])
abbrev tLen (K : PySem.W.Frag) (te : TE) : TE := tCB (fun xs H Q => ∃ p ys, xs = [.ref p] ∧ (SqL K H p ys ∨ SqT K H p ys) ∧ Q (.int ys.length) H) (tCons te tNil)
theorem er_len (h : ER te ρ (sR K rs)) : ER (tLen K te) ρ (iR rs.length) := er_callB (ar_cons h ar_nil) cr_len
theorem er_ixl (h : ER ta ρ (sR K rs)) (hi : ER tb ρ (iR i)) (ha : atI rs i = some r) : ER (tOp (rIxL K) ta tb) ρ r := er_op h hi (br_ixL ha)
theorem er_ixt (h : ER ta ρ (tR K rs)) (hi : ER tb ρ (iR i)) (ha : atI rs i = some r := by rfl) : ER (tOp (rIxT K) ta tb) ρ r := er_op h hi (br_ixT ha)
abbrev tIsN (ta : TE) : TE := tOp (fun x y H Q => y = .non ∧ Q (.bl (decide (x = .non))) H) ta (tC .non)
theorem er_isF (h : ER ta ρ r) (hn : NN r) : ER (tIsN ta) ρ (bR false) := er_op h er_c (br_isNf hn)
theorem er_isT (h : ER ta ρ nR) : ER (tIsN ta) ρ (bR true) := er_op h er_c br_isN
end

/-! ### great numbers -/
theorem mulOk {i j : Int} (h : i.natAbs.log2 + j.natAbs.log2 < 100000000) : IntMulOk i j := by
  intro z
  obtain ⟨_, z⟩ := (Bool.and_eq_true _ _).mp z
  unfold Builtin.Int.intTooBig at z
  have z := of_decide_eq_true z
  have bl : bitsLine = 134217728 := by decide
  have le : ∀ n : Int, Builtin.Int.intBits n ≤ n.natAbs.log2 + 1 := by
    intro n
    unfold Builtin.Int.intBits
    by_cases c : (n == 0) = true
    · rw [if_pos c]; omega
    · rw [if_neg c]; omega
  have := le i
  have := le j
  omega
theorem op_mulX {X : Cx} : OpR X (binaryOp .Mult) (rI IntMulOk fun i j => .int (i * j)) := opI fun _ _ _ _ _ _ _ hc q => mul_int q hc
/-- // by a positive divisor of any size: CPython's _pylong has room -/
theorem op_fdivP {X : Cx} (hs : X.stack = X.env :: X.outer) (h1 : X.env.scope.isGenerator = false) (h2 : X.env.scope.isCoroutine = false) (hb : X.base.NoSeer) (ht : X.prog.given.tree = none) (hd : X.A.depth + 100 < recursionLimit) :
    OpR X (binaryOp .FloorDiv) (rI (fun _ j => 0 < j) fun i j => .int (i / j)) := by
  intro pins s σ H x y v u Q I rx ry ⟨i, j, e1, e2, hj, q⟩
  subst e1
  subst e2
  obtain ⟨t, rfl⟩ := rx
  obtain ⟨t', rfl⟩ := ry
  have ns : s.heap.NoSeer := hb.keeps I.bk
  have room : PySem.PylongRoom (model X.prog X.w) X.A s := PySem.PylongRoom.of I.nolimit hd
    (SeerAt.of ns ht (by rw [I.ok.frames, hs]) h1 h2 I.ok.blt I.ok.glob)
  have hj : (0 : Int) < j := hj
  refine floordiv_int (by omega) ?_ (.inr room)
  rw [Int.fdiv_eq_ediv_of_nonneg i (by omega)]
  exact ⟨.int (i / j), H, I.tok _, ⟨_, rfl⟩, q⟩

/-! ### fractions, points -/
section
variable (K : PySem.W.Frag)
def qR (q : Kzq1.Q) : Rp := tR K [iR q.n, iR (q.d : Int)]
def pR (z : Kzq1.P) : Rp := tR K [qR K z.x, qR K z.y]
def gR (s : Kzq1.P × Kzq1.P) : Rp := tR K [pR K s.1, pR K s.2]
end
section
variable {K : PySem.W.Frag} {ρ : List Sl} {te : TE} {q : Kzq1.Q} {z : Kzq1.P} {s : Kzq1.P × Kzq1.P}
theorem er_q0 (h : ER te ρ (qR K q)) : ER (tOp (rIxT K) te (tC (.int 0))) ρ (iR q.n) := er_op h er_c (br_ixT rfl)
theorem er_q1 (h : ER te ρ (qR K q)) : ER (tOp (rIxT K) te (tC (.int 1))) ρ (iR (q.d : Int)) := er_op h er_c (br_ixT rfl)
theorem er_p0 (h : ER te ρ (pR K z)) : ER (tOp (rIxT K) te (tC (.int 0))) ρ (qR K z.x) := er_op h er_c (br_ixT rfl)
theorem er_p1 (h : ER te ρ (pR K z)) : ER (tOp (rIxT K) te (tC (.int 1))) ρ (qR K z.y) := er_op h er_c (br_ixT rfl)
theorem nn_q : NN (qR K q) := nn_t
theorem nn_p : NN (pR K z) := nn_t
end

/-! ### sizes of fractions: bits -/
structure Fq (s : Nat) (q : Kzq1.Q) : Prop where
  pos : 0 < q.d
  n : q.n.natAbs < 2 ^ s
  d : q.d < 2 ^ s
structure Fp (s : Nat) (z : Kzq1.P) : Prop where
  x : Fq s z.x
  y : Fq s z.y
theorem pow_le {s t : Nat} (h : s ≤ t) : 2 ^ s ≤ 2 ^ t := Nat.pow_le_pow_right (by decide) h
theorem Fq.mono {s t : Nat} {q : Kzq1.Q} (h : Fq s q) (k : s ≤ t) : Fq t q := ⟨h.pos, Nat.lt_of_lt_of_le h.n (pow_le k), Nat.lt_of_lt_of_le h.d (pow_le k)⟩
theorem Fp.mono {s t : Nat} {z : Kzq1.P} (h : Fp s z) (k : s ≤ t) : Fp t z := ⟨h.x.mono k, h.y.mono k⟩
theorem mk_eq {n : Int} {d : Nat} (h : 0 < d) : Kzq1.mk n d = ⟨n / ((Nat.gcd n.natAbs d : Nat) : Int), d / Nat.gcd n.natAbs d⟩ := by
  have hg : 0 < Nat.gcd n.natAbs d := Nat.gcd_pos_of_pos_right _ h
  have hd : 0 < d / Nat.gcd n.natAbs d := Nat.div_pos (Nat.le_of_dvd h (Nat.gcd_dvd_right _ _)) hg
  unfold Kzq1.mk
  show (if Nat.gcd n.natAbs d = 0 then _ else if d / Nat.gcd n.natAbs d = 0 then _ else _) = _
  rw [if_neg (by omega), if_neg (by omega)]
theorem natAbs_div_le (n : Int) (g : Nat) : (n / (g : Int)).natAbs ≤ n.natAbs := by
  by_cases hg : g = 0
  · subst hg; simp
  · have h1 : ((n / (g : Int)) * (g : Int)) ≤ n := Int.ediv_mul_le n (by omega)
    have h2 : n < ((n / (g : Int)) + 1) * (g : Int) := Int.lt_ediv_add_one_mul_self n (by omega)
    rcases Int.le_total 0 n with h | h
    · have h3 : 0 ≤ n / (g : Int) := Int.ediv_nonneg h (by omega)
      have h4 : n / (g : Int) ≤ n := Int.ediv_le_self _ h
      omega
    · by_cases hz : n = 0
      · subst hz; simp
      · have h3 : n / (g : Int) < 0 := Int.ediv_neg_of_neg_of_pos (by omega) (by omega)
        have h5 : n ≤ n / (g : Int) := by
          have hx : (n / (g : Int)) ≥ n := by
            have : n / (g : Int) * 1 ≥ n := by
              have k := Int.le_ediv_of_mul_le (a := n) (b := n) (c := (g : Int)) (by omega) (by
                have : n * (g : Int) ≤ n * 1 := Int.mul_le_mul_of_nonpos_left (by omega) (by omega)
                omega)
              omega
            omega
          omega
        omega
theorem fq_mk {s : Nat} {n : Int} {d : Nat} (h0 : 0 < d) (hn : n.natAbs < 2 ^ s) (hd : d < 2 ^ s) : Fq s (Kzq1.mk n d) := by
  have hg : 0 < Nat.gcd n.natAbs d := Nat.gcd_pos_of_pos_right _ h0
  rw [mk_eq h0]
  refine ⟨Nat.div_pos (Nat.le_of_dvd h0 (Nat.gcd_dvd_right _ _)) hg, Nat.lt_of_le_of_lt (natAbs_div_le _ _) hn, Nat.lt_of_le_of_lt (Nat.div_le_self _ _) hd⟩
theorem mul_lt_pow {a b s t : Nat} (ha : a < 2 ^ s) (hb : b < 2 ^ t) : a * b < 2 ^ (s + t) := by
  rw [Nat.pow_add]
  exact Nat.mul_lt_mul'' ha hb
theorem Fq.add {s t : Nat} {a b : Kzq1.Q} (ha : Fq s a) (hb : Fq t b) : Fq (s + t + 1) (Kzq1.add a b) := by
  have h1 : a.n.natAbs * b.d < 2 ^ (s + t) := mul_lt_pow ha.n hb.d
  have h2 : b.n.natAbs * a.d < 2 ^ (s + t) := by
    rw [Nat.add_comm]
    exact mul_lt_pow hb.n ha.d
  have h3 : a.d * b.d < 2 ^ (s + t) := mul_lt_pow ha.d hb.d
  have e : 2 ^ (s + t + 1) = 2 ^ (s + t) + 2 ^ (s + t) := by rw [Nat.pow_succ]; omega
  refine fq_mk (Nat.mul_pos ha.pos hb.pos) ?_ (by omega)
  have k : (a.n * (b.d : Int) + b.n * (a.d : Int)).natAbs ≤ a.n.natAbs * b.d + b.n.natAbs * a.d := by
    refine Nat.le_trans (Int.natAbs_add_le _ _) ?_
    rw [Int.natAbs_mul, Int.natAbs_mul]
    exact Nat.le_refl _
  omega
theorem Fq.neg {s : Nat} {a : Kzq1.Q} (ha : Fq s a) : Fq s (Kzq1.neg a) := ⟨ha.pos, by show (-a.n).natAbs < _; rw [Int.natAbs_neg]; exact ha.n, ha.d⟩
theorem Fq.sub {s t : Nat} {a b : Kzq1.Q} (ha : Fq s a) (hb : Fq t b) : Fq (s + t + 1) (Kzq1.sub a b) := ha.add hb.neg
theorem Fq.mul {s t : Nat} {a b : Kzq1.Q} (ha : Fq s a) (hb : Fq t b) : Fq (s + t) (Kzq1.mul a b) :=
  fq_mk (Nat.mul_pos ha.pos hb.pos) (by rw [Int.natAbs_mul]; exact mul_lt_pow ha.n hb.n) (mul_lt_pow ha.d hb.d)
theorem Fq.inv {s : Nat} {a : Kzq1.Q} (ha : Fq s a) (h0 : a.n ≠ 0) : Fq s (Kzq1.inv a) := by
  unfold Kzq1.inv
  have hp : 0 < a.n.natAbs := by omega
  split
  · exact fq_mk hp (by simpa using ha.d) ha.n
  · exact fq_mk hp (by simpa using ha.d) ha.n
theorem Fq.div {s t : Nat} {a b : Kzq1.Q} (ha : Fq s a) (hb : Fq t b) (h0 : b.n ≠ 0) : Fq (s + t) (Kzq1.div a b) := ha.mul (hb.inv h0)
def LIM : Nat := 33000000
theorem lim_eq : LIM = 33000000 := rfl
/-- small enough for one operation more -/
def Bq (q : Kzq1.Q) : Prop := Fq LIM q
def Bp (z : Kzq1.P) : Prop := Fp LIM z
theorem Fq.b {s : Nat} {q : Kzq1.Q} (h : Fq s q) (k : s ≤ 33000000) : Bq q := h.mono (by rw [lim_eq]; exact k)
theorem Fp.b {s : Nat} {q : Kzq1.P} (h : Fp s q) (k : s ≤ 33000000) : Bp q := h.mono (by rw [lim_eq]; exact k)
theorem log2_lim {n : Nat} (h : n < 2 ^ LIM) : n.log2 < 33000000 := by
  by_cases h0 : n = 0
  · subst h0; decide
  · have := (Nat.log2_lt h0).mpr h
    rw [lim_eq] at this
    exact this
theorem mul_lim {i j : Int} (hi : i.natAbs < 2 ^ LIM) (hj : j.natAbs < 2 ^ LIM) : IntMulOk i j := mulOk (by
  have := log2_lim hi
  have := log2_lim hj
  omega)
theorem Bq.nd {a b : Kzq1.Q} (ha : Bq a) (hb : Bq b) : IntMulOk a.n (b.d : Int) := mul_lim ha.n (by simpa using hb.d)
theorem Bq.dd {a b : Kzq1.Q} (ha : Bq a) (hb : Bq b) : IntMulOk (a.d : Int) (b.d : Int) := mul_lim (by simpa using ha.d) (by simpa using hb.d)
theorem Bq.nn {a b : Kzq1.Q} (ha : Bq a) (hb : Bq b) : IntMulOk a.n b.n := mul_lim ha.n hb.n
theorem Bq.dn {a b : Kzq1.Q} (ha : Bq a) (hb : Bq b) : IntMulOk (a.d : Int) b.n := mul_lim (by simpa using ha.d) hb.n
theorem Fp.plus {s t : Nat} {a b : Kzq1.P} (ha : Fp s a) (hb : Fp t b) : Fp (s + t + 1) (Kzq1.plus a b) := ⟨ha.x.add hb.x, ha.y.add hb.y⟩
theorem Fp.less {s t : Nat} {a b : Kzq1.P} (ha : Fp s a) (hb : Fp t b) : Fp (s + t + 1) (Kzq1.less a b) := ⟨ha.x.sub hb.x, ha.y.sub hb.y⟩
theorem Fp.times {s t : Nat} {k : Kzq1.Q} {a : Kzq1.P} (hk : Fq s k) (ha : Fp t a) : Fp (s + t) (Kzq1.times k a) := ⟨hk.mul ha.x, hk.mul ha.y⟩
theorem Fp.cross {s t : Nat} {a b : Kzq1.P} (ha : Fp s a) (hb : Fp t b) : Fq ((s + t) + (s + t) + 1) (Kzq1.cross a b) := (ha.x.mul hb.y).sub (ha.y.mul hb.x)
theorem Fp.turn {s t u : Nat} {a b c : Kzq1.P} (ha : Fp s a) (hb : Fp t b) (hc : Fp u c) : Fq (((t + s + 1) + (u + s + 1)) + ((t + s + 1) + (u + s + 1)) + 1) (Kzq1.turn a b c) := (hb.less ha).cross (hc.less ha)
end Rc
namespace Rc
open PySem PySem.Spec PyProof.Rows L2 Evl
section
variable {P : Program} {w : World} {K : PySem.W.Frag} {mg : Str → Option Value} {base : Heap}
/-- a def of the text, as the top leaves it -/
structure Fa (K : PySem.W.Frag) (mg : Str → Option Value) (x : Str) (st : Stmt) (ps : List Str) : Prop where
  ex : ∃ f fd, Fun K x x st f fd ∧ mg x = some (.ref f) ∧ Binds K fd ps []
/-- a method of the text -/
structure Fm (K : PySem.W.Frag) (C : Addr) (x qual : Str) (st : Stmt) (ps : List Str) : Prop where
  ex : ∃ f fd, Fun K x qual st f fd ∧ PySem.W.findIn K (.ref C) x = some (some (.ref f)) ∧ PySem.W.isFn K (.ref f) = true ∧ Binds K fd ps []
/-- a class that makes instances -/
structure Ci (P : Program) (w : World) (K : PySem.W.Frag) (mg : Str → Option Value) (base : Heap) (x : Str) (C : Addr) (k : Nat) (ps : List Str) (pre : List Rp → List (Str × Rp) → Prop) : Prop where
  ex : ∃ f fd, Mk K C f ∧ FnOk P w K mg base CX0 k f fd ps (PmI C pre) ∧ mg x = some (.ref C) ∧ Binds K fd ps []
theorem pe_ci {X : Cx} {x : Str} {C : Addr} {k : Nat} {ps : List Str} {pre : List Rp → List (Str × Rp) → Prop} {p pos : Pos} {e : Expr} {es : List Expr} {t : TA} (c : Ci X.prog X.w X.K X.mg X.base x C k ps pre) (hr : Room (k + 1) X.A) (hg : Gl X x) (ha : PA X (e :: es) t)
    (hdb : (x == ("__debug__" : Str)) = false := by decide) (he : starEach (e :: es) X.env = (false, eval e X.env) :: starEach es X.env := by rfl) (hpl : (backTo pos (starEach es X.env)).any (·.1) = false := by rfl) :
    PE X (.Call (.Name x p) (e :: es) [] pos) (tMake C (PmI C pre) [] E0 t) := by
  obtain ⟨f, fd, h1, h2, h3, h4⟩ := c.ex
  exact pe_make h1 h2 hr hg h3 h4 .nil pass0 ha hdb he hpl
/-- a module's number -/
theorem pe_gi {X : Cx} {x : Str} {i : Int} {pos : Pos} (hg : Gl X x) (h : ∃ t, X.mg x = some (.int i t)) (hd : (x == ("__debug__" : Str)) = false := by decide) : PE X (.Name x pos) (tC (.int i)) := by
  obtain ⟨t, h⟩ := h
  exact pe_glob hg h ⟨t, rfl⟩ hd
theorem pe_gt {X : Cx} {x : Str} {a : Addr} {pos : Pos} (hg : Gl X x) (h : X.mg x = some (.ref a)) (hd : (x == ("__debug__" : Str)) = false := by decide) : PE X (.Name x pos) (tC (.ref a)) := pe_glob hg h rfl hd
/-- behind // : room for CPython's _pylong -/
structure Big (P : Program) (base : Heap) : Prop where
  ns : base.NoSeer
  tr : P.given.tree = none
end

/-! ### data that is compared -/
section
variable {K : PySem.W.Frag} {ρ : List Sl} {ta tb : TE}
inductive Rd2 (K : PySem.W.Frag) : Rp → PyData → Prop
  | int (i : Int) : Rd2 K (iR i) (.int i)
  | bl (b : Bool) : Rd2 K (bR b) (.bool b)
  | tup {rs : List Rp} {ds : List PyData} : rs.length = ds.length → (∀ (i : Nat) (r : Rp) (d : PyData), rs[i]? = some r → ds[i]? = some d → Rd2 K r d) → Rd2 K (tR K rs) (.tuple ds)
  | lst {rs : List Rp} {ds : List PyData} : rs.length = ds.length → (∀ (i : Nat) (r : Rp) (d : PyData), rs[i]? = some r → ds[i]? = some d → Rd2 K r d) → Rd2 K (sR K rs) (.list ds)
theorem dpAll_of {H : Hp} : ∀ {rs : List Rp} {vs : List V} {ds : List PyData}, Al rs vs H → rs.length = ds.length → (∀ (i : Nat) (r : Rp) (d : PyData) (v : V), rs[i]? = some r → ds[i]? = some d → r.p v H → Dp K H v d) → DpAll K H vs ds
  | [], [], [], _, _, _ => .nil
  | [], [], _ :: _, _, h, _ => by cases h
  | _ :: _, _ :: _, [], _, h, _ => by cases h
  | [], _ :: _, _, h, _, _ => h.elim
  | _ :: _, [], _, h, _, _ => h.elim
  | r :: rs, v :: vs, d :: ds, h, l, k => .cons (k 0 r d v rfl rfl h.1) (dpAll_of h.2 (Nat.succ.inj l) fun i r d v a b c => k (i + 1) r d v a b c)
theorem Rd2.dp {r : Rp} {d : PyData} (h : Rd2 K r d) : ∀ {v : V} {H : Hp}, r.p v H → Dp K H v d := by
  induction h with
  | int i => intro v H p; cases p; exact .int i
  | bl b => intro v H p; cases p; exact .bl b
  | tup hl hs ih =>
    rintro v H ⟨p, vs, rfl, h1, h2⟩
    exact .tup h1 (dpAll_of h2 hl fun i r d v a b c => ih i r d a b c)
  | lst hl hs ih =>
    rintro v H ⟨p, vs, rfl, h1, h2⟩
    exact .lst h1 (dpAll_of h2 hl fun i r d v a b c => ih i r d a b c)
theorem br_eqD {ra rb : Rp} {d e : PyData} (ha : Rd2 K ra d) (hb : Rd2 K rb e) (sd : SeqAt.shaped d = true) (se : SeqAt.shaped e = true) : BR (rEqD K) ra rb (bR (PyData.eqv d e)) := fun x y G H ex px py Q q =>
  ⟨d, e, ha.dp (ra.mono ex px), hb.dp (rb.mono ex py), sd, se, q _ G H (Step.refl ex) rfl⟩
theorem br_neD {ra rb : Rp} {d e : PyData} (ha : Rd2 K ra d) (hb : Rd2 K rb e) (sd : SeqAt.shaped d = true) (se : SeqAt.shaped e = true) : BR (rNeD K) ra rb (bR (!PyData.eqv d e)) := fun x y G H ex px py Q q =>
  ⟨d, e, ha.dp (ra.mono ex px), hb.dp (rb.mono ex py), sd, se, q _ G H (Step.refl ex) rfl⟩
def dQ (q : Kzq1.Q) : PyData := .tuple [.int q.n, .int (q.d : Int)]
theorem rd_q (q : Kzq1.Q) : Rd2 K (qR K q) (dQ q) := .tup rfl fun i r d a b => by
  match i with
  | 0 => cases a; cases b; exact .int _
  | 1 => cases a; cases b; exact .int _
  | i + 2 => cases a
theorem eqv_q (a b : Kzq1.Q) : PyData.eqv (dQ a) (dQ b) = (a == b) := by
  have h : PyData.eqv (dQ a) (dQ b) = (a.n == b.n && (a.d : Int) == (b.d : Int)) := by
    simp [dQ, PyData.eqv, PyData.eqvAll]
  rw [h, Bool.eq_iff_iff, Bool.and_eq_true, beq_iff_eq, beq_iff_eq, beq_iff_eq]
  constructor
  · rintro ⟨x, y⟩
    obtain ⟨n, d⟩ := a
    obtain ⟨n', d'⟩ := b
    have y : (d : Int) = (d' : Int) := y
    have y : d = d' := by omega
    have x : n = n' := x
    rw [x, y]
  · rintro rfl
    exact ⟨rfl, rfl⟩
theorem er_eqQ {a b : Kzq1.Q} (ha : ER ta ρ (qR K a)) (hb : ER tb ρ (qR K b)) : ER (tOp (rEqD K) ta tb) ρ (bR (a == b)) := er_b (er_op ha hb (br_eqD (rd_q a) (rd_q b) rfl rfl)) (eqv_q a b)
end
end Rc
namespace Rc
open PySem PySem.Spec PyProof.Rows L2 Evl
/-! ### the hand layer's rules with the written part told -/
section
variable {X : Cx} {K : PySem.W.Frag}
theorem ixT (h : X.K = K) : IxR X (rIxT K) := h ▸ ix_tup
theorem ixL (h : X.K = K) : IxR X (rIxL K) := h ▸ ix_list
theorem cLen (h : X.K = K) : CallR X (.builtin "len") (fun xs H Q => ∃ p ys, xs = [.ref p] ∧ (SqL K H p ys ∨ SqT K H p ys) ∧ Q (.int ys.length) H) := h ▸ call_len_seq
theorem cListOf (h : X.K = K) : CallR X (.type "list") (fun xs H Q => ∃ p ys, xs = [.ref p] ∧ (SqL K H p ys ∨ SqT K H p ys) ∧ ∀ l, H l = none → Q (.ref l) (upd H l (.lst ys))) := h ▸ call_list_of
theorem cAll (hc : X.calm = true) (h : X.K = K) : CallR X (.builtin "all") (rAll K) := h ▸ L2.cr_all hc
theorem cAny (hc : X.calm = true) (h : X.K = K) : CallR X (.builtin "any") (rAny K) := h ▸ L2.cr_any hc
theorem cSum (hc : X.calm = true) (h : X.K = K) : CallR X (.builtin "sum") (rSum K) := h ▸ L2.cr_sum hc
theorem slL (h : X.K = K) : SlR X (rSlL K) := h ▸ sl_list
theorem opEqD (hu : X.A.units + 64 < cLine) (h : X.K = K) : OpR X (compareOp .Eq) (rEqD K) := h ▸ op_eqD hu
theorem opNeD (hu : X.A.units + 64 < cLine) (h : X.K = K) : OpR X (compareOp .NotEq) (rNeD K) := h ▸ op_neD hu
theorem opNi (h : X.K = K) : OpR X (compareOp .NotIn) (rIn K true) := h ▸ op_notIn_seq
theorem opIn (h : X.K = K) : OpR X (compareOp .In) (rIn K false) := h ▸ op_in_seq
theorem peFld {e : Expr} {f : Str} {pos : Pos} {ta : TE} (he : PE X e ta) (h : X.K = K) (hb : attributeBase e f X.env (eval e X.env) = eval e X.env := by rfl) : PE X (.Attribute e f pos) (tFld K ta f) := h ▸ pe_fld he hb
end
end Rc
namespace Rc
open PySem PySem.Spec PyProof.Rows L2 Evl

/-! ### slices, items -/
theorem cutA_from {α : Type} (xs : List α) (k : Nat) : cutA xs (some (k : Int)) none = xs.drop k := by
  unfold cutA
  rw [HT.sIx_nat, HT.sIx_none]
  by_cases h : k ≤ xs.length
  · rw [Nat.min_eq_left h, List.take_of_length_le (by rw [List.length_drop]; omega)]
  · rw [Nat.min_eq_right (by omega), List.drop_length, List.take_nil, List.drop_of_length_le (by omega)]
theorem cutA_to {α : Type} (xs : List α) (k : Nat) : cutA xs none (some (k : Int)) = xs.take k := by
  unfold cutA
  rw [HT.sIx_nat, HT.sIx_none, List.drop_zero, Nat.sub_zero]
  by_cases h : k ≤ xs.length
  · rw [Nat.min_eq_left h]
  · rw [Nat.min_eq_right (by omega), List.take_length, List.take_of_length_le (by omega)]
theorem cutA_ft {α : Type} (xs : List α) (i j : Nat) (hj : j ≤ xs.length) : cutA xs (some (i : Int)) (some (j : Int)) = (xs.drop i).take (j - i) := by
  unfold cutA
  rw [HT.sIx_nat, HT.sIx_nat, Nat.min_eq_left hj]
  by_cases h : i ≤ xs.length
  · rw [Nat.min_eq_left h]
  · rw [Nat.min_eq_right (by omega), List.drop_length, List.take_nil, List.drop_of_length_le (by omega), List.take_nil]
theorem cutA_map {α β : Type} (f : α → β) (xs : List α) (lo hi : Option Int) : cutA (xs.map f) lo hi = (cutA xs lo hi).map f := by
  unfold cutA
  rw [List.length_map, ← List.map_drop, ← List.map_take]
theorem atI_map {α β : Type} (f : α → β) (xs : List α) (i : Int) : atI (xs.map f) i = (atI xs i).map f := by
  unfold atI
  rw [List.length_map]
  cases ixN xs.length i with
  | none => rfl
  | some j => exact List.getElem?_map
theorem atI_mapS {α β : Type} {f : α → β} {xs : List α} {i : Int} {x : α} (h : atI xs i = some x) : atI (xs.map f) i = some (f x) := by rw [atI_map, h]; rfl
theorem get_map {α β : Type} {f : α → β} {xs : List α} {i : Nat} {y : β} (h : (xs.map f)[i]? = some y) : ∃ x, xs[i]? = some x ∧ y = f x := by
  rw [List.getElem?_map] at h
  cases e : xs[i]? with
  | none => rw [e] at h; cases h
  | some x => rw [e] at h; exact ⟨x, rfl, (Option.some.inj h).symm⟩
theorem atI_ofNat {α : Type} {xs : List α} {z : Int} {j : Nat} {x : α} (e : z = (j : Int)) (h : xs[j]? = some x) : atI xs z = some x := by
  rw [e]
  exact atI_nat h
theorem at0_get {l : List Kzq1.P} {i : Nat} (h : 0 < l.length) : l[i % l.length]? = some (Kzq1.at0 l i) := by
  have hm : i % l.length < l.length := Nat.mod_lt _ h
  unfold Kzq1.at0
  rw [List.getD_eq_getElem?_getD, List.getElem?_eq_getElem hm]
  rfl
theorem at0_of {l : List Kzq1.P} {i : Nat} {z : Kzq1.P} (h : l[i]? = some z) : Kzq1.at0 l i = z := by
  have hi : i < l.length := (List.getElem?_eq_some_iff.mp h).1
  unfold Kzq1.at0
  rw [Nat.mod_eq_of_lt hi, List.getD_eq_getElem?_getD, h]
  rfl
theorem at0_mem {l : List Kzq1.P} {i : Nat} (h : 0 < l.length) : Kzq1.at0 l i ∈ l := List.mem_of_getElem? (at0_get h)
/-- the corner behind the k-th -/
theorem atI_next {l : List Kzq1.P} {k : Nat} (h : 0 < l.length) : atI l (((k : Int) + 1) % (l.length : Int)) = some (Kzq1.at0 l (k + 1)) := by
  refine atI_ofNat (j := (k + 1) % l.length) ?_ (at0_get h)
  rw [Int.natCast_emod]
  rfl
/-- the corner ahead of the k-th -/
theorem atI_prev {l : List Kzq1.P} {k : Nat} (h : k < l.length) : atI l ((k : Int) - 1) = some (Kzq1.at0 l (k + l.length - 1)) := by
  by_cases c : k = 0
  · subst c
    have e : ixN l.length ((0 : Nat) - 1 : Int) = some (l.length - 1) := by
      unfold ixN
      rw [if_neg (by omega), if_pos (by omega)]
      congr 1
      omega
    unfold atI
    rw [e]
    show l[l.length - 1]? = _
    have g := at0_get (l := l) (i := 0 + l.length - 1) (by omega)
    rw [Nat.mod_eq_of_lt (by omega)] at g
    rw [← g]
    congr 1
    omega
  · refine atI_ofNat (j := k - 1) (by omega) ?_
    have g := at0_get (l := l) (i := k + l.length - 1) (by omega)
    rw [show k + l.length - 1 = (k - 1) + l.length by omega, Nat.add_mod_right, Nat.mod_eq_of_lt (by omega)] at g
    rw [g]
    rw [show k + l.length - 1 = (k - 1) + l.length by omega]
theorem take_snoc {α : Type} {l : List α} {i : Nat} {x : α} (h : l[i]? = some x) : l.take (i + 1) = l.take i ++ [x] := by
  rw [List.take_add_one, h]
  rfl
theorem foldl_take {α β : Type} {f : β → α → β} {b : β} {l : List α} {i : Nat} {x : α} (h : l[i]? = some x) : (l.take (i + 1)).foldl f b = f ((l.take i).foldl f b) x := by
  rw [take_snoc h, List.foldl_append]
  rfl
theorem range_get {n i j : Nat} (h : (List.range n)[i]? = some j) : j = i ∧ i < n := by
  have hi : i < n := by
    have := (List.getElem?_eq_some_iff.mp h).1
    simpa using this
  rw [List.getElem?_range hi] at h
  exact ⟨(Option.some.inj h).symm, hi⟩

/-! ### the program's words on plain data -/
def leastQ (l : List Kzq1.Q) : Kzq1.Q := l.tail.foldl (fun m x => if Kzq1.lt x m = true then x else m) (l.headD Kzq1.zero)
def greatQ (l : List Kzq1.Q) : Kzq1.Q := l.tail.foldl (fun m x => if Kzq1.lt m x = true then x else m) (l.headD Kzq1.zero)
def box (l : List Kzq1.P) : List Kzq1.Q := [leastQ (l.map (·.x)), greatQ (l.map (·.x)), leastQ (l.map (·.y)), greatQ (l.map (·.y))]
def leftOf (l : List Kzq1.P) (s : Kzq1.P × Kzq1.P) : List Kzq1.P := l.filter fun c => Kzq1.pos (Kzq1.turn s.1 s.2 c)
def strictB (l : List Kzq1.P) : Bool := (Kzq1.sides l).all fun s => decide (((leftOf l s).length : Int) = (l.length : Int) - 2)
def told2 (n d : Int) : Bool := decide (1 ≤ d) && decide ((Nat.gcd n.natAbs d.toNat : Int) = 1)
def pairs (ns : List Int) : List (Int × Int) := (List.range (ns.length / 2)).map fun k => (ns.getD (2 * k) 0, ns.getD (2 * k + 1) 0)
def fracs (ns : List Int) : Option (List Kzq1.Q) := if (pairs ns).all (fun p => told2 p.1 p.2) = true then some ((pairs ns).map fun p => ⟨p.1, p.2.toNat⟩) else none
def ptsOf (qs : List Kzq1.Q) (n : Nat) : List Kzq1.P := (List.range n).map fun k => ⟨qs.getD (2 * k) Kzq1.zero, qs.getD (2 * k + 1) Kzq1.zero⟩
def partOf (n : Nat) (ns : List Int) : Option Kzq2.Part := match fracs (ns.take (4 * n)), fracs (ns.drop (4 * n + 1)) with
  | some cs, some ss => if ns.getD (4 * n) 2 = 0 ∨ ns.getD (4 * n) 2 = 1 then
      if strictB (ptsOf cs n) = true then some ⟨Kzq1.begunWith (ptsOf cs n), ⟨decide (ns.getD (4 * n) 2 = 1), ⟨ss.getD 0 Kzq1.zero, ss.getD 1 Kzq1.zero⟩⟩⟩ else none
    else none
  | _, _ => none
/-- the row from a place on; the fuel is a bound of its length -/
def readOn : Nat → List Int → Option (List Kzq2.Part)
  | _, [] => some []
  | 0, _ :: _ => none
  | k + 1, n :: l => if n < 3 ∨ 40 < n ∨ l.length < 4 * n.toNat + 5 then none else
    match partOf n.toNat (l.take (4 * n.toNat + 5)) with
    | none => none
    | some p => match readOn k (l.drop (4 * n.toNat + 5)) with
      | none => none
      | some r => some (p :: r)
/-! ### how these stand in the heap -/
section
variable (K : PySem.W.Frag) (CP CT : Addr)
def pcF (l : List Kzq1.P) : List (Str × Rp) := [("corners", lR (l.map (pR K))), ("bounds", tR K ((box l).map (qR K)))]
def pcR (l : List Kzq1.P) : Rp := oR CP (pcF K l)
def mvR (m : Kzq2.Move) : Rp := tR K [bR m.h, qR K m.t.x, qR K m.t.y]
def ptF (p : Kzq2.Part) : List (Str × Rp) := [("piece", pcR K CP p.l), ("move", mvR K p.m)]
def ptR (p : Kzq2.Part) : Rp := oR CT (ptF K CP p)
def opR {α : Type} (r : α → Rp) : Option α → Rp
  | none => nR
  | some a => r a
end
/-- what is read from numbers below 2 ^ 256 -/
def BL (s : Nat) (l : List Kzq1.P) : Prop := ∀ z ∈ l, Fp s z
def Bpt (s : Nat) (p : Kzq2.Part) : Prop := BL s p.l ∧ 3 ≤ p.l.length ∧ p.l.length ≤ 40 ∧ Fp s p.m.t
end Rc
namespace Rc
open PySem PySem.Spec PyProof.Rows L2 Evl
theorem pos_dd {a b : Nat} (ha : 0 < a) (hb : 0 < b) : (0 : Int) < (a : Int) * (b : Int) := Int.mul_pos (by omega) (by omega)
theorem nat_dd (a b : Nat) : ((a : Int) * (b : Int)).toNat = a * b := by
  rw [← Int.natCast_mul, Int.toNat_natCast]
theorem add_is (a b : Kzq1.Q) : Kzq1.mk (a.n * (b.d : Int) + b.n * (a.d : Int)) ((a.d : Int) * (b.d : Int)).toNat = Kzq1.add a b := by rw [nat_dd]; rfl
theorem sub_is (a b : Kzq1.Q) : Kzq1.mk (a.n * (b.d : Int) - b.n * (a.d : Int)) ((a.d : Int) * (b.d : Int)).toNat = Kzq1.sub a b := by
  rw [nat_dd]
  unfold Kzq1.sub Kzq1.add Kzq1.neg
  show Kzq1.mk _ (a.d * b.d) = Kzq1.mk (a.n * (b.d : Int) + -b.n * (a.d : Int)) (a.d * b.d)
  rw [Int.neg_mul, Int.sub_eq_add_neg]
theorem mul_is (a b : Kzq1.Q) : Kzq1.mk (a.n * b.n) ((a.d : Int) * (b.d : Int)).toNat = Kzq1.mul a b := by rw [nat_dd]; rfl
end Rc
namespace Rc
open PySem PySem.Spec PyProof.Rows L2 Evl
section
variable {K : PySem.W.Frag} {ρ : List Sl} {ta tb te : TE} {wi : TI} {g : TG} {tt : TT} {vs : List Nat}
theorem er_mapL {α : Type} {xs : List α} {ra rc : α → Rp} (hi : IR wi ρ (xs.map ra)) (hz : xs.length ≤ 50000) (hs : ∀ (i : Nat) (x : α), xs[i]? = some x → ∃ is ρ', GR g is (ra x) (wipeS ρ vs) ρ' ∧ (∀ j ∈ is, j ∈ vs) ∧ ER te ρ' (rc x)) :
    ER (tLc wi g tYes te vs) ρ (lR (xs.map rc)) := by
  have h := er_map (te := te) hi (fun i => match xs[i]? with | some x => rc x | none => nR) (by rw [List.length_map]; exact hz) fun i r hr => by
    obtain ⟨x, hx, rfl⟩ := get_map hr
    obtain ⟨is, ρ', a, b, c⟩ := hs i x hx
    refine ⟨is, ρ', a, b, ?_⟩
    show ER te ρ' (match xs[i]? with | some x => rc x | none => nR)
    rw [hx]
    exact c
  refine er_eq h (congrArg lR ?_)
  rw [List.length_map]
  refine List.ext_getElem? fun i => ?_
  by_cases hi : i < xs.length
  · rw [List.getElem?_map, List.getElem?_range hi, List.getElem?_map, List.getElem?_eq_getElem hi]
    show some (match xs[i]? with | some x => rc x | none => nR) = _
    rw [List.getElem?_eq_getElem hi]
    rfl
  · rw [List.getElem?_eq_none (by simp; omega), List.getElem?_eq_none (by simp; omega)]
theorem filter_range {α : Type} {rc : α → Rp} {c : α → Bool} : ∀ (xs : List α), gv xs.length (fun i => match xs[i]? with | some x => c x | none => false) (fun i => match xs[i]? with | some x => rc x | none => nR) = (xs.filter c).map rc := by
  intro xs
  have h : ∀ n, n ≤ xs.length → gv n (fun i => match xs[i]? with | some x => c x | none => false) (fun i => match xs[i]? with | some x => rc x | none => nR) = ((xs.take n).filter c).map rc := by
    intro n
    induction n with
    | zero => intro _; rfl
    | succ n ih =>
      intro hn
      have hg : xs[n]? = some xs[n] := by simp [show n < xs.length by omega]
      rw [take_snoc hg, List.filter_append, List.map_append, ← ih (by omega)]
      by_cases hc : c xs[n] = true
      · rw [gv_yes (by show (match xs[n]? with | some x => c x | none => false) = true; rw [hg]; exact hc), List.filter_cons, if_pos hc]
        show _ ++ [match xs[n]? with | some x => rc x | none => nR] = _
        rw [hg]
        rfl
      · have hc : c xs[n] = false := by simpa using hc
        rw [gv_no (by show (match xs[n]? with | some x => c x | none => false) = false; rw [hg]; exact hc), List.filter_cons, if_neg (by rw [hc]; exact Bool.false_ne_true)]
        exact (List.append_nil _).symm
  have := h xs.length (Nat.le_refl _)
  rw [List.take_length] at this
  exact this
theorem er_filtL {α : Type} {xs : List α} {ra rc : α → Rp} (c : α → Bool) (hi : IR wi ρ (xs.map ra)) (hz : xs.length ≤ 50000)
    (hs : ∀ (i : Nat) (x : α), xs[i]? = some x → ∃ is ρ', GR g is (ra x) (wipeS ρ vs) ρ' ∧ (∀ j ∈ is, j ∈ vs) ∧ TR tt ρ' (c x) ∧ (c x = true → ER te ρ' (rc x))) :
    ER (tLc wi g tt te vs) ρ (lR ((xs.filter c).map rc)) := by
  have h := er_lc (te := te) (tt := tt) hi (fun i => match xs[i]? with | some x => c x | none => false) (fun i => match xs[i]? with | some x => rc x | none => nR) (by rw [List.length_map]; exact hz) fun i r hr => by
    obtain ⟨x, hx, rfl⟩ := get_map hr
    obtain ⟨is, ρ', a, b, d, e⟩ := hs i x hx
    refine ⟨is, ρ', a, b, ?_, ?_⟩
    · show TR tt ρ' (match xs[i]? with | some x => c x | none => false)
      rw [hx]
      exact d
    · show (match xs[i]? with | some x => c x | none => false) = true → ER te ρ' (match xs[i]? with | some x => rc x | none => nR)
      rw [hx]
      exact e
  refine er_eq h (congrArg lR ?_)
  rw [List.length_map]
  exact filter_range xs
end
theorem mulSm {i j : Int} (hi : i.natAbs < 2 ^ 64) (hj : j.natAbs < 2 ^ 64) : IntMulOk i j := mulOk (by
  have f : ∀ n : Nat, n < 2 ^ 64 → n.log2 < 65 := fun n h => by
    by_cases h0 : n = 0
    · subst h0; decide
    · have := (Nat.log2_lt h0).mpr h
      omega
  have := f _ hi
  have := f _ hj
  omega)
/-- the first place where a test fails -/
theorem first_bad {α : Type} {f : α → Bool} : ∀ {xs : List α}, xs.all f = false → ∃ n x, xs[n]? = some x ∧ f x = false ∧ ∀ (i : Nat) (y : α), i < n → xs[i]? = some y → f y = true
  | [], h => by cases h
  | x :: xs, h => by
    cases c : f x with
    | false => exact ⟨0, x, rfl, c, fun i y hi _ => absurd hi (Nat.not_lt_zero _)⟩
    | true =>
      rw [List.all_cons, c, Bool.true_and] at h
      obtain ⟨n, y, h1, h2, h3⟩ := first_bad h
      refine ⟨n + 1, y, h1, h2, fun i z hi hz => ?_⟩
      match i with
      | 0 =>
        have e : x = z := Option.some.inj hz
        rw [← e]
        exact c
      | i + 1 => exact h3 i z (by omega) hz
/-- the place of the leftmost corner among the first ones -/
def bestI (l : List Kzq1.P) (i : Nat) : Nat := (List.range i).foldl (fun a j => if Kzq1.before (Kzq1.at0 l j) (Kzq1.at0 l a) then j else a) 0
theorem bestI_succ (l : List Kzq1.P) (i : Nat) : bestI l (i + 1) = if Kzq1.before (Kzq1.at0 l i) (Kzq1.at0 l (bestI l i)) then i else bestI l i := by
  unfold bestI
  rw [List.range_succ, List.foldl_append]
  rfl
theorem bestI_lt (l : List Kzq1.P) (h : 0 < l.length) : ∀ i, i ≤ l.length → bestI l i < l.length
  | 0, _ => h
  | i + 1, hi => by
    rw [bestI_succ]
    split
    · omega
    · exact bestI_lt l h i (by omega)
end Rc
namespace Rc
open PySem PySem.Spec PyProof.Rows L2 Evl
theorem getD_get {ns : List Int} {i : Nat} {d : Int} (h : i < ns.length) : ns[i]? = some (ns.getD i d) := by
  rw [List.getD_eq_getElem?_getD, List.getElem?_eq_getElem h]
  rfl
theorem getDq_get {ns : List Kzq1.Q} {i : Nat} {d : Kzq1.Q} (h : i < ns.length) : ns[i]? = some (ns.getD i d) := by
  rw [List.getD_eq_getElem?_getD, List.getElem?_eq_getElem h]
  rfl
theorem pairs_len (ns : List Int) : (pairs ns).length = ns.length / 2 := by unfold pairs; simp
theorem fracs_none {ns : List Int} (h : (pairs ns).all (fun p => told2 p.1 p.2) = false) : fracs ns = none := by
  unfold fracs
  rw [if_neg (by rw [h]; exact Bool.false_ne_true)]
theorem fracs_some {ns : List Int} (h : (pairs ns).all (fun p => told2 p.1 p.2) = true) : fracs ns = some ((pairs ns).map fun p => ⟨p.1, p.2.toNat⟩) := by
  unfold fracs
  rw [if_pos h]
theorem fracs_is {ns : List Int} {qs : List Kzq1.Q} (h : fracs ns = some qs) : (pairs ns).all (fun p => told2 p.1 p.2) = true ∧ qs = (pairs ns).map fun p => ⟨p.1, p.2.toNat⟩ := by
  cases c : (pairs ns).all (fun p => told2 p.1 p.2) with
  | false => rw [fracs_none c] at h; cases h
  | true => rw [fracs_some c] at h; exact ⟨rfl, (Option.some.inj h).symm⟩
theorem fracs_len {ns : List Int} {qs : List Kzq1.Q} (h : fracs ns = some qs) : qs.length = ns.length / 2 := by
  rw [(fracs_is h).2, List.length_map, pairs_len]
theorem told2_pos {n d : Int} (h : told2 n d = true) : 1 ≤ d := by
  unfold told2 at h
  rw [Bool.and_eq_true] at h
  exact of_decide_eq_true h.1
theorem pair_reps {K : PySem.W.Frag} {ns : List Int} (h : (pairs ns).all (fun p => told2 p.1 p.2) = true) : ((pairs ns).map fun p => (⟨p.1, p.2.toNat⟩ : Kzq1.Q)).map (qR K) = (pairs ns).map fun p => tR K [iR p.1, iR p.2] := by
  rw [List.map_map]
  refine List.map_congr_left fun p hp => ?_
  have h1 := told2_pos (List.all_eq_true.mp h p hp)
  show tR K [iR p.1, iR ((p.2.toNat : Nat) : Int)] = tR K [iR p.1, iR p.2]
  rw [Int.toNat_of_nonneg (by omega)]
theorem fracs_fq {ns : List Int} {qs : List Kzq1.Q} {s : Nat} (h : fracs ns = some qs) (hb : ∀ x ∈ ns, x.natAbs < 2 ^ s) : ∀ q ∈ qs, Fq s q := by
  obtain ⟨ha, rfl⟩ := fracs_is h
  intro q hq
  obtain ⟨p, hp, rfl⟩ := List.mem_map.mp hq
  have h1 := told2_pos (List.all_eq_true.mp ha p hp)
  unfold pairs at hp
  obtain ⟨k, hk, rfl⟩ := List.mem_map.mp hp
  have hk : k < ns.length / 2 := by simpa using hk
  have m1 : ns.getD (2 * k) 0 ∈ ns := List.mem_of_getElem? (getD_get (by omega))
  have m2 : ns.getD (2 * k + 1) 0 ∈ ns := List.mem_of_getElem? (getD_get (by omega))
  have b2 := hb _ m2
  refine ⟨?_, hb _ m1, ?_⟩
  · show 0 < (ns.getD (2 * k + 1) 0).toNat
    have h1 : 1 ≤ ns.getD (2 * k + 1) 0 := h1
    omega
  · show (ns.getD (2 * k + 1) 0).toNat < 2 ^ s
    have h1 : 1 ≤ ns.getD (2 * k + 1) 0 := h1
    have e : (ns.getD (2 * k + 1) 0).toNat = (ns.getD (2 * k + 1) 0).natAbs := by omega
    rw [e]
    exact b2
theorem ptsOf_len (qs : List Kzq1.Q) (n : Nat) : (ptsOf qs n).length = n := by unfold ptsOf; simp
theorem ptsOf_bl {qs : List Kzq1.Q} {n s : Nat} (h : ∀ q ∈ qs, Fq s q) (hl : 2 * n ≤ qs.length) : BL s (ptsOf qs n) := by
  intro z hz
  unfold ptsOf at hz
  obtain ⟨k, hk, rfl⟩ := List.mem_map.mp hz
  have hk : k < n := by simpa using hk
  exact ⟨h _ (List.mem_of_getElem? (getDq_get (by omega))), h _ (List.mem_of_getElem? (getDq_get (by omega)))⟩
theorem begun_is (l : List Kzq1.P) : Kzq1.begunWith l = l.drop (bestI l l.length) ++ l.take (bestI l l.length) := rfl
theorem begun_len (l : List Kzq1.P) : (Kzq1.begunWith l).length = l.length := by
  rw [begun_is, List.length_append, List.length_drop, List.length_take]
  omega
theorem begun_mem {l : List Kzq1.P} {z : Kzq1.P} (h : z ∈ Kzq1.begunWith l) : z ∈ l := by
  rw [begun_is] at h
  rcases List.mem_append.mp h with h | h
  · exact List.mem_of_mem_drop h
  · exact List.mem_of_mem_take h
theorem begun_bl {l : List Kzq1.P} {s : Nat} (h : BL s l) : BL s (Kzq1.begunWith l) := fun z hz => h z (begun_mem hz)
theorem BL.mono {l : List Kzq1.P} {s t : Nat} (h : BL s l) (k : s ≤ t) : BL t l := fun z hz => (h z hz).mono k
theorem BL.lim {l : List Kzq1.P} {s : Nat} (h : BL s l) (k : s ≤ 33000000) : BL LIM l := fun z hz => (h z hz).b k
theorem inV01 (x : Int) : inV (.int x) [.int 0, .int 1] = (decide (x = 0) || decide (x = 1)) := by
  unfold inV
  rw [List.any_cons, List.any_cons, List.any_nil, Bool.or_false]
  have e : ∀ a : Int, eqV (.int a) (.int x) = decide (x = a) := fun a => by
    show (a == x) = decide (x = a)
    rw [Bool.eq_iff_iff, beq_iff_eq, decide_eq_true_eq]
    exact eq_comm
  rw [e, e]
/-! reading on -/
theorem readOn_nil (k : Nat) : readOn k [] = some [] := by cases k <;> rfl
theorem readOn_bad {k : Nat} {n : Int} {l : List Int} (h : n < 3 ∨ 40 < n ∨ l.length < 4 * n.toNat + 5) : readOn (k + 1) (n :: l) = none := if_pos h
theorem readOn_part {k : Nat} {n : Int} {l : List Int} (h : ¬ (n < 3 ∨ 40 < n ∨ l.length < 4 * n.toNat + 5)) (hp : partOf n.toNat (l.take (4 * n.toNat + 5)) = none) : readOn (k + 1) (n :: l) = none := by
  show (if _ then none else _) = _
  rw [if_neg h, hp]
theorem readOn_step {k : Nat} {n : Int} {l : List Int} {p : Kzq2.Part} (h : ¬ (n < 3 ∨ 40 < n ∨ l.length < 4 * n.toNat + 5)) (hp : partOf n.toNat (l.take (4 * n.toNat + 5)) = some p) :
    readOn (k + 1) (n :: l) = (readOn k (l.drop (4 * n.toNat + 5))).map (p :: ·) := by
  show (if _ then none else _) = _
  rw [if_neg h, hp]
  cases readOn k (l.drop (4 * n.toNat + 5)) <;> rfl
/-- where the loop stands: the rest is to be read on -/
def RI (ns : List Int) (st : Nat × List Kzq2.Part) : Prop := st.1 ≤ ns.length ∧ st.2.length ≤ st.1 ∧ ∃ k, (ns.drop st.1).length ≤ k ∧ readOn ns.length ns = (readOn k (ns.drop st.1)).map (st.2 ++ ·)
theorem ri_start (ns : List Int) : RI ns (0, []) := ⟨Nat.zero_le _, Nat.zero_le _, ns.length, Nat.le_refl _, by
  show readOn ns.length ns = (readOn ns.length ns).map ([] ++ ·)
  cases readOn ns.length ns <;> rfl⟩
theorem ri_end {ns : List Int} {st : Nat × List Kzq2.Part} (h : RI ns st) (e : ¬ st.1 < ns.length) : readOn ns.length ns = some st.2 := by
  obtain ⟨h1, _, k, _, h3⟩ := h
  rw [List.drop_of_length_le (by omega), readOn_nil] at h3
  rw [h3]
  show some (st.2 ++ []) = _
  rw [List.append_nil]
theorem ri_cut {ns : List Int} {st : Nat × List Kzq2.Part} (h : st.1 < ns.length) : ns.drop st.1 = ns.getD st.1 0 :: ns.drop (st.1 + 1) := by
  rw [List.drop_eq_getElem_cons h]
  congr 1
  rw [List.getD_eq_getElem?_getD, List.getElem?_eq_getElem h]
  rfl
theorem ri_bad {ns : List Int} {st : Nat × List Kzq2.Part} (h : RI ns st) (e : st.1 < ns.length) (hb : ns.getD st.1 0 < 3 ∨ 40 < ns.getD st.1 0 ∨ (ns.drop (st.1 + 1)).length < 4 * (ns.getD st.1 0).toNat + 5) : readOn ns.length ns = none := by
  obtain ⟨h1, _, k, hk, h3⟩ := h
  rw [ri_cut e] at h3 hk
  cases k with
  | zero => simp at hk
  | succ k => rw [h3, readOn_bad hb]; rfl
theorem ri_part {ns : List Int} {st : Nat × List Kzq2.Part} (h : RI ns st) (e : st.1 < ns.length) (hb : ¬ (ns.getD st.1 0 < 3 ∨ 40 < ns.getD st.1 0 ∨ (ns.drop (st.1 + 1)).length < 4 * (ns.getD st.1 0).toNat + 5))
    (hp : partOf (ns.getD st.1 0).toNat ((ns.drop (st.1 + 1)).take (4 * (ns.getD st.1 0).toNat + 5)) = none) : readOn ns.length ns = none := by
  obtain ⟨h1, _, k, hk, h3⟩ := h
  rw [ri_cut e] at h3 hk
  cases k with
  | zero => simp at hk
  | succ k => rw [h3, readOn_part hb hp]; rfl
theorem ri_step {ns : List Int} {st : Nat × List Kzq2.Part} {p : Kzq2.Part} (h : RI ns st) (e : st.1 < ns.length) (hb : ¬ (ns.getD st.1 0 < 3 ∨ 40 < ns.getD st.1 0 ∨ (ns.drop (st.1 + 1)).length < 4 * (ns.getD st.1 0).toNat + 5))
    (hp : partOf (ns.getD st.1 0).toNat ((ns.drop (st.1 + 1)).take (4 * (ns.getD st.1 0).toNat + 5)) = some p) : RI ns (st.1 + 1 + (4 * (ns.getD st.1 0).toNat + 5), st.2 ++ [p]) := by
  obtain ⟨h1, h2, k, hk, h3⟩ := h
  rw [ri_cut e] at h3 hk
  have hl : (ns.drop (st.1 + 1)).length = ns.length - (st.1 + 1) := List.length_drop
  cases k with
  | zero => simp at hk
  | succ k =>
    rw [readOn_step hb hp, List.drop_drop] at h3
    refine ⟨?_, ?_, k, ?_, ?_⟩
    · show st.1 + 1 + (4 * (ns.getD st.1 0).toNat + 5) ≤ ns.length
      omega
    · show (st.2 ++ [p]).length ≤ _
      rw [List.length_append]
      show st.2.length + 1 ≤ _
      omega
    · show (ns.drop (st.1 + 1 + (4 * (ns.getD st.1 0).toNat + 5))).length ≤ k
      rw [List.length_cons, hl] at hk
      rw [List.length_drop]
      omega
    · rw [h3]
      show _ = (readOn k (ns.drop (st.1 + 1 + (4 * (ns.getD st.1 0).toNat + 5)))).map ((st.2 ++ [p]) ++ ·)
      cases readOn k (ns.drop (st.1 + 1 + (4 * (ns.getD st.1 0).toNat + 5))) with
      | none => rfl
      | some r =>
        show some (st.2 ++ (p :: r)) = some (st.2 ++ [p] ++ r)
        rw [List.append_assoc]
        rfl
def badC : Option (List Kzq2.Part) → Int
  | none => -22
  | some ps => if 160 < ps.length then -28 else 0
end Rc
namespace Rc
open PySem PySem.Spec PyProof.Rows L2 Evl
theorem s_seqF {t u : TS} {ρ : List Sl} {fl fl1 : Fl} (h : S t ρ fl1) (k : ∀ ρ', fl1 = .nx ρ' → S u ρ' fl) (j : ∀ r, fl1 = .rt r → fl = .rt r) : S (tSeq t u) ρ fl := by
  cases fl1 with
  | nx ρ' => exact s_seq h (k ρ' rfl)
  | rt r =>
    rw [j r rfl]
    exact s_seqR h
theorem map_snoc {α β : Type} (f : α → β) (l : List α) (x : α) : (l ++ [x]).map f = l.map f ++ [f x] := by rw [List.map_append]; rfl
end Rc
namespace Rc
open PySem PySem.Spec PyProof.Rows L2 Evl
theorem readOn_le : ∀ {k : Nat} {l : List Int} {ps : List Kzq2.Part}, readOn k l = some ps → ps.length ≤ l.length
  | k, [], ps, h => by
    rw [readOn_nil] at h
    cases h
    exact Nat.le_refl _
  | 0, n :: l, ps, h => by cases h
  | k + 1, n :: l, ps, h => by
    by_cases c : n < 3 ∨ 40 < n ∨ l.length < 4 * n.toNat + 5
    · rw [readOn_bad c] at h; cases h
    · cases e : partOf n.toNat (l.take (4 * n.toNat + 5)) with
      | none => rw [readOn_part c e] at h; cases h
      | some p =>
        rw [readOn_step c e] at h
        cases e2 : readOn k (l.drop (4 * n.toNat + 5)) with
        | none => rw [e2] at h; cases h
        | some r =>
          rw [e2] at h
          cases h
          have := readOn_le e2
          rw [List.length_drop] at this
          show r.length + 1 ≤ l.length + 1
          omega
theorem readOn_len {ns : List Int} {ps : List Kzq2.Part} (h : readOn ns.length ns = some ps) : ps.length ≤ ns.length := readOn_le h
def slidF (ns : List Int) : List Int := match readOn ns.length ns with
  | none => [-22]
  | some ps => if 160 < ps.length then [-28] else [(ps.length : Int) - ((ps.filter fun p => p.m.h).length : Int), ((ps.filter fun p => p.m.h).length : Int)]
end Rc
namespace Rc
open PySem PySem.Spec PyProof.Rows L2 Evl
/-! ### the written part, and what else stands behind the top -/
theorem via {α : Type} {a b c : α} (h : a = c) (e : b = c) : b = c := e
theorem look_app {α : Type} (a : Addr) : ∀ (K1 K2 : List (Addr × α)), (K1 ++ K2).lookup a = (match K1.lookup a with | some o => some o | none => K2.lookup a)
  | [], K2 => rfl
  | (b, o) :: r, K2 => by
    cases c : (a == b) with
    | true => simp [List.lookup, c]
    | false =>
      have := look_app a r K2
      simp only [List.cons_append, List.lookup, c]
      exact this
theorem frag_app {K1 K2 : PySem.W.Frag} {h : Heap} (x : K1.In h) (y : K2.In h) : PySem.W.Frag.In (K1 ++ K2) h := fun a o e => by
  rw [look_app] at e
  cases q : K1.lookup a with
  | some u => rw [q] at e; cases e; exact x a _ q
  | none => rw [q] at e; exact y a o e
theorem seer_frag {h : Heap} (N : h.NoSeer) : ∃ E : PySem.W.Frag, E.In h ∧ ∀ (K1 : PySem.W.Frag) (base : Heap), K1.In h → PySem.W.Frag.In (K1 ++ E) base → base.NoSeer := by
  obtain ⟨mc, ⟨oc, esc, epc, hc, rc⟩, c1, c2⟩ := N.statics
  obtain ⟨mm, ⟨om, esm, epm, hm, rm⟩, m1⟩ := N.mods
  obtain ⟨mb, ⟨ob, esb, epb, hb, rb⟩, b1⟩ := N.imp
  obtain ⟨mg, bm, ox, ⟨og, esg, epg, hg, rg⟩, g1, g2, g3, g4⟩ := N.main
  let E : PySem.W.Frag := [(cStatics, oc), (sysModules, om), (builtinsNs, ob), (mainGlobals, og), (bm, ox)]
  have inE : ∀ p ∈ E, h.get? p.1 = some p.2 := by
    intro p hp
    have hp : p = (cStatics, oc) ∨ p = (sysModules, om) ∨ p = (builtinsNs, ob) ∨ p = (mainGlobals, og) ∨ p = (bm, ox) := by simpa [E] using hp
    rcases hp with rfl | rfl | rfl | rfl | rfl
    · exact hc
    · exact hm
    · exact hb
    · exact hg
    · exact g2
  have hE : E.In h := fun a o e => by
    have f : ∀ (l : PySem.W.Frag), (∀ p ∈ l, h.get? p.1 = some p.2) → l.lookup a = some o → h.get? a = some o := by
      intro l
      induction l with
      | nil => intro _ e; cases e
      | cons p l ih =>
        intro hl e
        obtain ⟨b, u⟩ := p
        by_cases c : (a == b) = true
        · simp only [List.lookup, c] at e
          cases e
          rw [beq_iff_eq] at c
          subst c
          exact hl _ List.mem_cons_self
        · have c : (a == b) = false := by simpa using c
          simp only [List.lookup, c] at e
          exact ih (fun p hp => hl p (List.mem_cons_of_mem _ hp)) e
    exact f E inE e
  refine ⟨E, hE, fun K1 base x y => ?_⟩
  have tr : ∀ (a : Addr) (o : Obj), (a, o) ∈ E → base.get? a = some o := by
    intro a o hm
    have : ∃ u, (K1 ++ E).lookup a = some u := by
      rw [look_app]
      cases q : K1.lookup a with
      | some u => exact ⟨u, rfl⟩
      | none =>
        have f : ∀ (l : PySem.W.Frag), (a, o) ∈ l → ∃ u, l.lookup a = some u := by
          intro l
          induction l with
          | nil => intro z; cases z
          | cons p l ih =>
            intro z
            obtain ⟨b, u⟩ := p
            by_cases c : (a == b) = true
            · exact ⟨u, by simp only [List.lookup, c]⟩
            · have c' : (a == b) = false := by simpa using c
              rcases List.mem_cons.mp z with z | z
              · cases z
                simp at c
              · obtain ⟨u', e'⟩ := ih z
                exact ⟨u', by simp only [List.lookup, c']; exact e'⟩
        exact f E hm
    obtain ⟨u, e⟩ := this
    have h1 := frag_app x hE a u e
    have h2 := inE _ hm
    rw [h1] at h2
    have h2 : u = o := Option.some.inj h2
    rw [y a u e, h2]
  have e1 := tr cStatics oc (by simp [E])
  have e2 := tr sysModules om (by simp [E])
  have e3 := tr builtinsNs ob (by simp [E])
  have e4 := tr mainGlobals og (by simp [E])
  have e5 := tr bm ox (by simp [E])
  exact ⟨⟨mc, ⟨oc, esc, epc, e1, rc⟩, c1, c2⟩, ⟨mm, ⟨om, esm, epm, e2, rm⟩, m1⟩, ⟨mb, ⟨ob, esb, epb, e3, rb⟩, b1⟩, ⟨mg, bm, ox, ⟨og, esg, epg, e4, rg⟩, g1, e5, g3, g4⟩⟩
end Rc
namespace Rc
open PySem PySem.Spec PyProof.Rows L2 Evl
theorem er_g {v : V} {ρ : List Sl} {r : Rp} (h : ∀ H, r.p v H) : ER (tC v) ρ r := fun H0 σ G H z e n Q q => q v G H (Step.refl e) (h G)
/-- corners few and small enough that their size can be reckoned -/
def AreaOk (l : List Kzq1.P) : Prop := l.length ≤ 40000 ∧ ∃ s, s ≤ 16000000 ∧ BL s l ∧ 1 + l.length * (4 * s + 2) ≤ 33000000
theorem sides_bl {l : List Kzq1.P} {s : Nat} (h : BL s l) : ∀ t ∈ Kzq1.sides l, Fp s t.1 ∧ Fp s t.2 := by
  intro t hm
  unfold Kzq1.sides at hm
  obtain ⟨i, hi, rfl⟩ := List.mem_map.mp hm
  have hi : i < l.length := by simpa using hi
  exact ⟨h _ (at0_mem (by omega)), h _ (at0_mem (by omega))⟩
theorem half_fq : Fq 2 Kzq1.half := ⟨by decide, by decide, by decide⟩
theorem sum_fq {s : Nat} : ∀ (l : List Kzq1.Q) (a : Kzq1.Q) (t : Nat), Fq t a → (∀ q ∈ l, Fq s q) → Fq (t + l.length * (s + 1)) (l.foldl Kzq1.add a)
  | [], a, t, h, _ => by
    rw [List.length_nil, Nat.zero_mul]
    exact h
  | q :: l, a, t, h, k => by
    have := sum_fq l (Kzq1.add a q) (t + s + 1) (h.add (k q List.mem_cons_self)) fun x hx => k x (List.mem_cons_of_mem _ hx)
    refine this.mono ?_
    rw [List.length_cons, Nat.succ_mul]
    omega
end Rc
namespace Rc
open PySem PySem.Spec PyProof.Rows L2 Evl
theorem mul_comm2 (a b : Kzq1.Q) : Kzq1.mul a b = Kzq1.mul b a := by
  show Kzq1.mk (a.n * b.n) (a.d * b.d) = Kzq1.mk (b.n * a.n) (b.d * a.d)
  rw [Int.mul_comm, Nat.mul_comm]
theorem area_sum {l : List Kzq1.P} {s : Nat} (h : BL s l) : Fq (1 + l.length * (4 * s + 2)) (Kzq1.sum ((Kzq1.sides l).map fun t => Kzq1.cross t.1 t.2)) := by
  have hsz : ((Kzq1.sides l).map fun t => Kzq1.cross t.1 t.2).length = l.length := by
    rw [List.length_map]
    unfold Kzq1.sides
    simp
  have := sum_fq (s := 4 * s + 1) ((Kzq1.sides l).map fun t => Kzq1.cross t.1 t.2) Kzq1.zero 1 ⟨Nat.one_pos, by decide, by decide⟩ fun q hq => by
    obtain ⟨t, ht, rfl⟩ := List.mem_map.mp hq
    have hd := sides_bl h t ht
    exact (hd.1.cross hd.2).mono (by omega)
  rw [hsz] at this
  exact this
theorem partOf_bpt {n : Nat} {ns : List Int} {p : Kzq2.Part} (h3 : 3 ≤ n) (h40 : n ≤ 40) (hl : ns.length = 4 * n + 5) (h : partOf n ns = some p) (hb : ∀ x ∈ ns, x.natAbs < 2 ^ 256) : Bpt 256 p ∧ strictB (ptsOf ((fracs (ns.take (4 * n))).getD []) n) = true ∧ p.l = Kzq1.begunWith (ptsOf ((fracs (ns.take (4 * n))).getD []) n) := by
  unfold partOf at h
  cases c1 : fracs (ns.take (4 * n)) with
  | none => rw [c1] at h; cases h
  | some cs =>
    cases c2 : fracs (ns.drop (4 * n + 1)) with
    | none => rw [c1, c2] at h; cases h
    | some ss =>
      rw [c1, c2] at h
      have h : (if ns.getD (4 * n) 2 = 0 ∨ ns.getD (4 * n) 2 = 1 then (if strictB (ptsOf cs n) = true then some (⟨Kzq1.begunWith (ptsOf cs n), ⟨decide (ns.getD (4 * n) 2 = 1), ⟨ss.getD 0 Kzq1.zero, ss.getD 1 Kzq1.zero⟩⟩⟩ : Kzq2.Part) else none) else none) = some p := h
      split at h
      · split at h
        · rename_i hs
          cases h
          have q1 := fracs_fq c1 fun x hx => hb x (List.mem_of_mem_take hx)
          have q2 := fracs_fq c2 fun x hx => hb x (List.mem_of_mem_drop hx)
          have k1 : cs.length = 2 * n := by rw [fracs_len c1, List.length_take]; omega
          have k2 : ss.length = 2 := by rw [fracs_len c2, List.length_drop]; omega
          have pl := ptsOf_len cs n
          refine ⟨⟨begun_bl (ptsOf_bl q1 (by omega)), ?_, ?_, q2 _ (List.mem_of_getElem? (getDq_get (by omega))), q2 _ (List.mem_of_getElem? (getDq_get (by omega)))⟩, hs, rfl⟩
          · show 3 ≤ (Kzq1.begunWith _).length
            rw [begun_len]; omega
          · show (Kzq1.begunWith _).length ≤ 40
            rw [begun_len]; omega
        · cases h
      · cases h
theorem readOn_all {C : Kzq2.Part → Prop} (hC : ∀ (n : Nat) (ns : List Int) (p : Kzq2.Part), 3 ≤ n → n ≤ 40 → ns.length = 4 * n + 5 → (∀ x ∈ ns, x.natAbs < 2 ^ 256) → partOf n ns = some p → C p) : ∀ {k : Nat} {l : List Int} {ps : List Kzq2.Part}, readOn k l = some ps → (∀ x ∈ l, x.natAbs < 2 ^ 256) → ∀ p ∈ ps, C p
  | k, [], ps, h, _ => by
    rw [readOn_nil] at h
    cases h
    intro p hp
    cases hp
  | 0, n :: l, ps, h, _ => by cases h
  | k + 1, n :: l, ps, h, hb => by
    by_cases c : n < 3 ∨ 40 < n ∨ l.length < 4 * n.toNat + 5
    · rw [readOn_bad c] at h; cases h
    · cases e : partOf n.toNat (l.take (4 * n.toNat + 5)) with
      | none => rw [readOn_part c e] at h; cases h
      | some p =>
        rw [readOn_step c e] at h
        cases e2 : readOn k (l.drop (4 * n.toNat + 5)) with
        | none => rw [e2] at h; cases h
        | some r =>
          rw [e2] at h
          cases h
          have ih := readOn_all hC e2 fun x hx => hb x (List.mem_cons_of_mem _ (List.mem_of_mem_drop hx))
          intro q hq
          rcases List.mem_cons.mp hq with rfl | hq
          · exact hC n.toNat (l.take (4 * n.toNat + 5)) q (by omega) (by omega) (by rw [List.length_take]; omega) (fun x hx => hb x (List.mem_cons_of_mem _ (List.mem_of_mem_take hx))) e
          · exact ih q hq
theorem readOn_bpt {k : Nat} {l : List Int} {ps : List Kzq2.Part} (h : readOn k l = some ps) (hb : ∀ x ∈ l, x.natAbs < 2 ^ 256) : ∀ p ∈ ps, Bpt 256 p :=
  readOn_all (fun n ns p h3 h40 hl hx hp => (partOf_bpt h3 h40 hl hp hx).1) h hb
theorem flat_len {α : Type} {f : α → List Int} (xs : List α) (m : Nat) (h : ∀ x, (f x).length ≤ m) : (xs.flatMap f).length ≤ m * xs.length := by
  induction xs with
  | nil => exact Nat.zero_le _
  | cons x xs ih =>
    rw [List.flatMap_cons, List.length_append, List.length_cons, Nat.mul_succ]
    have := h x
    omega
def sizesF (ns : List Int) : List Int := match readOn ns.length ns with
  | none => [-22]
  | some ps => if 160 < ps.length then [-28] else (ps.length : Int) :: ps.flatMap fun p => Kzq1.writtenQ (Kzq1.size p.l)
/-- a written fraction of the module -/
theorem q_lit {K : PySem.W.Frag} {a : Addr} {od : Option Addr} {n d : Int} {k : Nat} {t u : Tok} {sl : Array (Option Value)} {q : Kzq1.Q} {H : Hp} (l : K.lookup a = some ⟨.type "tuple", od, .seq #[.int n t, .int d u] k, sl⟩) (e1 : q.n = n := by rfl) (e2 : (q.d : Int) = d := by rfl) : (qR K q).p (.ref a) H := by
  refine ⟨a, [.int n, .int d], rfl, .inr ⟨_, _, _, l, rfl, rfl, by show 2 ≤ sizeLine; decide, .cons ⟨t, rfl⟩ (.cons ⟨u, rfl⟩ .nil)⟩, ?_⟩
  rw [e1, e2]
  exact ⟨rfl, rfl, trivial⟩
end Rc
namespace Rc
open Kzq1 (Q P readQ okQ readPoints convex formed turn at0 sides cross less mul sub add neg mk pos isZero unlike straightened begunWith)
/-! ### fractions read -/
theorem readQ_is (n d : Int) : readQ n d = if told2 n d = true then some ⟨n, d.toNat⟩ else none := by
  unfold Kzq1.readQ told2 Kzq1.okQ
  by_cases h : d < 1
  · rw [if_pos h, if_neg]
    rw [decide_eq_false (by omega)]
    exact Bool.false_ne_true
  · rw [if_neg h, decide_eq_true (show 1 ≤ d by omega), Bool.true_and]
    show (if (decide (1 ≤ d.toNat) && Nat.gcd n.natAbs d.toNat == 1) = true then _ else _) = _
    rw [decide_eq_true (show 1 ≤ d.toNat by omega), Bool.true_and]
    by_cases g : Nat.gcd n.natAbs d.toNat = 1
    · rw [if_pos (by rw [g]; rfl), if_pos (by rw [g]; rfl)]
    · rw [if_neg (by simpa using g), if_neg (by rw [decide_eq_true_eq]; omega)]
theorem pairs_cons (a b : Int) (l : List Int) : pairs (a :: b :: l) = (a, b) :: pairs l := by
  unfold pairs
  have e : (a :: b :: l).length / 2 = l.length / 2 + 1 := by simp; omega
  rw [e, List.range_succ_eq_map, List.map_cons, List.map_map]
  congr 1
theorem fracs_cons (a b : Int) (l : List Int) : fracs (a :: b :: l) = match readQ a b with | none => none | some x => (fracs l).map (x :: ·) := by
  rw [readQ_is]
  cases h : told2 a b with
  | false =>
    show fracs _ = none
    refine fracs_none ?_
    rw [pairs_cons, List.all_cons, h]
    rfl
  | true =>
    show fracs _ = (fracs l).map (_ :: ·)
    cases g : (pairs l).all (fun p => told2 p.1 p.2) with
    | false =>
      rw [fracs_none g]
      refine fracs_none ?_
      rw [pairs_cons, List.all_cons, h, g]
      rfl
    | true =>
      rw [fracs_some g, fracs_some (by rw [pairs_cons, List.all_cons, h, g]; rfl), pairs_cons]
      rfl
theorem ptsOf_cons (x y : Q) (qs : List Q) (m : Nat) : ptsOf (x :: y :: qs) (m + 1) = ⟨x, y⟩ :: ptsOf qs m := by
  unfold ptsOf
  rw [List.range_succ_eq_map, List.map_cons, List.map_map]
  rfl
theorem readPts : ∀ (m : Nat) (l : List Int), l.length = 4 * m → readPoints l = (fracs l).map fun qs => ptsOf qs m
  | 0, [], _ => rfl
  | 0, a :: l, h => by simp at h
  | m + 1, [], h => by first | (simp at h; done) | (simp at h; omega)
  | m + 1, [_], h => by first | (simp at h; done) | (simp at h; omega)
  | m + 1, [_, _], h => by first | (simp at h; done) | (simp at h; omega)
  | m + 1, [_, _, _], h => by first | (simp at h; done) | (simp at h; omega)
  | m + 1, a :: b :: c :: e :: l, h => by
    have ih := readPts m l (by simp at h; omega)
    rw [fracs_cons]
    show (match readQ a b, readQ c e, readPoints l with | some x, some y, some r => some ((⟨x, y⟩ : P) :: r) | _, _, _ => none) = _
    cases h1 : readQ a b with
    | none => rfl
    | some x =>
      rw [fracs_cons]
      cases h2 : readQ c e with
      | none => rfl
      | some y =>
        rw [ih]
        cases h3 : fracs l with
        | none => rfl
        | some qs =>
          show some _ = some (ptsOf (x :: y :: qs) (m + 1))
          rw [ptsOf_cons]
/-! ### turns that are none -/
theorem mk0 (d : Nat) : (mk 0 d).n = 0 := by
  unfold Kzq1.mk
  show (if _ then (⟨0, 1⟩ : Q) else if _ then ⟨0, 1⟩ else ⟨0 / _, _⟩).n = 0
  split
  · rfl
  · split
    · rfl
    · exact Int.zero_ediv _
theorem sub_self (a : Q) : (sub a a).n = 0 := by
  show (mk (a.n * (a.d : Int) + -a.n * (a.d : Int)) (a.d * a.d)).n = 0
  rw [Int.neg_mul, Int.add_right_neg]
  exact mk0 _
theorem mul_zero_r (a b : Q) (h : b.n = 0) : (mul a b).n = 0 := by
  show (mk (a.n * b.n) (a.d * b.d)).n = 0
  rw [h, Int.mul_zero]
  exact mk0 _
theorem mul_zero_l (a b : Q) (h : a.n = 0) : (mul a b).n = 0 := by
  show (mk (a.n * b.n) (a.d * b.d)).n = 0
  rw [h, Int.zero_mul]
  exact mk0 _
theorem sub_zero2 (a b : Q) (h : a.n = 0) (k : b.n = 0) : (sub a b).n = 0 := by
  show (mk (a.n * (b.d : Int) + -b.n * (a.d : Int)) (a.d * b.d)).n = 0
  rw [h, k, Int.zero_mul, Int.neg_zero, Int.zero_mul]
  exact mk0 _
theorem mul_comm' (a b : Q) : mul a b = mul b a := by
  show mk (a.n * b.n) (a.d * b.d) = mk (b.n * a.n) (b.d * a.d)
  rw [Int.mul_comm, Nat.mul_comm]
theorem turn_a (a b : P) : (turn a b a).n = 0 := sub_zero2 _ _ (mul_zero_r _ _ (sub_self _)) (mul_zero_r _ _ (sub_self _))
theorem turn_b (a b : P) : (turn a b b).n = 0 := by
  show (sub (mul (Kzq1.less b a).x (Kzq1.less b a).y) (mul (Kzq1.less b a).y (Kzq1.less b a).x)).n = 0
  rw [mul_comm' (Kzq1.less b a).y]
  exact sub_self _
theorem turn_aa (a c : P) : (turn a a c).n = 0 := sub_zero2 _ _ (mul_zero_l _ _ (sub_self _)) (mul_zero_l _ _ (sub_self _))
theorem pos_n {q : Q} (h : q.n = 0) : pos q = false := decide_eq_false (by rw [h]; exact Int.lt_irrefl 0)
/-! ### corners round about -/
theorem at0_mod (l : List P) (i : Nat) : at0 l (i % l.length) = at0 l i := by
  unfold Kzq1.at0
  rw [Nat.mod_mod]
theorem at0_eq {l : List P} {i j : Nat} (h : i % l.length = j % l.length) : at0 l i = at0 l j := by rw [← at0_mod, h, at0_mod]
theorem at0_list (l : List P) : (List.range l.length).map (at0 l) = l := by
  refine List.ext_getElem? fun i => ?_
  by_cases h : i < l.length
  · rw [List.getElem?_map, List.getElem?_range h]
    have := at0_get (l := l) (i := i) (by omega)
    rw [Nat.mod_eq_of_lt h] at this
    rw [this]
    rfl
  · rw [List.getElem?_eq_none (by simp; omega), List.getElem?_eq_none (by omega)]
/-! ### counting -/
theorem count_le {α : Type} {p r : α → Bool} : ∀ (xs : List α), (∀ x ∈ xs, p x = true → r x = true) → (xs.filter p).length ≤ (xs.filter r).length ∧ ((xs.filter p).length = (xs.filter r).length → ∀ x ∈ xs, r x = true → p x = true)
  | [], _ => ⟨Nat.le_refl _, fun _ _ h => by cases h⟩
  | x :: xs, h => by
    obtain ⟨h1, h2⟩ := count_le xs fun y hy => h y (List.mem_cons_of_mem _ hy)
    have hx := h x List.mem_cons_self
    rw [List.filter_cons, List.filter_cons]
    cases cp : p x with
    | true =>
      rw [if_pos rfl, if_pos (hx cp), List.length_cons, List.length_cons]
      refine ⟨by omega, fun e y hy hr => ?_⟩
      rcases List.mem_cons.mp hy with rfl | hy
      · exact cp
      · exact h2 (by omega) y hy hr
    | false =>
      rw [if_neg Bool.false_ne_true]
      cases cr : r x with
      | true =>
        rw [if_pos rfl, List.length_cons]
        exact ⟨by omega, fun e => by omega⟩
      | false =>
        rw [if_neg Bool.false_ne_true]
        refine ⟨h1, fun e y hy hr => ?_⟩
        rcases List.mem_cons.mp hy with rfl | hy
        · rw [cr] at hr; cases hr
        · exact h2 e y hy hr
theorem count_split {α : Type} (p : α → Bool) : ∀ (xs : List α), (xs.filter p).length + (xs.filter fun x => !p x).length = xs.length
  | [] => rfl
  | x :: xs => by
    have := count_split p xs
    rw [List.filter_cons, List.filter_cons]
    cases c : p x with
    | true => rw [if_pos rfl, if_neg (by simp), List.length_cons, List.length_cons]; omega
    | false => rw [if_neg Bool.false_ne_true, if_pos (show (!false) = true from rfl), List.length_cons, List.length_cons]; omega
theorem count_one (n k : Nat) (h : k < n) : ((List.range n).filter fun j => j == k).length = 1 := by
  have e : ((List.range n).filter fun j => j == k) = [k] := by
    induction n with
    | zero => omega
    | succ n ih =>
      rw [List.range_succ, List.filter_append]
      by_cases c : k = n
      · subst c
        have : (List.range k).filter (fun j => j == k) = [] := by
          rw [List.filter_eq_nil_iff]
          intro j hj
          have := List.mem_range.mp hj
          simp; omega
        rw [this]
        simp
      · rw [ih (by omega)]
        have : ([n] : List Nat).filter (fun j => j == k) = [] := by simp; omega
        rw [this]
        rfl
  rw [e]
  rfl
theorem count_two (n i k : Nat) (hi : i < n) (hk : k < n) (hik : i ≠ k) : ((List.range n).filter fun j => !(j == i || j == k)).length = n - 2 := by
  have h := count_split (fun j => j == i || j == k) (List.range n)
  have g : ((List.range n).filter fun j => j == i || j == k).length = 2 := by
    have s := count_split (fun j => j == i) ((List.range n).filter fun j => j == i || j == k)
    rw [List.filter_filter, List.filter_filter] at s
    have e1 : (List.range n).filter (fun j => (j == i) && (j == i || j == k)) = (List.range n).filter fun j => j == i := List.filter_congr fun j _ => by by_cases c : j = i <;> simp [c]
    have e2 : (List.range n).filter (fun j => (!(j == i)) && (j == i || j == k)) = (List.range n).filter fun j => j == k := List.filter_congr fun j _ => by
      rw [Bool.eq_iff_iff]
      simp only [Bool.and_eq_true, Bool.or_eq_true, Bool.not_eq_true', beq_eq_false_iff_ne, beq_iff_eq, ne_eq]
      omega
    rw [e1, e2, count_one n i hi, count_one n k hk] at s
    omega
  rw [List.length_range] at h
  omega
/-! ### strict is convex -/
theorem left_count (l : List P) (a b : P) : (leftOf l (a, b)).length = ((List.range l.length).filter fun j => pos (turn a b (at0 l j))).length := by
  show (l.filter fun c => pos (turn a b c)).length = _
  have e : l.filter (fun c => pos (turn a b c)) = ((List.range l.length).map (at0 l)).filter fun c => pos (turn a b c) := by rw [at0_list]
  rw [e, List.filter_map, List.length_map]
  rfl
theorem side_strict (l : List P) (h3 : 3 ≤ l.length) (i : Nat) (hi : i < l.length) :
    decide (((leftOf l (at0 l i, at0 l (i + 1))).length : Int) = (l.length : Int) - 2) = (List.range l.length).all fun j => j == i || j == (i + 1) % l.length || pos (turn (at0 l i) (at0 l (i + 1)) (at0 l j)) := by
  rw [left_count]
  have hk : (i + 1) % l.length < l.length := Nat.mod_lt _ (by omega)
  have hik : i ≠ (i + 1) % l.length := by
    by_cases c : i + 1 = l.length
    · rw [c, Nat.mod_self]; omega
    · rw [Nat.mod_eq_of_lt (by omega)]; omega
  have sub := count_le (p := fun j => pos (turn (at0 l i) (at0 l (i + 1)) (at0 l j))) (r := fun j => !(j == i || j == (i + 1) % l.length)) (List.range l.length) (fun j hj hp => by
    by_cases c : j = i
    · subst c
      rw [pos_n (turn_a _ _)] at hp
      cases hp
    · by_cases d : j = (i + 1) % l.length
      · subst d
        rw [at0_mod, pos_n (turn_b _ _)] at hp
        cases hp
      · simp [c, d])
  rw [count_two l.length i _ hi hk hik] at sub
  rw [Bool.eq_iff_iff, decide_eq_true_eq, List.all_eq_true]
  constructor
  · intro e j hj
    have := sub.2 (by omega) j hj
    cases c : (j == i || j == (i + 1) % l.length) with
    | true => rfl
    | false => exact this (by rw [c]; rfl)
  · intro e
    have le2 := (count_le (p := fun j => !(j == i || j == (i + 1) % l.length)) (r := fun j => pos (turn (at0 l i) (at0 l (i + 1)) (at0 l j))) (List.range l.length) (fun j hj hp => by
      have := e j hj
      cases c : (j == i || j == (i + 1) % l.length) with
      | true => rw [c] at hp; cases hp
      | false => rw [c] at this; exact this)).1
    rw [count_two l.length i _ hi hk hik] at le2
    have := sub.1
    omega
theorem strict_conv (l : List P) (h3 : 3 ≤ l.length) : convex l = strictB l := by
  unfold Kzq1.convex strictB Kzq1.sides
  rw [decide_eq_true h3, Bool.true_and, List.all_map, Bool.eq_iff_iff, List.all_eq_true, List.all_eq_true]
  refine forall_congr' fun i => ?_
  refine imp_congr_right fun hi => ?_
  have hi : i < l.length := List.mem_range.mp hi
  show _ ↔ decide (((leftOf l (at0 l i, at0 l (i + 1))).length : Int) = (l.length : Int) - 2) = true
  rw [side_strict l h3 i hi]
/-- what convex says, round about -/
theorem conv_pos {l : List P} (h : convex l = true) {i j : Nat} (hj : j % l.length ≠ i % l.length) (hk : j % l.length ≠ (i + 1) % l.length) : pos (turn (at0 l i) (at0 l (i + 1)) (at0 l j)) = true := by
  unfold Kzq1.convex at h
  rw [Bool.and_eq_true] at h
  have h3 : 3 ≤ l.length := of_decide_eq_true h.1
  have e := List.all_eq_true.mp (List.all_eq_true.mp h.2 (i % l.length) (List.mem_range.mpr (Nat.mod_lt _ (by omega)))) (j % l.length) (List.mem_range.mpr (Nat.mod_lt _ (by omega)))
  have m : (i % l.length + 1) % l.length = (i + 1) % l.length := by rw [Nat.add_mod, Nat.mod_mod, ← Nat.add_mod]
  have e2 : at0 l (i % l.length + 1) = at0 l (i + 1) := at0_eq m
  rw [m, at0_mod, at0_mod, e2] at e
  simp only [Bool.or_eq_true, beq_iff_eq] at e
  rcases e with (e | e) | e
  · exact absurd e hj
  · exact absurd e hk
  · exact e
theorem conv_len {l : List P} (h : convex l = true) : 3 ≤ l.length := by
  unfold Kzq1.convex at h
  rw [Bool.and_eq_true] at h
  exact of_decide_eq_true h.1
theorem mod_ne {n i a b : Nat} (ha : a < n) (hb : b < n) (h : a ≠ b) : (i + a) % n ≠ (i + b) % n := by
  intro e
  have h1 := Nat.div_add_mod (i + a) n
  have h2 := Nat.div_add_mod (i + b) n
  rw [e] at h1
  have h3 : (i + a) / n = (i + b) / n ∨ (i + a) / n < (i + b) / n ∨ (i + b) / n < (i + a) / n := by omega
  rcases h3 with h3 | h3 | h3
  · rw [h3] at h1; omega
  · have : n * ((i + a) / n) + n ≤ n * ((i + b) / n) := by
      have := Nat.mul_le_mul_left n h3
      rw [Nat.mul_succ] at this
      exact this
    omega
  · have : n * ((i + b) / n) + n ≤ n * ((i + a) / n) := by
      have := Nat.mul_le_mul_left n h3
      rw [Nat.mul_succ] at this
      exact this
    omega
theorem conv_next {l : List P} (h : convex l = true) (i : Nat) : at0 l i ≠ at0 l (i + 1) := by
  intro e
  have h3 := conv_len h
  have p := conv_pos h (i := i) (j := i + 2) (mod_ne (a := 2) (b := 0) (by omega) (by omega) (by omega)) (mod_ne (a := 2) (b := 1) (by omega) (by omega) (by omega))
  rw [← e, pos_n (turn_aa _ _)] at p
  cases p
theorem conv_turn {l : List P} (h : convex l = true) (i : Nat) : pos (turn (at0 l (i + l.length - 1)) (at0 l i) (at0 l (i + 1))) = true := by
  have h3 := conv_len h
  have p := conv_pos h (i := i + l.length - 1) (j := i + l.length - 1 + 2) (mod_ne (a := 2) (b := 0) (by omega) (by omega) (by omega)) (mod_ne (a := 2) (b := 1) (by omega) (by omega) (by omega))
  have e1 : at0 l (i + l.length - 1 + 1) = at0 l i := at0_eq (by rw [show i + l.length - 1 + 1 = i + l.length by omega, Nat.add_mod_right])
  have e2 : at0 l (i + l.length - 1 + 2) = at0 l (i + 1) := at0_eq (by rw [show i + l.length - 1 + 2 = (i + 1) + l.length by omega, Nat.add_mod_right])
  rw [e1, e2] at p
  exact p
theorem filterMap_all {α : Type} {f : Nat → Option α} {g : Nat → α} (h : ∀ i, f i = some (g i)) (n : Nat) : (List.range n).filterMap f = (List.range n).map g := by
  induction n with
  | zero => rfl
  | succ n ih => rw [List.range_succ, List.filterMap_append, List.map_append, ih, List.filterMap_cons, h]; rfl
theorem conv_unlike {l : List P} (h : convex l = true) : unlike l = l := by
  unfold Kzq1.unlike
  rw [filterMap_all (g := at0 l) fun i => if_neg (conv_next h i), at0_list]
theorem conv_straight {l : List P} (h : convex l = true) : straightened l = l := by
  unfold Kzq1.straightened
  rw [filterMap_all (g := at0 l) fun i => ?_, at0_list]
  have p : 0 < (turn (at0 l (i + l.length - 1)) (at0 l i) (at0 l (i + 1))).n := of_decide_eq_true (conv_turn h i)
  refine if_neg ?_
  show ¬ ((turn _ _ _).n == 0) = true
  rw [beq_iff_eq]
  omega
theorem conv_formed {l : List P} (h : convex l = true) : formed l = begunWith l := by
  unfold Kzq1.formed
  rw [conv_unlike h, conv_straight h]
  show (if l.length < 3 then [] else begunWith l) = _
  rw [if_neg (by have := conv_len h; omega)]
/-! ### a part -/
theorem take_four {a : Nat} {l : List Int} (h : l.length = a + 5) : ∃ h0 b c d e, l.drop a = [h0, b, c, d, e] := by
  have hl : (l.drop a).length = 5 := by rw [List.length_drop]; omega
  match e : l.drop a, hl with
  | [h0, b, c, d, f], _ => exact ⟨h0, b, c, d, f, rfl⟩
theorem partOf_is (n : Nat) (l : List Int) (h3 : 3 ≤ n) (h40 : n ≤ 40) (hl : l.length = 4 * n + 5) : partOf n l =
    match Kzq1.readPiece (l.take (4 * n)), (l.drop (4 * n)).take 5 with
    | some p, [h, a, b, c, d] => (match readQ a b, readQ c d with
      | some x, some y => if h = 0 ∨ h = 1 then some ⟨formed p, ⟨h == 1, ⟨x, y⟩⟩⟩ else none
      | _, _ => none)
    | _, _ => none := by
  obtain ⟨h0, a, b, c, d, e5⟩ := take_four hl
  have e6 : l.drop (4 * n + 1) = [a, b, c, d] := by
    rw [← List.drop_drop, e5]
    rfl
  have e7 : l.getD (4 * n) 2 = h0 := by
    rw [List.getD_eq_getElem?_getD]
    have : (l.drop (4 * n))[0]? = some h0 := by rw [e5]; rfl
    rw [List.getElem?_drop, Nat.add_zero] at this
    rw [this]
    rfl
  have e8 : fracs [a, b, c, d] = match readQ a b, readQ c d with | some x, some y => some [x, y] | _, _ => none := by
    rw [fracs_cons]
    cases readQ a b with
    | none => rfl
    | some x =>
      rw [fracs_cons]
      cases readQ c d with
      | none => rfl
      | some y => rfl
  have e9 : Kzq1.readPiece (l.take (4 * n)) = match fracs (l.take (4 * n)) with | none => none | some cs => if strictB (ptsOf cs n) = true then some (ptsOf cs n) else none := by
    unfold Kzq1.readPiece
    rw [readPts n _ (by rw [List.length_take]; omega)]
    cases fracs (l.take (4 * n)) with
    | none => rfl
    | some cs =>
      show (if (ptsOf cs n).length ≤ 40 ∧ convex (ptsOf cs n) = true then some (ptsOf cs n) else none) = _
      rw [ptsOf_len, strict_conv _ (by rw [ptsOf_len]; exact h3)]
      by_cases s : strictB (ptsOf cs n) = true
      · rw [if_pos ⟨h40, s⟩]; exact (if_pos s).symm
      · rw [if_neg fun z => s z.2]; exact (if_neg s).symm
  unfold partOf
  rw [e6, e7, e8, e9, e5]
  show _ = match (match fracs (l.take (4 * n)) with | none => none | some cs => if strictB (ptsOf cs n) = true then some (ptsOf cs n) else none), ([h0, a, b, c, d] : List Int) with
    | some p, [h, a, b, c, d] => (match readQ a b, readQ c d with
      | some x, some y => if h = 0 ∨ h = 1 then some (⟨formed p, ⟨h == 1, ⟨x, y⟩⟩⟩ : Kzq2.Part) else none
      | _, _ => none)
    | _, _ => none
  cases fracs (l.take (4 * n)) with
  | none => rfl
  | some cs =>
    by_cases s : strictB (ptsOf cs n) = true
    · have cv : convex (ptsOf cs n) = true := by rw [strict_conv _ (by rw [ptsOf_len]; exact h3)]; exact s
      simp only [if_pos s]
      cases readQ a b with
      | none => rfl
      | some x =>
        cases readQ c d with
        | none => rfl
        | some y =>
          show (if h0 = 0 ∨ h0 = 1 then (if strictB (ptsOf cs n) = true then some _ else none) else none) = if h0 = 0 ∨ h0 = 1 then some _ else none
          rw [if_pos s, conv_formed cv]
          rfl
    · simp only [if_neg s]
      cases readQ a b with
      | none => rfl
      | some x =>
        cases readQ c d with
        | none => rfl
        | some y =>
          show (if h0 = 0 ∨ h0 = 1 then (if strictB (ptsOf cs n) = true then some _ else none) else none) = none
          rw [if_neg s]
          split <;> rfl
theorem readOn_is : ∀ (k : Nat) (l : List Int), readOn k l = Kzq2.readCut k l
  | 0, [] => rfl
  | k + 1, [] => rfl
  | 0, n :: l => rfl
  | k + 1, n :: l => by
    by_cases c : n < 3 ∨ 40 < n ∨ l.length < 4 * n.toNat + 5
    · rw [readOn_bad c]
      show _ = if _ then none else _
      rw [if_pos c]
    · have hp := partOf_is n.toNat (l.take (4 * n.toNat + 5)) (by omega) (by omega) (by rw [List.length_take]; omega)
      have e1 : (l.take (4 * n.toNat + 5)).take (4 * n.toNat) = l.take (4 * n.toNat) := by rw [List.take_take]; congr 1; omega
      have e2 : ((l.take (4 * n.toNat + 5)).drop (4 * n.toNat)).take 5 = (l.drop (4 * n.toNat)).take 5 := by rw [List.drop_take, List.take_take]; congr 1; omega
      rw [e1, e2] at hp
      have ih := readOn_is k (l.drop (4 * n.toNat + 5))
      show (if _ then none else _) = (if _ then none else _)
      rw [if_neg c, if_neg c, hp, ih]
      cases Kzq1.readPiece (l.take (4 * n.toNat)) with
      | none => rfl
      | some p =>
        match (l.drop (4 * n.toNat)).take 5 with
        | [] => rfl
        | [_] => rfl
        | [_, _] => rfl
        | [_, _, _] => rfl
        | [_, _, _, _] => rfl
        | _ :: _ :: _ :: _ :: _ :: _ :: _ => rfl
        | [h, a, b, c, d] =>
          have key : ∀ (o : Option (List Kzq2.Part)), (match (match readQ a b, readQ c d with | some x, some y => if h = 0 ∨ h = 1 then some (⟨formed p, ⟨h == 1, ⟨x, y⟩⟩⟩ : Kzq2.Part) else none | _, _ => none) with | none => none | some p => match o with | none => none | some r => some (p :: r)) =
              match o with
              | none => none
              | some r => (match readQ a b, readQ c d with
                | some x, some y => if h = 0 ∨ h = 1 then some ((⟨formed p, ⟨h == 1, ⟨x, y⟩⟩⟩ : Kzq2.Part) :: r) else none
                | _, _ => none) := by
            intro o
            cases readQ a b with
            | none => cases o <;> rfl
            | some x =>
              cases readQ c d with
              | none => cases o <;> rfl
              | some y => by_cases hh : h = 0 ∨ h = 1 <;> cases o <;> simp [hh]
          refine (key _).trans ?_
          cases Kzq2.readCut k (l.drop (4 * n.toNat + 5)) <;> rfl
theorem slid_is (ns : List Int) : PyKzq3.slid ns = slidF ns := by
  show (let a := Kzq2.withCut ns fun c => ⟨(Kzq3.slid c : Nat), [((c.length - Kzq3.slid c : Nat) : Int)]⟩; a.value :: a.nums) = slidF ns
  unfold Kzq2.withCut slidF
  rw [← readOn_is]
  cases readOn ns.length ns with
  | none => rfl
  | some ps =>
    show (let a := if Kzq2.mostParts < ps.length then Kzq1.say (-28) else ⟨(Kzq3.slid ps : Nat), [((ps.length - Kzq3.slid ps : Nat) : Int)]⟩; a.value :: a.nums) = if 160 < ps.length then [-28] else _
    have e : Kzq2.mostParts = 160 := rfl
    by_cases c : 160 < ps.length
    · rw [e, if_pos c, if_pos c]; rfl
    · rw [e, if_neg c, if_neg c]
      have h := count_split (fun p : Kzq2.Part => p.m.h) ps
      have s : Kzq3.slid ps = (ps.filter fun p => !p.m.h).length := rfl
      show ([(Kzq3.slid ps : Int), ((ps.length - Kzq3.slid ps : Nat) : Int)] : List Int) = _
      rw [s]
      congr 1
      · omega
      · congr 1
        omega
end Rc
namespace Rc
theorem sizes_is (ns : List Int) : PyKzq3.sizes ns = sizesF ns := by
  show (let a := Kzq2.withCut ns fun c => ⟨(c.length : Nat), c.flatMap fun p => Kzq1.writtenQ (Kzq1.size p.l)⟩; a.value :: a.nums) = sizesF ns
  unfold Kzq2.withCut sizesF
  rw [← readOn_is]
  cases readOn ns.length ns with
  | none => rfl
  | some ps =>
    show (let a := if Kzq2.mostParts < ps.length then Kzq1.say (-28) else ⟨(ps.length : Nat), ps.flatMap fun p => Kzq1.writtenQ (Kzq1.size p.l)⟩; a.value :: a.nums) = if 160 < ps.length then [-28] else _
    have e : Kzq2.mostParts = 160 := rfl
    by_cases c : 160 < ps.length
    · rw [e, if_pos c, if_pos c]; rfl
    · rw [e, if_neg c, if_neg c]
end Rc
namespace Rc
open PySem PySem.Spec PyProof.Rows L2 Evl
theorem in256 {x : Int} (h : PySem.W.Codec.inInt (-115792089237316195423570985008687907853269984665640564039457584007913129639935) 115792089237316195423570985008687907853269984665640564039457584007913129639935 x = true) : x.natAbs < 2 ^ 256 := by
  have h := PySem.W.Codec.inInt_iff.mp h
  omega
section
variable {K1 K2 : PySem.W.Frag}
theorem v_lookup {x : Addr} {c : Option Obj} (_ : K1.lookup x = c) (e : K2.lookup x = c) : K2.lookup x = c := e
theorem v_nsIn {x : Addr} {n : Str} {c : Option (Option Value)} (_ : PySem.W.nsIn K1 x n = c) (e : PySem.W.nsIn K2 x n = c) : PySem.W.nsIn K2 x n = c := e
theorem v_findIn {x : Value} {n : Str} {c : Option (Option Value)} (_ : PySem.W.findIn K1 x n = c) (e : PySem.W.findIn K2 x n = c) : PySem.W.findIn K2 x n = c := e
theorem v_isFn {x : Value} {c : Bool} (_ : PySem.W.isFn K1 x = c) (e : PySem.W.isFn K2 x = c) : PySem.W.isFn K2 x = c := e
theorem v_codeIn {x : Value} {n : Str} {c : Bool} (_ : PySem.W.codeIn K1 x n = c) (e : PySem.W.codeIn K2 x n = c) : PySem.W.codeIn K2 x n = c := e
theorem v_keepIn {x : Value} {c : Bool} (_ : PySem.W.keepIn K1 x = c) (e : PySem.W.keepIn K2 x = c) : PySem.W.keepIn K2 x = c := e
theorem v_plainGet {x : Addr} {n : Str} {c : Bool} (_ : PySem.W.plainGet K1 x n = c) (e : PySem.W.plainGet K2 x n = c) : PySem.W.plainGet K2 x n = c := e
theorem v_hasDictIn {x : Addr} {c : Bool} (_ : PySem.W.hasDictIn K1 x = c) (e : PySem.W.hasDictIn K2 x = c) : PySem.W.hasDictIn K2 x = c := e
theorem v_plainOver {x : Addr} {c : Bool} (_ : PySem.W.plainOver K1 x = c) (e : PySem.W.plainOver K2 x = c) : PySem.W.plainOver K2 x = c := e
theorem v_makesIn {x : Addr} {c : Bool} (_ : PySem.W.makesIn K1 x = c) (e : PySem.W.makesIn K2 x = c) : PySem.W.makesIn K2 x = c := e
end
def top (i : Nat) : Stmt := PySem.Challenge.pw_recutfigures_s05_sizes.main.body.getD i (.Pass ⟨0, 0, 0, 0⟩)
structure Txt (K : PySem.W.Frag) (mg : Str → Option Value) (CPiece CPart : Addr) : Prop where
  len : mg "len" = none
  abs : mg "abs" = none
  all : mg "all" = none
  range : mg "range" = none
  enumerate : mg "enumerate" = none
  list : mg "list" = none
  g_MOST_PARTS : ∃ t, mg "MOST_PARTS" = some (.int (160) t)
  g_NOT_AS_TOLD : ∃ t, mg "NOT_AS_TOLD" = some (.int (-22) t)
  g_TOO_MUCH : ∃ t, mg "TOO_MUCH" = some (.int (-28) t)
  g_LEAST_CORNERS : ∃ t, mg "LEAST_CORNERS" = some (.int (3) t)
  g_MOST_CORNERS : ∃ t, mg "MOST_CORNERS" = some (.int (40) t)
  g_MOVE_NUMBERS : ∃ t, mg "MOVE_NUMBERS" = some (.int (5) t)
  z_ZERO : ∃ a, mg "ZERO" = some (.ref a) ∧ ∀ H, (qR K Kzq1.zero).p (.ref a) H
  z_HALF : ∃ a, mg "HALF" = some (.ref a) ∧ ∀ H, (qR K Kzq1.half).p (.ref a) H
  cl_Piece : Cls K CPiece
  cl_Part : Cls K CPart
  n_corners : NoAttr K CPiece "corners"
  n_bounds : NoAttr K CPiece "bounds"
  n_piece : NoAttr K CPart "piece"
  n_move : NoAttr K CPart "move"
section
variable {P : Program} {w : World} {K : PySem.W.Frag} {mg : Str → Option Value} {base : Heap} {CPiece CPart : Addr}
abbrev s_common : Stmt := top 4
theorem sc_common : FnScope ["one", "other"] ["one", "other"] (defScope s_common) := ⟨rfl, rfl, rfl, by decide +kernel, rfl, by decide +kernel, by decide +kernel⟩
abbrev pre_common (K : PySem.W.Frag) : List Rp → Rp → Prop := p2 (fun a b : Int => 0 ≤ a ∧ 0 ≤ b) iR iR iR (fun a b => ((Nat.gcd a.toNat b.toNat : Nat) : Int))
theorem ok_common (A : Fa K mg "common" s_common ["one", "other"]) (T : Txt K mg CPiece CPart) : Cb P w K mg base "common" 40 ["one", "other"] (pre_common K) := by
  obtain ⟨f, fd, F, hm, hb⟩ := A.ex
  have nd := sc_common.nd
  refine ⟨f, fd, fn_ok F sc_common (fun rs r h => p2_len h) (fun cdv A outer s H E hr => ⟨_, (pss_cons (ps_while PassesOwn.never (pt_cmpR op_ne (pv 1) pe_int (nomark _)) (pss_one (ps_par (i := 0) (j := 1) rfl nd rfl rfl (by decide) rfl rfl (pa_cons (pv 1) (pa_cons (pe_op op_mod (pv 0) (pv 1)) pa_nil)) (by rfl))))
      (pss_one (ps_ret (pv 0)))), fun rs r h => ?_⟩), hm, F.kp, hb⟩
  obtain ⟨a, b, ⟨ha, hb⟩, rfl, rfl⟩ := h
  refine s_seq (s_while (fl := .nx [.r (iR ((Nat.gcd a.toNat b.toNat : Nat) : Int)), .no]) (α := Nat × Nat) (fun p => Nat.gcd p.1 p.2 = Nat.gcd a.toNat b.toNat) (fun p => [.r (iR (p.1 : Int)), .r (iR (p.2 : Int))]) (fun p => p.2) (a.toNat, b.toNat) rfl (Le.of ?_) ?_) (s_ret (er_var rfl))
  · show [Sl.r (iR a), Sl.r (iR b)] = [Sl.r (iR (a.toNat : Int)), Sl.r (iR (b.toNat : Int))]
    rw [Int.toNat_of_nonneg ha, Int.toNat_of_nonneg hb]
  · rintro ⟨x, y⟩ hg
    have hg : Nat.gcd x y = Nat.gcd a.toNat b.toNat := hg
    by_cases c : y = 0
    · subst c
      rw [Nat.gcd_zero_right] at hg
      refine .inr ⟨tr_eq (tr_test (er_neI (er_var rfl) er_c)) (by simp), _, rfl, ?_⟩
      rw [← hg]
      exact Le.no _ 1
    · have hy : 0 < y := Nat.pos_of_ne_zero c
      refine .inl ⟨tr_eq (tr_test (er_neI (er_var rfl) er_c)) (by simp; omega), .inl ⟨(y, x % y), ?_, Nat.mod_lt _ hy, ?_⟩⟩
      · show Nat.gcd y (x % y) = _
        rw [← hg, Nat.gcd_comm, ← Nat.gcd_rec, Nat.gcd_comm]
      · exact s_par (ar_cons (er_var rfl) (ar_cons (er_i (er_mod (er_var rfl) (er_var rfl) (by show (0 : Int) < (y : Int); omega)) (Int.natCast_emod x y).symm) ar_nil))
abbrev s_ratio : Stmt := top 5
theorem sc_ratio : FnScope ["top", "bottom", "share"] ["top", "bottom"] (defScope s_ratio) := ⟨rfl, rfl, rfl, by decide +kernel, rfl, by decide +kernel, by decide +kernel⟩
abbrev pre_ratio (K : PySem.W.Frag) : List Rp → Rp → Prop := p2 (fun (_ d : Int) => 0 < d) iR iR (qR K) (fun n d => Kzq1.mk n d.toNat)
theorem ok_ratio (A : Fa K mg "ratio" s_ratio ["top", "bottom"]) (T : Txt K mg CPiece CPart) (C_common : Cb P w K mg base "common" 40 ["one", "other"] (pre_common K)) (hB : Big P base) : Cb P w K mg base "ratio" 41 ["top", "bottom"] (pre_ratio K) := by
  obtain ⟨f, fd, F, hm, hb⟩ := A.ex
  have nd := sc_ratio.nd
  refine ⟨f, fd, fn_ok F sc_ratio (fun rs r h => p2_len h) (fun cdv A outer s H E hr => ⟨_, (pss_cons (ps_set (i := 2) nd rfl (by first | exact Or.inl rfl | exact Or.inr rfl) (pe_cb C_common (hr.mono (by decide)) rfl (pa_cons (pe_callB call_abs (by rfl) T.abs (by decide +kernel) (pa_cons (pv 0) pa_nil)) (pa_cons (pv 1) pa_nil))))
      (pss_one (ps_ret (pe_tup (pa_cons (pe_op (op_fdivP rfl sc_ratio.gen sc_ratio.co hB.ns hB.tr (Nat.lt_of_le_of_lt (Nat.add_le_add_left (by decide) _) hr.dp)) (pv 0) (pv 2)) (pa_cons (pe_op (op_fdivP rfl sc_ratio.gen sc_ratio.co hB.ns hB.tr (Nat.lt_of_le_of_lt (Nat.add_le_add_left (by decide) _) hr.dp)) (pv 1) (pv 2)) pa_nil)))))), fun rs r h => ?_⟩), hm, F.kp, hb⟩
  obtain ⟨n, d, hd, rfl, rfl⟩ := h
  have hd : 0 < d := hd
  have e1 : (if n < 0 then -n else n).toNat = n.natAbs := by split <;> omega
  have g0 : 0 < Nat.gcd n.natAbs d.toNat := Nat.gcd_pos_of_pos_right _ (by omega)
  refine s_seq (s_set (er_i (b := ((Nat.gcd n.natAbs d.toNat : Nat) : Int)) (er_c2 (er_callB (ar_cons (er_var rfl) ar_nil) cr_abs) (er_var rfl) ?_) ?_)) (s_ret (er_eq (er_tup (K := K) (ar_cons (er_fdiv (er_var rfl) (er_var rfl) ?_) (ar_cons (er_fdiv (er_var rfl) (er_var rfl) ?_) ar_nil))) ?_))
  · exact ⟨by split <;> omega, by omega⟩
  · rw [e1]
  · omega
  · omega
  · show tR K [iR (n / _), iR (d / _)] = qR K (Kzq1.mk n d.toNat)
    rw [mk_eq (by omega)]
    unfold qR
    rw [Int.natCast_ediv, Int.toNat_of_nonneg (by omega)]
abbrev s_plus : Stmt := top 6
theorem sc_plus : FnScope ["one", "other"] ["one", "other"] (defScope s_plus) := ⟨rfl, rfl, rfl, by decide +kernel, rfl, by decide +kernel, by decide +kernel⟩
abbrev pre_plus (K : PySem.W.Frag) : List Rp → Rp → Prop := p2 (fun a b => Bq a ∧ Bq b) (qR K) (qR K) (qR K) Kzq1.add
theorem ok_plus (A : Fa K mg "plus" s_plus ["one", "other"]) (T : Txt K mg CPiece CPart) (C_ratio : Cb P w K mg base "ratio" 41 ["top", "bottom"] (pre_ratio K)) : Cb P w K mg base "plus" 42 ["one", "other"] (pre_plus K) := by
  obtain ⟨f, fd, F, hm, hb⟩ := A.ex
  have nd := sc_plus.nd
  refine ⟨f, fd, fn_ok F sc_plus (fun rs r h => p2_len h) (fun cdv A outer s H E hr => ⟨_, (pss_one (ps_ret (pe_cb C_ratio (hr.mono (by decide)) rfl (pa_cons (pe_op op_add (pe_op op_mulX (pe_ix (ixT (K := K) rfl) (pv 0) pe_int (fun _ _ => rfl)) (pe_ix (ixT (K := K) rfl) (pv 1) pe_int (fun _ _ => rfl))) (pe_op op_mulX (pe_ix (ixT (K := K) rfl) (pv 1) pe_int (fun _ _ => rfl)) (pe_ix (ixT (K := K) rfl) (pv 0) pe_int (fun _ _ => rfl)))) (pa_cons (pe_op op_mulX (pe_ix (ixT (K := K) rfl) (pv 0) pe_int (fun _ _ => rfl)) (pe_ix (ixT (K := K) rfl) (pv 1) pe_int (fun _ _ => rfl))) pa_nil))))), fun rs r h => ?_⟩), hm, F.kp, hb⟩
  obtain ⟨a, b, ⟨ha, hb⟩, rfl, rfl⟩ := h
  refine s_ret (er_eq (er_c2 (er_add (er_mul (er_q0 (er_var rfl)) (er_q1 (er_var rfl)) ?_) (er_mul (er_q0 (er_var rfl)) (er_q1 (er_var rfl)) ?_)) (er_mul (er_q1 (er_var rfl)) (er_q1 (er_var rfl)) ?_) ?_) ?_)
  · exact ha.nd hb
  · exact hb.nd ha
  · exact ha.dd hb
  · exact pos_dd ha.pos hb.pos
  · exact congrArg (qR K) (add_is a b)
abbrev s_minus : Stmt := top 7
theorem sc_minus : FnScope ["one", "other"] ["one", "other"] (defScope s_minus) := ⟨rfl, rfl, rfl, by decide +kernel, rfl, by decide +kernel, by decide +kernel⟩
abbrev pre_minus (K : PySem.W.Frag) : List Rp → Rp → Prop := p2 (fun a b => Bq a ∧ Bq b) (qR K) (qR K) (qR K) Kzq1.sub
theorem ok_minus (A : Fa K mg "minus" s_minus ["one", "other"]) (T : Txt K mg CPiece CPart) (C_ratio : Cb P w K mg base "ratio" 41 ["top", "bottom"] (pre_ratio K)) : Cb P w K mg base "minus" 42 ["one", "other"] (pre_minus K) := by
  obtain ⟨f, fd, F, hm, hb⟩ := A.ex
  have nd := sc_minus.nd
  refine ⟨f, fd, fn_ok F sc_minus (fun rs r h => p2_len h) (fun cdv A outer s H E hr => ⟨_, (pss_one (ps_ret (pe_cb C_ratio (hr.mono (by decide)) rfl (pa_cons (pe_op op_sub (pe_op op_mulX (pe_ix (ixT (K := K) rfl) (pv 0) pe_int (fun _ _ => rfl)) (pe_ix (ixT (K := K) rfl) (pv 1) pe_int (fun _ _ => rfl))) (pe_op op_mulX (pe_ix (ixT (K := K) rfl) (pv 1) pe_int (fun _ _ => rfl)) (pe_ix (ixT (K := K) rfl) (pv 0) pe_int (fun _ _ => rfl)))) (pa_cons (pe_op op_mulX (pe_ix (ixT (K := K) rfl) (pv 0) pe_int (fun _ _ => rfl)) (pe_ix (ixT (K := K) rfl) (pv 1) pe_int (fun _ _ => rfl))) pa_nil))))), fun rs r h => ?_⟩), hm, F.kp, hb⟩
  obtain ⟨a, b, ⟨ha, hb⟩, rfl, rfl⟩ := h
  refine s_ret (er_eq (er_c2 (er_sub (er_mul (er_q0 (er_var rfl)) (er_q1 (er_var rfl)) ?_) (er_mul (er_q0 (er_var rfl)) (er_q1 (er_var rfl)) ?_)) (er_mul (er_q1 (er_var rfl)) (er_q1 (er_var rfl)) ?_) ?_) ?_)
  · exact ha.nd hb
  · exact hb.nd ha
  · exact ha.dd hb
  · exact pos_dd ha.pos hb.pos
  · exact congrArg (qR K) (sub_is a b)
abbrev s_times : Stmt := top 8
theorem sc_times : FnScope ["one", "other"] ["one", "other"] (defScope s_times) := ⟨rfl, rfl, rfl, by decide +kernel, rfl, by decide +kernel, by decide +kernel⟩
abbrev pre_times (K : PySem.W.Frag) : List Rp → Rp → Prop := p2 (fun a b => Bq a ∧ Bq b) (qR K) (qR K) (qR K) Kzq1.mul
theorem ok_times (A : Fa K mg "times" s_times ["one", "other"]) (T : Txt K mg CPiece CPart) (C_ratio : Cb P w K mg base "ratio" 41 ["top", "bottom"] (pre_ratio K)) : Cb P w K mg base "times" 42 ["one", "other"] (pre_times K) := by
  obtain ⟨f, fd, F, hm, hb⟩ := A.ex
  have nd := sc_times.nd
  refine ⟨f, fd, fn_ok F sc_times (fun rs r h => p2_len h) (fun cdv A outer s H E hr => ⟨_, (pss_one (ps_ret (pe_cb C_ratio (hr.mono (by decide)) rfl (pa_cons (pe_op op_mulX (pe_ix (ixT (K := K) rfl) (pv 0) pe_int (fun _ _ => rfl)) (pe_ix (ixT (K := K) rfl) (pv 1) pe_int (fun _ _ => rfl))) (pa_cons (pe_op op_mulX (pe_ix (ixT (K := K) rfl) (pv 0) pe_int (fun _ _ => rfl)) (pe_ix (ixT (K := K) rfl) (pv 1) pe_int (fun _ _ => rfl))) pa_nil))))), fun rs r h => ?_⟩), hm, F.kp, hb⟩
  obtain ⟨a, b, ⟨ha, hb⟩, rfl, rfl⟩ := h
  refine s_ret (er_eq (er_c2 (er_mul (er_q0 (er_var rfl)) (er_q0 (er_var rfl)) ?_) (er_mul (er_q1 (er_var rfl)) (er_q1 (er_var rfl)) ?_) ?_) ?_)
  · exact ha.nn hb
  · exact ha.dd hb
  · exact pos_dd ha.pos hb.pos
  · exact congrArg (qR K) (mul_is a b)
abbrev s_is_less : Stmt := top 9
theorem sc_is_less : FnScope ["one", "other"] ["one", "other"] (defScope s_is_less) := ⟨rfl, rfl, rfl, by decide +kernel, rfl, by decide +kernel, by decide +kernel⟩
abbrev pre_is_less (K : PySem.W.Frag) : List Rp → Rp → Prop := p2 (fun a b => Bq a ∧ Bq b) (qR K) (qR K) bR Kzq1.lt
theorem ok_is_less (A : Fa K mg "is_less" s_is_less ["one", "other"]) (T : Txt K mg CPiece CPart) : Cb P w K mg base "is_less" 42 ["one", "other"] (pre_is_less K) := by
  obtain ⟨f, fd, F, hm, hb⟩ := A.ex
  have nd := sc_is_less.nd
  refine ⟨f, fd, fn_ok F sc_is_less (fun rs r h => p2_len h) (fun cdv A outer s H E hr => ⟨_, (pss_one (ps_ret (pe_cmpR op_lt (pe_op op_mulX (pe_ix (ixT (K := K) rfl) (pv 0) pe_int (fun _ _ => rfl)) (pe_ix (ixT (K := K) rfl) (pv 1) pe_int (fun _ _ => rfl))) (pe_op op_mulX (pe_ix (ixT (K := K) rfl) (pv 1) pe_int (fun _ _ => rfl)) (pe_ix (ixT (K := K) rfl) (pv 0) pe_int (fun _ _ => rfl))) (nomark _)))), fun rs r h => ?_⟩), hm, F.kp, hb⟩
  obtain ⟨a, b, ⟨ha, hb⟩, rfl, rfl⟩ := h
  refine s_ret (er_eq (er_lt (er_mul (er_q0 (er_var rfl)) (er_q1 (er_var rfl)) ?_) (er_mul (er_q0 (er_var rfl)) (er_q1 (er_var rfl)) ?_)) ?_)
  · exact ha.nd hb
  · exact hb.nd ha
  · rfl
abbrev s_least : Stmt := top 10
theorem sc_least : FnScope ["some", "found", "one"] ["some"] (defScope s_least) := ⟨rfl, rfl, rfl, by decide +kernel, rfl, by decide +kernel, by decide +kernel⟩
abbrev pre_least (K : PySem.W.Frag) : List Rp → Rp → Prop := p1 (fun l : List Kzq1.Q => l ≠ [] ∧ ∀ q ∈ l, Bq q) (fun l => sR K (l.map (qR K))) (qR K) leastQ
theorem ok_least (A : Fa K mg "least" s_least ["some"]) (T : Txt K mg CPiece CPart) (C_is_less : Cb P w K mg base "is_less" 42 ["one", "other"] (pre_is_less K)) : Cb P w K mg base "least" 43 ["some"] (pre_least K) := by
  obtain ⟨f, fd, F, hm, hb⟩ := A.ex
  have nd := sc_least.nd
  refine ⟨f, fd, fn_ok F sc_least (fun rs r h => p1_len h) (fun cdv A outer s H E hr => ⟨_, (pss_cons (ps_set (i := 1) nd rfl (by first | exact Or.inl rfl | exact Or.inr rfl) (pe_ix (ixL (K := K) rfl) (pv 0) pe_int (fun _ _ => rfl)))
      (pss_cons (ps_for PassesOwn.never rfl (pi_list (pe_slice (slL (K := K) rfl) (pv 0) (po_some pe_int) po_none)) (pg_name (i := 2) nd rfl (by first | exact Or.inl rfl | exact Or.inr rfl)) (pss_one (ps_if (pt_val (pe_cb C_is_less (hr.mono (by decide)) rfl (pa_cons (pv 2) (pa_cons (pv 1) pa_nil)))) (pss_one (ps_set (i := 1) nd rfl (by first | exact Or.inl rfl | exact Or.inr rfl) (pv 2))) pss_nil)))
      (pss_one (ps_ret (pv 1))))), fun rs r h => ?_⟩), hm, F.kp, hb⟩
  obtain ⟨l, ⟨hl, hb⟩, rfl, rfl⟩ := h
  obtain ⟨x, xs, rfl⟩ : ∃ x xs, l = x :: xs := by
    cases l with
    | nil => exact absurd rfl hl
    | cons x xs => exact ⟨x, xs, rfl⟩
  have hx : Bq x := hb x List.mem_cons_self
  have hm : ∀ i, Bq ((xs.take i).foldl (fun m x => if Kzq1.lt x m = true then x else m) x) := by
    intro i
    induction i with
    | zero => exact hx
    | succ i ih =>
      cases e : xs[i]? with
      | none => rw [List.take_add_one, e]; exact (List.append_nil (xs.take i)).symm ▸ ih
      | some q =>
        rw [foldl_take e]
        split
        · exact hb q (List.mem_cons_of_mem _ (List.mem_of_getElem? e))
        · exact ih
  refine s_seq (s_set (r := qR K x) (er_ixl (er_var rfl) er_c (atI_mapS (atI_ofNat (j := 0) rfl rfl)))) (s_seq (s_for (fl := .nx [.r (sR K ((x :: xs).map (qR K))), .r (qR K (xs.foldl (fun m x => if Kzq1.lt x m = true then x else m) x)), .no]) (ir_list (er_ls (er_eq (rb := lR (xs.map (qR K))) (er_slice (er_var rfl) (or_some er_c) or_no) ?_)))
    xs.length (fun i => [.r (sR K ((x :: xs).map (qR K))), .r (qR K ((xs.take i).foldl (fun m x => if Kzq1.lt x m = true then x else m) x)), .no]) (Le.refl _) ?_ ?_ (.inl ⟨?_, _, rfl, ?_⟩)) (s_ret (er_var rfl)))
  · exact congrArg lR (cutA_from _ 1)
  · rw [List.length_map]; exact Nat.le_refl _
  · intro i r hi hr
    obtain ⟨q, hq, rfl⟩ := get_map hr
    refine ⟨[2], _, g_name, s_if (tr_B (er_c2 (er_var rfl) (er_var rfl) ?_)) (fun c => s_le2 (s_set (er_var rfl)) ?_) (fun c => s_le2 s_next ?_)⟩
    · exact ⟨hb q (List.mem_cons_of_mem _ (List.mem_of_getElem? hq)), hm i⟩
    · rw [foldl_take hq, if_pos c]
      exact Le.no _ 2
    · rw [foldl_take hq, if_neg (by rw [c]; exact Bool.false_ne_true)]
      exact Le.no _ 2
  · rw [List.length_map]
  · rw [List.take_length]
    exact Le.refl _
abbrev s_greatest : Stmt := top 11
theorem sc_greatest : FnScope ["some", "found", "one"] ["some"] (defScope s_greatest) := ⟨rfl, rfl, rfl, by decide +kernel, rfl, by decide +kernel, by decide +kernel⟩
abbrev pre_greatest (K : PySem.W.Frag) : List Rp → Rp → Prop := p1 (fun l : List Kzq1.Q => l ≠ [] ∧ ∀ q ∈ l, Bq q) (fun l => sR K (l.map (qR K))) (qR K) greatQ
theorem ok_greatest (A : Fa K mg "greatest" s_greatest ["some"]) (T : Txt K mg CPiece CPart) (C_is_less : Cb P w K mg base "is_less" 42 ["one", "other"] (pre_is_less K)) : Cb P w K mg base "greatest" 43 ["some"] (pre_greatest K) := by
  obtain ⟨f, fd, F, hm, hb⟩ := A.ex
  have nd := sc_greatest.nd
  refine ⟨f, fd, fn_ok F sc_greatest (fun rs r h => p1_len h) (fun cdv A outer s H E hr => ⟨_, (pss_cons (ps_set (i := 1) nd rfl (by first | exact Or.inl rfl | exact Or.inr rfl) (pe_ix (ixL (K := K) rfl) (pv 0) pe_int (fun _ _ => rfl)))
      (pss_cons (ps_for PassesOwn.never rfl (pi_list (pe_slice (slL (K := K) rfl) (pv 0) (po_some pe_int) po_none)) (pg_name (i := 2) nd rfl (by first | exact Or.inl rfl | exact Or.inr rfl)) (pss_one (ps_if (pt_val (pe_cb C_is_less (hr.mono (by decide)) rfl (pa_cons (pv 1) (pa_cons (pv 2) pa_nil)))) (pss_one (ps_set (i := 1) nd rfl (by first | exact Or.inl rfl | exact Or.inr rfl) (pv 2))) pss_nil)))
      (pss_one (ps_ret (pv 1))))), fun rs r h => ?_⟩), hm, F.kp, hb⟩
  obtain ⟨l, ⟨hl, hb⟩, rfl, rfl⟩ := h
  obtain ⟨x, xs, rfl⟩ : ∃ x xs, l = x :: xs := by
    cases l with
    | nil => exact absurd rfl hl
    | cons x xs => exact ⟨x, xs, rfl⟩
  have hx : Bq x := hb x List.mem_cons_self
  have hm : ∀ i, Bq ((xs.take i).foldl (fun m x => if Kzq1.lt m x = true then x else m) x) := by
    intro i
    induction i with
    | zero => exact hx
    | succ i ih =>
      cases e : xs[i]? with
      | none => rw [List.take_add_one, e]; exact (List.append_nil (xs.take i)).symm ▸ ih
      | some q =>
        rw [foldl_take e]
        split
        · exact hb q (List.mem_cons_of_mem _ (List.mem_of_getElem? e))
        · exact ih
  refine s_seq (s_set (r := qR K x) (er_ixl (er_var rfl) er_c (atI_mapS (atI_ofNat (j := 0) rfl rfl)))) (s_seq (s_for (fl := .nx [.r (sR K ((x :: xs).map (qR K))), .r (qR K (xs.foldl (fun m x => if Kzq1.lt m x = true then x else m) x)), .no]) (ir_list (er_ls (er_eq (rb := lR (xs.map (qR K))) (er_slice (er_var rfl) (or_some er_c) or_no) ?_)))
    xs.length (fun i => [.r (sR K ((x :: xs).map (qR K))), .r (qR K ((xs.take i).foldl (fun m x => if Kzq1.lt m x = true then x else m) x)), .no]) (Le.refl _) ?_ ?_ (.inl ⟨?_, _, rfl, ?_⟩)) (s_ret (er_var rfl)))
  · exact congrArg lR (cutA_from _ 1)
  · rw [List.length_map]; exact Nat.le_refl _
  · intro i r hi hr
    obtain ⟨q, hq, rfl⟩ := get_map hr
    refine ⟨[2], _, g_name, s_if (tr_B (er_c2 (er_var rfl) (er_var rfl) ?_)) (fun c => s_le2 (s_set (er_var rfl)) ?_) (fun c => s_le2 s_next ?_)⟩
    · exact ⟨hm i, hb q (List.mem_cons_of_mem _ (List.mem_of_getElem? hq))⟩
    · rw [foldl_take hq, if_pos c]
      exact Le.no _ 2
    · rw [foldl_take hq, if_neg (by rw [c]; exact Bool.false_ne_true)]
      exact Le.no _ 2
  · rw [List.length_map]
  · rw [List.take_length]
    exact Le.refl _
abbrev s_is_told : Stmt := top 13
theorem sc_is_told : FnScope ["top", "bottom"] ["top", "bottom"] (defScope s_is_told) := ⟨rfl, rfl, rfl, by decide +kernel, rfl, by decide +kernel, by decide +kernel⟩
abbrev pre_is_told (K : PySem.W.Frag) : List Rp → Rp → Prop := p2 (fun (_ _ : Int) => True) iR iR bR told2
theorem ok_is_told (A : Fa K mg "is_told" s_is_told ["top", "bottom"]) (T : Txt K mg CPiece CPart) (C_common : Cb P w K mg base "common" 40 ["one", "other"] (pre_common K)) : Cb P w K mg base "is_told" 41 ["top", "bottom"] (pre_is_told K) := by
  obtain ⟨f, fd, F, hm, hb⟩ := A.ex
  have nd := sc_is_told.nd
  refine ⟨f, fd, fn_ok F sc_is_told (fun rs r h => p2_len h) (fun cdv A outer s H E hr => ⟨_, (pss_one (ps_ret (pe_and (pe_cmpR op_ge (pv 1) pe_int (nomark _)) (pe_one (pe_cmpR op_eq (pe_cb C_common (hr.mono (by decide)) rfl (pa_cons (pe_callB call_abs (by rfl) T.abs (by decide +kernel) (pa_cons (pv 0) pa_nil)) (pa_cons (pv 1) pa_nil))) pe_int (nomark _)))))), fun rs r h => ?_⟩), hm, F.kp, hb⟩
  obtain ⟨n, d, _, rfl, rfl⟩ := h
  refine s_ret (er_eq (er_and (er_ge (er_var rfl) er_c) (fun hb => (er_eqI (er_c2 (er_callB (ar_cons (er_var rfl) ar_nil) cr_abs) (er_var rfl) ?_) er_c))) ?_)
  · have hb : 1 ≤ d := of_decide_eq_true hb
    exact ⟨by split <;> omega, by omega⟩
  · have e1 : (if n < 0 then -n else n).toNat = n.natAbs := by split <;> omega
    rw [e1]
    rfl
abbrev s_between : Stmt := top 15
theorem sc_between : FnScope ["one", "other"] ["one", "other"] (defScope s_between) := ⟨rfl, rfl, rfl, by decide +kernel, rfl, by decide +kernel, by decide +kernel⟩
abbrev pre_between (K : PySem.W.Frag) : List Rp → Rp → Prop := p2 (fun a b => Bp a ∧ Bp b) (pR K) (pR K) (pR K) (fun a b => Kzq1.less b a)
theorem ok_between (A : Fa K mg "between" s_between ["one", "other"]) (T : Txt K mg CPiece CPart) (C_minus : Cb P w K mg base "minus" 42 ["one", "other"] (pre_minus K)) : Cb P w K mg base "between" 43 ["one", "other"] (pre_between K) := by
  obtain ⟨f, fd, F, hm, hb⟩ := A.ex
  have nd := sc_between.nd
  refine ⟨f, fd, fn_ok F sc_between (fun rs r h => p2_len h) (fun cdv A outer s H E hr => ⟨_, (pss_one (ps_ret (pe_tup (pa_cons (pe_cb C_minus (hr.mono (by decide)) rfl (pa_cons (pe_ix (ixT (K := K) rfl) (pv 1) pe_int (fun _ _ => rfl)) (pa_cons (pe_ix (ixT (K := K) rfl) (pv 0) pe_int (fun _ _ => rfl)) pa_nil))) (pa_cons (pe_cb C_minus (hr.mono (by decide)) rfl (pa_cons (pe_ix (ixT (K := K) rfl) (pv 1) pe_int (fun _ _ => rfl)) (pa_cons (pe_ix (ixT (K := K) rfl) (pv 0) pe_int (fun _ _ => rfl)) pa_nil))) pa_nil))))), fun rs r h => ?_⟩), hm, F.kp, hb⟩
  obtain ⟨a, b, ⟨ha, hb⟩, rfl, rfl⟩ := h
  refine s_ret (er_tup (K := K) (ar_cons (er_c2 (er_p0 (er_var rfl)) (er_p0 (er_var rfl)) ?_) (ar_cons (er_c2 (er_p1 (er_var rfl)) (er_p1 (er_var rfl)) ?_) ar_nil)))
  · exact ⟨hb.x, ha.x⟩
  · exact ⟨hb.y, ha.y⟩
abbrev s_crossed : Stmt := top 16
theorem sc_crossed : FnScope ["one", "other"] ["one", "other"] (defScope s_crossed) := ⟨rfl, rfl, rfl, by decide +kernel, rfl, by decide +kernel, by decide +kernel⟩
abbrev pre_crossed (K : PySem.W.Frag) : List Rp → Rp → Prop := p2 (fun a b => Fp 16000000 a ∧ Fp 16000000 b) (pR K) (pR K) (qR K) Kzq1.cross
theorem ok_crossed (A : Fa K mg "crossed" s_crossed ["one", "other"]) (T : Txt K mg CPiece CPart) (C_minus : Cb P w K mg base "minus" 42 ["one", "other"] (pre_minus K)) (C_times : Cb P w K mg base "times" 42 ["one", "other"] (pre_times K)) : Cb P w K mg base "crossed" 43 ["one", "other"] (pre_crossed K) := by
  obtain ⟨f, fd, F, hm, hb⟩ := A.ex
  have nd := sc_crossed.nd
  refine ⟨f, fd, fn_ok F sc_crossed (fun rs r h => p2_len h) (fun cdv A outer s H E hr => ⟨_, (pss_one (ps_ret (pe_cb C_minus (hr.mono (by decide)) rfl (pa_cons (pe_cb C_times (hr.mono (by decide)) rfl (pa_cons (pe_ix (ixT (K := K) rfl) (pv 0) pe_int (fun _ _ => rfl)) (pa_cons (pe_ix (ixT (K := K) rfl) (pv 1) pe_int (fun _ _ => rfl)) pa_nil))) (pa_cons (pe_cb C_times (hr.mono (by decide)) rfl (pa_cons (pe_ix (ixT (K := K) rfl) (pv 0) pe_int (fun _ _ => rfl)) (pa_cons (pe_ix (ixT (K := K) rfl) (pv 1) pe_int (fun _ _ => rfl)) pa_nil))) pa_nil))))), fun rs r h => ?_⟩), hm, F.kp, hb⟩
  obtain ⟨a, b, ⟨ha, hb⟩, rfl, rfl⟩ := h
  refine s_ret (er_c2 (er_c2 (er_p0 (er_var rfl)) (er_p1 (er_var rfl)) ?_) (er_c2 (er_p1 (er_var rfl)) (er_p0 (er_var rfl)) ?_) ?_)
  · exact ⟨ha.x.b (by decide), hb.y.b (by decide)⟩
  · exact ⟨ha.y.b (by decide), hb.x.b (by decide)⟩
  · exact ⟨(ha.x.mul hb.y).b (by decide), (ha.y.mul hb.x).b (by decide)⟩
abbrev s_turning : Stmt := top 17
theorem sc_turning : FnScope ["a", "b", "c"] ["a", "b", "c"] (defScope s_turning) := ⟨rfl, rfl, rfl, by decide +kernel, rfl, by decide +kernel, by decide +kernel⟩
abbrev pre_turning (K : PySem.W.Frag) : List Rp → Rp → Prop := p3 (fun a b c => Fp 7000000 a ∧ Fp 7000000 b ∧ Fp 7000000 c) (pR K) (pR K) (pR K) (qR K) Kzq1.turn
theorem ok_turning (A : Fa K mg "turning" s_turning ["a", "b", "c"]) (T : Txt K mg CPiece CPart) (C_crossed : Cb P w K mg base "crossed" 43 ["one", "other"] (pre_crossed K)) (C_between : Cb P w K mg base "between" 43 ["one", "other"] (pre_between K)) : Cb P w K mg base "turning" 44 ["a", "b", "c"] (pre_turning K) := by
  obtain ⟨f, fd, F, hm, hb⟩ := A.ex
  have nd := sc_turning.nd
  refine ⟨f, fd, fn_ok F sc_turning (fun rs r h => p3_len h) (fun cdv A outer s H E hr => ⟨_, (pss_one (ps_ret (pe_cb C_crossed (hr.mono (by decide)) rfl (pa_cons (pe_cb C_between (hr.mono (by decide)) rfl (pa_cons (pv 0) (pa_cons (pv 1) pa_nil))) (pa_cons (pe_cb C_between (hr.mono (by decide)) rfl (pa_cons (pv 0) (pa_cons (pv 2) pa_nil))) pa_nil))))), fun rs r h => ?_⟩), hm, F.kp, hb⟩
  obtain ⟨a, b, c, ⟨ha, hb, hc⟩, rfl, rfl⟩ := h
  refine s_ret (er_c2 (er_c2 (er_var rfl) (er_var rfl) ?_) (er_c2 (er_var rfl) (er_var rfl) ?_) ?_)
  · exact ⟨ha.b (by decide), hb.b (by decide)⟩
  · exact ⟨ha.b (by decide), hc.b (by decide)⟩
  · exact ⟨(hb.less ha).mono (by decide), (hc.less ha).mono (by decide)⟩
abbrev s_Piece_init : Stmt := inClass (top 18) 0
theorem sc_Piece_init : FnScope ["self", "corners", "rights", "heights", "x", "y"] ["self", "corners"] (defScope s_Piece_init) := ⟨rfl, rfl, rfl, by decide +kernel, rfl, by decide +kernel, by decide +kernel⟩
abbrev pre_Piece_init (K : PySem.W.Frag) : List Rp → List (Str × Rp) → Prop := fun rs fs => ∃ l : List Kzq1.P, l ≠ [] ∧ BL LIM l ∧ l.length ≤ 40000 ∧ rs = [lR (l.map (pR K))] ∧ fs = pcF K l
theorem ok_Piece_init (A : Fm K CPiece "__init__" "Piece.__init__" s_Piece_init ["self", "corners"]) (hk : PySem.W.makesIn K CPiece = true ∧ PySem.W.keepIn K (.ref CPiece) = true ∧ mg "Piece" = some (.ref CPiece)) (T : Txt K mg CPiece CPart) (C_least : Cb P w K mg base "least" 43 ["some"] (pre_least K)) (C_greatest : Cb P w K mg base "greatest" 43 ["some"] (pre_greatest K)) : Ci P w K mg base "Piece" CPiece 44 ["self", "corners"] (pre_Piece_init K) := by
  obtain ⟨f, fd, F, hm, hfn, hb⟩ := A.ex
  have nd := sc_Piece_init.nd
  refine ⟨f, fd, ⟨hk.1, hm, hfn, hk.2.1⟩, fn_okI F sc_Piece_init (fun rs fs h => ?_) (fun cdv A outer s H E hr => ⟨_, (pss_cons (ps_fld (pv 0) (pv 1) rfl)
      (pss_cons (ps_par (i := 2) (j := 3) rfl nd rfl rfl (by decide) rfl rfl (pa_cons (pe_lc (own := [("x", 4), ("y", 5)]) (g := (gTup K 2 (gCons (gName 4) (gCons (gName 5) gNil)))) (tt := tYes) rfl nd (pi_list (pv 1)) (blkOk_by (own := [("x", 4), ("y", 5)]) (N := ["self", "corners", "rights", "heights", "x", "y"]) (sc := defScope s_Piece_init) (by decide +kernel)) (fun _ _ _ _ _ => (pg_tup rfl (pgs_cons (pg_name (i := 4) nd rfl (by first | exact Or.inl rfl | exact Or.inr rfl)) (pgs_cons (pg_name (i := 5) nd rfl (by first | exact Or.inl rfl | exact Or.inr rfl)) pgs_nil)))) (fun _ _ _ _ _ => pts_nil) (fun _ _ _ _ _ => (pv 4))) (pa_cons (pe_lc (own := [("x", 4), ("y", 5)]) (g := (gTup K 2 (gCons (gName 4) (gCons (gName 5) gNil)))) (tt := tYes) rfl nd (pi_list (pv 1)) (blkOk_by (own := [("x", 4), ("y", 5)]) (N := ["self", "corners", "rights", "heights", "x", "y"]) (sc := defScope s_Piece_init) (by decide +kernel)) (fun _ _ _ _ _ => (pg_tup rfl (pgs_cons (pg_name (i := 4) nd rfl (by first | exact Or.inl rfl | exact Or.inr rfl)) (pgs_cons (pg_name (i := 5) nd rfl (by first | exact Or.inl rfl | exact Or.inr rfl)) pgs_nil)))) (fun _ _ _ _ _ => pts_nil) (fun _ _ _ _ _ => (pv 5))) pa_nil)) (by rfl))
      (pss_one (ps_fld (pv 0) (pe_tup (pa_cons (pe_cb C_least (hr.mono (by decide)) rfl (pa_cons (pv 2) pa_nil)) (pa_cons (pe_cb C_greatest (hr.mono (by decide)) rfl (pa_cons (pv 2) pa_nil)) (pa_cons (pe_cb C_least (hr.mono (by decide)) rfl (pa_cons (pv 3) pa_nil)) (pa_cons (pe_cb C_greatest (hr.mono (by decide)) rfl (pa_cons (pv 3) pa_nil)) pa_nil))))) rfl)))), fun a rs fs h => ?_⟩), hk.2.2, hb⟩
  · obtain ⟨l, _, _, _, rfl, _⟩ := h
    rfl
  · obtain ⟨l, hl, hb, hz, rfl, rfl⟩ := h
    have hx : l.map Kzq1.P.x ≠ [] ∧ ∀ q ∈ l.map Kzq1.P.x, Bq q := ⟨fun z => hl (List.map_eq_nil_iff.mp z), fun q hq => by
      obtain ⟨z, hz, rfl⟩ := List.mem_map.mp hq
      exact (hb z hz).x⟩
    have hy : l.map Kzq1.P.y ≠ [] ∧ ∀ q ∈ l.map Kzq1.P.y, Bq q := ⟨fun z => hl (List.map_eq_nil_iff.mp z), fun q hq => by
      obtain ⟨z, hz, rfl⟩ := List.mem_map.mp hq
      exact (hb z hz).y⟩
    refine ⟨[.w (.i a CPiece (pcF K l)), .r (lR (l.map (pR K))), .r (lR ((l.map Kzq1.P.x).map (qR K))), .r (lR ((l.map Kzq1.P.y).map (qR K))), .no, .no], rfl, ?_⟩
    show S _ [.w (.i a CPiece []), .r (lR (l.map (pR K))), .no, .no, .no, .no] _
    refine s_seq (s_fldO (i := 0) rfl T.cl_Piece T.n_corners rfl (by decide) (er_var rfl)) (s_seq (s_par (r1 := lR ((l.map Kzq1.P.x).map (qR K))) (r2 := lR ((l.map Kzq1.P.y).map (qR K))) (ar_cons ?_ (ar_cons ?_ ar_nil))) (s_fldO (i := 0) (fs := [(("corners" : Str), lR (l.map (pR K)))]) (r := tR K ((box l).map (qR K))) rfl T.cl_Piece T.n_bounds rfl (by decide : 1 < 900) ?_))
    · rw [List.map_map]
      exact er_mapL (ra := pR K) (ir_list (er_ls (er_var rfl))) (by omega) fun i z hi => ⟨_, _, g_two, fun _ h => h, er_var rfl⟩
    · rw [List.map_map]
      exact er_mapL (ra := pR K) (ir_list (er_ls (er_var rfl))) (by omega) fun i z hi => ⟨_, _, g_two, fun _ h => h, er_var rfl⟩
    · refine er_eq (er_tup (K := K) (ar_cons (er_c1 (er_ls (er_var rfl)) ?_) (ar_cons (er_c1 (er_ls (er_var rfl)) ?_) (ar_cons (er_c1 (er_ls (er_var rfl)) ?_) (ar_cons (er_c1 (er_ls (er_var rfl)) ?_) ar_nil))))) rfl
      · exact hx
      · exact hx
      · exact hy
      · exact hy
abbrev s_is_ahead : Stmt := top 19
theorem sc_is_ahead : FnScope ["one", "other"] ["one", "other"] (defScope s_is_ahead) := ⟨rfl, rfl, rfl, by decide +kernel, rfl, by decide +kernel, by decide +kernel⟩
abbrev pre_is_ahead (K : PySem.W.Frag) : List Rp → Rp → Prop := p2 (fun a b => Bp a ∧ Bp b) (pR K) (pR K) bR Kzq1.before
theorem ok_is_ahead (A : Fa K mg "is_ahead" s_is_ahead ["one", "other"]) (T : Txt K mg CPiece CPart) (C_is_less : Cb P w K mg base "is_less" 42 ["one", "other"] (pre_is_less K)) : Cb P w K mg base "is_ahead" 43 ["one", "other"] (pre_is_ahead K) := by
  obtain ⟨f, fd, F, hm, hb⟩ := A.ex
  have nd := sc_is_ahead.nd
  refine ⟨f, fd, fn_ok F sc_is_ahead (fun rs r h => p2_len h) (fun cdv A outer s H E hr => ⟨_, (pss_one (ps_ret (pe_or (pe_cb C_is_less (hr.mono (by decide)) rfl (pa_cons (pe_ix (ixT (K := K) rfl) (pv 0) pe_int (fun _ _ => rfl)) (pa_cons (pe_ix (ixT (K := K) rfl) (pv 1) pe_int (fun _ _ => rfl)) pa_nil))) (pe_one (pe_and (pe_cmpR (opEqD (K := K) hr.units rfl) (pe_ix (ixT (K := K) rfl) (pv 0) pe_int (fun _ _ => rfl)) (pe_ix (ixT (K := K) rfl) (pv 1) pe_int (fun _ _ => rfl)) (nomark _)) (pe_one (pe_cb C_is_less (hr.mono (by decide)) rfl (pa_cons (pe_ix (ixT (K := K) rfl) (pv 0) pe_int (fun _ _ => rfl)) (pa_cons (pe_ix (ixT (K := K) rfl) (pv 1) pe_int (fun _ _ => rfl)) pa_nil))))))))), fun rs r h => ?_⟩), hm, F.kp, hb⟩
  obtain ⟨a, b, ⟨ha, hb⟩, rfl, rfl⟩ := h
  refine s_ret (er_eq (er_or (er_c2 (er_p0 (er_var rfl)) (er_p0 (er_var rfl)) ?_) (fun _ => er_and (er_eqQ (er_p0 (er_var rfl)) (er_p0 (er_var rfl))) (fun _ => (er_c2 (er_p1 (er_var rfl)) (er_p1 (er_var rfl)) ?_)))) ?_)
  · exact ⟨ha.x, hb.x⟩
  · exact ⟨ha.y, hb.y⟩
  · rfl
abbrev s_from_leftmost : Stmt := top 20
theorem sc_from_leftmost : FnScope ["corners", "at", "k", "corner"] ["corners"] (defScope s_from_leftmost) := ⟨rfl, rfl, rfl, by decide +kernel, rfl, by decide +kernel, by decide +kernel⟩
abbrev pre_from_leftmost (K : PySem.W.Frag) : List Rp → Rp → Prop := p1 (fun l : List Kzq1.P => l ≠ [] ∧ BL LIM l ∧ l.length ≤ 40000) (fun l => sR K (l.map (pR K))) (fun l => lR (l.map (pR K))) Kzq1.begunWith
theorem ok_from_leftmost (A : Fa K mg "from_leftmost" s_from_leftmost ["corners"]) (T : Txt K mg CPiece CPart) (C_is_ahead : Cb P w K mg base "is_ahead" 43 ["one", "other"] (pre_is_ahead K)) : Cb P w K mg base "from_leftmost" 44 ["corners"] (pre_from_leftmost K) := by
  obtain ⟨f, fd, F, hm, hb⟩ := A.ex
  have nd := sc_from_leftmost.nd
  refine ⟨f, fd, fn_ok F sc_from_leftmost (fun rs r h => p1_len h) (fun cdv A outer s H E hr => ⟨_, (pss_cons (ps_set (i := 1) nd rfl (by first | exact Or.inl rfl | exact Or.inr rfl) pe_int)
      (pss_cons (ps_for PassesOwn.never rfl (pi_enum (by rfl) T.enumerate (pa_cons (pv 0) pa_nil)) (pg_tup rfl (pgs_cons (pg_name (i := 2) nd rfl (by first | exact Or.inl rfl | exact Or.inr rfl)) (pgs_cons (pg_name (i := 3) nd rfl (by first | exact Or.inl rfl | exact Or.inr rfl)) pgs_nil))) (pss_one (ps_if (pt_val (pe_cb C_is_ahead (hr.mono (by decide)) rfl (pa_cons (pv 3) (pa_cons (pe_ix (ixL (K := K) rfl) (pv 0) (pv 1) (fun _ _ => rfl)) pa_nil)))) (pss_one (ps_set (i := 1) nd rfl (by first | exact Or.inl rfl | exact Or.inr rfl) (pv 2))) pss_nil)))
      (pss_one (ps_ret (pe_op op_cat (pe_slice (slL (K := K) rfl) (pv 0) (po_some (pv 1)) po_none) (pe_slice (slL (K := K) rfl) (pv 0) po_none (po_some (pv 1)))))))), fun rs r h => ?_⟩), hm, F.kp, hb⟩
  obtain ⟨l, ⟨hl, hb, hz⟩, rfl, rfl⟩ := h
  have h0 : 0 < l.length := by
    cases l with
    | nil => exact absurd rfl hl
    | cons x xs => exact Nat.succ_pos _
  refine s_seq (s_set er_c) (s_seq (s_for (fl := .nx [.r (sR K (l.map (pR K))), .r (iR (bestI l l.length : Nat)), .no, .no]) (ir_enum (ar_cons (er_var rfl) ar_nil)) l.length (fun i => [.r (sR K (l.map (pR K))), .r (iR (bestI l i : Nat)), .no, .no]) (Le.refl _) ?_ ?_ (.inl ⟨?_, _, rfl, Le.refl _⟩)) (s_ret (er_eq (er_op (er_slice (er_var rfl) (or_some (er_var rfl)) or_no) (er_slice (er_var rfl) or_no (or_some (er_var rfl))) (br_cat ?_)) ?_)))
  · rw [enR_len, List.length_map]; exact Nat.le_refl _
  · intro i r hi hr
    obtain ⟨x, hx, rfl⟩ := enR_get hr
    obtain ⟨z, hz, rfl⟩ := get_map hx
    obtain rfl := at0_of hz
    have hbi := bestI_lt l h0 i (by omega)
    have hbg : l[bestI l i]? = some (Kzq1.at0 l (bestI l i)) := by
      have := at0_get (l := l) (i := bestI l i) h0
      rw [Nat.mod_eq_of_lt hbi] at this
      exact this
    refine ⟨_, _, g_two, s_if (b := Kzq1.before (Kzq1.at0 l i) (Kzq1.at0 l (bestI l i))) (tr_B (er_c2 (er_var rfl) (er_ixl (er_var rfl) (er_var rfl) ?_) ?_)) (fun c => s_le2 (s_set (er_var rfl)) ?_) (fun c => s_le2 s_next ?_)⟩
    · exact atI_mapS (atI_ofNat rfl hbg)
    · exact ⟨hb _ (at0_mem h0), hb _ (at0_mem h0)⟩
    · rw [bestI_succ, if_pos c]
      exact (Le.no _ 2).trans (Le.no _ 3)
    · rw [bestI_succ, if_neg (by rw [c]; exact Bool.false_ne_true)]
      exact (Le.no _ 2).trans (Le.no _ 3)
  · rw [enR_len, List.length_map]
  · rw [cutA_from, cutA_to, List.length_drop, List.length_take, List.length_map]
    have := bestI_lt l h0 l.length (Nat.le_refl _)
    omega
  · rw [cutA_from, cutA_to, ← List.map_drop, ← List.map_take, ← List.map_append]
    rfl
abbrev s_sides_of : Stmt := top 21
theorem sc_sides_of : FnScope ["corners", "k", "corner"] ["corners"] (defScope s_sides_of) := ⟨rfl, rfl, rfl, by decide +kernel, rfl, by decide +kernel, by decide +kernel⟩
abbrev pre_sides_of (K : PySem.W.Frag) : List Rp → Rp → Prop := p1 (fun l : List Kzq1.P => l.length ≤ 40000) (fun l => sR K (l.map (pR K))) (fun s => lR (s.map (gR K))) Kzq1.sides
theorem ok_sides_of (A : Fa K mg "sides_of" s_sides_of ["corners"]) (T : Txt K mg CPiece CPart) : Cb P w K mg base "sides_of" 1 ["corners"] (pre_sides_of K) := by
  obtain ⟨f, fd, F, hm, hb⟩ := A.ex
  have nd := sc_sides_of.nd
  refine ⟨f, fd, fn_ok F sc_sides_of (fun rs r h => p1_len h) (fun cdv A outer s H E hr => ⟨_, (pss_one (ps_ret (pe_lc (own := [("k", 1), ("corner", 2)]) (g := (gTup K 2 (gCons (gName 1) (gCons (gName 2) gNil)))) (tt := tYes) rfl nd (pi_enum (by rfl) T.enumerate (pa_cons (pv 0) pa_nil)) (blkOk_by (own := [("k", 1), ("corner", 2)]) (N := ["corners", "k", "corner"]) (sc := defScope s_sides_of) (by decide +kernel)) (fun _ _ _ _ _ => (pg_tup rfl (pgs_cons (pg_name (i := 1) nd rfl (by first | exact Or.inl rfl | exact Or.inr rfl)) (pgs_cons (pg_name (i := 2) nd rfl (by first | exact Or.inl rfl | exact Or.inr rfl)) pgs_nil)))) (fun _ _ _ _ _ => pts_nil) (fun _ _ _ _ _ => (pe_tup (pa_cons (pv 2) (pa_cons (pe_ix (ixL (K := K) rfl) (pv 0) (pe_op op_mod (pe_op op_add (pv 1) pe_int) (pe_callB (cLen (K := K) rfl) (by rfl) T.len PySem.boot_len (pa_cons (pv 0) pa_nil))) (fun _ _ => rfl)) pa_nil))))))), fun rs r h => ?_⟩), hm, F.kp, hb⟩
  obtain ⟨l, hz, rfl, rfl⟩ := h
  have hz : l.length ≤ 40000 := hz
  refine s_ret (er_eq (er_map (ir_enum (ar_cons (er_var rfl) ar_nil)) (fun i => gR K (Kzq1.at0 l i, Kzq1.at0 l (i + 1))) (by rw [enR_len, List.length_map]; omega) ?_) ?_)
  · intro i r hr
    obtain ⟨x, hx, rfl⟩ := enR_get hr
    obtain ⟨z, hz, rfl⟩ := get_map hx
    obtain rfl := at0_of hz
    have hi : i < l.length := (List.getElem?_eq_some_iff.mp hz).1
    refine ⟨_, _, g_two, fun _ h => h, ?_⟩
    refine er_tup (K := K) (rs := [pR K (Kzq1.at0 l i), pR K (Kzq1.at0 l (i + 1))]) (ar_cons (er_var rfl) (ar_cons (er_ixl (er_var rfl) (er_mod (er_add (er_var rfl) er_c) (er_len (er_var rfl)) ?_) ?_) ar_nil))
    · rw [List.length_map]; omega
    · rw [List.length_map]
      exact atI_mapS (atI_next (by omega))
  · rw [enR_len, List.length_map]
    show _ = lR ((Kzq1.sides l).map (gR K))
    unfold Kzq1.sides
    rw [List.map_map]
    rfl
abbrev s_is_strict : Stmt := top 24
theorem sc_is_strict : FnScope ["corners", "one", "other", "left", "corner"] ["corners"] (defScope s_is_strict) := ⟨rfl, rfl, rfl, by decide +kernel, rfl, by decide +kernel, by decide +kernel⟩
abbrev pre_is_strict (K : PySem.W.Frag) : List Rp → Rp → Prop := p1 (fun l : List Kzq1.P => BL 7000000 l ∧ l.length ≤ 40000) (fun l => sR K (l.map (pR K))) bR strictB
theorem ok_is_strict (A : Fa K mg "is_strict" s_is_strict ["corners"]) (T : Txt K mg CPiece CPart) (C_sides_of : Cb P w K mg base "sides_of" 1 ["corners"] (pre_sides_of K)) (C_turning : Cb P w K mg base "turning" 44 ["a", "b", "c"] (pre_turning K)) : Cb P w K mg base "is_strict" 45 ["corners"] (pre_is_strict K) := by
  obtain ⟨f, fd, F, hm, hb⟩ := A.ex
  have nd := sc_is_strict.nd
  refine ⟨f, fd, fn_ok F sc_is_strict (fun rs r h => p1_len h) (fun cdv A outer s H E hr => ⟨_, (pss_cons (ps_for PassesOwn.never rfl (pi_list (pe_cb C_sides_of (hr.mono (by decide)) rfl (pa_cons (pv 0) pa_nil))) (pg_tup rfl (pgs_cons (pg_name (i := 1) nd rfl (by first | exact Or.inl rfl | exact Or.inr rfl)) (pgs_cons (pg_name (i := 2) nd rfl (by first | exact Or.inl rfl | exact Or.inr rfl)) pgs_nil))) (pss_cons (ps_setLc (i := 3) (own := [("corner", 4)]) (g := (gName 4)) rfl nd rfl rfl (sw_true rfl rfl rfl (by decide +kernel)) (pi_list (pv 0)) (blkOk_by (own := [("corner", 4)]) (N := ["corners", "one", "other", "left", "corner"]) (sc := defScope s_is_strict) (by decide +kernel)) (fun _ _ _ _ _ => (pg_name (i := 4) nd rfl (by first | exact Or.inl rfl | exact Or.inr rfl))) (fun _ _ _ _ _ => (pts_one (pt_cmpR op_gt (pe_ix (ixT (K := K) rfl) (pe_cb C_turning (hr.mono (by decide)) rfl (pa_cons (pv 1) (pa_cons (pv 2) (pa_cons (pv 4) pa_nil)))) pe_int (fun _ _ => rfl)) pe_int (nomark _)))) (fun _ _ _ _ _ => (pv 4)))
      (pss_one (ps_if (pt_cmpR op_ne (pe_callB (cLen (K := K) rfl) (by rfl) T.len PySem.boot_len (pa_cons (pv 3) pa_nil)) (pe_op op_sub (pe_callB (cLen (K := K) rfl) (by rfl) T.len PySem.boot_len (pa_cons (pv 0) pa_nil)) pe_int) (nomark _)) (pss_one (ps_ret pe_bl)) pss_nil))))
      (pss_one (ps_ret pe_bl))), fun rs r h => ?_⟩), hm, F.kp, hb⟩
  obtain ⟨l, ⟨hb, hz⟩, rfl, rfl⟩ := h
  have hsz : (Kzq1.sides l).length = l.length := by unfold Kzq1.sides; simp
  have hs : ∀ s ∈ Kzq1.sides l, Fp 7000000 s.1 ∧ Fp 7000000 s.2 := by
    intro s hm
    unfold Kzq1.sides at hm
    obtain ⟨i, hi, rfl⟩ := List.mem_map.mp hm
    have hi : i < l.length := by simpa using hi
    exact ⟨hb _ (at0_mem (by omega)), hb _ (at0_mem (by omega))⟩
  have vt : ∀ s, decide ((((leftOf l s).map (pR K)).length : Int) = ((l.map (pR K)).length : Int) - 2) = decide (((leftOf l s).length : Int) = (l.length : Int) - 2) := fun s => by rw [List.length_map, List.length_map]
  cases hc : strictB l with
  | true =>
    have ha : ∀ s ∈ Kzq1.sides l, decide (((leftOf l s).length : Int) = (l.length : Int) - 2) = true := List.all_eq_true.mp hc
    refine s_seq (s_for (fl := .nx [.r (sR K (l.map (pR K))), .no, .no, .no, .no]) (ir_list (er_ls (er_c1 (er_var rfl) ?_))) (Kzq1.sides l).length (fun i => [.r (sR K (l.map (pR K))), .no, .no, .no, .no]) (Le.refl _) ?_ ?_ (.inl ⟨?_, _, rfl, Le.refl _⟩)) (s_ret er_c)
    · exact hz
    · rw [List.length_map]; exact Nat.le_refl _
    · intro i r hi hr
      obtain ⟨s, hs', rfl⟩ := get_map hr
      have hm := List.mem_of_getElem? hs'
      obtain ⟨h1, h2⟩ := hs s hm
      refine ⟨_, _, g_two, s_seq (s_set (er_filtL (fun c => Kzq1.pos (Kzq1.turn s.1 s.2 c)) (ra := pR K) (rc := pR K) (ir_list (er_var rfl)) (by omega) fun j z hj => ⟨_, _, g_name, fun _ h => h, ?_, fun _ => er_var rfl⟩)) (s_ifF (tr_eq (tr_test (er_neI (er_len (er_ls (er_var rfl))) (er_sub (er_len (er_var rfl)) er_c))) ?_) (s_le2 s_next ?_))⟩
      · refine tr_eq (tr_test (er_gt (er_q0 (er_c3 (er_var rfl) (er_var rfl) (er_var rfl) ?_)) er_c)) rfl
        exact ⟨h1, h2, hb z (List.mem_of_getElem? hj)⟩
      · show (!decide ((((leftOf l s).map (pR K)).length : Int) = ((l.map (pR K)).length : Int) - 2)) = false
        rw [vt, ha s hm]
        rfl
      · exact ((Le.no _ 1).trans (Le.no _ 2)).trans (Le.no _ 3)
    · rw [List.length_map]
  | false =>
    obtain ⟨n, s, hs', hf, hg⟩ := first_bad hc
    have hm := List.mem_of_getElem? hs'
    obtain ⟨h1, h2⟩ := hs s hm
    refine s_seqR (s_for (fl := .rt (bR false)) (ir_list (er_ls (er_c1 (er_var rfl) ?_))) n (fun i => [.r (sR K (l.map (pR K))), .no, .no, .no, .no]) (Le.refl _) ?_ ?_ (.inr ⟨gR K s, bR false, _, _, ?_, rfl, g_two, ?_⟩))
    · exact hz
    · rw [List.length_map]; exact Nat.le_of_lt (List.getElem?_eq_some_iff.mp hs').1
    · intro i r hi hr
      obtain ⟨s, hs', rfl⟩ := get_map hr
      have hm := List.mem_of_getElem? hs'
      obtain ⟨h1, h2⟩ := hs s hm
      refine ⟨_, _, g_two, s_seq (s_set (er_filtL (fun c => Kzq1.pos (Kzq1.turn s.1 s.2 c)) (ra := pR K) (rc := pR K) (ir_list (er_var rfl)) (by omega) fun j z hj => ⟨_, _, g_name, fun _ h => h, ?_, fun _ => er_var rfl⟩)) (s_ifF (tr_eq (tr_test (er_neI (er_len (er_ls (er_var rfl))) (er_sub (er_len (er_var rfl)) er_c))) ?_) (s_le2 s_next ?_))⟩
      · refine tr_eq (tr_test (er_gt (er_q0 (er_c3 (er_var rfl) (er_var rfl) (er_var rfl) ?_)) er_c)) rfl
        exact ⟨h1, h2, hb z (List.mem_of_getElem? hj)⟩
      · show (!decide ((((leftOf l s).map (pR K)).length : Int) = ((l.map (pR K)).length : Int) - 2)) = false
        rw [vt, hg i s hi hs']
        rfl
      · exact ((Le.no _ 1).trans (Le.no _ 2)).trans (Le.no _ 3)
    · rw [List.getElem?_map, hs']; rfl
    · refine s_seq (s_set (er_filtL (fun c => Kzq1.pos (Kzq1.turn s.1 s.2 c)) (ra := pR K) (rc := pR K) (ir_list (er_var rfl)) (by omega) fun j z hj => ⟨_, _, g_name, fun _ h => h, ?_, fun _ => er_var rfl⟩)) (s_ifT (tr_eq (tr_test (er_neI (er_len (er_ls (er_var rfl))) (er_sub (er_len (er_var rfl)) er_c))) ?_) (s_ret er_c))
      · refine tr_eq (tr_test (er_gt (er_q0 (er_c3 (er_var rfl) (er_var rfl) (er_var rfl) ?_)) er_c)) rfl
        exact ⟨h1, h2, hb z (List.mem_of_getElem? hj)⟩
      · show (!decide ((((leftOf l s).map (pR K)).length : Int) = ((l.map (pR K)).length : Int) - 2)) = true
        rw [vt, hf]
        rfl
abbrev s_Part_init : Stmt := inClass (top 27) 0
theorem sc_Part_init : FnScope ["self", "piece", "move"] ["self", "piece", "move"] (defScope s_Part_init) := ⟨rfl, rfl, rfl, by decide +kernel, rfl, by decide +kernel, by decide +kernel⟩
abbrev pre_Part_init (K : PySem.W.Frag) : List Rp → List (Str × Rp) → Prop := fun rs fs => ∃ r1 r2 : Rp, rs = [r1, r2] ∧ fs = [(("piece" : Str), r1), (("move" : Str), r2)]
theorem ok_Part_init (A : Fm K CPart "__init__" "Part.__init__" s_Part_init ["self", "piece", "move"]) (hk : PySem.W.makesIn K CPart = true ∧ PySem.W.keepIn K (.ref CPart) = true ∧ mg "Part" = some (.ref CPart)) (T : Txt K mg CPiece CPart) : Ci P w K mg base "Part" CPart 1 ["self", "piece", "move"] (pre_Part_init K) := by
  obtain ⟨f, fd, F, hm, hfn, hb⟩ := A.ex
  have nd := sc_Part_init.nd
  refine ⟨f, fd, ⟨hk.1, hm, hfn, hk.2.1⟩, fn_okI F sc_Part_init (fun rs fs h => ?_) (fun cdv A outer s H E hr => ⟨_, (pss_cons (ps_fld (pv 0) (pv 1) rfl)
      (pss_one (ps_fld (pv 0) (pv 2) rfl))), fun a rs fs h => ?_⟩), hk.2.2, hb⟩
  · obtain ⟨r1, r2, rfl, _⟩ := h
    rfl
  · obtain ⟨r1, r2, rfl, rfl⟩ := h
    refine ⟨[.w (.i a CPart [(("piece" : Str), r1), (("move" : Str), r2)]), .r r1, .r r2], rfl, ?_⟩
    show S _ [.w (.i a CPart []), .r r1, .r r2] _
    exact s_seq (s_fldO (i := 0) rfl T.cl_Part T.n_piece rfl (by decide) (er_var rfl)) (s_fldO (i := 0) (fs := [(("piece" : Str), r1)]) rfl T.cl_Part T.n_move rfl (by decide : 1 < 900) (er_var rfl))
abbrev s_fractions_in : Stmt := top 34
theorem sc_fractions_in : FnScope ["numbers", "pairs", "k", "top", "bottom"] ["numbers"] (defScope s_fractions_in) := ⟨rfl, rfl, rfl, by decide +kernel, rfl, by decide +kernel, by decide +kernel⟩
abbrev pre_fractions_in (K : PySem.W.Frag) : List Rp → Rp → Prop := p1 (fun ns : List Int => ns.length ≤ 40000) (fun ns => sR K (ns.map iR)) (opR (fun qs => lR (qs.map (qR K)))) fracs
theorem ok_fractions_in (A : Fa K mg "fractions_in" s_fractions_in ["numbers"]) (T : Txt K mg CPiece CPart) (C_is_told : Cb P w K mg base "is_told" 41 ["top", "bottom"] (pre_is_told K)) : Cb P w K mg base "fractions_in" 42 ["numbers"] (pre_fractions_in K) := by
  obtain ⟨f, fd, F, hm, hb⟩ := A.ex
  have nd := sc_fractions_in.nd
  refine ⟨f, fd, fn_ok F sc_fractions_in (fun rs r h => p1_len h) (fun cdv A outer s H E hr => ⟨_, (pss_cons (ps_setLc (i := 1) (own := [("k", 2)]) (g := (gName 2)) (tt := tYes) rfl nd rfl rfl (sw_true rfl rfl rfl (by decide +kernel)) (pi_range1 (by rfl) T.range (pa_cons (pe_op op_fdiv (pe_callB (cLen (K := K) rfl) (by rfl) T.len PySem.boot_len (pa_cons (pv 0) pa_nil)) pe_int) pa_nil)) (blkOk_by (own := [("k", 2)]) (N := ["numbers", "pairs", "k", "top", "bottom"]) (sc := defScope s_fractions_in) (by decide +kernel)) (fun _ _ _ _ _ => (pg_name (i := 2) nd rfl (by first | exact Or.inl rfl | exact Or.inr rfl))) (fun _ _ _ _ _ => pts_nil) (fun _ _ _ _ _ => (pe_tup (pa_cons (pe_ix (ixL (K := K) rfl) (pv 0) (pe_op op_mulX pe_int (pv 2)) (fun _ _ => rfl)) (pa_cons (pe_ix (ixL (K := K) rfl) (pv 0) (pe_op op_add (pe_op op_mulX pe_int (pv 2)) pe_int) (fun _ _ => rfl)) pa_nil)))))
      (pss_cons (ps_if (pt_not (pt_val (pe_callB (cAll (K := K) rfl rfl) (by rfl) T.all (by decide +kernel) (pa_cons (pe_lc (own := [("top", 3), ("bottom", 4)]) (g := (gTup K 2 (gCons (gName 3) (gCons (gName 4) gNil)))) (tt := tYes) rfl nd (pi_list (pv 1)) (blkOk_by (own := [("top", 3), ("bottom", 4)]) (N := ["numbers", "pairs", "k", "top", "bottom"]) (sc := defScope s_fractions_in) (by decide +kernel)) (fun _ _ _ _ _ => (pg_tup rfl (pgs_cons (pg_name (i := 3) nd rfl (by first | exact Or.inl rfl | exact Or.inr rfl)) (pgs_cons (pg_name (i := 4) nd rfl (by first | exact Or.inl rfl | exact Or.inr rfl)) pgs_nil)))) (fun _ _ _ _ _ => pts_nil) (fun _ _ _ _ _ => (pe_cb C_is_told (hr.mono (by decide)) rfl (pa_cons (pv 3) (pa_cons (pv 4) pa_nil))))) pa_nil)))) (pss_one (ps_ret pe_non)) pss_nil)
      (pss_one (ps_ret (pv 1))))), fun rs r h => ?_⟩), hm, F.kp, hb⟩
  obtain ⟨ns, hz, rfl, rfl⟩ := h
  have hz : ns.length ≤ 40000 := hz
  have hpl : (pairs ns).length ≤ 50000 := by rw [pairs_len]; omega
  have nl : ((ns.map iR).length : Int) = (ns.length : Int) := by rw [List.length_map]
  have h2 : ((ns.map iR).length : Int) / 2 = ((ns.length / 2 : Nat) : Int) := by rw [nl]; omega
  have cond : ∀ (b : Bool), (pairs ns).all (fun p => told2 p.1 p.2) = b → (((pairs ns).map fun p => told2 p.1 p.2).all id) = b := fun b h => by rw [← h, List.all_map]; rfl
  have pw : ∀ (i : Nat), i < ns.length / 2 → atI (ns.map iR) (2 * (0 + (i : Int))) = some (iR (ns.getD (2 * i) 0)) ∧ atI (ns.map iR) (2 * (0 + (i : Int)) + 1) = some (iR (ns.getD (2 * i + 1) 0)) := fun i hi =>
    ⟨atI_mapS (atI_ofNat (j := 2 * i) (by omega) (getD_get (by omega))), atI_mapS (atI_ofNat (j := 2 * i + 1) (by omega) (getD_get (by omega)))⟩
  have el : lR ((List.range (rgR 0 (((ns.map iR).length : Int) / 2).toNat).length).map fun i => tR K [iR (ns.getD (2 * i) 0), iR (ns.getD (2 * i + 1) 0)]) = lR ((pairs ns).map fun p => tR K [iR p.1, iR p.2]) := by
    rw [rgR_len, h2, Int.toNat_natCast]
    unfold pairs
    rw [List.map_map]
    rfl
  cases hc : (pairs ns).all (fun p => told2 p.1 p.2) with
  | true =>
    rw [fracs_some hc]
    refine s_seq (s_set (r := lR ((pairs ns).map fun p => tR K [iR p.1, iR p.2])) (er_eq (er_map (ir_rng1 (ar_cons (er_half (er_len (er_var rfl))) ar_nil) (by rw [h2]; omega)) (fun i => tR K [iR (ns.getD (2 * i) 0), iR (ns.getD (2 * i + 1) 0)]) (by rw [rgR_len, h2]; omega) ?_) el))
      (s_seq (s_ifF (tr_eq (tr_not (tr_B (er_callB (ar_cons (er_ls (er_eq (er_mapL (xs := pairs ns) (ra := fun p => tR K [iR p.1, iR p.2]) (rc := fun p => bR (told2 p.1 p.2)) (ir_list (er_ls (er_var rfl))) hpl fun i p hp => ⟨_, _, g_two, fun _ h => h, (er_c2 (er_var rfl) (er_var rfl) ?_)⟩) (rb := lR (((pairs ns).map fun p => told2 p.1 p.2).map bR)) (by rw [List.map_map]; rfl))) ar_nil) cr_all))) ?_) s_next) (s_ret (er_eq (er_var rfl) ?_)))
    · intro i r hr
      obtain ⟨hi, rfl⟩ := rgR_get hr
      have hi : i < ns.length / 2 := by rw [h2] at hi; omega
      refine ⟨_, _, g_name, fun _ h => h, er_tup (K := K) (rs := [iR (ns.getD (2 * i) 0), iR (ns.getD (2 * i + 1) 0)]) (ar_cons (er_ixl (er_var rfl) (er_mul er_c (er_var rfl) ?_) ?_) (ar_cons (er_ixl (er_var rfl) (er_add (er_mul er_c (er_var rfl) ?_) er_c) ?_) ar_nil))⟩
      · exact mulSm (by decide) (by omega)
      · exact (pw i hi).1
      · exact mulSm (by decide) (by omega)
      · exact (pw i hi).2
    · exact trivial
    · rw [cond true hc]; rfl
    · show lR _ = lR (((pairs ns).map fun p => (⟨p.1, p.2.toNat⟩ : Kzq1.Q)).map (qR K))
      rw [pair_reps hc]
  | false =>
    rw [fracs_none hc]
    refine s_seq (s_set (r := lR ((pairs ns).map fun p => tR K [iR p.1, iR p.2])) (er_eq (er_map (ir_rng1 (ar_cons (er_half (er_len (er_var rfl))) ar_nil) (by rw [h2]; omega)) (fun i => tR K [iR (ns.getD (2 * i) 0), iR (ns.getD (2 * i + 1) 0)]) (by rw [rgR_len, h2]; omega) ?_) el))
      (s_seqR (s_ifT (tr_eq (tr_not (tr_B (er_callB (ar_cons (er_ls (er_eq (er_mapL (xs := pairs ns) (ra := fun p => tR K [iR p.1, iR p.2]) (rc := fun p => bR (told2 p.1 p.2)) (ir_list (er_ls (er_var rfl))) hpl fun i p hp => ⟨_, _, g_two, fun _ h => h, (er_c2 (er_var rfl) (er_var rfl) ?_)⟩) (rb := lR (((pairs ns).map fun p => told2 p.1 p.2).map bR)) (by rw [List.map_map]; rfl))) ar_nil) cr_all))) ?_) (s_ret er_c)))
    · intro i r hr
      obtain ⟨hi, rfl⟩ := rgR_get hr
      have hi : i < ns.length / 2 := by rw [h2] at hi; omega
      refine ⟨_, _, g_name, fun _ h => h, er_tup (K := K) (rs := [iR (ns.getD (2 * i) 0), iR (ns.getD (2 * i + 1) 0)]) (ar_cons (er_ixl (er_var rfl) (er_mul er_c (er_var rfl) ?_) ?_) (ar_cons (er_ixl (er_var rfl) (er_add (er_mul er_c (er_var rfl) ?_) er_c) ?_) ar_nil))⟩
      · exact mulSm (by decide) (by omega)
      · exact (pw i hi).1
      · exact mulSm (by decide) (by omega)
      · exact (pw i hi).2
    · exact trivial
    · rw [cond false hc]; rfl
abbrev s_part_of : Stmt := top 35
theorem sc_part_of : FnScope ["many", "numbers", "corners", "slides", "points", "k"] ["many", "numbers"] (defScope s_part_of) := ⟨rfl, rfl, rfl, by decide +kernel, rfl, by decide +kernel, by decide +kernel⟩
abbrev pre_part_of (K : PySem.W.Frag) (CPiece : Addr) (CPart : Addr) : List Rp → Rp → Prop := p2 (fun (n : Nat) (ns : List Int) => 3 ≤ n ∧ n ≤ 40 ∧ ns.length = 4 * n + 5 ∧ ∀ x ∈ ns, x.natAbs < 2 ^ 256) (fun n => iR (n : Int)) (fun ns => sR K (ns.map iR)) (opR (ptR K CPiece CPart)) partOf
theorem ok_part_of (A : Fa K mg "part_of" s_part_of ["many", "numbers"]) (T : Txt K mg CPiece CPart) (C_fractions_in : Cb P w K mg base "fractions_in" 42 ["numbers"] (pre_fractions_in K)) (C_Part : Ci P w K mg base "Part" CPart 1 ["self", "piece", "move"] (pre_Part_init K)) (C_is_strict : Cb P w K mg base "is_strict" 45 ["corners"] (pre_is_strict K)) (C_Piece : Ci P w K mg base "Piece" CPiece 44 ["self", "corners"] (pre_Piece_init K)) (C_from_leftmost : Cb P w K mg base "from_leftmost" 44 ["corners"] (pre_from_leftmost K)) : Cb P w K mg base "part_of" 46 ["many", "numbers"] (pre_part_of K CPiece CPart) := by
  obtain ⟨f, fd, F, hm, hb⟩ := A.ex
  have nd := sc_part_of.nd
  refine ⟨f, fd, fn_ok F sc_part_of (fun rs r h => p2_len h) (fun cdv A outer s H E hr => ⟨_, (pss_cons (ps_set (i := 2) nd rfl (by first | exact Or.inl rfl | exact Or.inr rfl) (pe_cb C_fractions_in (hr.mono (by decide)) rfl (pa_cons (pe_slice (slL (K := K) rfl) (pv 1) po_none (po_some (pe_op op_mulX pe_int (pv 0)))) pa_nil)))
      (pss_cons (ps_set (i := 3) nd rfl (by first | exact Or.inl rfl | exact Or.inr rfl) (pe_cb C_fractions_in (hr.mono (by decide)) rfl (pa_cons (pe_slice (slL (K := K) rfl) (pv 1) (po_some (pe_op op_add (pe_op op_mulX pe_int (pv 0)) pe_int)) po_none) pa_nil)))
      (pss_cons (ps_if (PW.pt (pw_or (pt_cmpR op_isN (pv 2) pe_non (nomark _)) (pw_or (pt_cmpR op_isN (pv 3) pe_non (nomark _)) (pw_or1 (pt_cmpR (opNi (K := K) rfl) (pe_ix (ixL (K := K) rfl) (pv 1) (pe_op op_mulX pe_int (pv 0)) (fun _ _ => rfl)) (pe_tup (pa_cons pe_int (pa_cons pe_int pa_nil))) (by with_unfolding_all rfl)))))) (pss_one (ps_ret pe_non)) pss_nil)
      (pss_cons (ps_setLc (i := 4) (own := [("k", 5)]) (g := (gName 5)) (tt := tYes) rfl nd rfl rfl (sw_true rfl rfl rfl (by decide +kernel)) (pi_range1 (by rfl) T.range (pa_cons (pv 0) pa_nil)) (blkOk_by (own := [("k", 5)]) (N := ["many", "numbers", "corners", "slides", "points", "k"]) (sc := defScope s_part_of) (by decide +kernel)) (fun _ _ _ _ _ => (pg_name (i := 5) nd rfl (by first | exact Or.inl rfl | exact Or.inr rfl))) (fun _ _ _ _ _ => pts_nil) (fun _ _ _ _ _ => (pe_tup (pa_cons (pe_ix (ixL (K := K) rfl) (pv 2) (pe_op op_mulX pe_int (pv 5)) (fun _ _ => rfl)) (pa_cons (pe_ix (ixL (K := K) rfl) (pv 2) (pe_op op_add (pe_op op_mulX pe_int (pv 5)) pe_int) (fun _ _ => rfl)) pa_nil)))))
      (pss_cons (ps_if (pt_not (pt_val (pe_cb C_is_strict (hr.mono (by decide)) rfl (pa_cons (pv 4) pa_nil)))) (pss_one (ps_ret pe_non)) pss_nil)
      (pss_one (ps_ret (pe_ci C_Part (hr.mono (by decide)) rfl (pa_cons (pe_ci C_Piece (hr.mono (by decide)) rfl (pa_cons (pe_cb C_from_leftmost (hr.mono (by decide)) rfl (pa_cons (pv 4) pa_nil)) pa_nil)) (pa_cons (pe_tup (pa_cons (pe_cmpR op_eq (pe_ix (ixL (K := K) rfl) (pv 1) (pe_op op_mulX pe_int (pv 0)) (fun _ _ => rfl)) pe_int (nomark _)) (pa_cons (pe_ix (ixL (K := K) rfl) (pv 3) pe_int (fun _ _ => rfl)) (pa_cons (pe_ix (ixL (K := K) rfl) (pv 3) pe_int (fun _ _ => rfl)) pa_nil)))) pa_nil)))))))))), fun rs r h => ?_⟩), hm, F.kp, hb⟩
  obtain ⟨n, ns, ⟨h3, h40, hlen, hb⟩, rfl, rfl⟩ := h
  have i4 : (4 : Int) * (n : Int) = ((4 * n : Nat) : Int) := by omega
  have i4' : ((4 * n : Nat) : Int) + 1 = ((4 * n + 1 : Nat) : Int) := by omega
  have m4 : IntMulOk 4 (n : Int) := mulSm (by decide) (by omega)
  have e1 : lR (cutA (ns.map iR) none (some ((4 * n : Nat) : Int))) = lR ((ns.take (4 * n)).map iR) := by rw [cutA_to, List.map_take]
  have e2 : lR (cutA (ns.map iR) (some ((4 * n + 1 : Nat) : Int)) none) = lR ((ns.drop (4 * n + 1)).map iR) := by rw [cutA_from, List.map_drop]
  have l1 : (ns.take (4 * n)).length = 4 * n := by rw [List.length_take]; omega
  have l2 : (ns.drop (4 * n + 1)).length = 4 := by rw [List.length_drop]; omega
  have at4 : atI (ns.map iR) (4 * (n : Int)) = some (iR (ns.getD (4 * n) 2)) := atI_mapS (atI_ofNat i4 (getD_get (by omega)))
  refine s_seq (s_set (r := opR (fun qs => lR (qs.map (qR K))) (fracs (ns.take (4 * n)))) (er_c1 (er_ls (er_eq (er_slice (er_var rfl) or_no (or_some (er_i (er_mul er_c (er_var rfl) m4) i4))) e1)) (by show _ ≤ _; omega)))
    (s_seq (s_set (r := opR (fun qs => lR (qs.map (qR K))) (fracs (ns.drop (4 * n + 1)))) (er_c1 (er_ls (er_eq (er_slice (er_var rfl) (or_some (er_i (er_add (er_i (er_mul er_c (er_var rfl) m4) i4) er_c) i4')) or_no) e2)) (by show _ ≤ _; omega))) ?_)
  cases c1 : fracs (ns.take (4 * n)) with
  | none =>
    have hp : partOf n ns = none := by unfold partOf; rw [c1]
    rw [hp]
    exact s_seqR (s_ifT (tr_or (a := true) (b := true) (tr_test (er_isT (er_var rfl))) fun z => nomatch z) (s_ret er_c))
  | some cs =>
    cases c2 : fracs (ns.drop (4 * n + 1)) with
    | none =>
      have hp : partOf n ns = none := by unfold partOf; rw [c1, c2]
      rw [hp]
      exact s_seqR (s_ifT (tr_eq (tr_or (a := false) (tr_test (er_isF (r := lR (cs.map (qR K))) (er_var rfl) nn_l)) fun _ => tr_or (a := true) (b := true) (tr_test (er_isT (er_var rfl))) fun z => nomatch z) rfl) (s_ret er_c))
    | some ss =>
      have q1 := fracs_fq c1 fun x hx => hb x (List.mem_of_mem_take hx)
      have q2 := fracs_fq c2 fun x hx => hb x (List.mem_of_mem_drop hx)
      have k1 : cs.length = 2 * n := by rw [fracs_len c1, l1]; omega
      have k2 : ss.length = 2 := by rw [fracs_len c2, l2]
      have test := fun (b : Bool) (hb : (!inV (.int (ns.getD (4 * n) 2)) [.int 0, .int 1]) = b) => tr_eq (ρ := [.r (iR (n : Int)), .r (sR K (ns.map iR)), .r (lR (cs.map (qR K))), .r (lR (ss.map (qR K))), .no, .no]) (tr_or (a := false) (tr_test (er_isF (r := lR (cs.map (qR K))) (er_var (n := 2) rfl) nn_l)) fun _ => tr_or (a := false) (tr_test (er_isF (r := lR (ss.map (qR K))) (er_var (n := 3) rfl) nn_l)) fun _ => tr_test (er_op (er_ixl (er_var (n := 1) rfl) (er_mul er_c (er_var (n := 0) rfl) m4) at4) (er_tup (K := K) (ar_cons er_c (ar_cons er_c ar_nil))) (br_niT (xs := [.int 0, .int 1]) rfl rfl))) hb
      by_cases cx : ns.getD (4 * n) 2 = 0 ∨ ns.getD (4 * n) 2 = 1
      · have tf : (!inV (.int (ns.getD (4 * n) 2)) [.int 0, .int 1]) = false := by rw [inV01]; rcases cx with c | c <;> rw [c] <;> rfl
        have ep : lR ((List.range (rgR 0 (n : Int).toNat).length).map fun i => pR K ⟨cs.getD (2 * i) Kzq1.zero, cs.getD (2 * i + 1) Kzq1.zero⟩) = lR ((ptsOf cs n).map (pR K)) := by
          rw [rgR_len, Int.toNat_natCast]
          unfold ptsOf
          rw [List.map_map]
          rfl
        have pts : BL 256 (ptsOf cs n) := ptsOf_bl q1 (by omega)
        have plen := ptsOf_len cs n
        refine s_seq (s_ifF (test false tf) s_next) (s_seq (s_set (r := lR ((ptsOf cs n).map (pR K))) (er_eq (er_map (ir_rng1 (ar_cons (er_var rfl) ar_nil) (by omega)) (fun i => pR K ⟨cs.getD (2 * i) Kzq1.zero, cs.getD (2 * i + 1) Kzq1.zero⟩) (by rw [rgR_len]; omega) ?_) ep)) ?_)
        · intro i r hr
          obtain ⟨hi, rfl⟩ := rgR_get hr
          have hi : i < n := by omega
          refine ⟨_, _, g_name, fun _ h => h, er_tup (K := K) (rs := [qR K (cs.getD (2 * i) Kzq1.zero), qR K (cs.getD (2 * i + 1) Kzq1.zero)]) (ar_cons (er_ixl (er_ls (er_var rfl)) (er_mul er_c (er_var rfl) ?_) ?_) (ar_cons (er_ixl (er_ls (er_var rfl)) (er_add (er_mul er_c (er_var rfl) ?_) er_c) ?_) ar_nil))⟩
          · exact mulSm (by decide) (by omega)
          · exact atI_mapS (atI_ofNat (j := 2 * i) (by omega) (getDq_get (by omega)))
          · exact mulSm (by decide) (by omega)
          · exact atI_mapS (atI_ofNat (j := 2 * i + 1) (by omega) (getDq_get (by omega)))
        · cases cs' : strictB (ptsOf cs n) with
          | false =>
            have hp : partOf n ns = none := by
              unfold partOf
              rw [c1, c2]
              show (if _ then _ else _) = _
              rw [if_pos cx, if_neg (by rw [cs']; exact Bool.false_ne_true)]
            rw [hp]
            refine s_seqR (s_ifT (tr_eq (tr_not (tr_B (er_b (er_c1 (er_ls (er_var rfl)) ?_) cs'))) rfl) (s_ret er_c))
            exact ⟨pts.mono (by decide), by omega⟩
          | true =>
            have hp : partOf n ns = some ⟨Kzq1.begunWith (ptsOf cs n), ⟨decide (ns.getD (4 * n) 2 = 1), ⟨ss.getD 0 Kzq1.zero, ss.getD 1 Kzq1.zero⟩⟩⟩ := by
              unfold partOf
              rw [c1, c2]
              show (if _ then _ else _) = _
              rw [if_pos cx, if_pos cs']
            rw [hp]
            refine s_seq (s_ifF (tr_eq (tr_not (tr_B (er_b (er_c1 (er_ls (er_var rfl)) ?_) cs'))) rfl) s_next) (s_ret (er_eq (er_make (ar_cons (er_make (ar_cons (er_c1 (er_ls (er_var rfl)) ?_) ar_nil) ?_) (ar_cons (er_tup (K := K) (rs := [bR (decide (ns.getD (4 * n) 2 = 1)), qR K (ss.getD 0 Kzq1.zero), qR K (ss.getD 1 Kzq1.zero)]) (ar_cons (er_eqI (er_ixl (er_var rfl) (er_mul er_c (er_var rfl) m4) at4) er_c) (ar_cons (er_ixl (er_ls (er_var rfl)) er_c ?_) (ar_cons (er_ixl (er_ls (er_var rfl)) er_c ?_) ar_nil)))) ar_nil)) ⟨_, _, rfl, rfl⟩) rfl))
            · exact ⟨pts.mono (by decide), by omega⟩
            · exact ⟨fun z => by rw [z] at plen; simp at plen; omega, pts.lim (by decide), by omega⟩
            · exact ⟨Kzq1.begunWith (ptsOf cs n), fun z => by have := begun_len (ptsOf cs n); rw [z] at this; simp at this; omega, (begun_bl pts).lim (by decide), by rw [begun_len]; omega, rfl, rfl⟩
            · exact atI_mapS (atI_ofNat (j := 0) rfl (getDq_get (by omega)))
            · exact atI_mapS (atI_ofNat (j := 1) rfl (getDq_get (by omega)))
      · have tt : (!inV (.int (ns.getD (4 * n) 2)) [.int 0, .int 1]) = true := by
          rw [inV01, decide_eq_false fun z => cx (.inl z), decide_eq_false fun z => cx (.inr z)]
          rfl
        have hp : partOf n ns = none := by
          unfold partOf
          rw [c1, c2]
          show (if _ then _ else _) = _
          rw [if_neg cx]
        rw [hp]
        exact s_seqR (s_ifT (test true tt) (s_ret er_c))
abbrev s_read_cutting : Stmt := top 36
theorem sc_read_cutting : FnScope ["row", "found", "at", "many", "end", "part"] ["row"] (defScope s_read_cutting) := ⟨rfl, rfl, rfl, by decide +kernel, rfl, by decide +kernel, by decide +kernel⟩
abbrev pre_read_cutting (K : PySem.W.Frag) (CPiece : Addr) (CPart : Addr) : List Rp → Rp → Prop := p1 (fun ns : List Int => ns.length ≤ 4000 ∧ ∀ x ∈ ns, x.natAbs < 2 ^ 256) (fun ns => sR K (ns.map iR)) (opR (fun ps => lR (ps.map (ptR K CPiece CPart)))) (fun ns => readOn ns.length ns)
theorem ok_read_cutting (A : Fa K mg "read_cutting" s_read_cutting ["row"]) (T : Txt K mg CPiece CPart) (C_part_of : Cb P w K mg base "part_of" 46 ["many", "numbers"] (pre_part_of K CPiece CPart)) : Cb P w K mg base "read_cutting" 47 ["row"] (pre_read_cutting K CPiece CPart) := by
  obtain ⟨f, fd, F, hm, hb⟩ := A.ex
  have nd := sc_read_cutting.nd
  refine ⟨f, fd, fn_ok F sc_read_cutting (fun rs r h => p1_len h) (fun cdv A outer s H E hr => ⟨_, (pss_cons (ps_set (i := 1) nd rfl (by first | exact Or.inl rfl | exact Or.inr rfl) (pe_lst pa_nil))
      (pss_cons (ps_set (i := 2) nd rfl (by first | exact Or.inl rfl | exact Or.inr rfl) pe_int)
      (pss_cons (ps_while PassesOwn.never (pt_cmpR op_lt (pv 2) (pe_callB (cLen (K := K) rfl) (by rfl) T.len PySem.boot_len (pa_cons (pv 0) pa_nil)) (nomark _)) (pss_cons (ps_set (i := 3) nd rfl (by first | exact Or.inl rfl | exact Or.inr rfl) (pe_ix (ixL (K := K) rfl) (pv 0) (pv 2) (fun _ _ => rfl)))
      (pss_cons (ps_if (pt_not (pt_chain op_le op_le (pe_gi rfl T.g_LEAST_CORNERS) (pv 3) (pe_gi rfl T.g_MOST_CORNERS))) (pss_one (ps_ret pe_non)) pss_nil)
      (pss_cons (ps_set (i := 4) nd rfl (by first | exact Or.inl rfl | exact Or.inr rfl) (pe_op op_add (pe_op op_add (pe_op op_add (pv 2) pe_int) (pe_op op_mulX pe_int (pv 3))) (pe_gi rfl T.g_MOVE_NUMBERS)))
      (pss_cons (ps_if (pt_cmpR op_gt (pv 4) (pe_callB (cLen (K := K) rfl) (by rfl) T.len PySem.boot_len (pa_cons (pv 0) pa_nil)) (nomark _)) (pss_one (ps_ret pe_non)) pss_nil)
      (pss_cons (ps_set (i := 5) nd rfl (by first | exact Or.inl rfl | exact Or.inr rfl) (pe_cb C_part_of (hr.mono (by decide)) rfl (pa_cons (pv 3) (pa_cons (pe_slice (slL (K := K) rfl) (pv 0) (po_some (pe_op op_add (pv 2) pe_int)) (po_some (pv 4))) pa_nil))))
      (pss_cons (ps_if (pt_cmpR op_isN (pv 5) pe_non (nomark _)) (pss_one (ps_ret pe_non)) pss_nil)
      (pss_cons (ps_expr (pe_bm PySem.F.plainAttrs_list PySem.F.slot_list_append PySem.F.type_list_append mt_append (pv 1) (pa_cons (pv 5) pa_nil)))
      (pss_one (ps_set (i := 2) nd rfl (by first | exact Or.inl rfl | exact Or.inr rfl) (pv 4)))))))))))
      (pss_one (ps_ret (pv 1)))))), fun rs r h => ?_⟩), hm, F.kp, hb⟩
  obtain ⟨ns, ⟨hz, hb⟩, rfl, rfl⟩ := h
  have nl : ((ns.map iR).length : Int) = (ns.length : Int) := by rw [List.length_map]
  let env : Nat × List Kzq2.Part → List Sl := fun st => [.r (sR K (ns.map iR)), .l (st.2.map (ptR K CPiece CPart)), .r (iR (st.1 : Int)), .no, .no, .no]
  refine s_seq (s_own ar_nil) (s_seq (s_set er_c) ?_)
  show S _ (env (0, [])) _
  have item : ∀ (a : Nat), a < ns.length → atI (ns.map iR) (a : Int) = some (iR (ns.getD a 0)) := fun a h => atI_mapS (atI_ofNat rfl (getD_get h))
  refine s_seqF (fl1 := match readOn ns.length ns with | none => .rt nR | some qs => .nx [.r (sR K (ns.map iR)), .l (qs.map (ptR K CPiece CPart)), .no, .no, .no, .no]) (s_while (RI ns) env (fun st => ns.length - st.1) (0, []) (ri_start ns) (Le.refl _) ?_) ?_ ?_
  · rintro ⟨a, ps⟩ hI
    have hal : a ≤ ns.length := hI.1
    have hpa : ps.length ≤ a := hI.2.1
    by_cases hlt : a < ns.length
    · refine .inl ⟨tr_eq (tr_test (er_lt (er_var rfl) (er_len (er_var rfl)))) (by rw [nl]; simpa using hlt), ?_⟩
      have hdl : (ns.drop (a + 1)).length = ns.length - (a + 1) := List.length_drop
      by_cases c1 : 3 ≤ ns.getD a 0 ∧ ns.getD a 0 ≤ 40
      · have hx : ((ns.getD a 0).toNat : Int) = ns.getD a 0 := Int.toNat_of_nonneg (by omega)
        have m4 : IntMulOk 4 (ns.getD a 0) := mulSm (by decide) (by omega)
        have he : (a : Int) + 1 + 4 * ns.getD a 0 + 5 = ((a + 1 + (4 * (ns.getD a 0).toNat + 5) : Nat) : Int) := by omega
        have t1 : (!(decide (3 ≤ ns.getD a 0) && decide (ns.getD a 0 ≤ 40))) = false := by rw [decide_eq_true c1.1, decide_eq_true c1.2]; rfl
        by_cases c2 : (ns.drop (a + 1)).length < 4 * (ns.getD a 0).toNat + 5
        · rw [ri_bad hI hlt (.inr (.inr c2))]
          exact .inr ⟨nR, rfl, s_seq (s_set (er_ixl (er_var rfl) (er_var rfl) (item a hlt))) (s_seq (s_ifF (tr_eq (tr_not (tr_test (er_chain er_c (er_var rfl) br_I0 er_c br_I0))) t1) s_next) (s_seq (s_set (er_i (er_add (er_add (er_add (er_var rfl) er_c) (er_mul er_c (er_var rfl) m4)) er_c) he)) (s_seqR (s_ifT (tr_eq (tr_test (er_gt (er_var rfl) (er_len (er_var rfl)))) (decide_eq_true (by rw [nl]; omega))) (s_ret er_c)))))⟩
        · have hb2 : ¬ (ns.getD a 0 < 3 ∨ 40 < ns.getD a 0 ∨ (ns.drop (a + 1)).length < 4 * (ns.getD a 0).toNat + 5) := by omega
          have es : lR (cutA (ns.map iR) (some ((a + 1 : Nat) : Int)) (some ((a + 1 + (4 * (ns.getD a 0).toNat + 5) : Nat) : Int))) = lR (((ns.drop (a + 1)).take (4 * (ns.getD a 0).toNat + 5)).map iR) := by
            rw [cutA_ft _ _ _ (by rw [List.length_map]; omega), List.map_take, List.map_drop]
            congr 2
            omega
          have hc : 3 ≤ (ns.getD a 0).toNat ∧ (ns.getD a 0).toNat ≤ 40 ∧ ((ns.drop (a + 1)).take (4 * (ns.getD a 0).toNat + 5)).length = 4 * (ns.getD a 0).toNat + 5 ∧ ∀ x ∈ (ns.drop (a + 1)).take (4 * (ns.getD a 0).toNat + 5), x.natAbs < 2 ^ 256 :=
            ⟨by omega, by omega, by rw [List.length_take]; omega, fun x hx => hb x (List.mem_of_mem_drop (List.mem_of_mem_take hx))⟩
          cases c3 : partOf (ns.getD a 0).toNat ((ns.drop (a + 1)).take (4 * (ns.getD a 0).toNat + 5)) with
          | none =>
            rw [ri_part hI hlt hb2 c3]
            refine .inr ⟨nR, rfl, s_seq (s_set (er_ixl (er_var rfl) (er_var rfl) (item a hlt))) (s_seq (s_ifF (tr_eq (tr_not (tr_test (er_chain er_c (er_var rfl) br_I0 er_c br_I0))) t1) s_next) (s_seq (s_set (er_i (er_add (er_add (er_add (er_var rfl) er_c) (er_mul er_c (er_var rfl) m4)) er_c) he)) (s_seq (s_ifF (tr_eq (tr_test (er_gt (er_var rfl) (er_len (er_var rfl)))) (decide_eq_false (by rw [nl]; omega))) s_next)
              (s_seq (s_set (r := nR) (er_eq (er_c2 (er_i (er_var rfl) hx.symm) (er_ls (er_eq (er_slice (er_var rfl) (or_some (er_i (er_add (er_var rfl) er_c) rfl)) (or_some (er_var rfl))) es)) hc) (by rw [c3]; rfl)))
              (s_seqR (s_ifT (tr_test (er_isT (er_var rfl))) (s_ret er_c)))))))⟩
          | some p =>
            refine .inl ⟨_, ri_step hI hlt hb2 c3, by show _ - _ < ns.length - a; omega, ?_⟩
            refine s_seq (s_set (er_ixl (er_var rfl) (er_var rfl) (item a hlt))) (s_seq (s_ifF (tr_eq (tr_not (tr_test (er_chain er_c (er_var rfl) br_I0 er_c br_I0))) t1) s_next) (s_seq (s_set (er_i (er_add (er_add (er_add (er_var rfl) er_c) (er_mul er_c (er_var rfl) m4)) er_c) he)) (s_seq (s_ifF (tr_eq (tr_test (er_gt (er_var rfl) (er_len (er_var rfl)))) (decide_eq_false (by rw [nl]; omega))) s_next)
              (s_seq (s_set (r := ptR K CPiece CPart p) (er_eq (er_c2 (er_i (er_var rfl) hx.symm) (er_ls (er_eq (er_slice (er_var rfl) (or_some (er_i (er_add (er_var rfl) er_c) rfl)) (or_some (er_var rfl))) es)) hc) (by rw [c3]; rfl)))
              (s_seq (s_ifF (tr_test (er_isF (r := ptR K CPiece CPart p) (er_var rfl) nn_o)) s_next) (s_seq (s_app (i := 1) rfl (er_var rfl) (by show (ps.map _).length < _; rw [List.length_map]; omega)) (s_le2 (s_set (er_var rfl)) ?_)))))))
            show Le _ [.r (sR K (ns.map iR)), .l ((ps ++ [p]).map (ptR K CPiece CPart)), _, .no, .no, .no]
            rw [map_snoc]
            exact ((Le.no _ 3).trans (Le.no _ 4)).trans (Le.no _ 5)
      · have t1 : (!(decide (3 ≤ ns.getD a 0) && decide (ns.getD a 0 ≤ 40))) = true := by
          by_cases c : 3 ≤ ns.getD a 0
          · rw [decide_eq_true c, decide_eq_false fun z => c1 ⟨c, z⟩]; rfl
          · rw [decide_eq_false c]; rfl
        rw [ri_bad hI hlt (by show ns.getD a 0 < 3 ∨ 40 < ns.getD a 0 ∨ _; omega)]
        exact .inr ⟨nR, rfl, s_seq (s_set (er_ixl (er_var rfl) (er_var rfl) (item a hlt))) (s_seqR (s_ifT (tr_eq (tr_not (tr_test (er_chain er_c (er_var rfl) br_I0 er_c br_I0))) t1) (s_ret er_c)))⟩
    · rw [ri_end hI hlt]
      exact .inr ⟨tr_eq (tr_test (er_lt (er_var rfl) (er_len (er_var rfl)))) (by rw [nl]; simpa using hlt), _, rfl, Le.no _ 2⟩
  · intro ρ' e
    cases hR : readOn ns.length ns with
    | none => rw [hR] at e; cases e
    | some qs =>
      rw [hR] at e
      cases e
      exact s_freeze 1 rfl (s_ret (er_eq (er_var rfl) (by show _ = opR (fun ps => lR (ps.map (ptR K CPiece CPart))) (readOn ns.length ns); rw [hR]; rfl)))
  · intro r e
    cases hR : readOn ns.length ns with
    | none => rw [hR] at e; cases e; show Fl.rt (opR (fun ps => lR (ps.map (ptR K CPiece CPart))) (readOn ns.length ns)) = _; rw [hR]; rfl
    | some qs => rw [hR] at e; cases e
abbrev s_bad_cutting : Stmt := top 37
theorem sc_bad_cutting : FnScope ["cutting"] ["cutting"] (defScope s_bad_cutting) := ⟨rfl, rfl, rfl, by decide +kernel, rfl, by decide +kernel, by decide +kernel⟩
abbrev pre_bad_cutting (K : PySem.W.Frag) (CPiece : Addr) (CPart : Addr) : List Rp → Rp → Prop := p1 (fun o : Option (List Kzq2.Part) => ∀ ps, o = some ps → ps.length ≤ 100000) (opR (fun ps => lR (ps.map (ptR K CPiece CPart)))) iR badC
theorem ok_bad_cutting (A : Fa K mg "bad_cutting" s_bad_cutting ["cutting"]) (T : Txt K mg CPiece CPart) : Cb P w K mg base "bad_cutting" 1 ["cutting"] (pre_bad_cutting K CPiece CPart) := by
  obtain ⟨f, fd, F, hm, hb⟩ := A.ex
  have nd := sc_bad_cutting.nd
  refine ⟨f, fd, fn_ok F sc_bad_cutting (fun rs r h => p1_len h) (fun cdv A outer s H E hr => ⟨_, (pss_cons (ps_if (pt_cmpR op_isN (pv 0) pe_non (nomark _)) (pss_one (ps_ret (pe_gi rfl T.g_NOT_AS_TOLD))) pss_nil)
      (pss_cons (ps_if (pt_cmpR op_gt (pe_callB (cLen (K := K) rfl) (by rfl) T.len PySem.boot_len (pa_cons (pv 0) pa_nil)) (pe_gi rfl T.g_MOST_PARTS) (nomark _)) (pss_one (ps_ret (pe_gi rfl T.g_TOO_MUCH))) pss_nil)
      (pss_one (ps_ret pe_int)))), fun rs r h => ?_⟩), hm, F.kp, hb⟩
  obtain ⟨o, hz, rfl, rfl⟩ := h
  cases o with
  | none => exact s_seqR (s_ifT (tr_test (er_isT (er_var rfl))) (s_ret er_c))
  | some ps =>
    have hl : ((ps.map (ptR K CPiece CPart)).length : Int) = (ps.length : Int) := by rw [List.length_map]
    show S _ [.r (lR (ps.map (ptR K CPiece CPart)))] _
    by_cases c : 160 < ps.length
    · have e : badC (some ps) = -28 := if_pos c
      rw [e]
      exact s_seq (s_ifF (tr_test (er_isF (er_var rfl) nn_l)) s_next) (s_seqR (s_ifT (tr_eq (tr_test (er_gt (er_len (er_ls (er_var rfl))) er_c)) (by rw [hl]; simp; omega)) (s_ret er_c)))
    · have e : badC (some ps) = 0 := if_neg c
      rw [e]
      exact s_seq (s_ifF (tr_test (er_isF (er_var rfl) nn_l)) s_next) (s_seq (s_ifF (tr_eq (tr_test (er_gt (er_len (er_ls (er_var rfl))) er_c)) (by rw [hl]; simp; omega)) s_next) (s_ret er_c))
abbrev s_total : Stmt := top 12
theorem sc_total : FnScope ["some", "found", "one"] ["some"] (defScope s_total) := ⟨rfl, rfl, rfl, by decide +kernel, rfl, by decide +kernel, by decide +kernel⟩
abbrev pre_total (K : PySem.W.Frag) : List Rp → Rp → Prop := p1 (fun l : List Kzq1.Q => ∃ s, (∀ q ∈ l, Fq s q) ∧ 1 + l.length * (s + 1) ≤ 33000000) (fun l => sR K (l.map (qR K))) (qR K) Kzq1.sum
theorem ok_total (A : Fa K mg "total" s_total ["some"]) (T : Txt K mg CPiece CPart) (C_plus : Cb P w K mg base "plus" 42 ["one", "other"] (pre_plus K)) : Cb P w K mg base "total" 43 ["some"] (pre_total K) := by
  obtain ⟨f, fd, F, hm, hb⟩ := A.ex
  have nd := sc_total.nd
  obtain ⟨a_ZERO, g_ZERO, e_ZERO⟩ := T.z_ZERO
  refine ⟨f, fd, fn_ok F sc_total (fun rs r h => p1_len h) (fun cdv A outer s H E hr => ⟨_, (pss_cons (ps_set (i := 1) nd rfl (by first | exact Or.inl rfl | exact Or.inr rfl) (pe_gt rfl g_ZERO))
      (pss_cons (ps_for PassesOwn.never rfl (pi_list (pv 0)) (pg_name (i := 2) nd rfl (by first | exact Or.inl rfl | exact Or.inr rfl)) (pss_one (ps_set (i := 1) nd rfl (by first | exact Or.inl rfl | exact Or.inr rfl) (pe_cb C_plus (hr.mono (by decide)) rfl (pa_cons (pv 1) (pa_cons (pv 2) pa_nil))))))
      (pss_one (ps_ret (pv 1))))), fun rs r h => ?_⟩), hm, F.kp, hb⟩
  obtain ⟨l, ⟨s, hs, hz⟩, rfl, rfl⟩ := h
  have hm : ∀ i, i ≤ l.length → Fq (1 + i * (s + 1)) ((l.take i).foldl Kzq1.add Kzq1.zero) := by
    intro i
    induction i with
    | zero =>
      intro _
      show Fq (1 + 0 * (s + 1)) Kzq1.zero
      rw [Nat.zero_mul]
      exact ⟨by decide, by decide, by decide⟩
    | succ i ih =>
      intro hi
      have e : l[i]? = some l[i] := by simp [show i < l.length by omega]
      rw [foldl_take e]
      refine ((ih (by omega)).add (hs _ (List.mem_of_getElem? e))).mono ?_
      rw [Nat.succ_mul]
      omega
  refine s_seq (s_set (r := qR K Kzq1.zero) (er_g e_ZERO)) (s_seq (s_for (fl := .nx [.r (sR K (l.map (qR K))), .r (qR K (Kzq1.sum l)), .no]) (ir_list (er_var rfl)) l.length (fun i => [.r (sR K (l.map (qR K))), .r (qR K ((l.take i).foldl Kzq1.add Kzq1.zero)), .no]) (Le.refl _) ?_ ?_ (.inl ⟨?_, _, rfl, ?_⟩)) (s_ret (er_var rfl)))
  · rw [List.length_map]; exact Nat.le_refl _
  · intro i r hi hr
    obtain ⟨q, hq, rfl⟩ := get_map hr
    refine ⟨_, _, g_name, s_le2 (s_set (er_c2 (er_var rfl) (er_var rfl) ?_)) ?_⟩
    · have h1 := hm (i + 1) hi
      have h2 := hm i (by omega)
      have hle : (i + 1) * (s + 1) ≤ l.length * (s + 1) := Nat.mul_le_mul_right _ hi
      rw [Nat.succ_mul] at hle
      exact ⟨h2.b (by omega), (hs q (List.mem_of_getElem? hq)).b (by omega)⟩
    · show Le [.r (sR K (l.map (qR K))), .r (qR K _), .r (qR K q)] _
      rw [foldl_take hq]
      exact Le.no _ 2
  · rw [List.length_map]
  · rw [List.take_length]
    exact Le.refl _
abbrev s_area_of : Stmt := top 22
theorem sc_area_of : FnScope ["corners", "one", "other"] ["corners"] (defScope s_area_of) := ⟨rfl, rfl, rfl, by decide +kernel, rfl, by decide +kernel, by decide +kernel⟩
abbrev pre_area_of (K : PySem.W.Frag) : List Rp → Rp → Prop := p1 AreaOk (fun l => sR K (l.map (pR K))) (qR K) Kzq1.size
theorem ok_area_of (A : Fa K mg "area_of" s_area_of ["corners"]) (T : Txt K mg CPiece CPart) (C_times : Cb P w K mg base "times" 42 ["one", "other"] (pre_times K)) (C_total : Cb P w K mg base "total" 43 ["some"] (pre_total K)) (C_crossed : Cb P w K mg base "crossed" 43 ["one", "other"] (pre_crossed K)) (C_sides_of : Cb P w K mg base "sides_of" 1 ["corners"] (pre_sides_of K)) : Cb P w K mg base "area_of" 46 ["corners"] (pre_area_of K) := by
  obtain ⟨f, fd, F, hm, hb⟩ := A.ex
  have nd := sc_area_of.nd
  obtain ⟨a_HALF, g_HALF, e_HALF⟩ := T.z_HALF
  refine ⟨f, fd, fn_ok F sc_area_of (fun rs r h => p1_len h) (fun cdv A outer s H E hr => ⟨_, (pss_one (ps_ret (pe_cb C_times (hr.mono (by decide)) rfl (pa_cons (pe_cb C_total (hr.mono (by decide)) rfl (pa_cons (pe_lc (own := [("one", 1), ("other", 2)]) (g := (gTup K 2 (gCons (gName 1) (gCons (gName 2) gNil)))) (tt := tYes) rfl nd (pi_list (pe_cb C_sides_of (hr.mono (by decide)) rfl (pa_cons (pv 0) pa_nil))) (blkOk_by (own := [("one", 1), ("other", 2)]) (N := ["corners", "one", "other"]) (sc := defScope s_area_of) (by decide +kernel)) (fun _ _ _ _ _ => (pg_tup rfl (pgs_cons (pg_name (i := 1) nd rfl (by first | exact Or.inl rfl | exact Or.inr rfl)) (pgs_cons (pg_name (i := 2) nd rfl (by first | exact Or.inl rfl | exact Or.inr rfl)) pgs_nil)))) (fun _ _ _ _ _ => pts_nil) (fun _ _ _ _ _ => (pe_cb C_crossed (hr.mono (by decide)) rfl (pa_cons (pv 1) (pa_cons (pv 2) pa_nil))))) pa_nil)) (pa_cons (pe_gt rfl g_HALF) pa_nil))))), fun rs r h => ?_⟩), hm, F.kp, hb⟩
  obtain ⟨l, ⟨hz, s, hs, hb, hw⟩, rfl, rfl⟩ := h
  have hsz : (Kzq1.sides l).length = l.length := by unfold Kzq1.sides; simp
  have hsd : ∀ t ∈ Kzq1.sides l, Fp s t.1 ∧ Fp s t.2 := sides_bl hb
  refine s_ret (er_eq (er_c2 (er_c1 (a := (Kzq1.sides l).map fun t => Kzq1.cross t.1 t.2) (er_ls (er_eq (er_mapL (ra := gR K) (rc := fun t => qR K (Kzq1.cross t.1 t.2)) (ir_list (er_ls (er_c1 (er_var rfl) ?_))) (by omega) fun i t ht => ⟨_, _, g_two, fun _ h => h, (er_c2 (er_var rfl) (er_var rfl) ?_)⟩) ?_)) ?_) (b := Kzq1.half) (er_g e_HALF) ?_) ?_)
  · exact hz
  · exact ⟨(hsd t (List.mem_of_getElem? ht)).1.mono (by omega), (hsd t (List.mem_of_getElem? ht)).2.mono (by omega)⟩
  · rw [List.map_map]; rfl
  · refine ⟨4 * s + 1, fun q hq => ?_, by rw [List.length_map, hsz]; exact hw⟩
    obtain ⟨t, ht, rfl⟩ := List.mem_map.mp hq
    exact ((hsd t ht).1.cross (hsd t ht).2).mono (by omega)
  · refine ⟨(area_sum hb).b hw, half_fq.b (by decide)⟩
  · show qR K (Kzq1.mul _ Kzq1.half) = qR K (Kzq1.mul Kzq1.half _)
    rw [mul_comm2]
abbrev s_size : Stmt := top 23
theorem sc_size : FnScope ["piece"] ["piece"] (defScope s_size) := ⟨rfl, rfl, rfl, by decide +kernel, rfl, by decide +kernel, by decide +kernel⟩
abbrev pre_size (K : PySem.W.Frag) (CPiece : Addr) : List Rp → Rp → Prop := p1 AreaOk (pcR K CPiece) (qR K) Kzq1.size
theorem ok_size (A : Fa K mg "size" s_size ["piece"]) (T : Txt K mg CPiece CPart) (C_area_of : Cb P w K mg base "area_of" 46 ["corners"] (pre_area_of K)) : Cb P w K mg base "size" 47 ["piece"] (pre_size K CPiece) := by
  obtain ⟨f, fd, F, hm, hb⟩ := A.ex
  have nd := sc_size.nd
  refine ⟨f, fd, fn_ok F sc_size (fun rs r h => p1_len h) (fun cdv A outer s H E hr => ⟨_, (pss_one (ps_ret (pe_cb C_area_of (hr.mono (by decide)) rfl (pa_cons (peFld (K := K) (pv 0) rfl) pa_nil)))), fun rs r h => ?_⟩), hm, F.kp, hb⟩
  obtain ⟨l, hl, rfl, rfl⟩ := h
  refine s_ret (er_c1 (er_ls (er_fld (er_var rfl) T.cl_Piece T.n_corners rfl)) ?_)
  exact hl
abbrev s_sizes : Stmt := top 38
theorem sc_sizes : FnScope ["c", "cutting", "refusal", "found", "part"] ["c"] (defScope s_sizes) := ⟨rfl, rfl, rfl, by decide +kernel, rfl, by decide +kernel, by decide +kernel⟩
abbrev pre_sizes (K : PySem.W.Frag) : List Rp → Rp → Prop := p1 (fun ns : List Int => ns.length ≤ 4000 ∧ ∀ x ∈ ns, x.natAbs < 2 ^ 256) (fun ns => sR K (ns.map iR)) (fun out : List Int => lR (out.map iR)) sizesF
theorem ok_sizes {f : Addr} {fd : FuncData} (F : Fun K "sizes" "sizes" s_sizes f fd) (T : Txt K mg CPiece CPart) (C_read_cutting : Cb P w K mg base "read_cutting" 47 ["row"] (pre_read_cutting K CPiece CPart)) (C_bad_cutting : Cb P w K mg base "bad_cutting" 1 ["cutting"] (pre_bad_cutting K CPiece CPart)) (C_size : Cb P w K mg base "size" 47 ["piece"] (pre_size K CPiece)) : FnOk P w K mg base CX0 48 f fd ["c"] (Pm (pre_sizes K)) := by
  have nd := sc_sizes.nd
  refine fn_ok F sc_sizes (fun rs r h => p1_len h) (fun cdv A outer s H E hr => ⟨_, (pss_cons (ps_set (i := 1) nd rfl (by first | exact Or.inl rfl | exact Or.inr rfl) (pe_cb C_read_cutting (hr.mono (by decide)) rfl (pa_cons (pv 0) pa_nil)))
      (pss_cons (ps_set (i := 2) nd rfl (by first | exact Or.inl rfl | exact Or.inr rfl) (pe_cb C_bad_cutting (hr.mono (by decide)) rfl (pa_cons (pv 1) pa_nil)))
      (pss_cons (ps_if (pt_cmpR op_ne (pv 2) pe_int (nomark _)) (pss_one (ps_ret (pe_lst (pa_cons (pv 2) pa_nil)))) pss_nil)
      (pss_cons (ps_set (i := 3) nd rfl (by first | exact Or.inl rfl | exact Or.inr rfl) (pe_lst (pa_cons (pe_callB (cLen (K := K) rfl) (by rfl) T.len PySem.boot_len (pa_cons (pv 1) pa_nil)) pa_nil)))
      (pss_cons (ps_for PassesOwn.never rfl (pi_list (pv 1)) (pg_name (i := 4) nd rfl (by first | exact Or.inl rfl | exact Or.inr rfl)) (pss_one (ps_expr (pe_bm PySem.F.plainAttrs_list PySem.F.slot_list_extend PySem.F.type_list_extend mt_extend (pv 3) (pa_cons (pe_callTy (cListOf (K := K) rfl) (by rfl) T.list (by decide +kernel) (pa_cons (pe_cb C_size (hr.mono (by decide)) rfl (pa_cons (peFld (K := K) (pv 4) rfl) pa_nil)) pa_nil)) pa_nil)))))
      (pss_one (ps_ret (pv 3)))))))), fun rs r h => ?_⟩)
  obtain ⟨ns, ⟨hz, hb⟩, rfl, rfl⟩ := h
  have hq : ∀ ps, readOn ns.length ns = some ps → ps.length ≤ 4000 := fun ps h => by have := readOn_len h; omega
  refine s_seq (s_set (er_c1 (er_var rfl) ?_)) (s_seq (s_set (er_c1 (er_var rfl) ?_)) ?_)
  · exact ⟨hz, hb⟩
  · exact fun ps h => Nat.le_trans (hq ps h) (by decide)
  · show S _ [.r (sR K (ns.map iR)), .r (opR (fun ps => lR (ps.map (ptR K CPiece CPart))) (readOn ns.length ns)), .r (iR (badC (readOn ns.length ns))), .no, .no] (.rt (lR ((sizesF ns).map iR)))
    unfold sizesF
    cases hR : readOn ns.length ns with
    | none => exact s_seqR (s_ifT (tr_eq (tr_test (er_neI (er_var rfl) er_c)) rfl) (s_ret (er_lst (ar_cons (er_var rfl) ar_nil))))
    | some ps =>
      have hpl := hq ps hR
      by_cases c : 160 < ps.length
      · have e : badC (some ps) = -28 := if_pos c
        rw [e]
        show S _ _ (.rt (lR ((if 160 < ps.length then [-28] else _ : List Int).map iR)))
        rw [if_pos c]
        exact s_seqR (s_ifT (tr_eq (tr_test (er_neI (er_var rfl) er_c)) rfl) (s_ret (er_lst (ar_cons (er_var rfl) ar_nil))))
      · have e : badC (some ps) = 0 := if_neg c
        rw [e]
        show S _ _ (.rt (lR ((if 160 < ps.length then [-28] else _ : List Int).map iR)))
        rw [if_neg c]
        have hbp := readOn_bpt hR hb
        have hfl : ∀ i, ((ps.take i).flatMap fun p => Kzq1.writtenQ (Kzq1.size p.l)).length ≤ 2 * i := fun i => by
          refine Nat.le_trans (flat_len _ 2 fun p => ?_) (by have := List.length_take_le i ps; omega)
          exact Nat.le_refl _
        refine s_seq (s_ifF (tr_eq (tr_test (er_neI (er_var rfl) er_c)) rfl) s_next) (s_seq (s_own (rs := [iR (ps.length : Int)]) (ar_cons (er_eq (er_len (er_ls (er_var rfl))) (by rw [List.length_map])) ar_nil) (by exact Nat.le_of_ble_eq_true rfl)) (s_seq (s_for (fl := .nx [.r (sR K (ns.map iR)), .r (lR (ps.map (ptR K CPiece CPart))), .r (iR 0), .l (iR (ps.length : Int) :: (ps.flatMap fun p => Kzq1.writtenQ (Kzq1.size p.l)).map iR), .no]) (ir_list (er_ls (er_var rfl))) ps.length (fun i => [.r (sR K (ns.map iR)), .r (lR (ps.map (ptR K CPiece CPart))), .r (iR 0), .l (iR (ps.length : Int) :: ((ps.take i).flatMap fun p => Kzq1.writtenQ (Kzq1.size p.l)).map iR), .no]) (Le.of ?_) ?_ ?_ (.inl ⟨?_, _, rfl, ?_⟩)) ?_))
        · rfl
        · rw [List.length_map]; exact Nat.le_refl _
        · intro i r hi hr
          obtain ⟨p, hp, rfl⟩ := get_map hr
          have hh := hbp p (List.mem_of_getElem? hp)
          have h40 := hh.2.2.1
          refine ⟨_, _, g_name, s_le2 (s_ext (i := 3) rfl (er_callB (ar_cons (er_c1 (er_fld (er_var rfl) T.cl_Part T.n_piece rfl) ?_) ar_nil) cr_listT) ?_) ?_⟩
          · exact ⟨by omega, 256, by decide, hh.1, by omega⟩
          · have := hfl i
            rw [List.length_cons, List.length_map]
            show _ + 2 ≤ _
            omega
          · show Le [.r (sR K (ns.map iR)), .r (lR (ps.map (ptR K CPiece CPart))), .r (iR 0), .l (iR (ps.length : Int) :: ((ps.take i).flatMap fun p => Kzq1.writtenQ (Kzq1.size p.l)).map iR ++ [iR (Kzq1.size p.l).n, iR ((Kzq1.size p.l).d : Int)]), _] _
            rw [take_snoc hp, List.flatMap_append, List.map_append]
            exact Le.no _ 4
        · rw [List.length_map]
        · rw [List.take_length]
          exact Le.refl _
        · rw [List.map_cons]
          exact s_freeze 3 rfl (s_ret (er_var rfl))
end
theorem all_mk {P : Program} {w : World} {K : PySem.W.Frag} {h : Heap} {mg : Str → Option Value} {fa CPiece CPart : Addr} (X : K.In h) (G : h.Ns mainGlobals mg) (hfa : mg "sizes" = some (.ref fa)) (hT : P.given.tree = none)
    {f1 : Addr} {od1 an1 : Option Addr} {sl1 : Array (Option Value)} {oc1 kV1 dc1 pm1 cd1 ct1 : Value}
    {f2 : Addr} {od2 an2 : Option Addr} {sl2 : Array (Option Value)} {oc2 kV2 dc2 pm2 cd2 ct2 : Value}
    {f3 : Addr} {od3 an3 : Option Addr} {sl3 : Array (Option Value)} {oc3 kV3 dc3 pm3 cd3 ct3 : Value}
    {f4 : Addr} {od4 an4 : Option Addr} {sl4 : Array (Option Value)} {oc4 kV4 dc4 pm4 cd4 ct4 : Value}
    {f5 : Addr} {od5 an5 : Option Addr} {sl5 : Array (Option Value)} {oc5 kV5 dc5 pm5 cd5 ct5 : Value}
    {f6 : Addr} {od6 an6 : Option Addr} {sl6 : Array (Option Value)} {oc6 kV6 dc6 pm6 cd6 ct6 : Value}
    {f7 : Addr} {od7 an7 : Option Addr} {sl7 : Array (Option Value)} {oc7 kV7 dc7 pm7 cd7 ct7 : Value}
    {f8 : Addr} {od8 an8 : Option Addr} {sl8 : Array (Option Value)} {oc8 kV8 dc8 pm8 cd8 ct8 : Value}
    {f9 : Addr} {od9 an9 : Option Addr} {sl9 : Array (Option Value)} {oc9 kV9 dc9 pm9 cd9 ct9 : Value}
    {f10 : Addr} {od10 an10 : Option Addr} {sl10 : Array (Option Value)} {oc10 kV10 dc10 pm10 cd10 ct10 : Value}
    {f11 : Addr} {od11 an11 : Option Addr} {sl11 : Array (Option Value)} {oc11 kV11 dc11 pm11 cd11 ct11 : Value}
    {f12 : Addr} {od12 an12 : Option Addr} {sl12 : Array (Option Value)} {oc12 kV12 dc12 pm12 cd12 ct12 : Value}
    {f13 : Addr} {od13 an13 : Option Addr} {sl13 : Array (Option Value)} {oc13 kV13 dc13 pm13 cd13 ct13 : Value}
    {f14 : Addr} {od14 an14 : Option Addr} {sl14 : Array (Option Value)} {oc14 kV14 dc14 pm14 cd14 ct14 : Value}
    {f15 : Addr} {od15 an15 : Option Addr} {sl15 : Array (Option Value)} {oc15 kV15 dc15 pm15 cd15 ct15 : Value}
    {f16 : Addr} {od16 an16 : Option Addr} {sl16 : Array (Option Value)} {oc16 kV16 dc16 pm16 cd16 ct16 : Value}
    {f17 : Addr} {od17 an17 : Option Addr} {sl17 : Array (Option Value)} {oc17 kV17 dc17 pm17 cd17 ct17 : Value}
    {f18 : Addr} {od18 an18 : Option Addr} {sl18 : Array (Option Value)} {oc18 kV18 dc18 pm18 cd18 ct18 : Value}
    {f19 : Addr} {od19 an19 : Option Addr} {sl19 : Array (Option Value)} {oc19 kV19 dc19 pm19 cd19 ct19 : Value}
    {f20 : Addr} {od20 an20 : Option Addr} {sl20 : Array (Option Value)} {oc20 kV20 dc20 pm20 cd20 ct20 : Value}
    {f21 : Addr} {od21 an21 : Option Addr} {sl21 : Array (Option Value)} {oc21 kV21 dc21 pm21 cd21 ct21 : Value}
    {f22 : Addr} {od22 an22 : Option Addr} {sl22 : Array (Option Value)} {oc22 kV22 dc22 pm22 cd22 ct22 : Value}
    {f23 : Addr} {od23 an23 : Option Addr} {sl23 : Array (Option Value)} {oc23 kV23 dc23 pm23 cd23 ct23 : Value}
    {f24 : Addr} {od24 an24 : Option Addr} {sl24 : Array (Option Value)} {oc24 kV24 dc24 pm24 cd24 ct24 : Value}
    {f25 : Addr} {od25 an25 : Option Addr} {sl25 : Array (Option Value)} {oc25 kV25 dc25 pm25 cd25 ct25 : Value}
    {f26 : Addr} {od26 an26 : Option Addr} {sl26 : Array (Option Value)} {oc26 kV26 dc26 pm26 cd26 ct26 : Value}
    {t_MOST_PARTS : Tok}
    {t_NOT_AS_TOLD : Tok}
    {t_TOO_MUCH : Tok}
    {t_LEAST_CORNERS : Tok}
    {t_MOST_CORNERS : Tok}
    {t_MOVE_NUMBERS : Tok}
    {a_ZERO : Addr} {od_ZERO : Option Addr} {n_ZERO : Nat} {s_ZERO : Array (Option Value)} {t1_ZERO t2_ZERO : Tok}
    {a_HALF : Addr} {od_HALF : Option Addr} {n_HALF : Nat} {s_HALF : Array (Option Value)} {t1_HALF t2_HALF : Tok}
    (aC_Piece : PySem.W.nsIn K mainGlobals "Piece" = some (some (.ref CPiece)))
    (aC_Part : PySem.W.nsIn K mainGlobals "Part" = some (some (.ref CPart)))
    (a1 : PySem.W.nsIn K mainGlobals "common" = some (some (.ref f1)))
    (l1 : K.lookup f1 = some ⟨oc1, od1, .func (PySem.W.fnOf "common" "common" (defArgs s_common) (defBody s_common) (defScope s_common) .none kV1 dc1 pm1 an1 cd1 ct1), sl1⟩)
    (c1 : PySem.W.codeIn K cd1 "common" = true)
    (k1 : PySem.W.keepIn K (.ref f1) = true)
    (a2 : PySem.W.nsIn K mainGlobals "ratio" = some (some (.ref f2)))
    (l2 : K.lookup f2 = some ⟨oc2, od2, .func (PySem.W.fnOf "ratio" "ratio" (defArgs s_ratio) (defBody s_ratio) (defScope s_ratio) .none kV2 dc2 pm2 an2 cd2 ct2), sl2⟩)
    (c2 : PySem.W.codeIn K cd2 "ratio" = true)
    (k2 : PySem.W.keepIn K (.ref f2) = true)
    (a3 : PySem.W.nsIn K mainGlobals "plus" = some (some (.ref f3)))
    (l3 : K.lookup f3 = some ⟨oc3, od3, .func (PySem.W.fnOf "plus" "plus" (defArgs s_plus) (defBody s_plus) (defScope s_plus) .none kV3 dc3 pm3 an3 cd3 ct3), sl3⟩)
    (c3 : PySem.W.codeIn K cd3 "plus" = true)
    (k3 : PySem.W.keepIn K (.ref f3) = true)
    (a4 : PySem.W.nsIn K mainGlobals "minus" = some (some (.ref f4)))
    (l4 : K.lookup f4 = some ⟨oc4, od4, .func (PySem.W.fnOf "minus" "minus" (defArgs s_minus) (defBody s_minus) (defScope s_minus) .none kV4 dc4 pm4 an4 cd4 ct4), sl4⟩)
    (c4 : PySem.W.codeIn K cd4 "minus" = true)
    (k4 : PySem.W.keepIn K (.ref f4) = true)
    (a5 : PySem.W.nsIn K mainGlobals "times" = some (some (.ref f5)))
    (l5 : K.lookup f5 = some ⟨oc5, od5, .func (PySem.W.fnOf "times" "times" (defArgs s_times) (defBody s_times) (defScope s_times) .none kV5 dc5 pm5 an5 cd5 ct5), sl5⟩)
    (c5 : PySem.W.codeIn K cd5 "times" = true)
    (k5 : PySem.W.keepIn K (.ref f5) = true)
    (a6 : PySem.W.nsIn K mainGlobals "is_less" = some (some (.ref f6)))
    (l6 : K.lookup f6 = some ⟨oc6, od6, .func (PySem.W.fnOf "is_less" "is_less" (defArgs s_is_less) (defBody s_is_less) (defScope s_is_less) .none kV6 dc6 pm6 an6 cd6 ct6), sl6⟩)
    (c6 : PySem.W.codeIn K cd6 "is_less" = true)
    (k6 : PySem.W.keepIn K (.ref f6) = true)
    (a7 : PySem.W.nsIn K mainGlobals "least" = some (some (.ref f7)))
    (l7 : K.lookup f7 = some ⟨oc7, od7, .func (PySem.W.fnOf "least" "least" (defArgs s_least) (defBody s_least) (defScope s_least) .none kV7 dc7 pm7 an7 cd7 ct7), sl7⟩)
    (c7 : PySem.W.codeIn K cd7 "least" = true)
    (k7 : PySem.W.keepIn K (.ref f7) = true)
    (a8 : PySem.W.nsIn K mainGlobals "greatest" = some (some (.ref f8)))
    (l8 : K.lookup f8 = some ⟨oc8, od8, .func (PySem.W.fnOf "greatest" "greatest" (defArgs s_greatest) (defBody s_greatest) (defScope s_greatest) .none kV8 dc8 pm8 an8 cd8 ct8), sl8⟩)
    (c8 : PySem.W.codeIn K cd8 "greatest" = true)
    (k8 : PySem.W.keepIn K (.ref f8) = true)
    (a9 : PySem.W.nsIn K mainGlobals "is_told" = some (some (.ref f9)))
    (l9 : K.lookup f9 = some ⟨oc9, od9, .func (PySem.W.fnOf "is_told" "is_told" (defArgs s_is_told) (defBody s_is_told) (defScope s_is_told) .none kV9 dc9 pm9 an9 cd9 ct9), sl9⟩)
    (c9 : PySem.W.codeIn K cd9 "is_told" = true)
    (k9 : PySem.W.keepIn K (.ref f9) = true)
    (a10 : PySem.W.nsIn K mainGlobals "between" = some (some (.ref f10)))
    (l10 : K.lookup f10 = some ⟨oc10, od10, .func (PySem.W.fnOf "between" "between" (defArgs s_between) (defBody s_between) (defScope s_between) .none kV10 dc10 pm10 an10 cd10 ct10), sl10⟩)
    (c10 : PySem.W.codeIn K cd10 "between" = true)
    (k10 : PySem.W.keepIn K (.ref f10) = true)
    (a11 : PySem.W.nsIn K mainGlobals "crossed" = some (some (.ref f11)))
    (l11 : K.lookup f11 = some ⟨oc11, od11, .func (PySem.W.fnOf "crossed" "crossed" (defArgs s_crossed) (defBody s_crossed) (defScope s_crossed) .none kV11 dc11 pm11 an11 cd11 ct11), sl11⟩)
    (c11 : PySem.W.codeIn K cd11 "crossed" = true)
    (k11 : PySem.W.keepIn K (.ref f11) = true)
    (a12 : PySem.W.nsIn K mainGlobals "turning" = some (some (.ref f12)))
    (l12 : K.lookup f12 = some ⟨oc12, od12, .func (PySem.W.fnOf "turning" "turning" (defArgs s_turning) (defBody s_turning) (defScope s_turning) .none kV12 dc12 pm12 an12 cd12 ct12), sl12⟩)
    (c12 : PySem.W.codeIn K cd12 "turning" = true)
    (k12 : PySem.W.keepIn K (.ref f12) = true)
    (a13 : PySem.W.findIn K (.ref CPiece) "__init__" = some (some (.ref f13)))
    (i13 : PySem.W.isFn K (.ref f13) = true)
    (l13 : K.lookup f13 = some ⟨oc13, od13, .func (PySem.W.fnOf "__init__" "Piece.__init__" (defArgs s_Piece_init) (defBody s_Piece_init) (defScope s_Piece_init) .none kV13 dc13 pm13 an13 cd13 ct13), sl13⟩)
    (c13 : PySem.W.codeIn K cd13 "Piece.__init__" = true)
    (k13 : PySem.W.keepIn K (.ref f13) = true)
    (a14 : PySem.W.nsIn K mainGlobals "is_ahead" = some (some (.ref f14)))
    (l14 : K.lookup f14 = some ⟨oc14, od14, .func (PySem.W.fnOf "is_ahead" "is_ahead" (defArgs s_is_ahead) (defBody s_is_ahead) (defScope s_is_ahead) .none kV14 dc14 pm14 an14 cd14 ct14), sl14⟩)
    (c14 : PySem.W.codeIn K cd14 "is_ahead" = true)
    (k14 : PySem.W.keepIn K (.ref f14) = true)
    (a15 : PySem.W.nsIn K mainGlobals "from_leftmost" = some (some (.ref f15)))
    (l15 : K.lookup f15 = some ⟨oc15, od15, .func (PySem.W.fnOf "from_leftmost" "from_leftmost" (defArgs s_from_leftmost) (defBody s_from_leftmost) (defScope s_from_leftmost) .none kV15 dc15 pm15 an15 cd15 ct15), sl15⟩)
    (c15 : PySem.W.codeIn K cd15 "from_leftmost" = true)
    (k15 : PySem.W.keepIn K (.ref f15) = true)
    (a16 : PySem.W.nsIn K mainGlobals "sides_of" = some (some (.ref f16)))
    (l16 : K.lookup f16 = some ⟨oc16, od16, .func (PySem.W.fnOf "sides_of" "sides_of" (defArgs s_sides_of) (defBody s_sides_of) (defScope s_sides_of) .none kV16 dc16 pm16 an16 cd16 ct16), sl16⟩)
    (c16 : PySem.W.codeIn K cd16 "sides_of" = true)
    (k16 : PySem.W.keepIn K (.ref f16) = true)
    (a17 : PySem.W.nsIn K mainGlobals "is_strict" = some (some (.ref f17)))
    (l17 : K.lookup f17 = some ⟨oc17, od17, .func (PySem.W.fnOf "is_strict" "is_strict" (defArgs s_is_strict) (defBody s_is_strict) (defScope s_is_strict) .none kV17 dc17 pm17 an17 cd17 ct17), sl17⟩)
    (c17 : PySem.W.codeIn K cd17 "is_strict" = true)
    (k17 : PySem.W.keepIn K (.ref f17) = true)
    (a18 : PySem.W.findIn K (.ref CPart) "__init__" = some (some (.ref f18)))
    (i18 : PySem.W.isFn K (.ref f18) = true)
    (l18 : K.lookup f18 = some ⟨oc18, od18, .func (PySem.W.fnOf "__init__" "Part.__init__" (defArgs s_Part_init) (defBody s_Part_init) (defScope s_Part_init) .none kV18 dc18 pm18 an18 cd18 ct18), sl18⟩)
    (c18 : PySem.W.codeIn K cd18 "Part.__init__" = true)
    (k18 : PySem.W.keepIn K (.ref f18) = true)
    (a19 : PySem.W.nsIn K mainGlobals "fractions_in" = some (some (.ref f19)))
    (l19 : K.lookup f19 = some ⟨oc19, od19, .func (PySem.W.fnOf "fractions_in" "fractions_in" (defArgs s_fractions_in) (defBody s_fractions_in) (defScope s_fractions_in) .none kV19 dc19 pm19 an19 cd19 ct19), sl19⟩)
    (c19 : PySem.W.codeIn K cd19 "fractions_in" = true)
    (k19 : PySem.W.keepIn K (.ref f19) = true)
    (a20 : PySem.W.nsIn K mainGlobals "part_of" = some (some (.ref f20)))
    (l20 : K.lookup f20 = some ⟨oc20, od20, .func (PySem.W.fnOf "part_of" "part_of" (defArgs s_part_of) (defBody s_part_of) (defScope s_part_of) .none kV20 dc20 pm20 an20 cd20 ct20), sl20⟩)
    (c20 : PySem.W.codeIn K cd20 "part_of" = true)
    (k20 : PySem.W.keepIn K (.ref f20) = true)
    (a21 : PySem.W.nsIn K mainGlobals "read_cutting" = some (some (.ref f21)))
    (l21 : K.lookup f21 = some ⟨oc21, od21, .func (PySem.W.fnOf "read_cutting" "read_cutting" (defArgs s_read_cutting) (defBody s_read_cutting) (defScope s_read_cutting) .none kV21 dc21 pm21 an21 cd21 ct21), sl21⟩)
    (c21 : PySem.W.codeIn K cd21 "read_cutting" = true)
    (k21 : PySem.W.keepIn K (.ref f21) = true)
    (a22 : PySem.W.nsIn K mainGlobals "bad_cutting" = some (some (.ref f22)))
    (l22 : K.lookup f22 = some ⟨oc22, od22, .func (PySem.W.fnOf "bad_cutting" "bad_cutting" (defArgs s_bad_cutting) (defBody s_bad_cutting) (defScope s_bad_cutting) .none kV22 dc22 pm22 an22 cd22 ct22), sl22⟩)
    (c22 : PySem.W.codeIn K cd22 "bad_cutting" = true)
    (k22 : PySem.W.keepIn K (.ref f22) = true)
    (a23 : PySem.W.nsIn K mainGlobals "total" = some (some (.ref f23)))
    (l23 : K.lookup f23 = some ⟨oc23, od23, .func (PySem.W.fnOf "total" "total" (defArgs s_total) (defBody s_total) (defScope s_total) .none kV23 dc23 pm23 an23 cd23 ct23), sl23⟩)
    (c23 : PySem.W.codeIn K cd23 "total" = true)
    (k23 : PySem.W.keepIn K (.ref f23) = true)
    (a24 : PySem.W.nsIn K mainGlobals "area_of" = some (some (.ref f24)))
    (l24 : K.lookup f24 = some ⟨oc24, od24, .func (PySem.W.fnOf "area_of" "area_of" (defArgs s_area_of) (defBody s_area_of) (defScope s_area_of) .none kV24 dc24 pm24 an24 cd24 ct24), sl24⟩)
    (c24 : PySem.W.codeIn K cd24 "area_of" = true)
    (k24 : PySem.W.keepIn K (.ref f24) = true)
    (a25 : PySem.W.nsIn K mainGlobals "size" = some (some (.ref f25)))
    (l25 : K.lookup f25 = some ⟨oc25, od25, .func (PySem.W.fnOf "size" "size" (defArgs s_size) (defBody s_size) (defScope s_size) .none kV25 dc25 pm25 an25 cd25 ct25), sl25⟩)
    (c25 : PySem.W.codeIn K cd25 "size" = true)
    (k25 : PySem.W.keepIn K (.ref f25) = true)
    (a26 : PySem.W.nsIn K mainGlobals "sizes" = some (some (.ref f26)))
    (l26 : K.lookup f26 = some ⟨oc26, od26, .func (PySem.W.fnOf "sizes" "sizes" (defArgs s_sizes) (defBody s_sizes) (defScope s_sizes) .none kV26 dc26 pm26 an26 cd26 ct26), sl26⟩)
    (c26 : PySem.W.codeIn K cd26 "sizes" = true)
    (k26 : PySem.W.keepIn K (.ref f26) = true)
    (pg_Piece : PySem.W.plainGet K CPiece Str.empty = true)
    (hd_Piece : PySem.W.hasDictIn K CPiece = true)
    (po_Piece : PySem.W.plainOver K CPiece = true)
    (sa_Piece : PySem.W.findIn K (.ref CPiece) "__setattr__" = some (some (.builtin "object.__setattr__")))
    (mk_Piece : PySem.W.makesIn K CPiece = true)
    (kc_Piece : PySem.W.keepIn K (.ref CPiece) = true)
    (pg_Part : PySem.W.plainGet K CPart Str.empty = true)
    (hd_Part : PySem.W.hasDictIn K CPart = true)
    (po_Part : PySem.W.plainOver K CPart = true)
    (sa_Part : PySem.W.findIn K (.ref CPart) "__setattr__" = some (some (.builtin "object.__setattr__")))
    (mk_Part : PySem.W.makesIn K CPart = true)
    (kc_Part : PySem.W.keepIn K (.ref CPart) = true)
    (n_corners : PySem.W.findIn K (.ref CPiece) "corners" = some none)
    (n_bounds : PySem.W.findIn K (.ref CPiece) "bounds" = some none)
    (n_piece : PySem.W.findIn K (.ref CPart) "piece" = some none)
    (n_move : PySem.W.findIn K (.ref CPart) "move" = some none)
    (b_len : PySem.W.nsIn K mainGlobals "len" = some none)
    (b_abs : PySem.W.nsIn K mainGlobals "abs" = some none)
    (b_all : PySem.W.nsIn K mainGlobals "all" = some none)
    (b_range : PySem.W.nsIn K mainGlobals "range" = some none)
    (b_enumerate : PySem.W.nsIn K mainGlobals "enumerate" = some none)
    (b_list : PySem.W.nsIn K mainGlobals "list" = some none)
    (v_MOST_PARTS : PySem.W.nsIn K mainGlobals "MOST_PARTS" = some (some (.int (160) t_MOST_PARTS)))
    (v_NOT_AS_TOLD : PySem.W.nsIn K mainGlobals "NOT_AS_TOLD" = some (some (.int (-22) t_NOT_AS_TOLD)))
    (v_TOO_MUCH : PySem.W.nsIn K mainGlobals "TOO_MUCH" = some (some (.int (-28) t_TOO_MUCH)))
    (v_LEAST_CORNERS : PySem.W.nsIn K mainGlobals "LEAST_CORNERS" = some (some (.int (3) t_LEAST_CORNERS)))
    (v_MOST_CORNERS : PySem.W.nsIn K mainGlobals "MOST_CORNERS" = some (some (.int (40) t_MOST_CORNERS)))
    (v_MOVE_NUMBERS : PySem.W.nsIn K mainGlobals "MOVE_NUMBERS" = some (some (.int (5) t_MOVE_NUMBERS)))
    (v_ZERO : PySem.W.nsIn K mainGlobals "ZERO" = some (some (.ref a_ZERO)))
    (l_ZERO : K.lookup a_ZERO = some ⟨.type "tuple", od_ZERO, .seq #[.int 0 t1_ZERO, .int 1 t2_ZERO] n_ZERO, s_ZERO⟩)
    (v_HALF : PySem.W.nsIn K mainGlobals "HALF" = some (some (.ref a_HALF)))
    (l_HALF : K.lookup a_HALF = some ⟨.type "tuple", od_HALF, .seq #[.int 1 t1_HALF, .int 2 t2_HALF] n_HALF, s_HALF⟩) :
    ∃ fd : FuncData, (∀ (s : Shared) (us : List Value), us.length = (["c"] : List Str).length → BindsTo s fd ⟨us, []⟩ ((["c"] : List Str).zip us)) ∧ ∀ base : Heap, K.In base → base.NoSeer → base.Ns mainGlobals mg → FnOk P w K mg base CX0 48 fa fd ["c"] (Pm (pre_sizes K)) := by
  have e := hfa.symm.trans (PySem.W.mg_of X G a26)
  cases e
  have T : Txt K mg CPiece CPart := ⟨PySem.W.mg_none_of X G b_len, PySem.W.mg_none_of X G b_abs, PySem.W.mg_none_of X G b_all, PySem.W.mg_none_of X G b_range, PySem.W.mg_none_of X G b_enumerate, PySem.W.mg_none_of X G b_list, ⟨_, PySem.W.mg_of X G v_MOST_PARTS⟩, ⟨_, PySem.W.mg_of X G v_NOT_AS_TOLD⟩, ⟨_, PySem.W.mg_of X G v_TOO_MUCH⟩, ⟨_, PySem.W.mg_of X G v_LEAST_CORNERS⟩, ⟨_, PySem.W.mg_of X G v_MOST_CORNERS⟩, ⟨_, PySem.W.mg_of X G v_MOVE_NUMBERS⟩, ⟨_, PySem.W.mg_of X G v_ZERO, fun H => q_lit l_ZERO⟩, ⟨_, PySem.W.mg_of X G v_HALF, fun H => q_lit l_HALF⟩, ⟨pg_Piece, hd_Piece, po_Piece, sa_Piece⟩, ⟨pg_Part, hd_Part, po_Part, sa_Part⟩, n_corners, n_bounds, n_piece, n_move⟩
  have F1 := fun_mk (st := s_common) l1 c1 k1
  have b1 := F1.binds (ps := ["one", "other"]) fun _ _ _ _ _ _ us hl => match us, hl with | [_, _], _ => rfl
  have A_common : Fa K mg "common" s_common ["one", "other"] := ⟨_, _, F1, PySem.W.mg_of X G a1, b1⟩
  have F2 := fun_mk (st := s_ratio) l2 c2 k2
  have b2 := F2.binds (ps := ["top", "bottom"]) fun _ _ _ _ _ _ us hl => match us, hl with | [_, _], _ => rfl
  have A_ratio : Fa K mg "ratio" s_ratio ["top", "bottom"] := ⟨_, _, F2, PySem.W.mg_of X G a2, b2⟩
  have F3 := fun_mk (st := s_plus) l3 c3 k3
  have b3 := F3.binds (ps := ["one", "other"]) fun _ _ _ _ _ _ us hl => match us, hl with | [_, _], _ => rfl
  have A_plus : Fa K mg "plus" s_plus ["one", "other"] := ⟨_, _, F3, PySem.W.mg_of X G a3, b3⟩
  have F4 := fun_mk (st := s_minus) l4 c4 k4
  have b4 := F4.binds (ps := ["one", "other"]) fun _ _ _ _ _ _ us hl => match us, hl with | [_, _], _ => rfl
  have A_minus : Fa K mg "minus" s_minus ["one", "other"] := ⟨_, _, F4, PySem.W.mg_of X G a4, b4⟩
  have F5 := fun_mk (st := s_times) l5 c5 k5
  have b5 := F5.binds (ps := ["one", "other"]) fun _ _ _ _ _ _ us hl => match us, hl with | [_, _], _ => rfl
  have A_times : Fa K mg "times" s_times ["one", "other"] := ⟨_, _, F5, PySem.W.mg_of X G a5, b5⟩
  have F6 := fun_mk (st := s_is_less) l6 c6 k6
  have b6 := F6.binds (ps := ["one", "other"]) fun _ _ _ _ _ _ us hl => match us, hl with | [_, _], _ => rfl
  have A_is_less : Fa K mg "is_less" s_is_less ["one", "other"] := ⟨_, _, F6, PySem.W.mg_of X G a6, b6⟩
  have F7 := fun_mk (st := s_least) l7 c7 k7
  have b7 := F7.binds (ps := ["some"]) fun _ _ _ _ _ _ us hl => match us, hl with | [_], _ => rfl
  have A_least : Fa K mg "least" s_least ["some"] := ⟨_, _, F7, PySem.W.mg_of X G a7, b7⟩
  have F8 := fun_mk (st := s_greatest) l8 c8 k8
  have b8 := F8.binds (ps := ["some"]) fun _ _ _ _ _ _ us hl => match us, hl with | [_], _ => rfl
  have A_greatest : Fa K mg "greatest" s_greatest ["some"] := ⟨_, _, F8, PySem.W.mg_of X G a8, b8⟩
  have F9 := fun_mk (st := s_is_told) l9 c9 k9
  have b9 := F9.binds (ps := ["top", "bottom"]) fun _ _ _ _ _ _ us hl => match us, hl with | [_, _], _ => rfl
  have A_is_told : Fa K mg "is_told" s_is_told ["top", "bottom"] := ⟨_, _, F9, PySem.W.mg_of X G a9, b9⟩
  have F10 := fun_mk (st := s_between) l10 c10 k10
  have b10 := F10.binds (ps := ["one", "other"]) fun _ _ _ _ _ _ us hl => match us, hl with | [_, _], _ => rfl
  have A_between : Fa K mg "between" s_between ["one", "other"] := ⟨_, _, F10, PySem.W.mg_of X G a10, b10⟩
  have F11 := fun_mk (st := s_crossed) l11 c11 k11
  have b11 := F11.binds (ps := ["one", "other"]) fun _ _ _ _ _ _ us hl => match us, hl with | [_, _], _ => rfl
  have A_crossed : Fa K mg "crossed" s_crossed ["one", "other"] := ⟨_, _, F11, PySem.W.mg_of X G a11, b11⟩
  have F12 := fun_mk (st := s_turning) l12 c12 k12
  have b12 := F12.binds (ps := ["a", "b", "c"]) fun _ _ _ _ _ _ us hl => match us, hl with | [_, _, _], _ => rfl
  have A_turning : Fa K mg "turning" s_turning ["a", "b", "c"] := ⟨_, _, F12, PySem.W.mg_of X G a12, b12⟩
  have F13 := fun_mk (st := s_Piece_init) l13 c13 k13
  have b13 := F13.binds (ps := ["self", "corners"]) fun _ _ _ _ _ _ us hl => match us, hl with | [_, _], _ => rfl
  have A_Piece_init : Fm K CPiece "__init__" "Piece.__init__" s_Piece_init ["self", "corners"] := ⟨_, _, F13, a13, i13, b13⟩
  have F14 := fun_mk (st := s_is_ahead) l14 c14 k14
  have b14 := F14.binds (ps := ["one", "other"]) fun _ _ _ _ _ _ us hl => match us, hl with | [_, _], _ => rfl
  have A_is_ahead : Fa K mg "is_ahead" s_is_ahead ["one", "other"] := ⟨_, _, F14, PySem.W.mg_of X G a14, b14⟩
  have F15 := fun_mk (st := s_from_leftmost) l15 c15 k15
  have b15 := F15.binds (ps := ["corners"]) fun _ _ _ _ _ _ us hl => match us, hl with | [_], _ => rfl
  have A_from_leftmost : Fa K mg "from_leftmost" s_from_leftmost ["corners"] := ⟨_, _, F15, PySem.W.mg_of X G a15, b15⟩
  have F16 := fun_mk (st := s_sides_of) l16 c16 k16
  have b16 := F16.binds (ps := ["corners"]) fun _ _ _ _ _ _ us hl => match us, hl with | [_], _ => rfl
  have A_sides_of : Fa K mg "sides_of" s_sides_of ["corners"] := ⟨_, _, F16, PySem.W.mg_of X G a16, b16⟩
  have F17 := fun_mk (st := s_is_strict) l17 c17 k17
  have b17 := F17.binds (ps := ["corners"]) fun _ _ _ _ _ _ us hl => match us, hl with | [_], _ => rfl
  have A_is_strict : Fa K mg "is_strict" s_is_strict ["corners"] := ⟨_, _, F17, PySem.W.mg_of X G a17, b17⟩
  have F18 := fun_mk (st := s_Part_init) l18 c18 k18
  have b18 := F18.binds (ps := ["self", "piece", "move"]) fun _ _ _ _ _ _ us hl => match us, hl with | [_, _, _], _ => rfl
  have A_Part_init : Fm K CPart "__init__" "Part.__init__" s_Part_init ["self", "piece", "move"] := ⟨_, _, F18, a18, i18, b18⟩
  have F19 := fun_mk (st := s_fractions_in) l19 c19 k19
  have b19 := F19.binds (ps := ["numbers"]) fun _ _ _ _ _ _ us hl => match us, hl with | [_], _ => rfl
  have A_fractions_in : Fa K mg "fractions_in" s_fractions_in ["numbers"] := ⟨_, _, F19, PySem.W.mg_of X G a19, b19⟩
  have F20 := fun_mk (st := s_part_of) l20 c20 k20
  have b20 := F20.binds (ps := ["many", "numbers"]) fun _ _ _ _ _ _ us hl => match us, hl with | [_, _], _ => rfl
  have A_part_of : Fa K mg "part_of" s_part_of ["many", "numbers"] := ⟨_, _, F20, PySem.W.mg_of X G a20, b20⟩
  have F21 := fun_mk (st := s_read_cutting) l21 c21 k21
  have b21 := F21.binds (ps := ["row"]) fun _ _ _ _ _ _ us hl => match us, hl with | [_], _ => rfl
  have A_read_cutting : Fa K mg "read_cutting" s_read_cutting ["row"] := ⟨_, _, F21, PySem.W.mg_of X G a21, b21⟩
  have F22 := fun_mk (st := s_bad_cutting) l22 c22 k22
  have b22 := F22.binds (ps := ["cutting"]) fun _ _ _ _ _ _ us hl => match us, hl with | [_], _ => rfl
  have A_bad_cutting : Fa K mg "bad_cutting" s_bad_cutting ["cutting"] := ⟨_, _, F22, PySem.W.mg_of X G a22, b22⟩
  have F23 := fun_mk (st := s_total) l23 c23 k23
  have b23 := F23.binds (ps := ["some"]) fun _ _ _ _ _ _ us hl => match us, hl with | [_], _ => rfl
  have A_total : Fa K mg "total" s_total ["some"] := ⟨_, _, F23, PySem.W.mg_of X G a23, b23⟩
  have F24 := fun_mk (st := s_area_of) l24 c24 k24
  have b24 := F24.binds (ps := ["corners"]) fun _ _ _ _ _ _ us hl => match us, hl with | [_], _ => rfl
  have A_area_of : Fa K mg "area_of" s_area_of ["corners"] := ⟨_, _, F24, PySem.W.mg_of X G a24, b24⟩
  have F25 := fun_mk (st := s_size) l25 c25 k25
  have b25 := F25.binds (ps := ["piece"]) fun _ _ _ _ _ _ us hl => match us, hl with | [_], _ => rfl
  have A_size : Fa K mg "size" s_size ["piece"] := ⟨_, _, F25, PySem.W.mg_of X G a25, b25⟩
  have F26 := fun_mk (st := s_sizes) l26 c26 k26
  have b26 := F26.binds (ps := ["c"]) fun _ _ _ _ _ _ us hl => match us, hl with | [_], _ => rfl
  have A_sizes : Fa K mg "sizes" s_sizes ["c"] := ⟨_, _, F26, PySem.W.mg_of X G a26, b26⟩
  refine ⟨PySem.W.fnOf "sizes" "sizes" (defArgs s_sizes) (defBody s_sizes) (defScope s_sizes) .none kV26 dc26 pm26 an26 cd26 ct26, fun s us hu => match us, hu with | [_], _ => .of_eq rfl, fun base hK hN hG => ?_⟩
  have hB : Big P base := ⟨hN, hT⟩
  have C_common := ok_common (P := P) (w := w) (base := base) A_common T 
  have C_ratio := ok_ratio (P := P) (w := w) (base := base) A_ratio T C_common hB
  have C_plus := ok_plus (P := P) (w := w) (base := base) A_plus T C_ratio
  have C_minus := ok_minus (P := P) (w := w) (base := base) A_minus T C_ratio
  have C_times := ok_times (P := P) (w := w) (base := base) A_times T C_ratio
  have C_is_less := ok_is_less (P := P) (w := w) (base := base) A_is_less T 
  have C_least := ok_least (P := P) (w := w) (base := base) A_least T C_is_less
  have C_greatest := ok_greatest (P := P) (w := w) (base := base) A_greatest T C_is_less
  have C_is_told := ok_is_told (P := P) (w := w) (base := base) A_is_told T C_common
  have C_between := ok_between (P := P) (w := w) (base := base) A_between T C_minus
  have C_crossed := ok_crossed (P := P) (w := w) (base := base) A_crossed T C_minus C_times
  have C_turning := ok_turning (P := P) (w := w) (base := base) A_turning T C_crossed C_between
  have C_Piece := ok_Piece_init (P := P) (w := w) (base := base) A_Piece_init ⟨mk_Piece, kc_Piece, PySem.W.mg_of X G aC_Piece⟩ T C_least C_greatest
  have C_is_ahead := ok_is_ahead (P := P) (w := w) (base := base) A_is_ahead T C_is_less
  have C_from_leftmost := ok_from_leftmost (P := P) (w := w) (base := base) A_from_leftmost T C_is_ahead
  have C_sides_of := ok_sides_of (P := P) (w := w) (base := base) A_sides_of T 
  have C_is_strict := ok_is_strict (P := P) (w := w) (base := base) A_is_strict T C_sides_of C_turning
  have C_Part := ok_Part_init (P := P) (w := w) (base := base) A_Part_init ⟨mk_Part, kc_Part, PySem.W.mg_of X G aC_Part⟩ T 
  have C_fractions_in := ok_fractions_in (P := P) (w := w) (base := base) A_fractions_in T C_is_told
  have C_part_of := ok_part_of (P := P) (w := w) (base := base) A_part_of T C_fractions_in C_Part C_is_strict C_Piece C_from_leftmost
  have C_read_cutting := ok_read_cutting (P := P) (w := w) (base := base) A_read_cutting T C_part_of
  have C_bad_cutting := ok_bad_cutting (P := P) (w := w) (base := base) A_bad_cutting T 
  have C_total := ok_total (P := P) (w := w) (base := base) A_total T C_plus
  have C_area_of := ok_area_of (P := P) (w := w) (base := base) A_area_of T C_times C_total C_crossed C_sides_of
  have C_size := ok_size (P := P) (w := w) (base := base) A_size T C_area_of
  exact ok_sizes F26 T C_read_cutting C_bad_cutting C_size
end Rc
open PySem PySem.W PyProof.Rows
set_option maxRecDepth 100000 in
set_option maxHeartbeats 0 in
theorem PySem.Challenge.cw_recutfigures_s05_sizes_holds : PySem.Challenge.rw_recutfigures_s05_sizes.Holds := by
  w_on; k_headS; (case hw => exact ⟨[.list []], by decide +kernel, by decide +kernel⟩)
  k_fillS
  intro w s₀ s₁ mg mb G Y
  have KX := PySem.W.kIn_of Y
  obtain ⟨E, hE, hS⟩ := Rc.seer_frag (G.T.seer rfl)
  refine (L2.walk_specK (r := PySem.Challenge.rw_recutfigures_s05_sizes) (k := 48) (K := fun _ => PySem.Challenge.cw_recutfigures_s05_sizes_holds.heap_1 w.params ++ E) (YP := fun w2 h2 => w = w2 ∧ s₁.heap = h2) (CX := L2.CX0) (ps := ["c"]) (sp := fun K => Rc.Pm (Rc.pre_sizes K)) (by decide +kernel) rfl rfl ⟨rfl, by decide, by decide⟩ ?hY ?F ?S (fun _ _ _ _ z => z)) w s₀ s₁ mg mb G ⟨rfl, rfl⟩
  case hY =>
    rintro _ _ ⟨rfl, rfl⟩
    exact Rc.frag_app KX hE
  case F =>
    rintro _ mg2 fa h ⟨rfl, rfl⟩ KX2 G2 hmg
    obtain ⟨fd, h1, h2⟩ : ∃ fd : FuncData, (∀ (s : Shared) (us : List Value), us.length = (["c"] : List Str).length → BindsTo s fd ⟨us, []⟩ ((["c"] : List Str).zip us)) ∧ ∀ base : Heap, Frag.In (PySem.Challenge.cw_recutfigures_s05_sizes_holds.heap_1 w.params ++ E) base → base.NoSeer → base.Ns mainGlobals mg2 → L2.FnOk PySem.Challenge.pw_recutfigures_s05_sizes w (PySem.Challenge.cw_recutfigures_s05_sizes_holds.heap_1 w.params ++ E) mg2 base L2.CX0 48 fa fd ["c"] (Rc.Pm (Rc.pre_sizes (PySem.Challenge.cw_recutfigures_s05_sizes_holds.heap_1 w.params ++ E))) := by
      refine' Rc.all_mk KX2 G2 hmg rfl ?aC_Piece ?aC_Part ?a1 ?l1 ?c1 ?k1 ?a2 ?l2 ?c2 ?k2 ?a3 ?l3 ?c3 ?k3 ?a4 ?l4 ?c4 ?k4 ?a5 ?l5 ?c5 ?k5 ?a6 ?l6 ?c6 ?k6 ?a7 ?l7 ?c7 ?k7 ?a8 ?l8 ?c8 ?k8 ?a9 ?l9 ?c9 ?k9 ?a10 ?l10 ?c10 ?k10 ?a11 ?l11 ?c11 ?k11 ?a12 ?l12 ?c12 ?k12 ?a13 ?i13 ?l13 ?c13 ?k13 ?a14 ?l14 ?c14 ?k14 ?a15 ?l15 ?c15 ?k15 ?a16 ?l16 ?c16 ?k16 ?a17 ?l17 ?c17 ?k17 ?a18 ?i18 ?l18 ?c18 ?k18 ?a19 ?l19 ?c19 ?k19 ?a20 ?l20 ?c20 ?k20 ?a21 ?l21 ?c21 ?k21 ?a22 ?l22 ?c22 ?k22 ?a23 ?l23 ?c23 ?k23 ?a24 ?l24 ?c24 ?k24 ?a25 ?l25 ?c25 ?k25 ?a26 ?l26 ?c26 ?k26 ?pg_Piece ?hd_Piece ?po_Piece ?sa_Piece ?mk_Piece ?kc_Piece ?pg_Part ?hd_Part ?po_Part ?sa_Part ?mk_Part ?kc_Part ?n_corners ?n_bounds ?n_piece ?n_move ?b_len ?b_abs ?b_all ?b_range ?b_enumerate ?b_list ?v_MOST_PARTS ?v_NOT_AS_TOLD ?v_TOO_MUCH ?v_LEAST_CORNERS ?v_MOST_CORNERS ?v_MOVE_NUMBERS ?v_ZERO ?l_ZERO ?v_HALF ?l_HALF
      (case aC_Piece => (refine Rc.v_nsIn (K1 := PySem.Challenge.cw_recutfigures_s05_sizes_holds.heap_1 w.params) ?_ ?_; k_is; kernel_rfl))
      (case aC_Part => (refine Rc.v_nsIn (K1 := PySem.Challenge.cw_recutfigures_s05_sizes_holds.heap_1 w.params) ?_ ?_; k_is; kernel_rfl))
      (case a1 => (refine Rc.v_nsIn (K1 := PySem.Challenge.cw_recutfigures_s05_sizes_holds.heap_1 w.params) ?_ ?_; k_is; kernel_rfl))
      (case l1 => (refine Rc.v_lookup (K1 := PySem.Challenge.cw_recutfigures_s05_sizes_holds.heap_1 w.params) ?_ ?_; k_is; kernel_rfl))
      (case c1 => (refine Rc.v_codeIn (K1 := PySem.Challenge.cw_recutfigures_s05_sizes_holds.heap_1 w.params) ?_ ?_; k_is; kernel_rfl))
      (case k1 => (refine Rc.v_keepIn (K1 := PySem.Challenge.cw_recutfigures_s05_sizes_holds.heap_1 w.params) ?_ ?_; k_is; kernel_rfl))
      (case a2 => (refine Rc.v_nsIn (K1 := PySem.Challenge.cw_recutfigures_s05_sizes_holds.heap_1 w.params) ?_ ?_; k_is; kernel_rfl))
      (case l2 => (refine Rc.v_lookup (K1 := PySem.Challenge.cw_recutfigures_s05_sizes_holds.heap_1 w.params) ?_ ?_; k_is; kernel_rfl))
      (case c2 => (refine Rc.v_codeIn (K1 := PySem.Challenge.cw_recutfigures_s05_sizes_holds.heap_1 w.params) ?_ ?_; k_is; kernel_rfl))
      (case k2 => (refine Rc.v_keepIn (K1 := PySem.Challenge.cw_recutfigures_s05_sizes_holds.heap_1 w.params) ?_ ?_; k_is; kernel_rfl))
      (case a3 => (refine Rc.v_nsIn (K1 := PySem.Challenge.cw_recutfigures_s05_sizes_holds.heap_1 w.params) ?_ ?_; k_is; kernel_rfl))
      (case l3 => (refine Rc.v_lookup (K1 := PySem.Challenge.cw_recutfigures_s05_sizes_holds.heap_1 w.params) ?_ ?_; k_is; kernel_rfl))
      (case c3 => (refine Rc.v_codeIn (K1 := PySem.Challenge.cw_recutfigures_s05_sizes_holds.heap_1 w.params) ?_ ?_; k_is; kernel_rfl))
      (case k3 => (refine Rc.v_keepIn (K1 := PySem.Challenge.cw_recutfigures_s05_sizes_holds.heap_1 w.params) ?_ ?_; k_is; kernel_rfl))
      (case a4 => (refine Rc.v_nsIn (K1 := PySem.Challenge.cw_recutfigures_s05_sizes_holds.heap_1 w.params) ?_ ?_; k_is; kernel_rfl))
      (case l4 => (refine Rc.v_lookup (K1 := PySem.Challenge.cw_recutfigures_s05_sizes_holds.heap_1 w.params) ?_ ?_; k_is; kernel_rfl))
      (case c4 => (refine Rc.v_codeIn (K1 := PySem.Challenge.cw_recutfigures_s05_sizes_holds.heap_1 w.params) ?_ ?_; k_is; kernel_rfl))
      (case k4 => (refine Rc.v_keepIn (K1 := PySem.Challenge.cw_recutfigures_s05_sizes_holds.heap_1 w.params) ?_ ?_; k_is; kernel_rfl))
      (case a5 => (refine Rc.v_nsIn (K1 := PySem.Challenge.cw_recutfigures_s05_sizes_holds.heap_1 w.params) ?_ ?_; k_is; kernel_rfl))
      (case l5 => (refine Rc.v_lookup (K1 := PySem.Challenge.cw_recutfigures_s05_sizes_holds.heap_1 w.params) ?_ ?_; k_is; kernel_rfl))
      (case c5 => (refine Rc.v_codeIn (K1 := PySem.Challenge.cw_recutfigures_s05_sizes_holds.heap_1 w.params) ?_ ?_; k_is; kernel_rfl))
      (case k5 => (refine Rc.v_keepIn (K1 := PySem.Challenge.cw_recutfigures_s05_sizes_holds.heap_1 w.params) ?_ ?_; k_is; kernel_rfl))
      (case a6 => (refine Rc.v_nsIn (K1 := PySem.Challenge.cw_recutfigures_s05_sizes_holds.heap_1 w.params) ?_ ?_; k_is; kernel_rfl))
      (case l6 => (refine Rc.v_lookup (K1 := PySem.Challenge.cw_recutfigures_s05_sizes_holds.heap_1 w.params) ?_ ?_; k_is; kernel_rfl))
      (case c6 => (refine Rc.v_codeIn (K1 := PySem.Challenge.cw_recutfigures_s05_sizes_holds.heap_1 w.params) ?_ ?_; k_is; kernel_rfl))
      (case k6 => (refine Rc.v_keepIn (K1 := PySem.Challenge.cw_recutfigures_s05_sizes_holds.heap_1 w.params) ?_ ?_; k_is; kernel_rfl))
      (case a7 => (refine Rc.v_nsIn (K1 := PySem.Challenge.cw_recutfigures_s05_sizes_holds.heap_1 w.params) ?_ ?_; k_is; kernel_rfl))
      (case l7 => (refine Rc.v_lookup (K1 := PySem.Challenge.cw_recutfigures_s05_sizes_holds.heap_1 w.params) ?_ ?_; k_is; kernel_rfl))
      (case c7 => (refine Rc.v_codeIn (K1 := PySem.Challenge.cw_recutfigures_s05_sizes_holds.heap_1 w.params) ?_ ?_; k_is; kernel_rfl))
      (case k7 => (refine Rc.v_keepIn (K1 := PySem.Challenge.cw_recutfigures_s05_sizes_holds.heap_1 w.params) ?_ ?_; k_is; kernel_rfl))
      (case a8 => (refine Rc.v_nsIn (K1 := PySem.Challenge.cw_recutfigures_s05_sizes_holds.heap_1 w.params) ?_ ?_; k_is; kernel_rfl))
      (case l8 => (refine Rc.v_lookup (K1 := PySem.Challenge.cw_recutfigures_s05_sizes_holds.heap_1 w.params) ?_ ?_; k_is; kernel_rfl))
      (case c8 => (refine Rc.v_codeIn (K1 := PySem.Challenge.cw_recutfigures_s05_sizes_holds.heap_1 w.params) ?_ ?_; k_is; kernel_rfl))
      (case k8 => (refine Rc.v_keepIn (K1 := PySem.Challenge.cw_recutfigures_s05_sizes_holds.heap_1 w.params) ?_ ?_; k_is; kernel_rfl))
      (case a9 => (refine Rc.v_nsIn (K1 := PySem.Challenge.cw_recutfigures_s05_sizes_holds.heap_1 w.params) ?_ ?_; k_is; kernel_rfl))
      (case l9 => (refine Rc.v_lookup (K1 := PySem.Challenge.cw_recutfigures_s05_sizes_holds.heap_1 w.params) ?_ ?_; k_is; kernel_rfl))
      (case c9 => (refine Rc.v_codeIn (K1 := PySem.Challenge.cw_recutfigures_s05_sizes_holds.heap_1 w.params) ?_ ?_; k_is; kernel_rfl))
      (case k9 => (refine Rc.v_keepIn (K1 := PySem.Challenge.cw_recutfigures_s05_sizes_holds.heap_1 w.params) ?_ ?_; k_is; kernel_rfl))
      (case a10 => (refine Rc.v_nsIn (K1 := PySem.Challenge.cw_recutfigures_s05_sizes_holds.heap_1 w.params) ?_ ?_; k_is; kernel_rfl))
      (case l10 => (refine Rc.v_lookup (K1 := PySem.Challenge.cw_recutfigures_s05_sizes_holds.heap_1 w.params) ?_ ?_; k_is; kernel_rfl))
      (case c10 => (refine Rc.v_codeIn (K1 := PySem.Challenge.cw_recutfigures_s05_sizes_holds.heap_1 w.params) ?_ ?_; k_is; kernel_rfl))
      (case k10 => (refine Rc.v_keepIn (K1 := PySem.Challenge.cw_recutfigures_s05_sizes_holds.heap_1 w.params) ?_ ?_; k_is; kernel_rfl))
      (case a11 => (refine Rc.v_nsIn (K1 := PySem.Challenge.cw_recutfigures_s05_sizes_holds.heap_1 w.params) ?_ ?_; k_is; kernel_rfl))
      (case l11 => (refine Rc.v_lookup (K1 := PySem.Challenge.cw_recutfigures_s05_sizes_holds.heap_1 w.params) ?_ ?_; k_is; kernel_rfl))
      (case c11 => (refine Rc.v_codeIn (K1 := PySem.Challenge.cw_recutfigures_s05_sizes_holds.heap_1 w.params) ?_ ?_; k_is; kernel_rfl))
      (case k11 => (refine Rc.v_keepIn (K1 := PySem.Challenge.cw_recutfigures_s05_sizes_holds.heap_1 w.params) ?_ ?_; k_is; kernel_rfl))
      (case a12 => (refine Rc.v_nsIn (K1 := PySem.Challenge.cw_recutfigures_s05_sizes_holds.heap_1 w.params) ?_ ?_; k_is; kernel_rfl))
      (case l12 => (refine Rc.v_lookup (K1 := PySem.Challenge.cw_recutfigures_s05_sizes_holds.heap_1 w.params) ?_ ?_; k_is; kernel_rfl))
      (case c12 => (refine Rc.v_codeIn (K1 := PySem.Challenge.cw_recutfigures_s05_sizes_holds.heap_1 w.params) ?_ ?_; k_is; kernel_rfl))
      (case k12 => (refine Rc.v_keepIn (K1 := PySem.Challenge.cw_recutfigures_s05_sizes_holds.heap_1 w.params) ?_ ?_; k_is; kernel_rfl))
      (case a13 => (refine Rc.v_findIn (K1 := PySem.Challenge.cw_recutfigures_s05_sizes_holds.heap_1 w.params) ?_ ?_; k_is; kernel_rfl))
      (case i13 => (refine Rc.v_isFn (K1 := PySem.Challenge.cw_recutfigures_s05_sizes_holds.heap_1 w.params) ?_ ?_; k_is; kernel_rfl))
      (case l13 => (refine Rc.v_lookup (K1 := PySem.Challenge.cw_recutfigures_s05_sizes_holds.heap_1 w.params) ?_ ?_; k_is; kernel_rfl))
      (case c13 => (refine Rc.v_codeIn (K1 := PySem.Challenge.cw_recutfigures_s05_sizes_holds.heap_1 w.params) ?_ ?_; k_is; kernel_rfl))
      (case k13 => (refine Rc.v_keepIn (K1 := PySem.Challenge.cw_recutfigures_s05_sizes_holds.heap_1 w.params) ?_ ?_; k_is; kernel_rfl))
      (case a14 => (refine Rc.v_nsIn (K1 := PySem.Challenge.cw_recutfigures_s05_sizes_holds.heap_1 w.params) ?_ ?_; k_is; kernel_rfl))
      (case l14 => (refine Rc.v_lookup (K1 := PySem.Challenge.cw_recutfigures_s05_sizes_holds.heap_1 w.params) ?_ ?_; k_is; kernel_rfl))
      (case c14 => (refine Rc.v_codeIn (K1 := PySem.Challenge.cw_recutfigures_s05_sizes_holds.heap_1 w.params) ?_ ?_; k_is; kernel_rfl))
      (case k14 => (refine Rc.v_keepIn (K1 := PySem.Challenge.cw_recutfigures_s05_sizes_holds.heap_1 w.params) ?_ ?_; k_is; kernel_rfl))
      (case a15 => (refine Rc.v_nsIn (K1 := PySem.Challenge.cw_recutfigures_s05_sizes_holds.heap_1 w.params) ?_ ?_; k_is; kernel_rfl))
      (case l15 => (refine Rc.v_lookup (K1 := PySem.Challenge.cw_recutfigures_s05_sizes_holds.heap_1 w.params) ?_ ?_; k_is; kernel_rfl))
      (case c15 => (refine Rc.v_codeIn (K1 := PySem.Challenge.cw_recutfigures_s05_sizes_holds.heap_1 w.params) ?_ ?_; k_is; kernel_rfl))
      (case k15 => (refine Rc.v_keepIn (K1 := PySem.Challenge.cw_recutfigures_s05_sizes_holds.heap_1 w.params) ?_ ?_; k_is; kernel_rfl))
      (case a16 => (refine Rc.v_nsIn (K1 := PySem.Challenge.cw_recutfigures_s05_sizes_holds.heap_1 w.params) ?_ ?_; k_is; kernel_rfl))
      (case l16 => (refine Rc.v_lookup (K1 := PySem.Challenge.cw_recutfigures_s05_sizes_holds.heap_1 w.params) ?_ ?_; k_is; kernel_rfl))
      (case c16 => (refine Rc.v_codeIn (K1 := PySem.Challenge.cw_recutfigures_s05_sizes_holds.heap_1 w.params) ?_ ?_; k_is; kernel_rfl))
      (case k16 => (refine Rc.v_keepIn (K1 := PySem.Challenge.cw_recutfigures_s05_sizes_holds.heap_1 w.params) ?_ ?_; k_is; kernel_rfl))
      (case a17 => (refine Rc.v_nsIn (K1 := PySem.Challenge.cw_recutfigures_s05_sizes_holds.heap_1 w.params) ?_ ?_; k_is; kernel_rfl))
      (case l17 => (refine Rc.v_lookup (K1 := PySem.Challenge.cw_recutfigures_s05_sizes_holds.heap_1 w.params) ?_ ?_; k_is; kernel_rfl))
      (case c17 => (refine Rc.v_codeIn (K1 := PySem.Challenge.cw_recutfigures_s05_sizes_holds.heap_1 w.params) ?_ ?_; k_is; kernel_rfl))
      (case k17 => (refine Rc.v_keepIn (K1 := PySem.Challenge.cw_recutfigures_s05_sizes_holds.heap_1 w.params) ?_ ?_; k_is; kernel_rfl))
      (case a18 => (refine Rc.v_findIn (K1 := PySem.Challenge.cw_recutfigures_s05_sizes_holds.heap_1 w.params) ?_ ?_; k_is; kernel_rfl))
      (case i18 => (refine Rc.v_isFn (K1 := PySem.Challenge.cw_recutfigures_s05_sizes_holds.heap_1 w.params) ?_ ?_; k_is; kernel_rfl))
      (case l18 => (refine Rc.v_lookup (K1 := PySem.Challenge.cw_recutfigures_s05_sizes_holds.heap_1 w.params) ?_ ?_; k_is; kernel_rfl))
      (case c18 => (refine Rc.v_codeIn (K1 := PySem.Challenge.cw_recutfigures_s05_sizes_holds.heap_1 w.params) ?_ ?_; k_is; kernel_rfl))
      (case k18 => (refine Rc.v_keepIn (K1 := PySem.Challenge.cw_recutfigures_s05_sizes_holds.heap_1 w.params) ?_ ?_; k_is; kernel_rfl))
      (case a19 => (refine Rc.v_nsIn (K1 := PySem.Challenge.cw_recutfigures_s05_sizes_holds.heap_1 w.params) ?_ ?_; k_is; kernel_rfl))
      (case l19 => (refine Rc.v_lookup (K1 := PySem.Challenge.cw_recutfigures_s05_sizes_holds.heap_1 w.params) ?_ ?_; k_is; kernel_rfl))
      (case c19 => (refine Rc.v_codeIn (K1 := PySem.Challenge.cw_recutfigures_s05_sizes_holds.heap_1 w.params) ?_ ?_; k_is; kernel_rfl))
      (case k19 => (refine Rc.v_keepIn (K1 := PySem.Challenge.cw_recutfigures_s05_sizes_holds.heap_1 w.params) ?_ ?_; k_is; kernel_rfl))
      (case a20 => (refine Rc.v_nsIn (K1 := PySem.Challenge.cw_recutfigures_s05_sizes_holds.heap_1 w.params) ?_ ?_; k_is; kernel_rfl))
      (case l20 => (refine Rc.v_lookup (K1 := PySem.Challenge.cw_recutfigures_s05_sizes_holds.heap_1 w.params) ?_ ?_; k_is; kernel_rfl))
      (case c20 => (refine Rc.v_codeIn (K1 := PySem.Challenge.cw_recutfigures_s05_sizes_holds.heap_1 w.params) ?_ ?_; k_is; kernel_rfl))
      (case k20 => (refine Rc.v_keepIn (K1 := PySem.Challenge.cw_recutfigures_s05_sizes_holds.heap_1 w.params) ?_ ?_; k_is; kernel_rfl))
      (case a21 => (refine Rc.v_nsIn (K1 := PySem.Challenge.cw_recutfigures_s05_sizes_holds.heap_1 w.params) ?_ ?_; k_is; kernel_rfl))
      (case l21 => (refine Rc.v_lookup (K1 := PySem.Challenge.cw_recutfigures_s05_sizes_holds.heap_1 w.params) ?_ ?_; k_is; kernel_rfl))
      (case c21 => (refine Rc.v_codeIn (K1 := PySem.Challenge.cw_recutfigures_s05_sizes_holds.heap_1 w.params) ?_ ?_; k_is; kernel_rfl))
      (case k21 => (refine Rc.v_keepIn (K1 := PySem.Challenge.cw_recutfigures_s05_sizes_holds.heap_1 w.params) ?_ ?_; k_is; kernel_rfl))
      (case a22 => (refine Rc.v_nsIn (K1 := PySem.Challenge.cw_recutfigures_s05_sizes_holds.heap_1 w.params) ?_ ?_; k_is; kernel_rfl))
      (case l22 => (refine Rc.v_lookup (K1 := PySem.Challenge.cw_recutfigures_s05_sizes_holds.heap_1 w.params) ?_ ?_; k_is; kernel_rfl))
      (case c22 => (refine Rc.v_codeIn (K1 := PySem.Challenge.cw_recutfigures_s05_sizes_holds.heap_1 w.params) ?_ ?_; k_is; kernel_rfl))
      (case k22 => (refine Rc.v_keepIn (K1 := PySem.Challenge.cw_recutfigures_s05_sizes_holds.heap_1 w.params) ?_ ?_; k_is; kernel_rfl))
      (case a23 => (refine Rc.v_nsIn (K1 := PySem.Challenge.cw_recutfigures_s05_sizes_holds.heap_1 w.params) ?_ ?_; k_is; kernel_rfl))
      (case l23 => (refine Rc.v_lookup (K1 := PySem.Challenge.cw_recutfigures_s05_sizes_holds.heap_1 w.params) ?_ ?_; k_is; kernel_rfl))
      (case c23 => (refine Rc.v_codeIn (K1 := PySem.Challenge.cw_recutfigures_s05_sizes_holds.heap_1 w.params) ?_ ?_; k_is; kernel_rfl))
      (case k23 => (refine Rc.v_keepIn (K1 := PySem.Challenge.cw_recutfigures_s05_sizes_holds.heap_1 w.params) ?_ ?_; k_is; kernel_rfl))
      (case a24 => (refine Rc.v_nsIn (K1 := PySem.Challenge.cw_recutfigures_s05_sizes_holds.heap_1 w.params) ?_ ?_; k_is; kernel_rfl))
      (case l24 => (refine Rc.v_lookup (K1 := PySem.Challenge.cw_recutfigures_s05_sizes_holds.heap_1 w.params) ?_ ?_; k_is; kernel_rfl))
      (case c24 => (refine Rc.v_codeIn (K1 := PySem.Challenge.cw_recutfigures_s05_sizes_holds.heap_1 w.params) ?_ ?_; k_is; kernel_rfl))
      (case k24 => (refine Rc.v_keepIn (K1 := PySem.Challenge.cw_recutfigures_s05_sizes_holds.heap_1 w.params) ?_ ?_; k_is; kernel_rfl))
      (case a25 => (refine Rc.v_nsIn (K1 := PySem.Challenge.cw_recutfigures_s05_sizes_holds.heap_1 w.params) ?_ ?_; k_is; kernel_rfl))
      (case l25 => (refine Rc.v_lookup (K1 := PySem.Challenge.cw_recutfigures_s05_sizes_holds.heap_1 w.params) ?_ ?_; k_is; kernel_rfl))
      (case c25 => (refine Rc.v_codeIn (K1 := PySem.Challenge.cw_recutfigures_s05_sizes_holds.heap_1 w.params) ?_ ?_; k_is; kernel_rfl))
      (case k25 => (refine Rc.v_keepIn (K1 := PySem.Challenge.cw_recutfigures_s05_sizes_holds.heap_1 w.params) ?_ ?_; k_is; kernel_rfl))
      (case a26 => (refine Rc.v_nsIn (K1 := PySem.Challenge.cw_recutfigures_s05_sizes_holds.heap_1 w.params) ?_ ?_; k_is; kernel_rfl))
      (case l26 => (refine Rc.v_lookup (K1 := PySem.Challenge.cw_recutfigures_s05_sizes_holds.heap_1 w.params) ?_ ?_; k_is; kernel_rfl))
      (case c26 => (refine Rc.v_codeIn (K1 := PySem.Challenge.cw_recutfigures_s05_sizes_holds.heap_1 w.params) ?_ ?_; k_is; kernel_rfl))
      (case k26 => (refine Rc.v_keepIn (K1 := PySem.Challenge.cw_recutfigures_s05_sizes_holds.heap_1 w.params) ?_ ?_; k_is; kernel_rfl))
      (case pg_Piece => (refine Rc.v_plainGet (K1 := PySem.Challenge.cw_recutfigures_s05_sizes_holds.heap_1 w.params) ?_ ?_; k_is; kernel_rfl))
      (case hd_Piece => (refine Rc.v_hasDictIn (K1 := PySem.Challenge.cw_recutfigures_s05_sizes_holds.heap_1 w.params) ?_ ?_; k_is; kernel_rfl))
      (case po_Piece => (refine Rc.v_plainOver (K1 := PySem.Challenge.cw_recutfigures_s05_sizes_holds.heap_1 w.params) ?_ ?_; k_is; kernel_rfl))
      (case sa_Piece => (refine Rc.v_findIn (K1 := PySem.Challenge.cw_recutfigures_s05_sizes_holds.heap_1 w.params) ?_ ?_; k_is; kernel_rfl))
      (case mk_Piece => (refine Rc.v_makesIn (K1 := PySem.Challenge.cw_recutfigures_s05_sizes_holds.heap_1 w.params) ?_ ?_; k_is; kernel_rfl))
      (case kc_Piece => (refine Rc.v_keepIn (K1 := PySem.Challenge.cw_recutfigures_s05_sizes_holds.heap_1 w.params) ?_ ?_; k_is; kernel_rfl))
      (case pg_Part => (refine Rc.v_plainGet (K1 := PySem.Challenge.cw_recutfigures_s05_sizes_holds.heap_1 w.params) ?_ ?_; k_is; kernel_rfl))
      (case hd_Part => (refine Rc.v_hasDictIn (K1 := PySem.Challenge.cw_recutfigures_s05_sizes_holds.heap_1 w.params) ?_ ?_; k_is; kernel_rfl))
      (case po_Part => (refine Rc.v_plainOver (K1 := PySem.Challenge.cw_recutfigures_s05_sizes_holds.heap_1 w.params) ?_ ?_; k_is; kernel_rfl))
      (case sa_Part => (refine Rc.v_findIn (K1 := PySem.Challenge.cw_recutfigures_s05_sizes_holds.heap_1 w.params) ?_ ?_; k_is; kernel_rfl))
      (case mk_Part => (refine Rc.v_makesIn (K1 := PySem.Challenge.cw_recutfigures_s05_sizes_holds.heap_1 w.params) ?_ ?_; k_is; kernel_rfl))
      (case kc_Part => (refine Rc.v_keepIn (K1 := PySem.Challenge.cw_recutfigures_s05_sizes_holds.heap_1 w.params) ?_ ?_; k_is; kernel_rfl))
      (case n_corners => (refine Rc.v_findIn (K1 := PySem.Challenge.cw_recutfigures_s05_sizes_holds.heap_1 w.params) ?_ ?_; k_is; kernel_rfl))
      (case n_bounds => (refine Rc.v_findIn (K1 := PySem.Challenge.cw_recutfigures_s05_sizes_holds.heap_1 w.params) ?_ ?_; k_is; kernel_rfl))
      (case n_piece => (refine Rc.v_findIn (K1 := PySem.Challenge.cw_recutfigures_s05_sizes_holds.heap_1 w.params) ?_ ?_; k_is; kernel_rfl))
      (case n_move => (refine Rc.v_findIn (K1 := PySem.Challenge.cw_recutfigures_s05_sizes_holds.heap_1 w.params) ?_ ?_; k_is; kernel_rfl))
      (case b_len => (refine Rc.v_nsIn (K1 := PySem.Challenge.cw_recutfigures_s05_sizes_holds.heap_1 w.params) ?_ ?_; k_is; kernel_rfl))
      (case b_abs => (refine Rc.v_nsIn (K1 := PySem.Challenge.cw_recutfigures_s05_sizes_holds.heap_1 w.params) ?_ ?_; k_is; kernel_rfl))
      (case b_all => (refine Rc.v_nsIn (K1 := PySem.Challenge.cw_recutfigures_s05_sizes_holds.heap_1 w.params) ?_ ?_; k_is; kernel_rfl))
      (case b_range => (refine Rc.v_nsIn (K1 := PySem.Challenge.cw_recutfigures_s05_sizes_holds.heap_1 w.params) ?_ ?_; k_is; kernel_rfl))
      (case b_enumerate => (refine Rc.v_nsIn (K1 := PySem.Challenge.cw_recutfigures_s05_sizes_holds.heap_1 w.params) ?_ ?_; k_is; kernel_rfl))
      (case b_list => (refine Rc.v_nsIn (K1 := PySem.Challenge.cw_recutfigures_s05_sizes_holds.heap_1 w.params) ?_ ?_; k_is; kernel_rfl))
      (case v_MOST_PARTS => (refine Rc.v_nsIn (K1 := PySem.Challenge.cw_recutfigures_s05_sizes_holds.heap_1 w.params) ?_ ?_; k_is; kernel_rfl))
      (case v_NOT_AS_TOLD => (refine Rc.v_nsIn (K1 := PySem.Challenge.cw_recutfigures_s05_sizes_holds.heap_1 w.params) ?_ ?_; k_is; kernel_rfl))
      (case v_TOO_MUCH => (refine Rc.v_nsIn (K1 := PySem.Challenge.cw_recutfigures_s05_sizes_holds.heap_1 w.params) ?_ ?_; k_is; kernel_rfl))
      (case v_LEAST_CORNERS => (refine Rc.v_nsIn (K1 := PySem.Challenge.cw_recutfigures_s05_sizes_holds.heap_1 w.params) ?_ ?_; k_is; kernel_rfl))
      (case v_MOST_CORNERS => (refine Rc.v_nsIn (K1 := PySem.Challenge.cw_recutfigures_s05_sizes_holds.heap_1 w.params) ?_ ?_; k_is; kernel_rfl))
      (case v_MOVE_NUMBERS => (refine Rc.v_nsIn (K1 := PySem.Challenge.cw_recutfigures_s05_sizes_holds.heap_1 w.params) ?_ ?_; k_is; kernel_rfl))
      (case v_ZERO => (refine Rc.v_nsIn (K1 := PySem.Challenge.cw_recutfigures_s05_sizes_holds.heap_1 w.params) ?_ ?_; k_is; kernel_rfl))
      (case l_ZERO => (refine Rc.v_lookup (K1 := PySem.Challenge.cw_recutfigures_s05_sizes_holds.heap_1 w.params) ?_ ?_; k_is; kernel_rfl))
      (case v_HALF => (refine Rc.v_nsIn (K1 := PySem.Challenge.cw_recutfigures_s05_sizes_holds.heap_1 w.params) ?_ ?_; k_is; kernel_rfl))
      (case l_HALF => (refine Rc.v_lookup (K1 := PySem.Challenge.cw_recutfigures_s05_sizes_holds.heap_1 w.params) ?_ ?_; k_is; kernel_rfl))
    exact ⟨fd, h1, fun base hK hG => h2 base hK (hS _ base KX hK) hG⟩
  case S =>
    intro K H xs a hO hwi hask hx
    cases hx with
    | cons h1 h2 =>
      cases h2
      cases h1 with
      | lst hs ha =>
        have e := L2.ints_dw a.1 _ ha
        subst e
        have q : ((Codec.inLen 0 4000 a.1 && a.1.all (Codec.inInt (-115792089237316195423570985008687907853269984665640564039457584007913129639935) 115792089237316195423570985008687907853269984665640564039457584007913129639935)) && true) = true := hwi
        rw [Bool.and_eq_true, Bool.and_eq_true] at q
        have hlen : a.1.length ≤ 4000 := (Codec.inNat_iff.mp q.1.1).2
        have hb : ∀ x ∈ a.1, x.natAbs < 2 ^ 256 := fun x hx => Rc.in256 (List.all_eq_true.mp q.1.2 x hx)
        refine ⟨_, _, H, ⟨a.1, ⟨hlen, hb⟩, rfl, rfl⟩, fun _ _ h => h, ⟨⟨_, _, rfl, hs, Rc.Al.map (fun _ => rfl) _⟩, trivial⟩, fun v G2 H2 st hv => ?_⟩
        obtain ⟨p, vs, rfl, hp, al⟩ := hv
        have ev := Rc.al_int al
        subst ev
        have e : PyKzq3.sizes a.1 = Rc.sizesF a.1 := Rc.sizes_is a.1
        show L2.Dw K H2 (.ref p) (WData.list ((PyKzq3.sizes a.1).map WData.int))
        rw [e]
        exact .lst (L2.SqL.of (st.i p _ hp)) (L2.dw_ints _)
#print axioms PySem.Challenge.cw_recutfigures_s05_sizes_holds
